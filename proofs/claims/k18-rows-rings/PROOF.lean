import PyProof.Rows.All
import Wide.All
import OpenK.AllK
import Wide.FinOn
import HandS.ForMost
import HandS.DictComp
import HandS.SortInts
import HandS.TupSets
import HandS.TupAny
import HandS.TupMul
import HandS.TupLen
import HandS.TupLe
import HandS.Small
import HandS.Strs
import HandS.IsInst
import HandS.Wide
import HandS.WideMore
import HandS.Flow
import HandS.Style
import HandS.RaiseOp
import HandS.Deep
import HandS.Defaults
import HandS.ForExc
import KE.GoesEnum
import HandS.Zip
import HandS.SortOrd
import HandS.Words
import HandS.Codes
import KE.KStateDown
import Lean
import HandS.Ends
import HandS.More
import HandS.WordsExc
import HandS.Head0
import HandS.Head1
import HandS.Head2
import HandS.HeadEnd
import HandS.HeadHook1
import HandS.HeadHook2
import PySem.Challenge.RW_rolledtrue_k18_rows_rings
set_option Elab.async false
set_option linter.all false
set_option maxRecDepth 100000
set_option maxHeartbeats 0
set_option Elab.async false
set_option linter.all false
set_option maxRecDepth 100000
/-! Rt0: values, syntax, evaluator. -/
namespace Rt

/-! ### pure data -/
inductive D where
  | non | bl (b : Bool) | int (i : Int) | str (s : List Nat)
  | tup (xs : List D) | fl (xs : List D) | sc (xs : List D) | fd (t : Bool) (kvs : List (D × D)) | fi (c : Nat) (fs : List (Nat × D))

/-- what a slot holds: pure data, or a tree that the slot owns -/
inductive PV where
  | un
  | d (x : D)
  | ol (xs : List D)
  | od (t : Bool) (kvs : List (D × D))
  | oi (c : Nat) (fs : List (Nat × PV))
  | on (xs : List PV)
  | odn (t : Bool) (kvs : List (D × PV))
  | tp (xs : List PV)

instance : Inhabited D := ⟨.non⟩
instance : Inhabited PV := ⟨.un⟩

mutual
def D.beq : D → D → Bool
  | .non, .non => true
  | .bl a, .bl b => a == b
  | .int a, .int b => a == b
  | .str a, .str b => a == b
  | .tup xs, .tup ys => beqL xs ys
  | .fl xs, .fl ys => beqL xs ys
  | .sc xs, .sc ys => beqL xs ys
  | .fd t xs, .fd u ys => t == u && beqK xs ys
  | .fi c xs, .fi e ys => c == e && beqF xs ys
  | _, _ => false
termination_by structural x => x
def beqL : List D → List D → Bool
  | [], [] => true
  | x :: xs, y :: ys => D.beq x y && beqL xs ys
  | _, _ => false
termination_by structural x => x
def beqK : List (D × D) → List (D × D) → Bool
  | [], [] => true
  | (a, x) :: xs, (b, y) :: ys => D.beq a b && D.beq x y && beqK xs ys
  | _, _ => false
termination_by structural x => x
def beqF : List (Nat × D) → List (Nat × D) → Bool
  | [], [] => true
  | (a, x) :: xs, (b, y) :: ys => a == b && D.beq x y && beqF xs ys
  | _, _ => false
termination_by structural x => x
end

mutual
theorem D.beq_eq : ∀ (a b : D), D.beq a b = true → a = b
  | .non, b, h => by cases b <;> first | rfl | (simp [D.beq] at h; done)
  | .bl x, b, h => by
    cases b <;> first | (simp [D.beq] at h; done) | skip
    rw [eq_of_beq (show (x == _) = true from h)]
  | .int x, b, h => by
    cases b <;> first | (simp [D.beq] at h; done) | skip
    rw [eq_of_beq (show (x == _) = true from h)]
  | .str x, b, h => by
    cases b <;> first | (simp [D.beq] at h; done) | skip
    rw [eq_of_beq (show (x == _) = true from h)]
  | .tup x, b, h => by
    cases b <;> first | (simp [D.beq] at h; done) | skip
    rw [beqL_eq x _ h]
  | .fl x, b, h => by
    cases b <;> first | (simp [D.beq] at h; done) | skip
    rw [beqL_eq x _ h]
  | .sc x, b, h => by
    cases b <;> first | (simp [D.beq] at h; done) | skip
    rw [beqL_eq x _ h]
  | .fd t x, b, h => by
    cases b <;> first | (simp [D.beq] at h; done) | skip
    have h' := Bool.and_eq_true_iff.mp (show (t == _ && beqK x _) = true from h)
    rw [eq_of_beq h'.1, beqK_eq x _ h'.2]
  | .fi c x, b, h => by
    cases b <;> first | (simp [D.beq] at h; done) | skip
    have h' := Bool.and_eq_true_iff.mp (show (c == _ && beqF x _) = true from h)
    rw [eq_of_beq h'.1, beqF_eq x _ h'.2]
theorem beqL_eq : ∀ (a b : List D), beqL a b = true → a = b
  | [], [], _ => rfl
  | [], _ :: _, h => by simp [beqL] at h
  | _ :: _, [], h => by simp [beqL] at h
  | x :: xs, y :: ys, h => by
    have h' := Bool.and_eq_true_iff.mp (show (D.beq x y && beqL xs ys) = true from h)
    rw [D.beq_eq x y h'.1, beqL_eq xs ys h'.2]
theorem beqK_eq : ∀ (a b : List (D × D)), beqK a b = true → a = b
  | [], [], _ => rfl
  | [], _ :: _, h => by simp [beqK] at h
  | _ :: _, [], h => by simp [beqK] at h
  | (k, x) :: xs, (l, y) :: ys, h => by
    have h' := Bool.and_eq_true_iff.mp (show (D.beq k l && D.beq x y && beqK xs ys) = true from h)
    have h2 := Bool.and_eq_true_iff.mp h'.1
    rw [D.beq_eq k l h2.1, D.beq_eq x y h2.2, beqK_eq xs ys h'.2]
theorem beqF_eq : ∀ (a b : List (Nat × D)), beqF a b = true → a = b
  | [], [], _ => rfl
  | [], _ :: _, h => by simp [beqF] at h
  | _ :: _, [], h => by simp [beqF] at h
  | (k, x) :: xs, (l, y) :: ys, h => by
    have h' := Bool.and_eq_true_iff.mp (show (k == l && D.beq x y && beqF xs ys) = true from h)
    have h2 := Bool.and_eq_true_iff.mp h'.1
    rw [eq_of_beq h2.1, D.beq_eq x y h2.2, beqF_eq xs ys h'.2]
end
mutual
theorem D.beq_self : ∀ (a : D), D.beq a a = true
  | .non => rfl
  | .bl x => beq_self_eq_true x
  | .int x => beq_self_eq_true x
  | .str x => beq_self_eq_true x
  | .tup x => beqL_self x
  | .fl x => beqL_self x
  | .sc x => beqL_self x
  | .fd t x => by
    show (t == t && beqK x x) = true
    rw [beq_self_eq_true, beqK_self x]
    rfl
  | .fi t x => by
    show (t == t && beqF x x) = true
    rw [beq_self_eq_true, beqF_self x]
    rfl
theorem beqL_self : ∀ (a : List D), beqL a a = true
  | [] => rfl
  | x :: xs => by
    show (D.beq x x && beqL xs xs) = true
    rw [D.beq_self x, beqL_self xs]
    rfl
theorem beqK_self : ∀ (a : List (D × D)), beqK a a = true
  | [] => rfl
  | (k, x) :: xs => by
    show (D.beq k k && D.beq x x && beqK xs xs) = true
    rw [D.beq_self k, D.beq_self x, beqK_self xs]
    rfl
theorem beqF_self : ∀ (a : List (Nat × D)), beqF a a = true
  | [] => rfl
  | (k, x) :: xs => by
    show (k == k && D.beq x x && beqF xs xs) = true
    rw [beq_self_eq_true, D.beq_self x, beqF_self xs]
    rfl
end
theorem D.beq_iff {a b : D} : D.beq a b = true ↔ a = b := ⟨D.beq_eq a b, fun h => by rw [h]; exact D.beq_self b⟩
theorem D.beq_ff {a b : D} : D.beq a b = false ↔ a ≠ b := by
  constructor
  · intro h e
    rw [e, D.beq_self] at h
    cases h
  · intro h
    cases q : D.beq a b with
    | false => rfl
    | true => exact absurd (D.beq_eq a b q) h
instance : DecidableEq D := fun a b => if h : D.beq a b = true then isTrue (D.beq_eq a b h) else isFalse fun e => h (by rw [e]; exact D.beq_self b)

/-- Python's == (True is 1 there) -/
def b2I (b : Bool) : Int := if b then 1 else 0
mutual
def D.eqv : D → D → Bool
  | .non, .non => true
  | .bl a, .bl b => a == b
  | .bl a, .int b => b2I a == b
  | .int a, .bl b => a == b2I b
  | .int a, .int b => a == b
  | .str a, .str b => a == b
  | .tup xs, .tup ys => eqvL xs ys
  | .fl xs, .fl ys => eqvL xs ys
  | _, _ => false
def eqvL : List D → List D → Bool
  | [], [] => true
  | x :: xs, y :: ys => D.eqv x y && eqvL xs ys
  | _, _ => false
end
/-! data that == is asked of: no dict, no instance, at most sixty deep -/
mutual
def D.lay : D → Bool
  | .fd _ _ => false
  | .fi _ _ => false
  | .sc _ => false
  | .str s => s.all (· < 1114112)
  | .tup xs => layL xs
  | .fl xs => layL xs
  | _ => true
def layL : List D → Bool
  | [] => true
  | x :: xs => D.lay x && layL xs
end
mutual
def D.dep : D → Nat
  | .tup xs => depL xs + 1
  | .fl xs => depL xs + 1
  | _ => 0
def depL : List D → Nat
  | [] => 0
  | x :: xs => max (D.dep x) (depL xs)
end
def D.plain (x : D) : Bool := D.lay x && decide (D.dep x ≤ 60)
def plainL (xs : List D) : Bool := layL xs && decide (depL xs ≤ 60)
def flat : D → Bool
  | .non => true
  | .bl _ => true
  | .int _ => true
  | .str _ => true
  | _ => false
def cmpI (a b : Int) : Ordering := if a < b then .lt else if a = b then .eq else .gt
def cmpS : List Nat → List Nat → Ordering
  | [], [] => .eq
  | [], _ :: _ => .lt
  | _ :: _, [] => .gt
  | a :: x, b :: y => if a < b then .lt else if a = b then cmpS x y else .gt
/-! order: ints, texts, tuples of such at any depth -/
mutual
def D.cmp : D → D → Option Ordering
  | .int a, .int b => some (cmpI a b)
  | .str a, .str b => some (cmpS a b)
  | .tup xs, .tup ys => cmpL xs ys
  | .non, .non => some .eq
  | _, _ => none
def cmpL : List D → List D → Option Ordering
  | [], [] => some .eq
  | [], _ :: _ => some .lt
  | _ :: _, [] => some .gt
  | x :: xs, y :: ys => match D.cmp x y with
    | some .eq => cmpL xs ys
    | r => r
end
def D.le (a b : D) : Bool := match D.cmp a b with
  | some .gt => false
  | _ => true
def ordAll (xs : List D) : Bool := xs.all fun x => xs.all fun y => (D.cmp x y).isSome

/-! ### freezing, reading -/
mutual
def frz : PV → Option D
  | .un => none
  | .d x => some x
  | .ol xs => some (.fl xs)
  | .od t kvs => some (.fd t kvs)
  | .oi c fs => (frzF fs).map (D.fi c)
  | .on xs => (frzL xs).map D.fl
  | .odn t kvs => (frzK kvs).map (D.fd t)
  | .tp xs => (frzL xs).map D.tup
def frzL : List PV → Option (List D)
  | [] => some []
  | x :: xs => match frz x, frzL xs with
    | some y, some ys => some (y :: ys)
    | _, _ => none
def frzF : List (Nat × PV) → Option (List (Nat × D))
  | [] => some []
  | (f, x) :: xs => match frz x, frzF xs with
    | some y, some ys => some ((f, y) :: ys)
    | _, _ => none
def frzK : List (D × PV) → Option (List (D × D))
  | [] => some []
  | (k, x) :: xs => match frz x, frzK xs with
    | some y, some ys => some ((k, y) :: ys)
    | _, _ => none
end
def toD : PV → Option D
  | .d x => some x
  | _ => none
def allD : List PV → Option (List D)
  | [] => some []
  | .d x :: xs => (allD xs).map (x :: ·)
  | _ :: _ => none
def mkTup (xs : List PV) : PV := match allD xs with
  | some ds => .d (.tup ds)
  | none => .tp xs
def mkLst (xs : List PV) : PV := match allD xs with
  | some ds => .ol ds
  | none => .on xs
/-- a list's pure items -/
def asL : PV → Option (List D)
  | .ol xs => some xs
  | .d (.fl xs) => some xs
  | _ => none
def asT : PV → Option (List D)
  | .d (.tup xs) => some xs
  | _ => none
/-- a list's, the script's -/
def asS : PV → Option (List D)
  | .ol xs => some xs
  | .d (.fl xs) => some xs
  | .d (.sc xs) => some xs
  | _ => none
/-- a list's or tuple's -/
def asQ : PV → Option (List D)
  | .ol xs => some xs
  | .d (.sc xs) => some xs
  | .d (.fl xs) => some xs
  | .d (.tup xs) => some xs
  | _ => none
def asK : PV → Option (Bool × List (D × D))
  | .od t kvs => some (t, kvs)
  | .d (.fd t kvs) => some (t, kvs)
  | _ => none
/-- what is walked, all items at once -/
def asIt : PV → Option (List PV)
  | .ol xs => some (xs.map .d)
  | .d (.fl xs) => some (xs.map .d)
  | .d (.sc xs) => some (xs.map .d)
  | .d (.tup xs) => some (xs.map .d)
  | .d (.str s) => some (s.map fun c => .d (.str [c]))
  | _ => none
def szB (n : Nat) : Bool := decide (n ≤ 16777216)

/-! ### keys -/
def keyF : D → Bool
  | .int _ => true
  | .str _ => true
  | _ => false
def keyT : D → Bool
  | .tup xs => xs.all keyF
  | _ => false
def keyB (t : Bool) (k : D) : Bool := if t then keyT k else keyF k
def kget {α : Type} : List (D × α) → D → Option α
  | [], _ => none
  | (k, v) :: r, x => if D.beq k x then some v else kget r x
def kmap {α : Type} (x : D) (v : α) : List (D × α) → List (D × α)
  | [] => []
  | (k, w) :: r => (if D.beq k x then (k, v) else (k, w)) :: kmap x v r
def kput {α : Type} : List (D × α) → D → α → List (D × α)
  | [], x, v => [(x, v)]
  | (k, w) :: r, x, v => if D.beq k x then (k, v) :: kmap x v r else (k, w) :: kput r x v
def kdel {α : Type} : List (D × α) → D → List (D × α)
  | [], _ => []
  | (k, w) :: r, x => if D.beq k x then kdel r x else (k, w) :: kdel r x
def fget {α : Type} : List (Nat × α) → Nat → Option α
  | [], _ => none
  | (k, v) :: r, x => if k = x then some v else fget r x
def fput {α : Type} : List (Nat × α) → Nat → α → List (Nat × α)
  | [], x, v => [(x, v)]
  | (k, w) :: r, x, v => if k = x then (k, v) :: r else (k, w) :: fput r x v

/-! ### truth -/
def tru : PV → Option Bool
  | .d .non => some false
  | .d (.bl b) => some b
  | .d (.int i) => some (i != 0)
  | .d (.str s) => if szB s.length then some (!s.isEmpty) else none
  | .d (.tup xs) => some (!xs.isEmpty)
  | .d (.fl xs) => some (!xs.isEmpty)
  | .ol xs => some (!xs.isEmpty)
  | .on xs => some (!xs.isEmpty)
  | .od false kvs => some (!kvs.isEmpty)
  | _ => none

/-! ### subscripts -/
def ixN (n : Nat) (i : Int) : Option Nat := if 0 ≤ i then (if i < n then some i.toNat else none) else if -(n : Int) ≤ i then some (i + n).toNat else none
def atI {α : Type} (xs : List α) (i : Int) : Option α := (ixN xs.length i).bind fun j => xs[j]?
/-- a slice's bound: as Python clips it -/
def clip (n : Nat) : Int → Nat := fun i => if i < 0 then (i + n).toNat else min i.toNat n
def cutL {α : Type} (xs : List α) (lo hi : Option Int) : List α :=
  let a := (lo.map (clip xs.length)).getD 0
  let b := (hi.map (clip xs.length)).getD xs.length
  (xs.drop a).take (b - a)

/-! ### primitives -/
inductive Prim where
  | add | sub | mul | fdiv | mod | pow | xor | band | bor | shl | shr | neg
  | eq | ne | lt | le | gt | ge | isN | notN | isB | notB | in_ | nin
  | len | abs | int1 | str1 | min1 | max1 | min2 | max2 | sum1 | sorted | tuple1 | list1 | dict1
  | ix | sl (lo hi : Bool) | rev
  | index | count | get1 | get2 | isI (ts : List Nat)
  | fld (f : Nat) | lrng1 | lrng2
deriving DecidableEq

def int2 (f : Int → Int → Option Int) : PV → PV → Option PV
  | .d (.int i), .d (.int j) => (f i j).map fun z => .d (.int z)
  | _, _ => none
def mulOk (i j : Int) : Bool := (decide (-(2 ^ 64) < i) && decide (i < 2 ^ 64)) || (decide (-(2 ^ 64) < j) && decide (j < 2 ^ 64)) || decide (i.natAbs.log2 + j.natAbs.log2 < 1000000)
def divOk (j : Int) : Bool := (decide (j ≠ 0) && decide (j.natAbs < 1073741824)) || (decide (0 < j) && decide (j.natAbs.log2 < 9000))
def powOk (i j : Int) : Bool := decide (0 ≤ j) && decide (j ≤ 1000000) && decide (i.natAbs < 2 ^ 64)
def pAdd : PV → PV → Option PV
  | .d (.int i), .d (.int j) => some (.d (.int (i + j)))
  | .d (.str a), .d (.str b) => if szB (a.length + b.length) then some (.d (.str (a ++ b))) else none
  | .d (.tup a), .d (.tup b) => if szB (a.length + b.length) then some (.d (.tup (a ++ b))) else none
  | a, b => match asL a, asL b with
    | some x, some y => if szB (x.length + y.length) then some (.ol (x ++ y)) else none
    | _, _ => none
def pMul : PV → PV → Option PV
  | .d (.int i), .d (.int j) => if mulOk i j then some (.d (.int (i * j))) else none
  | .d (.tup xs), .d (.int k) => if decide (2 ≤ k) && decide (k ≤ 1000) && decide (xs.length ≤ 1000) && !xs.isEmpty then some (.d (.tup (List.replicate k.toNat xs).flatten)) else none
  | a, .d (.int k) => match asL a with
    | some xs => if decide (-(2 ^ 63) ≤ k) && decide (k < 2 ^ 63) && szB (xs.length * k.toNat) then some (.ol (List.replicate k.toNat xs).flatten) else none
    | none => none
  | _, _ => none
def isInt : D → Option Int
  | .int i => some i
  | _ => none
def allInt : List D → Option (List Int)
  | [] => some []
  | .int i :: xs => (allInt xs).map (i :: ·)
  | _ :: _ => none
def ltS : List Nat → List Nat → Bool
  | [], [] => false
  | [], _ :: _ => true
  | _ :: _, [] => false
  | a :: x, b :: y => if a = b then ltS x y else decide (a < b)
def lexI : List Int → List Int → Bool
  | [], [] => false
  | [], _ :: _ => true
  | _ :: _, [] => false
  | a :: x, b :: y => if a = b then lexI x y else decide (a < b)
def pLt : PV → PV → Option PV
  | .d (.int i), .d (.int j) => some (.d (.bl (decide (i < j))))
  | .d (.str a), .d (.str b) => some (.d (.bl (ltS a b)))
  | .d (.tup a), .d (.tup b) => match allInt a, allInt b with
    | some x, some y => some (.d (.bl (lexI x y)))
    | _, _ => none
  | _, _ => none
def pLe : PV → PV → Option PV
  | .d (.int i), .d (.int j) => some (.d (.bl (decide (i ≤ j))))
  | .d (.str a), .d (.str b) => some (.d (.bl (!ltS b a)))
  | _, _ => none
def pGt : PV → PV → Option PV
  | .d (.int i), .d (.int j) => some (.d (.bl (decide (j < i))))
  | .d (.str a), .d (.str b) => some (.d (.bl (ltS b a)))
  | _, _ => none
def pGe : PV → PV → Option PV
  | .d (.int i), .d (.int j) => some (.d (.bl (decide (j ≤ i))))
  | .d (.str a), .d (.str b) => some (.d (.bl (!ltS a b)))
  | _, _ => none
def toEq : PV → Option D
  | .d x => if D.plain x then some x else none
  | .ol xs => if plainL xs then some (.fl xs) else none
  | _ => none
def pEq (neg : Bool) (a b : PV) : Option PV := match toEq a, toEq b with
  | some x, some y => some (.d (.bl (if neg then !D.eqv x y else D.eqv x y)))
  | _, _ => none
/-- s within t -/
def subStr (s : List Nat) : List Nat → Bool
  | [] => s.isEmpty
  | c :: t => s.isPrefixOf (c :: t) || subStr s t
def pIn (neg : Bool) (a b : PV) : Option PV :=
  let out := fun (r : Bool) => some (PV.d (.bl (if neg then !r else r)))
  match a, b with
  | .d (.str s), .d (.str t) => match s with
    | [c] => out (t.any (· == c))
    | _ => none
  | .d x, b => match asK b with
    | some (t, kvs) => if keyB t x then out (kget kvs x).isSome else none
    | none => match asL b with
      | some xs => if D.plain x && plainL xs then out (xs.any fun y => D.eqv y x) else none
      | none => match asQ b with
        | some xs => if flat x && xs.all flat then out (xs.any fun y => D.eqv y x) else none
        | none => none
  | _, _ => none
def pLen (a : PV) : Option PV := match a with
  | .d (.str s) => if szB s.length then some (.d (.int s.length)) else none
  | .on xs => some (.d (.int xs.length))
  | a => match asQ a with
    | some xs => some (.d (.int xs.length))
    | none => match asK a with
      | some (_, kvs) => some (.d (.int kvs.length))
      | none => none
def minI : List Int → Option Int
  | [] => none
  | x :: xs => some (xs.foldl min x)
def maxI : List Int → Option Int
  | [] => none
  | x :: xs => some (xs.foldl max x)
/-- what sorted, tuple, list, sum, min, max walk: a list, a tuple, a dict's keys -/
def asW : PV → Option (List D)
  | .od _ kvs => some (kvs.map (·.1))
  | .d (.fd _ kvs) => some (kvs.map (·.1))
  | a => asQ a
/-- tuples of ints, none empty -/
def allIT : List D → Option (List (List Int))
  | [] => some []
  | .tup (x :: xs) :: r => match allInt (x :: xs), allIT r with
    | some u, some us => some (u :: us)
    | _, _ => none
  | _ :: _ => none
def tupI (u : List Int) : D := .tup (u.map .int)
def sortI (ns : List Int) : List Int := ns.mergeSort fun a b => decide (a ≤ b)
def sortT (us : List (List Int)) : List (List Int) := us.mergeSort fun u v => !lexI v u
def pSorted (a : PV) : Option PV := match asS a with
  | some xs => match allInt xs with
    | some ns => some (.ol ((sortI ns).map .int))
    | none => match allIT xs with
      | some us => some (.ol ((sortT us).map tupI))
      | none => none
  | none => none
def pIx (a b : PV) : Option PV := match b with
  | .d k => match asK a with
    | some (t, kvs) => if keyB t k then (match kget kvs k with
      | some x => some (.d x)
      | none => none) else none
    | none => match k with
      | .int i => match asQ a with
        | some xs => match atI xs i with
          | some x => some (.d x)
          | none => none
        | none => match a with
          | .d (.str s) => if szB s.length then (match atI s i with
            | some c => some (.d (.str [c]))
            | none => none) else none
          | _ => none
      | _ => none
  | _ => none
def pSlV (a : PV) (l h : Option Int) : Option PV := match a with
  | .d (.tup xs) => some (.d (.tup (cutL xs l h)))
  | .d (.str s) => if szB s.length then some (.d (.str (cutL s l h))) else none
  | a => match asS a with
    | some xs => some (.ol (cutL xs l h))
    | none => none
def pSl (lo hi : Bool) (a : PV) (bs : List PV) : Option PV := match lo, hi, bs with
  | false, false, [] => pSlV a none none
  | true, false, [.d (.int l)] => pSlV a (some l) none
  | false, true, [.d (.int h)] => pSlV a none (some h)
  | true, true, [.d (.int l), .d (.int h)] => pSlV a (some l) (some h)
  | _, _, _ => none
def pRev (a : PV) : Option PV := match asS a with
  | some xs => some (.ol xs.reverse)
  | none => none
def findD (x : D) : List D → Nat → Option Nat
  | [], _ => none
  | y :: ys, n => if D.eqv y x then some n else findD x ys (n + 1)
def pIndex (a b : PV) : Option PV := match b with
  | .d x => match asL a with
    | some xs => if D.plain x && plainL xs then (match findD x xs 0 with
      | some n => some (.d (.int n))
      | none => none) else none
    | none => none
  | _ => none
def pCount (a b : PV) : Option PV := match b with
  | .d (.int i) => match (asQ a).bind allInt with
    | some xs => some (.d (.int (xs.count i)))
    | none => none
  | _ => none
def pGet (a b : PV) (dflt : D) : Option PV := match b with
  | .d k => match asK a with
    | some (t, kvs) => if keyB t k then some (.d ((kget kvs k).getD dflt)) else none
    | none => none
  | _ => none
/-- n ints from a on, by c -/
def rngL (c : Int) : Int → Nat → List D
  | _, 0 => []
  | a, n + 1 => .int a :: rngL c (a + c) n
/-- types by number: 0 int, 1 bool, 2 str, 3 tuple, 4 list, 5 dict -/
def tyOf : PV → Option Nat
  | .d (.int _) => some 0
  | .d (.bl _) => some 1
  | .d (.str _) => some 2
  | .d (.tup _) => some 3
  | .d (.fl _) => some 4
  | .d (.sc _) => some 4
  | .d (.fd false _) => some 5
  | .d .non => some 6
  | .ol _ => some 4
  | .on _ => some 4
  | .od _ _ => some 5
  | .odn _ _ => some 5
  | .tp _ => some 3
  | _ => none
def isTy (t n : Nat) : Bool := t == n || (t == 1 && n == 0)
def digs (n : Nat) : List Nat := (Nat.toDigits 10 n).map Char.toNat
def strI (i : Int) : List Nat := if i < 0 then 45 :: digs i.natAbs else digs i.natAbs
def pNeg : PV → Option PV
  | .d (.int i) => some (.d (.int (-i)))
  | _ => none
def pIs (neg : Bool) (a b : PV) : Option PV := match b with
  | .d .non => match a with
    | .un => none
    | .d .non => some (.d (.bl (!neg)))
    | _ => some (.d (.bl neg))
  | _ => none
def pIsB (neg : Bool) : PV → PV → Option PV
  | .d (.bl a), .d (.bl b) => some (.d (.bl (if neg then a != b else a == b)))
  | _, _ => none
def pAbs : PV → Option PV
  | .d (.int i) => some (.d (.int (if i < 0 then -i else i)))
  | _ => none
def pInt : PV → Option PV
  | .d (.int i) => some (.d (.int i))
  | .d (.bl b) => some (.d (.int (b2I b)))
  | _ => none
def pStr : PV → Option PV
  | .d (.int i) => if decide (i.natAbs.log2 < 1920) then some (.d (.str (strI i))) else none
  | _ => none
def pDict (a : PV) : Option PV := match asK a with
  | some (t, kvs) => some (.od t kvs)
  | none => none
def pGet2 (a b c : PV) : Option PV := match c with
  | .d x => pGet a b x
  | _ => none
def pIsI (ts : List Nat) (a : PV) : Option PV := match ts, tyOf a with
  | [m], some t => some (.d (.bl (isTy t m)))
  | [m, k], some t => some (.d (.bl (isTy t m || isTy t k)))
  | _, _ => none
def pFld (f : Nat) : PV → Option PV
  | .d (.fi _ fs) => match fget fs f with
    | some x => some (.d x)
    | none => none
  | .oi _ fs => match fget fs f with
    | some (.d x) => some (.d x)
    | _ => none
  | _ => none
def pMin1 (a : PV) : Option PV := match asS a with
  | some xs => match allInt xs with
    | some ns => match minI ns with
      | some m => some (.d (.int m))
      | none => none
    | none => none
  | none => none
def pMax1 (a : PV) : Option PV := match asS a with
  | some xs => match allInt xs with
    | some ns => match maxI ns with
      | some m => some (.d (.int m))
      | none => none
    | none => none
  | none => none
def pSum (a : PV) : Option PV := match asS a with
  | some xs => match allInt xs with
    | some ns => some (.d (.int ns.sum))
    | none => none
  | none => none
def pTuple (a : PV) : Option PV := match asQ a with
  | some xs => some (.d (.tup xs))
  | none => none
def pList (a : PV) : Option PV := match asQ a with
  | some xs => some (.ol xs)
  | none => none
def pRng1 : PV → Option PV
  | .d (.int n) => if decide (n ≤ 16777216) then some (.ol (rngL 1 0 n.toNat)) else none
  | _ => none
def pRng2 : PV → PV → Option PV
  | .d (.int a), .d (.int b) => if decide (b - a ≤ 16777216) then some (.ol (rngL 1 a (b - a).toNat)) else none
  | _, _ => none
def app : Prim → List PV → Option PV
  | .add, [a, b] => pAdd a b
  | .sub, [a, b] => int2 (fun i j => some (i - j)) a b
  | .mul, [a, b] => pMul a b
  | .fdiv, [a, b] => int2 (fun i j => if divOk j then some (i.fdiv j) else none) a b
  | .mod, [a, b] => int2 (fun i j => if decide (j ≠ 0) then some (i.fmod j) else none) a b
  | .pow, [a, b] => int2 (fun i j => if powOk i j then some (i ^ j.toNat) else none) a b
  | .shl, [a, b] => int2 (fun i j => if powOk i j then some (i * 2 ^ j.toNat) else none) a b
  | .shr, [a, b] => int2 (fun i j => if decide (0 ≤ j) then some (i / 2 ^ j.toNat) else none) a b
  | .xor, [a, b] => int2 (fun i j => some (PySem.Builtin.bitXor i j)) a b
  | .band, [a, b] => int2 (fun i j => some (PySem.Builtin.bitAnd i j)) a b
  | .bor, [a, b] => int2 (fun i j => some (PySem.Builtin.bitOr i j)) a b
  | .neg, [a] => pNeg a
  | .eq, [a, b] => pEq false a b
  | .ne, [a, b] => pEq true a b
  | .lt, [a, b] => pLt a b
  | .le, [a, b] => pLe a b
  | .gt, [a, b] => pGt a b
  | .ge, [a, b] => pGe a b
  | .isN, [a, b] => pIs false a b
  | .notN, [a, b] => pIs true a b
  | .isB, [a, b] => pIsB false a b
  | .notB, [a, b] => pIsB true a b
  | .in_, [a, b] => pIn false a b
  | .nin, [a, b] => pIn true a b
  | .len, [a] => pLen a
  | .abs, [a] => pAbs a
  | .int1, [a] => pInt a
  | .str1, [a] => pStr a
  | .min1, [a] => pMin1 a
  | .max1, [a] => pMax1 a
  | .min2, [a, b] => int2 (fun i j => some (if j < i then j else i)) a b
  | .max2, [a, b] => int2 (fun i j => some (if j > i then j else i)) a b
  | .sum1, [a] => pSum a
  | .sorted, [a] => pSorted a
  | .tuple1, [a] => pTuple a
  | .list1, [a] => pList a
  | .dict1, [a] => pDict a
  | .ix, [a, b] => pIx a b
  | .sl lo hi, a :: bs => pSl lo hi a bs
  | .rev, [a] => pRev a
  | .index, [a, b] => pIndex a b
  | .count, [a, b] => pCount a b
  | .get1, [a, b] => pGet a b .non
  | .get2, [a, b, c] => pGet2 a b c
  | .isI ts, [a] => pIsI ts a
  | .fld f, [a] => pFld f a
  | .lrng1, [a] => pRng1 a
  | .lrng2, [a, b] => pRng2 a b
  | _, _ => none

/-- x op= y -/
def iop : Prim → PV → PV → Option PV
  | .add, .d (.int i), .d (.int j) => some (.d (.int (i + j)))
  | .sub, .d (.int i), .d (.int j) => some (.d (.int (i - j)))
  | .add, .d (.str a), .d (.str b) => if szB (a.length + b.length) then some (.d (.str (a ++ b))) else none
  | _, _, _ => none
/-! ### what changes a slot's own object: the result, the new object -/
def asU' : PV → Option (List D)
  | .ol xs => some xs
  | .d (.fl xs) => some xs
  | .d (.tup xs) => some xs
  | _ => none
inductive MP where
  | append | pop0 | pop1 | extend | insert | setdefault | update | popk | clear | reverse
deriving DecidableEq
def insAt {α : Type} (xs : List α) (i : Int) (x : α) : List α :=
  let k := clip xs.length i
  xs.take k ++ x :: xs.drop k
def mapp : MP → PV → List PV → Option (PV × PV)
  | .append, .ol xs, [v] => if xs.length < 16777216 then (match v with
    | .d x => some (.d .non, .ol (xs ++ [x]))
    | v => some (.d .non, .on (xs.map .d ++ [v]))) else none
  | .append, .on xs, [v] => if xs.length < 16777216 then some (.d .non, .on (xs ++ [v])) else none
  | .pop0, .ol xs, [] => match xs.getLast? with
    | some x => some (.d x, .ol xs.dropLast)
    | none => none
  | .pop1, .ol xs, [.d (.int i)] => if decide (-(2 ^ 63) ≤ i) && decide (i < 2 ^ 63) then (ixN xs.length i).bind fun j => xs[j]?.map fun x => (.d x, .ol (xs.eraseIdx j)) else none
  | .pop0, .on xs, [] => match xs.getLast? with
    | some x => some (x, .on xs.dropLast)
    | none => none
  | .extend, .ol xs, [a] => (asU' a).bind fun ys => if szB (xs.length + ys.length) then some (.d .non, .ol (xs ++ ys)) else none
  | .insert, .ol xs, [.d (.int i), .d x] => if xs.length < 16777216 then some (.d .non, .ol (insAt xs i x)) else none
  | .reverse, .ol xs, [] => some (.d .non, .ol xs.reverse)
  | .setdefault, .od t kvs, [.d k, .d x] => if keyB t k && szB (kvs.length + 1) then (match kget kvs k with
    | some v => some (.d v, .od t kvs)
    | none => some (.d x, .od t (kput kvs k x))) else none
  | .update, .od t kvs, [a] => (asK a).bind fun q => if q.1 == t && szB (kvs.length + q.2.length) then some (.d .non, .od t (q.2.foldl (fun z p => kput z p.1 p.2) kvs)) else none
  | .popk, .od t kvs, [.d k] => if keyB t k then (kget kvs k).map fun v => (.d v, .od t (kdel kvs k)) else none
  | _, _, _ => none
/-- the kind of object that a method changes -/
def kin : MP → PV → Bool
  | .append, .ol _ => true
  | .append, .on _ => true
  | .pop0, .ol _ => true
  | .pop0, .on _ => true
  | .pop1, .ol _ => true
  | .extend, .ol _ => true
  | .insert, .ol _ => true
  | .reverse, .ol _ => true
  | .clear, .ol _ => true
  | .setdefault, .od _ _ => true
  | .update, .od _ _ => true
  | .popk, .od _ _ => true
  | _, _ => false
def isMu : PV → Bool
  | .ol _ => true
  | .od _ _ => true
  | _ => false
def isUn : PV → Bool
  | .un => true
  | _ => false
/-- slot[k] = v -/
def setIx : PV → PV → PV → Option PV
  | .ol xs, .d (.int i), .d x => (ixN xs.length i).map fun j => .ol (xs.set j x)
  | .od t kvs, .d k, .d x => if keyB t k && szB (kvs.length + 1) then some (.od t (kput kvs k x)) else none
  | _, _, _ => none

/-! ### syntax -/
inductive Tg where
  | nm (i : Nat) | nf (i : Nat) | tp (ts : List Tg)
mutual
inductive E where
  | c (k : D)
  | v (i : Nat) | rd (i : Nat) | mv (i : Nat) | fz (i : Nat)
  | io (i : Nat)
  | frz (e : E)
  | tup (es : List E) | lst (es : List E) | dic (t : Bool) (kvs : List E)
  | pr (p : Prim) (es : List E)
  | an (es : List E) | or (es : List E) | nt (e : E) | ite (t a b : E)
  | ch (p q : Prim) (a b c : E)
  | cl (f : Nat) (es : List E)
  | clk (f : Nat) (ix : List Nat) (es : List E)
  | mk (c f : Nat) (es : List E)
  | mt (m f : Nat) (es : List E)
  | mu (m : MP) (i : Nat) (es : List E)
  | ixs (i : Nat) (k : E)
  | lc (tg : Tg) (it : It) (cs : List E) (elt : E)
  | lc2 (tg : Tg) (it : It) (cs : List E) (tg2 : Tg) (it2 : It) (cs2 : List E) (elt : E)
  | dc (t : Bool) (tg : Tg) (it : It) (cs : List E) (k v : E)
inductive It where
  | e (x : E) | rng (es : List E) | enu (x : E) | zip (a b : E)
end
inductive S where
  | asg (i : Nat) (e : E)
  | asgt (t : Tg) (e : E)
  | six (i : Nat) (k e : E)
  | aix (i : Nat) (p : Prim) (k e : E)
  | aug (i : Nat) (p : Prim) (e : E)
  | sfl (i f : Nat) (e : E)
  | ex (e : E)
  | ret (e : E) | retn
  | iff (t : E) (a b : List S)
  | whl (t : E) (b : List S)
  | for (tg : Tg) (it : It) (b : List S)
  | forr (tg : Tg) (es : List E) (b : List S)
  | brk | cnt | pas

/-! ### evaluation -/
abbrev Env := List PV
def get : Env → Nat → PV
  | [], _ => .un
  | x :: _, 0 => x
  | _ :: r, i + 1 => get r i
def put : Env → Nat → PV → Env
  | [], _, _ => []
  | _ :: r, 0, v => v :: r
  | x :: r, i + 1, v => x :: put r i v
/-- the items of a tuple (or a list) that is unpacked -/
def asU : PV → Option (List PV)
  | .d (.tup xs) => some (xs.map .d)
  | .tp xs => some xs
  | _ => none
mutual
def bind : Tg → PV → Env → Option Env
  | .nm i, v, ρ => some (put ρ i v)
  | .nf i, v, ρ => match Rt.frz v with
    | some x => some (put ρ i (.d x))
    | none => none
  | .tp ts, v, ρ => match asU v with
    | some vs => bindL ts vs ρ
    | none => none
def bindL : List Tg → List PV → Env → Option Env
  | [], [], ρ => some ρ
  | t :: ts, v :: vs, ρ => match bind t v ρ with
    | some ρ1 => bindL ts vs ρ1
    | none => none
  | _, _, _ => none
end
mutual
def tgs : Tg → List Nat
  | .nm i => [i]
  | .nf i => [i]
  | .tp ts => tgsL ts
def tgsL : List Tg → List Nat
  | [] => []
  | t :: ts => tgs t ++ tgsL ts
end
def wipe (ρ : Env) : List Nat → Env
  | [] => ρ
  | i :: is => put (wipe ρ is) i .un
/-- slots of a comprehension put back -/
def restore (ρ ρ0 : Env) : List Nat → Env
  | [] => ρ
  | i :: is => put (restore ρ ρ0 is) i (get ρ0 i)
def pureAt (ρ : Env) (is : List Nat) : Bool := is.all fun i => match get ρ i with
  | .d _ => true
  | .un => true
  | _ => false
abbrev Orc := Nat → List PV → Option (PV × List PV)
/-- the loop of a comprehension: f gives the new element or none -/
def lcGo {α : Type} (f : PV → Env → Option (Option α × Env)) : List PV → List α → Env → Option (List α × Env)
  | [], acc, ρ => some (acc, ρ)
  | x :: xs, acc, ρ => match f x ρ with
    | some (some y, ρ1) => lcGo f xs (acc ++ [y]) ρ1
    | some (none, ρ1) => lcGo f xs acc ρ1
    | none => none
/-- .. with a second clause: f gives the elements of a turn -/
def lcGoN {α : Type} (f : PV → List α → Env → Option (List α × Env)) : List PV → List α → Env → Option (List α × Env)
  | [], acc, ρ => some (acc, ρ)
  | x :: xs, acc, ρ => match f x acc ρ with
    | some (acc1, ρ1) => lcGoN f xs acc1 ρ1
    | none => none
/-- back into the slots that were handed in -/
def backIo : List E → List PV → Env → Env
  | .io i :: es, v :: vs, ρ => backIo es vs (put ρ i v)
  | _ :: es, _ :: vs, ρ => backIo es vs ρ
  | _, _, ρ => ρ
def fillIo : List E → List PV → Env → List PV
  | .io i :: es, _ :: vs, ρ => get ρ i :: fillIo es vs ρ
  | _ :: es, v :: vs, ρ => v :: fillIo es vs ρ
  | _, _, _ => []
def mkDic (t : Bool) : List PV → List (D × PV) → Option (List (D × PV))
  | [], acc => some acc
  | .d k :: v :: vs, acc => if keyB t k then mkDic t vs (kput acc k v) else none
  | _, _ => none
def allDK : List (D × PV) → Option (List (D × D))
  | [] => some []
  | (k, .d x) :: r => (allDK r).map ((k, x) :: ·)
  | _ :: _ => none
def mkDct (t : Bool) (kvs : List (D × PV)) : PV := match allDK kvs with
  | some q => .od t q
  | none => .odn t kvs
/-- a range's start, step, length -/
def rngOf : List PV → Option (Int × Int × Nat)
  | [.d (.int n)] => if decide (-(2 ^ 62) ≤ n) && decide (n < 2 ^ 62) then some (0, 1, n.toNat) else none
  | [.d (.int a), .d (.int b)] => if decide (-(2 ^ 62) ≤ a) && decide (a < 2 ^ 62) && decide (-(2 ^ 62) ≤ b) && decide (b < 2 ^ 62) then some (a, 1, (b - a).toNat) else none
  | [.d (.int a), .d (.int b), .d (.int (-1))] => if decide (-(2 ^ 62) ≤ a) && decide (a < 2 ^ 62) && decide (-(2 ^ 62) ≤ b) && decide (b < 2 ^ 62) then some (a, -1, (a - b).toNat) else none
  | _ => none
section
variable (C : Orc)
mutual
def evE : E → Env → Option (PV × Env)
  | .c k, ρ => some (.d k, ρ)
  | .v i, ρ => match get ρ i with
    | .d x => some (.d x, ρ)
    | _ => none
  | .rd i, ρ => match get ρ i with
    | .un => none
    | v => some (v, ρ)
  | .mv i, ρ => match get ρ i with
    | .un => none
    | v => some (v, put ρ i .un)
  | .fz i, ρ => match Rt.frz (get ρ i) with
    | some x => some (.d x, put ρ i (.d x))
    | none => none
  | .io i, ρ => if isUn (get ρ i) then none else some (.un, ρ)
  | .frz e, ρ => match evE e ρ with
    | some (v, ρ1) => match Rt.frz v with
      | some x => some (.d x, ρ1)
      | none => none
    | none => none
  | .tup es, ρ => match evL es ρ with
    | some (vs, ρ1) => some (mkTup vs, ρ1)
    | none => none
  | .lst es, ρ => match evL es ρ with
    | some (vs, ρ1) => some (mkLst vs, ρ1)
    | none => none
  | .dic t es, ρ => match evL es ρ with
    | some (vs, ρ1) => match mkDic t vs [] with
      | some kvs => some (mkDct t kvs, ρ1)
      | none => none
    | none => none
  | .pr p es, ρ => match evL es ρ with
    | some (vs, ρ1) => match app p vs with
      | some v => some (v, ρ1)
      | none => none
    | none => none
  | .an es, ρ => evAn es ρ
  | .or es, ρ => evOr es ρ
  | .nt e, ρ => match evE e ρ with
    | some (v, ρ1) => match tru v with
      | some b => some (.d (.bl (!b)), ρ1)
      | none => none
    | none => none
  | .ite t a b, ρ => match evE t ρ with
    | some (v, ρ1) => match tru v with
      | some true => evE a ρ1
      | some false => evE b ρ1
      | none => none
    | none => none
  | .ch p q a b c, ρ => match evE a ρ with
    | some (x, ρ1) => match evE b ρ1 with
      | some (y, ρ2) => match app p [x, y] with
        | some (.d (.bl true)) => match evE c ρ2 with
          | some (z, ρ3) => match app q [y, z] with
            | some (.d (.bl k)) => some (.d (.bl k), ρ3)
            | _ => none
          | none => none
        | some (.d (.bl false)) => some (.d (.bl false), ρ2)
        | _ => none
      | none => none
    | none => none
  | .cl f es, ρ => match evL es ρ with
    | some (vs, ρ1) => match C f (fillIo es vs ρ1) with
      | some (r, ws) => some (r, backIo es ws ρ1)
      | none => none
    | none => none
  | .clk f ix es, ρ => match evL es ρ with
    | some (vs, ρ1) => match allD vs with
      | some ds => match C f (ix.map fun i => .d (ds.getD i .non)) with
        | some (r, _) => some (r, ρ1)
        | none => none
      | none => none
    | none => none
  | .mk c f es, ρ => match evL es ρ with
    | some (vs, ρ1) => match C f (.oi c [] :: fillIo es vs ρ1) with
      | some (.d .non, o :: ws) => some (o, backIo es ws ρ1)
      | _ => none
    | none => none
  | .mt _ f es, ρ => match evL es ρ with
    | some (vs, ρ1) => match C f (fillIo es vs ρ1) with
      | some (r, ws) => some (r, backIo es ws ρ1)
      | none => none
    | none => none
  | .mu m i es, ρ => if kin m (get ρ i) then (match evL es ρ with
    | some (vs, ρ1) => match mapp m (get ρ1 i) vs with
      | some (r, o) => some (r, put ρ1 i o)
      | none => none
    | none => none) else none
  | .ixs i k, ρ => if isUn (get ρ i) then none else match evE k ρ with
    | some (x, ρ1) => match pIx (get ρ1 i) x with
      | some v => some (v, ρ1)
      | none => none
    | none => none
  | .lc tg it cs elt, ρ => match evIt it ρ with
    | some (xs, ρ1) => if pureAt ρ1 (tgs tg) then
        match lcGo (fun x ρ' => match bind tg x (wipe ρ' (tgs tg)) with
          | some ρa => match evCs cs ρa with
            | some (true, ρb) => match evE elt ρb with
              | some (y, ρc) => some (some y, ρc)
              | none => none
            | some (false, ρb) => some (none, ρb)
            | none => none
          | none => none) xs [] ρ1 with
        | some (ys, ρ2) => if szB ys.length then some (mkLst ys, restore ρ2 ρ1 (tgs tg)) else none
        | none => none
      else none
    | none => none
  | .lc2 tg it cs tg2 it2 cs2 elt, ρ => match evIt it ρ with
    | some (xs, ρ1) => if pureAt ρ1 (tgs tg ++ tgs tg2) then
        match lcGoN (fun x acc ρ' => match bind tg x (wipe ρ' (tgs tg ++ tgs tg2)) with
          | some ρa => match evCs cs ρa with
            | some (true, ρb) => match evIt it2 ρb with
              | some (zs, ρc) => lcGo (fun z ρ'' => match bind tg2 z (wipe ρ'' (tgs tg2)) with
                | some ρd => match evCs cs2 ρd with
                  | some (true, ρe) => match evE elt ρe with
                    | some (y, ρf) => some (some y, ρf)
                    | none => none
                  | some (false, ρe) => some (none, ρe)
                  | none => none
                | none => none) zs acc ρc
              | none => none
            | some (false, ρb) => some (acc, ρb)
            | none => none
          | none => none) xs [] ρ1 with
        | some (ys, ρ2) => if szB ys.length then some (mkLst ys, restore ρ2 ρ1 (tgs tg ++ tgs tg2)) else none
        | none => none
      else none
    | none => none
  | .dc t tg it cs k v, ρ => match evIt it ρ with
    | some (xs, ρ1) => if pureAt ρ1 (tgs tg) then
        match lcGo (fun x ρ' => match bind tg x (wipe ρ' (tgs tg)) with
          | some ρa => match evCs cs ρa with
            | some (true, ρb) => match evE k ρb with
              | some (.d key, ρc) => match evE v ρc with
                | some (y, ρd) => if keyB t key then some (some (key, y), ρd) else none
                | none => none
              | _ => none
            | some (false, ρb) => some (none, ρb)
            | none => none
          | none => none) xs [] ρ1 with
        | some (ys, ρ2) => if szB ys.length then some (mkDct t (ys.foldl (fun z p => kput z p.1 p.2) []), restore ρ2 ρ1 (tgs tg)) else none
        | none => none
      else none
    | none => none
def evL : List E → Env → Option (List PV × Env)
  | [], ρ => some ([], ρ)
  | e :: es, ρ => match evE e ρ with
    | some (v, ρ1) => match evL es ρ1 with
      | some (vs, ρ2) => some (v :: vs, ρ2)
      | none => none
    | none => none
def evAn : List E → Env → Option (PV × Env)
  | [], _ => none
  | e :: es, ρ => match evE e ρ with
    | some (v, ρ1) => match es with
      | [] => some (v, ρ1)
      | _ :: _ => match tru v with
        | some true => evAn es ρ1
        | some false => some (v, ρ1)
        | none => none
    | none => none
def evOr : List E → Env → Option (PV × Env)
  | [], _ => none
  | e :: es, ρ => match evE e ρ with
    | some (v, ρ1) => match es with
      | [] => some (v, ρ1)
      | _ :: _ => match tru v with
        | some false => evOr es ρ1
        | some true => some (v, ρ1)
        | none => none
    | none => none
def evCs : List E → Env → Option (Bool × Env)
  | [], ρ => some (true, ρ)
  | e :: es, ρ => match evE e ρ with
    | some (v, ρ1) => match tru v with
      | some true => evCs es ρ1
      | some false => some (false, ρ1)
      | none => none
    | none => none
def evIt : It → Env → Option (List PV × Env)
  | .e x, ρ => match evE x ρ with
    | some (v, ρ1) => match asIt v with
      | some xs => some (xs, ρ1)
      | none => none
    | none => none
  | .rng es, ρ => match evL es ρ with
    | some (vs, ρ1) => match rngOf vs with
      | some (a, c, n) => some ((rngL c a n).map .d, ρ1)
      | none => none
    | none => none
  | .enu x, ρ => match evE x ρ with
    | some (v, ρ1) => match asQ v with
      | some xs => some ((xs.zipIdx).map (fun p => .d (.tup [.int p.2, p.1])), ρ1)
      | none => none
    | none => none
  | .zip a b, ρ => match evE a ρ with
    | some (x, ρ1) => match evE b ρ1 with
      | some (y, ρ2) => match asS x, asS y with
        | some xs, some ys => some ((xs.zip ys).map (fun p => .d (.tup [p.1, p.2])), ρ2)
        | _, _ => match asT x, asT y with
          | some xs, some ys => some ((xs.zip ys).map (fun p => .d (.tup [p.1, p.2])), ρ2)
          | _, _ => none
      | none => none
    | none => none
end
def evT (t : E) (ρ : Env) : Option (Bool × Env) := match evE C t ρ with
  | some (v, ρ1) => match tru v with
    | some b => some (b, ρ1)
    | none => none
  | none => none
end
/-- how a block ends -/
inductive Out where
  | nx (ρ : Env) | rt (v : PV) (ρ : Env) | bk (ρ : Env) | ct (ρ : Env)
def whlGo (t : Env → Option (Bool × Env)) (b : Env → Option Out) : Nat → Env → Option Out
  | 0, _ => none
  | n + 1, ρ => match t ρ with
    | some (true, ρ1) => match b ρ1 with
      | some (.nx ρ2) => whlGo t b n ρ2
      | some (.ct ρ2) => whlGo t b n ρ2
      | some (.bk ρ2) => some (.nx ρ2)
      | some (.rt v ρ2) => some (.rt v ρ2)
      | none => none
    | some (false, ρ1) => some (.nx ρ1)
    | none => none
def forGo (b : PV → Env → Option Out) : List PV → Env → Option Out
  | [], ρ => some (.nx ρ)
  | x :: xs, ρ => match b x ρ with
    | some (.nx ρ2) => forGo b xs ρ2
    | some (.ct ρ2) => forGo b xs ρ2
    | some (.bk ρ2) => some (.nx ρ2)
    | some (.rt v ρ2) => some (.rt v ρ2)
    | none => none
/-- over a range, turn by turn -/
def rngGo (b : PV → Env → Option Out) (c : Int) : Int → Nat → Env → Option Out
  | _, 0, ρ => some (.nx ρ)
  | a, n + 1, ρ => match b (.d (.int a)) ρ with
    | some (.nx ρ2) => rngGo b c (a + c) n ρ2
    | some (.ct ρ2) => rngGo b c (a + c) n ρ2
    | some (.bk ρ2) => some (.nx ρ2)
    | some (.rt v ρ2) => some (.rt v ρ2)
    | none => none
section
variable (C : Orc) (W : Nat)
mutual
def evS : S → Env → Option Out
  | .asg i e, ρ => match evE C e ρ with
    | some (v, ρ1) => some (.nx (put ρ1 i v))
    | none => none
  | .asgt t e, ρ => match evE C e ρ with
    | some (v, ρ1) => match bind t v ρ1 with
      | some ρ2 => some (.nx ρ2)
      | none => none
    | none => none
  | .six i k e, ρ => match evE C e ρ with
    | some (v, ρ1) => if isUn (get ρ1 i) then none else match evE C k ρ1 with
      | some (x, ρ2) => match setIx (get ρ2 i) x v with
        | some o => some (.nx (put ρ2 i o))
        | none => none
      | none => none
    | none => none
  | .aix i p k e, ρ => if isUn (get ρ i) then none else match evE C k ρ with
    | some (x, ρ1) => if isMu (get ρ1 i) then (match pIx (get ρ1 i) x with
      | some old => match evE C e ρ1 with
        | some (v, ρ2) => match iop p old v with
          | some z => match setIx (get ρ2 i) x z with
            | some o => some (.nx (put ρ2 i o))
            | none => none
          | none => none
        | none => none
      | none => none) else none
    | none => none
  | .aug i p e, ρ => match evE C e ρ with
    | some (v, ρ1) => match get ρ i with
      | .d old => match iop p (.d old) v with
        | some z => some (.nx (put ρ1 i z))
        | none => none
      | _ => none
    | none => none
  | .sfl i f e, ρ => match evE C e ρ with
    | some (v, ρ1) => match get ρ1 i with
      | .oi c fs => if fs.length < 1000 then some (.nx (put ρ1 i (.oi c (fput fs f v)))) else none
      | _ => none
    | none => none
  | .ex e, ρ => match evE C e ρ with
    | some (_, ρ1) => some (.nx ρ1)
    | none => none
  | .ret e, ρ => match evE C e ρ with
    | some (v, ρ1) => some (.rt v ρ1)
    | none => none
  | .retn, ρ => some (.rt (.d .non) ρ)
  | .iff t a b, ρ => match evT C t ρ with
    | some (true, ρ1) => evSs a ρ1
    | some (false, ρ1) => evSs b ρ1
    | none => none
  | .whl t b, ρ => whlGo (evT C t) (evSs b) W ρ
  | .for tg it b, ρ => match evIt C it ρ with
    | some (xs, ρ1) => forGo (fun x ρ' => match bind tg x ρ' with
      | some ρa => evSs b ρa
      | none => none) xs ρ1
    | none => none
  | .forr tg es b, ρ => match evL C es ρ with
    | some (vs, ρ1) => match rngOf vs with
      | some (a, c, n) => rngGo (fun x ρ' => match bind tg x ρ' with
        | some ρa => evSs b ρa
        | none => none) c a n ρ1
      | none => none
    | none => none
  | .brk, ρ => some (.bk ρ)
  | .cnt, ρ => some (.ct ρ)
  | .pas, ρ => some (.nx ρ)
def evSs : List S → Env → Option Out
  | [], ρ => some (.nx ρ)
  | s :: ss, ρ => match evS s ρ with
    | some (.nx ρ1) => evSs ss ρ1
    | r => r
end
end
structure Fn where
  ns : Nat
  io : List Bool
  body : List S
def ends : List Bool → Env → List PV
  | [], _ => []
  | b :: io, ρ => (if b then get ρ 0 else .un) :: ends io ρ.tail
abbrev Tab := Nat → Option Fn
def call (P : Tab) (W : Nat) : Nat → Orc
  | 0, _, _ => none
  | n + 1, f, args => match P f with
    | some fd => if args.length = fd.io.length then
        match evSs (call P W n) W fd.body (args ++ List.replicate (fd.ns - args.length) .un) with
        | some (.nx ρ) => some (.d .non, ends fd.io ρ)
        | some (.rt v ρ) => some (v, ends fd.io ρ)
        | _ => none
      else none
    | none => none
end Rt

set_option Elab.async false
set_option linter.all false
set_option maxRecDepth 100000
/-! Rt2: what a value stands for: pure data, owned trees; slots; the step from state to state. -/
namespace Rt
open PySem PySem.Spec PyProof.Rows L2

abbrev Zs := Addr → Prop
abbrev Fp := Addr → Nat
def mkS (s : List Nat) : Str := ⟨s.toArray⟩
theorem mkS_cps (s : List Nat) : (mkS s).cps.toList = s := by simp [mkS]
theorem mkS_len (s : List Nat) : (mkS s).length = s.length := by simp [mkS, Str.length]
theorem mkS_inj {s t : List Nat} (h : mkS s = mkS t) : s = t := by
  have := congrArg (fun x : Str => x.cps.toList) h
  simpa [mkS] using this

/-- the law's names: fields, classes -/
structure Nms where
  fld : Nat → Str
  cls : Nat → Addr
  scl : Addr → List V → Prop

/-- the script's list, where it stands in the written part -/
class ScK (n : Nms) (K : PySem.W.Frag) : Prop where
  sq : ∀ a vs, n.scl a vs → ∀ H, SqL K H a vs
  ty : ∀ a vs, n.scl a vs → ∃ o, K.lookup a = some o ∧ o.cls = .type "list"
def toKey : D → Option Key
  | .int i => some (.inl i)
  | .str s => some (.inr (mkS s))
  | _ => none
def toKeys : List D → Option (List Key)
  | [] => some []
  | x :: xs => match toKey x, toKeys xs with
    | some k, some ks => some (k :: ks)
    | _, _ => none
def toKeyT : D → Option (List Key)
  | .tup xs => toKeys xs
  | _ => none

section
variable (n : Nms) (H : Hp) (Z : Zs)
def TupZ (a : Addr) (vs : List V) : Prop := Z a ∧ H a = some (.tup vs)
def LstZ (a : Addr) (vs : List V) : Prop := Z a ∧ H a = some (.lst vs)
mutual
/-- pure data at a value -/
def rep : D → V → Prop
  | .non, v => v = .non
  | .bl b, v => v = .bl b
  | .int i, v => v = .int i
  | .str s, v => v = .str (mkS s)
  | .tup xs, v => ∃ a vs, v = .ref a ∧ TupZ H Z a vs ∧ repL xs vs
  | .fl xs, v => ∃ a vs, v = .ref a ∧ LstZ H Z a vs ∧ repL xs vs
  | .sc xs, v => ∃ a vs, v = .ref a ∧ ((Z a ∧ Rd H a (.lst vs)) ∨ n.scl a vs) ∧ repL xs vs
  | .fd false kvs, v => ∃ a q, v = .ref a ∧ Z a ∧ Rd H a (.dK q) ∧ repK kvs q
  | .fd true kvs, v => ∃ a q, v = .ref a ∧ Z a ∧ Rd H a (.dT q) ∧ repT kvs q
  | .fi c fs, v => ∃ a dx gs, v = .ref a ∧ Z a ∧ Z dx ∧ H dx = some (.own a) ∧ H a = some (.ins (n.cls c) dx gs) ∧ repF fs gs
def repL : List D → List V → Prop
  | [], vs => vs = []
  | x :: xs, vs => ∃ v r, vs = v :: r ∧ rep x v ∧ repL xs r
def repK : List (D × D) → List (Key × V) → Prop
  | [], q => q = []
  | (k, x) :: kvs, q => ∃ kk v r, q = (kk, v) :: r ∧ toKey k = some kk ∧ rep x v ∧ repK kvs r
def repT : List (D × D) → List (List Key × V) → Prop
  | [], q => q = []
  | (k, x) :: kvs, q => ∃ kk v r, q = (kk, v) :: r ∧ toKeyT k = some kk ∧ rep x v ∧ repT kvs r
def repF : List (Nat × D) → List (Str × V) → Prop
  | [], q => q = []
  | (f, x) :: fs, q => ∃ v r, q = (n.fld f, v) :: r ∧ rep x v ∧ repF fs r
end
def dl (a : Addr) : Fp := fun b => if b = a then 1 else 0
mutual
/-- a slot's value: f is what it owns -/
def repV : PV → V → Fp → Prop
  | .un, _, f => ∀ b, f b = 0
  | .d x, v, f => rep n H Z x v ∧ ∀ b, f b = 0
  | .ol xs, v, f => ∃ a vs, v = .ref a ∧ H a = some (.lst vs) ∧ repL n H Z xs vs ∧ ∀ b, f b = dl a b
  | .od false kvs, v, f => ∃ a q, v = .ref a ∧ H a = some (.dK q) ∧ repK n H Z kvs q ∧ ∀ b, f b = dl a b
  | .od true kvs, v, f => ∃ a q, v = .ref a ∧ H a = some (.dT q) ∧ repT n H Z kvs q ∧ ∀ b, f b = dl a b
  | .oi c fs, v, f => ∃ a dx gs g, v = .ref a ∧ H dx = some (.own a) ∧ H a = some (.ins (n.cls c) dx gs) ∧ repVF fs gs g ∧ ∀ b, f b = dl a b + dl dx b + g b
  | .on xs, v, f => ∃ a vs g, v = .ref a ∧ H a = some (.lst vs) ∧ repVL xs vs g ∧ ∀ b, f b = dl a b + g b
  | .odn false kvs, v, f => ∃ a q g, v = .ref a ∧ H a = some (.dK q) ∧ repVK kvs q g ∧ ∀ b, f b = dl a b + g b
  | .odn true kvs, v, f => ∃ a q g, v = .ref a ∧ H a = some (.dT q) ∧ repVT kvs q g ∧ ∀ b, f b = dl a b + g b
  | .tp xs, v, f => ∃ a vs, v = .ref a ∧ TupZ H Z a vs ∧ repVL xs vs f
def repVL : List PV → List V → Fp → Prop
  | [], vs, f => vs = [] ∧ ∀ b, f b = 0
  | x :: xs, vs, f => ∃ v r g h, vs = v :: r ∧ repV x v g ∧ repVL xs r h ∧ ∀ b, f b = g b + h b
def repVK : List (D × PV) → List (Key × V) → Fp → Prop
  | [], q, f => q = [] ∧ ∀ b, f b = 0
  | (k, x) :: kvs, q, f => ∃ kk v r g h, q = (kk, v) :: r ∧ toKey k = some kk ∧ repV x v g ∧ repVK kvs r h ∧ ∀ b, f b = g b + h b
def repVT : List (D × PV) → List (List Key × V) → Fp → Prop
  | [], q, f => q = [] ∧ ∀ b, f b = 0
  | (k, x) :: kvs, q, f => ∃ kk v r g h, q = (kk, v) :: r ∧ toKeyT k = some kk ∧ repV x v g ∧ repVT kvs r h ∧ ∀ b, f b = g b + h b
def repVF : List (Nat × PV) → List (Str × V) → Fp → Prop
  | [], q, f => q = [] ∧ ∀ b, f b = 0
  | (k, x) :: fs, q, f => ∃ v r g h, q = (n.fld k, v) :: r ∧ repV x v g ∧ repVF fs r h ∧ ∀ b, f b = g b + h b
end
end
section
variable {n : Nms} {H H' : Hp} {Z Z' : Zs}
theorem TupZ.mono {a : Addr} {vs : List V} (k : ∀ a o, H a = some o → Z a → H' a = some o) (z : ∀ a, Z a → Z' a) : TupZ H Z a vs → TupZ H' Z' a vs
  | ⟨za, h⟩ => ⟨z a za, k a _ h za⟩
theorem LstZ.mono {a : Addr} {vs : List V} (k : ∀ a o, H a = some o → Z a → H' a = some o) (z : ∀ a, Z a → Z' a) : LstZ H Z a vs → LstZ H' Z' a vs
  | ⟨za, h⟩ => ⟨z a za, k a _ h za⟩
theorem Rd.monoZ {a : Addr} {u : HO} (k : ∀ a o, H a = some o → Z a → H' a = some o) (za : Z a) : Rd H a u → Rd H' a u
  | .inl h => .inl (k a _ h za)
  | .inr ⟨o, h⟩ => .inr ⟨o, k a _ h za⟩
theorem TupZ.sq {K : PySem.W.Frag} {a : Addr} {vs : List V} : TupZ H Z a vs → SqT K H a vs
  | ⟨_, h⟩ => .inl (.inl h)
theorem LstZ.sq {K : PySem.W.Frag} {a : Addr} {vs : List V} : LstZ H Z a vs → SqL K H a vs
  | ⟨_, h⟩ => .inl (.inl h)
mutual
theorem rep_mono (k : ∀ a o, H a = some o → Z a → H' a = some o) (z : ∀ a, Z a → Z' a) : ∀ (x : D) (v : V), rep n H Z x v → rep n H' Z' x v
  | .non, _, h => h
  | .bl _, _, h => h
  | .int _, _, h => h
  | .str _, _, h => h
  | .tup xs, _, ⟨a, vs, e, h, r⟩ => ⟨a, vs, e, h.mono k z, repL_mono k z xs vs r⟩
  | .fl xs, _, ⟨a, vs, e, h, r⟩ => ⟨a, vs, e, h.mono k z, repL_mono k z xs vs r⟩
  | .sc xs, _, ⟨a, vs, e, h, r⟩ => ⟨a, vs, e, h.imp (fun h => ⟨z a h.1, Rd.monoZ k h.1 h.2⟩) id, repL_mono k z xs vs r⟩
  | .fd false kvs, _, ⟨a, q, e, za, h, r⟩ => ⟨a, q, e, z a za, Rd.monoZ k za h, repK_mono k z kvs q r⟩
  | .fd true kvs, _, ⟨a, q, e, za, h, r⟩ => ⟨a, q, e, z a za, Rd.monoZ k za h, repT_mono k z kvs q r⟩
  | .fi c fs, _, ⟨a, dx, gs, e, za, zd, hd, h, r⟩ => ⟨a, dx, gs, e, z a za, z dx zd, k dx _ hd zd, k a _ h za, repF_mono k z fs gs r⟩
theorem repL_mono (k : ∀ a o, H a = some o → Z a → H' a = some o) (z : ∀ a, Z a → Z' a) : ∀ (xs : List D) (vs : List V), repL n H Z xs vs → repL n H' Z' xs vs
  | [], _, h => h
  | x :: xs, _, ⟨v, r, e, h, t⟩ => ⟨v, r, e, rep_mono k z x v h, repL_mono k z xs r t⟩
theorem repK_mono (k : ∀ a o, H a = some o → Z a → H' a = some o) (z : ∀ a, Z a → Z' a) : ∀ (xs : List (D × D)) (vs : List (Key × V)), repK n H Z xs vs → repK n H' Z' xs vs
  | [], _, h => h
  | (_, x) :: xs, _, ⟨kk, v, r, e, q, h, t⟩ => ⟨kk, v, r, e, q, rep_mono k z x v h, repK_mono k z xs r t⟩
theorem repT_mono (k : ∀ a o, H a = some o → Z a → H' a = some o) (z : ∀ a, Z a → Z' a) : ∀ (xs : List (D × D)) (vs : List (List Key × V)), repT n H Z xs vs → repT n H' Z' xs vs
  | [], _, h => h
  | (_, x) :: xs, _, ⟨kk, v, r, e, q, h, t⟩ => ⟨kk, v, r, e, q, rep_mono k z x v h, repT_mono k z xs r t⟩
theorem repF_mono (k : ∀ a o, H a = some o → Z a → H' a = some o) (z : ∀ a, Z a → Z' a) : ∀ (xs : List (Nat × D)) (vs : List (Str × V)), repF n H Z xs vs → repF n H' Z' xs vs
  | [], _, h => h
  | (_, x) :: xs, _, ⟨v, r, e, h, t⟩ => ⟨v, r, e, rep_mono k z x v h, repF_mono k z xs r t⟩
end
theorem dl_self (a : Addr) : dl a a = 1 := if_pos rfl
theorem dl_ne {a b : Addr} (h : b ≠ a) : dl a b = 0 := if_neg h
theorem dl_le (a b : Addr) : dl a b ≤ 1 := by unfold dl; split <;> omega
theorem dl_pos {a b : Addr} (h : 1 ≤ dl a b) : b = a := by
  unfold dl at h
  split at h
  · assumption
  · omega
mutual
theorem repV_mono : ∀ (x : PV) (v : V) (f : Fp), (∀ a o, H a = some o → (Z a ∨ 1 ≤ f a) → H' a = some o) → (∀ a, Z a → Z' a) → repV n H Z x v f → repV n H' Z' x v f
  | .un, _, _, _, _, h => h
  | .d x, v, _, k, z, ⟨h, e⟩ => ⟨rep_mono (fun a o q za => k a o q (.inl za)) z x v h, e⟩
  | .ol xs, _, f, k, z, ⟨a, vs, e, h, r, q⟩ => ⟨a, vs, e, k a _ h (.inr (by rw [q, dl_self]; exact Nat.le_refl _)), repL_mono (fun a o q za => k a o q (.inl za)) z xs vs r, q⟩
  | .od false kvs, _, f, k, z, ⟨a, w, e, h, r, q⟩ => ⟨a, w, e, k a _ h (.inr (by rw [q, dl_self]; exact Nat.le_refl _)), repK_mono (fun a o q za => k a o q (.inl za)) z kvs w r, q⟩
  | .od true kvs, _, f, k, z, ⟨a, w, e, h, r, q⟩ => ⟨a, w, e, k a _ h (.inr (by rw [q, dl_self]; exact Nat.le_refl _)), repT_mono (fun a o q za => k a o q (.inl za)) z kvs w r, q⟩
  | .oi c fs, _, f, k, z, ⟨a, dx, gs, g, e, hd, h, r, q⟩ => ⟨a, dx, gs, g, e, k dx _ hd (.inr (by rw [q, dl_self]; omega)), k a _ h (.inr (by rw [q, dl_self]; omega)),
      repVF_mono fs gs g (fun b o hb hz => k b o hb (hz.imp id fun l => by rw [q]; omega)) z r, q⟩
  | .on xs, _, f, k, z, ⟨a, vs, g, e, h, r, q⟩ => ⟨a, vs, g, e, k a _ h (.inr (by rw [q, dl_self]; omega)), repVL_mono xs vs g (fun b o hb hz => k b o hb (hz.imp id fun l => by rw [q]; omega)) z r, q⟩
  | .odn false kvs, _, f, k, z, ⟨a, w, g, e, h, r, q⟩ => ⟨a, w, g, e, k a _ h (.inr (by rw [q, dl_self]; omega)), repVK_mono kvs w g (fun b o hb hz => k b o hb (hz.imp id fun l => by rw [q]; omega)) z r, q⟩
  | .odn true kvs, _, f, k, z, ⟨a, w, g, e, h, r, q⟩ => ⟨a, w, g, e, k a _ h (.inr (by rw [q, dl_self]; omega)), repVT_mono kvs w g (fun b o hb hz => k b o hb (hz.imp id fun l => by rw [q]; omega)) z r, q⟩
  | .tp xs, _, f, k, z, ⟨a, vs, e, h, r⟩ => ⟨a, vs, e, h.mono (fun a o q za => k a o q (.inl za)) z, repVL_mono xs vs f k z r⟩
theorem repVL_mono : ∀ (x : List PV) (v : List V) (f : Fp), (∀ a o, H a = some o → (Z a ∨ 1 ≤ f a) → H' a = some o) → (∀ a, Z a → Z' a) → repVL n H Z x v f → repVL n H' Z' x v f
  | [], _, _, _, _, h => h
  | x :: xs, _, f, k, z, ⟨v, r, g, h, e, a, b, q⟩ => ⟨v, r, g, h, e, repV_mono x v g (fun c o hb hz => k c o hb (hz.imp id fun l => by rw [q]; omega)) z a,
      repVL_mono xs r h (fun c o hb hz => k c o hb (hz.imp id fun l => by rw [q]; omega)) z b, q⟩
theorem repVK_mono : ∀ (x : List (D × PV)) (v : List (Key × V)) (f : Fp), (∀ a o, H a = some o → (Z a ∨ 1 ≤ f a) → H' a = some o) → (∀ a, Z a → Z' a) → repVK n H Z x v f → repVK n H' Z' x v f
  | [], _, _, _, _, h => h
  | (_, x) :: xs, _, f, k, z, ⟨kk, v, r, g, h, e, w, a, b, q⟩ => ⟨kk, v, r, g, h, e, w, repV_mono x v g (fun c o hb hz => k c o hb (hz.imp id fun l => by rw [q]; omega)) z a,
      repVK_mono xs r h (fun c o hb hz => k c o hb (hz.imp id fun l => by rw [q]; omega)) z b, q⟩
theorem repVT_mono : ∀ (x : List (D × PV)) (v : List (List Key × V)) (f : Fp), (∀ a o, H a = some o → (Z a ∨ 1 ≤ f a) → H' a = some o) → (∀ a, Z a → Z' a) → repVT n H Z x v f → repVT n H' Z' x v f
  | [], _, _, _, _, h => h
  | (_, x) :: xs, _, f, k, z, ⟨kk, v, r, g, h, e, w, a, b, q⟩ => ⟨kk, v, r, g, h, e, w, repV_mono x v g (fun c o hb hz => k c o hb (hz.imp id fun l => by rw [q]; omega)) z a,
      repVT_mono xs r h (fun c o hb hz => k c o hb (hz.imp id fun l => by rw [q]; omega)) z b, q⟩
theorem repVF_mono : ∀ (x : List (Nat × PV)) (v : List (Str × V)) (f : Fp), (∀ a o, H a = some o → (Z a ∨ 1 ≤ f a) → H' a = some o) → (∀ a, Z a → Z' a) → repVF n H Z x v f → repVF n H' Z' x v f
  | [], _, _, _, _, h => h
  | (_, x) :: xs, _, f, k, z, ⟨v, r, g, h, e, a, b, q⟩ => ⟨v, r, g, h, e, repV_mono x v g (fun c o hb hz => k c o hb (hz.imp id fun l => by rw [q]; omega)) z a,
      repVF_mono xs r h (fun c o hb hz => k c o hb (hz.imp id fun l => by rw [q]; omega)) z b, q⟩
end
mutual
/-- what is owned is there -/
theorem repV_there : ∀ (x : PV) (v : V) (f : Fp), repV n H Z x v f → ∀ a, 1 ≤ f a → H a ≠ none
  | .un, _, _, h, a, l => by rw [h a] at l; omega
  | .d x, v, _, ⟨_, e⟩, a, l => by rw [e a] at l; omega
  | .ol xs, _, f, ⟨a, vs, e, h, r, q⟩, b, l => by rw [q] at l; rw [dl_pos l, h]; simp
  | .od false kvs, _, f, ⟨a, w, e, h, r, q⟩, b, l => by rw [q] at l; rw [dl_pos l, h]; simp
  | .od true kvs, _, f, ⟨a, w, e, h, r, q⟩, b, l => by rw [q] at l; rw [dl_pos l, h]; simp
  | .oi c fs, _, f, ⟨a, dx, gs, g, e, hd, h, r, q⟩, b, l => by
    rw [q] at l
    by_cases l1 : 1 ≤ dl a b
    · rw [dl_pos l1, h]; simp
    · by_cases l2 : 1 ≤ dl dx b
      · rw [dl_pos l2, hd]; simp
      · exact repVF_there fs gs g r b (by omega)
  | .on xs, _, f, ⟨a, vs, g, e, h, r, q⟩, b, l => by
    rw [q] at l
    by_cases l1 : 1 ≤ dl a b
    · rw [dl_pos l1, h]; simp
    · exact repVL_there xs vs g r b (by omega)
  | .odn false kvs, _, f, ⟨a, w, g, e, h, r, q⟩, b, l => by
    rw [q] at l
    by_cases l1 : 1 ≤ dl a b
    · rw [dl_pos l1, h]; simp
    · exact repVK_there kvs w g r b (by omega)
  | .odn true kvs, _, f, ⟨a, w, g, e, h, r, q⟩, b, l => by
    rw [q] at l
    by_cases l1 : 1 ≤ dl a b
    · rw [dl_pos l1, h]; simp
    · exact repVT_there kvs w g r b (by omega)
  | .tp xs, _, f, ⟨a, vs, e, h, r⟩, b, l => repVL_there xs vs f r b l
theorem repVL_there : ∀ (x : List PV) (v : List V) (f : Fp), repVL n H Z x v f → ∀ a, 1 ≤ f a → H a ≠ none
  | [], _, _, h, a, l => by rw [h.2 a] at l; omega
  | x :: xs, _, f, ⟨v, r, g, h, e, p, b, q⟩, a, l => by
    rw [q] at l
    by_cases l1 : 1 ≤ g a
    · exact repV_there x v g p a l1
    · exact repVL_there xs r h b a (by omega)
theorem repVK_there : ∀ (x : List (D × PV)) (v : List (Key × V)) (f : Fp), repVK n H Z x v f → ∀ a, 1 ≤ f a → H a ≠ none
  | [], _, _, h, a, l => by rw [h.2 a] at l; omega
  | (_, x) :: xs, _, f, ⟨kk, v, r, g, h, e, w, p, b, q⟩, a, l => by
    rw [q] at l
    by_cases l1 : 1 ≤ g a
    · exact repV_there x v g p a l1
    · exact repVK_there xs r h b a (by omega)
theorem repVT_there : ∀ (x : List (D × PV)) (v : List (List Key × V)) (f : Fp), repVT n H Z x v f → ∀ a, 1 ≤ f a → H a ≠ none
  | [], _, _, h, a, l => by rw [h.2 a] at l; omega
  | (_, x) :: xs, _, f, ⟨kk, v, r, g, h, e, w, p, b, q⟩, a, l => by
    rw [q] at l
    by_cases l1 : 1 ≤ g a
    · exact repV_there x v g p a l1
    · exact repVT_there xs r h b a (by omega)
theorem repVF_there : ∀ (x : List (Nat × PV)) (v : List (Str × V)) (f : Fp), repVF n H Z x v f → ∀ a, 1 ≤ f a → H a ≠ none
  | [], _, _, h, a, l => by rw [h.2 a] at l; omega
  | (_, x) :: xs, _, f, ⟨v, r, g, h, e, p, b, q⟩, a, l => by
    rw [q] at l
    by_cases l1 : 1 ≤ g a
    · exact repV_there x v g p a l1
    · exact repVF_there xs r h b a (by omega)
end
/-! ### freezing: what was owned joins Z -/
theorem repL_len : ∀ (xs : List D) (vs : List V), repL n H Z xs vs → xs.length = vs.length
  | [], _, h => by
    have e : _ = [] := h
    rw [e]
    rfl
  | x :: xs, _, ⟨v, r, e, _, t⟩ => by rw [e, List.length_cons, List.length_cons, repL_len xs r t]
mutual
theorem frz_rep : ∀ (p : PV) (x : D) (v : V) (f : Fp), frz p = some x → (∀ a, 1 ≤ f a → Z' a) → (∀ a, Z a → Z' a) → repV n H Z p v f → rep n H Z' x v
  | .un, _, _, _, e, _, _, _ => by simp [frz] at e
  | .d y, x, v, f, e, hf, z, ⟨h, _⟩ => by
    have e' : y = x := by simpa [frz] using e
    rw [← e']
    exact rep_mono (fun _ _ h _ => h) z y v h
  | .ol xs, x, v, f, e, hf, z, ⟨a, vs, ev, h, r, q⟩ => by
    have e' : D.fl xs = x := by simpa [frz] using e
    rw [← e']
    exact ⟨a, vs, ev, ⟨hf a (by rw [q, dl_self]; exact Nat.le_refl _), h⟩, repL_mono (fun _ _ h _ => h) z xs vs r⟩
  | .od false kvs, x, v, f, e, hf, z, ⟨a, w, ev, h, r, q⟩ => by
    have e' : D.fd false kvs = x := by simpa [frz] using e
    rw [← e']
    exact ⟨a, w, ev, hf a (by rw [q, dl_self]; exact Nat.le_refl _), .inl h, repK_mono (fun _ _ h _ => h) z kvs w r⟩
  | .od true kvs, x, v, f, e, hf, z, ⟨a, w, ev, h, r, q⟩ => by
    have e' : D.fd true kvs = x := by simpa [frz] using e
    rw [← e']
    exact ⟨a, w, ev, hf a (by rw [q, dl_self]; exact Nat.le_refl _), .inl h, repT_mono (fun _ _ h _ => h) z kvs w r⟩
  | .oi c fs, x, v, f, e, hf, z, ⟨a, dx, gs, g, ev, hd, h, r, q⟩ => by
    cases e1 : frzF fs with
    | none => simp [frz, e1] at e
    | some ys =>
      have e' : D.fi c ys = x := by simpa [frz, e1] using e
      rw [← e']
      exact ⟨a, dx, gs, ev, hf a (by rw [q, dl_self]; omega), hf dx (by rw [q, dl_self]; omega), hd, h, frzF_rep fs ys gs g e1 (fun b l => hf b (by rw [q]; omega)) z r⟩
  | .on xs, x, v, f, e, hf, z, ⟨a, vs, g, ev, h, r, q⟩ => by
    cases e1 : frzL xs with
    | none => simp [frz, e1] at e
    | some ys =>
      have e' : D.fl ys = x := by simpa [frz, e1] using e
      rw [← e']
      exact ⟨a, vs, ev, ⟨hf a (by rw [q, dl_self]; omega), h⟩, frzL_rep xs ys vs g e1 (fun b l => hf b (by rw [q]; omega)) z r⟩
  | .odn false kvs, x, v, f, e, hf, z, ⟨a, w, g, ev, h, r, q⟩ => by
    cases e1 : frzK kvs with
    | none => simp [frz, e1] at e
    | some ys =>
      have e' : D.fd false ys = x := by simpa [frz, e1] using e
      rw [← e']
      exact ⟨a, w, ev, hf a (by rw [q, dl_self]; omega), .inl h, frzK_rep kvs ys w g e1 (fun b l => hf b (by rw [q]; omega)) z r⟩
  | .odn true kvs, x, v, f, e, hf, z, ⟨a, w, g, ev, h, r, q⟩ => by
    cases e1 : frzK kvs with
    | none => simp [frz, e1] at e
    | some ys =>
      have e' : D.fd true ys = x := by simpa [frz, e1] using e
      rw [← e']
      exact ⟨a, w, ev, hf a (by rw [q, dl_self]; omega), .inl h, frzT_rep kvs ys w g e1 (fun b l => hf b (by rw [q]; omega)) z r⟩
  | .tp xs, x, v, f, e, hf, z, ⟨a, vs, ev, h, r⟩ => by
    cases e1 : frzL xs with
    | none => simp [frz, e1] at e
    | some ys =>
      have e' : D.tup ys = x := by simpa [frz, e1] using e
      rw [← e']
      exact ⟨a, vs, ev, h.mono (fun _ _ h _ => h) z, frzL_rep xs ys vs f e1 hf z r⟩
theorem frzL_rep : ∀ (p : List PV) (x : List D) (v : List V) (f : Fp), frzL p = some x → (∀ a, 1 ≤ f a → Z' a) → (∀ a, Z a → Z' a) → repVL n H Z p v f → repL n H Z' x v
  | [], x, v, f, e, hf, z, h => by
    have e' : [] = x := by simpa [frzL] using e
    rw [← e']
    exact h.1
  | y :: ys, x, v, f, e, hf, z, ⟨w, r, g, h, ev, p, b, q⟩ => by
    cases e1 : frz y with
    | none => simp [frzL, e1] at e
    | some y' =>
      cases e2 : frzL ys with
      | none => simp [frzL, e1, e2] at e
      | some ys' =>
        have e' : y' :: ys' = x := by simpa [frzL, e1, e2] using e
        rw [← e']
        exact ⟨w, r, ev, frz_rep y y' w g e1 (fun c l => hf c (by rw [q]; omega)) z p, frzL_rep ys ys' r h e2 (fun c l => hf c (by rw [q]; omega)) z b⟩
theorem frzK_rep : ∀ (p : List (D × PV)) (x : List (D × D)) (v : List (Key × V)) (f : Fp), frzK p = some x → (∀ a, 1 ≤ f a → Z' a) → (∀ a, Z a → Z' a) → repVK n H Z p v f → repK n H Z' x v
  | [], x, v, f, e, hf, z, h => by
    have e' : [] = x := by simpa [frzK] using e
    rw [← e']
    exact h.1
  | (k, y) :: ys, x, v, f, e, hf, z, ⟨kk, w, r, g, h, ev, ek, p, b, q⟩ => by
    cases e1 : frz y with
    | none => simp [frzK, e1] at e
    | some y' =>
      cases e2 : frzK ys with
      | none => simp [frzK, e1, e2] at e
      | some ys' =>
        have e' : (k, y') :: ys' = x := by simpa [frzK, e1, e2] using e
        rw [← e']
        exact ⟨kk, w, r, ev, ek, frz_rep y y' w g e1 (fun c l => hf c (by rw [q]; omega)) z p, frzK_rep ys ys' r h e2 (fun c l => hf c (by rw [q]; omega)) z b⟩
theorem frzT_rep : ∀ (p : List (D × PV)) (x : List (D × D)) (v : List (List Key × V)) (f : Fp), frzK p = some x → (∀ a, 1 ≤ f a → Z' a) → (∀ a, Z a → Z' a) → repVT n H Z p v f → repT n H Z' x v
  | [], x, v, f, e, hf, z, h => by
    have e' : [] = x := by simpa [frzK] using e
    rw [← e']
    exact h.1
  | (k, y) :: ys, x, v, f, e, hf, z, ⟨kk, w, r, g, h, ev, ek, p, b, q⟩ => by
    cases e1 : frz y with
    | none => simp [frzK, e1] at e
    | some y' =>
      cases e2 : frzK ys with
      | none => simp [frzK, e1, e2] at e
      | some ys' =>
        have e' : (k, y') :: ys' = x := by simpa [frzK, e1, e2] using e
        rw [← e']
        exact ⟨kk, w, r, ev, ek, frz_rep y y' w g e1 (fun c l => hf c (by rw [q]; omega)) z p, frzT_rep ys ys' r h e2 (fun c l => hf c (by rw [q]; omega)) z b⟩
theorem frzF_rep : ∀ (p : List (Nat × PV)) (x : List (Nat × D)) (v : List (Str × V)) (f : Fp), frzF p = some x → (∀ a, 1 ≤ f a → Z' a) → (∀ a, Z a → Z' a) → repVF n H Z p v f → repF n H Z' x v
  | [], x, v, f, e, hf, z, h => by
    have e' : [] = x := by simpa [frzF] using e
    rw [← e']
    exact h.1
  | (k, y) :: ys, x, v, f, e, hf, z, ⟨w, r, g, h, ev, p, b, q⟩ => by
    cases e1 : frz y with
    | none => simp [frzF, e1] at e
    | some y' =>
      cases e2 : frzF ys with
      | none => simp [frzF, e1, e2] at e
      | some ys' =>
        have e' : (k, y') :: ys' = x := by simpa [frzF, e1, e2] using e
        rw [← e']
        exact ⟨w, r, ev, frz_rep y y' w g e1 (fun c l => hf c (by rw [q]; omega)) z p, frzF_rep ys ys' r h e2 (fun c l => hf c (by rw [q]; omega)) z b⟩
end
end
end Rt

set_option Elab.async false
set_option linter.all false
set_option maxRecDepth 100000
/-! Rt3: the state of a block (slots, owners, what is frozen), the step, the readings. -/
namespace Rt
open PySem PySem.Spec PyProof.Rows L2

/-! ### slots -/
theorem get_put_same : ∀ {ρ : Env} {i : Nat} {v : PV}, i < ρ.length → get (put ρ i v) i = v
  | _ :: _, 0, _, _ => rfl
  | _ :: r, i + 1, v, h => get_put_same (ρ := r) (by simpa using h)
  | [], _, _, h => by simp at h
theorem get_put_ne : ∀ {ρ : Env} {i j : Nat} {v : PV}, j ≠ i → get (put ρ i v) j = get ρ j
  | [], _, _, _, _ => rfl
  | _ :: _, 0, 0, _, h => absurd rfl h
  | _ :: _, 0, _ + 1, _, _ => rfl
  | _ :: _, _ + 1, 0, _, _ => rfl
  | _ :: r, i + 1, j + 1, v, h => get_put_ne (ρ := r) (fun e => h (by rw [e]))
theorem put_length : ∀ {ρ : Env} {i : Nat} {v : PV}, (put ρ i v).length = ρ.length
  | [], _, _ => rfl
  | _ :: _, 0, _ => rfl
  | _ :: r, i + 1, v => by
    show (put r i v).length + 1 = r.length + 1
    rw [put_length]
theorem get_out : ∀ {ρ : Env} {i : Nat}, ρ.length ≤ i → get ρ i = .un
  | [], _, _ => rfl
  | _ :: _, 0, h => by simp at h
  | _ :: r, i + 1, h => get_out (ρ := r) (by simpa using h)
theorem get_lt {ρ : Env} {i : Nat} (h : get ρ i ≠ .un) : i < ρ.length := by
  rcases Nat.lt_or_ge i ρ.length with l | l
  · exact l
  · exact absurd (get_out l) h

section
variable (n : Nms)
def repO (H : Hp) (Z : Zs) (p : PV) (o : Option (Option V)) (f : Fp) : Prop := match p with
  | .un => ∀ a, f a = 0
  | p => ∃ v, o = some (some v) ∧ repV n H Z p v f
/-- the state: the slots' values ρ stand for σ, slot i owns F i; R: what others own (temporaries, callers); Z: what is frozen -/
structure Sv (H : Hp) (Z : Zs) (ρ : Env) (σ : L2.St) (F : Nat → Fp) (R : Fp) : Prop where
  len : ρ.length = σ.length
  at_ : ∀ i, repO n H Z (get ρ i) (σ[i]?) (F i)
  one : ∀ i a, F i a + R a ≤ 1
  oneR : ∀ a, R a ≤ 1
  dis : ∀ i j a, i ≠ j → F i a = 0 ∨ F j a = 0
  zz : ∀ a, Z a → H a ≠ none ∧ R a = 0 ∧ ∀ i, F i a = 0
  all : ∀ a, 1 ≤ R a → H a ≠ none
end
/-- a step: m tells the slots that it may touch -/
structure Go (m : Nat → Bool) (R : Fp) (H : Hp) (Z : Zs) (F : Nat → Fp) (ρ : Env) (H' : Hp) (Z' : Zs) (F' : Nat → Fp) (ρ' : Env) : Prop where
  keep : ∀ a o, H a = some o → (1 ≤ R a ∨ Z a ∨ ∃ i, m i = false ∧ 1 ≤ F i a) → H' a = some o
  zm : ∀ a, Z a → Z' a
  un : ∀ i, m i = false → (∀ a, F' i a = F i a) ∧ get ρ' i = get ρ i
section
variable {n : Nms} {H H' H1 H2 : Hp} {Z Z' Z1 Z2 : Zs} {ρ ρ' ρ1 ρ2 : Env} {σ : L2.St} {F F' F1 F2 : Nat → Fp} {R R' R1 : Fp} {m m1 m2 : Nat → Bool}
theorem Sv.congr (S : Sv n H Z ρ σ F R) (e : ∀ a, R' a = R a) : Sv n H Z ρ σ F R' :=
  ⟨S.len, S.at_, fun i a => by rw [e]; exact S.one i a, fun a => by rw [e]; exact S.oneR a, S.dis, fun a z => by rw [e]; exact S.zz a z, fun a l => S.all a (by rw [← e]; exact l)⟩
theorem Sv.slot (S : Sv n H Z ρ σ F R) {i : Nat} {p : PV} (h : get ρ i = p) (hp : p ≠ .un) : ∃ v, σ[i]? = some (some v) ∧ repV n H Z p v (F i) := by
  have x := S.at_ i
  rw [h] at x
  cases p with
  | un => exact absurd rfl hp
  | _ => exact x
theorem Sv.there (S : Sv n H Z ρ σ F R) (i : Nat) (a : Addr) (l : 1 ≤ F i a) : H a ≠ none := by
  have x := S.at_ i
  cases h : get ρ i with
  | un =>
    rw [h] at x
    have := x a
    omega
  | _ =>
    rw [h] at x
    obtain ⟨v, _, r⟩ := x
    exact repV_there _ v _ r a l
/-- fewer others -/
theorem Sv.less (S : Sv n H Z ρ σ F R) (h : ∀ a, R' a ≤ R a) : Sv n H Z ρ σ F R' :=
  ⟨S.len, S.at_, fun i a => by have := S.one i a; have := h a; omega, fun a => Nat.le_trans (h a) (S.oneR a), S.dis,
    fun a z => ⟨(S.zz a z).1, by have := (S.zz a z).2.1; have := h a; omega, (S.zz a z).2.2⟩, fun a l => S.all a (Nat.le_trans l (h a))⟩
theorem Go.refl : Go m R H Z F ρ H Z F ρ := ⟨fun _ _ h _ => h, fun _ h => h, fun _ _ => ⟨fun _ => rfl, rfl⟩⟩
theorem Go.mono (g : Go m1 R H Z F ρ H' Z' F' ρ') (h : ∀ i, m1 i = true → m2 i = true) : Go m2 R H Z F ρ H' Z' F' ρ' := by
  have h' : ∀ i, m2 i = false → m1 i = false := fun i e => by
    cases q : m1 i with
    | false => rfl
    | true => rw [h i q] at e; cases e
  exact ⟨fun a o e k => g.keep a o e (k.imp id (Or.imp id fun ⟨i, e, l⟩ => ⟨i, h' i e, l⟩)), g.zm, fun i e => g.un i (h' i e)⟩
theorem Go.trans (g1 : Go m1 R H Z F ρ H1 Z1 F1 ρ1) (g2 : Go m2 R1 H1 Z1 F1 ρ1 H2 Z2 F2 ρ2) (hR : ∀ a, R a ≤ R1 a) : Go (fun i => m1 i || m2 i) R H Z F ρ H2 Z2 F2 ρ2 where
  keep := fun a o e k => by
    refine g2.keep a o (g1.keep a o e ?_) ?_
    · exact k.imp id (Or.imp id fun ⟨i, e, l⟩ => ⟨i, (Bool.or_eq_false_iff.mp e).1, l⟩)
    · rcases k with l | l | ⟨i, e, l⟩
      · exact .inl (Nat.le_trans l (hR a))
      · exact .inr (.inl (g1.zm a l))
      · exact .inr (.inr ⟨i, (Bool.or_eq_false_iff.mp e).2, by rw [(g1.un i (Bool.or_eq_false_iff.mp e).1).1]; exact l⟩)
  zm := fun a z => g2.zm a (g1.zm a z)
  un := fun i e => by
    obtain ⟨e1, e2⟩ := Bool.or_eq_false_iff.mp e
    exact ⟨fun a => ((g2.un i e2).1 a).trans ((g1.un i e1).1 a), (g2.un i e2).2.trans (g1.un i e1).2⟩
/-- what others hold is kept -/
theorem Go.other (g : Go m R H Z F ρ H' Z' F' ρ') {p : PV} {v : V} {f : Fp} (hf : ∀ a, f a ≤ R a) (r : repV n H Z p v f) : repV n H' Z' p v f :=
  repV_mono p v f (fun a o e k => g.keep a o e (k.elim (fun z => .inr (.inl z)) fun l => .inl (Nat.le_trans l (hf a)))) g.zm r
/-- a slot that is not touched is kept -/
theorem Go.mine (g : Go m R H Z F ρ H' Z' F' ρ') {i : Nat} (hi : m i = false) {p : PV} {v : V} (r : repV n H Z p v (F i)) : repV n H' Z' p v (F i) :=
  repV_mono p v (F i) (fun a o e k => g.keep a o e (k.elim (fun z => .inr (.inl z)) fun l => .inr (.inr ⟨i, hi, l⟩))) g.zm r
theorem Go.pure_ (g : Go m R H Z F ρ H' Z' F' ρ') {x : D} {v : V} (r : rep n H Z x v) : rep n H' Z' x v :=
  rep_mono (fun a o e z => g.keep a o e (.inr (.inl z))) g.zm x v r

theorem Sv.repV_congr {p : PV} {v : V} {f g : Fp} (e : ∀ a, g a = f a) (r : repV n H Z p v f) : repV n H Z p v g := by
  have : g = f := funext e
  rw [this]
  exact r
/-- the heap has grown (new objects, some of them frozen), no slot is touched -/
structure Ext (H : Hp) (Z : Zs) (H' : Hp) (Z' : Zs) : Prop where
  keep : ∀ a o, H a = some o → H' a = some o
  zm : ∀ a, Z a → Z' a
  zn : ∀ a, Z' a → Z a ∨ H a = none
  zt : ∀ a, Z' a → H' a ≠ none
theorem Ext.refl (h : ∀ a, Z a → H a ≠ none) : Ext H Z H Z := ⟨fun _ _ h => h, fun _ h => h, fun _ h => .inl h, h⟩
theorem Ext.go (x : Ext H Z H' Z') : Go m R H Z F ρ H' Z' F ρ := ⟨fun a o e _ => x.keep a o e, x.zm, fun _ _ => ⟨fun _ => rfl, rfl⟩⟩
/-- a value made: what it owns is new -/
structure New (n : Nms) (H : Hp) (Z : Zs) (H' : Hp) (Z' : Zs) (p : PV) (v : V) (f : Fp) : Prop where
  ext : Ext H Z H' Z'
  rp : repV n H' Z' p v f
  one : ∀ a, f a ≤ 1
  fresh : ∀ a, 1 ≤ f a → H a = none ∧ ¬ Z' a
/-- the heap has grown, something new is owned by others -/
theorem Sv.add (S : Sv n H Z ρ σ F R) (x : Ext H Z H' Z') {f : Fp} (one : ∀ a, f a ≤ 1) (fresh : ∀ a, 1 ≤ f a → H a = none ∧ ¬ Z' a ∧ H' a ≠ none) : Sv n H' Z' ρ σ F fun a => R a + f a where
  len := S.len
  at_ := fun i => by
    have y := S.at_ i
    have k : ∀ q v, repV n H Z q v (F i) → repV n H' Z' q v (F i) := fun q v r => repV_mono q v (F i) (fun a o e _ => x.keep a o e) x.zm r
    unfold repO at y ⊢
    split
    · rename_i e
      rw [e] at y
      exact y
    · rename_i p hp
      split at y
      · rename_i e
        exact absurd e hp
      · obtain ⟨v, e, r⟩ := y
        exact ⟨v, e, k _ v r⟩
  one := fun i a => by
    have h1 := S.one i a
    rcases Nat.eq_zero_or_pos (f a) with h | h
    · show F i a + (R a + f a) ≤ 1
      omega
    · have hn := (fresh a h).1
      have h2 : R a = 0 := by
        rcases Nat.eq_zero_or_pos (R a) with h | h
        · exact h
        · exact absurd hn (S.all a h)
      have h3 : F i a = 0 := by
        rcases Nat.eq_zero_or_pos (F i a) with h | h
        · exact h
        · exact absurd hn (S.there i a h)
      have := one a
      show F i a + (R a + f a) ≤ 1
      omega
  oneR := fun a => by
    have h1 := S.oneR a
    rcases Nat.eq_zero_or_pos (f a) with h | h
    · show R a + f a ≤ 1
      omega
    · have hn := (fresh a h).1
      have h2 : R a = 0 := by
        rcases Nat.eq_zero_or_pos (R a) with h | h
        · exact h
        · exact absurd hn (S.all a h)
      have := one a
      show R a + f a ≤ 1
      omega
  dis := S.dis
  zz := fun a z => by
    have hf : f a = 0 := by
      rcases Nat.eq_zero_or_pos (f a) with h | h
      · exact h
      · exact absurd z (fresh a h).2.1
    have hz := x.zt a z
    rcases x.zn a z with zo | hn
    · obtain ⟨_, h2, h3⟩ := S.zz a zo
      exact ⟨hz, by show R a + f a = 0; omega, h3⟩
    · refine ⟨hz, ?_, fun i => ?_⟩
      · have h2 : R a = 0 := by
          rcases Nat.eq_zero_or_pos (R a) with h | h
          · exact h
          · exact absurd hn (S.all a h)
        show R a + f a = 0
        omega
      · rcases Nat.eq_zero_or_pos (F i a) with h | h
        · exact h
        · exact absurd hn (S.there i a h)
  all := fun a l => by
    have l' : 1 ≤ R a + f a := l
    rcases Nat.eq_zero_or_pos (f a) with h | h
    · have := S.all a (by omega)
      intro e
      cases q : H a with
      | none => exact this q
      | some o => rw [x.keep a o q] at e; cases e
    · exact (fresh a h).2.2
theorem Sv.ext (S : Sv n H Z ρ σ F R) (x : Ext H Z H' Z') : Sv n H' Z' ρ σ F R :=
  (S.add x (f := fun _ => 0) (fun _ => Nat.zero_le _) fun a l => by omega).congr fun _ => rfl
theorem Sv.new (S : Sv n H Z ρ σ F R) {p : PV} {v : V} {f : Fp} (w : New n H Z H' Z' p v f) : Sv n H' Z' ρ σ F fun a => R a + f a :=
  S.add w.ext w.one fun a h => ⟨(w.fresh a h).1, (w.fresh a h).2, repV_there p v f w.rp a h⟩
theorem Sv.zt (S : Sv n H Z ρ σ F R) : ∀ a, Z a → H a ≠ none := fun a z => (S.zz a z).1
end
end Rt

set_option Elab.async false
set_option linter.all false
set_option maxRecDepth 100000
/-! Rt4: the readings of expressions, and that they are kept. -/
namespace Rt
open PySem PySem.Spec PyProof.Rows L2

/-! ### what an expression may touch -/
def iosL : List E → List Nat
  | [] => []
  | .io i :: es => i :: iosL es
  | _ :: es => iosL es
mutual
def mtE : E → List Nat
  | .c _ => []
  | .v _ => []
  | .rd _ => []
  | .io _ => []
  | .mv i => [i]
  | .fz i => [i]
  | .frz e => mtE e
  | .tup es => mtL es
  | .lst es => mtL es
  | .dic _ es => mtL es
  | .pr _ es => mtL es
  | .an es => mtL es
  | .or es => mtL es
  | .nt e => mtE e
  | .ite t a b => mtE t ++ (mtE a ++ mtE b)
  | .ch _ _ a b c => mtE a ++ (mtE b ++ mtE c)
  | .cl _ es => mtL es ++ iosL es
  | .clk _ _ es => mtL es
  | .mk _ _ es => mtL es ++ iosL es
  | .mt _ _ es => mtL es ++ iosL es
  | .mu _ i es => mtL es ++ [i]
  | .ixs _ k => mtE k
  | .lc tg it cs elt => mtI it ++ (mtL cs ++ (mtE elt ++ tgs tg))
  | .lc2 tg it cs tg2 it2 cs2 elt => mtI it ++ (mtL cs ++ (mtI it2 ++ (mtL cs2 ++ (mtE elt ++ (tgs tg ++ tgs tg2)))))
  | .dc _ tg it cs k v => mtI it ++ (mtL cs ++ (mtE k ++ (mtE v ++ tgs tg)))
def mtL : List E → List Nat
  | [] => []
  | e :: es => mtE e ++ mtL es
def mtI : It → List Nat
  | .e x => mtE x
  | .rng es => mtL es
  | .enu x => mtE x
  | .zip a b => mtE a ++ mtE b
end
def mset (l : List Nat) : Nat → Bool := fun i => l.contains i
theorem mset_app (a b : List Nat) : ∀ i, mset (a ++ b) i = (mset a i || mset b i) := fun i => by simp [mset]
def rdOf : E → Option Nat
  | .rd i => some i
  | _ => none

section
variable (n : Nms) (C : Orc)
/-- what is true of a result: a borrowed one is its slot's; another one is owned (f) -/
def resV (e : E) (p : PV) (v : V) (σ : L2.St) (ρ' : Env) (F' : Nat → Fp) (f : Fp) (H' : Hp) (Z' : Zs) : Prop := match rdOf e with
  | none => repV n H' Z' p v f
  | some i => p = get ρ' i ∧ repV n H' Z' p v (F' i) ∧ (∀ a, f a = 0) ∧ σ[i]? = some (some v)
def tE (e : E) : TE := fun σ H Q => ∃ ρ F R Z p ρ', Sv n H Z ρ σ F R ∧ evE C e ρ = some (p, ρ') ∧
  ∀ v H' F' Z' f, Go (mset (mtE e)) R H Z F ρ H' Z' F' ρ' → Sv n H' Z' ρ' σ F' (fun a => R a + f a) → resV n e p v σ ρ' F' f H' Z' → Q v H'
/-- a list of results -/
def resL (σ : L2.St) (ρ' : Env) (F' : Nat → Fp) (H' : Hp) (Z' : Zs) : List E → List PV → List V → Fp → Prop
  | [], ps, vs, f => ps = [] ∧ vs = [] ∧ ∀ a, f a = 0
  | e :: es, ps, vs, f => ∃ p v ps' vs' g h, ps = p :: ps' ∧ vs = v :: vs' ∧ (∀ a, f a = g a + h a) ∧ resV n e p v σ ρ' F' g H' Z' ∧ resL σ ρ' F' H' Z' es ps' vs' h
/-- what is borrowed is not touched by what stands behind it -/
def rdOk : List E → Bool
  | [] => true
  | e :: es => (match rdOf e with
    | some i => !(mtL es).contains i
    | none => true) && rdOk es
def tL (es : List E) : TA := fun σ H Q => ∃ ρ F R Z ps ρ', Sv n H Z ρ σ F R ∧ evL C es ρ = some (ps, ρ') ∧ rdOk es = true ∧
  ∀ vs H' F' Z' f, Go (mset (mtL es)) R H Z F ρ H' Z' F' ρ' → Sv n H' Z' ρ' σ F' (fun a => R a + f a) → resL n σ ρ' F' H' Z' es ps vs f → Q vs H'
end

section
variable {n : Nms} {C : Orc}
theorem pe_wk {X : Cx} {a : Expr} {t t' : TE} (h : PE X a t) (w : ∀ σ H Q, t' σ H Q → t σ H Q) : PE X a t' := ⟨fun pins s σ H Q I x => h.run pins s σ H Q I (w _ _ _ x)⟩
theorem pa_wk {X : Cx} {a : List Expr} {t t' : TA} (h : PA X a t) (w : ∀ σ H Q, t' σ H Q → t σ H Q) : PA X a t' := ⟨fun pos pins s σ H Q I x => h.run pos pins s σ H Q I (w _ _ _ x)⟩
theorem Sv.zero {H : Hp} {Z : Zs} {ρ : Env} {σ : L2.St} {F : Nat → Fp} {R : Fp} (S : Sv n H Z ρ σ F R) {f : Fp} (e : ∀ a, f a = 0) : Sv n H Z ρ σ F fun a => R a + f a :=
  S.congr fun a => by rw [e]; rfl

/-! ### lists of arguments -/
theorem tL_nil {σ : L2.St} {H : Hp} {Q : List V → Hp → Prop} (h : tL n C [] σ H Q) : tNil σ H Q := by
  obtain ⟨ρ, F, R, Z, ps, ρ', S, e, _, k⟩ := h
  simp only [evL, Option.some.injEq, Prod.mk.injEq] at e
  obtain ⟨rfl, rfl⟩ := e
  exact k [] H F Z (fun _ => 0) Go.refl (S.zero fun _ => rfl) ⟨rfl, rfl, fun _ => rfl⟩
theorem tL_cons {e : E} {es : List E} {σ : L2.St} {H : Hp} {Q : List V → Hp → Prop} (h : tL n C (e :: es) σ H Q) : tCons (tE n C e) (tL n C es) σ H Q := by
  obtain ⟨ρ, F, R, Z, ps, ρ', S, ev, ok, k⟩ := h
  have ok1 := (Bool.and_eq_true_iff.mp (show ((match rdOf e with | some i => !(mtL es).contains i | none => true) && rdOk es) = true from ok))
  simp only [evL] at ev
  cases e1 : evE C e ρ with
  | none => rw [e1] at ev; cases ev
  | some q =>
    obtain ⟨p, ρ1⟩ := q
    rw [e1] at ev
    dsimp only at ev
    cases e2 : evL C es ρ1 with
    | none => rw [e2] at ev; cases ev
    | some q =>
      obtain ⟨ps', ρ2⟩ := q
      rw [e2] at ev
      dsimp only at ev
      simp only [Option.some.injEq, Prod.mk.injEq] at ev
      obtain ⟨rfl, rfl⟩ := ev
      refine ⟨ρ, F, R, Z, p, ρ1, S, e1, fun v H1 F1 Z1 f1 g1 S1 r1 => ?_⟩
      refine ⟨ρ1, F1, fun a => R a + f1 a, Z1, ps', ρ2, S1, e2, ok1.2, fun vs H2 F2 Z2 f2 g2 S2 r2 => ?_⟩
      refine k (v :: vs) H2 F2 Z2 (fun a => f1 a + f2 a) ?_ (S2.congr fun a => by show R a + (f1 a + f2 a) = (R a + f1 a) + f2 a; omega) ⟨p, v, ps', vs, f1, f2, rfl, rfl, fun _ => rfl, ?_, r2⟩
      · refine (g1.trans g2 fun a => Nat.le_add_right _ _).mono fun i hi => ?_
        show mset (mtE e ++ mtL es) i = true
        rw [mset_app]
        exact hi
      · unfold resV at r1 ⊢
        cases hr : rdOf e with
        | none =>
          rw [hr] at r1
          exact g2.other (fun a => Nat.le_add_left _ _) r1
        | some i =>
          rw [hr] at r1
          have hi : mset (mtL es) i = false := by
            have := ok1.1
            rw [hr] at this
            simpa [mset] using this
          obtain ⟨h1, h2, h3, h4⟩ := r1
          refine ⟨h1.trans (g2.un i hi).2.symm, ?_, h3, h4⟩
          exact Sv.repV_congr (g2.un i hi).1 (g2.mine hi h2)
/-- a written argument list: no star -/
def noStar : Expr → Bool
  | .Starred _ _ => false
  | _ => true
theorem star_of {a : Expr} {as : List Expr} {env : PySem.Env} (h : noStar a = true) : starEach (a :: as) env = (false, eval a env) :: starEach as env := by
  cases a <;> first | rfl | (cases h)

/-! ### constants, names -/
section
variable {X : Cx} {pos : Pos}
theorem cE {d : D} {v : V} {a : Expr} (h : PE X a (tC v)) (r : ∀ H Z, rep n H Z d v) : PE X a (tE n C (.c d)) :=
  pe_wk h fun σ H Q ⟨ρ, F, R, Z, p, ρ', S, e, k⟩ => by
    simp only [evE, Option.some.injEq, Prod.mk.injEq] at e
    obtain ⟨rfl, rfl⟩ := e
    exact k v H F Z (fun _ => 0) Go.refl (S.zero fun _ => rfl) ⟨r H Z, fun _ => rfl⟩
theorem vE {i : Nat} {a : Expr} (h : PE X a (tVar i)) : PE X a (tE n C (.v i)) :=
  pe_wk h fun σ H Q ⟨ρ, F, R, Z, p, ρ', S, e, k⟩ => by
    simp only [evE] at e
    cases q : get ρ i with
    | d x =>
      rw [q] at e
      simp only [Option.some.injEq, Prod.mk.injEq] at e
      obtain ⟨rfl, rfl⟩ := e
      obtain ⟨v, hs, r⟩ := S.slot q (by simp)
      exact ⟨v, hs, k v H F Z (fun _ => 0) Go.refl (S.zero fun _ => rfl) ⟨r.1, fun _ => rfl⟩⟩
    | _ => rw [q] at e; cases e
theorem rdE {i : Nat} {a : Expr} (h : PE X a (tVar i)) : PE X a (tE n C (.rd i)) :=
  pe_wk h fun σ H Q ⟨ρ, F, R, Z, p, ρ', S, e, k⟩ => by
    simp only [evE] at e
    cases q : get ρ i with
    | un => rw [q] at e; cases e
    | _ =>
      rw [q] at e
      simp only [Option.some.injEq, Prod.mk.injEq] at e
      obtain ⟨rfl, rfl⟩ := e
      obtain ⟨v, hs, r⟩ := S.slot q (by simp)
      exact ⟨v, hs, k v H F Z (fun _ => 0) Go.refl (S.zero fun _ => rfl) ⟨q.symm, r, fun _ => rfl, hs⟩⟩
/-- a slot emptied: what it owned is another's now -/
theorem Sv.take {H : Hp} {Z : Zs} {ρ : Env} {σ : L2.St} {F : Nat → Fp} {R : Fp} (S : Sv n H Z ρ σ F R) (i : Nat) :
    Sv n H Z (put ρ i .un) σ (fun j => if j = i then fun _ => 0 else F j) fun a => R a + F i a where
  len := by rw [put_length]; exact S.len
  at_ := fun j => by
    by_cases h : j = i
    · subst h
      rw [if_pos rfl]
      rcases Nat.lt_or_ge j ρ.length with l | l
      · rw [get_put_same l]
        exact fun _ => rfl
      · rw [get_out (by rw [put_length]; exact l)]
        exact fun _ => rfl
    · rw [if_neg h, get_put_ne h]
      exact S.at_ j
  one := fun j a => by
    have h1 := S.one i a
    have h2 := S.one j a
    by_cases h : j = i
    · subst h
      simp only [if_pos]
      omega
    · have := S.dis j i a h
      simp only [if_neg h]
      omega
  oneR := fun a => by have := S.one i a; omega
  dis := fun j k a h => by
    by_cases h1 : j = i
    · subst h1
      left
      simp
    · by_cases h2 : k = i
      · subst h2
        right
        simp
      · simp only [if_neg h1, if_neg h2]
        exact S.dis j k a h
  zz := fun a z => by
    obtain ⟨h1, h2, h3⟩ := S.zz a z
    refine ⟨h1, by have := h3 i; omega, fun j => ?_⟩
    by_cases h : j = i
    · simp [h]
    · simp only [if_neg h]
      exact h3 j
  all := fun a l => by
    rcases Nat.eq_zero_or_pos (F i a) with h | h
    · exact S.all a (by omega)
    · exact S.there i a h
theorem mvE {i : Nat} {a : Expr} (h : PE X a (tVar i)) : PE X a (tE n C (.mv i)) :=
  pe_wk h fun σ H Q ⟨ρ, F, R, Z, p, ρ', S, e, k⟩ => by
    simp only [evE] at e
    cases q : get ρ i with
    | un => rw [q] at e; cases e
    | _ =>
      rw [q] at e
      simp only [Option.some.injEq, Prod.mk.injEq] at e
      obtain ⟨rfl, rfl⟩ := e
      obtain ⟨v, hs, r⟩ := S.slot q (by simp)
      refine ⟨v, hs, k v H _ Z (F i) ⟨fun _ _ h _ => h, fun _ h => h, fun j hj => ?_⟩ (S.take i) r⟩
      have hj' : j ≠ i := fun e => by
        rw [e] at hj
        simp [mset, mtE] at hj
      exact ⟨fun a => by simp only [if_neg hj'], get_put_ne hj'⟩
/-- a temporary is frozen -/
theorem Sv.freeze {H : Hp} {Z : Zs} {ρ : Env} {σ : L2.St} {F : Nat → Fp} {R f : Fp} (S : Sv n H Z ρ σ F fun a => R a + f a) : Sv n H (fun a => Z a ∨ 1 ≤ f a) ρ σ F fun a => R a + 0 where
  len := S.len
  at_ := fun i => by
    have x := S.at_ i
    have k : ∀ q v, repV n H Z q v (F i) → repV n H (fun a => Z a ∨ 1 ≤ f a) q v (F i) := fun q v r => repV_mono q v (F i) (fun a o e _ => e) (fun a z => .inl z) r
    unfold repO at x ⊢
    split
    · rename_i e
      rw [e] at x
      exact x
    · rename_i p hp
      split at x
      · rename_i e
        exact absurd e hp
      · obtain ⟨v, e, r⟩ := x
        exact ⟨v, e, k _ v r⟩
  one := fun i a => by
    have h : F i a + (R a + f a) ≤ 1 := S.one i a
    omega
  oneR := fun a => by
    have h : R a + f a ≤ 1 := S.oneR a
    omega
  dis := S.dis
  zz := fun a z => by
    rcases z with z | z
    · obtain ⟨h1, h2, h3⟩ := S.zz a z
      have h2' : R a + f a = 0 := h2
      exact ⟨h1, by omega, h3⟩
    · have h1 : R a + f a ≤ 1 := S.oneR a
      refine ⟨S.all a (by show 1 ≤ R a + f a; omega), by omega, fun i => ?_⟩
      have h2 : F i a + (R a + f a) ≤ 1 := S.one i a
      omega
  all := fun a l => S.all a (by
    have l' : 1 ≤ R a + 0 := l
    show 1 ≤ R a + f a
    omega)
theorem fzE {i : Nat} {a : Expr} (h : PE X a (tVar i)) : PE X a (tE n C (.fz i)) :=
  pe_wk h fun σ H Q ⟨ρ, F, R, Z, p, ρ', S, e, k⟩ => by
    simp only [evE] at e
    cases q : Rt.frz (get ρ i) with
    | none => rw [q] at e; cases e
    | some x =>
      rw [q] at e
      simp only [Option.some.injEq, Prod.mk.injEq] at e
      obtain ⟨rfl, rfl⟩ := e
      have hne : get ρ i ≠ .un := fun e => by rw [e] at q; cases q
      obtain ⟨v, hs, r⟩ := S.slot (i := i) rfl hne
      have S1 := (S.take i).freeze
      have rx : rep n H (fun a => Z a ∨ 1 ≤ F i a) x v := frz_rep _ x v (F i) q (fun a l => .inr l) (fun a z => .inl z) r
      refine ⟨v, hs, k v H (fun j => if j = i then fun _ => 0 else F j) (fun a => Z a ∨ 1 ≤ F i a) (fun _ => 0) ⟨fun _ _ h _ => h, fun _ h => .inl h, fun j hj => ?_⟩ ?_ ⟨rx, fun _ => rfl⟩⟩
      · have hj' : j ≠ i := fun e => by
          rw [e] at hj
          simp [mset, mtE] at hj
        exact ⟨fun a => by simp only [if_neg hj'], get_put_ne hj'⟩
      · refine ⟨by rw [put_length]; exact S.len, fun j => ?_, S1.one, S1.oneR, S1.dis, S1.zz, S1.all⟩
        have x1 := S1.at_ j
        by_cases hj : j = i
        · subst hj
          rw [get_put_same (get_lt hne)]
          exact ⟨v, hs, rx, fun _ => by simp⟩
        · rw [get_put_ne hj] at x1 ⊢
          exact x1
theorem frz_imp {e : E} (hr : rdOf e = none) {σ : L2.St} {H : Hp} {Q : VK} (x : tE n C (.frz e) σ H Q) : tE n C e σ H Q := by
  obtain ⟨ρ, F, R, Z, p, ρ', S, ev, k⟩ := x
  simp only [evE] at ev
  cases e1 : evE C e ρ with
  | none => rw [e1] at ev; cases ev
  | some q =>
    obtain ⟨p1, ρ1⟩ := q
    rw [e1] at ev
    dsimp only at ev
    cases e2 : Rt.frz p1 with
    | none => rw [e2] at ev; cases ev
    | some x =>
      rw [e2] at ev
      simp only [Option.some.injEq, Prod.mk.injEq] at ev
      obtain ⟨rfl, rfl⟩ := ev
      refine ⟨ρ, F, R, Z, p1, ρ1, S, e1, fun v H1 F1 Z1 f1 g1 S1 r1 => ?_⟩
      unfold resV at r1
      rw [hr] at r1
      refine k v H1 F1 (fun a => Z1 a ∨ 1 ≤ f1 a) (fun _ => 0) ⟨g1.keep, fun a z => .inl (g1.zm a z), g1.un⟩ S1.freeze ?_
      exact ⟨frz_rep p1 x v f1 e2 (fun a l => .inr l) (fun a z => .inl z) r1, fun _ => rfl⟩
theorem frzE {e : E} {a : Expr} (h : PE X a (tE n C e)) (hr : rdOf e = none) : PE X a (tE n C (.frz e)) := pe_wk h fun _ _ _ x => frz_imp hr x
end
end
end Rt

set_option Elab.async false
set_option linter.all false
set_option maxRecDepth 100000
/-! Rt5: primitives, by values. -/
namespace Rt
open PySem PySem.Spec PyProof.Rows L2

section
variable (n : Nms)
/-- readable values -/
def RdL (H : Hp) (Z : Zs) : List PV → List V → Prop
  | [], vs => vs = []
  | p :: ps, vs => ∃ v r f, vs = v :: r ∧ repV n H Z p v f ∧ RdL H Z ps r
/-- what is wanted of a primitive's result -/
def Res (H : Hp) (Z : Zs) (p : PV) (Q : VK) : Prop := ∀ v H' Z' f, New n H Z H' Z' p v f → Q v H'
def PR (p : Prim) (vs : List V) (H : Hp) (Q : VK) : Prop := ∃ Z ps r, (∀ a, Z a → H a ≠ none) ∧ RdL n H Z ps vs ∧ app p ps = some r ∧ Res n H Z r Q
end

section
variable {n : Nms} {H H' : Hp} {Z Z' : Zs}
theorem RdL.one {ps : List PV} {v : V} (h : RdL n H Z ps [v]) : ∃ p f, ps = [p] ∧ repV n H Z p v f := by
  cases ps with
  | nil => exact absurd (show [v] = [] from h) (by simp)
  | cons p ps =>
    obtain ⟨w, r, f, e, hr, t⟩ := h
    injection e with e1 e2
    subst e1 e2
    cases ps with
    | nil => exact ⟨p, f, rfl, hr⟩
    | cons q qs =>
      obtain ⟨_, _, _, e, _⟩ := t
      cases e
theorem RdL.two {ps : List PV} {v w : V} (h : RdL n H Z ps [v, w]) : ∃ p q f g, ps = [p, q] ∧ repV n H Z p v f ∧ repV n H Z q w g := by
  cases ps with
  | nil => exact absurd (show [v, w] = [] from h) (by simp)
  | cons p ps =>
    obtain ⟨_, _, f, e, hr, t⟩ := h
    injection e with e1 e2
    subst e1 e2
    obtain ⟨q, g, e, hq⟩ := RdL.one t
    exact ⟨p, q, f, g, by rw [e], hr, hq⟩
theorem RdL.len : ∀ {ps : List PV} {vs : List V}, RdL n H Z ps vs → ps.length = vs.length
  | [], _, h => by
    have e : _ = [] := h
    rw [e]
    rfl
  | p :: ps, _, ⟨v, r, f, e, _, t⟩ => by rw [e, List.length_cons, List.length_cons, RdL.len t]
/-- a value that stands for itself -/
theorem New.atom {x : D} {v : V} (hz : ∀ a, Z a → H a ≠ none) (r : rep n H Z x v) : New n H Z H Z (.d x) v fun _ => 0 :=
  ⟨Ext.refl hz, ⟨r, fun _ => rfl⟩, fun _ => Nat.zero_le _, fun a l => by omega⟩
theorem ext_upd {p : Addr} {o : HO} (hp : H p = none) (hz : ∀ a, Z a → H a ≠ none) : Ext H Z (upd H p o) Z :=
  ⟨fun a u e => by rw [upd_ne (ne_of_none e hp)]; exact e, fun _ h => h, fun _ h => .inl h, fun a h => by
    by_cases e : a = p
    · rw [e, upd_same]; simp
    · rw [upd_ne e]; exact hz a h⟩
theorem ext_updZ {p : Addr} {o : HO} (hp : H p = none) (hz : ∀ a, Z a → H a ≠ none) : Ext H Z (upd H p o) fun a => Z a ∨ a = p :=
  ⟨fun a u e => by rw [upd_ne (ne_of_none e hp)]; exact e, fun _ h => .inl h, fun a h => h.imp id fun e => by rw [e]; exact hp, fun a h => by
    by_cases e : a = p
    · rw [e, upd_same]; simp
    · rw [upd_ne e]; exact hz a (h.resolve_right e)⟩
theorem New.lst {p : Addr} {xs : List D} {vs : List V} (hp : H p = none) (hz : ∀ a, Z a → H a ≠ none) (r : repL n H Z xs vs) : New n H Z (upd H p (.lst vs)) Z (.ol xs) (.ref p) (dl p) :=
  ⟨ext_upd hp hz, ⟨p, vs, rfl, upd_same, repL_mono (fun a o e _ => (ext_upd hp hz).keep a o e) (fun _ h => h) xs vs r, fun _ => rfl⟩, dl_le p, fun a l => by
    rw [dl_pos l]
    exact ⟨hp, fun z => hz p z hp⟩⟩
theorem New.tup {p : Addr} {xs : List D} {vs : List V} (hp : H p = none) (hz : ∀ a, Z a → H a ≠ none) (r : repL n H Z xs vs) : New n H Z (upd H p (.tup vs)) (fun a => Z a ∨ a = p) (.d (.tup xs)) (.ref p) fun _ => 0 :=
  ⟨ext_updZ hp hz, ⟨⟨p, vs, rfl, ⟨.inr rfl, upd_same⟩, repL_mono (fun a o e _ => (ext_updZ hp hz).keep a o e) (fun _ h => .inl h) xs vs r⟩, fun _ => rfl⟩, fun _ => Nat.zero_le _, fun a l => by omega⟩
theorem Res.atom {x : D} {v : V} {Q : VK} (h : Res n H Z (.d x) Q) (hz : ∀ a, Z a → H a ≠ none) (r : rep n H Z x v) : Q v H := h v H Z _ (New.atom hz r)
theorem Res.lst {p : Addr} {xs : List D} {vs : List V} {Q : VK} (h : Res n H Z (.ol xs) Q) (hz : ∀ a, Z a → H a ≠ none) (hp : H p = none) (r : repL n H Z xs vs) : Q (.ref p) (upd H p (.lst vs)) := h _ _ _ _ (New.lst hp hz r)
theorem Res.tup {p : Addr} {xs : List D} {vs : List V} {Q : VK} (h : Res n H Z (.d (.tup xs)) Q) (hz : ∀ a, Z a → H a ≠ none) (hp : H p = none) (r : repL n H Z xs vs) : Q (.ref p) (upd H p (.tup vs)) := h _ _ _ _ (New.tup hp hz r)

/-! ### readers -/
theorem asL_of {K : PySem.W.Frag} {p : PV} {xs : List D} {v : V} {f : Fp} (e : asL p = some xs) (r : repV n H Z p v f) : ∃ a vs, v = .ref a ∧ H a = some (.lst vs) ∧ repL n H Z xs vs := by
  cases p with
  | ol ys =>
    cases e
    obtain ⟨a, vs, e, h, r, _⟩ := r
    exact ⟨a, vs, e, h, r⟩
  | d x =>
    cases x with
    | fl ys =>
      cases e
      obtain ⟨⟨a, vs, e, h, r⟩, _⟩ := r
      exact ⟨a, vs, e, h.2, r⟩
    | _ => cases e
  | _ => cases e
theorem asS_of {K : PySem.W.Frag} [ScK n K] {p : PV} {xs : List D} {v : V} {f : Fp} (e : asS p = some xs) (r : repV n H Z p v f) : ∃ a vs, v = .ref a ∧ SqL K H a vs ∧ repL n H Z xs vs := by
  cases p with
  | ol ys =>
    cases e
    obtain ⟨a, vs, e, h, r, _⟩ := r
    exact ⟨a, vs, e, .inl (.inl h), r⟩
  | d x =>
    cases x with
    | fl ys =>
      cases e
      obtain ⟨⟨a, vs, e, h, r⟩, _⟩ := r
      exact ⟨a, vs, e, .inl (.inl h.2), r⟩
    | sc ys =>
      cases e
      obtain ⟨⟨a, vs, e, h, r⟩, _⟩ := r
      exact ⟨a, vs, e, h.elim (fun h => .inl h.2) (fun h => ScK.sq a vs h H), r⟩
    | _ => cases e
  | _ => cases e
theorem asQ_of {K : PySem.W.Frag} [ScK n K] {p : PV} {xs : List D} {v : V} {f : Fp} (e : asQ p = some xs) (r : repV n H Z p v f) : ∃ a vs, v = .ref a ∧ (SqL K H a vs ∨ SqT K H a vs) ∧ repL n H Z xs vs := by
  cases p with
  | ol ys =>
    cases e
    obtain ⟨a, vs, e, h, r, _⟩ := r
    exact ⟨a, vs, e, .inl (.inl (.inl h)), r⟩
  | d x =>
    cases x with
    | fl ys =>
      cases e
      obtain ⟨⟨a, vs, e, h, r⟩, _⟩ := r
      exact ⟨a, vs, e, .inl h.sq, r⟩
    | sc ys =>
      cases e
      obtain ⟨⟨a, vs, e, h, r⟩, _⟩ := r
      exact ⟨a, vs, e, .inl (h.elim (fun h => .inl h.2) (fun h => ScK.sq a vs h H)), r⟩
    | tup ys =>
      cases e
      obtain ⟨⟨a, vs, e, h, r⟩, _⟩ := r
      exact ⟨a, vs, e, .inr h.sq, r⟩
    | _ => cases e
  | _ => cases e
theorem repL_app : ∀ {xs ys : List D} {vs ws : List V}, repL n H Z xs vs → repL n H Z ys ws → repL n H Z (xs ++ ys) (vs ++ ws)
  | [], _, _, _, h, k => by
    have e : _ = [] := h
    rw [e]
    exact k
  | x :: xs, _, _, _, ⟨v, r, e, h, t⟩, k => ⟨v, r ++ _, by rw [e]; rfl, h, repL_app t k⟩
theorem repL_get : ∀ {xs : List D} {vs : List V} {j : Nat} {x : D}, repL n H Z xs vs → xs[j]? = some x → ∃ v, vs[j]? = some v ∧ rep n H Z x v
  | [], _, _, _, _, e => by simp at e
  | y :: xs, _, 0, x, ⟨v, r, e, h, t⟩, q => by
    have : y = x := by simpa using q
    subst this
    exact ⟨v, by rw [e]; rfl, h⟩
  | y :: xs, _, j + 1, x, ⟨v, r, e, h, t⟩, q => by
    obtain ⟨w, h1, h2⟩ := repL_get t (j := j) (x := x) (by simpa using q)
    exact ⟨w, by rw [e]; simpa using h1, h2⟩
theorem repL_drop : ∀ (k : Nat) {xs : List D} {vs : List V}, repL n H Z xs vs → repL n H Z (xs.drop k) (vs.drop k)
  | 0, _, _, h => h
  | k + 1, [], _, h => by
    have e : _ = [] := h
    rw [e]
    exact (rfl : ([] : List V) = [])
  | k + 1, x :: xs, _, ⟨v, r, e, h, t⟩ => by
    rw [e]
    exact repL_drop k t
theorem repL_take : ∀ (k : Nat) {xs : List D} {vs : List V}, repL n H Z xs vs → repL n H Z (xs.take k) (vs.take k)
  | 0, _, _, _ => (rfl : ([] : List V) = [])
  | k + 1, [], _, h => by
    have e : _ = [] := h
    rw [e]
    exact (rfl : ([] : List V) = [])
  | k + 1, x :: xs, _, ⟨v, r, e, h, t⟩ => by
    rw [e]
    exact ⟨v, r.take k, rfl, h, repL_take k t⟩
theorem repL_rep {xs : List D} {vs : List V} (h : repL n H Z xs vs) : ∀ k : Nat, repL n H Z (List.replicate k xs).flatten (List.replicate k vs).flatten
  | 0 => (rfl : ([] : List V) = [])
  | k + 1 => by
    rw [List.replicate_succ, List.replicate_succ, List.flatten_cons, List.flatten_cons]
    exact repL_app h (repL_rep h k)
theorem repL_set : ∀ {xs : List D} {vs : List V} (j : Nat) {x : D} {v : V}, repL n H Z xs vs → rep n H Z x v → repL n H Z (xs.set j x) (vs.set j v)
  | [], _, _, _, _, h, _ => by
    have e : _ = [] := h
    rw [e]
    exact (rfl : ([] : List V) = [])
  | y :: xs, _, 0, x, w, ⟨v, r, e, h, t⟩, k => by
    rw [e]
    exact ⟨w, r, rfl, k, t⟩
  | y :: xs, _, j + 1, x, w, ⟨v, r, e, h, t⟩, k => by
    rw [e]
    exact ⟨v, r.set j w, rfl, h, repL_set j t k⟩
theorem repL_erase : ∀ {xs : List D} {vs : List V} (j : Nat), repL n H Z xs vs → repL n H Z (xs.eraseIdx j) (vs.eraseIdx j)
  | [], _, _, h => by
    have e : _ = [] := h
    rw [e]
    exact (rfl : ([] : List V) = [])
  | y :: xs, _, 0, ⟨v, r, e, h, t⟩ => by
    rw [e]
    exact t
  | y :: xs, _, j + 1, ⟨v, r, e, h, t⟩ => by
    rw [e]
    exact ⟨v, r.eraseIdx j, rfl, h, repL_erase j t⟩
theorem repL_rev : ∀ {xs : List D} {vs : List V}, repL n H Z xs vs → repL n H Z xs.reverse vs.reverse
  | [], _, h => by
    have e : _ = [] := h
    rw [e]
    exact (rfl : ([] : List V) = [])
  | y :: xs, _, ⟨v, r, e, h, t⟩ => by
    rw [e, List.reverse_cons, List.reverse_cons]
    exact repL_app (repL_rev t) ⟨v, [], rfl, h, rfl⟩
theorem allInt_of : ∀ {xs : List D} {ns : List Int} {vs : List V}, allInt xs = some ns → repL n H Z xs vs → vs = ns.map V.int
  | [], ns, vs, e, h => by
    have e1 : [] = ns := by simpa [allInt] using e
    have e2 : vs = [] := h
    rw [e2, ← e1]
    rfl
  | x :: xs, ns, vs, e, ⟨v, r, ev, h, t⟩ => by
    cases x with
    | int i =>
      cases e1 : allInt xs with
      | none => simp [allInt, e1] at e
      | some ms =>
        have e2 : i :: ms = ns := by simpa [allInt, e1] using e
        have hv : v = .int i := h
        rw [ev, ← e2, hv, allInt_of e1 t]
        rfl
    | _ => simp [allInt] at e
/-! ### arithmetic -/
theorem int2_of {f : Int → Int → Option Int} {a b r : PV} (e : int2 f a b = some r) : ∃ i j z, a = .d (.int i) ∧ b = .d (.int j) ∧ f i j = some z ∧ r = .d (.int z) := by
  unfold int2 at e
  split at e
  · rename_i i j
    cases q : f i j with
    | none => rw [q] at e; cases e
    | some z =>
      rw [q] at e
      exact ⟨i, j, z, rfl, rfl, q, (Option.some.inj e).symm⟩
  · cases e
section
variable {X : Cx}
abbrev OpP (n : Nms) (X : Cx) (f : Value → Value → Sem Value) (p : Prim) : Prop := OpR X f fun x y H Q => PR n p [x, y] H Q
abbrev CallP (n : Nms) (X : Cx) (f : Value) (p : Prim) : Prop := CallR X f (PR n p)
/-- an operator of two ints -/
theorem ok_int2 {f : Value → Value → Sem Value} {p : Prim} {g : Int → Int → Option Int} (hp : ∀ a b, app p [a, b] = int2 g a b) {r : Int → Int → Prop} {h : Int → Int → Int} (ho : OpR X f (rI r fun i j => .int (h i j)))
    (hg : ∀ i j z, g i j = some z → r i j ∧ h i j = z) : OpP n X f p := by
  intro pins s σ H x y v u Q I r1 r2 ⟨Z, ps, w, hz, hr, e, k⟩
  obtain ⟨a, b, f1, f2, rfl, ra, rb⟩ := hr.two
  rw [hp] at e
  obtain ⟨i, j, z, rfl, rfl, hz2, rfl⟩ := int2_of e
  obtain ⟨h1, h2⟩ := hg i j z hz2
  exact ho pins s σ H x y v u Q I r1 r2 ⟨i, j, ra.1, rb.1, h1, k.atom hz (show V.int (h i j) = V.int z by rw [h2])⟩
theorem ok_int20 {f : Value → Value → Sem Value} {p : Prim} {g : Int → Int → Option Int} (hp : ∀ a b, app p [a, b] = int2 g a b) {h : Int → Int → Int} (ho : OpR X f (rI0 fun i j => .int (h i j)))
    (hg : ∀ i j z, g i j = some z → h i j = z) : OpP n X f p := by
  intro pins s σ H x y v u Q I r1 r2 ⟨Z, ps, w, hz, hr, e, k⟩
  obtain ⟨a, b, f1, f2, rfl, ra, rb⟩ := hr.two
  rw [hp] at e
  obtain ⟨i, j, z, rfl, rfl, hz2, rfl⟩ := int2_of e
  exact ho pins s σ H x y v u Q I r1 r2 ⟨i, j, ra.1, rb.1, k.atom hz (show V.int (h i j) = V.int z by rw [hg i j z hz2])⟩
theorem ok_sub : OpP n X (binaryOp .Sub) .sub := ok_int20 (fun _ _ => rfl) op_sub fun i j z e => Option.some.inj e
theorem ok_mod : OpP n X (binaryOp .Mod) .mod := ok_int2 (fun _ _ => rfl) op_modN fun i j z e => by
  split at e
  · rename_i h
    exact ⟨of_decide_eq_true h, Option.some.inj e⟩
  · cases e
theorem ok_pow : OpP n X (binaryOp .Pow) .pow := ok_int2 (fun _ _ => rfl) op_pow fun i j z e => by
  split at e
  · rename_i h
    have h' : (decide (0 ≤ j) && decide (j ≤ 1000000) && decide (i.natAbs < 2 ^ 64)) = true := h
    simp only [Bool.and_eq_true, decide_eq_true_eq] at h'
    exact ⟨⟨h'.1.1, h'.1.2, h'.2⟩, Option.some.inj e⟩
  · cases e
theorem ok_shl : OpP n X (binaryOp .LShift) .shl := ok_int2 (fun _ _ => rfl) op_shl fun i j z e => by
  split at e
  · rename_i h
    have h' : (decide (0 ≤ j) && decide (j ≤ 1000000) && decide (i.natAbs < 2 ^ 64)) = true := h
    simp only [Bool.and_eq_true, decide_eq_true_eq] at h'
    exact ⟨⟨h'.1.1, h'.1.2, h'.2⟩, Option.some.inj e⟩
  · cases e
theorem ok_shr : OpP n X (binaryOp .RShift) .shr := ok_int2 (fun _ _ => rfl) op_shr fun i j z e => by
  split at e
  · rename_i h
    exact ⟨of_decide_eq_true h, Option.some.inj e⟩
  · cases e
theorem ok_xor : OpP n X (binaryOp .BitXor) .xor := ok_int20 (fun _ _ => rfl) op_xor fun i j z e => Option.some.inj e
theorem ok_band : OpP n X (binaryOp .BitAnd) .band := ok_int20 (fun _ _ => rfl) op_and fun i j z e => Option.some.inj e
theorem ok_bor : OpP n X (binaryOp .BitOr) .bor := ok_int20 (fun _ _ => rfl) op_or fun i j z e => Option.some.inj e
theorem ok_fdiv : OpP n X (binaryOp .FloorDiv) .fdiv := by
  have d : OpR X (binaryOp .FloorDiv) (rI (fun _ j => divOk j = true) fun i j => .int (i.fdiv j)) := by
    intro pins s σ H x y v u Q I r1 r2 ⟨i, j, e1, e2, h, q⟩
    have h' : ((decide (j ≠ 0) && decide (j.natAbs < 1073741824)) || (decide (0 < j) && decide (j.natAbs.log2 < 9000))) = true := h
    simp only [Bool.or_eq_true, Bool.and_eq_true, decide_eq_true_eq] at h'
    rcases h' with h' | h'
    · exact op_fdivN pins s σ H x y v u Q I r1 r2 ⟨i, j, e1, e2, h', q⟩
    · refine op_fdivW pins s σ H x y v u Q I r1 r2 ⟨i, j, e1, e2, h', ?_⟩
      have e : i.fdiv j = i / j := Int.fdiv_eq_ediv_of_nonneg i (Int.le_of_lt h'.1)
      have q' : Q (.int (i.fdiv j)) H := q
      rw [e] at q'
      exact q'
  exact ok_int2 (fun _ _ => rfl) d fun i j z e => by
    split at e
    · rename_i h
      exact ⟨h, Option.some.inj e⟩
    · cases e
theorem ok_neg : UnR X (unaryOp .USub) fun x H Q => PR n .neg [x] H Q := by
  intro pins s σ H x v Q I r1 ⟨Z, ps, w, hz, hr, e, k⟩
  obtain ⟨a, f1, rfl, ra⟩ := hr.one
  replace e : pNeg a = some w := e
  unfold pNeg at e
  split at e
  · rename_i i
    cases e
    exact un_neg pins s σ H x v Q I r1 ⟨i, ra.1, k.atom hz rfl⟩
  · cases e
theorem szB_le {k : Nat} (h : szB k = true) : k ≤ sizeLine := by
  have := of_decide_eq_true (show decide (k ≤ 16777216) = true from h)
  rw [sizeLine_eq]
  omega
theorem mkS_app (a b : List Nat) : mkS a ++ mkS b = mkS (a ++ b) := by
  show Str.mk _ = Str.mk _
  simp [mkS]
theorem ok_add : OpP n X (binaryOp .Add) .add := by
  intro pins s σ H x y v u Q I r1 r2 ⟨Z, ps, w, hz, hr, e, k⟩
  obtain ⟨a, b, f1, f2, rfl, ra, rb⟩ := hr.two
  replace e : pAdd a b = some w := e
  unfold pAdd at e
  split at e
  · cases e
    exact op_add pins s σ H x y v u Q I r1 r2 ⟨_, _, ra.1, rb.1, k.atom hz rfl⟩
  · split at e
    · rename_i i j h
      cases e
      refine op_add_str pins s σ H x y v u Q I r1 r2 ⟨_, _, ra.1, rb.1, ?_, ?_⟩
      · rw [mkS_len, mkS_len]
        exact szB_le h
      · rw [mkS_app]
        exact k.atom hz rfl
    · cases e
  · split at e
    · rename_i i j h
      cases e
      obtain ⟨⟨p, vs, rfl, hp, rp⟩, _⟩ := ra
      obtain ⟨⟨q, ws, rfl, hq, rq⟩, _⟩ := rb
      have l1 := repL_len _ _ rp
      have l2 := repL_len _ _ rq
      refine op_catA pins s σ H _ _ v u Q I r1 r2 ⟨p, q, vs, ws, rfl, rfl, hp.sq, hq.sq, ?_, fun e1 => ?_, fun e1 e2 => ?_, fun e1 e2 t ht => ?_⟩
      · rw [← l1, ← l2]
        exact szB_le h
      · have e2 : i = [] := List.eq_nil_of_length_eq_zero (by rw [l1, e1]; rfl)
        subst e2
        exact k.atom hz ⟨q, ws, rfl, hq, rq⟩
      · have e3 : j = [] := List.eq_nil_of_length_eq_zero (by rw [l2, e2]; rfl)
        subst e3
        rw [List.append_nil] at k
        exact k.atom hz ⟨p, vs, rfl, hp, rp⟩
      · exact k.tup hz ht (repL_app rp rq)
    · cases e
  · split at e
    · rename_i xs ys h1 h2
      split at e
      · rename_i h
        cases e
        obtain ⟨p, vs, rfl, hp, rp⟩ := asL_of (K := X.K) h1 ra
        obtain ⟨q, ws, rfl, hq, rq⟩ := asL_of (K := X.K) h2 rb
        have l1 := repL_len _ _ rp
        have l2 := repL_len _ _ rq
        refine op_cat pins s σ H _ _ v u Q I r1 r2 ⟨p, q, vs, ws, rfl, rfl, hp, hq, ?_, fun t ht => ?_⟩
        · rw [← l1, ← l2]
          exact szB_le h
        · exact k.lst hz ht (repL_app rp rq)
      · cases e
    · cases e
theorem ok_mul : OpP n X (binaryOp .Mult) .mul := by
  intro pins s σ H x y v u Q I r1 r2 ⟨Z, ps, w, hz, hr, e, k⟩
  obtain ⟨a, b, f1, f2, rfl, ra, rb⟩ := hr.two
  replace e : pMul a b = some w := e
  unfold pMul at e
  split at e
  · rename_i i j
    split at e
    · rename_i h
      cases e
      have h' : ((decide (-(2 ^ 64) < i) && decide (i < 2 ^ 64)) || (decide (-(2 ^ 64) < j) && decide (j < 2 ^ 64)) || decide (i.natAbs.log2 + j.natAbs.log2 < 1000000)) = true := h
      simp only [Bool.or_eq_true, Bool.and_eq_true, decide_eq_true_eq] at h'
      rcases h' with (h' | h') | h'
      · exact op_mul pins s σ H x y v u Q I r1 r2 ⟨i, j, ra.1, rb.1, .inl h', k.atom hz rfl⟩
      · exact op_mul pins s σ H x y v u Q I r1 r2 ⟨i, j, ra.1, rb.1, .inr h', k.atom hz rfl⟩
      · exact op_mulW pins s σ H x y v u Q I r1 r2 ⟨i, j, ra.1, rb.1, h', k.atom hz rfl⟩
    · cases e
  · rename_i xs j
    split at e
    · rename_i h
      cases e
      simp only [Bool.and_eq_true, decide_eq_true_eq, Bool.not_eq_true', List.isEmpty_eq_false_iff] at h
      obtain ⟨⟨p, vs, rfl, hp, rp⟩, _⟩ := ra
      have l1 := repL_len _ _ rp
      refine op_repT pins s σ H _ y v u Q I r1 r2 ⟨p, j, vs, rfl, rb.1, hp.sq, ?_, h.1.1.1, h.1.1.2, by omega, fun t ht => k.tup hz ht (repL_rep rp _)⟩
      intro e
      rw [e] at l1
      exact h.2 (List.eq_nil_of_length_eq_zero l1)
    · cases e
  · rename_i j hn hm
    cases h1 : asL a with
    | none => rw [h1] at e; cases e
    | some xs =>
      rw [h1] at e
      dsimp only at e
      split at e
      · rename_i h
        cases e
        simp only [Bool.and_eq_true, decide_eq_true_eq] at h
        obtain ⟨p, vs, rfl, hp, rp⟩ := asL_of (K := X.K) h1 ra
        have l1 := repL_len _ _ rp
        refine op_rep pins s σ H _ y v u Q I r1 r2 ⟨p, j, vs, rfl, rb.1, hp, h.1.1, h.1.2, ?_, fun t ht => k.lst hz ht (repL_rep rp _)⟩
        rw [← l1]
        exact szB_le h.2
      · cases e
  · cases e
/-! ### comparisons -/
theorem strLt_of : ∀ (a b : List Nat), decide (a < b) = ltS a b
  | [], [] => by simp [ltS]
  | [], _ :: _ => by simp [ltS]
  | _ :: _, [] => by simp [ltS]
  | a :: x, b :: y => by
    have ih := strLt_of x y
    unfold ltS
    by_cases h : a = b
    · subst h
      rw [if_pos rfl, ← ih]
      by_cases q : x < y
      · simp [q, List.cons_lt_cons_iff]
      · simp [q, List.cons_lt_cons_iff]
    · rw [if_neg h]
      by_cases q : a < b
      · simp [q, List.cons_lt_cons_iff]
      · have : ¬ (a :: x < b :: y) := by
          rw [List.cons_lt_cons_iff]
          omega
        simp [q, this]
theorem lexI_of : ∀ (a b : List Int), HT.lexLt a b = lexI a b
  | [], [] => rfl
  | [], _ :: _ => rfl
  | _ :: _, [] => rfl
  | a :: x, b :: y => by
    unfold lexI
    rw [HT.lexLt_cons, lexI_of x y]
theorem rep_str {s : List Nat} {v : V} (h : rep n H Z (.str s) v) : v = .str (mkS s) := h
theorem ok_lt (hu : X.A.units < cLine) : OpP n X (compareOp .Lt) .lt := by
  intro pins s σ H x y v u Q I r1 r2 ⟨Z, ps, w, hz, hr, e, k⟩
  obtain ⟨a, b, f1, f2, rfl, ra, rb⟩ := hr.two
  replace e : pLt a b = some w := e
  unfold pLt at e
  split at e
  · cases e
    exact op_lt pins s σ H x y v u Q I r1 r2 ⟨_, _, ra.1, rb.1, k.atom hz rfl⟩
  · cases e
    refine op_lt_str pins s σ H x y v u Q I r1 r2 ⟨_, _, ra.1, rb.1, ?_⟩
    rw [mkS_cps, mkS_cps, strLt_of]
    exact k.atom hz rfl
  · split at e
    · rename_i xs ys h1 h2
      cases e
      obtain ⟨⟨p, vs, rfl, hp, rp⟩, _⟩ := ra
      obtain ⟨⟨q, ws, rfl, hq, rq⟩, _⟩ := rb
      refine op_ltT hu pins s σ H _ _ v u Q I r1 r2 ⟨p, q, xs, ys, rfl, rfl, ?_, ?_, ?_⟩
      · rw [← allInt_of h1 rp]
        exact hp.sq
      · rw [← allInt_of h2 rq]
        exact hq.sq
      · rw [lexI_of]
        exact k.atom hz rfl
    · cases e
  · cases e
theorem ok_le : OpP n X (compareOp .LtE) .le := by
  intro pins s σ H x y v u Q I r1 r2 ⟨Z, ps, w, hz, hr, e, k⟩
  obtain ⟨a, b, f1, f2, rfl, ra, rb⟩ := hr.two
  replace e : pLe a b = some w := e
  unfold pLe at e
  split at e
  · cases e
    exact op_le pins s σ H x y v u Q I r1 r2 ⟨_, _, ra.1, rb.1, k.atom hz rfl⟩
  · cases e
    refine op_le_str pins s σ H x y v u Q I r1 r2 ⟨_, _, ra.1, rb.1, ?_⟩
    rw [mkS_cps, mkS_cps, strLt_of]
    exact k.atom hz rfl
  · cases e
theorem ok_gt : OpP n X (compareOp .Gt) .gt := by
  intro pins s σ H x y v u Q I r1 r2 ⟨Z, ps, w, hz, hr, e, k⟩
  obtain ⟨a, b, f1, f2, rfl, ra, rb⟩ := hr.two
  replace e : pGt a b = some w := e
  unfold pGt at e
  split at e
  · cases e
    exact op_gt pins s σ H x y v u Q I r1 r2 ⟨_, _, ra.1, rb.1, k.atom hz rfl⟩
  · cases e
    refine op_gt_str pins s σ H x y v u Q I r1 r2 ⟨_, _, ra.1, rb.1, ?_⟩
    rw [mkS_cps, mkS_cps, strLt_of]
    exact k.atom hz rfl
  · cases e
theorem ok_ge : OpP n X (compareOp .GtE) .ge := by
  intro pins s σ H x y v u Q I r1 r2 ⟨Z, ps, w, hz, hr, e, k⟩
  obtain ⟨a, b, f1, f2, rfl, ra, rb⟩ := hr.two
  replace e : pGe a b = some w := e
  unfold pGe at e
  split at e
  · cases e
    exact op_ge pins s σ H x y v u Q I r1 r2 ⟨_, _, ra.1, rb.1, k.atom hz rfl⟩
  · cases e
    refine op_ge_str pins s σ H x y v u Q I r1 r2 ⟨_, _, ra.1, rb.1, ?_⟩
    rw [mkS_cps, mkS_cps, strLt_of]
    exact k.atom hz rfl
  · cases e
theorem repV_not_non {p : PV} {v : V} {f : Fp} (h1 : p ≠ .un) (h2 : p ≠ .d .non) (r : repV n H Z p v f) : v ≠ .non := by
  intro e
  subst e
  cases p with
  | un => exact h1 rfl
  | d x =>
    cases x with
    | non => exact h2 rfl
    | bl b => cases r.1
    | int b => cases r.1
    | str b => cases r.1
    | tup b => obtain ⟨⟨_, _, e, _⟩, _⟩ := r; cases e
    | fl b => obtain ⟨⟨_, _, e, _⟩, _⟩ := r; cases e
    | sc b => obtain ⟨⟨_, _, e, _⟩, _⟩ := r; cases e
    | fd t b => cases t <;> (obtain ⟨⟨_, _, e, _⟩, _⟩ := r; cases e)
    | fi t b => obtain ⟨⟨_, _, _, e, _⟩, _⟩ := r; cases e
  | ol b => obtain ⟨_, _, e, _⟩ := r; cases e
  | od t b => cases t <;> (obtain ⟨_, _, e, _⟩ := r; cases e)
  | oi t b => obtain ⟨_, _, _, _, e, _⟩ := r; cases e
  | on b => obtain ⟨_, _, _, e, _⟩ := r; cases e
  | odn t b => cases t <;> (obtain ⟨_, _, _, e, _⟩ := r; cases e)
  | tp b => obtain ⟨_, _, e, _⟩ := r; cases e
theorem ok_isN : OpP n X (compareOp .Is) .isN := by
  intro pins s σ H x y v u Q I r1 r2 ⟨Z, ps, w, hz, hr, e, k⟩
  obtain ⟨a, b, f1, f2, rfl, ra, rb⟩ := hr.two
  replace e : pIs false a b = some w := e
  unfold pIs at e
  split at e
  · refine op_isN pins s σ H x y v u Q I r1 r2 ⟨rb.1, ?_⟩
    split at e
    · cases e
    · cases e
      have : x = .non := ra.1
      rw [this]
      exact k.atom hz rfl
    · rename_i h1 h2
      cases e
      rw [decide_eq_false (repV_not_non h1 h2 ra)]
      exact k.atom hz rfl
  · cases e
theorem ok_notN : OpP n X (compareOp .IsNot) .notN := by
  intro pins s σ H x y v u Q I r1 r2 ⟨Z, ps, w, hz, hr, e, k⟩
  obtain ⟨a, b, f1, f2, rfl, ra, rb⟩ := hr.two
  replace e : pIs true a b = some w := e
  unfold pIs at e
  split at e
  · refine op_notN pins s σ H x y v u Q I r1 r2 ⟨rb.1, ?_⟩
    split at e
    · cases e
    · cases e
      have : x = .non := ra.1
      rw [this]
      exact k.atom hz rfl
    · rename_i h1 h2
      cases e
      rw [decide_eq_false (repV_not_non h1 h2 ra)]
      exact k.atom hz rfl
  · cases e
theorem ok_isB : OpP n X (compareOp .Is) .isB := by
  intro pins s σ H x y v u Q I r1 r2 ⟨Z, ps, w, hz, hr, e, k⟩
  obtain ⟨a, b, f1, f2, rfl, ra, rb⟩ := hr.two
  replace e : pIsB false a b = some w := e
  unfold pIsB at e
  split at e
  · rename_i p q
    cases e
    refine op_is_bl pins s σ H x y v u Q I r1 r2 ⟨_, _, ra.1, rb.1, ?_⟩
    have : decide (p = q) = (p == q) := by cases p <;> cases q <;> rfl
    rw [this]
    exact k.atom hz rfl
  · cases e
theorem ok_notB : OpP n X (compareOp .IsNot) .notB := by
  intro pins s σ H x y v u Q I r1 r2 ⟨Z, ps, w, hz, hr, e, k⟩
  obtain ⟨a, b, f1, f2, rfl, ra, rb⟩ := hr.two
  replace e : pIsB true a b = some w := e
  unfold pIsB at e
  split at e
  · rename_i p q
    cases e
    refine op_isnot_bl pins s σ H x y v u Q I r1 r2 ⟨_, _, ra.1, rb.1, ?_⟩
    have : (!decide (p = q)) = (p != q) := by cases p <;> cases q <;> rfl
    rw [this]
    exact k.atom hz rfl
  · cases e
/-! ### == of data -/
mutual
def toPy : D → PyData
  | .non => .none
  | .bl b => .bool b
  | .int i => .int i
  | .str s => .str (mkS s)
  | .tup xs => .tuple (toPyL xs)
  | .fl xs => .list (toPyL xs)
  | _ => .none
def toPyL : List D → List PyData
  | [] => []
  | x :: xs => toPy x :: toPyL xs
end
theorem mkS_beq (s t : List Nat) : (mkS s == mkS t) = (s == t) := by
  by_cases h : s = t
  · subst h
    rw [beq_self_eq_true, beq_self_eq_true]
  · have h1 : (mkS s == mkS t) = false := beq_eq_false_iff_ne.mpr fun e => h (mkS_inj e)
    have h2 : (s == t) = false := beq_eq_false_iff_ne.mpr h
    rw [h1, h2]
mutual
theorem eqv_py : ∀ (a b : D), D.lay a = true → D.lay b = true → PyData.eqv (toPy a) (toPy b) = D.eqv a b
  | .non, b, _, hb => by cases b <;> first | rfl | (simp [D.lay] at hb; done)
  | .bl x, b, _, hb => by cases b <;> first | rfl | (simp [D.lay] at hb; done)
  | .int x, b, _, hb => by cases b <;> first | rfl | (simp [D.lay] at hb; done)
  | .str x, b, _, hb => by
    cases b <;> first | rfl | (simp [D.lay] at hb; done) | skip
    rename_i t
    exact mkS_beq x t
  | .tup xs, b, ha, hb => by
    cases b <;> first | rfl | (simp [D.lay] at hb; done) | skip
    rename_i ys
    exact eqvL_py xs ys ha hb
  | .fl xs, b, ha, hb => by
    cases b <;> first | rfl | (simp [D.lay] at hb; done) | skip
    rename_i ys
    exact eqvL_py xs ys ha hb
  | .sc xs, b, ha, _ => by simp [D.lay] at ha
  | .fd _ _, b, ha, _ => by simp [D.lay] at ha
  | .fi _ _, b, ha, _ => by simp [D.lay] at ha
theorem eqvL_py : ∀ (a b : List D), layL a = true → layL b = true → PyData.eqvAll (toPyL a) (toPyL b) = eqvL a b
  | [], [], _, _ => rfl
  | [], _ :: _, _, _ => rfl
  | _ :: _, [], _, _ => rfl
  | x :: xs, y :: ys, ha, hb => by
    have ha' := Bool.and_eq_true_iff.mp (show (D.lay x && layL xs) = true from ha)
    have hb' := Bool.and_eq_true_iff.mp (show (D.lay y && layL ys) = true from hb)
    show (PyData.eqv (toPy x) (toPy y) && PyData.eqvAll (toPyL xs) (toPyL ys)) = (D.eqv x y && eqvL xs ys)
    rw [eqv_py x y ha'.1 hb'.1, eqvL_py xs ys ha'.2 hb'.2]
end
mutual
theorem dp_py {K : PySem.W.Frag} : ∀ (a : D) (v : V), D.lay a = true → rep n H Z a v → Dp K H v (toPy a)
  | .non, v, _, h => by rw [show v = .non from h]; exact .non
  | .bl b, v, _, h => by rw [show v = .bl b from h]; exact .bl b
  | .int b, v, _, h => by rw [show v = .int b from h]; exact .int b
  | .str b, v, _, h => by rw [show v = .str (mkS b) from h]; exact .str _
  | .tup xs, v, hl, ⟨a, vs, e, h, r⟩ => by rw [e]; exact .tup h.sq (dpL_py xs vs hl r)
  | .fl xs, v, hl, ⟨a, vs, e, h, r⟩ => by rw [e]; exact .lst h.sq (dpL_py xs vs hl r)
  | .sc xs, _, ha, _ => by simp [D.lay] at ha
  | .fd _ _, _, ha, _ => by simp [D.lay] at ha
  | .fi _ _, _, ha, _ => by simp [D.lay] at ha
theorem dpL_py {K : PySem.W.Frag} : ∀ (a : List D) (v : List V), layL a = true → repL n H Z a v → DpAll K H v (toPyL a)
  | [], v, _, h => by
    have e : v = [] := h
    rw [e]
    exact .nil
  | x :: xs, _, hl, ⟨v, r, e, h, t⟩ => by
    have hl' := Bool.and_eq_true_iff.mp (show (D.lay x && layL xs) = true from hl)
    rw [e]
    exact .cons (dp_py x v hl'.1 h) (dpL_py xs r hl'.2 t)
end
theorem strOk_mkS (s : List Nat) : PyData.strOk (mkS s) = s.all (· < 1114112) := by
  simp [PyData.strOk, mkS]
mutual
theorem lay_py : ∀ (a : D), D.lay a = true → (toPy a).canLay0 = true
  | .non, _ => rfl
  | .bl _, _ => rfl
  | .int _, _ => rfl
  | .str s, h => by
    show PyData.strOk (mkS s) = true
    rw [strOk_mkS]
    exact h
  | .tup xs, h => layL_py xs h
  | .fl xs, h => layL_py xs h
  | .sc xs, ha => by simp [D.lay] at ha
  | .fd _ _, ha => by simp [D.lay] at ha
  | .fi _ _, ha => by simp [D.lay] at ha
theorem layL_py : ∀ (a : List D), layL a = true → PyData.canLayAll0 (toPyL a) = true
  | [], _ => rfl
  | x :: xs, h => by
    have h' := Bool.and_eq_true_iff.mp (show (D.lay x && layL xs) = true from h)
    show ((toPy x).canLay0 && PyData.canLayAll0 (toPyL xs)) = true
    rw [lay_py x h'.1, layL_py xs h'.2]
    rfl
end
mutual
theorem dep_py : ∀ (a : D), D.lay a = true → (toPy a).depth = D.dep a
  | .non, _ => rfl
  | .bl _, _ => rfl
  | .int _, _ => rfl
  | .str s, h => rfl
  | .tup xs, h => by
    show PyData.depthAll (toPyL xs) + 1 = depL xs + 1
    rw [depL_py xs h]
  | .fl xs, h => by
    show PyData.depthAll (toPyL xs) + 1 = depL xs + 1
    rw [depL_py xs h]
  | .sc xs, ha => by simp [D.lay] at ha
  | .fd _ _, ha => by simp [D.lay] at ha
  | .fi _ _, ha => by simp [D.lay] at ha
theorem depL_py : ∀ (a : List D), layL a = true → PyData.depthAll (toPyL a) = depL a
  | [], _ => rfl
  | x :: xs, h => by
    have h' := Bool.and_eq_true_iff.mp (show (D.lay x && layL xs) = true from h)
    show max (toPy x).depth (PyData.depthAll (toPyL xs)) = max (D.dep x) (depL xs)
    rw [dep_py x h'.1, depL_py xs h'.2]
end
theorem shaped_of {a : D} (h : D.plain a = true) : D.lay a = true ∧ SeqAt.shaped (toPy a) = true := by
  have h' := Bool.and_eq_true_iff.mp (show (D.lay a && decide (D.dep a ≤ 60)) = true from h)
  refine ⟨h'.1, ?_⟩
  unfold SeqAt.shaped
  rw [lay_py a h'.1, dep_py a h'.1, Bool.true_and]
  exact decide_eq_true (by have := of_decide_eq_true h'.2; omega)
theorem plainL_fl {xs : List D} (h : plainL xs = true) : D.lay (.fl xs) = true ∧ SeqAt.shaped (toPy (.fl xs)) = true := by
  have h' := Bool.and_eq_true_iff.mp (show (layL xs && decide (depL xs ≤ 60)) = true from h)
  have hl : D.lay (.fl xs) = true := h'.1
  refine ⟨hl, ?_⟩
  unfold SeqAt.shaped
  rw [lay_py _ hl, dep_py _ hl, Bool.true_and]
  exact decide_eq_true (by
    have := of_decide_eq_true h'.2
    show depL xs + 1 ≤ 64
    omega)
theorem toEq_of {K : PySem.W.Frag} {p : PV} {x : D} {v : V} {f : Fp} (e : toEq p = some x) (r : repV n H Z p v f) : Dp K H v (toPy x) ∧ SeqAt.shaped (toPy x) = true ∧ D.lay x = true := by
  cases p with
  | d y =>
    simp only [toEq] at e
    split at e
    · rename_i h
      cases e
      obtain ⟨h1, h2⟩ := shaped_of h
      exact ⟨dp_py _ _ h1 r.1, h2, h1⟩
    · cases e
  | ol ys =>
    simp only [toEq] at e
    split at e
    · rename_i h
      cases e
      obtain ⟨h1, h2⟩ := plainL_fl h
      obtain ⟨a, vs, ev, hh, rr, _⟩ := r
      rw [ev]
      exact ⟨.lst (.inl (.inl hh)) (dpL_py _ _ h1 rr), h2, h1⟩
    · cases e
  | _ => cases e
theorem ok_eq (hu : X.A.units + 64 < cLine) : OpP n X (compareOp .Eq) .eq := by
  intro pins s σ H x y v u Q I r1 r2 ⟨Z, ps, w, hz, hr, e, k⟩
  obtain ⟨a, b, f1, f2, rfl, ra, rb⟩ := hr.two
  replace e : pEq false a b = some w := e
  unfold pEq at e
  split at e
  · rename_i p q h1 h2
    cases e
    obtain ⟨d1, s1, l1⟩ := toEq_of (K := X.K) h1 ra
    obtain ⟨d2, s2, l2⟩ := toEq_of (K := X.K) h2 rb
    refine op_eqD hu pins s σ H x y v u Q I r1 r2 ⟨_, _, d1, d2, s1, s2, ?_⟩
    rw [eqv_py p q l1 l2]
    exact k.atom hz rfl
  · cases e
theorem ok_ne (hu : X.A.units + 64 < cLine) : OpP n X (compareOp .NotEq) .ne := by
  intro pins s σ H x y v u Q I r1 r2 ⟨Z, ps, w, hz, hr, e, k⟩
  obtain ⟨a, b, f1, f2, rfl, ra, rb⟩ := hr.two
  replace e : pEq true a b = some w := e
  unfold pEq at e
  split at e
  · rename_i p q h1 h2
    cases e
    obtain ⟨d1, s1, l1⟩ := toEq_of (K := X.K) h1 ra
    obtain ⟨d2, s2, l2⟩ := toEq_of (K := X.K) h2 rb
    refine op_neD hu pins s σ H x y v u Q I r1 r2 ⟨_, _, d1, d2, s1, s2, ?_⟩
    rw [eqv_py p q l1 l2]
    exact k.atom hz rfl
  · cases e
end
end
end Rt

set_option Elab.async false
set_option linter.all false
set_option maxRecDepth 100000
/-! Rt6: dicts, subscripts, calls of built-ins, by values. -/
namespace Rt
open PySem PySem.Spec PyProof.Rows L2
section
variable {n : Nms} {H H' : Hp} {Z Z' : Zs}
/-! ### keys -/
theorem toKey_keyF {x : D} (h : keyF x = true) : ∃ k, toKey x = some k := by
  cases x <;> first | exact ⟨_, rfl⟩ | cases h
theorem toKey_inj {x y : D} {k : Key} (h1 : toKey x = some k) (h2 : toKey y = some k) : x = y := by
  cases x with
  | int i =>
    cases y with
    | int j =>
      cases h1
      cases h2
      rfl
    | str t =>
      cases h1
      cases h2
    | _ => cases h2
  | str s =>
    cases y with
    | int j =>
      cases h1
      cases h2
    | str t =>
      have e1 : Sum.inr (mkS s) = k := Option.some.inj h1
      have e2 : Sum.inr (mkS t) = k := Option.some.inj h2
      rw [mkS_inj (Sum.inr.inj (e1.trans e2.symm))]
    | _ => cases h2
  | _ => cases h1
theorem toKeys_of {xs : List D} (h : xs.all keyF = true) : ∃ ks, toKeys xs = some ks := by
  induction xs with
  | nil => exact ⟨[], rfl⟩
  | cons x xs ih =>
    rw [List.all_cons, Bool.and_eq_true_iff] at h
    obtain ⟨k, e1⟩ := toKey_keyF h.1
    obtain ⟨ks, e2⟩ := ih h.2
    exact ⟨k :: ks, by simp [toKeys, e1, e2]⟩
theorem toKeys_cons {x : D} {xs : List D} {ks : List Key} (h : toKeys (x :: xs) = some ks) : ∃ k r, ks = k :: r ∧ toKey x = some k ∧ toKeys xs = some r := by
  simp only [toKeys] at h
  split at h
  · rename_i k r h1 h2
    cases h
    exact ⟨k, r, rfl, h1, h2⟩
  · cases h
theorem toKeys_inj : ∀ {xs ys : List D} {ks : List Key}, toKeys xs = some ks → toKeys ys = some ks → xs = ys
  | [], [], _, _, _ => rfl
  | [], y :: ys, ks, h1, h2 => by
    obtain ⟨_, _, e, _, _⟩ := toKeys_cons h2
    rw [e] at h1
    cases h1
  | x :: xs, [], ks, h1, h2 => by
    obtain ⟨_, _, e, _, _⟩ := toKeys_cons h1
    rw [e] at h2
    cases h2
  | x :: xs, y :: ys, ks, h1, h2 => by
    obtain ⟨k, r, e, a, b⟩ := toKeys_cons h1
    obtain ⟨k', r', e', a', b'⟩ := toKeys_cons h2
    rw [e] at e'
    injection e' with e1 e2
    subst e1 e2
    rw [toKey_inj a a', toKeys_inj b b']
theorem toKeyT_inj {x y : D} {k : List Key} (h1 : toKeyT x = some k) (h2 : toKeyT y = some k) : x = y := by
  cases x with
  | tup xs =>
    cases y with
    | tup ys => rw [toKeys_inj (xs := xs) (ys := ys) h1 h2]
    | _ => cases h2
  | _ => cases h1
theorem key_val {x : D} {k : Key} {v : V} (h : toKey x = some k) (r : rep n H Z x v) : v = kV k := by
  cases x with
  | int i =>
    cases h
    exact r
  | str s =>
    cases h
    exact r
  | _ => cases h
theorem keys_val : ∀ {xs : List D} {ks : List Key} {vs : List V}, toKeys xs = some ks → repL n H Z xs vs → vs = ks.map kV
  | [], ks, vs, h, r => by
    cases h
    exact r
  | x :: xs, ks, vs, h, ⟨v, r, e, hv, t⟩ => by
    obtain ⟨k, r', e', a, b⟩ := toKeys_cons h
    rw [e, e', key_val a hv, keys_val b t]
    rfl
theorem keyT_val {x : D} {ks : List Key} {v : V} (h : toKeyT x = some ks) (r : rep n H Z x v) : ∃ b, v = .ref b ∧ Z b ∧ H b = some (.tup (ks.map kV)) := by
  cases x with
  | tup xs =>
    obtain ⟨b, vs, e, ⟨hz, hb⟩, hr⟩ := r
    rw [keys_val (xs := xs) h hr] at hb
    exact ⟨b, e, hz, hb⟩
  | _ => cases h
theorem keyT_of {x : D} (h : keyT x = true) : ∃ ks, toKeyT x = some ks := by
  cases x with
  | tup xs => exact toKeys_of (xs := xs) h
  | _ => cases h
/-- what stands at a key -/
theorem valK_of : ∀ {kvs : List (D × D)} {q : List (Key × V)} {k : D} {kk : Key}, repK n H Z kvs q → toKey k = some kk →
    (kget kvs k = none ∧ valV q kk = none) ∨ ∃ x v, kget kvs k = some x ∧ valV q kk = some v ∧ rep n H Z x v
  | [], q, k, kk, h, _ => by
    have e : q = [] := h
    rw [e]
    exact .inl ⟨rfl, valV_nil⟩
  | (j, x) :: kvs, q, k, kk, ⟨jj, v, r, e, hj, hx, t⟩, hk => by
    rw [e]
    by_cases c : j = k
    · subst c
      rw [hj] at hk
      cases hk
      refine .inr ⟨x, v, ?_, valV_pos rfl, hx⟩
      simp [kget, D.beq_self]
    · have hne : ¬ jj = kk := fun z => c (toKey_inj (z ▸ hj) hk)
      have e1 : kget ((j, x) :: kvs) k = kget kvs k := by simp [kget, D.beq_ff.mpr c]
      rw [e1, valV_neg (p := (jj, v)) hne]
      exact valK_of t hk
theorem valT_of : ∀ {kvs : List (D × D)} {q : List (List Key × V)} {k : D} {kk : List Key}, repT n H Z kvs q → toKeyT k = some kk →
    (kget kvs k = none ∧ valV q kk = none) ∨ ∃ x v, kget kvs k = some x ∧ valV q kk = some v ∧ rep n H Z x v
  | [], q, k, kk, h, _ => by
    have e : q = [] := h
    rw [e]
    exact .inl ⟨rfl, valV_nil⟩
  | (j, x) :: kvs, q, k, kk, ⟨jj, v, r, e, hj, hx, t⟩, hk => by
    rw [e]
    by_cases c : j = k
    · subst c
      rw [hj] at hk
      cases hk
      refine .inr ⟨x, v, ?_, valV_pos rfl, hx⟩
      simp [kget, D.beq_self]
    · have hne : ¬ jj = kk := fun z => c (toKeyT_inj (z ▸ hj) hk)
      have e1 : kget ((j, x) :: kvs) k = kget kvs k := by simp [kget, D.beq_ff.mpr c]
      rw [e1, valV_neg (p := (jj, v)) hne]
      exact valT_of t hk
theorem isD_of {p : PV} {t : Bool} {kvs : List (D × D)} {v : V} {f : Fp} (e : asK p = some (t, kvs)) (r : repV n H Z p v f) : ∃ a, v = .ref a ∧ IsD H a := by
  cases p with
  | od u ks =>
    cases e
    cases t with
    | false =>
      obtain ⟨a, q, e, h, _⟩ := r
      exact ⟨a, e, .inl ⟨q, .inl h⟩⟩
    | true =>
      obtain ⟨a, q, e, h, _⟩ := r
      exact ⟨a, e, .inr ⟨q, .inl h⟩⟩
  | d x =>
    cases x with
    | fd u ks =>
      cases e
      cases t with
      | false =>
        obtain ⟨⟨a, q, e, _, h, _⟩, _⟩ := r
        exact ⟨a, e, .inl ⟨q, h⟩⟩
      | true =>
        obtain ⟨⟨a, q, e, _, h, _⟩, _⟩ := r
        exact ⟨a, e, .inr ⟨q, h⟩⟩
    | _ => cases e
  | _ => cases e
theorem dget_of {p : PV} {t : Bool} {kvs : List (D × D)} {v y : V} {f : Fp} {k : D} (e : asK p = some (t, kvs)) (hk : keyB t k = true) (r : repV n H Z p v f) (ry : rep n H Z k y) :
    ∃ a o, v = .ref a ∧ DGet H a y o ∧ ((kget kvs k = none ∧ o = none) ∨ ∃ x w, kget kvs k = some x ∧ o = some w ∧ rep n H Z x w) := by
  have goK : ∀ (a : Addr) (q : List (Key × V)), t = false → v = .ref a → Rd H a (.dK q) → repK n H Z kvs q → ∃ a o, v = .ref a ∧ DGet H a y o ∧ ((kget kvs k = none ∧ o = none) ∨ ∃ x w, kget kvs k = some x ∧ o = some w ∧ rep n H Z x w) := fun a q et ev h hr => by
    subst et
    obtain ⟨kk, hkk⟩ := toKey_keyF (x := k) hk
    refine ⟨a, valV q kk, ev, .inl ⟨q, kk, h, key_val hkk ry, rfl⟩, ?_⟩
    rcases valK_of hr hkk with ⟨h1, h2⟩ | ⟨x, w, h1, h2, h3⟩
    · exact .inl ⟨h1, h2⟩
    · exact .inr ⟨x, w, h1, h2, h3⟩
  have goT : ∀ (a : Addr) (q : List (List Key × V)), t = true → v = .ref a → Rd H a (.dT q) → repT n H Z kvs q → ∃ a o, v = .ref a ∧ DGet H a y o ∧ ((kget kvs k = none ∧ o = none) ∨ ∃ x w, kget kvs k = some x ∧ o = some w ∧ rep n H Z x w) := fun a q et ev h hr => by
    subst et
    obtain ⟨kk, hkk⟩ := keyT_of (x := k) hk
    obtain ⟨b, eb, _, hb⟩ := keyT_val hkk ry
    refine ⟨a, valV q kk, ev, .inr ⟨q, kk, b, h, eb, hb, rfl⟩, ?_⟩
    rcases valT_of hr hkk with ⟨h1, h2⟩ | ⟨x, w, h1, h2, h3⟩
    · exact .inl ⟨h1, h2⟩
    · exact .inr ⟨x, w, h1, h2, h3⟩
  cases p with
  | od u ks =>
    cases e
    cases t with
    | false =>
      obtain ⟨a, q, e, h, hr, _⟩ := r
      exact goK a q rfl e (.inl h) hr
    | true =>
      obtain ⟨a, q, e, h, hr, _⟩ := r
      exact goT a q rfl e (.inl h) hr
  | d x =>
    cases x with
    | fd u ks =>
      cases e
      cases t with
      | false =>
        obtain ⟨⟨a, q, e, _, h, hr⟩, _⟩ := r
        exact goK a q rfl e h hr
      | true =>
        obtain ⟨⟨a, q, e, _, h, hr⟩, _⟩ := r
        exact goT a q rfl e h hr
    | _ => cases e
  | _ => cases e
section
variable {X : Cx} [ScK n X.K]
/-! ### in -/
theorem any_single {c : Nat} (t : List Nat) : decide (c ∈ (mkS t).cps.toList) = t.any (· == c) := by
  rw [mkS_cps]
  induction t with
  | nil => rfl
  | cons d t ih =>
    rw [List.any_cons, ← ih]
    by_cases h : d = c
    · subst h
      simp
    · have h2 : (d == c) = false := beq_eq_false_iff_ne.mpr h
      rw [h2, Bool.false_or]
      have h3 : c ≠ d := fun e => h e.symm
      simp [h3]
theorem pyAny {x : D} (hx : D.lay x = true) : ∀ {xs : List D}, layL xs = true → (toPyL xs).any (fun z => PyData.eqv z (toPy x)) = xs.any fun y => D.eqv y x
  | [], _ => rfl
  | y :: ys, h => by
    have h' := Bool.and_eq_true_iff.mp (show (D.lay y && layL ys) = true from h)
    show (PyData.eqv (toPy y) (toPy x) || (toPyL ys).any _) = (D.eqv y x || ys.any _)
    rw [eqv_py y x h'.1 hx, pyAny hx h'.2]
theorem flat_of {x : D} {v : V} (h : flat x = true) (r : rep n H Z x v) : flatV v = true := by
  cases x with
  | non => rw [show v = .non from r]; rfl
  | bl b => rw [show v = .bl b from r]; rfl
  | int b => rw [show v = .int b from r]; rfl
  | str b => rw [show v = .str (mkS b) from r]; rfl
  | _ => cases h
theorem flatL_of : ∀ {xs : List D} {vs : List V}, xs.all flat = true → repL n H Z xs vs → vs.all flatV = true
  | [], vs, _, r => by
    rw [show vs = [] from r]
    rfl
  | x :: xs, vs, h, ⟨v, r, e, hv, t⟩ => by
    rw [List.all_cons, Bool.and_eq_true_iff] at h
    rw [e, List.all_cons, flat_of h.1 hv, flatL_of h.2 t]
    rfl
theorem eqV_of {x y : D} {v w : V} (h : flat x = true) (h' : flat y = true) (r : rep n H Z x v) (r' : rep n H Z y w) : eqV v w = D.eqv x y := by
  have gen : ∀ {z : D} {u : V}, flat z = true → rep n H Z z u → (z = .non ∧ u = .non) ∨ (∃ b, z = .bl b ∧ u = .bl b) ∨ (∃ i, z = .int i ∧ u = .int i) ∨ ∃ s, z = .str s ∧ u = .str (mkS s) := fun {z u} hz ru => by
    cases z with
    | non => exact .inl ⟨rfl, ru⟩
    | bl b => exact .inr (.inl ⟨b, rfl, ru⟩)
    | int b => exact .inr (.inr (.inl ⟨b, rfl, ru⟩))
    | str b => exact .inr (.inr (.inr ⟨b, rfl, ru⟩))
    | _ => cases hz
  rcases gen h r with ⟨rfl, rfl⟩ | ⟨b, rfl, rfl⟩ | ⟨b, rfl, rfl⟩ | ⟨b, rfl, rfl⟩ <;> rcases gen h' r' with ⟨rfl, rfl⟩ | ⟨c, rfl, rfl⟩ | ⟨c, rfl, rfl⟩ | ⟨c, rfl, rfl⟩ <;> first | rfl | exact mkS_beq _ _
theorem inV_of {x : D} {v : V} (h : flat x = true) (r : rep n H Z x v) : ∀ {xs : List D} {vs : List V}, xs.all flat = true → repL n H Z xs vs → inV v vs = xs.any fun y => D.eqv y x
  | [], vs, _, q => by
    rw [show vs = [] from q]
    rfl
  | y :: ys, vs, hs, ⟨w, t, e, hw, ht⟩ => by
    rw [List.all_cons, Bool.and_eq_true_iff] at hs
    have ih := inV_of h r hs.2 ht
    unfold inV at ih ⊢
    rw [e, List.any_cons, List.any_cons, ih, eqV_of hs.1 h hw r]
theorem ok_inN (hu : X.A.units + 65 < cLine) (neg : Bool) : OpP n X (compareOp (if neg then .NotIn else .In)) (if neg then .nin else .in_) := by
  intro pins s σ H x y v u Q I r1 r2 ⟨Z, ps, w, hz, hr, e, k⟩
  obtain ⟨a, b, f1, f2, rfl, ra, rb⟩ := hr.two
  replace e : pIn neg a b = some w := by cases neg <;> exact e
  unfold pIn at e
  dsimp only at e
  split at e
  · split at e
    · rename_i t _ c
      cases e
      cases neg with
      | false =>
        refine op_in_sign pins s σ H x y v u Q I r1 r2 ⟨c, mkS t, ra.1, rb.1, ?_⟩
        rw [any_single]
        exact k.atom hz rfl
      | true =>
        refine op_notIn_sign pins s σ H x y v u Q I r1 r2 ⟨c, mkS t, ra.1, rb.1, ?_⟩
        rw [any_single]
        exact k.atom hz rfl
    · cases e
  · rename_i d hd
    split at e
    · rename_i t kvs h1
      split at e
      · rename_i h2
        cases e
        obtain ⟨p, o, rfl, g, ho⟩ := dget_of h1 h2 rb ra.1
        have eo : o.isSome = (kget kvs d).isSome := by
          rcases ho with ⟨q1, q2⟩ | ⟨_, _, q1, q2, _⟩ <;> rw [q1, q2] <;> rfl
        cases r2
        cases neg with
        | false =>
          refine d_in (by omega) I g r1 fun s' I' => ⟨.bl _, H, I', rfl, ?_⟩
          rw [eo]
          exact k.atom hz rfl
        | true =>
          refine d_notIn (by omega) I g r1 fun s' I' => ⟨.bl _, H, I', rfl, ?_⟩
          rw [eo]
          exact k.atom hz rfl
      · cases e
    · split at e
      · rename_i xs h1
        split at e
        · rename_i h2
          cases e
          have h3 := Bool.and_eq_true_iff.mp h2
          obtain ⟨l1, s1⟩ := shaped_of h3.1
          obtain ⟨l2, s2⟩ := plainL_fl h3.2
          obtain ⟨p, vs, rfl, hp, rp⟩ := asL_of (K := X.K) h1 rb
          have d1 : Dp X.K H x (toPy d) := dp_py d x l1 ra.1
          have d2 : Dp X.K H (.ref p) (.list (toPyL xs)) := .lst (.inl (.inl hp)) (dpL_py xs vs l2 rp)
          cases neg with
          | false =>
            refine op_inD hu pins s σ H x _ v u Q I r1 r2 ⟨_, _, d1, d2, s1, s2, ?_⟩
            rw [pyAny l1 l2]
            exact k.atom hz rfl
          | true =>
            refine op_notInD hu pins s σ H x _ v u Q I r1 r2 ⟨_, _, d1, d2, s1, s2, ?_⟩
            rw [pyAny l1 l2]
            exact k.atom hz rfl
        · cases e
      · split at e
        · rename_i xs h1
          split at e
          · rename_i h2
            cases e
            have h3 := Bool.and_eq_true_iff.mp h2
            obtain ⟨p, vs, rfl, hp, rp⟩ := asQ_of (K := X.K) h1 rb
            cases neg with
            | false =>
              refine op_in_seq pins s σ H x _ v u Q I r1 r2 ⟨p, vs, rfl, hp, flat_of h3.1 ra.1, flatL_of h3.2 rp, ?_⟩
              rw [if_neg (by decide), inV_of h3.1 ra.1 h3.2 rp]
              exact k.atom hz rfl
            | true =>
              refine op_notIn_seq pins s σ H x _ v u Q I r1 r2 ⟨p, vs, rfl, hp, flat_of h3.1 ra.1, flatL_of h3.2 rp, ?_⟩
              rw [if_pos rfl, inV_of h3.1 ra.1 h3.2 rp]
              exact k.atom hz rfl
          · cases e
        · cases e
  · cases e
/-! ### subscripts -/
theorem subTail_of {prog : Program} {w : World} {A : Around} {E : Value → Shared → Prop} {s : Shared} {value slice : Expr} {o i : Value} {T id : String} {Q : Value → Shared → Prop} (hT : s.TypeIs o T)
    (hl : typeLookup (.type T) "__getitem__" = pure (some (.builtin id))) (hs : subscripted slice false o i = operate [o, i] (getItem o i)) (h : wpAny (model prog w) A (getItem o i) Q E s) : wpAny (model prog w) A (subscriptTail value slice o i) Q E s := by
  unfold subscriptTail
  refine wpAny_bind ?_
  rw [getitemInPython_of_ne hT.not_modules]
  refine wpAny_bind (wpAny_specialOf hT hl ?_)
  have fin : wpAny (model prog w) A (subscripted slice false o i) (fun r s₃ => wpAny (model prog w) A (letTemporaryGo value o r >>= fun _ => pure r) Q E s₃) E s := by
    rw [hs]
    exact wpAny_operating (wpAny_mono h (fun r s₃ h₃ => wpAny_bind (wpAny_letTemporaryGo (wpAny_pure h₃))) fun _ _ x => x)
  first
    | exact wpAny_pure (wpAny_bind fin)
    | exact wpAny_bind (wpAny_pure (wpAny_bind fin))
theorem atI_same {α : Type} (xs : List α) (i : Int) : Rt.atI xs i = L2.atI xs i := rfl
theorem ok_ix (hu : X.A.units + 64 < cLine) : IxR X fun x y H Q => PR n .ix [x, y] H Q := by
  intro value slice pins s σ H x y v u Q I r1 r2 ⟨Z, ps, w, hz, hr, e, k⟩ hsub
  obtain ⟨a, b, f1, f2, rfl, ra, rb⟩ := hr.two
  replace e : pIx a b = some w := e
  unfold pIx at e
  split at e
  · rename_i kd
    split at e
    · rename_i t kvs h1
      split at e
      · rename_i h2
        split at e
        · rename_i xd h3
          cases e
          obtain ⟨p, o, rfl, g, ho⟩ := dget_of h1 h2 ra rb.1
          rcases ho with ⟨q1, q2⟩ | ⟨x', w', q1, q2, q3⟩
          · rw [h3] at q1
            cases q1
          · rw [h3] at q1
            cases q1
            subst q2
            cases r1
            refine subTail_of (dict_typeIs I g) PySem.F.slot_dict_getitem.lookup hsub ?_
            exact d_getItem (by omega) I g r2 fun w2 s' I' r' => ⟨w', H, I', r', k.atom hz q3⟩
        · cases e
      · cases e
    · split at e
      · rename_i i
        split at e
        · rename_i xs h1
          split at e
          · rename_i xd h2
            cases e
            obtain ⟨p, vs, rfl, hp, rp⟩ := asQ_of (K := X.K) h1 ra
            have l1 := repL_len _ _ rp
            have hx : ∃ w', L2.atI vs i = some w' ∧ rep n H Z xd w' := by
              have h2' : (Rt.ixN xs.length i).bind (fun j => xs[j]?) = some xd := h2
              rw [l1] at h2'
              cases q : Rt.ixN vs.length i with
              | none => rw [q] at h2'; cases h2'
              | some j =>
                rw [q] at h2'
                obtain ⟨w', q1, q2⟩ := repL_get rp (show xs[j]? = some xd from h2')
                refine ⟨w', ?_, q2⟩
                show (L2.ixN vs.length i).bind _ = _
                rw [show L2.ixN vs.length i = some j from q]
                exact q1
            obtain ⟨w', q1, q2⟩ := hx
            rcases hp with hp | hp
            · exact ix_list value slice pins s σ H _ y v u Q I r1 r2 ⟨p, vs, i, w', rfl, rb.1, hp, q1, k.atom hz q2⟩ hsub
            · exact ix_tup value slice pins s σ H _ y v u Q I r1 r2 ⟨p, vs, i, w', rfl, rb.1, hp, q1, k.atom hz q2⟩ hsub
          · cases e
        · split at e
          · rename_i st _ _
            split at e
            · rename_i h2
              split at e
              · rename_i c h3
                cases e
                refine ix_str value slice pins s σ H x y v u Q I r1 r2 ⟨mkS st, i, c, ra.1, rb.1, ?_, ?_, k.atom hz rfl⟩ hsub
                · rw [mkS_len]
                  exact szB_le h2
                · rw [mkS_cps]
                  exact h3
              · cases e
            · cases e
          · cases e
      · cases e
  · cases e
/-! ### slices -/
abbrev SlP (n : Nms) (X : Cx) : Prop := SlR X fun x lo hi H Q => ∃ Z p f r, (∀ a, Z a → H a ≠ none) ∧ repV n H Z p x f ∧ pSlV p lo hi = some r ∧ Res n H Z r Q
theorem cutL_sIx {α : Type} (xs : List α) (lo hi : Option Int) : cutL xs lo hi = (xs.drop (HT.sIx xs.length 0 lo)).take (HT.sIx xs.length xs.length hi - HT.sIx xs.length 0 lo) := by
  cases lo <;> cases hi <;> rfl
theorem repL_cut {xs : List D} {vs : List V} (h : repL n H Z xs vs) (lo hi : Option Int) : repL n H Z (cutL xs lo hi) (cutV vs lo hi) := by
  rw [cutL_sIx, repL_len _ _ h]
  exact repL_take _ (repL_drop _ h)
theorem ok_sl : SlP n X := by
  intro pins s σ H x v vl vu lo hi sl Q I r1 hs pl pu ⟨Z, p, f, r, hz, ra, e, k⟩
  unfold pSlV at e
  split at e
  · rename_i zs
    cases e
    obtain ⟨⟨a, vs, rfl, hp, rp⟩, _⟩ := ra
    refine sl_tupA pins s σ H _ v vl vu lo hi sl Q I r1 hs pl pu ⟨a, vs, rfl, hp.sq, fun hw => ?_, fun hw t ht => k.tup hz ht (repL_cut rp lo hi)⟩
    have e1 := cutL_sIx zs lo hi
    rw [repL_len _ _ rp, hw.1, hw.2, List.drop_zero, Nat.sub_zero, ← repL_len _ _ rp, List.take_length] at e1
    rw [e1] at k
    exact k.atom hz ⟨a, vs, rfl, hp, rp⟩
  · split at e
    · rename_i st h
      cases e
      refine sl_str pins s σ H x v vl vu lo hi sl Q I r1 hs pl pu ⟨mkS st, ra.1, ?_, ?_⟩
      · rw [mkS_len]
        exact szB_le h
      · have e1 : cutS (mkS st) lo hi = mkS (cutL st lo hi) := by
          unfold cutS
          rw [mkS_cps, mkS_len, cutL_sIx]
          rfl
        rw [e1]
        exact k.atom hz rfl
    · cases e
  · split at e
    · rename_i xs h
      cases e
      obtain ⟨a, vs, rfl, hp, rp⟩ := asS_of (K := X.K) h ra
      exact sl_list pins s σ H _ v vl vu lo hi sl Q I r1 hs pl pu ⟨a, vs, rfl, hp, fun t ht => k.lst hz ht (repL_cut rp lo hi)⟩
    · cases e
/-! ### built-ins -/
theorem call_lenD' : CallR X (.builtin "len") (fun xs H Q => ∃ a kvs, xs = [V.ref a] ∧ Rd H a (.dK kvs) ∧ Q (.int kvs.length) H) := by
  intro pins s σ H xs us Q I r h
  obtain ⟨a, kvs, rfl, ha, q⟩ := h
  obtain ⟨u, rfl, ru⟩ := vals1 r
  cases ru
  exact d_len I ha fun t s' I' => ⟨.int kvs.length, H, I', ⟨t, rfl⟩, q⟩
theorem call_len_dT' : CallR X (.builtin "len") (fun xs H Q => ∃ (p : Addr) (kvs : List (List Key × V)), xs = [.ref p] ∧ Rd H p (.dT kvs) ∧ Q (.int ((kvs.length : Nat) : Int)) H) := by
  intro pins s σ H xs us Q I r h
  obtain ⟨p, kvs, rfl, hp, q⟩ := h
  obtain ⟨u, rfl, rx⟩ := vals1 r
  obtain rfl : u = .ref p := rx
  obtain ⟨z, hd, ys, rel, dd⟩ := dt_rd I.hok hp
  have hl : kvs.length = ys.length := Paired.length rel
  refine call_len_dictH hd dd (by rw [← hl]; rw [sizeLine_eq] at z; omega) ?_
  rw [← hl]
  exact ⟨.int ((kvs.length : Nat) : Int), H, I.tok _, ⟨_, rfl⟩, q⟩
theorem ok_len : CallP n X (.builtin "len") .len := by
  intro pins s σ H xs us Q I r ⟨Z, ps, w, hz, hr, e, k⟩
  obtain ⟨x, rfl⟩ : ∃ x, xs = [x] := by
    cases ps with
    | nil => cases e
    | cons p ps =>
      cases ps with
      | nil =>
        obtain ⟨v, t, f, e, _, ht⟩ := hr
        exact ⟨v, by rw [e, show t = [] from ht]⟩
      | cons q qs => cases e
  obtain ⟨a, f1, rfl, ra⟩ := hr.one
  replace e : pLen a = some w := e
  unfold pLen at e
  split at e
  · split at e
    · rename_i st h
      cases e
      refine call_len_str pins s σ H _ us Q I r ⟨mkS st, by rw [show x = .str (mkS st) from ra.1], ?_, ?_⟩
      · rw [mkS_len]
        exact szB_le h
      · rw [mkS_len]
        exact k.atom hz rfl
    · cases e
  · rename_i ys
    cases e
    obtain ⟨p, vs, g, rfl, hp, rp, _⟩ := ra
    have hl : ∀ (xs : List PV) (vs : List V) (f : Fp), repVL n H Z xs vs f → xs.length = vs.length := by
      intro xs
      induction xs with
      | nil =>
        intro vs f h
        rw [h.1]
        rfl
      | cons y ys ih =>
        intro vs f h
        obtain ⟨v, t, g, h', e, _, b, _⟩ := h
        rw [e, List.length_cons, List.length_cons, ih t h' b]
    refine call_len_seq pins s σ H _ us Q I r ⟨p, vs, rfl, .inl (.inl (.inl hp)), ?_⟩
    rw [← hl _ _ _ rp]
    exact k.atom hz rfl
  · split at e
    · rename_i ys h
      cases e
      obtain ⟨p, vs, rfl, hp, rp⟩ := asQ_of (K := X.K) h ra
      refine call_len_seq pins s σ H _ us Q I r ⟨p, vs, rfl, hp, ?_⟩
      rw [← repL_len _ _ rp]
      exact k.atom hz rfl
    · split at e
      · rename_i t kvs h
        cases e
        have lK : ∀ (kvs : List (D × D)) (q : List (Key × V)), repK n H Z kvs q → kvs.length = q.length := by
          intro kvs
          induction kvs with
          | nil =>
            intro q h
            rw [show q = [] from h]
            rfl
          | cons y ys ih =>
            obtain ⟨k, y⟩ := y
            intro q ⟨kk, v, t, e, _, _, b⟩
            rw [e, List.length_cons, List.length_cons, ih t b]
        have lT : ∀ (kvs : List (D × D)) (q : List (List Key × V)), repT n H Z kvs q → kvs.length = q.length := by
          intro kvs
          induction kvs with
          | nil =>
            intro q h
            rw [show q = [] from h]
            rfl
          | cons y ys ih =>
            obtain ⟨k, y⟩ := y
            intro q ⟨kk, v, t, e, _, _, b⟩
            rw [e, List.length_cons, List.length_cons, ih t b]
        have goK : ∀ (p : Addr) (q : List (Key × V)), x = .ref p → Rd H p (.dK q) → repK n H Z kvs q → wpAny (model X.prog X.w) X.A (PySem.call (.builtin "len") us) (EP X pins σ Q) X.xe s := fun p q ex hp rp => by
          subst ex
          refine call_lenD' pins s σ H _ us Q I r ⟨p, q, rfl, hp, ?_⟩
          rw [← lK _ _ rp]
          exact k.atom hz rfl
        have goT : ∀ (p : Addr) (q : List (List Key × V)), x = .ref p → Rd H p (.dT q) → repT n H Z kvs q → wpAny (model X.prog X.w) X.A (PySem.call (.builtin "len") us) (EP X pins σ Q) X.xe s := fun p q ex hp rp => by
          subst ex
          refine call_len_dT' pins s σ H _ us Q I r ⟨p, q, rfl, hp, ?_⟩
          rw [← lT _ _ rp]
          exact k.atom hz rfl
        cases a with
        | od u ks =>
          cases h
          cases t with
          | false =>
            obtain ⟨p, q, e, h, hr, _⟩ := ra
            exact goK p q e (.inl h) hr
          | true =>
            obtain ⟨p, q, e, h, hr, _⟩ := ra
            exact goT p q e (.inl h) hr
        | d y =>
          cases y with
          | fd u ks =>
            cases h
            cases t with
            | false =>
              obtain ⟨⟨p, q, e, _, h, hr⟩, _⟩ := ra
              exact goK p q e h hr
            | true =>
              obtain ⟨⟨p, q, e, _, h, hr⟩, _⟩ := ra
              exact goT p q e h hr
          | _ => cases h
        | _ => cases h
      · cases e
/-- one argument -/
theorem PR.one {p : Prim} {g : PV → Option PV} {xs : List V} {Q : VK} (hp : ∀ a, app p [a] = g a) (hn : app p [] = none) (hm : ∀ a b r, app p (a :: b :: r) = none) (h : PR n p xs H Q) :
    ∃ Z a w x f, (∀ a, Z a → H a ≠ none) ∧ xs = [x] ∧ repV n H Z a x f ∧ g a = some w ∧ Res n H Z w Q := by
  obtain ⟨Z, ps, w, hz, hr, e, k⟩ := h
  cases ps with
  | nil => rw [hn] at e; cases e
  | cons a ps =>
    cases ps with
    | nil =>
      obtain ⟨v, t, f, ev, ra, ht⟩ := hr
      exact ⟨Z, a, w, v, f, hz, by rw [ev, show t = [] from ht], ra, (hp a) ▸ e, k⟩
    | cons b r => rw [hm] at e; cases e
theorem PR.two {p : Prim} {g : PV → PV → Option PV} {xs : List V} {Q : VK} (hp : ∀ a b, app p [a, b] = g a b) (hn : app p [] = none) (h1 : ∀ a, app p [a] = none) (hm : ∀ a b c r, app p (a :: b :: c :: r) = none) (h : PR n p xs H Q) :
    ∃ Z a b w x y f f', (∀ a, Z a → H a ≠ none) ∧ xs = [x, y] ∧ repV n H Z a x f ∧ repV n H Z b y f' ∧ g a b = some w ∧ Res n H Z w Q := by
  obtain ⟨Z, ps, w, hz, hr, e, k⟩ := h
  cases ps with
  | nil => rw [hn] at e; cases e
  | cons a ps =>
    cases ps with
    | nil => rw [h1] at e; cases e
    | cons b r =>
      cases r with
      | nil =>
        obtain ⟨v, t, f, ev, ra, v2, t2, f2, ev2, rb, ht⟩ := hr
        exact ⟨Z, a, b, w, v, v2, f, f2, hz, by rw [ev, ev2, show t2 = [] from ht], ra, rb, (hp a b) ▸ e, k⟩
      | cons c r => rw [hm] at e; cases e
theorem ok_abs : CallP n X (.builtin "abs") .abs := by
  intro pins s σ H xs us Q I r h
  obtain ⟨Z, a, w, x, f, hz, rfl, ra, e, k⟩ := PR.one (g := pAbs) (fun _ => rfl) rfl (fun _ _ _ => rfl) h
  unfold pAbs at e
  split at e
  · rename_i i
    cases e
    exact call_abs pins s σ H _ us Q I r ⟨i, by rw [show x = .int i from ra.1], k.atom hz rfl⟩
  · cases e
theorem ok_int1 : CallP n X (.type "int") .int1 := by
  intro pins s σ H xs us Q I r h
  obtain ⟨Z, a, w, x, f, hz, rfl, ra, e, k⟩ := PR.one (g := pInt) (fun _ => rfl) rfl (fun _ _ _ => rfl) h
  unfold pInt at e
  split at e
  · rename_i i
    cases e
    exact call_int1 pins s σ H _ us Q I r (.inl ⟨i, by rw [show x = .int i from ra.1], k.atom hz rfl⟩)
  · rename_i b
    cases e
    exact call_int1 pins s σ H _ us Q I r (.inr ⟨b, by rw [show x = .bl b from ra.1], k.atom hz (by cases b <;> rfl)⟩)
  · cases e
theorem foldl_min : ∀ (xs : List Int) (x : Int), (xs.foldl min x ∈ x :: xs) ∧ ∀ y ∈ x :: xs, xs.foldl min x ≤ y
  | [], x => ⟨List.mem_singleton.mpr rfl, fun y h => by rw [List.mem_singleton.mp h]; exact Int.le_refl _⟩
  | z :: xs, x => by
    obtain ⟨h1, h2⟩ := foldl_min xs (min x z)
    have h3 := h2 (min x z) List.mem_cons_self
    refine ⟨?_, fun y hy => ?_⟩
    · rcases List.mem_cons.mp h1 with e | e
      · show xs.foldl min (min x z) ∈ _
        rw [e]
        rcases Int.le_total x z with l | l
        · rw [Int.min_eq_left l]
          exact List.mem_cons_self
        · rw [Int.min_eq_right l]
          exact List.mem_cons_of_mem _ List.mem_cons_self
      · exact List.mem_cons_of_mem _ (List.mem_cons_of_mem _ e)
    · show xs.foldl min (min x z) ≤ y
      rcases List.mem_cons.mp hy with e | e
      · rw [e]
        exact Int.le_trans h3 (Int.min_le_left _ _)
      · rcases List.mem_cons.mp e with e | e
        · rw [e]
          exact Int.le_trans h3 (Int.min_le_right _ _)
        · exact h2 y (List.mem_cons_of_mem _ e)
theorem foldl_max : ∀ (xs : List Int) (x : Int), (xs.foldl max x ∈ x :: xs) ∧ ∀ y ∈ x :: xs, y ≤ xs.foldl max x
  | [], x => ⟨List.mem_singleton.mpr rfl, fun y h => by rw [List.mem_singleton.mp h]; exact Int.le_refl _⟩
  | z :: xs, x => by
    obtain ⟨h1, h2⟩ := foldl_max xs (max x z)
    have h3 := h2 (max x z) List.mem_cons_self
    refine ⟨?_, fun y hy => ?_⟩
    · rcases List.mem_cons.mp h1 with e | e
      · show xs.foldl max (max x z) ∈ _
        rw [e]
        rcases Int.le_total x z with l | l
        · rw [Int.max_eq_right l]
          exact List.mem_cons_of_mem _ List.mem_cons_self
        · rw [Int.max_eq_left l]
          exact List.mem_cons_self
      · exact List.mem_cons_of_mem _ (List.mem_cons_of_mem _ e)
    · show y ≤ xs.foldl max (max x z)
      rcases List.mem_cons.mp hy with e | e
      · rw [e]
        exact Int.le_trans (Int.le_max_left _ _) h3
      · rcases List.mem_cons.mp e with e | e
        · rw [e]
          exact Int.le_trans (Int.le_max_right _ _) h3
        · exact h2 y (List.mem_cons_of_mem _ e)
theorem ok_min1 (hc : X.calm = true) : CallP n X (.builtin "min") .min1 := by
  intro pins s σ H xs us Q I r h
  obtain ⟨Z, a, w, x, f, hz, rfl, ra, e, k⟩ := PR.one (g := pMin1) (fun _ => rfl) rfl (fun _ _ _ => rfl) h
  unfold pMin1 at e
  split at e
  · rename_i ys h1
    split at e
    · rename_i ns h2
      split at e
      · rename_i m h3
        cases e
        obtain ⟨p, vs, rfl, hp, rp⟩ := asS_of (K := X.K) h1 ra
        have hv := allInt_of h2 rp
        subst hv
        cases ns with
        | nil => cases h3
        | cons i is =>
          refine cr_min hc pins s σ H _ us Q I r ⟨p, _, rfl, hp, Nat.succ_pos _, fun m' hm1 hm2 => ?_⟩
          have e1 : is.foldl min i = m := Option.some.inj h3
          obtain ⟨h5, h6⟩ := foldl_min is i
          have : m' = m := by
            rw [e1] at h5 h6
            exact Int.le_antisymm (hm2 m h5) (h6 m' hm1)
          rw [this]
          exact k.atom hz rfl
      · cases e
    · cases e
  · cases e
theorem ok_max1 (hc : X.calm = true) : CallP n X (.builtin "max") .max1 := by
  intro pins s σ H xs us Q I r h
  obtain ⟨Z, a, w, x, f, hz, rfl, ra, e, k⟩ := PR.one (g := pMax1) (fun _ => rfl) rfl (fun _ _ _ => rfl) h
  unfold pMax1 at e
  split at e
  · rename_i ys h1
    split at e
    · rename_i ns h2
      split at e
      · rename_i m h3
        cases e
        obtain ⟨p, vs, rfl, hp, rp⟩ := asS_of (K := X.K) h1 ra
        have hv := allInt_of h2 rp
        subst hv
        cases ns with
        | nil => cases h3
        | cons i is =>
          refine cr_max hc pins s σ H _ us Q I r ⟨p, _, rfl, hp, Nat.succ_pos _, fun m' hm1 hm2 => ?_⟩
          have e1 : is.foldl max i = m := Option.some.inj h3
          obtain ⟨h5, h6⟩ := foldl_max is i
          have : m' = m := by
            rw [e1] at h5 h6
            exact Int.le_antisymm (h6 m' hm1) (hm2 m h5)
          rw [this]
          exact k.atom hz rfl
      · cases e
    · cases e
  · cases e
theorem ok_sum1 (hc : X.calm = true) : CallP n X (.builtin "sum") .sum1 := by
  intro pins s σ H xs us Q I r h
  obtain ⟨Z, a, w, x, f, hz, rfl, ra, e, k⟩ := PR.one (g := pSum) (fun _ => rfl) rfl (fun _ _ _ => rfl) h
  unfold pSum at e
  split at e
  · rename_i ys h1
    split at e
    · rename_i ns h2
      cases e
      obtain ⟨p, vs, rfl, hp, rp⟩ := asS_of (K := X.K) h1 ra
      have hv := allInt_of h2 rp
      subst hv
      exact cr_sum hc pins s σ H _ us Q I r ⟨p, _, rfl, hp, k.atom hz rfl⟩
    · cases e
  · cases e
theorem ok_min2 (hc : X.calm = true) : CallP n X (.builtin "min") .min2 := by
  intro pins s σ H xs us Q I r h
  obtain ⟨Z, a, b, w, x, y, f, f', hz, rfl, ra, rb, e, k⟩ := PR.two (fun _ _ => rfl) rfl (fun _ => rfl) (fun _ _ _ _ => rfl) h
  obtain ⟨i, j, z, rfl, rfl, hz2, rfl⟩ := int2_of e
  refine call_min2 hc pins s σ H _ us Q I r ⟨i, j, by rw [show x = .int i from ra.1, show y = .int j from rb.1], k.atom hz ?_⟩
  rw [← Option.some.inj hz2]
  rfl
theorem ok_max2 (hc : X.calm = true) : CallP n X (.builtin "max") .max2 := by
  intro pins s σ H xs us Q I r h
  obtain ⟨Z, a, b, w, x, y, f, f', hz, rfl, ra, rb, e, k⟩ := PR.two (fun _ _ => rfl) rfl (fun _ => rfl) (fun _ _ _ _ => rfl) h
  obtain ⟨i, j, z, rfl, rfl, hz2, rfl⟩ := int2_of e
  refine call_max2 hc pins s σ H _ us Q I r ⟨i, j, by rw [show x = .int i from ra.1, show y = .int j from rb.1], k.atom hz ?_⟩
  rw [← Option.some.inj hz2]
  rfl
theorem ok_tuple1 : CallP n X (.type "tuple") .tuple1 := by
  intro pins s σ H xs us Q I r h
  obtain ⟨Z, a, w, x, f, hz, rfl, ra, e, k⟩ := PR.one (g := pTuple) (fun _ => rfl) rfl (fun _ _ _ => rfl) h
  unfold pTuple at e
  split at e
  · rename_i ys h1
    cases e
    cases a with
    | d z =>
      cases z with
      | tup zs =>
        cases h1
        obtain ⟨⟨p, vs, rfl, hp, rp⟩, _⟩ := ra
        exact call_tuple_of pins s σ H _ us Q I r ⟨p, vs, rfl, .inr ⟨hp.sq, k.atom hz ⟨p, vs, rfl, hp, rp⟩⟩⟩
      | fl zs =>
        cases h1
        obtain ⟨⟨p, vs, rfl, hp, rp⟩, _⟩ := ra
        exact call_tuple_of pins s σ H _ us Q I r ⟨p, vs, rfl, .inl ⟨hp.sq, fun t ht => k.tup hz ht rp⟩⟩
      | sc zs =>
        cases h1
        obtain ⟨⟨p, vs, rfl, hp, rp⟩, _⟩ := ra
        exact call_tuple_of pins s σ H _ us Q I r ⟨p, vs, rfl, .inl ⟨hp.elim (fun h => .inl h.2) (fun h => ScK.sq p vs h H), fun t ht => k.tup hz ht rp⟩⟩
      | _ => cases h1
    | ol zs =>
      cases h1
      obtain ⟨p, vs, rfl, hp, rp, _⟩ := ra
      exact call_tuple_of pins s σ H _ us Q I r ⟨p, vs, rfl, .inl ⟨.inl (.inl hp), fun t ht => k.tup hz ht rp⟩⟩
    | _ => cases h1
  · cases e
theorem ok_list1 : CallP n X (.type "list") .list1 := by
  intro pins s σ H xs us Q I r h
  obtain ⟨Z, a, w, x, f, hz, rfl, ra, e, k⟩ := PR.one (g := pList) (fun _ => rfl) rfl (fun _ _ _ => rfl) h
  unfold pList at e
  split at e
  · rename_i ys h1
    cases e
    obtain ⟨p, vs, rfl, hp, rp⟩ := asQ_of (K := X.K) h1 ra
    exact call_list_of pins s σ H _ us Q I r ⟨p, vs, rfl, hp, fun t ht => k.lst hz ht rp⟩
  · cases e
end
end
end Rt

set_option Elab.async false
set_option linter.all false
set_option maxRecDepth 100000
/-! Rt7: expressions of primitives, displays, tests. -/
namespace Rt
open PySem PySem.Spec PyProof.Rows L2
section
variable {n : Nms} {C : Orc}
theorem tE_mono {e : E} {σ : L2.St} {H : Hp} {Q Q' : VK} (h : tE n C e σ H Q) (w : ∀ v H', Q v H' → Q' v H') : tE n C e σ H Q' := by
  obtain ⟨ρ, F, R, Z, p, ρ', S, e1, k⟩ := h
  exact ⟨ρ, F, R, Z, p, ρ', S, e1, fun v H' F' Z' f g S' r => w v H' (k v H' F' Z' f g S' r)⟩
theorem tL_mono {es : List E} {σ : L2.St} {H : Hp} {Q Q' : List V → Hp → Prop} (h : tL n C es σ H Q) (w : ∀ v H', Q v H' → Q' v H') : tL n C es σ H Q' := by
  obtain ⟨ρ, F, R, Z, p, ρ', S, e1, ok, k⟩ := h
  exact ⟨ρ, F, R, Z, p, ρ', S, e1, ok, fun v H' F' Z' f g S' r => w v H' (k v H' F' Z' f g S' r)⟩
/-- a written argument list -/
theorem paL {X : Cx} : ∀ {es : List E} {as : List Expr}, Paired (fun e a => noStar a = true ∧ PE X a (tE n C e)) es as → PA X as (tL n C es)
  | _, _, .nil => pa_wk pa_nil fun _ _ _ h => tL_nil h
  | _, _, .cons h t => pa_wk (pa_cons h.2 (paL t) (star_of h.1)) fun _ _ _ h => tL_cons h
theorem resL_rd {σ : L2.St} {ρ' : Env} {F' : Nat → Fp} {H : Hp} {Z : Zs} : ∀ {es : List E} {ps : List PV} {vs : List V} {f : Fp}, resL n σ ρ' F' H Z es ps vs f → RdL n H Z ps vs
  | [], _, _, _, ⟨e1, e2, _⟩ => by
    rw [e1, e2]
    exact (rfl : ([] : List V) = [])
  | e :: es, _, _, _, ⟨p, v, ps, vs, g, h, e1, e2, _, r, t⟩ => by
    rw [e1, e2]
    unfold resV at r
    cases hr : rdOf e with
    | none =>
      rw [hr] at r
      exact ⟨v, vs, g, rfl, r, resL_rd t⟩
    | some i =>
      rw [hr] at r
      exact ⟨v, vs, F' i, rfl, r.2.1, resL_rd t⟩
/-- THE STEP to a primitive -/
theorem red {p : Prim} {es : List E} {σ : L2.St} {H : Hp} {Q : VK} (ok : rdOk es = true) (h : tE n C (.pr p es) σ H Q) : tL n C es σ H fun vs H' => PR n p vs H' Q := by
  obtain ⟨ρ, F, R, Z, w, ρ', S, ev, k⟩ := h
  simp only [evE] at ev
  cases e1 : evL C es ρ with
  | none => rw [e1] at ev; cases ev
  | some q =>
    obtain ⟨ps, ρ1⟩ := q
    rw [e1] at ev
    dsimp only at ev
    cases e2 : app p ps with
    | none => rw [e2] at ev; cases ev
    | some r =>
      rw [e2] at ev
      simp only [Option.some.injEq, Prod.mk.injEq] at ev
      obtain ⟨rfl, rfl⟩ := ev
      refine ⟨ρ, F, R, Z, ps, ρ1, S, e1, ok, fun vs H1 F1 Z1 f1 g1 S1 r1 => ⟨Z1, ps, r, S1.zt, resL_rd r1, e2, fun v H2 Z2 f2 w => ?_⟩⟩
      refine k v H2 F1 Z2 f2 ((g1.trans (w.ext.go (m := fun _ => false) (R := R)) fun a => Nat.le_refl _).mono fun i hi => ?_) ((S1.less fun a => Nat.le_add_right _ _).new w) w.rp
      · simpa [mtE] using hi
/-- .. with what is known of the first argument -/
theorem red1 {p : Prim} {e : E} {es : List E} {σ : L2.St} {H : Hp} {Q : VK} (ok : rdOk (e :: es) = true) (h : tE n C (.pr p (e :: es)) σ H Q) :
    tE n C e σ H fun x H1 => (∃ Z a f ps r, (∀ b, Z b → H1 b ≠ none) ∧ repV n H1 Z a x f ∧ app p (a :: ps) = some r) ∧ tL n C es σ H1 fun xs H2 => PR n p (x :: xs) H2 Q := by
  have h' := h
  obtain ⟨ρ, F, R, Z, w, ρ', S, ev, k⟩ := h
  simp only [evE, evL] at ev
  cases e1 : evE C e ρ with
  | none => rw [e1] at ev; cases ev
  | some q =>
    obtain ⟨a, ρ1⟩ := q
    rw [e1] at ev
    dsimp only at ev
    cases e2 : evL C es ρ1 with
    | none => rw [e2] at ev; cases ev
    | some q =>
      obtain ⟨ps, ρ2⟩ := q
      rw [e2] at ev
      dsimp only at ev
      cases e3 : app p (a :: ps) with
      | none => rw [e3] at ev; cases ev
      | some r =>
        rw [e3] at ev
        simp only [Option.some.injEq, Prod.mk.injEq] at ev
        obtain ⟨rfl, rfl⟩ := ev
        have ok1 := Bool.and_eq_true_iff.mp (show ((match rdOf e with | some i => !(mtL es).contains i | none => true) && rdOk es) = true from ok)
        refine ⟨ρ, F, R, Z, a, ρ1, S, e1, fun v H1 F1 Z1 f1 g1 S1 r1 => ⟨?_, ?_⟩⟩
        · unfold resV at r1
          cases hr : rdOf e with
          | none =>
            rw [hr] at r1
            exact ⟨Z1, a, f1, ps, r, S1.zt, r1, e3⟩
          | some i =>
            rw [hr] at r1
            exact ⟨Z1, a, F1 i, ps, r, S1.zt, r1.2.1, e3⟩
        · refine ⟨ρ1, F1, fun a => R a + f1 a, Z1, ps, ρ2, S1, e2, ok1.2, fun vs H2 F2 Z2 f2 g2 S2 r2 => ?_⟩
          have rv : ∃ f, repV n H2 Z2 a v f := by
            unfold resV at r1
            cases hr : rdOf e with
            | none =>
              rw [hr] at r1
              exact ⟨f1, g2.other (fun a => Nat.le_add_left _ _) r1⟩
            | some i =>
              rw [hr] at r1
              have hi : mset (mtL es) i = false := by
                have := ok1.1
                rw [hr] at this
                simpa [mset] using this
              exact ⟨F1 i, g2.mine hi r1.2.1⟩
          obtain ⟨fv, rv⟩ := rv
          refine ⟨Z2, a :: ps, r, S2.zt, ⟨v, vs, fv, rfl, rv, resL_rd r2⟩, e3, fun v' H3 Z3 f3 w => ?_⟩
          refine k v' H3 F2 Z3 f3 (((g1.trans g2 fun a => Nat.le_add_right _ _).trans (w.ext.go (m := fun _ => false) (R := R)) fun a => Nat.le_refl _).mono fun i hi => ?_) ((S2.less fun a => by show R a ≤ (R a + f1 a) + f2 a; omega).new w) w.rp
          have hi' : mset (mtL (e :: es)) i = true := by
            show mset (mtE e ++ mtL es) i = true
            rw [mset_app]
            simpa using hi
          exact hi'

/-- with the results told ahead -/
def tEp (n : Nms) (C : Orc) (e : E) (p : PV) : TE := fun σ H Q => ∃ ρ F R Z ρ', Sv n H Z ρ σ F R ∧ evE C e ρ = some (p, ρ') ∧
  ∀ v H' F' Z' f, Go (mset (mtE e)) R H Z F ρ H' Z' F' ρ' → Sv n H' Z' ρ' σ F' (fun a => R a + f a) → resV n e p v σ ρ' F' f H' Z' → Q v H'
def tLp (n : Nms) (C : Orc) (es : List E) (ps : List PV) : TA := fun σ H Q => ∃ ρ F R Z ρ', Sv n H Z ρ σ F R ∧ evL C es ρ = some (ps, ρ') ∧ rdOk es = true ∧
  ∀ vs H' F' Z' f, Go (mset (mtL es)) R H Z F ρ H' Z' F' ρ' → Sv n H' Z' ρ' σ F' (fun a => R a + f a) → resL n σ ρ' F' H' Z' es ps vs f → Q vs H'
theorem tEp_tE {e : E} {p : PV} {σ : L2.St} {H : Hp} {Q Q' : VK} (h : tEp n C e p σ H Q) (w : ∀ v H', Q v H' → Q' v H') : tE n C e σ H Q' := by
  obtain ⟨ρ, F, R, Z, ρ', S, ev, k⟩ := h
  exact ⟨ρ, F, R, Z, p, ρ', S, ev, fun v H' F' Z' f g S' r => w v H' (k v H' F' Z' f g S' r)⟩
theorem tLp_tL {es : List E} {ps : List PV} {σ : L2.St} {H : Hp} {Q Q' : List V → Hp → Prop} (h : tLp n C es ps σ H Q) (w : ∀ v H', Q v H' → Q' v H') : tL n C es σ H Q' := by
  obtain ⟨ρ, F, R, Z, ρ', S, ev, ok, k⟩ := h
  exact ⟨ρ, F, R, Z, ps, ρ', S, ev, ok, fun v H' F' Z' f g S' r => w v H' (k v H' F' Z' f g S' r)⟩
theorem tLp_cons {e : E} {es : List E} {p : PV} {ps : List PV} {σ : L2.St} {H : Hp} {Q : List V → Hp → Prop} (h : tLp n C (e :: es) (p :: ps) σ H Q) :
    tEp n C e p σ H fun v H1 => (∃ Z f, (∀ b, Z b → H1 b ≠ none) ∧ repV n H1 Z p v f) ∧ tLp n C es ps σ H1 fun vs H2 => Q (v :: vs) H2 := by
  obtain ⟨ρ, F, R, Z, ρ', S, ev, ok, k⟩ := h
  have ok1 := (Bool.and_eq_true_iff.mp (show ((match rdOf e with | some i => !(mtL es).contains i | none => true) && rdOk es) = true from ok))
  simp only [evL] at ev
  cases e1 : evE C e ρ with
  | none => rw [e1] at ev; cases ev
  | some q =>
    obtain ⟨p, ρ1⟩ := q
    rw [e1] at ev
    dsimp only at ev
    cases e2 : evL C es ρ1 with
    | none => rw [e2] at ev; cases ev
    | some q =>
      obtain ⟨ps', ρ2⟩ := q
      rw [e2] at ev
      dsimp only at ev
      simp only [Option.some.injEq, Prod.mk.injEq, List.cons.injEq] at ev
      obtain ⟨⟨rfl, rfl⟩, rfl⟩ := ev
      refine ⟨ρ, F, R, Z, ρ1, S, e1, fun v H1 F1 Z1 f1 g1 S1 r1 => ⟨?_, ?_⟩⟩
      · unfold resV at r1
        cases hr : rdOf e with
        | none =>
          rw [hr] at r1
          exact ⟨Z1, f1, S1.zt, r1⟩
        | some i =>
          rw [hr] at r1
          exact ⟨Z1, F1 i, S1.zt, r1.2.1⟩
      refine ⟨ρ1, F1, fun a => R a + f1 a, Z1, ρ2, S1, e2, ok1.2, fun vs H2 F2 Z2 f2 g2 S2 r2 => ?_⟩
      refine k (v :: vs) H2 F2 Z2 (fun a => f1 a + f2 a) ?_ (S2.congr fun a => by show R a + (f1 a + f2 a) = (R a + f1 a) + f2 a; omega) ⟨p, v, ps', vs, f1, f2, rfl, rfl, fun _ => rfl, ?_, r2⟩
      · refine (g1.trans g2 fun a => Nat.le_add_right _ _).mono fun i hi => ?_
        show mset (mtE e ++ mtL es) i = true
        rw [mset_app]
        exact hi
      · unfold resV at r1 ⊢
        cases hr : rdOf e with
        | none =>
          rw [hr] at r1
          exact g2.other (fun a => Nat.le_add_left _ _) r1
        | some i =>
          rw [hr] at r1
          have hi : mset (mtL es) i = false := by
            have := ok1.1
            rw [hr] at this
            simpa [mset] using this
          obtain ⟨h1, h2, h3, h4⟩ := r1
          refine ⟨h1.trans (g2.un i hi).2.symm, ?_, h3, h4⟩
          exact Sv.repV_congr (g2.un i hi).1 (g2.mine hi h2)
theorem tLp_nil {ps : List PV} {σ : L2.St} {H : Hp} {Q : List V → Hp → Prop} (h : tLp n C [] ps σ H Q) : Q [] H := by
  obtain ⟨ρ, F, R, Z, ρ', S, e, _, k⟩ := h
  simp only [evL, Option.some.injEq, Prod.mk.injEq] at e
  obtain ⟨rfl, rfl⟩ := e
  exact k [] H F Z (fun _ => 0) Go.refl (S.zero fun _ => rfl) ⟨rfl, rfl, fun _ => rfl⟩
theorem redP {p : Prim} {es : List E} {σ : L2.St} {H : Hp} {Q : VK} (ok : rdOk es = true) (h : tE n C (.pr p es) σ H Q) :
    ∃ ps r, app p ps = some r ∧ tLp n C es ps σ H fun vs H' => ∃ Z, (∀ a, Z a → H' a ≠ none) ∧ RdL n H' Z ps vs ∧ Res n H' Z r Q := by
  obtain ⟨ρ, F, R, Z, w, ρ', S, ev, k⟩ := h
  simp only [evE] at ev
  cases e1 : evL C es ρ with
  | none => rw [e1] at ev; cases ev
  | some q =>
    obtain ⟨ps, ρ1⟩ := q
    rw [e1] at ev
    dsimp only at ev
    cases e2 : app p ps with
    | none => rw [e2] at ev; cases ev
    | some r =>
      rw [e2] at ev
      simp only [Option.some.injEq, Prod.mk.injEq] at ev
      obtain ⟨rfl, rfl⟩ := ev
      refine ⟨ps, r, e2, ρ, F, R, Z, ρ1, S, e1, ok, fun vs H1 F1 Z1 f1 g1 S1 r1 => ⟨Z1, S1.zt, resL_rd r1, fun v H2 Z2 f2 w => ?_⟩⟩
      refine k v H2 F1 Z2 f2 ((g1.trans (w.ext.go (m := fun _ => false) (R := R)) fun a => Nat.le_refl _).mono fun i hi => ?_) ((S1.less fun a => Nat.le_add_right _ _).new w) w.rp
      · simpa [mtE] using hi

/-! ### operators -/
section
variable {X : Cx} {pos : Pos} [ScK n X.K]
theorem pe_or2 {a : Expr} {t u : TE} (h1 : PE X a t) (h2 : PE X a u) : PE X a fun σ H Q => t σ H Q ∨ u σ H Q := ⟨fun pins s σ H Q I h => h.elim (h1.run pins s σ H Q I) (h2.run pins s σ H Q I)⟩
theorem two_red {p : Prim} {e1 e2 : E} {σ : L2.St} {H : Hp} {Q : VK} (ok : rdOk [e1, e2] = true) (h : tE n C (.pr p [e1, e2]) σ H Q) : tOp (fun x y H Q => PR n p [x, y] H Q) (tE n C e1) (tE n C e2) σ H Q :=
  tE_mono (tL_cons (red ok h)) fun x H1 h1 => tE_mono (tL_cons h1) fun y H2 h2 => tL_nil h2
theorem opE {p : Prim} {op : Operator} {e1 e2 : E} {a b : Expr} (ho : OpP n X (binaryOp op) p) (ok : rdOk [e1, e2] = true) (h1 : PE X a (tE n C e1)) (h2 : PE X b (tE n C e2)) : PE X (.BinOp a op b pos) (tE n C (.pr p [e1, e2])) :=
  pe_wk (pe_op ho h1 h2) fun _ _ _ h => two_red ok h
theorem cmpE {p : Prim} {op : CmpOp} {e1 e2 : E} {a b : Expr} (ho : OpP n X (compareOp op) p) (ok : rdOk [e1, e2] = true) (hm : behindInMarks op b = false) (h1 : PE X a (tE n C e1)) (h2 : PE X b (tE n C e2)) : PE X (.Compare a [op] [b] pos) (tE n C (.pr p [e1, e2])) :=
  pe_wk (pe_cmpR ho h1 h2 hm) fun _ _ _ h => two_red ok h
theorem negE {e : E} {a : Expr} (h1 : PE X a (tE n C e)) : PE X (.UnaryOp .USub a pos) (tE n C (.pr .neg [e])) :=
  pe_wk (pe_un ok_neg h1) fun _ _ _ h => tE_mono (tL_cons (red (by simp [rdOk, mtL]; split <;> simp) h)) fun x H1 h1 => tL_nil h1
theorem ixE (hu : X.A.units + 64 < cLine) {e1 e2 : E} {a b : Expr} (hs : PlainIx b) (ok : rdOk [e1, e2] = true) (h1 : PE X a (tE n C e1)) (h2 : PE X b (tE n C e2)) : PE X (.Subscript a b pos) (tE n C (.pr .ix [e1, e2])) :=
  pe_wk (pe_ix (ok_ix hu) h1 h2 hs) fun _ _ _ h => two_red ok h
/-! ### calls of built-ins -/
theorem callBE {p : Prim} {x : Str} {id : String} {es : List E} {as : List Expr} {q : Pos} (hc : CallP n X (.builtin id) p) (hg : Gl X x) (hm : X.mg x = none) (hv : bootBuiltins x = some (.builtin id)) (hn : x ≠ "__name__") (hdb : (x == ("__debug__" : Str)) = false)
    (ok : rdOk es = true) (hl : as ≠ []) (ha : Paired (fun e a => noStar a = true ∧ PE X a (tE n C e)) es as) : PE X (.Call (.Name x q) as [] pos) (tE n C (.pr p es)) := by
  cases ha with
  | nil => exact absurd rfl hl
  | cons h t =>
    rename_i e a es as
    refine pe_wk (pe_callB hc hg hm hv (paL (.cons h t)) hn hdb (star_of h.1) ?_) fun _ _ _ h => red ok h
    have : ∀ {es : List E} {as : List Expr}, Paired (fun e a => noStar a = true ∧ PE X a (tE n C e)) es as → (backTo pos (starEach as X.env)).any (·.1) = false := by
      intro es as h
      induction h with
      | nil => rfl
      | cons h t ih =>
        rw [star_of h.1]
        show (false || _) = false
        rw [Bool.false_or]
        exact ih
    exact this t
theorem callTE {p : Prim} {x : Str} {T : String} {es : List E} {as : List Expr} {q : Pos} (hc : CallP n X (.type T) p) (hg : Gl X x) (hm : X.mg x = none) (hv : bootBuiltins x = some (.type T)) (hn : x ≠ "__name__") (hdb : (x == ("__debug__" : Str)) = false)
    (ok : rdOk es = true) (hl : as ≠ []) (ha : Paired (fun e a => noStar a = true ∧ PE X a (tE n C e)) es as) : PE X (.Call (.Name x q) as [] pos) (tE n C (.pr p es)) := by
  cases ha with
  | nil => exact absurd rfl hl
  | cons h t =>
    rename_i e a es as
    refine pe_wk (pe_callTy hc hg hm hv (paL (.cons h t)) hn hdb (star_of h.1) ?_) fun _ _ _ h => red ok h
    have : ∀ {es : List E} {as : List Expr}, Paired (fun e a => noStar a = true ∧ PE X a (tE n C e)) es as → (backTo pos (starEach as X.env)).any (·.1) = false := by
      intro es as h
      induction h with
      | nil => rfl
      | cons h t ih =>
        rw [star_of h.1]
        show (false || _) = false
        rw [Bool.false_or]
        exact ih
    exact this t
/-! ### slices -/
theorem sl_inv0 {ps : List PV} {r : PV} (e : app (.sl false false) ps = some r) : ∃ p, ps = [p] ∧ pSlV p none none = some r := by
  cases ps with
  | nil => cases e
  | cons p bs =>
    replace e : pSl false false p bs = some r := e
    unfold pSl at e
    split at e <;> first | (simp_all; done) | exact ⟨p, rfl, e⟩ | (rename_i h; cases h) | cases e
theorem sl_inv1 {ps : List PV} {r : PV} (e : app (.sl true false) ps = some r) : ∃ p i, ps = [p, .d (.int i)] ∧ pSlV p (some i) none = some r := by
  cases ps with
  | nil => cases e
  | cons p bs =>
    replace e : pSl true false p bs = some r := e
    unfold pSl at e
    split at e <;> first | exact ⟨p, _, rfl, e⟩ | (rename_i h; cases h; done) | (cases e; done) | (simp_all; done)
theorem sl_inv2 {ps : List PV} {r : PV} (e : app (.sl false true) ps = some r) : ∃ p i, ps = [p, .d (.int i)] ∧ pSlV p none (some i) = some r := by
  cases ps with
  | nil => cases e
  | cons p bs =>
    replace e : pSl false true p bs = some r := e
    unfold pSl at e
    split at e <;> first | exact ⟨p, _, rfl, e⟩ | (rename_i h; cases h; done) | (cases e; done) | (simp_all; done)
theorem sl_inv3 {ps : List PV} {r : PV} (e : app (.sl true true) ps = some r) : ∃ p i j, ps = [p, .d (.int i), .d (.int j)] ∧ pSlV p (some i) (some j) = some r := by
  cases ps with
  | nil => cases e
  | cons p bs =>
    replace e : pSl true true p bs = some r := e
    unfold pSl at e
    split at e <;> first | exact ⟨p, _, _, rfl, e⟩ | (rename_i h; cases h; done) | (cases e; done) | (simp_all; done)
theorem slE {e : E} {a : Expr} {p2 : Pos} (h1 : PE X a (tE n C e)) : PE X (.Subscript a (.Slice none none none p2) pos) (tE n C (.pr (.sl false false) [e])) :=
  pe_wk (pe_slice ok_sl h1 po_none po_none) fun σ H Q h => by
    obtain ⟨ps, r, e0, h⟩ := redP (by simp [rdOk, mtL]; split <;> simp) h
    cases ps with
    | nil => cases e0
    | cons p ps =>
      refine tEp_tE (tLp_cons h) fun x H1 ⟨_, h1⟩ => ?_
      obtain ⟨Z, hz, hr, k⟩ := tLp_nil h1
      obtain ⟨p', f, e1, rp⟩ := hr.one
      cases e1
      exact ⟨Z, p, f, r, hz, rp, e0, k⟩
theorem slE1 {e l : E} {a b : Expr} {p2 : Pos} (ok : rdOk [e, l] = true) (h1 : PE X a (tE n C e)) (h2 : PE X b (tE n C l)) : PE X (.Subscript a (.Slice (some b) none none p2) pos) (tE n C (.pr (.sl true false) [e, l])) :=
  pe_wk (pe_slice ok_sl h1 (po_some h2) po_none) fun σ H Q h => by
    obtain ⟨ps, r, e0, h⟩ := redP ok h
    obtain ⟨p, i, rfl, e0⟩ := sl_inv1 e0
    refine tEp_tE (tLp_cons h) fun x H1 ⟨_, h1⟩ => tEp_tE (tLp_cons h1) fun y H2 ⟨⟨_, _, _, ry⟩, h2⟩ => ⟨i, ry.1, ?_⟩
    obtain ⟨Z, hz, hr, k⟩ := tLp_nil h2
    obtain ⟨p', q', f, g, e1, rp, _⟩ := hr.two
    cases e1
    exact ⟨Z, p, f, r, hz, rp, e0, k⟩
theorem slE2 {e l : E} {a b : Expr} {p2 : Pos} (ok : rdOk [e, l] = true) (h1 : PE X a (tE n C e)) (h2 : PE X b (tE n C l)) : PE X (.Subscript a (.Slice none (some b) none p2) pos) (tE n C (.pr (.sl false true) [e, l])) :=
  pe_wk (pe_slice ok_sl h1 po_none (po_some h2)) fun σ H Q h => by
    obtain ⟨ps, r, e0, h⟩ := redP ok h
    obtain ⟨p, i, rfl, e0⟩ := sl_inv2 e0
    refine tEp_tE (tLp_cons h) fun x H1 ⟨_, h1⟩ => tEp_tE (tLp_cons h1) fun y H2 ⟨⟨_, _, _, ry⟩, h2⟩ => ⟨i, ry.1, ?_⟩
    obtain ⟨Z, hz, hr, k⟩ := tLp_nil h2
    obtain ⟨p', q', f, g, e1, rp, _⟩ := hr.two
    cases e1
    exact ⟨Z, p, f, r, hz, rp, e0, k⟩
theorem slE3 {e l m : E} {a b c : Expr} {p2 : Pos} (ok : rdOk [e, l, m] = true) (h1 : PE X a (tE n C e)) (h2 : PE X b (tE n C l)) (h3 : PE X c (tE n C m)) : PE X (.Subscript a (.Slice (some b) (some c) none p2) pos) (tE n C (.pr (.sl true true) [e, l, m])) :=
  pe_wk (pe_slice ok_sl h1 (po_some h2) (po_some h3)) fun σ H Q h => by
    obtain ⟨ps, r, e0, h⟩ := redP ok h
    obtain ⟨p, i, j, rfl, e0⟩ := sl_inv3 e0
    refine tEp_tE (tLp_cons h) fun x H1 ⟨_, h1⟩ => tEp_tE (tLp_cons h1) fun y H2 ⟨⟨_, _, _, ry⟩, h2⟩ => ⟨i, ry.1, tEp_tE (tLp_cons h2) fun z H3 ⟨⟨_, _, _, rz⟩, h3⟩ => ⟨j, rz.1, ?_⟩⟩
    obtain ⟨Z, hz, hr, k⟩ := tLp_nil h3
    obtain ⟨v, t, f, e1, rp, _⟩ := hr
    cases e1
    exact ⟨Z, p, f, r, hz, rp, e0, k⟩
theorem revE {e : E} {a : Expr} {k : Nat} {p1 p2 p3 : Pos} (h1 : PE X a (tE n C e)) : PE X (.Subscript a (.Slice none none (some (.UnaryOp .USub (.Constant (.int 1) k p1) p2)) p3) pos) (tE n C (.pr .rev [e])) :=
  pe_wk (pe_revL h1) fun σ H Q h => by
    obtain ⟨ps, r, e0, h⟩ := redP (by simp [rdOk, mtL]; split <;> simp) h
    match ps, e0, h with
    | [], e0, _ => cases e0
    | [p], e0, h =>
      refine tEp_tE (tLp_cons h) fun x H1 ⟨_, h1⟩ => ?_
      obtain ⟨Z, hz, hr, k⟩ := tLp_nil h1
      obtain ⟨p', f, e1, rp⟩ := hr.one
      cases e1
      replace e0 : pRev p = some r := e0
      unfold pRev at e0
      split at e0
      · rename_i xs hx
        cases e0
        obtain ⟨q, vs, rfl, hp, rp⟩ := asS_of (K := X.K) hx rp
        exact ⟨q, vs, rfl, hp, fun t ht => k.lst hz ht (repL_rev rp)⟩
      · cases e0
    | p :: q :: ps, e0, _ => cases e0
/-! ### methods that change nothing -/
theorem one_inv {ps : List PV} {r : PV} {p : Prim} {f : PV → Option PV} (hf : ∀ a, app p [a] = f a) (h0 : app p [] = none) (h2 : ∀ a b l, app p (a :: b :: l) = none) (e : app p ps = some r) : ∃ a, ps = [a] ∧ f a = some r := by
  match ps, e with
  | [], e => rw [h0] at e; cases e
  | [a], e => exact ⟨a, rfl, (hf a).symm.trans e⟩
  | a :: b :: l, e => rw [h2] at e; cases e
theorem two_inv {ps : List PV} {r : PV} {p : Prim} {f : PV → PV → Option PV} (hf : ∀ a b, app p [a, b] = f a b) (h0 : app p [] = none) (h1 : ∀ a, app p [a] = none) (h2 : ∀ a b c l, app p (a :: b :: c :: l) = none) (e : app p ps = some r) : ∃ a b, ps = [a, b] ∧ f a b = some r := by
  match ps, e with
  | [], e => rw [h0] at e; cases e
  | [a], e => rw [h1] at e; cases e
  | [a, b], e => exact ⟨a, b, rfl, (hf a b).symm.trans e⟩
  | a :: b :: c :: l, e => rw [h2] at e; cases e
theorem get1_inv {ps : List PV} {r : PV} (e : app .get1 ps = some r) : ∃ p k, ps = [p, .d k] ∧ pGet p (.d k) .non = some r := by
  obtain ⟨p, b, rfl, e⟩ := two_inv (p := .get1) (f := fun a b => pGet a b .non) (fun _ _ => rfl) rfl (fun _ => rfl) (fun _ _ _ _ => rfl) e
  cases b with
  | d k => exact ⟨p, k, rfl, e⟩
  | _ => cases e
theorem get2_inv {ps : List PV} {r : PV} (e : app .get2 ps = some r) : ∃ p k x, ps = [p, .d k, .d x] ∧ pGet p (.d k) x = some r := by
  match ps, e with
  | [], e => cases e
  | [a], e => cases e
  | [a, b], e => cases e
  | [a, b, c], e =>
    replace e : pGet2 a b c = some r := e
    cases c with
    | d x =>
      cases b with
      | d k => exact ⟨a, k, x, rfl, e⟩
      | _ => cases e
    | _ => cases e
  | a :: b :: c :: d :: l, e => cases e
theorem get1E (hu : X.A.units + 64 < cLine) {e1 e2 : E} {o a : Expr} {apos : Pos} (m : M1 X o "get" apos a pos) (ok : rdOk [e1, e2] = true) (h1 : PE X o (tE n C e1)) (h2 : PE X a (tE n C e2)) :
    PE X (.Call (.Attribute o "get" apos) [a] [] pos) (tE n C (.pr .get1 [e1, e2])) :=
  pe_wk (pe_dget1 (by omega) h1 h2 m) fun σ H Q h => by
    obtain ⟨ps, r, e0, h⟩ := redP ok h
    obtain ⟨p, kd, rfl, e0⟩ := get1_inv e0
    · replace e0 : pGet p (.d kd) .non = some r := e0
      unfold pGet at e0
      dsimp only at e0
      split at e0
      · rename_i t kvs hk
        split at e0
        · rename_i hb
          cases e0
          refine tEp_tE (tLp_cons h) fun x H1 ⟨⟨Z1, f1, _, r1⟩, h1⟩ => ?_
          obtain ⟨q, rfl, hd⟩ := isD_of hk r1
          refine ⟨q, rfl, hd, tEp_tE (tLp_cons h1) fun y H2 ⟨_, h2⟩ => ?_⟩
          obtain ⟨Z, hz, hr, k⟩ := tLp_nil h2
          obtain ⟨p', q', f, g, e1, rp, rq⟩ := hr.two
          cases e1
          obtain ⟨q2, o, e2, g, ho⟩ := dget_of hk hb rp rq.1
          cases e2
          refine ⟨o, g, ?_⟩
          rcases ho with ⟨q1, q2⟩ | ⟨x', w', q1, q2, q3⟩
          · rw [q1] at k
            rw [q2]
            exact k.atom hz rfl
          · rw [q1] at k
            rw [q2]
            exact k.atom hz q3
        · cases e0
      · cases e0
theorem get2E (hu : X.A.units + 64 < cLine) {e1 e2 e3 : E} {o a b : Expr} {apos : Pos} (m : M2 X o "get" apos a b pos) (ok : rdOk [e1, e2, e3] = true) (h1 : PE X o (tE n C e1)) (h2 : PE X a (tE n C e2)) (h3 : PE X b (tE n C e3)) :
    PE X (.Call (.Attribute o "get" apos) [a, b] [] pos) (tE n C (.pr .get2 [e1, e2, e3])) :=
  pe_wk (pe_dget2 (by omega) h1 h2 h3 m) fun σ H Q h => by
    obtain ⟨ps, r, e0, h⟩ := redP ok h
    obtain ⟨p, kd, xd, rfl, e0⟩ := get2_inv e0
    · replace e0 : pGet p (.d kd) xd = some r := e0
      unfold pGet at e0
      dsimp only at e0
      split at e0
      · rename_i t kvs hk
        split at e0
        · rename_i hb
          cases e0
          refine tEp_tE (tLp_cons h) fun x H1 ⟨⟨Z1, f1, _, r1⟩, h1⟩ => ?_
          obtain ⟨q, rfl, hd⟩ := isD_of hk r1
          refine ⟨q, rfl, hd, tEp_tE (tLp_cons h1) fun y H2 ⟨_, h2⟩ => tEp_tE (tLp_cons h2) fun z H3 ⟨_, h3⟩ => ?_⟩
          obtain ⟨Z, hz, hr, k⟩ := tLp_nil h3
          obtain ⟨v1, t1, f1, ev1, rp, v2, t2, f2, ev2, rq, v3, t3, f3, ev3, rr, _⟩ := hr
          cases ev1
          cases ev2
          cases ev3
          obtain ⟨q2, o, e2, g, ho⟩ := dget_of hk hb rp rq.1
          cases e2
          refine ⟨o, g, ?_⟩
          rcases ho with ⟨q1, q2⟩ | ⟨x', w', q1, q2, q3⟩
          · rw [q1] at k
            rw [q2]
            exact k.atom hz rr.1
          · rw [q1] at k
            rw [q2]
            exact k.atom hz q3
        · cases e0
      · cases e0
end
end
end Rt

set_option Elab.async false
set_option linter.all false
set_option maxRecDepth 100000
/-! Rt8: displays, truth, tests, and / or / not / if / chains. -/
namespace Rt
open PySem PySem.Spec PyProof.Rows L2
section
variable {n : Nms} {C : Orc} {X : Cx} {pos : Pos}
/-! ### a step split -/
theorem Ext.go' {H H' : Hp} {Z Z' : Zs} {F : Nat → Fp} {ρ : Env} {R : Fp} (x : Ext H Z H' Z') : Go (fun _ => false) R H Z F ρ H' Z' F ρ := x.go
theorem Go.ext_ {m : Nat → Bool} {R : Fp} {H H1 H2 : Hp} {Z Z1 Z2 : Zs} {F F1 : Nat → Fp} {ρ ρ1 : Env} (g : Go m R H Z F ρ H1 Z1 F1 ρ1) (x : Ext H1 Z1 H2 Z2) : Go m R H Z F ρ H2 Z2 F1 ρ1 :=
  (g.trans (x.go' (R := R)) fun a => Nat.le_refl _).mono fun i hi => by simpa using hi
theorem Go.less {m : Nat → Bool} {R R' : Fp} {H H' : Hp} {Z Z' : Zs} {F F' : Nat → Fp} {ρ ρ' : Env} (g : Go m R H Z F ρ H' Z' F' ρ') (h : ∀ a, R' a ≤ R a) : Go m R' H Z F ρ H' Z' F' ρ' :=
  ⟨fun a o e k => g.keep a o e (k.imp (fun l => Nat.le_trans l (h a)) id), g.zm, g.un⟩
theorem resV_rep {e : E} {p : PV} {v : V} {σ : L2.St} {ρ' : Env} {F' : Nat → Fp} {f : Fp} {H' : Hp} {Z' : Zs} (r : resV n e p v σ ρ' F' f H' Z') : ∃ g, repV n H' Z' p v g := by
  unfold resV at r
  cases hr : rdOf e with
  | none => rw [hr] at r; exact ⟨f, r⟩
  | some i => rw [hr] at r; exact ⟨F' i, r.2.1⟩
theorem resV_own {e : E} {p : PV} {v : V} {σ : L2.St} {ρ' : Env} {F' : Nat → Fp} {f : Fp} {H' : Hp} {Z' : Zs} (hr : rdOf e = none) : resV n e p v σ ρ' F' f H' Z' ↔ repV n H' Z' p v f := by
  unfold resV
  rw [hr]
def noRd : List E → Bool
  | [] => true
  | e :: es => (rdOf e).isNone && noRd es
theorem noRd_ok : ∀ {es : List E}, noRd es = true → rdOk es = true
  | [], _ => rfl
  | e :: es, h => by
    have h' := Bool.and_eq_true_iff.mp (show ((rdOf e).isNone && noRd es) = true from h)
    show ((match rdOf e with | some i => !(mtL es).contains i | none => true) && rdOk es) = true
    rw [noRd_ok h'.2]
    cases hr : rdOf e with
    | none => rfl
    | some i => rw [hr] at h'; cases h'.1
theorem resL_own {σ : L2.St} {ρ' : Env} {F' : Nat → Fp} {H : Hp} {Z : Zs} : ∀ {es : List E} {ps : List PV} {vs : List V} {f : Fp}, noRd es = true → resL n σ ρ' F' H Z es ps vs f → repVL n H Z ps vs f
  | [], ps, vs, f, _, h => by
    obtain ⟨rfl, rfl, e3⟩ := h
    exact ⟨rfl, e3⟩
  | e :: es, ps, vs, f, h, ⟨p, v, ps', vs', g, k, e1, e2, e3, r, t⟩ => by
    have h' := Bool.and_eq_true_iff.mp (show ((rdOf e).isNone && noRd es) = true from h)
    subst e1 e2
    have hr : rdOf e = none := by
      cases hr : rdOf e with
      | none => rfl
      | some i => rw [hr] at h'; cases h'.1
    exact ⟨v, vs', g, k, rfl, (resV_own hr).mp r, resL_own h'.2 t, e3⟩
theorem evL_len : ∀ {es : List E} {ρ ρ' : Env} {ps : List PV}, evL C es ρ = some (ps, ρ') → ps.length = es.length
  | [], ρ, ρ', ps, e => by
    simp only [evL, Option.some.injEq, Prod.mk.injEq] at e
    rw [← e.1]
    rfl
  | e :: es, ρ, ρ', ps, ev => by
    simp only [evL] at ev
    cases e1 : evE C e ρ with
    | none => rw [e1] at ev; cases ev
    | some q =>
      rw [e1] at ev
      dsimp only at ev
      cases e2 : evL C es q.2 with
      | none => rw [e2] at ev; cases ev
      | some w =>
        rw [e2] at ev
        simp only [Option.some.injEq, Prod.mk.injEq] at ev
        rw [← ev.1, List.length_cons, List.length_cons, evL_len e2]
theorem allD_rep {H : Hp} {Z : Zs} : ∀ {ps : List PV} {ds : List D} {vs : List V} {f : Fp}, allD ps = some ds → repVL n H Z ps vs f → repL n H Z ds vs ∧ ∀ a, f a = 0
  | [], ds, vs, f, e, ⟨h, hf⟩ => by
    cases e
    exact ⟨h, hf⟩
  | p :: ps, ds, vs, f, e, ⟨v, r, g, h, ev, rp, rt, hf⟩ => by
    cases p with
    | d x =>
      simp only [allD, Option.map_eq_some_iff] at e
      obtain ⟨ys, e1, rfl⟩ := e
      obtain ⟨h1, h2⟩ := allD_rep e1 rt
      exact ⟨⟨v, r, ev, rp.1, h1⟩, fun a => by rw [hf, rp.2, h2]⟩
    | _ => cases e
theorem resL_vlen {σ : L2.St} {ρ' : Env} {F' : Nat → Fp} {H : Hp} {Z : Zs} {es : List E} {ps : List PV} {vs : List V} {f : Fp} (r : resL n σ ρ' F' H Z es ps vs f) : ps.length = vs.length := (resL_rd r).len
theorem mkTup_rep {H : Hp} {Z : Zs} {p : Addr} {ps : List PV} {vs : List V} {f : Fp} (hp : H p = none) (hz : ∀ a, Z a → H a ≠ none) (r : repVL n H Z ps vs f) : repV n (upd H p (.tup vs)) (fun a => Z a ∨ a = p) (mkTup ps) (.ref p) f := by
  have x := ext_updZ (o := .tup vs) hp hz
  have r' : repVL n (upd H p (.tup vs)) (fun a => Z a ∨ a = p) ps vs f := repVL_mono ps vs f (fun a o e _ => x.keep a o e) (fun a z => .inl z) r
  unfold mkTup
  split
  · rename_i ds e
    obtain ⟨h1, h2⟩ := allD_rep e r'
    exact ⟨⟨p, vs, rfl, ⟨.inr rfl, upd_same⟩, h1⟩, h2⟩
  · exact ⟨p, vs, rfl, ⟨.inr rfl, upd_same⟩, r'⟩
theorem mkLst_rep {H : Hp} {Z : Zs} {p : Addr} {ps : List PV} {vs : List V} {f : Fp} (hp : H p = none) (hz : ∀ a, Z a → H a ≠ none) (r : repVL n H Z ps vs f) : repV n (upd H p (.lst vs)) Z (mkLst ps) (.ref p) fun a => dl p a + f a := by
  have x := ext_upd (o := .lst vs) hp hz
  have r' : repVL n (upd H p (.lst vs)) Z ps vs f := repVL_mono ps vs f (fun a o e _ => x.keep a o e) (fun a z => z) r
  unfold mkLst
  split
  · rename_i ds e
    obtain ⟨h1, h2⟩ := allD_rep e r'
    exact ⟨p, vs, rfl, upd_same, h1, fun a => by show dl p a + f a = dl p a; rw [h2]; omega⟩
  · exact ⟨p, vs, f, rfl, upd_same, r', fun _ => rfl⟩
/-! ### displays -/
theorem tupE {es : List E} {as : List Expr} {x1 : Nat} (h0 : noRd es = true) (hl : decide (es.length ≤ 1000) = true) (ha : PA X as (tL n C es)) : PE X (.Tuple as x1 pos) (tE n C (.tup es)) :=
  pe_wk (pe_tup ha) fun σ H Q ⟨ρ, F, R, Z, p, ρ', S, ev, k⟩ => by
    simp only [evE] at ev
    cases e1 : evL C es ρ with
    | none => rw [e1] at ev; cases ev
    | some q =>
      obtain ⟨ps, ρ1⟩ := q
      rw [e1] at ev
      simp only [Option.some.injEq, Prod.mk.injEq] at ev
      obtain ⟨rfl, rfl⟩ := ev
      refine ⟨ρ, F, R, Z, ps, ρ1, S, e1, noRd_ok h0, fun vs H1 F1 Z1 f1 g1 S1 r1 => ⟨?_, fun a ha => ?_⟩⟩
      · rw [← resL_vlen r1, evL_len e1]
        exact Nat.le_trans (of_decide_eq_true hl) (by decide)
      · exact k (.ref a) _ F1 _ f1 (g1.ext_ (ext_updZ ha S1.zt)) (S1.ext (ext_updZ ha S1.zt)) (mkTup_rep ha S1.zt (resL_own h0 r1))
theorem lstE {es : List E} {as : List Expr} (h0 : noRd es = true) (hl : decide (es.length ≤ 1000) = true) (ha : PA X as (tL n C es)) : PE X (.List as pos) (tE n C (.lst es)) :=
  pe_wk (pe_lst ha) fun σ H Q ⟨ρ, F, R, Z, p, ρ', S, ev, k⟩ => by
    simp only [evE] at ev
    cases e1 : evL C es ρ with
    | none => rw [e1] at ev; cases ev
    | some q =>
      obtain ⟨ps, ρ1⟩ := q
      rw [e1] at ev
      simp only [Option.some.injEq, Prod.mk.injEq] at ev
      obtain ⟨rfl, rfl⟩ := ev
      refine ⟨ρ, F, R, Z, ps, ρ1, S, e1, noRd_ok h0, fun vs H1 F1 Z1 f1 g1 S1 r1 => ⟨?_, fun a ha => ?_⟩⟩
      · rw [← resL_vlen r1, evL_len e1]
        exact Nat.le_trans (of_decide_eq_true hl) (by decide)
      · refine k (.ref a) _ F1 Z1 _ (g1.ext_ (ext_upd ha S1.zt)) ?_ (mkLst_rep ha S1.zt (resL_own h0 r1))
        refine (S1.add (ext_upd (o := .lst vs) ha S1.zt) (f := dl a) (dl_le a) fun b l => ?_).congr fun b => by show R b + (dl a b + f1 b) = (R b + f1 b) + dl a b; omega
        rw [dl_pos l]
        exact ⟨ha, fun z => S1.zt a z ha, by rw [upd_same]; simp⟩
theorem dic0E {t : Bool} : PE X (.Dict [] [] pos) (tE n C (.dic t [])) := by
  cases t with
  | false =>
    refine pe_wk pe_dnewK fun σ H Q ⟨ρ, F, R, Z, p, ρ', S, ev, k⟩ a ha => ?_
    simp only [evE, evL, mkDic, mkDct, allDK, Option.some.injEq, Prod.mk.injEq] at ev
    obtain ⟨rfl, rfl⟩ := ev
    refine k (.ref a) _ F Z (dl a) (Go.refl.ext_ (ext_upd ha S.zt)) (S.add (ext_upd ha S.zt) (dl_le a) fun b l => ?_) ⟨a, [], rfl, upd_same, rfl, fun _ => rfl⟩
    rw [dl_pos l]
    exact ⟨ha, fun z => S.zt a z ha, by rw [upd_same]; simp⟩
  | true =>
    refine pe_wk pe_dnewT fun σ H Q ⟨ρ, F, R, Z, p, ρ', S, ev, k⟩ a ha => ?_
    simp only [evE, evL, mkDic, mkDct, allDK, Option.some.injEq, Prod.mk.injEq] at ev
    obtain ⟨rfl, rfl⟩ := ev
    refine k (.ref a) _ F Z (dl a) (Go.refl.ext_ (ext_upd ha S.zt)) (S.add (ext_upd ha S.zt) (dl_le a) fun b l => ?_) ⟨a, [], rfl, upd_same, rfl, fun _ => rfl⟩
    rw [dl_pos l]
    exact ⟨ha, fun z => S.zt a z ha, by rw [upd_same]; simp⟩

/-! ### truth -/
theorem repL_emp {H : Hp} {Z : Zs} {xs : List D} {vs : List V} (r : repL n H Z xs vs) : vs.isEmpty = xs.isEmpty := by
  cases xs with
  | nil => rw [show vs = [] from r]; rfl
  | cons x xs => obtain ⟨v, r, e, _⟩ := r; rw [e]; rfl
theorem repVL_emp {H : Hp} {Z : Zs} {xs : List PV} {vs : List V} {f : Fp} (r : repVL n H Z xs vs f) : vs.isEmpty = xs.isEmpty := by
  cases xs with
  | nil => rw [show vs = [] from r.1]; rfl
  | cons x xs => obtain ⟨v, r, _, _, e, _⟩ := r; rw [e]; rfl
theorem repK_emp {H : Hp} {Z : Zs} {xs : List (D × D)} {vs : List (Key × V)} (r : repK n H Z xs vs) : vs.isEmpty = xs.isEmpty := by
  cases xs with
  | nil => rw [show vs = [] from r]; rfl
  | cons x xs => obtain ⟨v, r, _, e, _⟩ := r; rw [e]; rfl
theorem tru_of {K : PySem.W.Frag} {H : Hp} {Z : Zs} {p : PV} {v : V} {f : Fp} {b : Bool} (e : tru p = some b) (r : repV n H Z p v f) : TruV K v H b := by
  cases p with
  | un => cases e
  | d x =>
    obtain ⟨r, _⟩ := r
    cases x with
    | non => cases e; rw [show v = .non from r]; exact (rfl : (false : Bool) = false)
    | bl c => cases e; rw [show v = .bl b from r]; exact (rfl : b = b)
    | int i => cases e; rw [show v = .int i from r]; exact (rfl : (i != 0) = (i != 0))
    | str s =>
      replace e : (if szB s.length then some (!s.isEmpty) else none) = some b := e
      by_cases hs : szB s.length = true
      · rw [if_pos hs] at e
        cases e
        rw [show v = .str (mkS s) from r]
        refine ⟨by rw [mkS_len]; exact of_decide_eq_true hs, ?_⟩
        rw [mkS_len]
        cases s with
        | nil => rfl
        | cons c s => exact (bne_iff_ne.mpr (by simp only [List.length_cons]; omega)).symm
      · rw [if_neg hs] at e
        cases e
    | tup xs =>
      cases e
      obtain ⟨a, vs, rfl, h, r⟩ := r
      exact .inr (.inl ⟨vs, h.sq, by rw [repL_emp r]⟩)
    | fl xs =>
      cases e
      obtain ⟨a, vs, rfl, h, r⟩ := r
      exact .inl ⟨vs, h.sq, by rw [repL_emp r]⟩
    | _ => cases e
  | ol xs =>
    cases e
    obtain ⟨a, vs, rfl, h, r, _⟩ := r
    exact .inl ⟨vs, .inl (.inl h), by rw [repL_emp r]⟩
  | on xs =>
    cases e
    obtain ⟨a, vs, g, rfl, h, r, _⟩ := r
    exact .inl ⟨vs, .inl (.inl h), by rw [repVL_emp r]⟩
  | od t kvs =>
    cases t with
    | true => cases e
    | false =>
      cases e
      obtain ⟨a, q, rfl, h, r, _⟩ := r
      exact .inr (.inr ⟨q, h, by rw [repK_emp r]⟩)
  | _ => cases e
/-- a test's reading -/
def tT (n : Nms) (C : Orc) (e : E) : TT := fun σ H Q => ∃ ρ F R Z b ρ', Sv n H Z ρ σ F R ∧ evT C e ρ = some (b, ρ') ∧
  ∀ H' F' Z', Go (mset (mtE e)) R H Z F ρ H' Z' F' ρ' → Sv n H' Z' ρ' σ F' R → Q b H'
theorem pt_wk {a : Expr} {t t' : TT} (h : PT X a t) (w : ∀ σ H Q, t' σ H Q → t σ H Q) : PT X a t' := ⟨fun pins s σ H Q I x => h.run pins s σ H Q I (w _ _ _ x)⟩
theorem pw_wk {a : Expr} {t t' : TT} (h : PW X a t) (w : ∀ σ H Q, t' σ H Q → t σ H Q) : PW X a t' := ⟨fun wh pins s σ H Q I x => h.run wh pins s σ H Q I (w _ _ _ x)⟩
theorem evT_some {e : E} {ρ ρ' : Env} {b : Bool} (h : evT C e ρ = some (b, ρ')) : ∃ v, evE C e ρ = some (v, ρ') ∧ tru v = some b := by
  unfold evT at h
  cases e1 : evE C e ρ with
  | none => rw [e1] at h; cases h
  | some q =>
    obtain ⟨v, ρ1⟩ := q
    rw [e1] at h
    dsimp only at h
    cases e2 : tru v with
    | none => rw [e2] at h; cases h
    | some c =>
      rw [e2] at h
      simp only [Option.some.injEq, Prod.mk.injEq] at h
      obtain ⟨rfl, rfl⟩ := h
      exact ⟨v, rfl, e2⟩
theorem evT_of {e : E} {ρ ρ' : Env} {b : Bool} {v : PV} (h : evE C e ρ = some (v, ρ')) (t : tru v = some b) : evT C e ρ = some (b, ρ') := by
  unfold evT
  rw [h]
  dsimp only
  rw [t]
theorem tT_E {K : PySem.W.Frag} {e : E} {σ : L2.St} {H : Hp} {Q : Bool → Hp → Prop} (h : tT n C e σ H Q) : tE n C e σ H fun x H' => ∃ k, TruV K x H' k ∧ Q k H' := by
  obtain ⟨ρ, F, R, Z, b, ρ', S, ev, k⟩ := h
  obtain ⟨v, e1, e2⟩ := evT_some ev
  refine ⟨ρ, F, R, Z, v, ρ', S, e1, fun x H1 F1 Z1 f1 g1 S1 r1 => ?_⟩
  obtain ⟨g, rp⟩ := resV_rep r1
  exact ⟨b, tru_of e2 rp, k H1 F1 Z1 g1 (S1.less fun a => Nat.le_add_right _ _)⟩
theorem truT {e : E} {a : Expr} (h : PE X a (tE n C e)) (he : ∀ whole, isTrue a X.env whole = (do let v ← whole; standAt a.pos; holding [v] (truthy v))) : PT X a (tT n C e) :=
  pt_wk (pt_truth h he) fun _ _ _ h => tT_E h
/-- expressions whose test is their value's truth -/
def plainT : Expr → Bool
  | .UnaryOp .Not _ _ => false
  | .BoolOp _ _ _ => false
  | .IfExp _ _ _ _ => false
  | .Compare _ _ _ _ => false
  | _ => true
theorem plainT_he {a : Expr} (h : plainT a = true) : ∀ (env : PySem.Env) whole, isTrue a env whole = (do let v ← whole; standAt a.pos; holding [v] (truthy v)) := by
  intro env whole
  cases a <;> first | rfl | (cases h; done) | skip
  rename_i op x p
  cases op <;> first | rfl | cases h
/-! ### not -/
theorem bl_res {b : Bool} {v : V} {H : Hp} {Z : Zs} {f : Fp} (r : repV n H Z (.d (.bl b)) v f) : v = .bl b ∧ ∀ a, f a = 0 := ⟨r.1, r.2⟩
theorem ntE {e : E} {a : Expr} (h : PE X a (tE n C e)) : PE X (.UnaryOp .Not a pos) (tE n C (.nt e)) :=
  pe_wk (pe_notT h) fun σ H Q ⟨ρ, F, R, Z, p, ρ', S, ev, k⟩ => by
    simp only [evE] at ev
    cases e1 : evE C e ρ with
    | none => rw [e1] at ev; cases ev
    | some q =>
      obtain ⟨v, ρ1⟩ := q
      rw [e1] at ev
      dsimp only at ev
      cases e2 : tru v with
      | none => rw [e2] at ev; cases ev
      | some c =>
        rw [e2] at ev
        simp only [Option.some.injEq, Prod.mk.injEq] at ev
        obtain ⟨rfl, rfl⟩ := ev
        refine ⟨ρ, F, R, Z, v, ρ1, S, e1, fun x H1 F1 Z1 f1 g1 S1 r1 => ?_⟩
        obtain ⟨g, rp⟩ := resV_rep r1
        exact ⟨c, tru_of e2 rp, k _ H1 F1 Z1 (fun _ => 0) g1 ((S1.less fun a => Nat.le_add_right _ _).zero fun _ => rfl) ⟨rfl, fun _ => rfl⟩⟩
theorem evT_nt {e : E} {ρ ρ' : Env} {b : Bool} (h : evT C (.nt e) ρ = some (b, ρ')) : evT C e ρ = some (!b, ρ') := by
  obtain ⟨v, e1, e2⟩ := evT_some h
  simp only [evE] at e1
  cases e3 : evE C e ρ with
  | none => rw [e3] at e1; cases e1
  | some q =>
    obtain ⟨w, ρ1⟩ := q
    rw [e3] at e1
    dsimp only at e1
    cases e4 : tru w with
    | none => rw [e4] at e1; cases e1
    | some c =>
      rw [e4] at e1
      simp only [Option.some.injEq, Prod.mk.injEq] at e1
      obtain ⟨rfl, rfl⟩ := e1
      cases e2
      rw [Bool.not_not]
      exact evT_of e3 e4
theorem ntT {e : E} {a : Expr} (h : PT X a (tT n C e)) : PT X (.UnaryOp .Not a pos) (tT n C (.nt e)) :=
  pt_wk (pt_not h) fun σ H Q ⟨ρ, F, R, Z, b, ρ', S, ev, k⟩ =>
    ⟨ρ, F, R, Z, !b, ρ', S, evT_nt ev, fun H1 F1 Z1 g1 S1 => by try dsimp only; rw [Bool.not_not]; exact k H1 F1 Z1 g1 S1⟩
/-! ### and, or -/
theorem evAn1 {e : E} {ρ : Env} : evE C (.an [e]) ρ = evE C e ρ := by
  simp only [evE, evAn]
  cases evE C e ρ with
  | none => rfl
  | some q => rfl
theorem evOr1 {e : E} {ρ : Env} : evE C (.or [e]) ρ = evE C e ρ := by
  simp only [evE, evOr]
  cases evE C e ρ with
  | none => rfl
  | some q => rfl
theorem an1T {e : E} {a : Expr} (h : PT X a (tT n C e)) : PW X (.BoolOp .And [a] pos) (tT n C (.an [e])) :=
  pw_wk (pw_and1 h) fun σ H Q ⟨ρ, F, R, Z, b, ρ', S, ev, k⟩ =>
    ⟨ρ, F, R, Z, b, ρ', S, by
      unfold evT at ev ⊢
      rw [evAn1] at ev
      exact ev, fun H1 F1 Z1 g1 S1 => k H1 F1 Z1 (g1.mono fun i hi => by simpa [mtE, mtL] using hi) S1⟩
theorem or1T {e : E} {a : Expr} (h : PT X a (tT n C e)) : PW X (.BoolOp .Or [a] pos) (tT n C (.or [e])) :=
  pw_wk (pw_or1 h) fun σ H Q ⟨ρ, F, R, Z, b, ρ', S, ev, k⟩ =>
    ⟨ρ, F, R, Z, b, ρ', S, by
      unfold evT at ev ⊢
      rw [evOr1] at ev
      exact ev, fun H1 F1 Z1 g1 S1 => k H1 F1 Z1 (g1.mono fun i hi => by simpa [mtE, mtL] using hi) S1⟩
theorem evT_an {e e2 : E} {es : List E} {ρ ρ' : Env} {b : Bool} (h : evT C (.an (e :: e2 :: es)) ρ = some (b, ρ')) :
    (b = false ∧ evT C e ρ = some (false, ρ')) ∨ ∃ ρ1, evT C e ρ = some (true, ρ1) ∧ evT C (.an (e2 :: es)) ρ1 = some (b, ρ') := by
  obtain ⟨v, e1, e2'⟩ := evT_some h
  simp only [evE] at e1
  rw [evAn] at e1
  cases e3 : evE C e ρ with
  | none => rw [e3] at e1; cases e1
  | some q =>
    obtain ⟨w, ρ1⟩ := q
    rw [e3] at e1
    dsimp only at e1
    cases e4 : tru w with
    | none => rw [e4] at e1; cases e1
    | some c =>
      rw [e4] at e1
      cases c with
      | true => exact .inr ⟨ρ1, evT_of e3 e4, evT_of (by simp only [evE]; exact e1) e2'⟩
      | false =>
        simp only [Option.some.injEq, Prod.mk.injEq] at e1
        obtain ⟨rfl, rfl⟩ := e1
        rw [e4] at e2'
        cases e2'
        exact .inl ⟨rfl, evT_of e3 e4⟩
theorem evT_or {e e2 : E} {es : List E} {ρ ρ' : Env} {b : Bool} (h : evT C (.or (e :: e2 :: es)) ρ = some (b, ρ')) :
    (b = true ∧ evT C e ρ = some (true, ρ')) ∨ ∃ ρ1, evT C e ρ = some (false, ρ1) ∧ evT C (.or (e2 :: es)) ρ1 = some (b, ρ') := by
  obtain ⟨v, e1, e2'⟩ := evT_some h
  simp only [evE] at e1
  rw [evOr] at e1
  cases e3 : evE C e ρ with
  | none => rw [e3] at e1; cases e1
  | some q =>
    obtain ⟨w, ρ1⟩ := q
    rw [e3] at e1
    dsimp only at e1
    cases e4 : tru w with
    | none => rw [e4] at e1; cases e1
    | some c =>
      rw [e4] at e1
      cases c with
      | false => exact .inr ⟨ρ1, evT_of e3 e4, evT_of (by simp only [evE]; exact e1) e2'⟩
      | true =>
        simp only [Option.some.injEq, Prod.mk.injEq] at e1
        obtain ⟨rfl, rfl⟩ := e1
        rw [e4] at e2'
        cases e2'
        exact .inl ⟨rfl, evT_of e3 e4⟩
theorem mset_l {a b : List Nat} {i : Nat} (h : mset a i = true) : mset (a ++ b) i = true := by rw [mset_app, h]; rfl
theorem mset_r {a b : List Nat} {i : Nat} (h : mset b i = true) : mset (a ++ b) i = true := by rw [mset_app, h, Bool.or_true]
theorem anT {e e2 : E} {es : List E} {a b : Expr} {as : List Expr} (h : PT X a (tT n C e)) (h2 : PW X (.BoolOp .And (b :: as) pos) (tT n C (.an (e2 :: es)))) : PW X (.BoolOp .And (a :: b :: as) pos) (tT n C (.an (e :: e2 :: es))) :=
  pw_wk (pw_and h h2) fun σ H Q ⟨ρ, F, R, Z, b, ρ', S, ev, k⟩ => by
    rcases evT_an ev with ⟨rfl, h⟩ | ⟨ρ1, h1, h2⟩
    · refine ⟨ρ, F, R, Z, false, ρ', S, h, fun H1 F1 Z1 g1 S1 => ?_⟩
      try dsimp only
      rw [if_neg Bool.false_ne_true]
      exact k H1 F1 Z1 (g1.mono fun i hi => mset_l hi) S1
    · refine ⟨ρ, F, R, Z, true, ρ1, S, h1, fun H1 F1 Z1 g1 S1 => ?_⟩
      try dsimp only
      rw [if_pos rfl]
      exact ⟨ρ1, F1, R, Z1, b, ρ', S1, h2, fun H2 F2 Z2 g2 S2 => k H2 F2 Z2 ((g1.trans g2 fun a => Nat.le_refl _).mono fun i hi => (Bool.or_eq_true_iff.mp hi).elim (fun h => mset_l h) fun h => mset_r h) S2⟩
theorem orT {e e2 : E} {es : List E} {a b : Expr} {as : List Expr} (h : PT X a (tT n C e)) (h2 : PW X (.BoolOp .Or (b :: as) pos) (tT n C (.or (e2 :: es)))) : PW X (.BoolOp .Or (a :: b :: as) pos) (tT n C (.or (e :: e2 :: es))) :=
  pw_wk (pw_or h h2) fun σ H Q ⟨ρ, F, R, Z, b, ρ', S, ev, k⟩ => by
    rcases evT_or ev with ⟨rfl, h⟩ | ⟨ρ1, h1, h2⟩
    · refine ⟨ρ, F, R, Z, true, ρ', S, h, fun H1 F1 Z1 g1 S1 => ?_⟩
      try dsimp only
      rw [if_pos rfl]
      exact k H1 F1 Z1 (g1.mono fun i hi => mset_l hi) S1
    · refine ⟨ρ, F, R, Z, false, ρ1, S, h1, fun H1 F1 Z1 g1 S1 => ?_⟩
      try dsimp only
      rw [if_neg Bool.false_ne_true]
      exact ⟨ρ1, F1, R, Z1, b, ρ', S1, h2, fun H2 F2 Z2 g2 S2 => k H2 F2 Z2 ((g1.trans g2 fun a => Nat.le_refl _).mono fun i hi => (Bool.or_eq_true_iff.mp hi).elim (fun h => mset_l h) fun h => mset_r h) S2⟩
/-- .. as values -/
theorem an1E {e : E} {a : Expr} (hr : rdOf e = none) (h : PE X a (tE n C e)) : PE X (.BoolOp .And [a] pos) (tE n C (.an [e])) :=
  pe_wk (pe_one h) fun σ H Q ⟨ρ, F, R, Z, b, ρ', S, ev, k⟩ =>
    ⟨ρ, F, R, Z, b, ρ', S, by rw [evAn1] at ev; exact ev, fun v H1 F1 Z1 f1 g1 S1 r1 => k v H1 F1 Z1 f1 (g1.mono fun i hi => by simpa [mtE, mtL] using hi) S1 ((resV_own hr).mp r1)⟩
theorem or1E {e : E} {a : Expr} (hr : rdOf e = none) (h : PE X a (tE n C e)) : PE X (.BoolOp .Or [a] pos) (tE n C (.or [e])) :=
  pe_wk (pe_one h) fun σ H Q ⟨ρ, F, R, Z, b, ρ', S, ev, k⟩ =>
    ⟨ρ, F, R, Z, b, ρ', S, by rw [evOr1] at ev; exact ev, fun v H1 F1 Z1 f1 g1 S1 r1 => k v H1 F1 Z1 f1 (g1.mono fun i hi => by simpa [mtE, mtL] using hi) S1 ((resV_own hr).mp r1)⟩
theorem anE {e e2 : E} {es : List E} {a b : Expr} {as : List Expr} (hr : rdOf e = none) (h : PE X a (tE n C e)) (h2 : PE X (.BoolOp .And (b :: as) pos) (tE n C (.an (e2 :: es)))) : PE X (.BoolOp .And (a :: b :: as) pos) (tE n C (.an (e :: e2 :: es))) :=
  pe_wk (pe_andT h h2) fun σ H Q ⟨ρ, F, R, Z, p, ρ', S, ev, k⟩ => by
    simp only [evE] at ev
    rw [evAn] at ev
    cases e3 : evE C e ρ with
    | none => rw [e3] at ev; cases ev
    | some q =>
      obtain ⟨w, ρ1⟩ := q
      rw [e3] at ev
      dsimp only at ev
      cases e4 : tru w with
      | none => rw [e4] at ev; cases ev
      | some c =>
        rw [e4] at ev
        refine ⟨ρ, F, R, Z, w, ρ1, S, e3, fun v H1 F1 Z1 f1 g1 S1 r1 => ⟨c, tru_of e4 ((resV_own hr).mp r1), ?_⟩⟩
        cases c with
        | true =>
          try dsimp only
          rw [if_pos rfl]
          refine ⟨ρ1, F1, R, Z1, p, ρ', S1.less fun a => Nat.le_add_right _ _, by simp only [evE]; exact ev, fun v2 H2 F2 Z2 f2 g2 S2 r2 => k v2 H2 F2 Z2 f2 ((g1.trans g2 fun a => Nat.le_refl _).mono fun i hi => (Bool.or_eq_true_iff.mp hi).elim (fun h => mset_l h) fun h => mset_r h) S2 r2⟩
        | false =>
          simp only [Option.some.injEq, Prod.mk.injEq] at ev
          obtain ⟨rfl, rfl⟩ := ev
          try dsimp only
          rw [if_neg Bool.false_ne_true]
          exact k v H1 F1 Z1 f1 (g1.mono fun i hi => mset_l hi) S1 ((resV_own hr).mp r1)
theorem orE {e e2 : E} {es : List E} {a b : Expr} {as : List Expr} (hr : rdOf e = none) (h : PE X a (tE n C e)) (h2 : PE X (.BoolOp .Or (b :: as) pos) (tE n C (.or (e2 :: es)))) : PE X (.BoolOp .Or (a :: b :: as) pos) (tE n C (.or (e :: e2 :: es))) :=
  pe_wk (pe_orT h h2) fun σ H Q ⟨ρ, F, R, Z, p, ρ', S, ev, k⟩ => by
    simp only [evE] at ev
    rw [evOr] at ev
    cases e3 : evE C e ρ with
    | none => rw [e3] at ev; cases ev
    | some q =>
      obtain ⟨w, ρ1⟩ := q
      rw [e3] at ev
      dsimp only at ev
      cases e4 : tru w with
      | none => rw [e4] at ev; cases ev
      | some c =>
        rw [e4] at ev
        refine ⟨ρ, F, R, Z, w, ρ1, S, e3, fun v H1 F1 Z1 f1 g1 S1 r1 => ⟨c, tru_of e4 ((resV_own hr).mp r1), ?_⟩⟩
        cases c with
        | false =>
          try dsimp only
          rw [if_neg Bool.false_ne_true]
          refine ⟨ρ1, F1, R, Z1, p, ρ', S1.less fun a => Nat.le_add_right _ _, by simp only [evE]; exact ev, fun v2 H2 F2 Z2 f2 g2 S2 r2 => k v2 H2 F2 Z2 f2 ((g1.trans g2 fun a => Nat.le_refl _).mono fun i hi => (Bool.or_eq_true_iff.mp hi).elim (fun h => mset_l h) fun h => mset_r h) S2 r2⟩
        | true =>
          simp only [Option.some.injEq, Prod.mk.injEq] at ev
          obtain ⟨rfl, rfl⟩ := ev
          try dsimp only
          rw [if_pos rfl]
          exact k v H1 F1 Z1 f1 (g1.mono fun i hi => mset_l hi) S1 ((resV_own hr).mp r1)
/-! ### if as a value -/
theorem iteE {t e1 e2 : E} {c a b : Expr} (hr1 : rdOf e1 = none) (hr2 : rdOf e2 = none) (hc : PT X c (tT n C t)) (h1 : PE X a (tE n C e1)) (h2 : PE X b (tE n C e2)) : PE X (.IfExp c a b pos) (tE n C (.ite t e1 e2)) :=
  pe_wk (pe_ifExp hc h1 h2) fun σ H Q ⟨ρ, F, R, Z, p, ρ', S, ev, k⟩ => by
    simp only [evE] at ev
    cases e3 : evE C t ρ with
    | none => rw [e3] at ev; cases ev
    | some q =>
      obtain ⟨w, ρ1⟩ := q
      rw [e3] at ev
      dsimp only at ev
      cases e4 : tru w with
      | none => rw [e4] at ev; cases ev
      | some c =>
        rw [e4] at ev
        refine ⟨ρ, F, R, Z, c, ρ1, S, evT_of e3 e4, fun H1 F1 Z1 g1 S1 => ?_⟩
        cases c with
        | true =>
          try dsimp only
          rw [if_pos rfl]
          exact ⟨ρ1, F1, R, Z1, p, ρ', S1, ev, fun v H2 F2 Z2 f2 g2 S2 r2 => k v H2 F2 Z2 f2 ((g1.trans g2 fun a => Nat.le_refl _).mono fun i hi => (Bool.or_eq_true_iff.mp hi).elim (fun h => mset_l h) fun h => mset_r (mset_l h)) S2 ((resV_own hr1).mp r2)⟩
        | false =>
          try dsimp only
          rw [if_neg Bool.false_ne_true]
          exact ⟨ρ1, F1, R, Z1, p, ρ', S1, ev, fun v H2 F2 Z2 f2 g2 S2 r2 => k v H2 F2 Z2 f2 ((g1.trans g2 fun a => Nat.le_refl _).mono fun i hi => (Bool.or_eq_true_iff.mp hi).elim (fun h => mset_l h) fun h => mset_r (mset_r h)) S2 ((resV_own hr2).mp r2)⟩
/-! ### comparisons as tests -/
theorem cmpT {p : Prim} {op : CmpOp} {e1 e2 : E} {a b : Expr} (ho : OpP n X (compareOp op) p) (ok : rdOk [e1, e2] = true) (hb : ∀ x y r, app p [x, y] = some r → ∃ k, r = .d (.bl k)) (hm : behindInMarks op b = false) (h1 : PE X a (tE n C e1)) (h2 : PE X b (tE n C e2)) : PT X (.Compare a [op] [b] pos) (tT n C (.pr p [e1, e2])) :=
  pt_wk (pt_cmpR ho h1 h2 hm) fun σ H Q ⟨ρ, F, R, Z, c, ρ', S, ev, k⟩ => by
    obtain ⟨v, e3, e4⟩ := evT_some ev
    refine two_red ok ⟨ρ, F, R, Z, v, ρ', S, e3, fun x H1 F1 Z1 f1 g1 S1 r1 => ?_⟩
    simp only [evE] at e3
    cases e5 : evL C [e1, e2] ρ with
    | none => rw [e5] at e3; cases e3
    | some q =>
      obtain ⟨ps, ρ1⟩ := q
      rw [e5] at e3
      dsimp only at e3
      cases e6 : app p ps with
      | none => rw [e6] at e3; cases e3
      | some r =>
        rw [e6] at e3
        simp only [Option.some.injEq, Prod.mk.injEq] at e3
        obtain ⟨rfl, rfl⟩ := e3
        have hl := evL_len e5
        match ps, e6, hl with
        | [x1, y1], e6, _ =>
          obtain ⟨b, rfl⟩ := hb x1 y1 r e6
          cases e4
          obtain ⟨hv, _⟩ := bl_res ((resV_own (show rdOf (.pr p [e1, e2]) = none from rfl)).mp r1)
          exact ⟨c, hv, k H1 F1 Z1 g1 (S1.less fun a => Nat.le_add_right _ _)⟩
end
end Rt

set_option Elab.async false
set_option linter.all false
set_option maxRecDepth 100000
/-! Rt9: chains, what changes a slot's object. -/
namespace Rt
open PySem PySem.Spec PyProof.Rows L2
section
variable {n : Nms} {C : Orc} {X : Cx} {pos : Pos}
/-! ### lists of values -/
theorem repVL_app {H : Hp} {Z : Zs} : ∀ {xs ys : List PV} {vs ws : List V} {f g : Fp}, repVL n H Z xs vs f → repVL n H Z ys ws g → repVL n H Z (xs ++ ys) (vs ++ ws) fun a => f a + g a
  | [], ys, vs, ws, f, g, h, k => by
    rw [show vs = [] from h.1]
    have : (fun a => f a + g a) = g := funext fun a => by rw [h.2]; omega
    rw [this]
    exact k
  | x :: xs, ys, vs, ws, f, g, ⟨v, r, g1, h1, e, h, t, q⟩, k => by
    rw [e]
    exact ⟨v, r ++ ws, g1, _, rfl, h, repVL_app t k, fun a => by show f a + g a = g1 a + (h1 a + g a); rw [q]; omega⟩
theorem repVL_d {H : Hp} {Z : Zs} : ∀ {xs : List D} {vs : List V}, repL n H Z xs vs → repVL n H Z (xs.map .d) vs fun _ => 0
  | [], vs, h => ⟨h, fun _ => rfl⟩
  | x :: xs, vs, ⟨v, r, e, h, t⟩ => ⟨v, r, _, _, e, ⟨h, fun _ => rfl⟩, repVL_d t, fun _ => rfl⟩
theorem repVL_len {H : Hp} {Z : Zs} : ∀ {xs : List PV} {vs : List V} {f : Fp}, repVL n H Z xs vs f → xs.length = vs.length
  | [], _, _, h => by rw [show _ = [] from h.1]; rfl
  | x :: xs, _, _, ⟨v, r, g, h, e, _, t, _⟩ => by rw [e, List.length_cons, List.length_cons, repVL_len t]
theorem repL_dropLast {H : Hp} {Z : Zs} : ∀ {xs : List D} {vs : List V}, repL n H Z xs vs → repL n H Z xs.dropLast vs.dropLast
  | [], vs, h => by rw [show vs = [] from h]; exact (rfl : ([] : List V) = [])
  | [x], vs, ⟨v, r, e, h, t⟩ => by rw [e, show r = [] from t]; exact (rfl : ([] : List V) = [])
  | x :: y :: xs, vs, ⟨v, r, e, h, t⟩ => by
    obtain ⟨w, r', e', h', t'⟩ := t
    rw [e, e']
    exact ⟨v, (w :: r').dropLast, rfl, h, repL_dropLast (xs := y :: xs) ⟨w, r', rfl, h', t'⟩⟩
theorem repVL_dropLast {H : Hp} {Z : Zs} : ∀ {xs : List PV} {vs : List V} {f : Fp} {p : PV}, repVL n H Z xs vs f → xs.getLast? = some p → ∃ v g h, vs[vs.length - 1]? = some v ∧ repVL n H Z xs.dropLast vs.dropLast g ∧ repV n H Z p v h ∧ ∀ a, f a = g a + h a
  | [], _, _, _, _, e => by cases e
  | [x], vs, f, p, ⟨v, r, g, h, e, k, t, q⟩, l => by
    rw [e, show r = [] from t.1]
    have : x = p := by simpa using l
    subst this
    exact ⟨v, fun _ => 0, g, rfl, ⟨rfl, fun _ => rfl⟩, k, fun a => by show f a = 0 + g a; rw [q, t.2]; omega⟩
  | x :: y :: xs, vs, f, p, ⟨v, r, g, h, e, k, t, q⟩, l => by
    obtain ⟨u, g1, h1, e1, e2, e3, e4⟩ := repVL_dropLast (xs := y :: xs) t (by simpa using l)
    obtain ⟨w, r', _, _, er, _⟩ := t
    subst er
    rw [e]
    refine ⟨u, fun a => g a + g1 a, h1, ?_, ⟨v, (w :: r').dropLast, g, g1, rfl, k, e2, fun _ => rfl⟩, e3, fun a => by show f a = g a + g1 a + h1 a; rw [q, e4]; omega⟩
    simpa using e1
/-! ### a slot's object is written -/
section
variable {H : Hp} {Z : Zs} {ρ : Env} {σ : L2.St} {F : Nat → Fp} {R f f' g : Fp} {i : Nat} {l : Addr} {o : HO} {v : V} {p' : PV}
theorem Sv.apart (S : Sv n H Z ρ σ F R) (hl : 1 ≤ F i l) : R l = 0 ∧ ¬ Z l ∧ ∀ j, j ≠ i → F j l = 0 := by
  refine ⟨by have := S.one i l; omega, fun z => by have := (S.zz l z).2.2 i; omega, fun j h => ?_⟩
  have := S.dis j i l h
  omega
theorem Sv.write (S : Sv n H Z ρ σ F fun a => R a + f a) (hl : 1 ≤ F i l) (hi : i < ρ.length) (hs : σ[i]? = some (some v)) (r : repV n (upd H l o) Z p' v f') (hp : p' ≠ .un) (hf : ∀ a, f' a + g a ≤ F i a + f a) :
    Sv n (upd H l o) Z (put ρ i p') σ (fun j => if j = i then f' else F j) fun a => R a + g a := by
  obtain ⟨h1, h2, h3⟩ := S.apart hl
  have keep : ∀ a u, a ≠ l → H a = some u → upd H l o a = some u := fun a u e h => by rw [upd_ne e]; exact h
  have nn : ∀ a, H a ≠ none → upd H l o a ≠ none := fun a h => by
    by_cases e : a = l
    · rw [e, upd_same]; simp
    · rw [upd_ne e]; exact h
  constructor
  · rw [put_length]; exact S.len
  · intro j
    by_cases h : j = i
    · subst h
      rw [if_pos rfl, get_put_same hi]
      unfold repO
      cases p' with
      | un => exact absurd rfl hp
      | _ => exact ⟨v, hs, r⟩
    · rw [if_neg h, get_put_ne h]
      have x := S.at_ j
      unfold repO at x ⊢
      split
      · rename_i e
        rw [e] at x
        exact x
      · split at x
        · rename_i e _ e'
          exact absurd e' e
        · obtain ⟨w, e, q⟩ := x
          refine ⟨w, e, repV_mono _ w _ (fun a u hu k => keep a u (fun e => ?_) hu) (fun a z => z) q⟩
          subst e
          rcases k with k | k
          · exact h2 k
          · have := h3 j h; omega
  · intro j a
    have o1 : F i a + (R a + f a) ≤ 1 := S.one i a
    have o2 : F j a + (R a + f a) ≤ 1 := S.one j a
    have := hf a
    by_cases h : j = i
    · subst h
      simp only [if_pos]
      omega
    · simp only [if_neg h]
      have := S.dis j i a h
      omega
  · intro a
    have o1 : F i a + (R a + f a) ≤ 1 := S.one i a
    have := hf a
    show R a + g a ≤ 1
    omega
  · intro j k a h
    have := hf a
    by_cases e1 : j = i
    · subst e1
      have e2 : k ≠ j := fun e => h e.symm
      simp only [if_pos, if_neg e2]
      have d := S.dis j k a h
      have o2 : F k a + (R a + f a) ≤ 1 := S.one k a
      omega
    · by_cases e2 : k = i
      · subst e2
        simp only [if_pos, if_neg e1]
        have d := S.dis j k a h
        have o2 : F j a + (R a + f a) ≤ 1 := S.one j a
        omega
      · simp only [if_neg e1, if_neg e2]
        exact S.dis j k a h
  · intro a z
    obtain ⟨z1, z2, z3⟩ := S.zz a z
    have z2' : R a + f a = 0 := z2
    have := hf a
    have := z3 i
    refine ⟨nn a z1, by show R a + g a = 0; omega, fun j => ?_⟩
    by_cases h : j = i
    · subst h
      simp only [if_pos]
      omega
    · simp only [if_neg h]
      exact z3 j
  · intro a h
    have h' : 1 ≤ R a + g a := h
    refine nn a ?_
    have := hf a
    rcases Nat.eq_zero_or_pos (R a + f a) with k | k
    · exact S.there i a (by omega)
    · exact S.all a k
theorem Go.write {m : Nat → Bool} {R0 : Fp} (S : Sv n H Z ρ σ F R) (hl : 1 ≤ F i l) (hm : m i = true) (hR : ∀ a, R0 a ≤ R a) : Go m R0 H Z F ρ (upd H l o) Z (fun j => if j = i then f' else F j) (put ρ i p') := by
  obtain ⟨h1, h2, h3⟩ := S.apart hl
  refine ⟨fun a u hu k => ?_, fun a z => z, fun j hj => ?_⟩
  · have : a ≠ l := fun e => by
      subst e
      rcases k with k | k | ⟨j, hj, k⟩
      · have := hR a; omega
      · exact h2 k
      · have : j ≠ i := fun e => by rw [e, hm] at hj; cases hj
        have := h3 j this
        omega
    rw [upd_ne this]
    exact hu
  · have : j ≠ i := fun e => by rw [e, hm] at hj; cases hj
    exact ⟨fun a => by simp only [if_neg this], get_put_ne this⟩
end
/-- a method's rule serves a change -/
def MuP (n : Nms) (K : PySem.W.Frag) (T : String) (m : MP) (r : V → List V → Hp → VK → Prop) : Prop :=
  (∀ (H : Hp) (Z : Zs) (a : PV) (v : V) (f : Fp), kin m a = true → repV n H Z a v f → tyV K T v H) ∧
    ∀ (H : Hp) (Z : Zs) (a : PV) (ps : List PV) (res o : PV) (v : V) (vs : List V) (f g : Fp) (Q : VK), mapp m a ps = some (res, o) → repV n H Z a v f → repVL n H Z ps vs g → (∀ b, Z b → f b = 0) → (∀ b, f b + g b ≤ 1) →
      (∀ l rv obj f' gr, v = .ref l → 1 ≤ f l → repV n (upd H l obj) Z o v f' → o ≠ .un → repV n (upd H l obj) Z res rv gr → (∀ b, f' b + gr b ≤ f b + g b) → Q rv (upd H l obj)) → r v vs H Q
theorem kin_un {m : MP} {a : PV} (h : kin m a = true) : a ≠ .un := fun e => by rw [e] at h; cases m <;> cases h
theorem muE {T : String} {m : MP} {id : String} {name : Str} {r : V → List V → Hp → VK → Prop} {i : Nat} {es : List E} {a : Expr} {as : List Expr} {apos cpos : Pos} (pa : PlainAttrs T) (slot : Slot T name id) (hty : typeOf (.builtin id) = pure (.type "method_descriptor")) (hm : MtR X id r) (mp : MuP n X.K T m r)
    (ho : PE X a (tVar i)) (hbase : attributeBase a name X.env (eval a X.env) = eval a X.env) (hline : (apos.endLine == cpos.line) = true)
    (h0 : noRd es = true) (hi : (mtL es).contains i = false) (ha : Paired (fun e a => noStar a = true ∧ PE X a (tE n C e)) es as) (hlen : decide (as.length < 28) = true) : PE X (.Call (.Attribute a name apos) as [] cpos) (tE n C (.mu m i es)) := by
  have key : ∀ {σ : L2.St} {H : Hp} {Q : VK}, tE n C (.mu m i es) σ H Q → ∃ v, σ[i]? = some (some v) ∧ tyV X.K T v H ∧ tL n C es σ H fun vs H1 => r v vs H1 Q := by
    intro σ H Q ⟨ρ, F, R, Z, w, ρ', S, ev, k⟩
    simp only [evE] at ev
    by_cases hk : kin m (get ρ i) = true
    case neg => rw [if_neg hk] at ev; cases ev
    rw [if_pos hk] at ev
    cases e1 : evL C es ρ with
    | none => rw [e1] at ev; cases ev
    | some q =>
      obtain ⟨ps, ρ1⟩ := q
      rw [e1] at ev
      dsimp only at ev
      cases e2 : mapp m (get ρ1 i) ps with
      | none => rw [e2] at ev; cases ev
      | some q =>
        obtain ⟨res, o⟩ := q
        rw [e2] at ev
        simp only [Option.some.injEq, Prod.mk.injEq] at ev
        obtain ⟨rfl, rfl⟩ := ev
        have hmi : mset (mtL es) i = false := hi
        obtain ⟨v, hs, rv⟩ := S.slot (i := i) rfl (kin_un hk)
        refine ⟨v, hs, mp.1 H Z _ v _ hk rv, ρ, F, R, Z, ps, ρ1, S, e1, noRd_ok h0, fun vs H1 F1 Z1 f1 g1 S1 r1 => ?_⟩
        have eg : get ρ1 i = get ρ i := (g1.un i hmi).2
        have hne : get ρ1 i ≠ .un := fun e => kin_un hk (eg.symm.trans e)
        have rv1 : repV n H1 Z1 (get ρ1 i) v (F1 i) := by
          rw [eg]
          exact Sv.repV_congr (g1.un i hmi).1 (g1.mine hmi rv)
        refine mp.2 H1 Z1 _ ps res o v vs (F1 i) f1 Q e2 rv1 (resL_own h0 r1) (fun b z => (S1.zz b z).2.2 i) (fun b => ?_) (fun l rv' obj f' gr hv hl ro hno rr hf => ?_)
        · have : F1 i b + (R b + f1 b) ≤ 1 := S1.one i b
          omega
        · have hlt : i < ρ1.length := get_lt hne
          refine k rv' _ _ Z1 gr ?_ (S1.write hl hlt hs ro hno hf) rr
          refine (g1.trans (Go.write (m := fun j => j == i) S1 hl (by simp) fun a => Nat.le_refl _) fun a => Nat.le_add_right _ _).mono fun j hj => ?_
          show mset (mtL es ++ [i]) j = true
          rw [mset_app]
          rcases Bool.or_eq_true_iff.mp hj with h | h
          · rw [h]; rfl
          · rw [eq_of_beq h]; simp [mset]
  cases ha with
  | nil =>
    refine pe_wk (pe_bm0 pa slot hty hm ho hbase hline) fun σ H Q h => ?_
    obtain ⟨v, hs, ty, h⟩ := key h
    exact ⟨v, hs, ty, tL_nil h⟩
  | cons h t =>
    rename_i e a1 es as
    have hst : ∀ {es : List E} {as : List Expr}, Paired (fun e a => noStar a = true ∧ PE X a (tE n C e)) es as → (backTo cpos (starEach as X.env)).any (·.1) = false ∧ (backTo cpos (starEach as X.env)).all (fun x => !x.1) = true := by
      intro es as h
      induction h with
      | nil => exact ⟨rfl, rfl⟩
      | cons h t ih =>
        rw [star_of h.1]
        exact ⟨by show (false || _) = false; rw [Bool.false_or]; exact ih.1, by show (true && _) = true; rw [Bool.true_and]; exact ih.2⟩
    refine pe_wk (pe_bm pa slot hty hm ho (paL (.cons h t)) hbase ?_ hline (star_of h.1) (hst t).1) fun σ H Q h' => (key h').elim fun v h' => ⟨v, h'.1, h'.2.1, h'.2.2⟩
    rw [(hst (.cons h t)).2]
    have := of_decide_eq_true hlen
    simp only [List.length_cons] at this
    show (true && (true && decide _)) = true
    rw [Bool.true_and, Bool.true_and]
    refine decide_eq_true ?_
    show (a1 :: as).length + 0 + 0 < 30
    simp only [List.length_cons]
    omega
end
end Rt

set_option Elab.async false
set_option linter.all false
set_option maxRecDepth 100000
/-! Rt10: the methods that change, stores into a slot's object, statements. -/
namespace Rt
open PySem PySem.Spec PyProof.Rows L2
section
variable {n : Nms} {C : Orc} {X : Cx} {pos : Pos} {W : Nat}
theorem repL_upd {H : Hp} {Z : Zs} {l : Addr} {o : HO} (hz : ¬ Z l) {xs : List D} {vs : List V} (r : repL n H Z xs vs) : repL n (upd H l o) Z xs vs :=
  repL_mono (fun a u e z => by rw [upd_ne (fun q : a = l => hz (by rw [← q]; exact z))]; exact e) (fun _ z => z) xs vs r
theorem rep_upd {H : Hp} {Z : Zs} {l : Addr} {o : HO} (hz : ¬ Z l) {x : D} {v : V} (r : rep n H Z x v) : rep n (upd H l o) Z x v :=
  rep_mono (fun a u e z => by rw [upd_ne (fun q : a = l => hz (by rw [← q]; exact z))]; exact e) (fun _ z => z) x v r
theorem repV_upd {H : Hp} {Z : Zs} {l : Addr} {o : HO} {f : Fp} (hz : ¬ Z l) (hf : f l = 0) {p : PV} {v : V} (r : repV n H Z p v f) : repV n (upd H l o) Z p v f :=
  repV_mono p v f (fun a u e k => by rw [upd_ne (fun q => by subst q; rcases k with k | k; exact hz k; omega)]; exact e) (fun _ z => z) r
theorem repVL_upd {H : Hp} {Z : Zs} {l : Addr} {o : HO} {f : Fp} (hz : ¬ Z l) (hf : f l = 0) {p : List PV} {v : List V} (r : repVL n H Z p v f) : repVL n (upd H l o) Z p v f :=
  repVL_mono p v f (fun a u e k => by rw [upd_ne (fun q => by subst q; rcases k with k | k; exact hz k; omega)]; exact e) (fun _ z => z) r
theorem repVL_one {H : Hp} {Z : Zs} {p : PV} {vs : List V} {g : Fp} (r : repVL n H Z [p] vs g) : ∃ v, vs = [v] ∧ repV n H Z p v g := by
  obtain ⟨v, r, g1, g2, e, h, t, q⟩ := r
  refine ⟨v, by rw [e, show r = [] from t.1], ?_⟩
  have : g = g1 := funext fun a => by rw [q, t.2]; rfl
  rw [this]
  exact h
theorem repVL_two {H : Hp} {Z : Zs} {p q : PV} {vs : List V} {g : Fp} (r : repVL n H Z [p, q] vs g) : ∃ v w g1 g2, vs = [v, w] ∧ repV n H Z p v g1 ∧ repV n H Z q w g2 ∧ ∀ a, g a = g1 a + g2 a := by
  obtain ⟨v, r, g1, g2, e, h, t, q'⟩ := r
  obtain ⟨w, e2, hw⟩ := repVL_one t
  exact ⟨v, w, g1, g2, by rw [e, e2], h, hw, q'⟩
/-! ### lists -/
theorem tyL_of {K : PySem.W.Frag} {H : Hp} {a : Addr} {vs : List V} (h : H a = some (.lst vs)) : tyV K "list" (.ref a) H := .inl ⟨rfl, vs, .inl (.inl h)⟩
theorem sz_eq : (sizeLine : Nat) = 16777216 := rfl
theorem mu_append {K : PySem.W.Frag} : MuP n K "list" .append rAppend := by
  refine ⟨fun H Z a v f hk r => ?_, fun H Z a ps res o v vs f g Q e r rs hz h1 k => ?_⟩
  · cases a with
    | ol xs => obtain ⟨a, vs, rfl, h, _⟩ := r; exact tyL_of h
    | on xs => obtain ⟨a, vs, _, rfl, h, _⟩ := r; exact tyL_of h
    | _ => cases hk
  · cases a with
    | ol xs =>
      match ps, e with
      | [p], e =>
        obtain ⟨l, ws, rfl, h, rl, hf⟩ := r
        obtain ⟨w, rfl, rw⟩ := repVL_one rs
        have hl : f l = 1 := by rw [hf, dl_self]
        have hzl : ¬ Z l := fun z => by have := hz l z; omega
        have hgl : g l = 0 := by have := h1 l; omega
        replace e : (if xs.length < 16777216 then (match p with | .d x => some (.d .non, .ol (xs ++ [x])) | v => some (.d .non, .on (xs.map .d ++ [v]))) else none) = some (res, o) := e
        by_cases hlt : xs.length < 16777216
        · rw [if_pos hlt] at e
          refine ⟨l, ws, w, rfl, rfl, h, by rw [← repL_len _ _ rl, sz_eq]; exact hlt, ?_⟩
          have goN : ∀ (p : PV), repV n H Z p w g → o = .on (xs.map .d ++ [p]) → res = .d .non → Q .non (upd H l (.lst (ws ++ [w]))) := fun p rw eo er => by
            subst eo er
            refine k l .non (.lst (ws ++ [w])) (fun a => dl l a + g a) (fun _ => 0) rfl (by omega) ?_ (by simp) ⟨rfl, fun _ => rfl⟩ (fun b => by rw [hf]; show dl l b + g b + 0 ≤ _; omega)
            refine ⟨l, _, g, rfl, upd_same, ?_, fun _ => rfl⟩
            have := repVL_app (repVL_d (repL_upd (o := .lst (ws ++ [w])) hzl rl)) (show repVL n (upd H l (.lst (ws ++ [w]))) Z [p] [w] g from ⟨w, [], g, fun _ => 0, rfl, repV_upd hzl hgl rw, ⟨rfl, fun _ => rfl⟩, fun _ => rfl⟩)
            have e : (fun a => 0 + g a) = g := funext fun a => by omega
            rw [e] at this
            exact this
          cases p with
          | d x =>
            cases e
            refine k l .non (.lst (ws ++ [w])) (dl l) (fun _ => 0) rfl (by omega) ?_ (by simp) ⟨rfl, fun _ => rfl⟩ (fun b => by rw [hf]; show dl l b + 0 ≤ _; omega)
            exact ⟨l, _, rfl, upd_same, repL_app (repL_upd hzl rl) ⟨w, [], rfl, rep_upd hzl rw.1, (rfl : ([] : List V) = [])⟩, fun _ => rfl⟩
          | _ => cases e; exact goN _ rw rfl rfl
        · rw [if_neg hlt] at e; cases e
      | [], e => cases e
      | _ :: _ :: _, e => cases e
    | on xs =>
      match ps, e with
      | [p], e =>
        obtain ⟨l, ws, fg, rfl, h, rl, hf⟩ := r
        obtain ⟨w, rfl, rw⟩ := repVL_one rs
        have hl := h1 l
        rw [hf, dl_self] at hl
        have hzl : ¬ Z l := fun z => by have := hz l z; rw [hf, dl_self] at this; omega
        replace e : (if xs.length < 16777216 then some (.d .non, .on (xs ++ [p])) else none) = some (res, o) := e
        by_cases hlt : xs.length < 16777216
        · rw [if_pos hlt] at e
          cases e
          refine ⟨l, ws, w, rfl, rfl, h, by rw [← repVL_len rl, sz_eq]; exact hlt, ?_⟩
          refine k l .non (.lst (ws ++ [w])) (fun a => dl l a + (fg a + g a)) (fun _ => 0) rfl (by rw [hf, dl_self]; omega) ?_ (by simp) ⟨rfl, fun _ => rfl⟩ (fun b => by rw [hf]; show dl l b + (fg b + g b) + 0 ≤ _; omega)
          exact ⟨l, _, fun a => fg a + g a, rfl, upd_same, repVL_app (repVL_upd hzl (by omega) rl) ⟨w, [], g, fun _ => 0, rfl, repV_upd hzl (by omega) rw, ⟨rfl, fun _ => rfl⟩, fun _ => rfl⟩, fun _ => rfl⟩
        · rw [if_neg hlt] at e; cases e
      | [], e => cases e
      | _ :: _ :: _, e => cases e
    | _ => cases ps <;> cases e
theorem repL_last {H : Hp} {Z : Zs} {xs : List D} {vs : List V} {x : D} (r : repL n H Z xs vs) (e : xs.getLast? = some x) : ∃ v, vs[vs.length - 1]? = some v ∧ rep n H Z x v := by
  rw [List.getLast?_eq_getElem?] at e
  rw [← repL_len _ _ r]
  exact repL_get r e
theorem mu_pop0 {K : PySem.W.Frag} : MuP n K "list" .pop0 rPop := by
  refine ⟨fun H Z a v f hk r => ?_, fun H Z a ps res o v vs f g Q e r rs hz h1 k => ?_⟩
  · cases a with
    | ol xs => obtain ⟨a, vs, rfl, h, _⟩ := r; exact tyL_of h
    | on xs => obtain ⟨a, vs, _, rfl, h, _⟩ := r; exact tyL_of h
    | _ => cases hk
  · cases a with
    | ol xs =>
      match ps, e with
      | [], e =>
        obtain ⟨l, ws, rfl, h, rl, hf⟩ := r
        obtain ⟨rfl, hg⟩ := rs
        have hl : f l = 1 := by rw [hf, dl_self]
        have hzl : ¬ Z l := fun z => by have := hz l z; omega
        replace e : (match xs.getLast? with | some x => some (PV.d x, PV.ol xs.dropLast) | none => none) = some (res, o) := e
        cases e1 : xs.getLast? with
        | none => rw [e1] at e; cases e
        | some x =>
          rw [e1] at e
          cases e
          obtain ⟨w, hw, rw⟩ := repL_last rl e1
          refine ⟨l, ws, w, rfl, rfl, h, hw, ?_⟩
          refine k l w (.lst ws.dropLast) (dl l) (fun _ => 0) rfl (by omega) ⟨l, _, rfl, upd_same, repL_dropLast (repL_upd hzl rl), fun _ => rfl⟩ (by simp) ⟨rep_upd hzl rw, fun _ => rfl⟩ (fun b => by rw [hf]; show dl l b + 0 ≤ _; omega)
      | _ :: _, e => cases e
    | on xs =>
      match ps, e with
      | [], e =>
        obtain ⟨l, ws, fg, rfl, h, rl, hf⟩ := r
        obtain ⟨rfl, hg⟩ := rs
        have hl := h1 l
        rw [hf, dl_self] at hl
        have hzl : ¬ Z l := fun z => by have := hz l z; rw [hf, dl_self] at this; omega
        replace e : (match xs.getLast? with | some x => some (x, PV.on xs.dropLast) | none => none) = some (res, o) := e
        cases e1 : xs.getLast? with
        | none => rw [e1] at e; cases e
        | some x =>
          rw [e1] at e
          cases e
          obtain ⟨w, g1, g2, hw, r1, r2, hfg⟩ := repVL_dropLast rl e1
          refine ⟨l, ws, w, rfl, rfl, h, hw, ?_⟩
          have := hfg l
          refine k l w (.lst ws.dropLast) (fun a => dl l a + g1 a) g2 rfl (by rw [hf, dl_self]; omega) ⟨l, _, g1, rfl, upd_same, repVL_upd hzl (by omega) r1, fun _ => rfl⟩ (by simp) (repV_upd hzl (by omega) r2) (fun b => by rw [hf]; have := hfg b; show dl l b + g1 b + g2 b ≤ _; omega)
      | _ :: _, e => cases e
    | _ => cases ps <;> cases e
theorem ixN_seq {i : Int} {n k : Nat} (h : ixN n i = some k) : seqIndex? i n = some k ∧ k < n := by
  unfold ixN at h
  unfold seqIndex?
  split at h
  · rename_i h0
    split at h
    · rename_i h1
      cases h
      have : ¬ i < 0 := by omega
      simp only [this, if_false]
      constructor
      · rw [if_pos (by simp only [Bool.and_eq_true, decide_eq_true_eq]; omega)]
      · omega
    · cases h
  · rename_i h0
    split at h
    · cases h
      have : i < 0 := by omega
      simp only [this, if_true]
      constructor
      · rw [if_pos (by simp only [Bool.and_eq_true, decide_eq_true_eq]; omega)]
      · omega
    · cases h
theorem pop1_inv {a : PV} {ps : List PV} {r : PV × PV} (e : mapp .pop1 a ps = some r) : ∃ xs i, a = .ol xs ∧ ps = [.d (.int i)] ∧ (if decide (-(2 ^ 63) ≤ i) && decide (i < 2 ^ 63) then (ixN xs.length i).bind fun j => xs[j]?.map fun x => (PV.d x, PV.ol (xs.eraseIdx j)) else none) = some r := by
  cases a with
  | ol xs =>
    cases ps with
    | nil => cases e
    | cons p ps =>
      cases ps with
      | nil =>
        cases p with
        | d x =>
          cases x with
          | int i => exact ⟨xs, i, rfl, rfl, e⟩
          | _ => cases e
        | _ => cases e
      | cons q ps =>
        cases p with
        | d x => cases x <;> cases e
        | _ => cases e
  | _ => cases e
theorem rev_inv {a : PV} {ps : List PV} {r : PV × PV} (e : mapp .reverse a ps = some r) : ∃ xs, a = .ol xs ∧ ps = [] ∧ some (PV.d .non, PV.ol xs.reverse) = some r := by
  cases a with
  | ol xs =>
    cases ps with
    | nil => exact ⟨xs, rfl, rfl, e⟩
    | cons p ps => cases e
  | _ => cases e
theorem mu_pop1 {K : PySem.W.Frag} : MuP n K "list" .pop1 rPopAt := by
  refine ⟨fun H Z a v f hk r => ?_, fun H Z a ps res o v vs f g Q e r rs hz h1 k => ?_⟩
  · cases a with
    | ol xs => obtain ⟨a, vs, rfl, h, _⟩ := r; exact tyL_of h
    | _ => cases hk
  · obtain ⟨xs, i, rfl, rfl, e9⟩ := pop1_inv e
    replace e := e9
    obtain ⟨l, ws, rfl, h, rl, hf⟩ := r
    obtain ⟨w, rfl, rw⟩ := repVL_one rs
    have hw : w = .int i := rw.1
    subst hw
    have hl : f l = 1 := by rw [hf, dl_self]
    have hzl : ¬ Z l := fun z => by have := hz l z; omega
    by_cases hb : (decide (-(2 ^ 63) ≤ i) && decide (i < 2 ^ 63)) = true
    · rw [if_pos hb] at e
      simp only [Bool.and_eq_true, decide_eq_true_eq] at hb
      cases e1 : ixN xs.length i with
      | none => rw [e1] at e; cases e
      | some j =>
        rw [e1] at e
        replace e : (xs[j]?.map fun x => (PV.d x, PV.ol (xs.eraseIdx j))) = some (res, o) := e
        cases e2 : xs[j]? with
        | none => rw [e2] at e; cases e
        | some x =>
          rw [e2] at e
          cases e
          obtain ⟨u, hu, ru⟩ := repL_get rl e2
          obtain ⟨s1, s2⟩ := ixN_seq e1
          refine ⟨l, ws, i, j, u, rfl, rfl, h, hb.1, hb.2, by rw [← repL_len _ _ rl]; exact s1, hu, ?_⟩
          refine k l u (.lst (ws.eraseIdx j)) (dl l) (fun _ => 0) rfl (by omega) ⟨l, _, rfl, upd_same, repL_erase j (repL_upd hzl rl), fun _ => rfl⟩ (by simp) ⟨rep_upd hzl ru, fun _ => rfl⟩ (fun b => by rw [hf]; show dl l b + 0 ≤ _; omega)
    · rw [if_neg hb] at e
      cases e
theorem mu_reverse {K : PySem.W.Frag} : MuP n K "list" .reverse rReverse := by
  refine ⟨fun H Z a v f hk r => ?_, fun H Z a ps res o v vs f g Q e r rs hz h1 k => ?_⟩
  · cases a with
    | ol xs => obtain ⟨a, vs, rfl, h, _⟩ := r; exact tyL_of h
    | _ => cases hk
  · obtain ⟨xs, rfl, rfl, e9⟩ := rev_inv e
    replace e := e9
    cases e
    obtain ⟨l, ws, rfl, h, rl, hf⟩ := r
    obtain ⟨rfl, hg⟩ := rs
    have hl : f l = 1 := by rw [hf, dl_self]
    have hzl : ¬ Z l := fun z => by have := hz l z; omega
    exact ⟨l, ws, rfl, rfl, h, k l .non (.lst ws.reverse) (dl l) (fun _ => 0) rfl (by omega) ⟨l, _, rfl, upd_same, repL_rev (repL_upd hzl rl), fun _ => rfl⟩ (by simp) ⟨rfl, fun _ => rfl⟩ (fun b => by rw [hf]; show dl l b + 0 ≤ _; omega)⟩
/-! ### puts into dicts -/
theorem putK_cons_ne {κ : Type} [DecidableEq κ] {p : κ × V} {r : List (κ × V)} {k : κ} {v : V} (h : ¬ p.1 = k) : putK (p :: r) k v = p :: putK r k v := by
  unfold putK
  simp only [List.any_cons, h, decide_false, Bool.false_or, List.map_cons, if_false]
  split <;> rfl
theorem putK_cons_eq {κ : Type} [DecidableEq κ] {p : κ × V} {r : List (κ × V)} {k : κ} {v : V} (h : p.1 = k) : putK (p :: r) k v = (k, v) :: r.map fun kv => if kv.1 = k then (kv.1, v) else kv := by
  unfold putK
  simp [h]
theorem repK_map {H : Hp} {Z : Zs} {x : D} {kk : Key} {d : D} {v : V} (hk : toKey x = some kk) (hd : rep n H Z d v) : ∀ {kvs : List (D × D)} {q : List (Key × V)}, repK n H Z kvs q → repK n H Z (kmap x d kvs) (q.map fun kv => if kv.1 = kk then (kv.1, v) else kv)
  | [], q, h => by rw [show q = [] from h]; exact (rfl : ([] : List (Key × V)) = [])
  | (j, y) :: kvs, q, ⟨jj, w, r, e, hj, hy, t⟩ => by
    rw [e]
    by_cases c : j = x
    · subst c
      have : jj = kk := by rw [hj] at hk; cases hk; rfl
      subst this
      simp only [kmap, D.beq_self, if_true, List.map_cons]
      exact ⟨jj, v, _, rfl, hj, hd, repK_map hk hd t⟩
    · have hne : ¬ jj = kk := fun z => c (toKey_inj (z ▸ hj) hk)
      simp only [kmap, D.beq_ff.mpr c, List.map_cons, hne, if_false]
      exact ⟨jj, w, _, rfl, hj, hy, repK_map hk hd t⟩
theorem repK_put {H : Hp} {Z : Zs} {x : D} {kk : Key} {d : D} {v : V} (hk : toKey x = some kk) (hd : rep n H Z d v) : ∀ {kvs : List (D × D)} {q : List (Key × V)}, repK n H Z kvs q → repK n H Z (kput kvs x d) (putK q kk v)
  | [], q, h => by rw [show q = [] from h]; exact ⟨kk, v, [], rfl, hk, hd, (rfl : ([] : List (Key × V)) = [])⟩
  | (j, y) :: kvs, q, ⟨jj, w, r, e, hj, hy, t⟩ => by
    rw [e]
    by_cases c : j = x
    · subst c
      have : jj = kk := by rw [hj] at hk; cases hk; rfl
      subst this
      rw [putK_cons_eq rfl]
      simp only [kput, D.beq_self, if_true]
      exact ⟨jj, v, _, rfl, hj, hd, repK_map hk hd t⟩
    · have hne : ¬ jj = kk := fun z => c (toKey_inj (z ▸ hj) hk)
      rw [putK_cons_ne (p := (jj, w)) hne]
      simp only [kput, D.beq_ff.mpr c]
      exact ⟨jj, w, _, rfl, hj, hy, repK_put hk hd t⟩
theorem repT_map {H : Hp} {Z : Zs} {x : D} {kk : List Key} {d : D} {v : V} (hk : toKeyT x = some kk) (hd : rep n H Z d v) : ∀ {kvs : List (D × D)} {q : List (List Key × V)}, repT n H Z kvs q → repT n H Z (kmap x d kvs) (q.map fun kv => if kv.1 = kk then (kv.1, v) else kv)
  | [], q, h => by rw [show q = [] from h]; exact (rfl : ([] : List (List Key × V)) = [])
  | (j, y) :: kvs, q, ⟨jj, w, r, e, hj, hy, t⟩ => by
    rw [e]
    by_cases c : j = x
    · subst c
      have : jj = kk := by rw [hj] at hk; cases hk; rfl
      subst this
      simp only [kmap, D.beq_self, if_true, List.map_cons]
      exact ⟨jj, v, _, rfl, hj, hd, repT_map hk hd t⟩
    · have hne : ¬ jj = kk := fun z => c (toKeyT_inj (z ▸ hj) hk)
      simp only [kmap, D.beq_ff.mpr c, List.map_cons, hne, if_false]
      exact ⟨jj, w, _, rfl, hj, hy, repT_map hk hd t⟩
theorem repT_put {H : Hp} {Z : Zs} {x : D} {kk : List Key} {d : D} {v : V} (hk : toKeyT x = some kk) (hd : rep n H Z d v) : ∀ {kvs : List (D × D)} {q : List (List Key × V)}, repT n H Z kvs q → repT n H Z (kput kvs x d) (putK q kk v)
  | [], q, h => by rw [show q = [] from h]; exact ⟨kk, v, [], rfl, hk, hd, (rfl : ([] : List (List Key × V)) = [])⟩
  | (j, y) :: kvs, q, ⟨jj, w, r, e, hj, hy, t⟩ => by
    rw [e]
    by_cases c : j = x
    · subst c
      have : jj = kk := by rw [hj] at hk; cases hk; rfl
      subst this
      rw [putK_cons_eq rfl]
      simp only [kput, D.beq_self, if_true]
      exact ⟨jj, v, _, rfl, hj, hd, repT_map hk hd t⟩
    · have hne : ¬ jj = kk := fun z => c (toKeyT_inj (z ▸ hj) hk)
      rw [putK_cons_ne (p := (jj, w)) hne]
      simp only [kput, D.beq_ff.mpr c]
      exact ⟨jj, w, _, rfl, hj, hy, repT_put hk hd t⟩
theorem repK_len {H : Hp} {Z : Zs} : ∀ {kvs : List (D × D)} {q : List (Key × V)}, repK n H Z kvs q → kvs.length = q.length
  | [], q, h => by rw [show q = [] from h]; rfl
  | _ :: _, q, ⟨_, _, _, e, _, _, t⟩ => by rw [e, List.length_cons, List.length_cons, repK_len t]
theorem repT_len {H : Hp} {Z : Zs} : ∀ {kvs : List (D × D)} {q : List (List Key × V)}, repT n H Z kvs q → kvs.length = q.length
  | [], q, h => by rw [show q = [] from h]; rfl
  | _ :: _, q, ⟨_, _, _, e, _, _, t⟩ => by rw [e, List.length_cons, List.length_cons, repT_len t]
theorem repK_upd {H : Hp} {Z : Zs} {l : Addr} {o : HO} (hz : ¬ Z l) {xs : List (D × D)} {vs : List (Key × V)} (r : repK n H Z xs vs) : repK n (upd H l o) Z xs vs :=
  repK_mono (fun a u e z => by rw [upd_ne (fun q : a = l => hz (by rw [← q]; exact z))]; exact e) (fun _ z => z) xs vs r
theorem repT_upd {H : Hp} {Z : Zs} {l : Addr} {o : HO} (hz : ¬ Z l) {xs : List (D × D)} {vs : List (List Key × V)} (r : repT n H Z xs vs) : repT n (upd H l o) Z xs vs :=
  repT_mono (fun a u e z => by rw [upd_ne (fun q : a = l => hz (by rw [← q]; exact z))]; exact e) (fun _ z => z) xs vs r
/-! ### slot[k] = v -/
def rSet (hu : Bool) : TSet := fun o i v H Q => rSetL o i v H Q ∨ rSetD o i v H Q
theorem set_any (hu : X.A.units + 1 < cLine) : PSet X fun o i v H Q => rSetL o i v H Q ∨ rSetD o i v H Q := fun pins s σ H o i v ov iv u Q I r1 r2 r3 h =>
  h.elim (set_list pins s σ H o i v ov iv u Q I r1 r2 r3) (set_dict hu pins s σ H o i v ov iv u Q I r1 r2 r3)
theorem setIx_ok {H : Hp} {Z : Zs} {a pk pv o : PV} {v w u : V} {f fk g : Fp} {Q : Hp → Prop} (e : setIx a pk pv = some o) (r : repV n H Z a v f) (rk : repV n H Z pk w fk) (rv : repV n H Z pv u g) (hz : ∀ b, Z b → f b = 0) (h1 : ∀ b, f b + g b ≤ 1)
    (k : ∀ l obj f', v = .ref l → 1 ≤ f l → repV n (upd H l obj) Z o v f' → o ≠ .un → (∀ b, f' b ≤ f b + g b) → Q (upd H l obj)) : rSetL v w u H Q ∨ rSetD v w u H Q := by
  unfold setIx at e
  split at e
  · rename_i xs i x
    obtain ⟨l, ws, rfl, h, rl, hf⟩ := r
    have hw : w = .int i := rk.1
    subst hw
    have hl : f l = 1 := by rw [hf, dl_self]
    have hzl : ¬ Z l := fun z => by have := hz l z; omega
    cases e1 : ixN xs.length i with
    | none => rw [e1] at e; cases e
    | some j =>
      rw [e1] at e
      cases e
      exact .inl ⟨l, ws, i, j, rfl, rfl, h, by rw [← repL_len _ _ rl]; exact e1, k l _ (dl l) rfl (by omega) ⟨l, _, rfl, upd_same, repL_set j (repL_upd hzl rl) (rep_upd hzl rv.1), fun _ => rfl⟩ (by simp) (fun b => by rw [hf]; omega)⟩
  · rename_i t kvs kd x
    by_cases hb : (keyB t kd && szB (kvs.length + 1)) = true
    · rw [if_pos hb] at e
      cases e
      obtain ⟨hkb, hsz⟩ := Bool.and_eq_true_iff.mp hb
      have hsz' : kvs.length + 1 ≤ 16777216 := of_decide_eq_true hsz
      cases t with
      | false =>
        obtain ⟨l, q, rfl, h, rl, hf⟩ := r
        have hl : f l = 1 := by rw [hf, dl_self]
        have hzl : ¬ Z l := fun z => by have := hz l z; omega
        obtain ⟨kk, hkk⟩ := toKey_keyF (x := kd) hkb
        refine .inr ⟨l, _, rfl, .inl ⟨q, kk, h, key_val hkk rk.1, by rw [← repK_len rl, sz_eq]; omega, rfl⟩, k l _ (dl l) rfl (by omega) ⟨l, _, rfl, upd_same, repK_put hkk (rep_upd hzl rv.1) (repK_upd hzl rl), fun _ => rfl⟩ (by simp) (fun b => by rw [hf]; omega)⟩
      | true =>
        obtain ⟨l, q, rfl, h, rl, hf⟩ := r
        have hl : f l = 1 := by rw [hf, dl_self]
        have hzl : ¬ Z l := fun z => by have := hz l z; omega
        obtain ⟨kk, hkk⟩ := keyT_of (x := kd) hkb
        obtain ⟨b, rfl, zb, hb'⟩ := keyT_val hkk rk.1
        refine .inr ⟨l, _, rfl, .inr ⟨q, kk, b, h, rfl, hb', by rw [← repT_len rl, sz_eq]; omega, rfl⟩, k l _ (dl l) rfl (by omega) ⟨l, _, rfl, upd_same, repT_put hkk (rep_upd hzl rv.1) (repT_upd hzl rl), fun _ => rfl⟩ (by simp) (fun b => by rw [hf]; omega)⟩
    · rw [if_neg hb] at e; cases e
  · cases e
end
end Rt

set_option Elab.async false
set_option linter.all false
set_option maxRecDepth 100000
/-! Rt11: targets, statements. -/
namespace Rt
open PySem PySem.Spec PyProof.Rows L2
section
variable {n : Nms} {C : Orc} {X : Cx} {pos : Pos} {W : Nat}
/-- what others hold is kept -/
structure Kp (R : Fp) (H : Hp) (Z : Zs) (H' : Hp) (Z' : Zs) : Prop where
  keep : ∀ a o, H a = some o → (1 ≤ R a ∨ Z a) → H' a = some o
  zm : ∀ a, Z a → Z' a
theorem Kp.refl {R : Fp} {H : Hp} {Z : Zs} : Kp R H Z H Z := ⟨fun _ _ h _ => h, fun _ z => z⟩
theorem Kp.trans {R : Fp} {H H1 H2 : Hp} {Z Z1 Z2 : Zs} (a : Kp R H Z H1 Z1) (b : Kp R H1 Z1 H2 Z2) : Kp R H Z H2 Z2 :=
  ⟨fun x o h k => b.keep x o (a.keep x o h k) (k.imp id (a.zm x)), fun x z => b.zm x (a.zm x z)⟩
theorem Go.kp {m : Nat → Bool} {R : Fp} {H H' : Hp} {Z Z' : Zs} {F F' : Nat → Fp} {ρ ρ' : Env} (g : Go m R H Z F ρ H' Z' F' ρ') : Kp R H Z H' Z' :=
  ⟨fun a o h k => g.keep a o h (k.imp id .inl), g.zm⟩
theorem Kp.less {R R' : Fp} {H H' : Hp} {Z Z' : Zs} (k : Kp R H Z H' Z') (h : ∀ a, R' a ≤ R a) : Kp R' H Z H' Z' := ⟨fun a o e l => k.keep a o e (l.imp (fun l => Nat.le_trans l (h a)) id), k.zm⟩
def Sm (l : List Nat) (σ σ' : L2.St) : Prop := ∀ i : Nat, l.contains i = false → σ'[i]? = σ[i]?
theorem Sm.refl {l : List Nat} {σ : L2.St} : Sm l σ σ := fun _ _ => rfl
theorem Sm.trans {l : List Nat} {σ σ1 σ2 : L2.St} (a : Sm l σ σ1) (b : Sm l σ1 σ2) : Sm l σ σ2 := fun i h => (b i h).trans (a i h)
theorem Sm.l {a b : List Nat} {σ σ1 : L2.St} (h : Sm a σ σ1) : Sm (a ++ b) σ σ1 := fun i q => h i (by
  simp only [List.contains_eq_mem, List.mem_append, decide_eq_false_iff_not, not_or] at q ⊢
  exact q.1)
theorem Sm.r {a b : List Nat} {σ σ1 : L2.St} (h : Sm b σ σ1) : Sm (a ++ b) σ σ1 := fun i q => h i (by
  simp only [List.contains_eq_mem, List.mem_append, decide_eq_false_iff_not, not_or] at q ⊢
  exact q.2)
theorem Sm.set {i : Nat} {σ : L2.St} {v : Option V} : Sm [i] σ (σ.set i v) := fun j h => by
  have : ¬ i = j := fun e => by subst e; simp at h
  simp [List.getElem?_set, this]
/-- a value stored into a slot -/
theorem Sv.store {H : Hp} {Z : Zs} {ρ : Env} {σ : L2.St} {F : Nat → Fp} {R f : Fp} {p : PV} {v : V} (S : Sv n H Z ρ σ F fun a => R a + f a) (r : repV n H Z p v f) (i : Nat) : ∃ F', Sv n H Z (put ρ i p) (σ.set i (some v)) F' R ∧ ∀ j, j ≠ i → F' j = F j := by
  by_cases hi : i < ρ.length
  · refine ⟨fun j => if j = i then f else F j, ⟨?_, ?_, ?_, ?_, ?_, ?_, ?_⟩, fun j h => if_neg h⟩
    · rw [put_length, List.length_set]; exact S.len
    · intro j
      by_cases h : j = i
      · subst h
        rw [if_pos rfl, get_put_same hi]
        have hs : (σ.set j (some v))[j]? = some (some v) := by
          rw [List.getElem?_set_self (by rw [← S.len]; exact hi)]
        unfold repO
        cases p with
        | un => exact r
        | _ => exact ⟨v, hs, r⟩
      · rw [if_neg h, get_put_ne h]
        have : (σ.set i (some v))[j]? = σ[j]? := List.getElem?_set_ne (fun e => h e.symm)
        rw [this]
        exact S.at_ j
    · intro j a
      have o1 : F j a + (R a + f a) ≤ 1 := S.one j a
      have o2 : R a + f a ≤ 1 := S.oneR a
      by_cases h : j = i
      · simp only [if_pos h]; omega
      · simp only [if_neg h]; omega
    · intro a
      have o2 : R a + f a ≤ 1 := S.oneR a
      omega
    · intro j k a h
      by_cases e1 : j = i
      · subst e1
        have e2 : k ≠ j := fun e => h e.symm
        simp only [if_pos, if_neg e2]
        have o2 : F k a + (R a + f a) ≤ 1 := S.one k a
        omega
      · by_cases e2 : k = i
        · subst e2
          simp only [if_pos, if_neg e1]
          have o2 : F j a + (R a + f a) ≤ 1 := S.one j a
          omega
        · simp only [if_neg e1, if_neg e2]
          exact S.dis j k a h
    · intro a z
      obtain ⟨z1, z2, z3⟩ := S.zz a z
      have z2' : R a + f a = 0 := z2
      refine ⟨z1, by omega, fun j => ?_⟩
      by_cases h : j = i
      · simp only [if_pos h]; omega
      · simp only [if_neg h]; exact z3 j
    · intro a l
      exact S.all a (by show 1 ≤ R a + f a; omega)
  · have e1 : put ρ i p = ρ := by
      clear S r
      induction ρ generalizing i with
      | nil => rfl
      | cons x ρ ih =>
        cases i with
        | zero => simp at hi
        | succ i => show x :: put ρ i p = _; rw [ih i (by simpa using hi)]
    have e2 : σ.set i (some v) = σ := List.set_eq_of_length_le (by rw [← S.len]; omega)
    rw [e1, e2]
    exact ⟨F, S.less fun a => Nat.le_add_right _ _, fun _ _ => rfl⟩
/-- slots that are not at is are as they were -/
def Un (is : List Nat) (F : Nat → Fp) (ρ : Env) (F' : Nat → Fp) (ρ' : Env) : Prop := ∀ j, is.contains j = false → (∀ a, F' j a = F j a) ∧ get ρ' j = get ρ j
theorem Un.refl {is : List Nat} {F : Nat → Fp} {ρ : Env} : Un is F ρ F ρ := fun _ _ => ⟨fun _ => rfl, rfl⟩
theorem Un.trans {is : List Nat} {F F1 F2 : Nat → Fp} {ρ ρ1 ρ2 : Env} (a : Un is F ρ F1 ρ1) (b : Un is F1 ρ1 F2 ρ2) : Un is F ρ F2 ρ2 := fun j h => ⟨fun x => ((b j h).1 x).trans ((a j h).1 x), (b j h).2.trans (a j h).2⟩
theorem Un.l {a b : List Nat} {F F1 : Nat → Fp} {ρ ρ1 : Env} (h : Un a F ρ F1 ρ1) : Un (a ++ b) F ρ F1 ρ1 := fun i q => h i (by
  simp only [List.contains_eq_mem, List.mem_append, decide_eq_false_iff_not, not_or] at q ⊢
  exact q.1)
theorem Un.r {a b : List Nat} {F F1 : Nat → Fp} {ρ ρ1 : Env} (h : Un b F ρ F1 ρ1) : Un (a ++ b) F ρ F1 ρ1 := fun i q => h i (by
  simp only [List.contains_eq_mem, List.mem_append, decide_eq_false_iff_not, not_or] at q ⊢
  exact q.2)
theorem Un.put {i : Nat} {F F1 : Nat → Fp} {ρ : Env} {p : PV} (h : ∀ j, j ≠ i → F1 j = F j) : Un [i] F ρ F1 (put ρ i p) := fun j q => by
  have e : j ≠ i := fun e => by subst e; simp at q
  exact ⟨fun a => by rw [h j e], get_put_ne e⟩
/-! ### targets -/
def gT (n : Nms) (tg : Tg) : TG := fun v σ H Q => ∃ ρ F R Z p f ρ', Sv n H Z ρ σ F (fun a => R a + f a) ∧ repV n H Z p v f ∧ bind tg p ρ = some ρ' ∧
  ∀ σ' F' Z', (∀ a, Z a → Z' a) → Sv n H Z' ρ' σ' F' R → Sm (tgs tg) σ σ' → Un (tgs tg) F ρ F' ρ' → Q σ' H
def gTs (n : Nms) (ts : List Tg) : TGs := fun vs σ H Q => ∃ ρ F R Z ps f ρ', Sv n H Z ρ σ F (fun a => R a + f a) ∧ repVL n H Z ps vs f ∧ bindL ts ps ρ = some ρ' ∧
  ∀ σ' F' Z', (∀ a, Z a → Z' a) → Sv n H Z' ρ' σ' F' R → Sm (tgsL ts) σ σ' → Un (tgsL ts) F ρ F' ρ' → Q σ' H
theorem pg_wk {e : Expr} {t t' : TG} (h : PG X e t) (w : ∀ v σ H Q, t' v σ H Q → t v σ H Q) : PG X e t' := ⟨fun pins s σ H v u Q I r x => h.run pins s σ H v u Q I r (w _ _ _ _ x)⟩
theorem pgs_wk {e : List Expr} {t t' : TGs} (h : PGs X e t) (w : ∀ v σ H Q, t' v σ H Q → t v σ H Q) : PGs X e t' := ⟨fun pins s σ H v u Q I r x => h.run pins s σ H v u Q I r (w _ _ _ _ x)⟩
theorem nmG {i : Nat} {x : Str} (hN : X.N.Nodup) (hi : X.N[i]? = some x) (hx : Loc X.env.scope x) (hf : X.fn x = true ∨ X.env.scope.names.lookup x = some .local) : PG X (.Name x pos) (gT n (.nm i)) :=
  pg_wk (pg_name hN hi hx hf) fun v σ H Q ⟨ρ, F, R, Z, p, f, ρ', S, r, e, k⟩ => by
    obtain ⟨F', S', u'⟩ := S.store r i
    replace e : some (put ρ i p) = some ρ' := e
    cases e
    exact k _ F' Z (fun _ z => z) S' Sm.set (Un.put u')
theorem nfG {i : Nat} {x : Str} (hN : X.N.Nodup) (hi : X.N[i]? = some x) (hx : Loc X.env.scope x) (hf : X.fn x = true ∨ X.env.scope.names.lookup x = some .local) : PG X (.Name x pos) (gT n (.nf i)) :=
  pg_wk (pg_name hN hi hx hf) fun v σ H Q ⟨ρ, F, R, Z, p, f, ρ', S, r, e, k⟩ => by
    replace e : (match Rt.frz p with | some x => some (put ρ i (.d x)) | none => none) = some ρ' := e
    cases e1 : Rt.frz p with
    | none => rw [e1] at e; cases e
    | some d =>
      rw [e1] at e
      cases e
      have S1 := S.freeze
      obtain ⟨F', S', u'⟩ := Sv.store (f := fun _ => 0) (p := .d d) (v := v) S1 ⟨frz_rep p d v f e1 (fun a l => .inr l) (fun a z => .inl z) r, fun _ => rfl⟩ i
      exact k _ F' _ (fun _ z => .inl z) S' Sm.set (Un.put u')
theorem nilGs : PGs X [] (gTs n []) :=
  pgs_wk pgs_nil fun vs σ H Q ⟨ρ, F, R, Z, ps, f, ρ', S, r, e, k⟩ => by
    cases ps with
    | nil =>
      cases e
      exact ⟨r.1, k σ F Z (fun _ z => z) (S.less fun a => Nat.le_add_right _ _) Sm.refl Un.refl⟩
    | cons p ps => cases e
theorem consGs {e : Expr} {es : List Expr} {t : Tg} {ts : List Tg} (h1 : PG X e (gT n t)) (h2 : PGs X es (gTs n ts)) (hs : (assignEach (e :: es) X.env).map (·.2) = assign e X.env :: (assignEach es X.env).map (·.2)) : PGs X (e :: es) (gTs n (t :: ts)) :=
  pgs_wk (pgs_cons h1 h2 hs) fun vs σ H Q ⟨ρ, F, R, Z, ps, f, ρ', S, r, e, k⟩ => by
    cases ps with
    | nil => cases e
    | cons p ps =>
      obtain ⟨v, rs, g, h, rfl, rp, rr, hf⟩ := r
      replace e : (match bind t p ρ with | some ρ1 => bindL ts ps ρ1 | none => none) = some ρ' := e
      cases e1 : bind t p ρ with
      | none => rw [e1] at e; cases e
      | some ρ1 =>
        rw [e1] at e
        refine ⟨v, rs, rfl, ρ, F, fun a => R a + h a, Z, p, g, ρ1, S.congr fun a => by show (R a + h a) + g a = R a + f a; rw [hf]; omega, rp, e1, fun σ1 F1 Z1 z1 S1 m1 u1 => ?_⟩
        refine ⟨ρ1, F1, R, Z1, ps, h, ρ', S1, repVL_mono ps rs h (fun _ _ e _ => e) z1 rr, e, fun σ2 F2 Z2 z2 S2 m2 u2 => ?_⟩
        exact k σ2 F2 Z2 (fun a z => z2 a (z1 a z)) S2 ((Sm.l m1).trans (Sm.r m2)) ((Un.l u1).trans (Un.r u2))
theorem asU_rep {H : Hp} {Z : Zs} {p : PV} {v : V} {f : Fp} {vs : List PV} (e : asU p = some vs) (r : repV n H Z p v f) : ∃ a ws, v = .ref a ∧ TupZ H Z a ws ∧ repVL n H Z vs ws f := by
  cases p with
  | d x =>
    cases x with
    | tup xs =>
      cases e
      obtain ⟨⟨a, ws, rfl, h, r⟩, hf⟩ := r
      refine ⟨a, ws, rfl, h, ?_⟩
      have : f = fun _ => 0 := funext hf
      rw [this]
      exact repVL_d r
    | _ => cases e
  | tp xs =>
    cases e
    obtain ⟨a, ws, rfl, h, r⟩ := r
    exact ⟨a, ws, rfl, h, r⟩
  | _ => cases e
/-- names and tuples of names -/
def noStarT : Expr → Bool
  | .Starred _ _ => false
  | _ => true
theorem assign_cons {e : Expr} {es : List Expr} {env : PySem.Env} (h : noStarT e = true) : assignEach (e :: es) env = (false, assign e env) :: assignEach es env := by
  cases e <;> first | rfl | (cases h)
theorem assign_len {env : PySem.Env} : ∀ {es : List Expr}, (assignEach es env).length = es.length
  | [] => rfl
  | e :: es => by
    have := assign_len (env := env) (es := es)
    cases e <;> (show (assignEach es env).length + 1 = es.length + 1; rw [this])
theorem assign_nostar {env : PySem.Env} : ∀ {es : List Expr}, es.all noStarT = true → (assignEach es env).findIdx? (·.1) = none
  | [], _ => rfl
  | e :: es, h => by
    simp only [List.all_cons, Bool.and_eq_true] at h
    rw [assign_cons h.1, List.findIdx?_cons, assign_nostar h.2]
    rfl
theorem bindL_len : ∀ {ts : List Tg} {ps : List PV} {ρ ρ' : Env}, bindL ts ps ρ = some ρ' → ps.length = ts.length
  | [], [], _, _, _ => rfl
  | [], _ :: _, _, _, e => by cases e
  | _ :: _, [], _, _, e => by cases e
  | t :: ts, p :: ps, ρ, ρ', e => by
    replace e : (match bind t p ρ with | some ρ1 => bindL ts ps ρ1 | none => none) = some ρ' := e
    cases e1 : bind t p ρ with
    | none => rw [e1] at e; cases e
    | some ρ1 =>
      rw [e1] at e
      rw [List.length_cons, List.length_cons, bindL_len e]
theorem tpG {es : List Expr} {ts : List Tg} {k : Nat} (hc : X.calm = true) (h : PGs X es (gTs n ts)) (hl : es.length = ts.length) (hst : es.all noStarT = true) : PG X (.Tuple es k pos) (gT n (.tp ts)) :=
  pg_wk (pg_tup hc h (hn := assign_len) (hst := assign_nostar hst)) fun v σ H Q ⟨ρ, F, R, Z, p, f, ρ', S, r, e, k⟩ => by
    replace e : (match asU p with | some vs => bindL ts vs ρ | none => none) = some ρ' := e
    cases e1 : asU p with
    | none => rw [e1] at e; cases e
    | some ps =>
      rw [e1] at e
      obtain ⟨a, ws, rfl, ht, rp⟩ := asU_rep e1 r
      exact ⟨a, ws, rfl, ht.sq, by rw [← repVL_len rp, bindL_len e, hl], ρ, F, R, Z, ps, f, ρ', S, rp, e, k⟩
/-! ### statements -/
mutual
def agS : S → List Nat
  | .asg i _ => [i]
  | .asgt t _ => tgs t
  | .aug i _ _ => [i]
  | .iff _ a b => agSs a ++ agSs b
  | .whl _ b => agSs b
  | .for tg _ b => tgs tg ++ agSs b
  | .forr tg _ b => tgs tg ++ agSs b
  | _ => []
def agSs : List S → List Nat
  | [] => []
  | s :: ss => agS s ++ agSs ss
end
/-- the four ends of a block -/
structure Ok (n : Nms) (D : Ends) (σ : L2.St) (R : Fp) (H : Hp) (Z : Zs) (l : List Nat) (o : Out) : Prop where
  nx : ∀ ρ' σ' H' F' Z', o = .nx ρ' → Kp R H Z H' Z' → Sv n H' Z' ρ' σ' F' R → Sm l σ σ' → D.nx σ' H'
  bk : ∀ ρ' σ' H' F' Z', o = .bk ρ' → Kp R H Z H' Z' → Sv n H' Z' ρ' σ' F' R → Sm l σ σ' → D.bk σ' H'
  ct : ∀ ρ' σ' H' F' Z', o = .ct ρ' → Kp R H Z H' Z' → Sv n H' Z' ρ' σ' F' R → Sm l σ σ' → D.ct σ' H'
  rt : ∀ p v ρ' σ' H' F' Z' f, o = .rt p ρ' → Kp R H Z H' Z' → Sv n H' Z' ρ' σ' F' (fun a => R a + f a) → repV n H' Z' p v f → Sm l σ σ' → D.rt v H'
def tS (n : Nms) (C : Orc) (W : Nat) (s : S) : TS := fun D σ H => ∃ ρ F R Z o, Sv n H Z ρ σ F R ∧ evS C W s ρ = some o ∧ Ok n D σ R H Z (agS s) o
def tSs (n : Nms) (C : Orc) (W : Nat) (s : List S) : TS := fun D σ H => ∃ ρ F R Z o, Sv n H Z ρ σ F R ∧ evSs C W s ρ = some o ∧ Ok n D σ R H Z (agSs s) o
theorem ps_wk {st : Stmt} {t t' : TS} (h : PS X st t) (w : ∀ D σ H, t' D σ H → t D σ H) : PS X st t' := ⟨fun pins s σ H D I x => h.run pins s σ H D I (w _ _ _ x)⟩
theorem pss_wk {st : List Stmt} {t t' : TS} (h : PSs X st t) (w : ∀ D σ H, t' D σ H → t D σ H) : PSs X st t' := ⟨fun pins s σ H D I x => h.run pins s σ H D I (w _ _ _ x)⟩
theorem nilS : PSs X [] (tSs n C W []) :=
  pss_wk pss_nil fun D σ H ⟨ρ, F, R, Z, o, S, e, k⟩ => k.nx ρ σ H F Z (by
    simp only [evSs, Option.some.injEq] at e
    exact e.symm) .refl S .refl
theorem consS {s : S} {ss : List S} {st : Stmt} {sts : List Stmt} (h1 : PS X st (tS n C W s)) (h2 : PSs X sts (tSs n C W ss)) : PSs X (st :: sts) (tSs n C W (s :: ss)) :=
  pss_wk (pss_cons h1 h2) fun D σ H ⟨ρ, F, R, Z, o, S, e, k⟩ => by
    simp only [evSs] at e
    cases e1 : evS C W s ρ with
    | none => rw [e1] at e; cases e
    | some o1 =>
      rw [e1] at e
      refine ⟨ρ, F, R, Z, o1, S, e1, ?_, ?_, ?_, ?_⟩
      · intro ρ1 σ1 H1 F1 Z1 eo k1 S1 m1
        subst eo
        refine ⟨ρ1, F1, R, Z1, o, S1, e, ?_, ?_, ?_, ?_⟩
        · exact fun ρ' σ' H' F' Z' eo k2 S2 m2 => k.nx ρ' σ' H' F' Z' eo (k1.trans k2) S2 ((Sm.l m1).trans (Sm.r m2))
        · exact fun ρ' σ' H' F' Z' eo k2 S2 m2 => k.bk ρ' σ' H' F' Z' eo (k1.trans k2) S2 ((Sm.l m1).trans (Sm.r m2))
        · exact fun ρ' σ' H' F' Z' eo k2 S2 m2 => k.ct ρ' σ' H' F' Z' eo (k1.trans k2) S2 ((Sm.l m1).trans (Sm.r m2))
        · exact fun p v ρ' σ' H' F' Z' f eo k2 S2 r m2 => k.rt p v ρ' σ' H' F' Z' f eo (k1.trans k2) S2 r ((Sm.l m1).trans (Sm.r m2))
      · intro ρ1 σ1 H1 F1 Z1 eo k1 S1 m1
        subst eo
        exact k.bk ρ1 σ1 H1 F1 Z1 (Option.some.inj e).symm k1 S1 (Sm.l m1)
      · intro ρ1 σ1 H1 F1 Z1 eo k1 S1 m1
        subst eo
        exact k.ct ρ1 σ1 H1 F1 Z1 (Option.some.inj e).symm k1 S1 (Sm.l m1)
      · intro p v ρ1 σ1 H1 F1 Z1 f eo k1 S1 r m1
        subst eo
        exact k.rt p v ρ1 σ1 H1 F1 Z1 f (Option.some.inj e).symm k1 S1 r (Sm.l m1)
theorem pasS : PS X (.Pass pos) (tS n C W .pas) :=
  ps_wk ps_pass fun D σ H ⟨ρ, F, R, Z, o, S, e, k⟩ => k.nx ρ σ H F Z (by simp only [evS, Option.some.injEq] at e; exact e.symm) .refl S .refl
theorem brkS : PS X (.Break pos) (tS n C W .brk) :=
  ps_wk ps_break fun D σ H ⟨ρ, F, R, Z, o, S, e, k⟩ => k.bk ρ σ H F Z (by simp only [evS, Option.some.injEq] at e; exact e.symm) .refl S .refl
theorem cntS : PS X (.Continue pos) (tS n C W .cnt) :=
  ps_wk ps_continue fun D σ H ⟨ρ, F, R, Z, o, S, e, k⟩ => k.ct ρ σ H F Z (by simp only [evS, Option.some.injEq] at e; exact e.symm) .refl S .refl
theorem retnS : PS X (.Return none pos) (tS n C W .retn) :=
  ps_wk ps_retN fun D σ H ⟨ρ, F, R, Z, o, S, e, k⟩ => k.rt (.d .non) .non ρ σ H F Z (fun _ => 0) (by simp only [evS, Option.some.injEq] at e; exact e.symm) .refl (S.zero fun _ => rfl) ⟨rfl, fun _ => rfl⟩ .refl
theorem retS {e : E} {a : Expr} (hr : rdOf e = none) (h : PE X a (tE n C e)) : PS X (.Return (some a) pos) (tS n C W (.ret e)) :=
  ps_wk (ps_ret h) fun D σ H ⟨ρ, F, R, Z, o, S, ev, k⟩ => by
    simp only [evS] at ev
    cases e1 : evE C e ρ with
    | none => rw [e1] at ev; cases ev
    | some q =>
      obtain ⟨p, ρ1⟩ := q
      rw [e1] at ev
      cases ev
      exact ⟨ρ, F, R, Z, p, ρ1, S, e1, fun v H1 F1 Z1 f1 g1 S1 r1 => k.rt p v ρ1 σ H1 F1 Z1 f1 rfl g1.kp S1 ((resV_own hr).mp r1) .refl⟩
theorem exS {e : E} {a : Expr} (h : PE X a (tE n C e)) (hs : swapsWith a none pos.line X.env = pure false) : PS X (.Expr a pos) (tS n C W (.ex e)) :=
  ps_wk (ps_expr h hs) fun D σ H ⟨ρ, F, R, Z, o, S, ev, k⟩ => by
    simp only [evS] at ev
    cases e1 : evE C e ρ with
    | none => rw [e1] at ev; cases ev
    | some q =>
      obtain ⟨p, ρ1⟩ := q
      rw [e1] at ev
      cases ev
      exact ⟨ρ, F, R, Z, p, ρ1, S, e1, fun v H1 F1 Z1 f1 g1 S1 r1 => k.nx ρ1 σ H1 F1 Z1 rfl g1.kp (S1.less fun a => Nat.le_add_right _ _) .refl⟩
theorem iffS {t : E} {a b : List S} {c : Expr} {p q : List Stmt} (hc : PT X c (tT n C t)) (ha : PSs X p (tSs n C W a)) (hb : PSs X q (tSs n C W b)) : PS X (.If c p q pos) (tS n C W (.iff t a b)) :=
  ps_wk (ps_if hc ha hb) fun D σ H ⟨ρ, F, R, Z, o, S, ev, k⟩ => by
    simp only [evS] at ev
    cases e1 : evT C t ρ with
    | none => rw [e1] at ev; cases ev
    | some q =>
      obtain ⟨c, ρ1⟩ := q
      rw [e1] at ev
      refine ⟨ρ, F, R, Z, c, ρ1, S, e1, fun H1 F1 Z1 g1 S1 => ?_⟩
      cases c with
      | true =>
        try dsimp only
        rw [if_pos rfl]
        refine ⟨ρ1, F1, R, Z1, o, S1, ev, ?_, ?_, ?_, ?_⟩
        · exact fun ρ' σ' H' F' Z' eo k2 S2 m2 => k.nx ρ' σ' H' F' Z' eo (g1.kp.trans k2) S2 (Sm.l m2)
        · exact fun ρ' σ' H' F' Z' eo k2 S2 m2 => k.bk ρ' σ' H' F' Z' eo (g1.kp.trans k2) S2 (Sm.l m2)
        · exact fun ρ' σ' H' F' Z' eo k2 S2 m2 => k.ct ρ' σ' H' F' Z' eo (g1.kp.trans k2) S2 (Sm.l m2)
        · exact fun p v ρ' σ' H' F' Z' f eo k2 S2 r m2 => k.rt p v ρ' σ' H' F' Z' f eo (g1.kp.trans k2) S2 r (Sm.l m2)
      | false =>
        try dsimp only
        rw [if_neg Bool.false_ne_true]
        refine ⟨ρ1, F1, R, Z1, o, S1, ev, ?_, ?_, ?_, ?_⟩
        · exact fun ρ' σ' H' F' Z' eo k2 S2 m2 => k.nx ρ' σ' H' F' Z' eo (g1.kp.trans k2) S2 (Sm.r m2)
        · exact fun ρ' σ' H' F' Z' eo k2 S2 m2 => k.bk ρ' σ' H' F' Z' eo (g1.kp.trans k2) S2 (Sm.r m2)
        · exact fun ρ' σ' H' F' Z' eo k2 S2 m2 => k.ct ρ' σ' H' F' Z' eo (g1.kp.trans k2) S2 (Sm.r m2)
        · exact fun p v ρ' σ' H' F' Z' f eo k2 S2 r m2 => k.rt p v ρ' σ' H' F' Z' f eo (g1.kp.trans k2) S2 r (Sm.r m2)
/-! ### stores -/
theorem asg_ok {e : E} {i : Nat} {D : Ends} {σ : L2.St} {H : Hp} (hr : rdOf e = none) (h : tS n C W (.asg i e) D σ H) : tAsg (tE n C e) (gName i) D σ H := by
  obtain ⟨ρ, F, R, Z, o, S, ev, k⟩ := h
  simp only [evS] at ev
  cases e1 : evE C e ρ with
  | none => rw [e1] at ev; cases ev
  | some q =>
    obtain ⟨p, ρ1⟩ := q
    rw [e1] at ev
    cases ev
    refine ⟨ρ, F, R, Z, p, ρ1, S, e1, fun v H1 F1 Z1 f1 g1 S1 r1 => ?_⟩
    obtain ⟨F', S', _⟩ := S1.store ((resV_own hr).mp r1) i
    exact k.nx _ _ H1 F' Z1 rfl g1.kp S' Sm.set
theorem asgS {e : E} {a : Expr} {i : Nat} {x : Str} {pos' : Pos} (hr : rdOf e = none) (hN : X.N.Nodup) (hi : X.N[i]? = some x) (hx : Loc X.env.scope x) (hf : X.fn x = true ∨ X.env.scope.names.lookup x = some .local) (h : PE X a (tE n C e)) (hs : swapsWith a (some (.Name x pos')) pos.line X.env = pure false) : PS X (.Assign [.Name x pos'] a pos) (tS n C W (.asg i e)) :=
  ps_wk (ps_set hN hi hx h hs hf) fun D σ H h => asg_ok hr h
theorem asgtS {e : E} {t : Tg} {a tg : Expr} (hr : rdOf e = none) (h : PE X a (tE n C e)) (hg : PG X tg (gT n t)) (hst : noStarT tg = true) (hs : swapsWithSole [tg] a pos.line X.env = pure false) (hw : swappedStores [tg] a X.env = pure none) : PS X (.Assign [tg] a pos) (tS n C W (.asgt t e)) :=
  ps_wk (ps_asg h hg hs hw (by rw [assign_cons hst]; rfl)) fun D σ H ⟨ρ, F, R, Z, o, S, ev, k⟩ => by
    simp only [evS] at ev
    cases e1 : evE C e ρ with
    | none => rw [e1] at ev; cases ev
    | some q =>
      obtain ⟨p, ρ1⟩ := q
      rw [e1] at ev
      dsimp only at ev
      cases e2 : bind t p ρ1 with
      | none => rw [e2] at ev; cases ev
      | some ρ2 =>
        rw [e2] at ev
        cases ev
        exact ⟨ρ, F, R, Z, p, ρ1, S, e1, fun v H1 F1 Z1 f1 g1 S1 r1 => ⟨ρ1, F1, R, Z1, p, f1, ρ2, S1, (resV_own hr).mp r1, e2, fun σ2 F2 Z2 z2 S2 m2 _ => k.nx ρ2 σ2 H1 F2 Z2 rfl (g1.kp.trans ⟨fun _ _ e _ => e, z2⟩) S2 m2⟩⟩
theorem isUn_ne {p : PV} (h : ¬ isUn p = true) : p ≠ .un := fun e => h (by rw [e]; rfl)
theorem kp_write {H : Hp} {Z : Zs} {ρ : Env} {σ : L2.St} {F : Nat → Fp} {R R0 : Fp} {i : Nat} {l : Addr} {o : HO} (S : Sv n H Z ρ σ F R) (hl : 1 ≤ F i l) (hR : ∀ a, R0 a ≤ R a) : Kp R0 H Z (upd H l o) Z := by
  obtain ⟨h1, h2, _⟩ := S.apart hl
  refine ⟨fun a u hu k => ?_, fun _ z => z⟩
  have : a ≠ l := fun e => by
    subst e
    rcases k with k | k
    · have := hR a; omega
    · exact h2 k
  rw [upd_ne this]
  exact hu
theorem sixS (hu : X.A.units + 1 < cLine) {ek ee : E} {i : Nat} {o k a : Expr} {pos' : Pos} (hr : rdOf ee = none) (hrk : rdOf ek = none) (hi : (mtE ek).contains i = false) (ho : PE X o (tVar i)) (hk : PE X k (tE n C ek)) (h : PE X a (tE n C ee))
    (hsub : ∀ v, assign (.Subscript o k pos') X.env v = (do
      let ov ← holding [v] (eval o X.env)
      let iv ← holding [v, ov] (eval k X.env)
      standAt pos'
      holding [v, ov, iv] (setItem ov iv v)
      release [v, ov, iv] []))
    (hs : swapsWithSole [.Subscript o k pos'] a pos.line X.env = pure false) (hw : swappedStores [.Subscript o k pos'] a X.env = pure none) : PS X (.Assign [.Subscript o k pos'] a pos) (tS n C W (.six i ek ee)) :=
  ps_wk (ps_asg h (pg_sub ho hk (set_any hu) hsub) hs hw (by rw [assign_cons rfl]; rfl)) fun D σ H ⟨ρ, F, R, Z, out, S, ev, kk⟩ => by
    simp only [evS] at ev
    cases e1 : evE C ee ρ with
    | none => rw [e1] at ev; cases ev
    | some q =>
      obtain ⟨p, ρ1⟩ := q
      rw [e1] at ev
      dsimp only at ev
      by_cases hun : isUn (get ρ1 i) = true
      · rw [if_pos hun] at ev; cases ev
      · rw [if_neg hun] at ev
        cases e2 : evE C ek ρ1 with
        | none => rw [e2] at ev; cases ev
        | some q =>
          obtain ⟨pk, ρ2⟩ := q
          rw [e2] at ev
          dsimp only at ev
          cases e3 : setIx (get ρ2 i) pk p with
          | none => rw [e3] at ev; cases ev
          | some ob =>
            rw [e3] at ev
            cases ev
            refine ⟨ρ, F, R, Z, p, ρ1, S, e1, fun v H1 F1 Z1 f1 g1 S1 r1 => ?_⟩
            obtain ⟨vo, hs, ro⟩ := S1.slot (i := i) rfl (isUn_ne hun)
            refine ⟨vo, hs, ρ1, F1, fun a => R a + f1 a, Z1, pk, ρ2, S1, e2, fun w H2 F2 Z2 f2 g2 S2 r2 => ?_⟩
            have hmi : mset (mtE ek) i = false := hi
            have ro2 : repV n H2 Z2 (get ρ2 i) vo (F2 i) := by
              rw [(g2.un i hmi).2]
              exact Sv.repV_congr (g2.un i hmi).1 (g2.mine hmi ro)
            have rv2 : repV n H2 Z2 p v f1 := g2.other (fun a => Nat.le_add_left _ _) ((resV_own hr).mp r1)
            have hne : get ρ2 i ≠ .un := by rw [(g2.un i hmi).2]; exact isUn_ne hun
            refine setIx_ok e3 ro2 ((resV_own hrk).mp r2) rv2 (fun b z => (S2.zz b z).2.2 i) (fun b => ?_) fun l obj f' hv hl ro' hno hf => ?_
            · have : F2 i b + ((R b + f1 b) + f2 b) ≤ 1 := S2.one i b
              omega
            · have S2' : Sv n H2 Z2 ρ2 σ F2 fun a => R a + f1 a := S2.less fun a => Nat.le_add_right _ _
              have S3 := S2'.write (g := fun _ => 0) (o := obj) hl (get_lt hne) hs ro' hno (fun a => by have := hf a; omega)
              exact kk.nx _ σ _ _ Z2 rfl ((g1.kp.trans (g2.kp.less fun a => Nat.le_add_right _ _)).trans (kp_write S2' hl fun a => Nat.le_add_right _ _)) (S3.congr fun _ => rfl) .refl
end
end Rt

set_option Elab.async false
set_option linter.all false
set_option maxRecDepth 100000
/-! Rt12: op=, chains. -/
namespace Rt
open PySem PySem.Spec PyProof.Rows L2
section
variable {n : Nms} {C : Orc} {X : Cx} {pos : Pos} {W : Nat}
/-- the reading of x op= y -/
def IP (n : Nms) (p : Prim) : TIp := fun x y H Q => ∃ Z a b r f g, (∀ a, Z a → H a ≠ none) ∧ repV n H Z a x f ∧ repV n H Z b y g ∧ iop p a b = some r ∧ ∀ z H' Z' h, New n H Z H' Z' r z h → Q z H'
theorem iop_inv {p : Prim} {a b r : PV} (e : iop p a b = some r) : (∃ i j, a = .d (.int i) ∧ b = .d (.int j) ∧ ((p = .add ∧ r = .d (.int (i + j))) ∨ (p = .sub ∧ r = .d (.int (i - j))))) ∨
    ∃ s t, a = .d (.str s) ∧ b = .d (.str t) ∧ p = .add ∧ s.length + t.length ≤ 16777216 ∧ r = .d (.str (s ++ t)) := by
  unfold iop at e
  split at e
  · cases e; exact .inl ⟨_, _, rfl, rfl, .inl ⟨rfl, rfl⟩⟩
  · cases e; exact .inl ⟨_, _, rfl, rfl, .inr ⟨rfl, rfl⟩⟩
  · rename_i s t
    by_cases h : szB (s.length + t.length) = true
    · rw [if_pos h] at e
      cases e
      exact .inr ⟨s, t, rfl, rfl, rfl, of_decide_eq_true h, rfl⟩
    · rw [if_neg h] at e; cases e
  · cases e
theorem ip_of {p : Prim} {op : Operator} (h : (p = .add ∧ op = .Add) ∨ (p = .sub ∧ op = .Sub)) : PIp X op (IP n p) := by
  intro pins s σ H x y v u Q I r1 r2 ⟨Z, a, b, r, f, g, hz, ra, rb, e, k⟩
  rcases iop_inv e with ⟨i, j, rfl, rfl, h'⟩ | ⟨s1, t1, rfl, rfl, hp, hl, rfl⟩
  · obtain rfl : x = .int i := ra.1
    obtain rfl : y = .int j := rb.1
    rcases h with ⟨rfl, rfl⟩ | ⟨rfl, rfl⟩
    · rcases h' with ⟨_, rfl⟩ | ⟨h, _⟩
      · exact iop_add pins s σ H _ _ v u Q I r1 r2 ⟨i, j, rfl, rfl, k _ H Z _ (New.atom hz rfl)⟩
      · cases h
    · rcases h' with ⟨h, _⟩ | ⟨_, rfl⟩
      · cases h
      · exact iop_sub pins s σ H _ _ v u Q I r1 r2 ⟨i, j, rfl, rfl, k _ H Z _ (New.atom hz rfl)⟩
  · obtain rfl : x = .str (mkS s1) := ra.1
    obtain rfl : y = .str (mkS t1) := rb.1
    subst hp
    rcases h with ⟨_, rfl⟩ | ⟨h, _⟩
    · exact iop_add_str pins s σ H _ _ v u Q I r1 r2 ⟨mkS s1, mkS t1, rfl, rfl, by rw [mkS_len, mkS_len]; exact hl, k _ H Z _ (New.atom hz (by rw [mkS_app]; rfl))⟩
    · cases h
theorem augS {p : Prim} {op : Operator} {i : Nat} {x : Str} {e : E} {a : Expr} {pos' : Pos} (h0 : (p = .add ∧ op = .Add) ∨ (p = .sub ∧ op = .Sub)) (hr : rdOf e = none) (hmi : (mtE e).contains i = false) (hN : X.N.Nodup) (hi : X.N[i]? = some x) (hx : Loc X.env.scope x) (hf : X.fn x = true ∨ X.env.scope.names.lookup x = some .local) (h : PE X a (tE n C e)) :
    PS X (.AugAssign (.Name x pos') op a pos) (tS n C W (.aug i p e)) :=
  ps_wk (ps_aug hN hi hx h (ip_of (n := n) h0) hf) fun D σ H ⟨ρ, F, R, Z, o, S, ev, k⟩ => by
    simp only [evS] at ev
    cases e1 : evE C e ρ with
    | none => rw [e1] at ev; cases ev
    | some q =>
      obtain ⟨v, ρ1⟩ := q
      rw [e1] at ev
      dsimp only at ev
      cases e2 : get ρ i with
      | d old =>
        rw [e2] at ev
        dsimp only at ev
        cases e3 : iop p (.d old) v with
        | none => rw [e3] at ev; cases ev
        | some z =>
          rw [e3] at ev
          cases ev
          obtain ⟨ov, hs, ro⟩ := S.slot e2 (by simp)
          refine ⟨ov, hs, ρ, F, R, Z, v, ρ1, S, e1, fun w H1 F1 Z1 f1 g1 S1 r1 => ?_⟩
          refine ⟨Z1, .d old, v, z, F1 i, f1, S1.zt, ?_, (resV_own hr).mp r1, e3, fun z' H2 Z2 h w => ?_⟩
          · exact Sv.repV_congr (g1.un i hmi).1 (g1.mine hmi ro)
          · obtain ⟨F', S', _⟩ := Sv.store (f := h) ((S1.less fun a => Nat.le_add_right _ _).new w) w.rp i
            exact k.nx _ _ H2 F' Z2 rfl (g1.kp.trans ⟨fun a u e _ => w.ext.keep a u e, w.ext.zm⟩) S' Sm.set
      | _ => rw [e2] at ev; cases ev
/-! ### slot[k] op= e -/
theorem get_list {pins : List (Addr × Obj)} {s : Shared} {σ : L2.St} {H : Hp} {p : Addr} {xs : List V} {i : Int} {z : V} {iv : Value} {Q : VK} (I : Inv X pins σ H s) (ry : RelV (.int i) iv) (hq : SqL X.K H p xs) (he : L2.atI xs i = some z) (q : Q z H) :
    wpAny (model X.prog X.w) X.A (getItem (.ref p) iv) (EP X pins σ Q) X.xe s := by
  obtain ⟨t, rfl⟩ := ry
  obtain ⟨its, r, pl, hz⟩ := I.list hq
  obtain ⟨j, h1, h2, h3, h4, h5⟩ := atI_get he
  obtain ⟨w, ew, rw'⟩ := r.get h2
  have hl := r.length
  have hn := line63
  have fin : EP X pins σ Q w s := ⟨z, H, I, rw', q⟩
  by_cases h0 : 0 ≤ i
  · have hj : i.toNat = j := by
      rw [seqIndex_of h0 h5] at h1
      exact Option.some.inj h1
    exact wpAny_getItem_list pl.isList h0 (by omega) (by rw [hj]; simpa using ew) fin
  · have hj : (i + (its.toArray.size : Int)).toNat = j := by
      rw [seqIndex_neg (by omega) h4] at h1
      rw [List.size_toArray, ← hl]
      exact Option.some.inj h1
    exact wpAny_getItem_list_neg pl.isList (by omega) (by rw [List.size_toArray] <;> omega) (by omega) (by rw [hj]; simpa using ew) fin
def rGet (n : Nms) : V → V → Hp → VK → Prop := fun o i H Q => ∃ Z a b r f g, (∀ a, Z a → H a ≠ none) ∧ repV n H Z a o f ∧ repV n H Z b i g ∧ pIx a b = some r ∧ isMu a = true ∧ ∀ z d, r = .d d → rep n H Z d z → Q z H
theorem get_any (hu : X.A.units + 1 < cLine) : PGet X (rGet n) := by
  intro pins s σ H o i ov iv Q I r1 r2 ⟨Z, a, b, r, f, g, hz, ra, rb, e, hm, k⟩
  unfold pIx at e
  split at e
  · rename_i kd
    cases a with
    | ol xs =>
      cases kd with
      | int i' =>
        replace e : (match Rt.atI xs i' with | some x => some (PV.d x) | none => none) = some r := e
        cases e1 : Rt.atI xs i' with
        | none => rw [e1] at e; cases e
        | some xd =>
          rw [e1] at e
          cases e
          obtain ⟨p, vs, rfl, hp, rp, _⟩ := ra
          obtain rfl : i = .int i' := rb.1
          have l1 := repL_len _ _ rp
          have hx : ∃ w', L2.atI vs i' = some w' ∧ rep n H Z xd w' := by
            have h2' : (Rt.ixN xs.length i').bind (fun j => xs[j]?) = some xd := e1
            rw [l1] at h2'
            cases q : Rt.ixN vs.length i' with
            | none => rw [q] at h2'; cases h2'
            | some j =>
              rw [q] at h2'
              obtain ⟨w', q1, q2⟩ := repL_get rp (show xs[j]? = some xd from h2')
              refine ⟨w', ?_, q2⟩
              show (L2.ixN vs.length i').bind _ = _
              rw [show L2.ixN vs.length i' = some j from q]
              exact q1
          obtain ⟨w', q1, q2⟩ := hx
          cases r1
          exact get_list I r2 (.inl (.inl hp)) q1 (k w' xd rfl q2)
      | _ => cases e
    | od t kvs =>
      replace e : (if keyB t kd then (match kget kvs kd with | some x => some (PV.d x) | none => none) else none) = some r := e
      by_cases hk : keyB t kd = true
      · rw [if_pos hk] at e
        cases e1 : kget kvs kd with
        | none => rw [e1] at e; cases e
        | some xd =>
          rw [e1] at e
          cases e
          obtain ⟨p, o, rfl, g, ho⟩ := dget_of (p := .od t kvs) rfl hk ra rb.1
          rcases ho with ⟨q1, q2⟩ | ⟨x', w', q1, q2, q3⟩
          · rw [e1] at q1; cases q1
          · rw [e1] at q1
            cases q1
            subst q2
            cases r1
            exact d_getItem hu I g r2 fun w2 s' I' r' => ⟨w', H, I', r', k w' xd rfl q3⟩
      · rw [if_neg hk] at e; cases e
    | _ => cases hm
  · cases e
theorem aixS (hu : X.A.units + 1 < cLine) {p : Prim} {op : Operator} {ek ee : E} {i : Nat} {o k a : Expr} {tpos : Pos} (h0 : (p = .add ∧ op = .Add) ∨ (p = .sub ∧ op = .Sub)) (hr : rdOf ee = none) (hrk : rdOf ek = none)
    (hi : (mtE ek ++ mtE ee).contains i = false) (hkd : mtE ee = []) (ho : PE X o (tVar i)) (hk : PE X k (tE n C ek)) (h : PE X a (tE n C ee))
    (hst : ∀ ov iv new, augStore k ov iv new = (do holding [new, ov, iv] (setItem ov iv new); release [new, ov, iv] []; pure .next)) : PS X (.AugAssign (.Subscript o k tpos) op a pos) (tS n C W (.aix i p ek ee)) :=
  ps_wk (ps_augS ho hk (get_any (n := n) hu) h (ip_of (n := n) h0) (set_any hu) hst) fun D σ H ⟨ρ, F, R, Z, out, S, ev, kk⟩ => by
    simp only [evS] at ev
    by_cases hun : isUn (get ρ i) = true
    · rw [if_pos hun] at ev; cases ev
    rw [if_neg hun] at ev
    cases e1 : evE C ek ρ with
    | none => rw [e1] at ev; cases ev
    | some q =>
      obtain ⟨px, ρ1⟩ := q
      rw [e1] at ev
      dsimp only at ev
      by_cases hmu : isMu (get ρ1 i) = true
      case neg => rw [if_neg hmu] at ev; cases ev
      rw [if_pos hmu] at ev
      cases e2 : pIx (get ρ1 i) px with
      | none => rw [e2] at ev; cases ev
      | some old =>
        rw [e2] at ev
        dsimp only at ev
        cases e3 : evE C ee ρ1 with
        | none => rw [e3] at ev; cases ev
        | some q =>
          obtain ⟨pv, ρ2⟩ := q
          rw [e3] at ev
          dsimp only at ev
          cases e4 : iop p old pv with
          | none => rw [e4] at ev; cases ev
          | some z =>
            rw [e4] at ev
            dsimp only at ev
            cases e5 : setIx (get ρ2 i) px z with
            | none => rw [e5] at ev; cases ev
            | some ob =>
              rw [e5] at ev
              cases ev
              have hm1 : mset (mtE ek) i = false := by
                simp only [List.contains_eq_mem, List.mem_append, decide_eq_false_iff_not, not_or] at hi
                simpa [mset] using hi.1
              have hm2 : mset (mtE ee) i = false := by rw [hkd]; rfl
              obtain ⟨vo, hs, ro⟩ := S.slot (i := i) rfl (isUn_ne hun)
              refine ⟨vo, hs, ρ, F, R, Z, px, ρ1, S, e1, fun w H1 F1 Z1 f1 g1 S1 r1 => ?_⟩
              have ro1 : repV n H1 Z1 (get ρ1 i) vo (F1 i) := by
                rw [(g1.un i hm1).2]
                exact Sv.repV_congr (g1.un i hm1).1 (g1.mine hm1 ro)
              refine ⟨Z1, get ρ1 i, px, old, F1 i, f1, S1.zt, ro1, (resV_own hrk).mp r1, e2, hmu, fun xo d ed rd => ?_⟩
              subst ed
              refine ⟨ρ1, F1, fun a => R a + f1 a, Z1, pv, ρ2, S1, e3, fun y H2 F2 Z2 f2 g2 S2 r2 => ?_⟩
              have ro2 : repV n H2 Z2 (get ρ2 i) vo (F2 i) := by
                rw [(g2.un i hm2).2]
                exact Sv.repV_congr (g2.un i hm2).1 (g2.mine hm2 ro1)
              have hne : get ρ2 i ≠ .un := by rw [(g2.un i hm2).2, (g1.un i hm1).2]; exact isUn_ne hun
              refine ⟨Z2, .d d, pv, z, fun _ => 0, f2, S2.zt, ⟨g2.pure_ rd, fun _ => rfl⟩, (resV_own hr).mp r2, e4, fun zv H3 Z3 h3 w3 => ?_⟩
              have S3 : Sv n H3 Z3 ρ2 σ F2 fun a => R a + h3 a := (S2.less fun a => by show R a ≤ (R a + f1 a) + f2 a; omega).new w3
              have mono3 : ∀ {q : PV} {u : V} {f : Fp}, repV n H2 Z2 q u f → repV n H3 Z3 q u f := fun r => repV_mono _ _ _ (fun a o e _ => w3.ext.keep a o e) w3.ext.zm r
              have rk2 : repV n H2 Z2 px w f1 := g2.other (fun a => Nat.le_add_left _ _) ((resV_own hrk).mp r1)
              refine setIx_ok e5 (mono3 ro2) (mono3 rk2) w3.rp (fun b zz => (S3.zz b zz).2.2 i) (fun b => ?_) fun l obj f' hv hl ro' hno hf => ?_
              · have : F2 i b + (R b + h3 b) ≤ 1 := S3.one i b
                omega
              · have S4 := S3.write (g := fun _ => 0) (o := obj) hl (get_lt hne) hs ro' hno (fun a => by have := hf a; omega)
                refine kk.nx _ σ _ _ Z3 rfl (((g1.kp.trans (g2.kp.less fun a => Nat.le_add_right _ _)).trans ⟨fun a u e _ => w3.ext.keep a u e, w3.ext.zm⟩).trans (kp_write S3 hl fun a => Nat.le_add_right _ _)) (S4.congr fun _ => rfl) .refl
end
end Rt

set_option Elab.async false
set_option linter.all false
set_option maxRecDepth 100000
/-! Rt13: enumerate of a tuple. -/
namespace PySem
open Sem (wp)
/-- enumerate(v): its iterator is begun, its record is laid -/
theorem rt_enum_new {v : Value} {o : Obj} {H : Heap → Prop} (B : Begins v o H) :
    Meets (Builtin.«enumerate.__new__» ⟨[.type "enumerate", v], []⟩) (fun _ R s => H s.heap ∧
      R (.ok (.ret (.ref (s.heap.push o).objs.size))) { s with heap := (s.heap.push o).push { cls := .type "enumerate", data := .fields #[.none, .bool false, .ref s.heap.objs.size, rawInt 0, .none, .none] } }) :=
  .of_wp fun prog w A R s h => by
    obtain ⟨hp, g, d, tk, os⟩ := s; obtain ⟨h1, h⟩ := h
    have hsub := sub_enumerate
    have q1 : ∀ {A' : Around} {E : Value → Shared → Prop} {Q : Value → Shared → Prop}, Q (.ref hp.objs.size) ⟨hp.push o, g, d, tk, os⟩ → wpAny (model prog w) A' (pyIter v) Q E ⟨hp, g, d, tk, os⟩ :=
      fun q => B.iter prog w _ _ ⟨hp, g, d, tk, os⟩ _ h1 q
    wp_walk using q1
    refine wpAny_stack_any fun st => wpAny_pure ?_
    split
    · rename_i c _ _ _ _ _
      cases (c == Value.type "enumerate")
      · wp_walk using q1
        exact ⟨_, rfl, h⟩
      · wp_walk using q1
        exact ⟨_, rfl, h⟩
    · wp_walk using q1
      exact ⟨_, rfl, h⟩
theorem rt_enum_call {prog : Program} {w : World} {A : Around} {E : Value → Shared → Prop} {s : Shared} {v : Value} {o : Obj} {H : Heap → Prop} {Q : Value → Shared → Prop} (B : Begins v o H) (h1 : H s.heap)
    (h : ∀ h', IsEnum h' (s.heap.objs.size + 1) s.heap.objs.size 0 .none → h'.get? s.heap.objs.size = some o →
      (∀ b o, s.heap.get? b = some o → h'.get? b = some o) → Q (.ref (s.heap.objs.size + 1)) { s with heap := h' }) :
    wpAny (model prog w) A (call (.type "enumerate") [v]) Q E s := by
  refine callType_new F.called_enumerate (by decide) (F.typeCall_enumerate_1 _) (F.newCall_enumerate_1 _) (fun obj => F.args_object_init_2 obj _) F.entry_enumerate_new (rt_enum_new B) ⟨h1, ?_⟩
  have hz : (s.heap.push o).objs.size = s.heap.objs.size + 1 := Heap.size_push ..
  show _ ∧ _
  rw [hz]
  have he : IsEnum ((s.heap.push o).push { cls := .type "enumerate", data := .fields #[.none, .bool false, .ref s.heap.objs.size, rawInt 0, .none, .none] }) (s.heap.objs.size + 1) s.heap.objs.size 0 .none := by
    have := Heap.get?_push_size (s.heap.push o) (o := { cls := .type "enumerate", data := .fields #[.none, .bool false, .ref s.heap.objs.size, rawInt 0, .none, .none] }) rfl
    rw [hz] at this; exact this
  exact ⟨⟨_, he, rfl⟩, h _ he (Heap.get?_push_of_some _ (Heap.get?_push_size _ B.free)) fun b o x => Heap.get?_push_of_some _ (Heap.get?_push_of_some _ x)⟩
end PySem
namespace Rt
open PySem PySem.Spec PyProof.Rows L2
/-- the tuple at a, each item in a new pair -/
def ItEt (K : PySem.W.Frag) (a : Addr) : L2.It :=
  ⟨fun i H => ∃ (xs : List V) (x : V), SqT K H a xs ∧ xs[i]? = some x, fun i H v H' => ∃ T x, v = .ref T ∧ H T = none ∧ H' = upd H T (.tup [.int (i : Nat), x]) ∧ ∀ xs, SqT K H a xs → xs[i]? = some x, fun i H => ∃ xs : List V, SqT K H a xs ∧ xs.length = i⟩
theorem turn_enumT {P : Program} {w : World} {K : PySem.W.Frag} {elts : List Expr} {kk : Nat} {tpos : Pos} (a e it : Addr) :
    Turn P w K (.Tuple elts kk tpos) (ItEt K a) [e, it] e (fun i h => (∃ old, IsEnum h e it ((i : Nat) : Int) old) ∧ h.IsTupleIter it a i ∧ e ≠ it) where
  mem := by simp
  obj := fun i h st b hb => by
    obtain ⟨⟨old, he⟩, ⟨o, ho, hc, hd⟩, _⟩ := st
    have e' : b = e ∨ b = it := by simpa using hb
    rcases e' with z | z
    · rw [z]; exact ⟨_, he, fun v q => nomatch q⟩
    · rw [z]; exact ⟨o, ho, fun v q => by rw [hd] at q; cases q⟩
  keep := fun i h h' st k => let ⟨⟨old, he⟩, hi, hne⟩ := st; ⟨⟨old, k e (by simp) _ he⟩, hi.at fun o q => k it (by simp) o q, hne⟩
  item := by
    intro X hP hw hK hc i pins s σ H E I hf st hg
    subst hP hw hK
    obtain ⟨⟨old, he⟩, hit, hne⟩ := st
    obtain ⟨xs, x, hq, hx⟩ := hg
    obtain ⟨its, rv, p, hz⟩ := I.tuple hq
    obtain ⟨u, hu, ru⟩ := rv.get hx
    have hel : e < s.heap.objs.size := Heap.lt_size he
    have hil : it < s.heap.objs.size := by obtain ⟨_, q, _⟩ := hit; exact Heap.lt_size q
    have hp : s.heap.IsTuple a its.toArray := p
    have hai : a ≠ it := fun z => by
      obtain ⟨o1, h1, c1, d1⟩ := hit
      obtain ⟨o2, h2, c2, _⟩ := hp
      rw [z, h1] at h2
      cases h2
      rw [c1] at c2
      exact absurd c2 (by decide)
    have hae : a ≠ e := fun z => by
      obtain ⟨o2, h2, c2, _⟩ := hp
      rw [z, he] at h2
      cases h2
      have c3 : Value.type "enumerate" = Value.type "tuple" := c2
      exact absurd c3 (by decide)
    have D := Draws.tuple (prog := X.prog) (w := X.w) (A := X.A.in1) (I.ok.hd hc) it a hai its.toArray
    have hlt : i < its.toArray.size := by
      have := (List.getElem?_eq_some_iff.mp hu).1
      rw [List.size_toArray]; exact this
    refine wpAny_pyNext_enum_itemC D he ⟨hit, hp⟩ hlt hne (by simp only [List.mem_cons, List.not_mem_nil, or_false]; exact fun z => z.elim hne fun z => hae z.symm) fun u' h' tk hP' ho hst' hT hsz hk => ?_
    obtain ⟨hit', _⟩ := hst'
    have hu' : u' = u := by
      have e1 : its.toArray[i]? = some u := by simpa using hu
      rw [e1] at hP'
      exact (Option.some.inj hP').symm
    subst hu'
    refine ⟨_, rfl, wpAny_letOwnedTupleGo_enum (s := { s with heap := h', toks := tk + 1 }) ho fun h'' he' sb => ?_⟩
    have hT2 : h''.get? s.heap.objs.size = some { cls := .type "tuple", data := .seq #[.int i tk, u'] } := (sb.2 _ (Nat.ne_of_gt hel)).trans hT
    have new : ObjOk X.prog X.w (upd H s.heap.objs.size (.tup [.int (i : Nat), x])) h'' s.heap.objs.size (.tup [.int (i : Nat), x]) :=
      ⟨by show 2 ≤ sizeLine; decide, [.int i tk, u'], .cons ⟨_, rfl⟩ (.cons ru .nil), ⟨_, hT2, rfl, _, rfl⟩⟩
    have I1 : Inv X pins σ (upd H s.heap.objs.size (.tup [.int (i : Nat), x])) { s with heap := h'', toks := tk + 1 } :=
      I.turnedNew (ch := [e, it]) (fun b ob hb q => (sb.2 b (fun z => hb (by simp [z]))).trans (hk b ob (fun z => hb (by simp [z])) (fun z => hb (by simp [z])) q)) hf (Nat.le_refl _) new
    refine ⟨.ref s.heap.objs.size, _, I1, rfl, ⟨_, x, rfl, I.hok.fresh (Nat.le_refl _), rfl, fun ys hy => by rw [I.tuple_inj hy hq]; exact hx⟩, ⟨⟨u', ?_⟩, hit'.at fun o q => (sb.2 it (Ne.symm hne)).trans q, hne⟩, fun b hb => ?_⟩
    · have e1 : ((i + 1 : Nat) : Int) = (i : Int) + 1 := by omega
      rw [e1]; exact he'
    · have hb' : b < s.heap.objs.size := by
        have e' : b = e ∨ b = it := by simpa using hb
        rcases e' with z | z
        · rw [z]; exact hel
        · rw [z]; exact hil
      rw [upd_ne (Nat.ne_of_lt hb')]
      exact (hf b hb).1
  done := by
    intro X hP hw hK hc i pins s σ H E I hf st hg
    subst hP hw hK
    obtain ⟨⟨old, he⟩, hit, hne⟩ := st
    obtain ⟨xs, hq, hx⟩ := hg
    obtain ⟨its, rv, p, hz⟩ := I.tuple hq
    obtain ⟨f0, f1, f2, f3, f4, f5⟩ := hf it (by simp)
    have hl := rv.length
    have hp : s.heap.IsTuple a its.toArray := p
    have hai : a ≠ it := fun z => by
      obtain ⟨o1, h1, c1, d1⟩ := hit
      obtain ⟨o2, h2, c2, _⟩ := hp
      rw [z, h1] at h2
      cases h2
      rw [c1] at c2
      exact absurd c2 (by decide)
    have D := Draws.tuple (prog := X.prog) (w := X.w) (A := X.A.in1) (I.ok.hd hc) it a hai its.toArray
    have en : i = its.toArray.size := by rw [List.size_toArray]; omega
    rw [en] at hit
    exact wpAny_pyNext_enum_endD D he ⟨hit, hp⟩ fun h' eb => ⟨rfl, I.turned (t' := s.toks) (fun b o hb q => eb b o hb q) f0 f1 f3 f4 f5⟩
  self := fun A i s Q E st h => let ⟨⟨_, he⟩, _⟩ := st; wpAny_pyIter_enum he h
def iEnumT (K : PySem.W.Frag) (ta : TA) : TI := fun σ H R => ta σ H fun vs H1 => ∃ a xs, vs = [.ref a] ∧ SqT K H1 a xs ∧ R (ItEt K a) H1
theorem pi_enumT {X : Cx} {e : Expr} {ta : TA} {p pos tpos : Pos} {elts : List Expr} {kk : Nat} (hg : Gl X "enumerate") (hm : X.mg "enumerate" = none) (ha : PA X [e] ta) (hs : starEach [e] X.env = [(false, eval e X.env)]) :
    PI X (.Tuple elts kk tpos) (.Call (.Name "enumerate" p) [e] [] pos) (iEnumT X.K ta) := by
  refine ⟨fun pins s σ H R I h => ?_⟩
  refine Call_ (ld_blt I hg hm boot_enumerate (PyProof.Rows.callWith_type1 (thn (ha.run pos pins s σ H _ I h) fun us s1 ⟨vs, H1, I1, r1, q1⟩ => ?_) hs rfl))
  obtain ⟨a, xs, ex, hq, q⟩ := q1
  subst ex
  cases r1 with
  | cons r rr =>
    cases rr
    cases r
    obtain ⟨its, rv, p', hz⟩ := I1.tuple hq
    refine rt_enum_call (begins_tuple a its.toArray) (show s1.heap.IsTuple a its.toArray from p') fun h' he hit hk => wpAny_pyIter_enum he ?_
    have I2 : Inv X pins σ H1 { s1 with heap := h' } := I1.kept (t' := s1.toks) hk
    refine ⟨s1.heap.objs.size + 1, [s1.heap.objs.size + 1, s1.heap.objs.size], _, _, H1, rfl, I2, turn_enumT a (s1.heap.objs.size + 1) s1.heap.objs.size, ⟨⟨.none, he⟩, ⟨_, hit, rfl, rfl⟩, Nat.succ_ne_self _⟩, fun b hb => ?_, q⟩
    have e' : b = s1.heap.objs.size + 1 ∨ b = s1.heap.objs.size := by simpa using hb
    have hle : s1.heap.objs.size ≤ b := by
      rcases e' with z | z
      · rw [z]; exact Nat.le_add_right _ _
      · rw [z]; exact Nat.le_refl _
    exact I1.fpOk hle (I1.hok.fresh hle)
end Rt

set_option Elab.async false
set_option linter.all false
set_option maxRecDepth 100000
/-! Rt14: what is walked; for. -/
namespace Rt
open PySem PySem.Spec PyProof.Rows L2
section
variable {n : Nms} {C : Orc} {X : Cx} {pos : Pos} {W : Nat} [ScK n X.K]
/-- the walk J goes over xs while Pw stands -/
structure Wk (n : Nms) (J : L2.It) (R' : Fp) (Pw : Hp → Zs → Prop) (xs : List PV) : Prop where
  go : ∀ i H Z, Pw H Z → i < xs.length → J.go i H
  stop : ∀ H Z, Pw H Z → J.stop xs.length H
  yld : ∀ i H Z x H' p, (∀ a, Z a → H a ≠ none) → Pw H Z → xs[i]? = some p → J.yld i H x H' → ∃ Z', Ext H Z H' Z' ∧ repV n H' Z' p x (fun _ => 0)
  keep : ∀ H Z H' Z', Pw H Z → Kp R' H Z H' Z' → Pw H' Z'
def tI (n : Nms) (C : Orc) (it : Rt.It) : TI := fun σ H Q => ∃ ρ F R Z xs ρ', Sv n H Z ρ σ F R ∧ evIt C it ρ = some (xs, ρ') ∧
  ∀ J H' F' Z' (f : Fp) Pw, Go (mset (mtI it)) R H Z F ρ H' Z' F' ρ' → Sv n H' Z' ρ' σ F' (fun a => R a + f a) → Wk n J (fun a => R a + f a) Pw xs → Pw H' Z' → Q J H'
theorem pi_wk {tg iter : Expr} {t t' : TI} (h : PI X tg iter t) (w : ∀ σ H Q, t' σ H Q → t σ H Q) : PI X tg iter t' := ⟨fun pins s σ H R I x => h.run pins s σ H R I (w _ _ _ x)⟩
theorem pi_or {tg iter : Expr} {t u : TI} (h1 : PI X tg iter t) (h2 : PI X tg iter u) : PI X tg iter fun σ H R => t σ H R ∨ u σ H R := ⟨fun pins s σ H R I x => x.elim (h1.run pins s σ H R I) (h2.run pins s σ H R I)⟩
theorem repV_kp {H H' : Hp} {Z Z' : Zs} {R f : Fp} {p : PV} {v : V} (k : Kp (fun a => R a + f a) H Z H' Z') (r : repV n H Z p v f) : repV n H' Z' p v f :=
  repV_mono p v f (fun a o e l => k.keep a o e (l.elim .inr fun l => .inl (Nat.le_trans l (Nat.le_add_left _ _)))) k.zm r
theorem map_get {xs : List D} {i : Nat} {p : PV} (h : (xs.map PV.d)[i]? = some p) : ∃ x, xs[i]? = some x ∧ p = .d x := by
  rw [List.getElem?_map] at h
  cases e : xs[i]? with
  | none => rw [e] at h; cases h
  | some x => rw [e] at h; cases h; exact ⟨x, rfl, rfl⟩
theorem get_of_lt {α : Type} {vs : List α} {i : Nat} (h : i < vs.length) : ∃ x, vs[i]? = some x := ⟨vs[i], by simp [h]⟩
/-- lists, tuples that are walked -/
theorem wk_list {p : PV} {xs : List D} {a : Addr} {R f : Fp} (e : asS p = some xs) : Wk n (Itl X.K a) (fun b => R b + f b) (fun H Z => repV n H Z p (.ref a) f) (xs.map .d) := by
  have key : ∀ {H Z}, repV n H Z p (.ref a) f → ∃ vs, SqL X.K H a vs ∧ repL n H Z xs vs := fun r => by
    obtain ⟨b, vs, eb, h, rl⟩ := asS_of (K := X.K) e r
    cases eb
    exact ⟨vs, h, rl⟩
  refine ⟨fun i H Z r hi => ?_, fun H Z r => ?_, fun i H Z x H' p' hz r hp hy => ?_, fun H Z H' Z' r k => repV_kp k r⟩
  · obtain ⟨vs, h, rl⟩ := key r
    rw [List.length_map, repL_len _ _ rl] at hi
    obtain ⟨x, hx⟩ := get_of_lt hi
    exact ⟨vs, x, h, hx⟩
  · obtain ⟨vs, h, rl⟩ := key r
    exact ⟨vs, h, by rw [List.length_map, repL_len _ _ rl]; exact Nat.le_refl _⟩
  · obtain ⟨vs, h, rl⟩ := key r
    obtain ⟨d, hd, rfl⟩ := map_get hp
    obtain ⟨rfl, hx⟩ := hy
    obtain ⟨w, hw, rw'⟩ := repL_get rl hd
    have := hx vs h
    rw [hw] at this
    cases this
    exact ⟨Z, Ext.refl hz, rw', fun _ => rfl⟩
theorem asT_of {H : Hp} {Z : Zs} {p : PV} {xs : List D} {v : V} {f : Fp} (e : asT p = some xs) (r : repV n H Z p v f) : ∃ a vs, v = .ref a ∧ TupZ H Z a vs ∧ repL n H Z xs vs := by
  cases p with
  | d x =>
    cases x with
    | tup ys =>
      cases e
      obtain ⟨⟨a, vs, e, h, r⟩, _⟩ := r
      exact ⟨a, vs, e, h, r⟩
    | _ => cases e
  | _ => cases e
theorem wk_tup {p : PV} {xs : List D} {a : Addr} {R f : Fp} (e : asT p = some xs) : Wk n (Itt X.K a) (fun b => R b + f b) (fun H Z => repV n H Z p (.ref a) f) (xs.map .d) := by
  have key : ∀ {H Z}, repV n H Z p (.ref a) f → ∃ vs, SqT X.K H a vs ∧ repL n H Z xs vs := fun r => by
    obtain ⟨b, vs, eb, h, rl⟩ := asT_of e r
    cases eb
    exact ⟨vs, h.sq, rl⟩
  refine ⟨fun i H Z r hi => ?_, fun H Z r => ?_, fun i H Z x H' p' hz r hp hy => ?_, fun H Z H' Z' r k => repV_kp k r⟩
  · obtain ⟨vs, h, rl⟩ := key r
    rw [List.length_map, repL_len _ _ rl] at hi
    obtain ⟨x, hx⟩ := get_of_lt hi
    exact ⟨vs, x, h, hx⟩
  · obtain ⟨vs, h, rl⟩ := key r
    exact ⟨vs, h, by rw [List.length_map, repL_len _ _ rl]; exact Nat.le_refl _⟩
  · obtain ⟨vs, h, rl⟩ := key r
    obtain ⟨d, hd, rfl⟩ := map_get hp
    obtain ⟨rfl, hx⟩ := hy
    obtain ⟨w, hw, rw'⟩ := repL_get rl hd
    have := hx vs h
    rw [hw] at this
    cases this
    exact ⟨Z, Ext.refl hz, rw', fun _ => rfl⟩
theorem wk_str {s : List Nat} {R : Fp} : Wk n (Its (mkS s)) R (fun _ _ => True) (s.map fun c => .d (.str [c])) := by
  have hs : (mkS s).cps.size = s.length := by simp [mkS]
  refine ⟨fun i H Z _ hi => ?_, fun H Z _ => ?_, fun i H Z x H' p' hz r hp hy => ?_, fun _ _ _ _ _ _ => trivial⟩
  · show i < (mkS s).cps.size
    rw [hs]
    simpa using hi
  · show (mkS s).cps.size ≤ _
    rw [hs, List.length_map]
    exact Nat.le_refl _
  · obtain ⟨rfl, c, hc, rfl⟩ := hy
    rw [List.getElem?_map] at hp
    have : s[i]? = some c := by simpa [mkS] using hc
    rw [this] at hp
    cases hp
    exact ⟨Z, Ext.refl hz, rfl, fun _ => rfl⟩
theorem rngL_len : ∀ {c : Int} {n : Nat} {a : Int}, (rngL c a n).length = n
  | _, 0, _ => rfl
  | c, n + 1, a => by
    show (rngL c (a + c) n).length + 1 = n + 1
    rw [rngL_len]
theorem rngL_get : ∀ {c : Int} {n : Nat} {a : Int} {i : Nat}, i < n → (rngL c a n)[i]? = some (.int (a + (i : Int) * c))
  | _, 0, _, _, h => by omega
  | c, n + 1, a, 0, _ => by
    show some (D.int a) = _
    congr 2
    simp
  | c, n + 1, a, i + 1, h => by
    show (rngL c (a + c) n)[i]? = _
    rw [rngL_get (by omega)]
    congr 2
    rw [Int.natCast_add, Int.add_mul]
    omega
theorem wk_rng {lo : Int} {m : Nat} {R : Fp} : Wk n (Itr lo m) R (fun _ _ => True) ((rngL 1 lo m).map .d) := by
  refine ⟨fun i H Z _ hi => ?_, fun H Z _ => ?_, fun i H Z x H' p' hz r hp hy => ?_, fun _ _ _ _ _ _ => trivial⟩
  · rw [List.length_map, rngL_len] at hi
    exact hi
  · show m ≤ _
    rw [List.length_map, rngL_len]
    exact Nat.le_refl _
  · obtain ⟨d, hd, rfl⟩ := map_get hp
    obtain ⟨rfl, rfl⟩ := hy
    have hi : i < m := by
      have := (List.getElem?_eq_some_iff.mp hd).1
      rwa [rngL_len] at this
    rw [rngL_get hi] at hd
    cases hd
    exact ⟨Z, Ext.refl hz, by show V.int _ = V.int _; rw [Int.mul_one], fun _ => rfl⟩
theorem wk_rngC {lo c : Int} {m : Nat} {R : Fp} : Wk n (Itc lo c m) R (fun _ _ => True) ((rngL c lo m).map .d) := by
  refine ⟨fun i H Z _ hi => ?_, fun H Z _ => ?_, fun i H Z x H' p' hz r hp hy => ?_, fun _ _ _ _ _ _ => trivial⟩
  · rw [List.length_map, rngL_len] at hi
    exact hi
  · show m ≤ _
    rw [List.length_map, rngL_len]
    exact Nat.le_refl _
  · obtain ⟨d, hd, rfl⟩ := map_get hp
    obtain ⟨rfl, rfl⟩ := hy
    have hi : i < m := by
      have := (List.getElem?_eq_some_iff.mp hd).1
      rwa [rngL_len] at this
    rw [rngL_get hi] at hd
    cases hd
    exact ⟨Z, Ext.refl hz, rfl, fun _ => rfl⟩
/-- a pair that has just been laid -/
theorem pair_new {H : Hp} {Z : Zs} {T : Addr} {x y : D} {v w : V} (hT : H T = none) (hz : ∀ a, Z a → H a ≠ none) (rx : rep n H Z x v) (ry : rep n H Z y w) :
    Ext H Z (upd H T (.tup [v, w])) (fun a => Z a ∨ a = T) ∧ repV n (upd H T (.tup [v, w])) (fun a => Z a ∨ a = T) (.d (.tup [x, y])) (.ref T) fun _ => 0 := by
  have e := ext_updZ (o := .tup [v, w]) hT hz
  exact ⟨e, ⟨T, [v, w], rfl, ⟨.inr rfl, upd_same⟩, v, [w], rfl, rep_mono (fun a o h _ => e.keep a o h) (fun a z => .inl z) x v rx, w, [], rfl, rep_mono (fun a o h _ => e.keep a o h) (fun a z => .inl z) y w ry, rfl⟩, fun _ => rfl⟩
theorem zipIdx_get {α : Type} {xs : List α} {i : Nat} {p : α × Nat} (h : xs.zipIdx[i]? = some p) : xs[i]? = some p.1 ∧ p.2 = i := by
  rw [List.getElem?_zipIdx] at h
  cases e : xs[i]? with
  | none => rw [e] at h; cases h
  | some x => rw [e] at h; cases h; exact ⟨rfl, by simp⟩
theorem wk_enum {p : PV} {xs : List D} {a : Addr} {R f : Fp} (e : asS p = some xs) : Wk n (Ite X.K a) (fun b => R b + f b) (fun H Z => repV n H Z p (.ref a) f) ((xs.zipIdx).map fun q => .d (.tup [.int q.2, q.1])) := by
  have key : ∀ {H Z}, repV n H Z p (.ref a) f → ∃ vs, SqL X.K H a vs ∧ repL n H Z xs vs := fun r => by
    obtain ⟨b, vs, eb, h, rl⟩ := asS_of (K := X.K) e r
    cases eb
    exact ⟨vs, h, rl⟩
  refine ⟨fun i H Z r hi => ?_, fun H Z r => ?_, fun i H Z x H' p' hz r hp hy => ?_, fun H Z H' Z' r k => repV_kp k r⟩
  · obtain ⟨vs, h, rl⟩ := key r
    rw [List.length_map, List.length_zipIdx, repL_len _ _ rl] at hi
    obtain ⟨x, hx⟩ := get_of_lt hi
    exact ⟨vs, x, h, hx⟩
  · obtain ⟨vs, h, rl⟩ := key r
    exact ⟨vs, h, by rw [List.length_map, List.length_zipIdx, repL_len _ _ rl]; exact Nat.le_refl _⟩
  · obtain ⟨vs, h, rl⟩ := key r
    rw [List.getElem?_map] at hp
    cases e1 : xs.zipIdx[i]? with
    | none => rw [e1] at hp; cases hp
    | some q =>
      rw [e1] at hp
      cases hp
      obtain ⟨q1, q2⟩ := zipIdx_get e1
      obtain ⟨T, y, rfl, hT, rfl, hx⟩ := hy
      obtain ⟨w, hw, rw'⟩ := repL_get rl q1
      have := hx vs h
      rw [hw] at this
      cases this
      have := pair_new (x := .int q.2) (v := .int (i : Nat)) hT hz (by show V.int _ = V.int _; rw [q2]) rw'
      exact ⟨_, this.1, this.2⟩
theorem wk_enumT {p : PV} {xs : List D} {a : Addr} {R f : Fp} (e : asT p = some xs) : Wk n (ItEt X.K a) (fun b => R b + f b) (fun H Z => repV n H Z p (.ref a) f) ((xs.zipIdx).map fun q => .d (.tup [.int q.2, q.1])) := by
  have key : ∀ {H Z}, repV n H Z p (.ref a) f → ∃ vs, SqT X.K H a vs ∧ repL n H Z xs vs := fun r => by
    obtain ⟨b, vs, eb, h, rl⟩ := asT_of e r
    cases eb
    exact ⟨vs, h.sq, rl⟩
  refine ⟨fun i H Z r hi => ?_, fun H Z r => ?_, fun i H Z x H' p' hz r hp hy => ?_, fun H Z H' Z' r k => repV_kp k r⟩
  · obtain ⟨vs, h, rl⟩ := key r
    rw [List.length_map, List.length_zipIdx, repL_len _ _ rl] at hi
    obtain ⟨x, hx⟩ := get_of_lt hi
    exact ⟨vs, x, h, hx⟩
  · obtain ⟨vs, h, rl⟩ := key r
    exact ⟨vs, h, by rw [List.length_map, List.length_zipIdx, repL_len _ _ rl]⟩
  · obtain ⟨vs, h, rl⟩ := key r
    rw [List.getElem?_map] at hp
    cases e1 : xs.zipIdx[i]? with
    | none => rw [e1] at hp; cases hp
    | some q =>
      rw [e1] at hp
      cases hp
      obtain ⟨q1, q2⟩ := zipIdx_get e1
      obtain ⟨T, y, rfl, hT, rfl, hx⟩ := hy
      obtain ⟨w, hw, rw'⟩ := repL_get rl q1
      have := hx vs h
      rw [hw] at this
      cases this
      have := pair_new (x := .int q.2) (v := .int (i : Nat)) hT hz (by show V.int _ = V.int _; rw [q2]) rw'
      exact ⟨_, this.1, this.2⟩
/-! ### the forms -/
theorem asIt_cases {p : PV} {xs : List PV} (e : asIt p = some xs) : (∃ ys, asS p = some ys ∧ xs = ys.map .d) ∨ (∃ ys, asT p = some ys ∧ xs = ys.map .d) ∨ (∃ s, p = .d (.str s) ∧ xs = s.map fun c => .d (.str [c])) := by
  cases p with
  | ol ys => cases e; exact .inl ⟨ys, rfl, rfl⟩
  | d x =>
    cases x with
    | fl ys => cases e; exact .inl ⟨ys, rfl, rfl⟩
    | sc ys => cases e; exact .inl ⟨ys, rfl, rfl⟩
    | tup ys => cases e; exact .inr (.inl ⟨ys, rfl, rfl⟩)
    | str s => cases e; exact .inr (.inr ⟨s, rfl, rfl⟩)
    | _ => cases e
  | _ => cases e
theorem eI {x : E} {a tg : Expr} (hr : rdOf x = none) (h : PE X a (tE n C x)) : PI X tg a (tI n C (.e x)) :=
  pi_wk (pi_or (pi_or (pi_list h) (pi_tup h)) (pi_str h)) fun σ H Q ⟨ρ, F, R, Z, xs, ρ', S, ev, k⟩ => by
    simp only [evIt] at ev
    cases e1 : evE C x ρ with
    | none => rw [e1] at ev; cases ev
    | some q =>
      obtain ⟨p, ρ1⟩ := q
      rw [e1] at ev
      dsimp only at ev
      cases e2 : asIt p with
      | none => rw [e2] at ev; cases ev
      | some ys =>
        rw [e2] at ev
        cases ev
        rcases asIt_cases e2 with ⟨zs, e3, rfl⟩ | ⟨zs, e3, rfl⟩ | ⟨s, rfl, rfl⟩
        · refine .inl (.inl ⟨ρ, F, R, Z, p, _, S, e1, fun v H1 F1 Z1 f1 g1 S1 r1 => ?_⟩)
          have r1' := (resV_own hr).mp r1
          obtain ⟨b, vs, rfl, hb, rl⟩ := asS_of (K := X.K) e3 r1'
          exact ⟨b, rfl, ⟨vs, hb⟩, k _ H1 F1 Z1 f1 _ g1 S1 (wk_list e3) r1'⟩
        · refine .inl (.inr ⟨ρ, F, R, Z, p, _, S, e1, fun v H1 F1 Z1 f1 g1 S1 r1 => ?_⟩)
          have r1' := (resV_own hr).mp r1
          obtain ⟨b, vs, rfl, hb, rl⟩ := asT_of e3 r1'
          exact ⟨b, rfl, ⟨vs, hb.sq⟩, k _ H1 F1 Z1 f1 _ g1 S1 (wk_tup e3) r1'⟩
        · refine .inr ⟨ρ, F, R, Z, _, _, S, e1, fun v H1 F1 Z1 f1 g1 S1 r1 => ?_⟩
          have r1' := (resV_own hr).mp r1
          obtain rfl : v = .str (mkS s) := r1'.1
          exact ⟨mkS s, rfl, k _ H1 F1 Z1 f1 _ g1 S1 wk_str trivial⟩
/-- what a list of arguments comes to, all told -/
theorem rngOf_cases {vs : List PV} {a c : Int} {m : Nat} (e : rngOf vs = some (a, c, m)) :
    (∃ j : Int, vs = [.d (.int j)] ∧ -(2 ^ 62) ≤ j ∧ j < 2 ^ 62 ∧ a = 0 ∧ c = 1 ∧ m = j.toNat) ∨
    (∃ i j : Int, vs = [.d (.int i), .d (.int j)] ∧ (-(2 ^ 62) ≤ i ∧ i < 2 ^ 62 ∧ -(2 ^ 62) ≤ j ∧ j < 2 ^ 62) ∧ a = i ∧ c = 1 ∧ m = (j - i).toNat) ∨
    ∃ i j : Int, vs = [.d (.int i), .d (.int j), .d (.int (-1))] ∧ (-(2 ^ 62) ≤ i ∧ i < 2 ^ 62 ∧ -(2 ^ 62) ≤ j ∧ j < 2 ^ 62) ∧ a = i ∧ c = -1 ∧ m = (i - j).toNat := by
  unfold rngOf at e
  split at e
  · split at e
    · rename_i j h
      simp only [Bool.and_eq_true, decide_eq_true_eq] at h
      cases e
      exact .inl ⟨_, rfl, h.1, h.2, rfl, rfl, rfl⟩
    · cases e
  · split at e
    · rename_i h
      simp only [Bool.and_eq_true, decide_eq_true_eq] at h
      cases e
      exact .inr (.inl ⟨_, _, rfl, ⟨h.1.1.1, h.1.1.2, h.1.2, h.2⟩, rfl, rfl, rfl⟩)
    · cases e
  · split at e
    · rename_i h
      simp only [Bool.and_eq_true, decide_eq_true_eq] at h
      cases e
      exact .inr (.inr ⟨_, _, rfl, ⟨h.1.1.1, h.1.1.2, h.1.2, h.2⟩, rfl, rfl, rfl⟩)
    · cases e
  · cases e
theorem tI_rng {es : List E} {σ : L2.St} {H : Hp} {Q : L2.It → Hp → Prop} (ok : rdOk es = true) (h : tI n C (.rng es) σ H Q) : ∃ vs a c m, rngOf vs = some (a, c, m) ∧ tLp n C es vs σ H fun ws H' => (∃ Z, RdL n H' Z vs ws) ∧ ∀ J, (∀ R, Wk n J R (fun _ _ => True) ((rngL c a m).map .d)) → Q J H' := by
  obtain ⟨ρ, F, R, Z, xs, ρ', S, ev, k⟩ := h
  simp only [evIt] at ev
  cases e1 : evL C es ρ with
  | none => rw [e1] at ev; cases ev
  | some q =>
    obtain ⟨vs, ρ1⟩ := q
    rw [e1] at ev
    dsimp only at ev
    cases e2 : rngOf vs with
    | none => rw [e2] at ev; cases ev
    | some q =>
      obtain ⟨a, c, m⟩ := q
      rw [e2] at ev
      simp only [Option.some.injEq, Prod.mk.injEq] at ev
      obtain ⟨rfl, rfl⟩ := ev
      refine ⟨vs, a, c, m, e2, ρ, F, R, Z, ρ1, S, e1, ok, fun ws H1 F1 Z1 f1 g1 S1 r1 => ⟨⟨Z1, resL_rd r1⟩, fun J w => k J H1 F1 Z1 f1 _ g1 S1 (w _) trivial⟩⟩
theorem rd_ints1 {H : Hp} {Z : Zs} {i : Int} {ws : List V} (r : RdL n H Z [.d (.int i)] ws) : ws = [.int i] := by
  obtain ⟨v, r, f, e, h, t⟩ := r
  rw [e, show v = .int i from h.1, show r = [] from t]
theorem rd_ints2 {H : Hp} {Z : Zs} {i j : Int} {ws : List V} (r : RdL n H Z [.d (.int i), .d (.int j)] ws) : ws = [.int i, .int j] := by
  obtain ⟨v, r, f, e, h, t⟩ := r
  rw [e, show v = .int i from h.1, rd_ints1 t]
theorem rd_ints3 {H : Hp} {Z : Zs} {i j l : Int} {ws : List V} (r : RdL n H Z [.d (.int i), .d (.int j), .d (.int l)] ws) : ws = [.int i, .int j, .int l] := by
  obtain ⟨v, r, f, e, h, t⟩ := r
  rw [e, show v = .int i from h.1, rd_ints2 t]
section
variable {tg : Expr} {p : Pos}
theorem tLp_len {es : List E} {ps : List PV} {σ : L2.St} {H : Hp} {Q : List V → Hp → Prop} (h : tLp n C es ps σ H Q) : ps.length = es.length := by
  obtain ⟨ρ, F, R, Z, ρ', S, ev, _⟩ := h
  exact evL_len ev
theorem rng1I {e1 : E} {a : Expr} (hg : Gl X "range") (hm : X.mg "range" = none) (ok : rdOk [e1] = true) (na : noStar a = true) (h : PE X a (tE n C e1)) : PI X tg (.Call (.Name "range" p) [a] [] pos) (tI n C (.rng [e1])) :=
  pi_wk (pi_range1 hg hm (paL (.cons ⟨na, h⟩ .nil)) (star_of na)) fun σ H Q h => by
    obtain ⟨vs, b, c, m, e, h⟩ := tI_rng ok h
    have hl := tLp_len h
    rcases rngOf_cases e with ⟨j, rfl, h1, h2, rfl, rfl, rfl⟩ | ⟨_, _, rfl, _⟩ | ⟨_, _, rfl, _⟩
    · exact tLp_tL h fun ws H1 ⟨⟨Z, r⟩, q⟩ => ⟨j, rd_ints1 r, h1, h2, q _ fun _ => wk_rng⟩
    · cases hl
    · cases hl
theorem rng2I {e1 e2 : E} {a b : Expr} (hg : Gl X "range") (hm : X.mg "range" = none) (ok : rdOk [e1, e2] = true) (na : noStar a = true) (nb : noStar b = true) (h : PE X a (tE n C e1)) (h' : PE X b (tE n C e2)) : PI X tg (.Call (.Name "range" p) [a, b] [] pos) (tI n C (.rng [e1, e2])) :=
  pi_wk (pi_range2 hg hm (paL (.cons ⟨na, h⟩ (.cons ⟨nb, h'⟩ .nil))) (by rw [star_of na, star_of nb]; rfl) (star_of nb)) fun σ H Q h => by
    obtain ⟨vs, b, c, m, e, h⟩ := tI_rng ok h
    have hl := tLp_len h
    rcases rngOf_cases e with ⟨j, rfl, h1, h2, rfl, rfl, rfl⟩ | ⟨i, j, rfl, hb, rfl, rfl, rfl⟩ | ⟨_, _, rfl, _⟩
    · cases hl
    · exact tLp_tL h fun ws H1 ⟨⟨Z, r⟩, q⟩ => ⟨_, j, rd_ints2 r, hb, q _ fun _ => wk_rng⟩
    · cases hl
theorem rng3I {e1 e2 e3 : E} {a b d : Expr} (hg : Gl X "range") (hm : X.mg "range" = none) (ok : rdOk [e1, e2, e3] = true) (na : noStar a = true) (nb : noStar b = true) (nd : noStar d = true) (h : PE X a (tE n C e1)) (h' : PE X b (tE n C e2)) (h'' : PE X d (tE n C e3)) : PI X tg (.Call (.Name "range" p) [a, b, d] [] pos) (tI n C (.rng [e1, e2, e3])) :=
  pi_wk (pi_range3 hg hm (paL (.cons ⟨na, h⟩ (.cons ⟨nb, h'⟩ (.cons ⟨nd, h''⟩ .nil)))) (star_of na) (by rw [star_of nb, star_of nd]; rfl)) fun σ H Q h => by
    obtain ⟨vs, b, c, m, e, h⟩ := tI_rng ok h
    have hl := tLp_len h
    rcases rngOf_cases e with ⟨j, rfl, h1, h2, rfl, rfl, rfl⟩ | ⟨i, j, rfl, hb, rfl, rfl, rfl⟩ | ⟨i, j, rfl, hb, rfl, rfl, rfl⟩
    · cases hl
    · cases hl
    · exact tLp_tL h fun ws H1 ⟨⟨Z, r⟩, q⟩ => ⟨_, j, -1, _, rd_ints3 r, RgC.neg hb.1 hb.2.1 hb.2.2.1 hb.2.2.2, q _ fun _ => wk_rngC⟩
theorem asQ_cases {p : PV} {xs : List D} (e : asQ p = some xs) : asS p = some xs ∨ asT p = some xs := by
  cases p with
  | ol ys => exact .inl e
  | d x => cases x <;> first | exact .inl e | exact .inr e | cases e
  | _ => cases e
theorem enuI {x : E} {a : Expr} {elts : List Expr} {kk : Nat} {tpos : Pos} (hg : Gl X "enumerate") (hm : X.mg "enumerate" = none) (hr : rdOf x = none) (na : noStar a = true) (h : PE X a (tE n C x)) : PI X (.Tuple elts kk tpos) (.Call (.Name "enumerate" p) [a] [] pos) (tI n C (.enu x)) :=
  pi_wk (pi_or (pi_enum hg hm (pa_cons h pa_nil (star_of na)) (star_of na)) (pi_enumT hg hm (pa_cons h pa_nil (star_of na)) (star_of na))) fun σ H Q ⟨ρ, F, R, Z, xs, ρ', S, ev, k⟩ => by
    simp only [evIt] at ev
    cases e1 : evE C x ρ with
    | none => rw [e1] at ev; cases ev
    | some q =>
      obtain ⟨p, ρ1⟩ := q
      rw [e1] at ev
      dsimp only at ev
      cases e2 : asQ p with
      | none => rw [e2] at ev; cases ev
      | some ys =>
        rw [e2] at ev
        simp only [Option.some.injEq, Prod.mk.injEq] at ev
        obtain ⟨rfl, rfl⟩ := ev
        rcases asQ_cases e2 with e3 | e3
        · refine .inl ⟨ρ, F, R, Z, p, ρ1, S, e1, fun v H1 F1 Z1 f1 g1 S1 r1 => ?_⟩
          have r1' := (resV_own hr).mp r1
          obtain ⟨b, vs, rfl, hb, rl⟩ := asS_of (K := X.K) e3 r1'
          exact ⟨b, vs, rfl, hb, k _ H1 F1 Z1 f1 _ g1 S1 (wk_enum e3) r1'⟩
        · refine .inr ⟨ρ, F, R, Z, p, ρ1, S, e1, fun v H1 F1 Z1 f1 g1 S1 r1 => ?_⟩
          have r1' := (resV_own hr).mp r1
          obtain ⟨b, vs, rfl, hb, rl⟩ := asT_of e3 r1'
          exact ⟨b, vs, rfl, hb.sq, k _ H1 F1 Z1 f1 _ g1 S1 (wk_enumT e3) r1'⟩
end
/-! ### for -/
theorem for_walk {J : L2.It} {g : TG} {tb : TS} {D : Ends} {σ : L2.St} {H : Hp} (m : Nat) (Pv : Nat → L2.St → Hp → Prop) (h0 : Pv 0 σ H) (hgo : ∀ i σ H, i < m → Pv i σ H → J.go i H) (hstop : ∀ σ H, Pv m σ H → J.stop m H)
    (hs : ∀ i x σ H H', i < m → Pv i σ H → J.yld i H x H' → g x σ H' fun σ2 H2 => tb { D with nx := Pv (i + 1), ct := Pv (i + 1), bk := D.nx } σ2 H2) (hd : ∀ σ H, Pv m σ H → D.nx σ H) :
    ∃ W : Nat → Nat → L2.St → Hp → Prop, (∃ m, W 0 m σ H) ∧ ∀ i m σ H, W i m σ H →
      (J.stop i H ∧ D.nx σ H) ∨ (J.go i H ∧ ∃ N : L2.St → Hp → Prop, (∀ σ' H', N σ' H' → ∃ m', m' < m ∧ W (i + 1) m' σ' H') ∧ ∀ x H', J.yld i H x H' → g x σ H' fun σ2 H2 => tb { D with nx := N, ct := N, bk := D.nx } σ2 H2) := by
  refine ⟨fun i k σ H => i ≤ m ∧ k = m - i ∧ Pv i σ H, ⟨m, Nat.zero_le _, rfl, h0⟩, fun i k σ H ⟨hi, hk, hp⟩ => ?_⟩
  rcases Nat.lt_or_ge i m with l | l
  · exact .inr ⟨hgo i σ H l hp, Pv (i + 1), fun σ' H' h => ⟨m - (i + 1), by omega, l, rfl, h⟩, fun x H' y => hs i x σ H H' l hp y⟩
  · have e : i = m := by omega
    subst e
    exact .inl ⟨hstop σ H hp, hd σ H hp⟩
def bodyF (C : Orc) (W : Nat) (tg : Tg) (b : List S) : PV → Env → Option Out := fun x ρ' => match bind tg x ρ' with
  | some ρa => evSs C W b ρa
  | none => none
theorem forGo_out {f : PV → Env → Option Out} : ∀ {xs : List PV} {ρ : Env} {o : Out}, forGo f xs ρ = some o → (∃ ρ', o = .nx ρ') ∨ ∃ v ρ', o = .rt v ρ'
  | [], ρ, o, e => by cases e; exact .inl ⟨_, rfl⟩
  | x :: xs, ρ, o, e => by
    simp only [forGo] at e
    split at e
    · exact forGo_out e
    · exact forGo_out e
    · cases e; exact .inl ⟨_, rfl⟩
    · cases e; exact .inr ⟨_, _, rfl⟩
    · cases e
theorem drop_cons {α : Type} : ∀ {xs : List α} {i : Nat} {p : α}, xs[i]? = some p → xs.drop i = p :: xs.drop (i + 1)
  | [], i, p, h => by simp at h
  | x :: xs, 0, p, h => by simp at h; simp [h]
  | x :: xs, i + 1, p, h => by
    show xs.drop i = p :: xs.drop (i + 1)
    exact drop_cons (by simpa using h)
theorem for_ok {J : L2.It} {tg : Tg} {b : List S} {D : Ends} {σ : L2.St} {H : Hp} {Z : Zs} {ρ : Env} {F : Nat → Fp} {R : Fp} {Pw : Hp → Zs → Prop} {xs : List PV} {o : Out} (S : Sv n H Z ρ σ F R) (w : Wk n J R Pw xs) (p : Pw H Z)
    (e : forGo (bodyF C W tg b) xs ρ = some o) (k : Ok n D σ R H Z (tgs tg ++ agSs b) o) :
    ∃ W' : Nat → Nat → L2.St → Hp → Prop, (∃ m, W' 0 m σ H) ∧ ∀ i m σ H, W' i m σ H →
      (J.stop i H ∧ D.nx σ H) ∨ (J.go i H ∧ ∃ N : L2.St → Hp → Prop, (∀ σ' H', N σ' H' → ∃ m', m' < m ∧ W' (i + 1) m' σ' H') ∧ ∀ x H', J.yld i H x H' → gT n tg x σ H' fun σ2 H2 => tSs n C W b { D with nx := N, ct := N, bk := D.nx } σ2 H2) := by
  refine for_walk xs.length (fun i σ1 H1 => ∃ ρ1 F1 Z1, Sv n H1 Z1 ρ1 σ1 F1 R ∧ Pw H1 Z1 ∧ Kp R H Z H1 Z1 ∧ Sm (tgs tg ++ agSs b) σ σ1 ∧ forGo (bodyF C W tg b) (xs.drop i) ρ1 = some o)
    ⟨ρ, F, Z, S, p, .refl, .refl, e⟩ (fun i σ1 H1 hi ⟨ρ1, F1, Z1, S1, p1, _⟩ => w.go i H1 Z1 p1 hi) (fun σ1 H1 ⟨ρ1, F1, Z1, S1, p1, _⟩ => w.stop H1 Z1 p1) ?_ ?_
  · intro i x σ1 H1 H2 hi ⟨ρ1, F1, Z1, S1, p1, k1, m1, e1⟩ hy
    obtain ⟨q, hq⟩ := get_of_lt hi
    obtain ⟨Z2, x2, r2⟩ := w.yld i H1 Z1 x H2 q S1.zt p1 hq hy
    have S2 : Sv n H2 Z2 ρ1 σ1 F1 R := S1.ext x2
    have k2 : Kp R H1 Z1 H2 Z2 := ⟨fun a o e _ => x2.keep a o e, x2.zm⟩
    rw [drop_cons hq] at e1
    simp only [forGo] at e1
    cases e2 : bind tg q ρ1 with
    | none =>
      rw [show bodyF C W tg b q ρ1 = none by unfold bodyF; rw [e2]] at e1
      cases e1
    | some ρa =>
      cases e3 : evSs C W b ρa with
      | none =>
        rw [show bodyF C W tg b q ρ1 = none by unfold bodyF; rw [e2]; exact e3] at e1
        cases e1
      | some ob =>
        rw [show bodyF C W tg b q ρ1 = some ob by unfold bodyF; rw [e2]; exact e3] at e1
        refine ⟨ρ1, F1, R, Z2, q, fun _ => 0, ρa, S2.zero fun _ => rfl, r2, e2, fun σ3 F3 Z3 z3 S3 m3 _ => ?_⟩
        have k3 : Kp R H2 Z2 H2 Z3 := ⟨fun _ _ e _ => e, z3⟩
        have kk := (k1.trans k2).trans k3
        have mm : Sm (tgs tg ++ agSs b) σ σ3 := m1.trans (Sm.l m3)
        have next : ∀ ρ' σ' H' F' Z', Kp R H2 Z3 H' Z' → Sv n H' Z' ρ' σ' F' R → Sm (agSs b) σ3 σ' → forGo (bodyF C W tg b) (xs.drop (i + 1)) ρ' = some o →
            ∃ ρ1 F1 Z1, Sv n H' Z1 ρ1 σ' F1 R ∧ Pw H' Z1 ∧ Kp R H Z H' Z1 ∧ Sm (tgs tg ++ agSs b) σ σ' ∧ forGo (bodyF C W tg b) (xs.drop (i + 1)) ρ1 = some o := fun ρ' σ' H' F' Z' k4 S4 m4 e4 =>
          ⟨ρ', F', Z', S4, w.keep _ _ _ _ p1 ((k2.trans k3).trans k4), kk.trans k4, mm.trans (Sm.r m4), e4⟩
        refine ⟨ρa, F3, R, Z3, ob, S3, e3, ?_, ?_, ?_, ?_⟩
        · intro ρ' σ' H' F' Z' eo k4 S4 m4
          subst eo
          exact next ρ' σ' H' F' Z' k4 S4 m4 e1
        · intro ρ' σ' H' F' Z' eo k4 S4 m4
          subst eo
          exact k.nx ρ' σ' H' F' Z' (Option.some.inj e1).symm (kk.trans k4) S4 (mm.trans (Sm.r m4))
        · intro ρ' σ' H' F' Z' eo k4 S4 m4
          subst eo
          exact next ρ' σ' H' F' Z' k4 S4 m4 e1
        · intro v u ρ' σ' H' F' Z' f eo k4 S4 r4 m4
          subst eo
          exact k.rt v u ρ' σ' H' F' Z' f (Option.some.inj e1).symm (kk.trans k4) S4 r4 (mm.trans (Sm.r m4))
  · intro σ1 H1 ⟨ρ1, F1, Z1, S1, p1, k1, m1, e1⟩
    rw [List.drop_length] at e1
    cases e1
    exact k.nx ρ1 σ1 H1 F1 Z1 rfl k1 S1 m1
/-- more is held while it runs -/
theorem Ok.more {D : Ends} {σ : L2.St} {R f : Fp} {H H1 : Hp} {Z Z1 : Zs} {l : List Nat} {o : Out} (k : Ok n D σ R H Z l o) (k1 : Kp R H Z H1 Z1) : Ok n D σ (fun a => R a + f a) H1 Z1 l o where
  nx := fun ρ' σ' H' F' Z' eo k2 S2 m2 => k.nx ρ' σ' H' F' Z' eo (k1.trans (k2.less fun a => Nat.le_add_right _ _)) (S2.less fun a => Nat.le_add_right _ _) m2
  bk := fun ρ' σ' H' F' Z' eo k2 S2 m2 => k.bk ρ' σ' H' F' Z' eo (k1.trans (k2.less fun a => Nat.le_add_right _ _)) (S2.less fun a => Nat.le_add_right _ _) m2
  ct := fun ρ' σ' H' F' Z' eo k2 S2 m2 => k.ct ρ' σ' H' F' Z' eo (k1.trans (k2.less fun a => Nat.le_add_right _ _)) (S2.less fun a => Nat.le_add_right _ _) m2
  rt := fun p v ρ' σ' H' F' Z' g eo k2 S2 r m2 => k.rt p v ρ' σ' H' F' Z' g eo (k1.trans (k2.less fun a => Nat.le_add_right _ _)) (S2.less fun a => by show R a + g a ≤ R a + f a + g a; omega) r m2
theorem forS {tg : Tg} {it : Rt.It} {b : List S} {te iter : Expr} {body : List Stmt} (hp : PassesOwn (model X.prog X.w) X.A X.env X.xe) (hc : X.calm = true) (hi : PI X te iter (tI n C it)) (hg : PG X te (gT n tg)) (hb : PSs X body (tSs n C W b)) (hs : ∀ x, foldedSetIterable iter X.env x = pure x) :
    PS X (.For te iter body [] pos) (tS n C W (.for tg it b)) :=
  ps_wk (ps_for hp hc hi hg hb hs) fun D σ H ⟨ρ, F, R, Z, o, S, ev, k⟩ => by
    simp only [evS] at ev
    cases e1 : evIt C it ρ with
    | none => rw [e1] at ev; cases ev
    | some q =>
      obtain ⟨xs, ρ1⟩ := q
      rw [e1] at ev
      exact ⟨ρ, F, R, Z, xs, ρ1, S, e1, fun J H1 F1 Z1 f1 Pw g1 S1 w p => for_ok S1 w p ev (k.more g1.kp)⟩
theorem rngGo_for {f : PV → Env → Option Out} {c : Int} : ∀ {m : Nat} {a : Int} {ρ : Env}, rngGo f c a m ρ = forGo f ((rngL c a m).map .d) ρ
  | 0, a, ρ => rfl
  | m + 1, a, ρ => by
    simp only [rngGo, rngL, List.map_cons, forGo, rngGo_for]
theorem forrS {tg : Tg} {es : List E} {b : List S} {te iter : Expr} {body : List Stmt} (hp : PassesOwn (model X.prog X.w) X.A X.env X.xe) (hc : X.calm = true) (hi : PI X te iter (tI n C (.rng es))) (hg : PG X te (gT n tg)) (hb : PSs X body (tSs n C W b)) (hs : ∀ x, foldedSetIterable iter X.env x = pure x) :
    PS X (.For te iter body [] pos) (tS n C W (.forr tg es b)) :=
  ps_wk (forS hp hc hi hg hb hs) fun D σ H ⟨ρ, F, R, Z, o, S, ev, k⟩ => ⟨ρ, F, R, Z, o, S, by
    simp only [evS] at ev ⊢
    simp only [evIt]
    cases e1 : evL C es ρ with
    | none => rw [e1] at ev; cases ev
    | some q =>
      obtain ⟨vs, ρ1⟩ := q
      rw [e1] at ev
      dsimp only at ev ⊢
      cases e2 : rngOf vs with
      | none => rw [e2] at ev; cases ev
      | some q =>
        obtain ⟨a, c, m⟩ := q
        rw [e2] at ev
        dsimp only at ev ⊢
        rw [← rngGo_for]
        exact ev, k⟩
end
end Rt

set_option Elab.async false
set_option linter.all false
set_option maxRecDepth 100000
/-! Rt14w: while. -/
namespace Rt
open PySem PySem.Spec PyProof.Rows L2
section
variable {n : Nms} {C : Orc} {X : Cx} {pos : Pos} {W : Nat} [ScK n X.K]
theorem whlS {t : E} {b : List S} {c : Expr} {body : List Stmt} (hp : PassesOwn (model X.prog X.w) X.A X.env X.xe) (hc : PT X c (tT n C t)) (hb : PSs X body (tSs n C W b)) : PS X (.While c body [] pos) (tS n C W (.whl t b)) :=
  ps_wk (ps_while hp hc hb) fun D σ H ⟨ρ, F, R, Z, o, S, ev, k⟩ => by
    simp only [evS] at ev
    refine ⟨fun m σ1 H1 => ∃ ρ1 F1 Z1, Sv n H1 Z1 ρ1 σ1 F1 R ∧ Kp R H Z H1 Z1 ∧ Sm (agSs b) σ σ1 ∧ whlGo (evT C t) (evSs C W b) m ρ1 = some o, ⟨W, ρ, F, Z, S, .refl, .refl, ev⟩, ?_⟩
    rintro m σ1 H1 ⟨ρ1, F1, Z1, S1, k1, m1, e1⟩
    cases m with
    | zero => cases e1
    | succ m =>
      simp only [whlGo] at e1
      cases e2 : evT C t ρ1 with
      | none => rw [e2] at e1; cases e1
      | some q =>
        obtain ⟨bb, ρ2⟩ := q
        rw [e2] at e1
        refine ⟨ρ1, F1, R, Z1, bb, ρ2, S1, e2, fun H2 F2 Z2 g2 S2 => ?_⟩
        cases bb with
        | false =>
          rw [if_neg Bool.false_ne_true]
          cases e1
          exact k.nx ρ2 σ1 H2 F2 Z2 rfl (k1.trans g2.kp) S2 m1
        | true =>
          rw [if_pos rfl]
          dsimp only at e1
          refine ⟨fun σ' H' => ∃ ρ1 F1 Z1, Sv n H' Z1 ρ1 σ' F1 R ∧ Kp R H Z H' Z1 ∧ Sm (agSs b) σ σ' ∧ whlGo (evT C t) (evSs C W b) m ρ1 = some o, fun σ' H' h => ⟨m, Nat.lt_succ_self m, h⟩, ?_⟩
          cases e3 : evSs C W b ρ2 with
          | none => rw [e3] at e1; cases e1
          | some ob =>
            rw [e3] at e1
            have kk := k1.trans g2.kp
            refine ⟨ρ2, F2, R, Z2, ob, S2, e3, ?_, ?_, ?_, ?_⟩
            · intro ρ' σ' H' F' Z' eo k4 S4 m4
              subst eo
              exact ⟨ρ', F', Z', S4, kk.trans k4, m1.trans m4, e1⟩
            · intro ρ' σ' H' F' Z' eo k4 S4 m4
              subst eo
              exact k.nx ρ' σ' H' F' Z' (Option.some.inj e1).symm (kk.trans k4) S4 (m1.trans m4)
            · intro ρ' σ' H' F' Z' eo k4 S4 m4
              subst eo
              exact ⟨ρ', F', Z', S4, kk.trans k4, m1.trans m4, e1⟩
            · intro v u ρ' σ' H' F' Z' f eo k4 S4 r4 m4
              subst eo
              exact k.rt v u ρ' σ' H' F' Z' f (Option.some.inj e1).symm (kk.trans k4) S4 r4 (m1.trans m4)
end
end Rt

set_option Elab.async false
set_option linter.all false
set_option maxRecDepth 100000
/-! Rt15: calls of the text's own defs. -/
namespace Rt
open PySem PySem.Spec PyProof.Rows L2
section
variable {n : Nms} {C : Orc} {X : Cx} {pos : Pos} {W : Nat}
def ioOf : E → Option Nat
  | .io i => some i
  | _ => none
/-- what is true of the arguments -/
def resA (n : Nms) (σ : L2.St) (H' : Hp) (Z' : Zs) : List E → List PV → List V → Fp → Prop
  | [], ps, vs, f => ps = [] ∧ vs = [] ∧ ∀ a, f a = 0
  | e :: es, ps, vs, f => ∃ p v ps' vs' g h, ps = p :: ps' ∧ vs = v :: vs' ∧ (∀ a, f a = g a + h a) ∧
      (match ioOf e with
        | some i => σ[i]? = some (some v) ∧ p = .un ∧ ∀ a, g a = 0
        | none => repV n H' Z' p v g) ∧ resA n σ H' Z' es ps' vs' h
def tA (n : Nms) (C : Orc) (es : List E) : TA := fun σ H Q => ∃ ρ F R Z ps ρ', Sv n H Z ρ σ F R ∧ evL C es ρ = some (ps, ρ') ∧
  ∀ vs H' F' Z' f, Go (mset (mtL es)) R H Z F ρ H' Z' F' ρ' → Sv n H' Z' ρ' σ F' (fun a => R a + f a) → resA n σ H' Z' es ps vs f → Q vs H'
theorem tA_nil {σ : L2.St} {H : Hp} {Q : List V → Hp → Prop} (h : tA n C [] σ H Q) : tNil σ H Q := by
  obtain ⟨ρ, F, R, Z, ps, ρ', S, e, k⟩ := h
  simp only [evL, Option.some.injEq, Prod.mk.injEq] at e
  obtain ⟨rfl, rfl⟩ := e
  exact k [] H F Z (fun _ => 0) Go.refl (S.zero fun _ => rfl) ⟨rfl, rfl, fun _ => rfl⟩
theorem resA_own {σ : L2.St} {H : Hp} {Z : Zs} : ∀ {es : List E} {ps : List PV} {vs : List V} {f : Fp}, resA n σ H Z es ps vs f → ps.length = es.length ∧ vs.length = es.length
  | [], _, _, _, ⟨e1, e2, _⟩ => by rw [e1, e2]; exact ⟨rfl, rfl⟩
  | e :: es, _, _, _, ⟨p, v, ps', vs', g, h, e1, e2, _, _, t⟩ => by
    obtain ⟨h1, h2⟩ := resA_own t
    rw [e1, e2]
    exact ⟨by rw [List.length_cons, List.length_cons, h1], by rw [List.length_cons, List.length_cons, h2]⟩
theorem tA_consE {e : E} {es : List E} {σ : L2.St} {H : Hp} {Q : List V → Hp → Prop} (hr : rdOf e = none) (hio : ioOf e = none) (h : tA n C (e :: es) σ H Q) : tCons (tE n C e) (tA n C es) σ H Q := by
  obtain ⟨ρ, F, R, Z, ps, ρ', S, ev, k⟩ := h
  simp only [evL] at ev
  cases e1 : evE C e ρ with
  | none => rw [e1] at ev; cases ev
  | some q =>
    obtain ⟨p, ρ1⟩ := q
    rw [e1] at ev
    dsimp only at ev
    cases e2 : evL C es ρ1 with
    | none => rw [e2] at ev; cases ev
    | some q =>
      obtain ⟨ps', ρ2⟩ := q
      rw [e2] at ev
      dsimp only at ev
      simp only [Option.some.injEq, Prod.mk.injEq] at ev
      obtain ⟨rfl, rfl⟩ := ev
      refine ⟨ρ, F, R, Z, p, ρ1, S, e1, fun v H1 F1 Z1 f1 g1 S1 r1 => ?_⟩
      refine ⟨ρ1, F1, fun a => R a + f1 a, Z1, ps', ρ2, S1, e2, fun vs H2 F2 Z2 f2 g2 S2 r2 => ?_⟩
      refine k (v :: vs) H2 F2 Z2 (fun a => f1 a + f2 a) ?_ (S2.congr fun a => by show R a + (f1 a + f2 a) = (R a + f1 a) + f2 a; omega) ⟨p, v, ps', vs, f1, f2, rfl, rfl, fun _ => rfl, ?_, r2⟩
      · refine (g1.trans g2 fun a => Nat.le_add_right _ _).mono fun i hi => ?_
        show mset (mtE e ++ mtL es) i = true
        rw [mset_app]
        exact hi
      · rw [hio]
        exact g2.other (fun a => Nat.le_add_left _ _) ((resV_own hr).mp r1)
theorem tA_consI {i : Nat} {es : List E} {σ : L2.St} {H : Hp} {Q : List V → Hp → Prop} (h : tA n C (.io i :: es) σ H Q) : tCons (tVar i) (tA n C es) σ H Q := by
  obtain ⟨ρ, F, R, Z, ps, ρ', S, ev, k⟩ := h
  simp only [evL] at ev
  cases e1 : evE C (.io i) ρ with
  | none => rw [e1] at ev; cases ev
  | some q =>
    obtain ⟨p, ρ1⟩ := q
    rw [e1] at ev
    simp only [evE] at e1
    by_cases hun : isUn (get ρ i) = true
    · rw [if_pos hun] at e1; cases e1
    rw [if_neg hun] at e1
    simp only [Option.some.injEq, Prod.mk.injEq] at e1
    obtain ⟨rfl, rfl⟩ := e1
    dsimp only at ev
    cases e2 : evL C es ρ with
    | none => rw [e2] at ev; cases ev
    | some q =>
      obtain ⟨ps', ρ2⟩ := q
      rw [e2] at ev
      dsimp only at ev
      simp only [Option.some.injEq, Prod.mk.injEq] at ev
      obtain ⟨rfl, rfl⟩ := ev
      obtain ⟨v, hs, rv⟩ := S.slot (i := i) rfl (isUn_ne hun)
      refine ⟨v, hs, ρ, F, R, Z, ps', ρ2, S, e2, fun vs H2 F2 Z2 f2 g2 S2 r2 => ?_⟩
      refine k (v :: vs) H2 F2 Z2 f2 (g2.mono fun j hj => by show mset ([] ++ mtL es) j = true; exact hj) S2 ⟨.un, v, ps', vs, fun _ => 0, f2, rfl, rfl, fun _ => (Nat.zero_add _).symm, ⟨hs, rfl, fun _ => rfl⟩, r2⟩
/-- a written argument list -/
def ArgE (n : Nms) (C : Orc) (X : Cx) (e : E) (a : Expr) : Prop := noStar a = true ∧ ((∃ i, e = .io i ∧ PE X a (tVar i)) ∨ (rdOf e = none ∧ ioOf e = none ∧ PE X a (tE n C e)))
theorem paA : ∀ {es : List E} {as : List Expr}, Paired (ArgE n C X) es as → PA X as (tA n C es)
  | _, _, .nil => pa_wk pa_nil fun _ _ _ h => tA_nil h
  | _, _, .cons ⟨s, .inl ⟨i, e, h⟩⟩ t => by
    subst e
    exact pa_wk (pa_cons h (paA t) (star_of s)) fun _ _ _ h => tA_consI h
  | _, _, .cons ⟨s, .inr ⟨hr, hi, h⟩⟩ t => pa_wk (pa_cons h (paA t) (star_of s)) fun _ _ _ h => tA_consE hr hi h
/-! ### the callee's slots -/
/-- the arguments as the callee's slots: each with what it owns -/
def Args (n : Nms) (H : Hp) (Z : Zs) : List PV → List V → List Fp → Fp → Prop
  | [], vs, fl, T => vs = [] ∧ fl = [] ∧ ∀ a, T a = 0
  | p :: ps, vs, fl, T => ∃ v vs' h fl' T', vs = v :: vs' ∧ fl = h :: fl' ∧ (∀ a, T a = h a + T' a) ∧ repO n H Z p (some (some v)) h ∧ Args n H Z ps vs' fl' T'
def fpAt (fl : List Fp) (k : Nat) : Fp := fl.getD k fun _ => 0
theorem Args.len {H : Hp} {Z : Zs} : ∀ {ps : List PV} {vs : List V} {fl : List Fp} {T : Fp}, Args n H Z ps vs fl T → ps.length = vs.length
  | [], _, _, _, ⟨e, _⟩ => by rw [e]; rfl
  | p :: ps, _, _, _, ⟨v, vs', h, fl', T', e, _, _, _, t⟩ => by rw [e, List.length_cons, List.length_cons, Args.len t]
theorem Args.at {H : Hp} {Z : Zs} : ∀ {ps : List PV} {vs : List V} {fl : List Fp} {T : Fp}, Args n H Z ps vs fl T → ∀ k, repO n H Z (get ps k) ((vs.map some)[k]?) (fpAt fl k)
  | [], _, _, _, ⟨e1, e2, _⟩, k => by
    subst e1 e2
    exact fun a => by simp [fpAt]
  | p :: ps, _, _, _, ⟨v, vs', h, fl', T', e1, e2, _, r, t⟩, k => by
    subst e1 e2
    cases k with
    | zero => exact r
    | succ k => exact Args.at t k
theorem Args.le {H : Hp} {Z : Zs} : ∀ {ps : List PV} {vs : List V} {fl : List Fp} {T : Fp}, Args n H Z ps vs fl T → ∀ k a, fpAt fl k a ≤ T a
  | [], _, _, _, ⟨e1, e2, _⟩, k, a => by subst e1 e2; simp [fpAt]
  | p :: ps, _, _, _, ⟨v, vs', h, fl', T', e1, e2, hT, r, t⟩, k, a => by
    subst e1 e2
    rw [hT]
    cases k with
    | zero => exact Nat.le_add_right _ _
    | succ k => exact Nat.le_trans (Args.le t k a) (Nat.le_add_left _ _)
theorem Args.two {H : Hp} {Z : Zs} : ∀ {ps : List PV} {vs : List V} {fl : List Fp} {T : Fp}, Args n H Z ps vs fl T → ∀ k j a, k ≠ j → fpAt fl k a + fpAt fl j a ≤ T a
  | [], _, _, _, ⟨e1, e2, _⟩, k, j, a, _ => by subst e1 e2; simp [fpAt]
  | p :: ps, _, _, _, ⟨v, vs', h, fl', T', e1, e2, hT, r, t⟩, k, j, a, hne => by
    subst e1 e2
    rw [hT]
    cases k with
    | zero =>
      cases j with
      | zero => exact absurd rfl hne
      | succ j => exact Nat.add_le_add_left (Args.le t j a) _
    | succ k =>
      cases j with
      | zero =>
        rw [Nat.add_comm]
        exact Nat.add_le_add_left (Args.le t k a) _
      | succ j => exact Nat.le_trans (Args.two t k j a fun e => hne (by rw [e])) (Nat.le_add_left _ _)
theorem Args.sv {H : Hp} {Z : Zs} {ps : List PV} {vs : List V} {fl : List Fp} {T Rc : Fp} (r : Args n H Z ps vs fl T) (h1 : ∀ a, T a + Rc a ≤ 1) (hz : ∀ a, Z a → H a ≠ none ∧ Rc a = 0 ∧ T a = 0) (ha : ∀ a, 1 ≤ Rc a → H a ≠ none) : Sv n H Z ps (vs.map some) (fpAt fl) Rc where
  len := by rw [List.length_map, r.len]
  at_ := r.at
  one := fun i a => Nat.le_trans (Nat.add_le_add_right (r.le i a) _) (h1 a)
  oneR := fun a => Nat.le_trans (Nat.le_add_left _ _) (h1 a)
  dis := fun i j a h => by
    have := r.two i j a h
    have := h1 a
    omega
  zz := fun a z => ⟨(hz a z).1, (hz a z).2.1, fun i => by
    have := r.le i a
    have := (hz a z).2.2
    omega⟩
  all := ha
/-- the slots that are handed in, as a sum -/
def sumF (F : Nat → Fp) : List Nat → Fp
  | [], _ => 0
  | i :: is, a => F i a + sumF F is a
theorem sumF_zero {F : Nat → Fp} {a : Addr} : ∀ {is : List Nat}, (∀ i ∈ is, F i a = 0) → sumF F is a = 0
  | [], _ => rfl
  | i :: is, h => by
    show F i a + sumF F is a = 0
    rw [h i (by simp), sumF_zero fun j hj => h j (by simp [hj])]
theorem sumF_one {F : Nat → Fp} {a : Addr} (dis : ∀ i j, i ≠ j → F i a = 0 ∨ F j a = 0) (one : ∀ i, F i a ≤ 1) : ∀ {is : List Nat}, is.Nodup → sumF F is a ≤ 1
  | [], _ => Nat.zero_le _
  | i :: is, h => by
    show F i a + sumF F is a ≤ 1
    rw [List.nodup_cons] at h
    by_cases q : F i a = 0
    · rw [q, Nat.zero_add]; exact sumF_one dis one h.2
    · have : sumF F is a = 0 := sumF_zero fun j hj => (dis i j fun e => h.1 (e ▸ hj)).resolve_left q
      have := one i
      omega
theorem args_of {σ : L2.St} {H : Hp} {Z : Zs} {ρ1 : Env} {F1 : Nat → Fp} {R1 : Fp} (S : Sv n H Z ρ1 σ F1 R1) : ∀ {es : List E} {ps : List PV} {vs : List V} {f : Fp}, resA n σ H Z es ps vs f →
    ∃ fl, Args n H Z (fillIo es ps ρ1) vs fl fun a => f a + sumF F1 (iosL es) a
  | [], _, _, f, ⟨e1, e2, e3⟩ => by
    subst e1 e2
    exact ⟨[], rfl, rfl, fun a => by show f a + 0 = 0; rw [e3]⟩
  | e :: es, _, _, f, ⟨p, v, ps', vs', g, h, e1, e2, hf, r, t⟩ => by
    subst e1 e2
    obtain ⟨fl, ar⟩ := args_of S t
    cases hio : ioOf e with
    | some i =>
      rw [hio] at r
      obtain ⟨hs, rfl, hg⟩ := r
      cases e with
      | io j =>
        cases hio
        refine ⟨F1 i :: fl, v, vs', F1 i, fl, _, rfl, rfl, fun a => ?_, ?_, ar⟩
        · show f a + (F1 i a + sumF F1 (iosL es) a) = F1 i a + (h a + sumF F1 (iosL es) a)
          rw [hf, hg]
          omega
        · have := S.at_ i
          rw [hs] at this
          exact this
      | _ => cases hio
    | none =>
      rw [hio] at r
      have e3 : fillIo (e :: es) (p :: ps') ρ1 = p :: fillIo es ps' ρ1 := by
        cases e <;> first | rfl | cases hio
      have e4 : iosL (e :: es) = iosL es := by
        cases e <;> first | rfl | cases hio
      rw [e3, e4]
      refine ⟨g :: fl, v, vs', g, fl, _, rfl, rfl, fun a => ?_, ?_, ar⟩
      · show f a + sumF F1 (iosL es) a = g a + (h a + sumF F1 (iosL es) a)
        rw [hf]
        omega
      · unfold repO
        cases p with
        | un => exact r
        | _ => exact ⟨v, rfl, r⟩
/-! ### the promise -/
/-- f's promise: the arguments as slots, the result, the slots that came back -/
def spF (n : Nms) (C : Orc) (f np : Nat) : Sp := fun vs H Q _ => ∃ ps F R Z r ws, vs.length = np ∧ Sv n H Z ps (vs.map some) F R ∧ C f ps = some (r, ws) ∧ ws.length = np ∧
  ∀ v H' F' Z' g, Kp R H Z H' Z' → Sv n H' Z' ws (vs.map some) F' (fun a => R a + g a) → repV n H' Z' r v g → Q v H'
theorem iosL_mem {es : List E} {i : Nat} (h : i ∈ iosL es) : ∃ k : Nat, es[k]? = some (E.io i) := by
  induction es with
  | nil => cases h
  | cons e es ih =>
    cases hio : ioOf e with
    | some j =>
      cases e with
      | io j' =>
        rcases List.mem_cons.mp h with rfl | h
        · exact ⟨0, rfl⟩
        · obtain ⟨k, hk⟩ := ih h
          exact ⟨k + 1, hk⟩
      | _ => cases hio
    | none =>
      have e4 : iosL (e :: es) = iosL es := by
        cases e <;> first | rfl | cases hio
      rw [e4] at h
      obtain ⟨k, hk⟩ := ih h
      exact ⟨k + 1, hk⟩
theorem mem_iosL {es : List E} {i k : Nat} (h : es[k]? = some (.io i)) : i ∈ iosL es := by
  induction es generalizing k with
  | nil => simp at h
  | cons e es ih =>
    cases k with
    | zero =>
      simp only [List.getElem?_cons_zero, Option.some.injEq] at h
      subst h
      exact List.mem_cons_self
    | succ k =>
      have := ih (k := k) (by simpa using h)
      cases hio : ioOf e with
      | some j =>
        cases e with
        | io j' => exact List.mem_cons_of_mem _ this
        | _ => cases hio
      | none =>
        have e4 : iosL (e :: es) = iosL es := by
          cases e <;> first | rfl | cases hio
        rw [e4]
        exact this
theorem back_out : ∀ {es : List E} {ws : List PV} {ρ : Env} {j : Nat}, j ∉ iosL es → get (backIo es ws ρ) j = get ρ j
  | [], ws, ρ, j, _ => by cases ws <;> rfl
  | e :: es, [], ρ, j, _ => by cases e <;> rfl
  | e :: es, w :: ws, ρ, j, h => by
    cases hio : ioOf e with
    | some i =>
      cases e with
      | io i' =>
        have h1 : j ≠ i' := fun q => h (by rw [q]; exact List.mem_cons_self)
        have h2 : j ∉ iosL es := fun q => h (List.mem_cons_of_mem _ q)
        show get (backIo es ws (put ρ i' w)) j = _
        rw [back_out h2, get_put_ne h1]
      | _ => cases hio
    | none =>
      have e3 : backIo (e :: es) (w :: ws) ρ = backIo es ws ρ := by
        cases e <;> first | rfl | cases hio
      have e4 : iosL (e :: es) = iosL es := by
        cases e <;> first | rfl | cases hio
      rw [e3]
      rw [e4] at h
      exact back_out h
theorem back_len : ∀ {es : List E} {ws : List PV} {ρ : Env}, (backIo es ws ρ).length = ρ.length
  | [], ws, ρ => by cases ws <;> rfl
  | e :: es, [], ρ => by cases e <;> rfl
  | e :: es, w :: ws, ρ => by
    cases hio : ioOf e with
    | some i =>
      cases e with
      | io i' =>
        show (backIo es ws (put ρ i' w)).length = _
        rw [back_len, put_length]
      | _ => cases hio
    | none =>
      have e3 : backIo (e :: es) (w :: ws) ρ = backIo es ws ρ := by
        cases e <;> first | rfl | cases hio
      rw [e3]
      exact back_len
theorem back_in : ∀ {es : List E} {ws : List PV} {ρ : Env} {k i : Nat}, (iosL es).Nodup → ws.length = es.length → es[k]? = some (.io i) → i < ρ.length → get (backIo es ws ρ) i = get ws k
  | [], ws, ρ, k, i, _, _, h, _ => by simp at h
  | e :: es, [], ρ, k, i, _, hl, _, _ => by simp at hl
  | e :: es, w :: ws, ρ, k, i, hn, hl, h, hi => by
    have hl' : ws.length = es.length := by simpa using hl
    cases hio : ioOf e with
    | some j =>
      cases e with
      | io j' =>
        have hn' : j' ∉ iosL es ∧ (iosL es).Nodup := List.nodup_cons.mp hn
        show get (backIo es ws (put ρ j' w)) i = _
        cases k with
        | zero =>
          simp only [List.getElem?_cons_zero, Option.some.injEq] at h
          cases h
          rw [back_out hn'.1, get_put_same hi]
          rfl
        | succ k => exact back_in hn'.2 hl' (by simpa using h) (by rw [put_length]; exact hi)
      | _ => cases hio
    | none =>
      have e3 : backIo (e :: es) (w :: ws) ρ = backIo es ws ρ := by
        cases e <;> first | rfl | cases hio
      have e4 : iosL (e :: es) = iosL es := by
        cases e <;> first | rfl | cases hio
      rw [e3]
      rw [e4] at hn
      cases k with
      | zero =>
        simp only [List.getElem?_cons_zero, Option.some.injEq] at h
        subst h
        cases hio
      | succ k => exact back_in hn hl' (by simpa using h) hi
theorem resA_io {σ : L2.St} {H : Hp} {Z : Zs} : ∀ {es : List E} {ps : List PV} {vs : List V} {f : Fp} {k i : Nat}, resA n σ H Z es ps vs f → es[k]? = some (.io i) → ∃ v, σ[i]? = some (some v) ∧ vs[k]? = some v
  | [], _, _, _, k, i, _, h => by simp at h
  | e :: es, _, _, _, k, i, ⟨p, v, ps', vs', g, h, e1, e2, _, r, t⟩, q => by
    subst e1 e2
    cases k with
    | zero =>
      simp only [List.getElem?_cons_zero, Option.some.injEq] at q
      subst q
      exact ⟨v, r.1, rfl⟩
    | succ k => exact resA_io (es := es) (k := k) t (by simpa using q)
open Classical in
theorem call_ok {f np : Nat} {es : List E} {σ : L2.St} {H : Hp} {Q : VK} (hn : (iosL es).Nodup) (hl : es.length = np) (hwl : ∀ ps r ws, C f ps = some (r, ws) → ws.length = np) (h : tE n C (.cl f es) σ H Q) {E : XK} :
    tA n C es σ H fun vs H1 => spF n C f np vs H1 Q E := by
  obtain ⟨ρ, F, R, Z, p, ρ', S, ev, k⟩ := h
  simp only [evE] at ev
  cases e1 : evL C es ρ with
  | none => rw [e1] at ev; cases ev
  | some q =>
    obtain ⟨ps, ρ1⟩ := q
    rw [e1] at ev
    dsimp only at ev
    cases e2 : C f (fillIo es ps ρ1) with
    | none => rw [e2] at ev; cases ev
    | some q =>
      obtain ⟨r, ws⟩ := q
      rw [e2] at ev
      simp only [Option.some.injEq, Prod.mk.injEq] at ev
      obtain ⟨rfl, rfl⟩ := ev
      refine ⟨ρ, F, R, Z, ps, ρ1, S, e1, fun vs H1 F1 Z1 f1 g1 S1 r1 => ?_⟩
      obtain ⟨fl, ar⟩ := args_of S1 r1
      obtain ⟨l1, l2⟩ := resA_own r1
      have wl := hwl _ _ _ e2
      -- what others own, to the callee
      let Rc : Fp := fun a => if (1 ≤ R a ∨ ∃ j, j ∉ iosL es ∧ 1 ≤ F1 j a) then 1 else 0
      have rc1 : ∀ a, (1 ≤ R a ∨ ∃ j, j ∉ iosL es ∧ 1 ≤ F1 j a) → Rc a = 1 := fun a h => if_pos h
      have rc0 : ∀ a, ¬ (1 ≤ R a ∨ ∃ j, j ∉ iosL es ∧ 1 ≤ F1 j a) → Rc a = 0 := fun a h => if_neg h
      have hT : ∀ a, f1 a + sumF F1 (iosL es) a + Rc a ≤ 1 := fun a => by
        by_cases hc : (1 ≤ R a ∨ ∃ j, j ∉ iosL es ∧ 1 ≤ F1 j a)
        · rw [rc1 a hc]
          have z1 : f1 a = 0 := by
            rcases hc with h | ⟨j, _, h⟩
            · have : R a + f1 a ≤ 1 := S1.oneR a
              omega
            · have : F1 j a + (R a + f1 a) ≤ 1 := S1.one j a
              omega
          have z2 : sumF F1 (iosL es) a = 0 := sumF_zero fun i hi => by
            rcases hc with h | ⟨j, hj, h⟩
            · have : F1 i a + (R a + f1 a) ≤ 1 := S1.one i a
              omega
            · have := S1.dis i j a fun e => hj (e ▸ hi)
              omega
          omega
        · rw [rc0 a hc]
          by_cases q : f1 a = 0
          · have := sumF_one (F := F1) (a := a) (fun i j h => S1.dis i j a h) (fun i => by have : F1 i a + (R a + f1 a) ≤ 1 := S1.one i a; omega) hn
            omega
          · have z2 : sumF F1 (iosL es) a = 0 := sumF_zero fun i hi => by
              have : F1 i a + (R a + f1 a) ≤ 1 := S1.one i a
              omega
            have : R a + f1 a ≤ 1 := S1.oneR a
            omega
      have hz : ∀ a, Z1 a → H1 a ≠ none ∧ Rc a = 0 ∧ f1 a + sumF F1 (iosL es) a = 0 := fun a z => by
        obtain ⟨z1, z2, z3⟩ := S1.zz a z
        have z2' : R a + f1 a = 0 := z2
        refine ⟨z1, rc0 a ?_, ?_⟩
        · rintro (h | ⟨j, _, h⟩)
          · omega
          · have := z3 j; omega
        · rw [sumF_zero fun i _ => z3 i]; omega
      have hall : ∀ a, 1 ≤ Rc a → H1 a ≠ none := fun a h => by
        by_cases hc : (1 ≤ R a ∨ ∃ j, j ∉ iosL es ∧ 1 ≤ F1 j a)
        · rcases hc with h | ⟨j, _, h⟩
          · exact S1.all a (by show 1 ≤ R a + f1 a; omega)
          · exact S1.there j a h
        · rw [rc0 a hc] at h; omega
      refine ⟨_, fpAt fl, Rc, Z1, r, ws, by rw [l2, hl], ar.sv hT hz hall, e2, wl, fun v H2 F2 Z2 g k2 S2 rv => ?_⟩
      -- back in the caller
      let F3 : Nat → Fp := fun j => if h : ∃ m : Nat, es[m]? = some (Rt.E.io j) then F2 h.choose else F1 j
      have f3in : ∀ j, j ∈ iosL es → ∃ m : Nat, es[m]? = some (Rt.E.io j) ∧ F3 j = F2 m := fun j hj => by
        have hx := iosL_mem hj
        exact ⟨hx.choose, hx.choose_spec, dif_pos hx⟩
      have f3out : ∀ j, j ∉ iosL es → F3 j = F1 j := fun j hj => dif_neg fun ⟨m, hm⟩ => hj (mem_iosL hm)
      have rR : ∀ a, R a ≤ Rc a := fun a => by
        by_cases hc : 1 ≤ R a
        · rw [rc1 a (.inl hc)]
          have : R a + f1 a ≤ 1 := S1.oneR a
          omega
        · omega
      have rF : ∀ j a, j ∉ iosL es → 1 ≤ F1 j a → Rc a = 1 := fun j a h1 h2 => rc1 a (.inr ⟨j, h1, h2⟩)
      have slotlt : ∀ j, j ∈ iosL es → j < ρ1.length := fun j hj => by
        obtain ⟨m, hm'⟩ := iosL_mem hj
        obtain ⟨v, hv, _⟩ := resA_io r1 hm'
        rw [S1.len]
        exact (List.getElem?_eq_some_iff.mp hv).1
      have S3 : Sv n H2 Z2 (backIo es ws ρ1) σ F3 fun a => R a + g a := by
        constructor
        · rw [back_len]; exact S1.len
        · intro j
          by_cases hj : j ∈ iosL es
          · obtain ⟨m, hm', hF⟩ := f3in j hj
            rw [hF, back_in hn (by rw [wl, hl]) hm' (slotlt j hj)]
            obtain ⟨v, hv, hv2⟩ := resA_io r1 hm'
            have := S2.at_ m
            rw [List.getElem?_map, hv2] at this
            rw [hv]
            exact this
          · rw [f3out j hj, back_out hj]
            have x := S1.at_ j
            unfold repO at x ⊢
            split
            · rename_i e
              rw [e] at x
              exact x
            · split at x
              · rename_i e _ e'
                exact absurd e' e
              · obtain ⟨w, e, q⟩ := x
                exact ⟨w, e, repV_mono _ w _ (fun a u hu k => k2.keep a u hu (k.elim .inr fun l => .inl (by rw [rF j a hj l]; exact Nat.le_refl _))) k2.zm q⟩
        · intro j a
          show F3 j a + (R a + g a) ≤ 1
          have := rR a
          by_cases hj : j ∈ iosL es
          · obtain ⟨m, _, hF⟩ := f3in j hj
            rw [hF]
            have : F2 m a + (Rc a + g a) ≤ 1 := S2.one m a
            omega
          · rw [f3out j hj]
            have o1 : F1 j a + (R a + f1 a) ≤ 1 := S1.one j a
            have o2 : Rc a + g a ≤ 1 := S2.oneR a
            rcases Nat.eq_zero_or_pos (F1 j a) with q | q
            · omega
            · have := rF j a hj q
              omega
        · intro a
          have o2 : Rc a + g a ≤ 1 := S2.oneR a
          have := rR a
          show R a + g a ≤ 1
          omega
        · intro i j a hij
          by_cases hi : i ∈ iosL es
          · obtain ⟨m, hm1, hF⟩ := f3in i hi
            rw [hF]
            by_cases hj : j ∈ iosL es
            · obtain ⟨l, hl1, hF'⟩ := f3in j hj
              rw [hF']
              exact S2.dis m l a fun e => hij (by subst e; rw [hm1] at hl1; cases hl1; rfl)
            · rw [f3out j hj]
              have o : F2 m a + (Rc a + g a) ≤ 1 := S2.one m a
              rcases Nat.eq_zero_or_pos (F1 j a) with q | q
              · exact .inr q
              · have := rF j a hj q
                left; omega
          · rw [f3out i hi]
            by_cases hj : j ∈ iosL es
            · obtain ⟨l, hl1, hF'⟩ := f3in j hj
              rw [hF']
              have o : F2 l a + (Rc a + g a) ≤ 1 := S2.one l a
              rcases Nat.eq_zero_or_pos (F1 i a) with q | q
              · exact .inl q
              · have := rF i a hi q
                right; omega
            · rw [f3out j hj]
              exact S1.dis i j a hij
        · intro a z
          obtain ⟨z1, z2, z3⟩ := S2.zz a z
          have z2' : Rc a + g a = 0 := z2
          have := rR a
          refine ⟨z1, by show R a + g a = 0; omega, fun j => ?_⟩
          by_cases hj : j ∈ iosL es
          · obtain ⟨m, _, hF⟩ := f3in j hj
            rw [hF]
            exact z3 m
          · rw [f3out j hj]
            rcases Nat.eq_zero_or_pos (F1 j a) with q | q
            · exact q
            · have := rF j a hj q
              omega
        · intro a l
          have l' : 1 ≤ R a + g a := l
          have := rR a
          exact S2.all a (by show 1 ≤ Rc a + g a; omega)
      refine k v H2 F3 Z2 g ⟨fun a o e kp => ?_, fun a z => k2.zm a (g1.zm a z), fun j hj => ?_⟩ S3 rv
      · have e1 : H1 a = some o := g1.keep a o e (kp.imp id (Or.imp id fun ⟨j, hj, l⟩ => ⟨j, by
          have hj' : mset (mtL es ++ iosL es) j = false := hj
          rw [mset_app] at hj'
          exact (Bool.or_eq_false_iff.mp hj').1, l⟩))
        refine k2.keep a o e1 ?_
        rcases kp with l | l | ⟨j, hj, l⟩
        · exact .inl (Nat.le_trans l (rR a))
        · exact .inr (g1.zm a l)
        · have hj' : mset (mtL es ++ iosL es) j = false := hj
          rw [mset_app] at hj'
          obtain ⟨j1, j2⟩ := Bool.or_eq_false_iff.mp hj'
          refine .inl ?_
          rw [rF j a (by simpa [mset] using j2) (by rw [(g1.un j j1).1]; exact l)]
          exact Nat.le_refl _
      · have hj' : mset (mtL es ++ iosL es) j = false := hj
        rw [mset_app] at hj'
        obtain ⟨j1, j2⟩ := Bool.or_eq_false_iff.mp hj'
        have j3 : j ∉ iosL es := by simpa [mset] using j2
        exact ⟨fun a => by rw [f3out j j3]; exact (g1.un j j1).1 a, by rw [back_out j3]; exact (g1.un j j1).2⟩
/-! ### keywords alone -/
theorem pk_wk {X : Cx} {a : List Keyword} {t t' : TA} (h : PK X a t) (w : ∀ σ H Q, t' σ H Q → t σ H Q) : PK X a t' := ⟨fun pos pins s σ H Q I x => h.run pos pins s σ H Q I (w _ _ _ x)⟩
theorem pkL : ∀ {es : List E} {ks : List Keyword}, Paired (fun e (a : Keyword) => PE X a.value (tE n C e)) es ks → PK X ks (tL n C es)
  | _, _, .nil => pk_wk pk_nil fun _ _ _ h => tL_nil h
  | _, ⟨_, _, _⟩ :: _, .cons h t => pk_wk (pk_cons h (pkL t)) fun _ _ _ h => tL_cons h
/-- f(k = v, ..): no positional argument -/
theorem pe_callN0 {CX : CXT} {k : Nat} {f : Addr} {fd : FuncData} {ps ks : List Str} {sp : Sp} {E : XK} {x : Str} {p pos : Pos} {kws : List Keyword} {tk : TA} {g : List Value → List Value → List Value} {gV : List V → List V → List V}
    (F : FnOk X.prog X.w X.K X.mg X.base CX k f fd ps sp) (hr : Room k X.A) (hg : Gl X x) (hm : X.mg x = some (.ref f)) (hk : PySem.W.keepIn X.K (.ref f) = true) (hb : KBn X.K fd ps 0 ks g gV) (hx : Passes CX X E)
    (hkw : PK X kws tk) (hall : (backToKw pos (keywordEach kws X.env)).all (·.1.isSome) = true) (hks : (backToKw pos (keywordEach kws X.env)).filterMap (·.1) = ks)
    (hdb : (x == ("__debug__" : Str)) = false) (hpl : ((backTo pos (starEach [] X.env)).any (·.1) || (backToKw pos (keywordEach kws X.env)).any (·.1.isNone)) = false) :
    PE X (.Call (.Name x p) [] kws pos) (tCallN 0 ks.length sp gV E tNil tk) := by
  refine ⟨fun pins s σ H Q I h => ?_⟩
  refine wpAny_Call_Name_kw (ld_glob I hg hm ?_ hdb)
  refine PySem.W.callWith_KW0 (h₀ := X.base) I.ok.mod.kin hk hall (thn (hkw.run pos pins s σ H _ I h) fun ws s2 ⟨zs, H2, I2, rz, q1, q2, q3⟩ => ⟨I2.kIn, ?_⟩) hpl
  rw [hks]
  exact run_fnN F hr hb hx I2 .nil rz q1 q2 q3
/-- the values by the parameters' order -/
def gIx {α : Type} (d : α) (ix : List Nat) (zs : List α) : List α := ix.map fun i => zs.getD i d
theorem gIx_rel {ix : List Nat} {zs : List V} {ws : List Value} (r : Vals zs ws) : Vals (gIx .non ix zs) (gIx .none ix ws) := by
  induction ix with
  | nil => exact .nil
  | cons i ix ih =>
    refine .cons ?_ ih
    clear ih
    induction r generalizing i with
    | nil => exact (rfl : Value.none = Value.none)
    | cons h t ih =>
      cases i with
      | zero => exact h
      | succ i => exact ih i
theorem repL_getD {H : Hp} {Z : Zs} : ∀ {ds : List D} {zs : List V} (i : Nat), repL n H Z ds zs → rep n H Z (ds.getD i .non) (zs.getD i .non)
  | [], zs, i, h => by rw [show zs = [] from h]; exact (rfl : V.non = V.non)
  | d :: ds, zs, 0, ⟨v, r, e, h, t⟩ => by rw [e]; exact h
  | d :: ds, zs, i + 1, ⟨v, r, e, h, t⟩ => by rw [e]; exact repL_getD i t
theorem args_ix {H : Hp} {Z : Zs} {ds : List D} {zs : List V} (h : repL n H Z ds zs) : ∀ (ix : List Nat), ∃ fl, Args n H Z (ix.map fun i => PV.d (ds.getD i .non)) (gIx .non ix zs) fl fun _ => 0
  | [] => ⟨[], rfl, rfl, fun _ => rfl⟩
  | i :: ix => by
    obtain ⟨fl, a⟩ := args_ix h ix
    exact ⟨(fun _ => 0) :: fl, zs.getD i .non, gIx .non ix zs, fun _ => 0, fl, _, rfl, rfl, fun _ => rfl, ⟨_, rfl, repL_getD i h, fun _ => rfl⟩, a⟩
open Classical in
theorem callk_ok {f np : Nat} {es : List E} {ix : List Nat} {σ : L2.St} {H : Hp} {Q : VK} (h0 : noRd es = true) (hl : ix.length = np) (hwl : ∀ ps r ws, C f ps = some (r, ws) → ws.length = np) (h : tE n C (.clk f ix es) σ H Q) {E : XK} :
    tL n C es σ H fun zs H1 => zs.length = es.length ∧ spF n C f np (gIx .non ix zs) H1 Q E := by
  obtain ⟨ρ, F, R, Z, p, ρ', S, ev, k⟩ := h
  simp only [evE] at ev
  cases e1 : evL C es ρ with
  | none => rw [e1] at ev; cases ev
  | some q =>
    obtain ⟨ps, ρ1⟩ := q
    rw [e1] at ev
    dsimp only at ev
    cases e3 : allD ps with
    | none => rw [e3] at ev; cases ev
    | some ds =>
      rw [e3] at ev
      dsimp only at ev
      cases e2 : C f (ix.map fun i => .d (ds.getD i .non)) with
      | none => rw [e2] at ev; cases ev
      | some q =>
        obtain ⟨r, ws⟩ := q
        rw [e2] at ev
        simp only [Option.some.injEq, Prod.mk.injEq] at ev
        obtain ⟨rfl, rfl⟩ := ev
        refine ⟨ρ, F, R, Z, ps, ρ1, S, e1, noRd_ok h0, fun zs H1 F1 Z1 f1 g1 S1 r1 => ⟨by rw [← resL_vlen r1, evL_len e1], ?_⟩⟩
        obtain ⟨rd, hf1⟩ := allD_rep e3 (resL_own h0 r1)
        obtain ⟨fl, ar⟩ := args_ix rd ix
        have wl := hwl _ _ _ e2
        let Rc : Fp := fun a => if (1 ≤ R a ∨ ∃ j, 1 ≤ F1 j a) then 1 else 0
        have rc1 : ∀ a, (1 ≤ R a ∨ ∃ j, 1 ≤ F1 j a) → Rc a = 1 := fun a h => if_pos h
        have rc0 : ∀ a, ¬ (1 ≤ R a ∨ ∃ j, 1 ≤ F1 j a) → Rc a = 0 := fun a h => if_neg h
        have rcl : ∀ a, Rc a ≤ 1 := fun a => by
          by_cases hc : (1 ≤ R a ∨ ∃ j, 1 ≤ F1 j a)
          · rw [rc1 a hc]; exact Nat.le_refl _
          · rw [rc0 a hc]; exact Nat.zero_le _
        have hz : ∀ a, Z1 a → H1 a ≠ none ∧ Rc a = 0 ∧ (0 : Nat) = 0 := fun a z => by
          obtain ⟨z1, z2, z3⟩ := S1.zz a z
          have z2' : R a + f1 a = 0 := z2
          refine ⟨z1, rc0 a ?_, rfl⟩
          rintro (h | ⟨j, h⟩)
          · omega
          · have := z3 j; omega
        have hall : ∀ a, 1 ≤ Rc a → H1 a ≠ none := fun a h => by
          by_cases hc : (1 ≤ R a ∨ ∃ j, 1 ≤ F1 j a)
          · rcases hc with h | ⟨j, h⟩
            · exact S1.all a (by show 1 ≤ R a + f1 a; omega)
            · exact S1.there j a h
          · rw [rc0 a hc] at h; omega
        refine ⟨_, fpAt fl, Rc, Z1, r, ws, by rw [← hl]; exact List.length_map .., ar.sv (fun a => by have := rcl a; omega) hz hall, e2, wl, fun v H2 F2 Z2 g k2 S2 rv => ?_⟩
        have rR : ∀ a, R a ≤ Rc a := fun a => by
          by_cases hc : 1 ≤ R a
          · rw [rc1 a (.inl hc)]
            have : R a + f1 a ≤ 1 := S1.oneR a
            omega
          · omega
        have rF : ∀ j a, 1 ≤ F1 j a → Rc a = 1 := fun j a h => rc1 a (.inr ⟨j, h⟩)
        have S3 : Sv n H2 Z2 ρ1 σ F1 fun a => R a + g a := by
          constructor
          · exact S1.len
          · intro j
            have x := S1.at_ j
            unfold repO at x ⊢
            split
            · rename_i e
              rw [e] at x
              exact x
            · split at x
              · rename_i e _ e'
                exact absurd e' e
              · obtain ⟨w, e, q⟩ := x
                exact ⟨w, e, repV_mono _ w _ (fun a u hu k => k2.keep a u hu (k.elim .inr fun l => .inl (by rw [rF j a l]; exact Nat.le_refl _))) k2.zm q⟩
          · intro j a
            show F1 j a + (R a + g a) ≤ 1
            have := rR a
            have o1 : F1 j a + (R a + f1 a) ≤ 1 := S1.one j a
            have o2 : Rc a + g a ≤ 1 := S2.oneR a
            rcases Nat.eq_zero_or_pos (F1 j a) with q | q
            · omega
            · have := rF j a q
              omega
          · intro a
            have o2 : Rc a + g a ≤ 1 := S2.oneR a
            have := rR a
            show R a + g a ≤ 1
            omega
          · exact S1.dis
          · intro a z
            obtain ⟨z1, z2, z3⟩ := S2.zz a z
            have z2' : Rc a + g a = 0 := z2
            have := rR a
            refine ⟨z1, by show R a + g a = 0; omega, fun j => ?_⟩
            rcases Nat.eq_zero_or_pos (F1 j a) with q | q
            · exact q
            · have := rF j a q
              omega
          · intro a l
            have l' : 1 ≤ R a + g a := l
            have := rR a
            exact S2.all a (by show 1 ≤ Rc a + g a; omega)
        refine k v H2 F1 Z2 g ⟨fun a o e kp => ?_, fun a z => k2.zm a (g1.zm a z), fun j hj => g1.un j hj⟩ S3 rv
        have e1 : H1 a = some o := g1.keep a o e kp
        refine k2.keep a o e1 ?_
        rcases kp with l | l | ⟨j, hj, l⟩
        · exact .inl (Nat.le_trans l (rR a))
        · exact .inr (g1.zm a l)
        · refine .inl ?_
          rw [rF j a (by rw [(g1.un j hj).1]; exact l)]
          exact Nat.le_refl _
end
end Rt

set_option Elab.async false
set_option linter.all false
set_option maxRecDepth 100000
/-! Rt16: list comprehensions. -/
namespace Rt
open PySem PySem.Spec PyProof.Rows L2
section
variable {n : Nms} {C : Orc} {X : Cx} {pos : Pos} {W : Nat}
/-! ### slots wiped, put back -/
theorem wipe_len : ∀ {is : List Nat} {ρ : Env}, (Rt.wipe ρ is).length = ρ.length
  | [], _ => rfl
  | i :: is, ρ => by show (put (Rt.wipe ρ is) i .un).length = _; rw [put_length, wipe_len]
theorem wipe_out : ∀ {is : List Nat} {ρ : Env} {j : Nat}, j ∉ is → get (Rt.wipe ρ is) j = get ρ j
  | [], _, _, _ => rfl
  | i :: is, ρ, j, h => by
    show get (put (Rt.wipe ρ is) i .un) j = _
    rw [get_put_ne (fun e => h (by rw [e]; exact List.mem_cons_self)), wipe_out fun q => h (List.mem_cons_of_mem _ q)]
theorem get_put_un {ρ : Env} {i : Nat} : get (put ρ i .un) i = .un := by
  rcases Nat.lt_or_ge i ρ.length with h | h
  · exact get_put_same h
  · exact get_out (by rw [put_length]; exact h)
theorem wipe_in : ∀ {is : List Nat} {ρ : Env} {j : Nat}, j ∈ is → get (Rt.wipe ρ is) j = .un
  | [], _, _, h => by cases h
  | i :: is, ρ, j, h => by
    show get (put (Rt.wipe ρ is) i .un) j = _
    by_cases e : j = i
    · rw [e]; exact get_put_un
    · rw [get_put_ne e]
      exact wipe_in ((List.mem_cons.mp h).resolve_left e)
theorem wipeσ_out : ∀ {is : List Nat} {σ : L2.St} {j : Nat}, j ∉ is → (L2.wipe σ is)[j]? = σ[j]?
  | [], _, _, _ => rfl
  | i :: is, σ, j, h => by
    show ((L2.wipe σ is).set i none)[j]? = _
    rw [List.getElem?_set_ne (fun e => h (by rw [e]; exact List.mem_cons_self)), wipeσ_out fun q => h (List.mem_cons_of_mem _ q)]
theorem wipeσ_in : ∀ {is : List Nat} {σ : L2.St} {j : Nat}, j ∈ is → (L2.wipe σ is)[j]? = if j < σ.length then some none else none
  | [], _, _, h => by cases h
  | i :: is, σ, j, h => by
    show ((L2.wipe σ is).set i none)[j]? = _
    by_cases e : j = i
    · subst e
      rw [List.getElem?_set]
      simp only [if_true, wipe_length]
    · rw [List.getElem?_set_ne (fun q => e q.symm)]
      exact wipeσ_in ((List.mem_cons.mp h).resolve_left e)
theorem wipeσ_of {is : List Nat} {σ σ2 : L2.St} (h : Sm is (L2.wipe σ is) σ2) (hl : σ2.length = σ.length) : L2.wipe σ2 is = L2.wipe σ is := by
  refine List.ext_getElem? fun j => ?_
  by_cases hj : j ∈ is
  · rw [wipeσ_in hj, wipeσ_in hj, hl]
  · rw [wipeσ_out hj, h j (by simpa using hj), wipeσ_out hj]
theorem restore_len : ∀ {is : List Nat} {ρ ρ0 : Env}, (restore ρ ρ0 is).length = ρ.length
  | [], _, _ => rfl
  | i :: is, ρ, ρ0 => by show (put (restore ρ ρ0 is) i (get ρ0 i)).length = _; rw [put_length, restore_len]
theorem restore_out : ∀ {is : List Nat} {ρ ρ0 : Env} {j : Nat}, j ∉ is → get (restore ρ ρ0 is) j = get ρ j
  | [], _, _, _, _ => rfl
  | i :: is, ρ, ρ0, j, h => by
    show get (put (restore ρ ρ0 is) i (get ρ0 i)) j = _
    rw [get_put_ne (fun e => h (by rw [e]; exact List.mem_cons_self)), restore_out fun q => h (List.mem_cons_of_mem _ q)]
theorem restore_in : ∀ {is : List Nat} {ρ ρ0 : Env} {j : Nat}, j ∈ is → ρ.length = ρ0.length → get (restore ρ ρ0 is) j = get ρ0 j
  | [], _, _, _, h, _ => by cases h
  | i :: is, ρ, ρ0, j, h, hl => by
    show get (put (restore ρ ρ0 is) i (get ρ0 i)) j = _
    by_cases e : j = i
    · subst e
      rcases Nat.lt_or_ge j ρ.length with q | q
      · rw [get_put_same (by rw [restore_len]; exact q)]
      · rw [get_out (by rw [put_length, restore_len]; exact q), get_out (by rw [← hl]; exact q)]
    · rw [get_put_ne e]
      exact restore_in ((List.mem_cons.mp h).resolve_left e) hl
/-- .. what they owned is dropped -/
def offF (is : List Nat) (F : Nat → Fp) : Nat → Fp := fun j => if is.contains j then fun _ => 0 else F j
theorem offF_in {is : List Nat} {F : Nat → Fp} {j : Nat} (h : j ∈ is) : offF is F j = fun _ => 0 := if_pos (by simpa using h)
theorem offF_out {is : List Nat} {F : Nat → Fp} {j : Nat} (h : j ∉ is) : offF is F j = F j := if_neg (by simpa using h)
theorem offF_le {is : List Nat} {F : Nat → Fp} {j : Nat} {a : Addr} : offF is F j a ≤ F j a := by
  by_cases h : j ∈ is
  · rw [offF_in h]; exact Nat.zero_le _
  · rw [offF_out h]; exact Nat.le_refl _
/-- slots replaced where nothing is owned -/
theorem Sv.repl {H : Hp} {Z : Zs} {ρ ρ' : Env} {σ σ' : L2.St} {F : Nat → Fp} {R : Fp} {is : List Nat} (S : Sv n H Z ρ σ F R) (hl : ρ'.length = ρ.length) (hl' : σ'.length = σ.length)
    (ho : ∀ j, j ∉ is → get ρ' j = get ρ j ∧ σ'[j]? = σ[j]?) (hi : ∀ j, j ∈ is → repO n H Z (get ρ' j) (σ'[j]?) fun _ => 0) : Sv n H Z ρ' σ' (offF is F) R where
  len := by rw [hl, hl', S.len]
  at_ := fun j => by
    by_cases h : j ∈ is
    · rw [offF_in h]; exact hi j h
    · rw [offF_out h, (ho j h).1, (ho j h).2]; exact S.at_ j
  one := fun j a => Nat.le_trans (Nat.add_le_add_right offF_le _) (S.one j a)
  oneR := S.oneR
  dis := fun i j a h => by
    have h1 := offF_le (is := is) (F := F) (j := i) (a := a)
    have h2 := offF_le (is := is) (F := F) (j := j) (a := a)
    have := S.dis i j a h
    omega
  zz := fun a z => ⟨(S.zz a z).1, (S.zz a z).2.1, fun i => by
    have := offF_le (is := is) (F := F) (j := i) (a := a)
    have := (S.zz a z).2.2 i
    omega⟩
  all := S.all
theorem Sv.wiped {H : Hp} {Z : Zs} {ρ : Env} {σ : L2.St} {F : Nat → Fp} {R : Fp} (S : Sv n H Z ρ σ F R) (is : List Nat) : Sv n H Z (Rt.wipe ρ is) (L2.wipe σ is) (offF is F) R :=
  S.repl wipe_len (wipe_length σ is) (fun j h => ⟨wipe_out h, wipeσ_out h⟩) fun j h => by rw [wipe_in h]; exact fun _ => rfl
/-- an object that another owns is written -/
theorem Sv.poke {H : Hp} {Z : Zs} {ρ : Env} {σ : L2.St} {F : Nat → Fp} {R : Fp} {D : Addr} {o : HO} (S : Sv n H Z ρ σ F R) (hz : ¬ Z D) (hF : ∀ j, F j D = 0) : Sv n (upd H D o) Z ρ σ F R where
  len := S.len
  at_ := fun j => by
    have x := S.at_ j
    unfold repO at x ⊢
    split
    · rename_i e
      rw [e] at x
      exact x
    · split at x
      · rename_i e _ e'
        exact absurd e' e
      · obtain ⟨w, e, q⟩ := x
        exact ⟨w, e, repV_upd hz (hF j) q⟩
  one := S.one
  oneR := S.oneR
  dis := S.dis
  zz := fun a z => ⟨by
    have : a ≠ D := fun e => hz (e ▸ z)
    rw [upd_ne this]
    exact (S.zz a z).1, (S.zz a z).2⟩
  all := fun a l => by
    by_cases e : a = D
    · rw [e, upd_same]; simp
    · rw [upd_ne e]; exact S.all a l
/-! ### a clause's tests -/
def tCs (n : Nms) (C : Orc) (cs : List E) : TT := fun σ H Q => ∃ ρ F R Z b ρ', Sv n H Z ρ σ F R ∧ evCs C cs ρ = some (b, ρ') ∧
  ∀ H' F' Z', Go (mset (mtL cs)) R H Z F ρ H' Z' F' ρ' → Sv n H' Z' ρ' σ F' R → Q b H'
theorem pts_wk {a : List Expr} {t t' : TT} (h : PTs X a t) (w : ∀ σ H Q, t' σ H Q → t σ H Q) : PTs X a t' := ⟨fun pins s σ H Q I x => h.run pins s σ H Q I (w _ _ _ x)⟩
theorem csNil : PTs X [] (tCs n C []) := pts_wk pts_nil fun σ H Q ⟨ρ, F, R, Z, b, ρ', S, e, k⟩ => by
  simp only [evCs, Option.some.injEq, Prod.mk.injEq] at e
  obtain ⟨rfl, rfl⟩ := e
  exact k H F Z Go.refl S
theorem csOne {e : E} {a : Expr} (h : PT X a (tT n C e)) : PTs X [a] (tCs n C [e]) := pts_wk (pts_one h) fun σ H Q ⟨ρ, F, R, Z, b, ρ', S, ev, k⟩ => by
  refine ⟨ρ, F, R, Z, b, ρ', S, ?_, fun H1 F1 Z1 g1 S1 => k H1 F1 Z1 (g1.mono fun i hi => by simpa [mtL] using hi) S1⟩
  simp only [evCs] at ev
  unfold evT
  cases e1 : evE C e ρ with
  | none => rw [e1] at ev; cases ev
  | some q =>
    obtain ⟨v, ρ1⟩ := q
    rw [e1] at ev
    dsimp only at ev ⊢
    cases e2 : tru v with
    | none => rw [e2] at ev; cases ev
    | some c =>
      rw [e2] at ev
      cases c <;> exact ev
/-! ### the loop -/
def lcBody (C : Orc) (tg : Tg) (cs : List E) (elt : E) : PV → Env → Option (Option PV × Env) := fun x ρ' => match bind tg x (Rt.wipe ρ' (tgs tg)) with
  | some ρa => match evCs C cs ρa with
    | some (true, ρb) => match evE C elt ρb with
      | some (y, ρc) => some (some y, ρc)
      | none => none
    | some (false, ρb) => some (none, ρb)
    | none => none
  | none => none
theorem evE_lc {tg : Tg} {it : Rt.It} {cs : List E} {elt : E} {ρ : Env} : evE C (.lc tg it cs elt) ρ = match evIt C it ρ with
    | some (xs, ρ1) => if pureAt ρ1 (tgs tg) then
        match lcGo (lcBody C tg cs elt) xs [] ρ1 with
        | some (ys, ρ2) => if szB ys.length then some (mkLst ys, restore ρ2 ρ1 (tgs tg)) else none
        | none => none
      else none
    | none => none := by simp only [evE]; rfl
theorem lcGo_len {α : Type} {f : PV → Env → Option (Option α × Env)} : ∀ {xs : List PV} {acc fin : List α} {ρ ρ' : Env}, lcGo f xs acc ρ = some (fin, ρ') → acc.length ≤ fin.length
  | [], acc, fin, ρ, ρ', e => by cases e; exact Nat.le_refl _
  | x :: xs, acc, fin, ρ, ρ', e => by
    simp only [lcGo] at e
    split at e
    · have := lcGo_len e
      rw [List.length_append] at this
      simp only [List.length_cons, List.length_nil] at this
      omega
    · exact lcGo_len e
    · cases e
theorem lc_walk {J : L2.It} {g : TG} {tt : TT} {te : TE} {vs : List Nat} {σ : L2.St} {D : Addr} {Q : VK} {H0 : Hp} (m : Nat) (Pv : Nat → Hp → Prop) (h0 : Pv 0 H0) (hgo : ∀ i H, i < m → Pv i H → J.go i H) (hstop : ∀ H, Pv m H → J.stop m H)
    (hs : ∀ i x H H', i < m → Pv i H → J.yld i H x H' → g x (L2.wipe σ vs) H' fun σ2 H2 => L2.wipe σ2 vs = L2.wipe σ vs ∧ tt σ2 H2 fun b H3 =>
      if b = true then te σ2 H3 fun y H4 => ∃ acc, H4 D = some (.lst acc) ∧ acc.length < sizeLine ∧ Pv (i + 1) (upd H4 D (.lst (acc ++ [y]))) else Pv (i + 1) H3) (hd : ∀ H, Pv m H → Q (.ref D) H) :
    ∃ W : Nat → Nat → Hp → Prop, (∃ m, W 0 m H0) ∧ ∀ i m H, W i m H →
      (J.stop i H ∧ Q (.ref D) H) ∨ (J.go i H ∧ ∃ Nx : Hp → Prop, (∀ H', Nx H' → ∃ m', m' < m ∧ W (i + 1) m' H') ∧ ∀ x H', J.yld i H x H' → g x (L2.wipe σ vs) H' fun σ2 H2 => L2.wipe σ2 vs = L2.wipe σ vs ∧ tt σ2 H2 fun b H3 =>
        if b = true then te σ2 H3 fun y H4 => ∃ acc, H4 D = some (.lst acc) ∧ acc.length < sizeLine ∧ Nx (upd H4 D (.lst (acc ++ [y]))) else Nx H3) := by
  refine ⟨fun i k H => i ≤ m ∧ k = m - i ∧ Pv i H, ⟨m, Nat.zero_le _, rfl, h0⟩, fun i k H ⟨hi, hk, hp⟩ => ?_⟩
  rcases Nat.lt_or_ge i m with l | l
  · exact .inr ⟨hgo i H l hp, Pv (i + 1), fun H' h => ⟨m - (i + 1), by omega, l, rfl, h⟩, fun x H' y => hs i x H H' l hp y⟩
  · have e : i = m := by omega
    subst e
    exact .inl ⟨hstop H hp, hd H hp⟩
theorem pureAt_F {H : Hp} {Z : Zs} {ρ : Env} {σ : L2.St} {F : Nat → Fp} {R : Fp} (S : Sv n H Z ρ σ F R) : ∀ {is : List Nat}, pureAt ρ is = true → ∀ j ∈ is, (get ρ j = .un ∨ ∃ x, get ρ j = .d x) ∧ ∀ a, F j a = 0 := by
  intro is h j hj
  have := List.all_eq_true.mp h j hj
  have x := S.at_ j
  cases q : get ρ j with
  | un => rw [q] at x; exact ⟨.inl rfl, x⟩
  | d d =>
    rw [q] at x
    obtain ⟨v, _, r⟩ := x
    exact ⟨.inr ⟨d, rfl⟩, r.2⟩
  | _ => rw [q] at this; cases this
/-- the state of a turn -/
structure LcS (n : Nms) (C : Orc) (tg : Tg) (cs : List E) (elt : E) (σ : L2.St) (R1 : Fp) (m : Nat → Bool) (R : Fp) (H1 : Hp) (Z1 : Zs) (F1 : Nat → Fp) (ρ1 : Env) (Pw : Hp → Zs → Prop) (D : Addr) (rest : List PV) (fin : List PV) (ρ2 : Env) (H : Hp) (ρi : Env) (F : Nat → Fp) (Z : Zs) (ys : List PV) (ws : List V) (g : Fp) : Prop where
  S : Sv n H Z (Rt.wipe ρi (tgs tg)) (L2.wipe σ (tgs tg)) F fun a => R1 a + (dl D a + g a)
  pw : Pw H Z
  hD : H D = some (.lst ws)
  rl : repVL n H Z ys ws g
  go : Go m R H1 Z1 (offF (tgs tg) F1) (Rt.wipe ρ1 (tgs tg)) H Z F (Rt.wipe ρi (tgs tg))
  off : ∀ j ∈ tgs tg, ∀ a, F j a = 0
  ln : ρi.length = ρ1.length
  ev : lcGo (lcBody C tg cs elt) rest ys ρi = some (fin, ρ2)
theorem bind_len : ∀ (tg : Tg) {p : PV} {ρ ρ' : Env}, bind tg p ρ = some ρ' → ρ'.length = ρ.length := by
  have key : (∀ tg : Tg, ∀ {p : PV} {ρ ρ' : Env}, bind tg p ρ = some ρ' → ρ'.length = ρ.length) ∧ True := by
    refine ⟨fun tg => ?_, trivial⟩
    exact Tg.rec (motive_1 := fun tg => ∀ {p : PV} {ρ ρ' : Env}, bind tg p ρ = some ρ' → ρ'.length = ρ.length) (motive_2 := fun ts => ∀ {ps : List PV} {ρ ρ' : Env}, bindL ts ps ρ = some ρ' → ρ'.length = ρ.length)
      (fun i p ρ ρ' e => by
        replace e : some (put ρ i p) = some ρ' := e
        cases e
        exact put_length)
      (fun i p ρ ρ' e => by
        replace e : (match Rt.frz p with | some x => some (put ρ i (.d x)) | none => none) = some ρ' := e
        split at e
        · cases e; exact put_length
        · cases e)
      (fun ts ih p ρ ρ' e => by
        replace e : (match asU p with | some vs => bindL ts vs ρ | none => none) = some ρ' := e
        split at e
        · exact ih e
        · cases e)
      (fun {ps ρ ρ'} e => by
        cases ps with
        | nil => cases e; rfl
        | cons p ps => cases e)
      (fun t ts ih1 ih2 {ps ρ ρ'} e => by
        cases ps with
        | nil => cases e
        | cons p ps =>
          replace e : (match bind t p ρ with | some ρ1 => bindL ts ps ρ1 | none => none) = some ρ' := e
          split at e
          · rename_i ρ1 h
            rw [ih2 e, ih1 h]
          · cases e)
      tg
  exact key.1
theorem lcE {tg : Tg} {it : Rt.It} {cs : List E} {elt : E} {own : List (Str × Nat)} {te iter ex : Expr} {ifs : List Expr} {scope : Scope} (hown : own.map (·.2) = tgs tg) (hr : rdOf elt = none) {σ : L2.St} {H : Hp} {Q : VK} (h : tE n C (.lc tg it cs elt) σ H Q) :
    tLc (tI n C it) (gT n tg) (tCs n C cs) (tE n C elt) (own.map (·.2)) σ H Q := by
  rw [hown]
  obtain ⟨ρ, F, R, Z, p, ρ', S, ev, k⟩ := h
  rw [evE_lc] at ev
  cases e1 : evIt C it ρ with
  | none => rw [e1] at ev; cases ev
  | some q =>
    obtain ⟨xs, ρ1⟩ := q
    rw [e1] at ev
    dsimp only at ev
    by_cases hpu : pureAt ρ1 (tgs tg) = true
    case neg => rw [if_neg hpu] at ev; cases ev
    rw [if_pos hpu] at ev
    cases e2 : lcGo (lcBody C tg cs elt) xs [] ρ1 with
    | none => rw [e2] at ev; cases ev
    | some q =>
      obtain ⟨fin, ρ2⟩ := q
      rw [e2] at ev
      dsimp only at ev
      by_cases hsz : szB fin.length = true
      case neg => rw [if_neg hsz] at ev; cases ev
      rw [if_pos hsz] at ev
      simp only [Option.some.injEq, Prod.mk.injEq] at ev
      obtain ⟨rfl, rfl⟩ := ev
      have hfin : fin.length ≤ 16777216 := of_decide_eq_true hsz
      refine ⟨ρ, F, R, Z, xs, ρ1, S, e1, fun J H1 F1 Z1 f1 Pw g1 S1 w pw D hD => ?_⟩
      have hzD : ¬ Z1 D := fun z => S1.zt D z hD
      have xD : Ext H1 Z1 (upd H1 D (.lst [])) Z1 := ext_upd hD S1.zt
      refine lc_walk (Q := Q) xs.length (fun i Hi => ∃ ρi Fi Zi ys ws g, LcS n C tg cs elt σ (fun a => R a + f1 a) (mset (mtL cs ++ (mtE elt ++ tgs tg))) (fun a => R a + f1 a) H1 Z1 F1 ρ1 Pw D (xs.drop i) fin ρ2 Hi ρi Fi Zi ys ws g)
        ⟨ρ1, offF (tgs tg) F1, Z1, [], [], fun _ => 0, ?_, ?_, upd_same, ⟨rfl, fun _ => rfl⟩, ?_, fun j hj a => by rw [offF_in hj], rfl, e2⟩
        (fun i Hi hi ⟨ρi, Fi, Zi, ys, ws, g, L⟩ => w.go i Hi Zi L.pw hi) (fun Hi ⟨ρi, Fi, Zi, ys, ws, g, L⟩ => w.stop Hi Zi L.pw) ?_ ?_
      · refine ((S1.wiped (tgs tg)).add xD (f := dl D) (dl_le D) fun b l => ?_).congr fun b => by show R b + f1 b + (dl D b + 0) = R b + f1 b + dl D b; rfl
        rw [dl_pos l]
        exact ⟨hD, hzD, by rw [upd_same]; simp⟩
      · exact w.keep _ _ _ _ pw ⟨fun a o e _ => xD.keep a o e, xD.zm⟩
      · exact Go.refl.ext_ xD
      · -- a turn
        intro i x Hi H' hi ⟨ρi, Fi, Zi, ys, ws, g, L⟩ hy
        obtain ⟨q, hq⟩ := get_of_lt hi
        obtain ⟨Z2, x2, r2⟩ := w.yld i Hi Zi x H' q L.S.zt L.pw hq hy
        have S2 := L.S.ext x2
        have ev := L.ev
        rw [drop_cons hq] at ev
        simp only [lcGo] at ev
        have keepR : ∀ {Ha Hb : Hp} {Za Zb : Zs}, Kp (fun a => R a + f1 a + (dl D a + g a)) Ha Za Hb Zb → Kp (fun a => R a + f1 a) Ha Za Hb Zb := fun k => k.less fun a => Nat.le_add_right _ _
        cases e3 : bind tg q (Rt.wipe ρi (tgs tg)) with
        | none =>
          rw [show lcBody C tg cs elt q ρi = none by unfold lcBody; rw [e3]] at ev
          cases ev
        | some ρa =>
          have lna : ρa.length = ρ1.length := by rw [bind_len tg e3, wipe_len, L.ln]
          refine ⟨Rt.wipe ρi (tgs tg), Fi, fun a => R a + f1 a + (dl D a + g a), Z2, q, fun _ => 0, ρa, S2.zero fun _ => rfl, r2, e3, fun σ2 F2 Z3 z3 S3 m3 u3 => ⟨wipeσ_of m3 (by rw [← S3.len, bind_len tg e3, wipe_len]; have := L.S.len; rw [wipe_len, wipe_length] at this; exact this), ?_⟩⟩
          have hw2 : L2.wipe σ2 (tgs tg) = L2.wipe σ (tgs tg) := wipeσ_of m3 (by rw [← S3.len, bind_len tg e3, wipe_len]; have := L.S.len; rw [wipe_len, wipe_length] at this; exact this)
          have hl2 : σ2.length = σ.length := by rw [← S3.len, bind_len tg e3, wipe_len]; have := L.S.len; rw [wipe_len, wipe_length] at this; exact this
          -- the step so far
          have go2 : Go (mset (mtL cs ++ (mtE elt ++ tgs tg))) (fun a => R a + f1 a) H1 Z1 (offF (tgs tg) F1) (Rt.wipe ρ1 (tgs tg)) H' Z3 F2 ρa := by
            refine ⟨fun a o e kp => x2.keep a o (L.go.keep a o e kp), fun a z => z3 a (x2.zm a (L.go.zm a z)), fun j hj => ?_⟩
            have hj' : (tgs tg).contains j = false := by
              rw [mset_app, mset_app] at hj
              exact (Bool.or_eq_false_iff.mp (Bool.or_eq_false_iff.mp hj).2).2
            exact ⟨fun a => ((u3 j hj').1 a).trans ((L.go.un j hj).1 a), (u3 j hj').2.trans (L.go.un j hj).2⟩
          have pw2 : Pw H' Z3 := w.keep _ _ _ _ L.pw ⟨fun a o e _ => x2.keep a o e, fun a z => z3 a (x2.zm a z)⟩
          have hD2 : H' D = some (.lst ws) := x2.keep _ _ L.hD
          have rl2 : repVL n H' Z3 ys ws g := repVL_mono ys ws g (fun a o e _ => x2.keep a o e) (fun a z => z3 a (x2.zm a z)) L.rl
          cases e4 : evCs C cs ρa with
          | none =>
            rw [show lcBody C tg cs elt q ρi = none by unfold lcBody; rw [e3]; dsimp only; rw [e4]] at ev
            cases ev
          | some qq =>
            obtain ⟨b, ρb⟩ := qq
            refine ⟨ρa, F2, fun a => R a + f1 a + (dl D a + g a), Z3, b, ρb, S3, e4, fun H4 F4 Z4 g4 S4 => ?_⟩
            have kp4 := g4.kp
            have go4 : Go (mset (mtL cs ++ (mtE elt ++ tgs tg))) (fun a => R a + f1 a) H1 Z1 (offF (tgs tg) F1) (Rt.wipe ρ1 (tgs tg)) H4 Z4 F4 ρb :=
              (go2.trans g4 fun a => Nat.le_add_right _ _).mono fun j hj => (Bool.or_eq_true_iff.mp hj).elim id fun h => mset_l h
            have hRD : 1 ≤ R D + f1 D + (dl D D + g D) := by rw [dl_self]; omega
            have hD4 : H4 D = some (.lst ws) := kp4.keep _ _ hD2 (.inl hRD)
            have rl4 : repVL n H4 Z4 ys ws g := repVL_mono ys ws g (fun a o e l => kp4.keep a o e (l.elim .inr fun l => .inl (by show 1 ≤ R a + f1 a + (dl D a + g a); omega))) kp4.zm rl2
            have pw4 : Pw H4 Z4 := w.keep _ _ _ _ pw2 (kp4.less fun a => Nat.le_add_right _ _)
            cases b with
            | false =>
              try dsimp only
              rw [if_neg Bool.false_ne_true]
              rw [show lcBody C tg cs elt q ρi = some (none, ρb) by unfold lcBody; rw [e3]; dsimp only; rw [e4]] at ev
              refine ⟨ρb, offF (tgs tg) F4, Z4, ys, ws, g, ?_, pw4, hD4, rl4, ?_, fun j hj a => by rw [offF_in hj], ?_, ev⟩
              · have := S4.wiped (tgs tg)
                rw [hw2] at this
                exact this
              · exact ⟨go4.keep, go4.zm, fun j hj => by
                  have hj' : j ∉ tgs tg := by
                    rw [mset_app, mset_app] at hj
                    simpa [mset] using (Bool.or_eq_false_iff.mp (Bool.or_eq_false_iff.mp hj).2).2
                  rw [offF_out hj', wipe_out hj']
                  exact go4.un j hj⟩
              · rw [S4.len, hl2, ← S1.len]
            | true =>
              try dsimp only
              rw [if_pos rfl]
              cases e5 : evE C elt ρb with
              | none =>
                rw [show lcBody C tg cs elt q ρi = none by unfold lcBody; rw [e3]; dsimp only; rw [e4]; dsimp only; rw [e5]] at ev
                cases ev
              | some yy =>
                obtain ⟨y, ρc⟩ := yy
                rw [show lcBody C tg cs elt q ρi = some (some y, ρc) by unfold lcBody; rw [e3]; dsimp only; rw [e4]; dsimp only; rw [e5]] at ev
                refine ⟨ρb, F4, fun a => R a + f1 a + (dl D a + g a), Z4, y, ρc, S4, e5, fun u H5 F5 Z5 f5 g5 S5 r5 => ?_⟩
                have r5' := (resV_own hr).mp r5
                have kp5 := g5.kp
                have hD5 : H5 D = some (.lst ws) := kp5.keep _ _ hD4 (.inl hRD)
                have rl5 : repVL n H5 Z5 ys ws g := repVL_mono ys ws g (fun a o e l => kp5.keep a o e (l.elim .inr fun l => .inl (by show 1 ≤ R a + f1 a + (dl D a + g a); omega))) kp5.zm rl4
                have pw5 : Pw H5 Z5 := w.keep _ _ _ _ pw4 (kp5.less fun a => Nat.le_add_right _ _)
                have hlen : (ys ++ [y]).length ≤ fin.length := lcGo_len ev
                have hone : R D + f1 D + (dl D D + g D) + f5 D ≤ 1 := S5.oneR D
                rw [dl_self] at hone
                have hz5 : ¬ Z5 D := fun z => by
                  have h0 : R D + f1 D + (dl D D + g D) + f5 D = 0 := (S5.zz D z).2.1
                  rw [dl_self] at h0
                  omega
                have hF5 : ∀ j, F5 j D = 0 := fun j => by
                  have h0 : F5 j D + (R D + f1 D + (dl D D + g D) + f5 D) ≤ 1 := S5.one j D
                  rw [dl_self] at h0
                  omega
                refine ⟨ws, hD5, ?_, ρc, offF (tgs tg) F5, Z5, ys ++ [y], ws ++ [u], fun a => g a + f5 a, ?_, ?_, upd_same, ?_, ?_, fun j hj a => by rw [offF_in hj], ?_, ev⟩
                · rw [← repVL_len rl5, sz_eq]
                  rw [List.length_append] at hlen
                  simp only [List.length_cons, List.length_nil] at hlen
                  omega
                · have S6 := S5.wiped (tgs tg)
                  rw [hw2] at S6
                  refine (Sv.poke S6 hz5 (fun j => ?_) (o := .lst (ws ++ [u]))).congr fun b => by show R b + f1 b + (dl D b + (g b + f5 b)) = R b + f1 b + (dl D b + g b) + f5 b; omega
                  have := offF_le (is := tgs tg) (F := F5) (j := j) (a := D)
                  rw [hF5 j] at this
                  omega
                · refine w.keep _ _ _ _ pw5 ⟨fun a o e l => ?_, fun a z => z⟩
                  have : a ≠ D := fun e => by
                    subst e
                    rcases l with l | l
                    · have l' : 1 ≤ R a + f1 a := l
                      omega
                    · exact hz5 l
                  rw [upd_ne this]
                  exact e
                · exact repVL_app (repVL_upd hz5 (by omega) rl5) ⟨u, [], f5, fun _ => 0, rfl, repV_upd hz5 (by omega) r5', ⟨rfl, fun _ => rfl⟩, fun _ => rfl⟩
                · have go5 : Go (mset (mtL cs ++ (mtE elt ++ tgs tg))) (fun a => R a + f1 a) H1 Z1 (offF (tgs tg) F1) (Rt.wipe ρ1 (tgs tg)) H5 Z5 F5 ρc :=
                    (go4.trans g5 fun a => Nat.le_add_right _ _).mono fun j hj => (Bool.or_eq_true_iff.mp hj).elim id fun h => mset_r (mset_l h)
                  refine ⟨fun a o e kp => ?_, go5.zm, fun j hj => ?_⟩
                  · have : a ≠ D := fun q => by
                      subst q
                      rw [hD] at e
                      cases e
                    rw [upd_ne this]
                    exact go5.keep a o e kp
                  · have hj' : j ∉ tgs tg := by
                      rw [mset_app, mset_app] at hj
                      simpa [mset] using (Bool.or_eq_false_iff.mp (Bool.or_eq_false_iff.mp hj).2).2
                    rw [offF_out hj', wipe_out hj']
                    exact go5.un j hj
                · rw [S5.len, hl2, ← S1.len]
      · -- the end
        intro Hi ⟨ρi, Fi, Zi, ys, ws, g, L⟩
        have ev := L.ev
        rw [List.drop_length] at ev
        cases ev
        have pu := pureAt_F S1 hpu
        have hun : ∀ j, j ∉ tgs tg → get (restore ρ2 ρ1 (tgs tg)) j = get (Rt.wipe ρ2 (tgs tg)) j := fun j hj => by rw [restore_out hj, wipe_out hj]
        have S6 : Sv n Hi Zi (restore ρ2 ρ1 (tgs tg)) σ (offF (tgs tg) Fi) fun a => R a + f1 a + (dl D a + g a) := by
          refine L.S.repl (by rw [restore_len, wipe_len]) (wipe_length σ _).symm (fun j hj => ⟨hun j hj, (wipeσ_out hj).symm⟩) fun j hj => ?_
          rw [restore_in hj L.ln]
          have x := S1.at_ j
          rcases (pu j hj).1 with q | ⟨d, q⟩
          · rw [q]; exact fun _ => rfl
          · rw [q] at x ⊢
            obtain ⟨v, hv, rv⟩ := x
            exact ⟨v, hv, L.go.pure_ rv.1, fun _ => rfl⟩
        refine k (.ref D) Hi (offF (tgs tg) Fi) Zi (fun a => dl D a + g a) ?_ ((S6.less fun a => by show R a + (dl D a + g a) ≤ _; omega)) ?_
        · refine ⟨fun a o e kp => ?_, fun a z => L.go.zm a (g1.zm a z), fun j hj => ?_⟩
          · have h1 : H1 a = some o := g1.keep a o e (kp.imp id (Or.imp id fun ⟨j, hj, l⟩ => ⟨j, by
              have hj' : mset (mtI it ++ (mtL cs ++ (mtE elt ++ tgs tg))) j = false := hj
              rw [mset_app] at hj'
              exact (Bool.or_eq_false_iff.mp hj').1, l⟩))
            refine L.go.keep a o h1 ?_
            rcases kp with l | l | ⟨j, hj, l⟩
            · exact .inl (Nat.le_trans l (Nat.le_add_right _ _))
            · exact .inr (.inl (g1.zm a l))
            · have hj' : mset (mtI it ++ (mtL cs ++ (mtE elt ++ tgs tg))) j = false := hj
              rw [mset_app] at hj'
              obtain ⟨j1, j2⟩ := Bool.or_eq_false_iff.mp hj'
              refine .inr (.inr ⟨j, j2, ?_⟩)
              have j3 : j ∉ tgs tg := by
                rw [mset_app, mset_app] at j2
                simpa [mset] using (Bool.or_eq_false_iff.mp (Bool.or_eq_false_iff.mp j2).2).2
              rw [offF_out j3, (g1.un j j1).1]
              exact l
          · have hj' : mset (mtI it ++ (mtL cs ++ (mtE elt ++ tgs tg))) j = false := hj
            rw [mset_app] at hj'
            obtain ⟨j1, j2⟩ := Bool.or_eq_false_iff.mp hj'
            have j3 : j ∉ tgs tg := by
              rw [mset_app, mset_app] at j2
              simpa [mset] using (Bool.or_eq_false_iff.mp (Bool.or_eq_false_iff.mp j2).2).2
            refine ⟨fun a => ?_, ?_⟩
            · rw [offF_out j3, (L.go.un j j2).1, offF_out j3]
              exact (g1.un j j1).1 a
            · rw [hun j j3, (L.go.un j j2).2, wipe_out j3]
              exact (g1.un j j1).2
        · have rr := L.rl
          refine (resV_own (show rdOf (.lc tg it cs elt) = none from rfl)).mpr ?_
          show repV n Hi Zi (mkLst _) (.ref D) fun a => dl D a + g a
          unfold mkLst
          split
          · rename_i ds e
            obtain ⟨h1, h2⟩ := allD_rep e rr
            exact ⟨D, ws, rfl, L.hD, h1, fun a => by show dl D a + g a = dl D a; rw [h2]; rfl⟩
          · exact ⟨D, ws, g, rfl, L.hD, rr, fun _ => rfl⟩
end
end Rt

set_option Elab.async false
set_option linter.all false
set_option maxRecDepth 100000
/-! Rt17: sorted; index; isinstance. -/
namespace Rt
open PySem PySem.Spec PyProof.Rows L2
/-! ### the order of lists of ints -/
theorem lexI_asym : ∀ (x y : List Int), lexI x y = true → lexI y x = false
  | [], [], h => by cases h
  | [], _ :: _, _ => rfl
  | _ :: _, [], h => by cases h
  | a :: x, b :: y, h => by
    simp only [lexI] at h ⊢
    by_cases e : a = b
    · subst e
      rw [if_pos rfl] at h ⊢
      exact lexI_asym x y h
    · rw [if_neg e] at h
      rw [if_neg fun q => e q.symm]
      have := of_decide_eq_true h
      exact decide_eq_false (by omega)
theorem lexI_tr : ∀ (x y z : List Int), lexI y x = false → lexI z y = false → lexI z x = false
  | [], _, [], _, _ => rfl
  | [], y, c :: z, h1, h2 => rfl
  | a :: x, [], z, h1, h2 => by cases h1
  | a :: x, b :: y, [], h1, h2 => by cases h2
  | a :: x, b :: y, c :: z, h1, h2 => by
    simp only [lexI] at h1 h2 ⊢
    by_cases e1 : b = a
    · subst e1
      rw [if_pos rfl] at h1
      by_cases e2 : c = b
      · subst e2
        rw [if_pos rfl] at h2 ⊢
        exact lexI_tr x y z h1 h2
      · rw [if_neg e2] at h2 ⊢
        exact h2
    · rw [if_neg e1] at h1
      by_cases e2 : c = b
      · subst e2
        rw [if_neg e1]
        exact h1
      · rw [if_neg e2] at h2
        have q1 := of_decide_eq_false h1
        have q2 := of_decide_eq_false h2
        rw [if_neg (by omega)]
        exact decide_eq_false (by omega)
theorem lexI_anti : ∀ (x y : List Int), lexI x y = false → lexI y x = false → x = y
  | [], [], _, _ => rfl
  | [], _ :: _, h, _ => by cases h
  | _ :: _, [], _, h => by cases h
  | a :: x, b :: y, h1, h2 => by
    simp only [lexI] at h1 h2
    by_cases e : a = b
    · subst e
      rw [if_pos rfl] at h1 h2
      rw [lexI_anti x y h1 h2]
    · rw [if_neg e] at h1
      rw [if_neg fun q => e q.symm] at h2
      have q1 := of_decide_eq_false h1
      have q2 := of_decide_eq_false h2
      exact absurd (by omega : a = b) e
theorem sortT_perm (us : List (List Int)) : (sortT us).Perm us := List.mergeSort_perm _ _
theorem sortI_perm (us : List Int) : (sortI us).Perm us := List.mergeSort_perm _ _
theorem sortT_pw (us : List (List Int)) : (sortT us).Pairwise fun u v => lexI v u = false :=
  (List.pairwise_mergeSort (le := fun u v => !lexI v u) (fun a b c h1 h2 => by
    simp only [Bool.not_eq_true'] at h1 h2 ⊢
    exact lexI_tr a b c h1 h2) (fun a b => by
    cases h : lexI b a with
    | false => rfl
    | true => rw [lexI_asym b a h]; rfl) us).imp fun h => by simpa using h
theorem sortI_pw (us : List Int) : (sortI us).Pairwise (· ≤ ·) :=
  (List.pairwise_mergeSort (le := fun u v => decide (u ≤ v)) (fun a b c h1 h2 => by
    simp only [decide_eq_true_eq] at h1 h2 ⊢
    omega) (fun a b => by
    simp only [Bool.or_eq_true, decide_eq_true_eq]
    omega) us).imp fun h => by simpa using h
theorem sortT_of {us vs : List (List Int)} (h : vs.Perm us) (p : vs.Pairwise fun u v => lexI v u = false) : vs = sortT us :=
  List.Perm.eq_of_pairwise (le := fun u v => lexI v u = false) (fun a b _ _ h1 h2 => (lexI_anti b a h1 h2).symm) p (sortT_pw us) (h.trans (sortT_perm us).symm)
theorem sortI_of {us vs : List Int} (h : vs.Perm us) (p : vs.Pairwise (· ≤ ·)) : vs = sortI us :=
  List.Perm.eq_of_pairwise (le := (· ≤ ·)) (fun a b _ _ h1 h2 => by omega) p (sortI_pw us) (h.trans (sortI_perm us).symm)
section
variable {n : Nms} {C : Orc} {X : Cx} {pos : Pos} {W : Nat} [ScK n X.K]
theorem allInt_map : ∀ {xs : List D} {ns : List Int}, allInt xs = some ns → xs = ns.map .int
  | [], ns, e => by cases e; rfl
  | x :: xs, ns, e => by
    cases x with
    | int i =>
      simp only [allInt, Option.map_eq_some_iff] at e
      obtain ⟨ys, e1, rfl⟩ := e
      rw [List.map_cons, ← allInt_map e1]
    | _ => cases e
theorem repL_ints {H : Hp} {Z : Zs} : ∀ {ns : List Int} {vs : List V}, repL n H Z (ns.map .int) vs → vs = ns.map V.int
  | [], vs, h => h
  | i :: ns, vs, ⟨v, r, e, h, t⟩ => by rw [e, show v = .int i from h, repL_ints t]; rfl
theorem ints_repL {H : Hp} {Z : Zs} : ∀ (ns : List Int), repL n H Z (ns.map .int) (ns.map V.int)
  | [] => rfl
  | i :: ns => ⟨.int i, ns.map V.int, rfl, rfl, ints_repL ns⟩
/-! ### tuples of ints at a heap -/
/-- the ints of the tuple that a value is, by the abstract heap -/
def intsAt (H : Hp) : Value → List Int
  | .ref a => match H a with
    | some (.tup ws) => ws.map fun w => match w with
      | .int i => i
      | _ => 0
    | _ => []
  | _ => []
theorem intsAt_of {H : Hp} {a : Addr} {u : List Int} (h : H a = some (.tup (u.map V.int))) : intsAt H (.ref a) = u := by
  show (match H a with | some (.tup ws) => ws.map (fun w => match w with | .int i => i | _ => 0) | _ => []) = u
  rw [h]
  clear h
  show List.map _ (List.map V.int u) = u
  induction u with
  | nil => rfl
  | cons x u ih => rw [List.map_cons, List.map_cons, ih]
/-- the tuple at v holds the ints u in the heap h -/
def IntTup (h : Heap) (v : Value) (u : List Int) : Prop := ∃ a o its k, v = .ref a ∧ h.get? a = some o ∧ o.cls = .type "tuple" ∧ o.data = .seq (List.toArray its) k ∧ IntsAre its u
theorem IntTup.keep {h h' : Heap} {v : Value} {u : List Int} (x : IntTup h v u) (k : ∀ b o, h.get? b = some o → o.cls = .type "tuple" → h'.get? b = some o) : IntTup h' v u := by
  obtain ⟨a, o, its, k', e, ho, hc, hd, hi⟩ := x
  exact ⟨a, o, its, k', e, k a o ho hc, hc, hd, hi⟩
theorem ints_len : ∀ {its : List Value} {u : List Int}, IntsAre its u → its.length = u.length
  | _, _, .nil => rfl
  | _, _, .cons n t r => by rw [List.length_cons, List.length_cons, ints_len r]
section
variable {prog : Program} {w : World} {A : Around} {s : Shared}
theorem katLex_ints {b fin : Bool} {Q : Bool → Shared → Prop} : ∀ {xs ys : List Value} {u v : List Int} {i : Nat}, IntsAre xs u → IntsAre ys v → (i = 0 → b = true) →
    (fin = decide (xs.length + i < ys.length + i)) → Q (lexI u v) s → PySem.W.KatLex prog w A b fin Q (xs.zip ys) i s
  | [], [], _, _, i, .nil, .nil, hb, hf, q => by
    refine PySem.W.kat_nil ?_
    rw [hf]
    simpa [lexI] using q
  | [], _ :: ys, _, _, i, .nil, .cons m t r, hb, hf, q => by
    refine PySem.W.kat_nil ?_
    rw [hf]
    have : decide (([] : List Value).length + i < (Value.int m t :: ys).length + i) = true := decide_eq_true (by simp)
    rw [this]
    exact q
  | _ :: xs, [], _, _, i, .cons m t r, .nil, hb, hf, q => by
    refine PySem.W.kat_nil ?_
    rw [hf]
    have : decide ((Value.int m t :: xs).length + i < ([] : List Value).length + i) = false := decide_eq_false (by simp)
    rw [this]
    exact q
  | _ :: xs, _ :: ys, _, _, i, .cons (ns := u) m t r, .cons (ns := v) m' t' r', hb, hf, q => by
    show PySem.W.KatLex prog w A b fin Q ((Value.int m t, Value.int m' t') :: xs.zip ys) i s
    refine PySem.W.kat_cons (SeqAt.EqAt.int_int m t m' t' prog w _ _ ?_)
    refine PySem.W.kat_go (fun e1 => ?_) (fun e1 => ?_)
    · have ex : m = m' := by simpa using e1
      subst ex
      refine PySem.W.kat_yes (katLex_ints r r' (fun h => by omega) ?_ ?_)
      · rw [hf]
        simp only [List.length_cons]
        exact decide_eq_decide.mpr (by omega)
      · simpa [lexI] using q
    · have ex : ¬ m = m' := by simpa using e1
      have e3 : lexI (m :: u) (m' :: v) = decide (m < m') := by simp only [lexI, if_neg ex]
      rw [e3] at q
      refine PySem.W.kat_no ?_
      cases hbi : (b && i == 0) with
      | true => exact oneLt_int q
      | false => exact PySem.W.kat_one _ _ (PyProof.Rows.lt_int q)
theorem tups_cmp {vs : List Value} {k : Value → List Int} (hp : ∀ v ∈ vs, IntTup s.heap v (k v)) : SrtO.Cmp prog w A s (tuples' true) (fun p => p.1 ∈ vs) (SrtO.lt2 fun v u => lexI (k v) (k u)) := by
  intro p q hm hm'
  obtain ⟨a, o, its, m, e, ho, hc, hd, hi⟩ := hp _ hm
  obtain ⟨a', o', its', m', e', ho', hc', hd', hi'⟩ := hp _ hm'
  show wpAny (model prog w) A (keyLt' (tuples' true) p.1 q.1) (fun r s' => s' = s ∧ r = lexI (k p.1) (k q.1)) (fun _ _ => False) s
  generalize k p.1 = x at hi ⊢
  generalize k q.1 = y at hi' ⊢
  rw [e, e']
  refine PySem.W.kat_lt ho hd ho' hd' ?_
  exact katLex_ints hi hi' (fun _ => rfl) (by simp) ⟨rfl, rfl⟩
theorem tups_firsts {h : Heap} {k : Value → List Int} : ∀ {vs : List Value}, (∀ v ∈ vs, IntTup h v (k v) ∧ k v ≠ []) → ∃ fs : List Value, PySem.W.KatTups h vs fs ∧ fs.length = vs.length ∧ ∀ f ∈ fs, ∃ x t, f = Value.int x t
  | [], _ => ⟨[], PySem.W.KatTups.nil, rfl, fun _ hm => by simp at hm⟩
  | v :: vs, hp => by
    obtain ⟨fs, h1, h2, h3⟩ := tups_firsts (vs := vs) fun v' hm => hp v' (List.mem_cons_of_mem _ hm)
    obtain ⟨⟨a, o, its, m, e, ho, hc, hd, hi⟩, hne⟩ := hp v (List.mem_cons_self ..)
    generalize k v = u at hi hne
    cases hi with
    | nil => exact absurd rfl hne
    | cons x t r =>
      subst e
      refine ⟨.int x t :: fs, PySem.W.KatTups.cons ho hc hd rfl h1, by rw [List.length_cons, List.length_cons, h2], fun f hm => ?_⟩
      rcases List.mem_cons.mp hm with rfl | hm
      · exact ⟨x, t, rfl⟩
      · exact h3 f hm
theorem tups_sortable {a : Addr} {vs : List Value} {k : Value → List Int} (h0 : 0 < vs.length) (hp : ∀ v ∈ vs, IntTup s.heap v (k v) ∧ k v ≠ []) (ha : ∀ o, s.heap.get? a = some o → o.cls ≠ .type "tuple") : SrtO.SortableO prog w A s a vs fun v u => lexI (k v) (k u) := by
  intro h' keep
  have hp' : ∀ v ∈ vs, IntTup h' v (k v) := fun v hm => (hp v hm).1.keep fun b o e c => keep b o (fun z => by subst z; exact ha o e c) e
  obtain ⟨fs, h1, h2, h3⟩ := tups_firsts fun v hm => ⟨hp' v hm, (hp v hm).2⟩
  refine ⟨tuples' true, fun Q E hq => ?_, tups_cmp hp'⟩
  refine PySem.W.kat_kind (T := .type "int") h1 (by omega) (fun f hm => ?_) (by rfl) ?_
  · obtain ⟨x, t, rfl⟩ := h3 f hm
    exact PySem.W.Looks.now
  · have e : (Value.type "int" != Value.type "tuple") = true := by first | decide +kernel | rfl | decide
    rw [e]
    exact hq
theorem swo_tup (k : Value → List Int) : SrtO.Swo fun v u => lexI (k v) (k u) := ⟨fun x y h => lexI_asym _ _ h, fun x y z h1 h2 => lexI_tr _ _ _ h1 h2⟩
end
/-! ### sorted -/
theorem allIT_of {H : Hp} {Z : Zs} : ∀ {xs : List D} {us : List (List Int)} {vs : List V}, allIT xs = some us → repL n H Z xs vs → (∀ v ∈ vs, ∃ a u, v = .ref a ∧ TupZ H Z a (u.map V.int) ∧ u ≠ []) ∧ vs.map (fun v => match v with | .ref a => intsAt H (.ref a) | _ => []) = us
  | [], us, vs, e, r => by
    cases e
    rw [show vs = [] from r]
    exact ⟨fun v h => by simp at h, rfl⟩
  | x :: xs, us, vs, e, ⟨v, r, ev, h, t⟩ => by
    cases x with
    | tup zs =>
      cases zs with
      | nil => cases e
      | cons z zs =>
        replace e : (match allInt (z :: zs), allIT xs with | some u, some us => some (u :: us) | _, _ => none) = some us := e
        cases e1 : allInt (z :: zs) with
        | none => rw [e1] at e; cases e
        | some u =>
          cases e2 : allIT xs with
          | none => rw [e1, e2] at e; cases e
          | some us' =>
            rw [e1, e2] at e
            cases e
            obtain ⟨a, ws, rfl, ht, hr⟩ := h
            have ez := allInt_map e1
            rw [ez] at hr
            have ew := repL_ints hr
            subst ew
            obtain ⟨h1, h2⟩ := allIT_of e2 t
            rw [ev]
            refine ⟨fun v hv => ?_, ?_⟩
            · rcases List.mem_cons.mp hv with rfl | hv
              · exact ⟨a, u, rfl, ht, fun q => by subst q; cases ez⟩
              · exact h1 v hv
            · rw [List.map_cons, h2]
              show intsAt H (.ref a) :: us' = u :: us'
              rw [intsAt_of ht.2]
    | _ => cases e
theorem vals_mem {vs : List V} {us : List Value} (r : Vals vs us) : ∀ u ∈ us, ∃ v ∈ vs, RelV v u := by
  induction r with
  | nil => intro u h; simp at h
  | cons h t ih =>
    intro u hu
    rcases List.mem_cons.mp hu with rfl | hu
    · exact ⟨_, List.mem_cons_self, h⟩
    · obtain ⟨v, hv, q⟩ := ih u hu
      exact ⟨v, List.mem_cons_of_mem _ hv, q⟩
def toV : Value → V
  | .ref a => .ref a
  | _ => .non
theorem vals_ints {H : Hp} {vs : List V} {us : List Value} (r : Vals vs us) : (∀ v ∈ vs, ∃ a, v = .ref a) → us.map (intsAt H) = vs.map (fun v => match v with | .ref a => intsAt H (.ref a) | _ => []) := by
  induction r with
  | nil => intro _; rfl
  | cons h t ih =>
    intro hv
    obtain ⟨a, e⟩ := hv _ List.mem_cons_self
    subst e
    cases h
    rw [List.map_cons, List.map_cons, ih fun v hm => hv v (List.mem_cons_of_mem _ hm)]
theorem ok_sorted : CallP n X (.builtin "sorted") .sorted := by
  intro pins s σ H xs us Q I r h
  obtain ⟨Z, a, w, x, f, hz, rfl, ra, e, k⟩ := PR.one (g := pSorted) (fun _ => rfl) rfl (fun _ _ _ => rfl) h
  unfold pSorted at e
  split at e
  · rename_i ys h1
    obtain ⟨p, vs, rfl, hp, rp⟩ := asS_of (K := X.K) h1 ra
    split at e
    · rename_i ns h2
      cases e
      rw [allInt_map h2] at rp
      have ev := repL_ints rp
      subst ev
      refine cr_sortedI pins s σ H _ us Q I r ⟨p, ns, rfl, hp, fun ns' q pm pw hq => ?_⟩
      rw [sortI_of pm pw]
      exact k.lst hz hq (ints_repL _)
    · split at e
      · rename_i ls h3
        cases e
        obtain ⟨m1, m2⟩ := allIT_of h3 rp
        obtain ⟨its, rv, hl, hzl⟩ := I.list hp
        rw [Vals.ref1 r]
        have hk : ∀ v ∈ its, ∃ a u, v = .ref a ∧ TupZ H Z a (u.map V.int) ∧ u ≠ [] := fun v hv => by
          obtain ⟨y, hy, ry⟩ := vals_mem rv v hv
          obtain ⟨a, u, rfl, ht, hu⟩ := m1 y hy
          cases ry
          exact ⟨a, u, rfl, ht, hu⟩
        have hit : ∀ v ∈ its, IntTup s.heap v (intsAt H v) ∧ intsAt H v ≠ [] := fun v hv => by
          obtain ⟨a, u, rfl, ht, hu⟩ := hk v hv
          rw [intsAt_of ht.2]
          obtain ⟨its2, rv2, ⟨o, ho, hc, m, hd⟩, _⟩ := I.tuple ht.sq
          exact ⟨⟨a, o, its2, m, rfl, ho, hc, hd, rv2.ints⟩, hu⟩
        have hlen := rv.length
        refine SrtO.sorted_ord (swo_tup (intsAt H)) hl.isList (by rw [← hlen]; exact hzl) (fun h2 h₁ a' ha kk => ?_) fun out hs hb => ?_
        · refine tups_sortable (s := { s with heap := h₁ }) (by omega) (fun v hm => ⟨(hit v hm).1.keep fun b o e _ => (kk b o e).2, (hit v hm).2⟩) fun o e => ?_
          have e' : some o = some (seqObj "list" its.toArray 0) := e.symm.trans ha
          cases e'
          intro c
          exact absurd (Value.type.inj c) (by decide)
        · obtain ⟨ep, he'⟩ := PyProof.Rows.sortedAll_at s.heap its out.toArray
          have hout : ∀ v ∈ out, ∃ a u, v = .ref a ∧ TupZ H Z a (u.map V.int) ∧ u ≠ [] := fun v hv => hk v (hb.perm.mem_iff.mp hv)
          have e1 : out.map (intsAt H) = sortT ls := by
            refine sortT_of ?_ (List.pairwise_map.mpr hs)
            have := hb.perm.map (intsAt H)
            rw [vals_ints rv (fun v hv => (m1 v hv).elim fun a ⟨u, e, _⟩ => ⟨a, e⟩), m2] at this
            exact this
          have vout : ∀ {l : List Value}, (∀ v ∈ l, ∃ a u, v = .ref a ∧ TupZ H Z a (u.map V.int) ∧ u ≠ []) → Vals (l.map toV) l ∧ repL n H Z ((l.map (intsAt H)).map tupI) (l.map toV) := by
            intro l
            induction l with
            | nil => intro _; exact ⟨.nil, (rfl : ([] : List V) = [])⟩
            | cons v l ih =>
              intro hv
              obtain ⟨a, u, rfl, ht, _⟩ := hv v List.mem_cons_self
              obtain ⟨i1, i2⟩ := ih fun v hm => hv v (List.mem_cons_of_mem _ hm)
              refine ⟨.cons rfl i1, .ref a, l.map toV, rfl, ?_, i2⟩
              rw [intsAt_of ht.2]
              exact ⟨a, _, rfl, ht, ints_repL u⟩
          obtain ⟨v1, v2⟩ := vout hout
          rw [e1] at v2
          have hlo : (out.map toV).length ≤ sizeLine := by
            rw [List.length_map, hb.perm.length_eq, ← hlen]
            exact hzl
          exact ⟨.ref _, upd H (s.heap.objs.size + 1) (.lst (out.map toV)), I.laid (t' := s.toks) (fun _ _ => PyProof.Rows.sortedAll_old) (Nat.le_succ _) ⟨hlo, out, ep, v1, he'⟩, rfl, k.lst hz (I.hok.fresh (Nat.le_succ _)) v2⟩
      · cases e
  · cases e
end
end Rt

set_option Elab.async false
set_option linter.all false
set_option maxRecDepth 100000
/-! Rt18: list.index, isinstance. -/
namespace Rt
open PySem PySem.Spec PyProof.Rows L2
section
variable {n : Nms} {C : Orc} {X : Cx} {pos : Pos} {W : Nat} [ScK n X.K]
/-! ### l.index(x) -/
theorem toPyL_get : ∀ {xs : List D} {j : Nat}, (toPyL xs)[j]? = xs[j]?.map toPy
  | [], j => by simp [toPyL]
  | x :: xs, 0 => rfl
  | x :: xs, j + 1 => by
    show (toPyL xs)[j]? = _
    rw [toPyL_get]
    rfl
theorem layL_get : ∀ {xs : List D} {j : Nat} {x : D}, layL xs = true → xs[j]? = some x → D.lay x = true
  | [], j, x, _, e => by simp at e
  | y :: xs, 0, x, h, e => by
    have h' := Bool.and_eq_true_iff.mp (show (D.lay y && layL xs) = true from h)
    simp only [List.getElem?_cons_zero, Option.some.injEq] at e
    rw [← e]
    exact h'.1
  | y :: xs, j + 1, x, h, e => by
    have h' := Bool.and_eq_true_iff.mp (show (D.lay y && layL xs) = true from h)
    exact layL_get h'.2 (by simpa using e)
theorem findD_of {x : D} : ∀ {xs : List D} {k j : Nat}, findD x xs k = some j → k ≤ j ∧ (∃ y, xs[j - k]? = some y ∧ D.eqv y x = true) ∧ ∀ m y, m < j - k → xs[m]? = some y → D.eqv y x = false
  | [], k, j, e => by cases e
  | y :: ys, k, j, e => by
    replace e : (if D.eqv y x then some k else findD x ys (k + 1)) = some j := e
    by_cases c : D.eqv y x = true
    · rw [if_pos c] at e
      cases e
      refine ⟨Nat.le_refl _, ⟨y, by simp, c⟩, fun m z h => by omega⟩
    · rw [if_neg c] at e
      obtain ⟨h1, ⟨z, h2, h3⟩, h4⟩ := findD_of e
      have e1 : j - k = (j - (k + 1)) + 1 := by omega
      refine ⟨by omega, ⟨z, by rw [e1]; exact h2, h3⟩, fun m z hm hz => ?_⟩
      cases m with
      | zero =>
        simp only [List.getElem?_cons_zero, Option.some.injEq] at hz
        rw [← hz]
        simpa using c
      | succ m => exact h4 m z (by omega) (by simpa using hz)
theorem index_inv {ps : List PV} {r : PV} (e : app .index ps = some r) : ∃ a x, ps = [a, .d x] ∧ pIndex a (.d x) = some r := by
  obtain ⟨a, b, rfl, e⟩ := two_inv (p := .index) (f := pIndex) (fun _ _ => rfl) rfl (fun _ => rfl) (fun _ _ _ _ => rfl) e
  cases b with
  | d x => exact ⟨a, x, rfl, e⟩
  | _ => cases e
theorem indexE (hu : X.A.units + 65 < cLine) {e1 e2 : E} {o a : Expr} {apos : Pos} (ok : rdOk [e1, e2] = true) (na : noStar a = true) (h1 : PE X o (tE n C e1)) (h2 : PE X a (tE n C e2)) (hbase : attributeBase o "index" X.env (eval o X.env) = eval o X.env) (hline : (apos.endLine == pos.line) = true) :
    PE X (.Call (.Attribute o "index" apos) [a] [] pos) (tE n C (.pr .index [e1, e2])) := by
  refine pe_wk (pe_bm PySem.F.plainAttrs_list PySem.F.slot_list_index PySem.F.type_list_index (mt_indexD hu) h1 (pa_cons h2 pa_nil (star_of na)) hbase (by rw [star_of na]; rfl) hline (star_of na) rfl) fun σ H Q h => ?_
  obtain ⟨ps, r, e0, h⟩ := redP ok h
  obtain ⟨p, x, rfl, e9⟩ := index_inv e0
  replace e0 := e9
  unfold pIndex at e0
  dsimp only at e0
  cases e1' : asL p with
  | none => rw [e1'] at e0; cases e0
  | some xs =>
    rw [e1'] at e0
    dsimp only at e0
    by_cases hp : (D.plain x && plainL xs) = true
    case neg => rw [if_neg hp] at e0; cases e0
    rw [if_pos hp] at e0
    obtain ⟨hp1, hp2⟩ := Bool.and_eq_true_iff.mp hp
    cases e2' : findD x xs 0 with
    | none => rw [e2'] at e0; cases e0
    | some j =>
      rw [e2'] at e0
      cases e0
      refine tEp_tE (tLp_cons h) fun v H1 ⟨⟨Z1, f1, hz1, r1⟩, h1⟩ => ⟨?_, ?_⟩
      · obtain ⟨b, vs, rfl, hb, _⟩ := asL_of (K := X.K) e1' r1
        exact tyL_of hb
      · refine tEp_tE (tLp_cons h1) fun w H2 ⟨_, h2⟩ => ?_
        obtain ⟨Z, hz, hr, k⟩ := tLp_nil h2
        obtain ⟨p', q', f, g, e3, rp, rq⟩ := hr.two
        cases e3
        obtain ⟨b, vs, rfl, hb, rl⟩ := asL_of (K := X.K) e1' rp
        obtain ⟨l1, l2⟩ := shaped_of hp1
        obtain ⟨l3, l4⟩ := plainL_fl hp2
        obtain ⟨_, ⟨y, hy, hye⟩, hno⟩ := findD_of e2'
        rw [Nat.sub_zero] at hy hno
        refine ⟨b, w, toPy x, toPyL xs, j, toPy y, rfl, rfl, .lst (.inl (.inl hb)) (dpL_py _ _ l3 rl), dp_py _ _ l1 rq.1, l4, l2, by rw [toPyL_get, hy]; rfl, ?_, fun m z' hm hz' => ?_, k.atom hz rfl⟩
        · rw [eqv_py y x (layL_get l3 hy) l1]
          exact hye
        · rw [toPyL_get] at hz'
          cases e4 : xs[m]? with
          | none => rw [e4] at hz'; cases hz'
          | some z =>
            rw [e4] at hz'
            cases hz'
            rw [eqv_py z x (layL_get l3 e4) l1]
            exact hno m z hm e4
/-! ### isinstance -/
def tyNm : Nat → String
  | 0 => "int"
  | 1 => "bool"
  | 2 => "str"
  | 3 => "tuple"
  | 4 => "list"
  | 5 => "dict"
  | _ => "NoneType"
theorem kit_tab : ∀ t : Fin 7, ∀ m : Fin 6, kitB (tyNm t) (tyNm m) = some (isTy t m) := by decide +kernel
theorem tyOf_of {K : PySem.W.Frag} [ScK n K] {H : Hp} {Z : Zs} {p : PV} {t : Nat} {v : V} {f : Fp} (e : tyOf p = some t) (r : repV n H Z p v f) : t < 7 ∧ TyX K H v (.type (tyNm t)) := by
  cases p with
  | d x =>
    have r := r.1
    cases x with
    | non => cases e; rw [show v = .non from r]; exact ⟨by decide, .base .non⟩
    | bl b => cases e; rw [show v = .bl b from r]; exact ⟨by decide, .base (.bl b)⟩
    | int i => cases e; rw [show v = .int i from r]; exact ⟨by decide, .base (.int i)⟩
    | str s => cases e; rw [show v = .str (mkS s) from r]; exact ⟨by decide, .base (.str _)⟩
    | tup xs => cases e; obtain ⟨a, vs, rfl, h, _⟩ := r; exact ⟨by decide, .base (.tup h.2)⟩
    | fl xs => cases e; obtain ⟨a, vs, rfl, h, _⟩ := r; exact ⟨by decide, .base (.lst h.2)⟩
    | sc xs =>
      cases e
      obtain ⟨a, vs, rfl, h, _⟩ := r
      rcases h with ⟨_, h | ⟨o, h⟩⟩ | h
      · exact ⟨by decide, .base (.lst h)⟩
      · exact ⟨by decide, .base (.frz h)⟩
      · obtain ⟨o, h1, h2⟩ := ScK.ty (K := K) a vs h
        exact ⟨by decide, .kList h1 h2⟩
    | fd u kvs =>
      cases u with
      | true => cases e
      | false =>
        cases e
        obtain ⟨a, q, rfl, _, h, _⟩ := r
        rcases h with h | ⟨o, h⟩
        · exact ⟨by decide, .base (.dK h)⟩
        · exact ⟨by decide, .fDict h⟩
    | _ => cases e
  | ol xs => cases e; obtain ⟨a, vs, rfl, h, _⟩ := r; exact ⟨by decide, .base (.lst h)⟩
  | on xs => cases e; obtain ⟨a, vs, g, rfl, h, _⟩ := r; exact ⟨by decide, .base (.lst h)⟩
  | od t kvs =>
    cases t with
    | false => cases e; obtain ⟨a, q, rfl, h, _⟩ := r; exact ⟨by decide, .base (.dK h)⟩
    | true => cases e; obtain ⟨a, q, rfl, h, _⟩ := r; exact ⟨by decide, .base (.dT h)⟩
  | odn t kvs =>
    cases t with
    | false => cases e; obtain ⟨a, q, g, rfl, h, _⟩ := r; exact ⟨by decide, .base (.dK h)⟩
    | true => cases e; obtain ⟨a, q, g, rfl, h, _⟩ := r; exact ⟨by decide, .base (.dT h)⟩
  | tp xs => cases e; obtain ⟨a, vs, rfl, h, _⟩ := r; exact ⟨by decide, .base (.tup h.2)⟩
  | _ => cases e
theorem isi_inv {m : Nat} {ps : List PV} {r : PV} (e : app (.isI [m]) ps = some r) : ∃ a t, ps = [a] ∧ tyOf a = some t ∧ r = .d (.bl (isTy t m)) := by
  obtain ⟨a, rfl, e9⟩ := one_inv (p := .isI [m]) (f := pIsI [m]) (fun _ => rfl) rfl (fun _ _ _ => rfl) e
  replace e := e9
  cases h : tyOf a with
  | none => unfold pIsI at e; rw [h] at e; cases e
  | some t =>
    unfold pIsI at e
    rw [h] at e
    cases e
    exact ⟨a, t, rfl, h, rfl⟩
theorem isIE {m : Nat} {tn : Str} {e : E} {a : Expr} {q q2 : Pos} (hm6 : m < 6) (hg : Gl X "isinstance") (hm : X.mg "isinstance" = none) (hg2 : Gl X tn) (hm2 : X.mg tn = none) (hv : bootBuiltins tn = some (.type (tyNm m))) (hn : tn ≠ "__name__") (hdb : (tn == ("__debug__" : Str)) = false) (ok : rdOk [e] = true) (na : noStar a = true) (h : PE X a (tE n C e)) :
    PE X (.Call (.Name "isinstance" q) [a, .Name tn q2] [] pos) (tE n C (.pr (.isI [m]) [e])) := by
  refine pe_wk (pe_callB call_isi hg hm (by rfl) (pa_cons h (pa_cons (pe_bltn (pos := q2) hg2 hm2 hv (v := .ty (tyNm m)) (show RelV (.ty (tyNm m)) (.type (tyNm m)) from rfl) hn hdb) pa_nil rfl) (star_of na)) (by decide) (by decide) (star_of na) rfl) fun σ H Q h => ?_
  obtain ⟨ps, r, e0, h⟩ := redP ok h
  obtain ⟨p, t, rfl, e1, rfl⟩ := isi_inv e0
  refine tEp_tE (tLp_cons h) fun v H1 ⟨_, h1⟩ => ?_
  obtain ⟨Z, hz, hr, k⟩ := tLp_nil h1
  obtain ⟨p', f, e2, rp⟩ := hr.one
  cases e2
  obtain ⟨ht, ty⟩ := tyOf_of (K := X.K) e1 rp
  have kt := kit_tab ⟨t, ht⟩ ⟨m, hm6⟩
  exact ⟨v, .ty (tyNm m), _, .type (tyNm m), isTy t m, rfl, .ty _, ty, kit_ty kt, k.atom hz rfl⟩
end
end Rt

set_option Elab.async false
set_option linter.all false
set_option maxRecDepth 100000
/-! Rt19: the check of a compiled expression against the text's, and that it is sound. -/
namespace Rt
open PySem PySem.Spec PyProof.Rows L2
/-- what the check knows of a block -/
structure Ck where
  N : List Str
  sc : Scope
  fns : List (Str × Nat × Nat)
  kws : List (Str × Nat × List Str × List Nat)
def glo (k : Ck) (x : Str) : Bool := decide (k.sc.names.lookup x = some .globalImplicit)
def vis (k : Ck) (x : Str) : Bool := decide (k.sc.names.lookup x = some .local) || decide (k.sc.names.lookup x = some .cell) || decide (k.sc.names.lookup x = some .free)
def loc (k : Ck) (x : Str) : Bool := decide (k.sc.names.lookup x = some .local) || decide (k.sc.names.lookup x = some .cell)
def nmC (k : Ck) (i : Nat) : Expr → Bool
  | .Name x _ => decide (k.N[i]? = some x) && vis k x && !(x == ("__debug__" : Str)) && !(x == ("__classdict__" : Str))
  | _ => false
def binP : Prim → Operator → Bool
  | .add, .Add => true
  | .sub, .Sub => true
  | .mul, .Mult => true
  | .fdiv, .FloorDiv => true
  | .mod, .Mod => true
  | .pow, .Pow => true
  | .shl, .LShift => true
  | .shr, .RShift => true
  | .xor, .BitXor => true
  | .band, .BitAnd => true
  | .bor, .BitOr => true
  | _, _ => false
def cmpP : Prim → CmpOp → Bool
  | .eq, .Eq => true
  | .ne, .NotEq => true
  | .lt, .Lt => true
  | .le, .LtE => true
  | .gt, .Gt => true
  | .ge, .GtE => true
  | .isN, .Is => true
  | .notN, .IsNot => true
  | .isB, .Is => true
  | .notB, .IsNot => true
  | .in_, .In => true
  | .nin, .NotIn => true
  | _, _ => false
def bltT : Prim → Nat → Option Str
  | .len, 1 => some "len"
  | .abs, 1 => some "abs"
  | .int1, 1 => some "int"
  | .min1, 1 => some "min"
  | .max1, 1 => some "max"
  | .min2, 2 => some "min"
  | .max2, 2 => some "max"
  | .sum1, 1 => some "sum"
  | .sorted, 1 => some "sorted"
  | .tuple1, 1 => some "tuple"
  | .list1, 1 => some "list"
  | _, _ => none
def tyStr : Nat → Str
  | 0 => "int"
  | 1 => "bool"
  | 2 => "str"
  | 3 => "tuple"
  | 4 => "list"
  | _ => "dict"
/-- not super() -/
def baseOk : Expr → Bool
  | .Call _ [] [] _ => false
  | _ => true
def slP (p : Prim) : Option Expr → Option Expr → Option Expr → Option (List Expr)
  | none, none, none => if decide (p = .sl false false) then some [] else none
  | some l, none, none => if decide (p = .sl true false) then some [l] else none
  | none, some h, none => if decide (p = .sl false true) then some [h] else none
  | some l, some h, none => if decide (p = .sl true true) then some [l, h] else none
  | none, none, some (.UnaryOp .USub (.Constant (.int 1) _ _) _) => if decide (p = .rev) then some [] else none
  | _, _, _ => none
def isSl : Expr → Bool
  | .Slice _ _ _ _ => true
  | _ => false
def methP (p : Prim) (nm : Str) (m : Nat) : Bool := (decide (p = .index) && decide (nm = "index") && m == 1) || (decide (p = .get1) && decide (nm = "get") && m == 1) || (decide (p = .get2) && decide (nm = "get") && m == 2)
/-- the argument expressions of a primitive -/
def prArgs (k : Ck) (p : Prim) : Expr → Option (List Expr)
  | .BinOp l op r _ => if binP p op then some [l, r] else none
  | .Compare l [op] [r] _ => if cmpP p op && !behindInMarks op r then some [l, r] else none
  | .UnaryOp .USub x _ => if decide (p = .neg) then some [x] else none
  | .Subscript o (.Slice l h s _) _ => (slP p l h s).map (o :: ·)
  | .Subscript o i _ => if decide (p = .ix) && !isSl i then some [o, i] else none
  | .Call (.Name x _) as [] _ => match p, as with
    | .isI [m], [b, .Name tn _] => if decide (x = "isinstance") && decide (m < 6) && decide (tn = tyStr m) && glo k x && glo k tn then some [b] else none
    | p, as => if decide (bltT p as.length = some x) && glo k x then some as else none
  | .Call (.Attribute o nm apos) as [] cpos => if methP p nm as.length && baseOk o && (apos.endLine == cpos.line) then some (o :: as) else none
  | _ => none
def muNm : MP → Option (Str × Nat)
  | .append => some ("append", 1)
  | .pop0 => some ("pop", 0)
  | .pop1 => some ("pop", 1)
  | .reverse => some ("reverse", 0)
  | _ => none
def muArgs (k : Ck) (m : MP) (i : Nat) : Expr → Option (List Expr)
  | .Call (.Attribute o nm apos) as [] cpos => if decide (muNm m = some (nm, as.length)) && nmC k i o && (apos.endLine == cpos.line) then some as else none
  | _ => none
def clArgs (k : Ck) (f : Nat) : Expr → Option (List Expr)
  | .Call (.Name x _) as [] _ => if decide (k.fns.lookup x = some (f, as.length)) && glo k x && !as.isEmpty && !(x == ("__debug__" : Str)) then some as else none
  | _ => none
def kwNm (q : Keyword) : Str := q.arg.getD ""
def kwVal (q : Keyword) : Expr := q.value
/-- a call by keywords alone -/
def kwArgs (k : Ck) (f : Nat) (ix : List Nat) : Expr → Option (List Keyword)
  | .Call (.Name x _) [] kws _ => if kws.all (fun q => q.arg.isSome) && decide ((x, f, kws.map kwNm, ix) ∈ k.kws) && glo k x && !(x == ("__debug__" : Str)) then some kws else none
  | _ => none
def cC : D → Expr → Bool
  | .non, .Constant .none _ _ => true
  | .bl b, .Constant (.bool c) _ _ => b == c
  | .int i, .Constant (.int j) _ _ => i == j
  | .str s, .Constant (.str x) _ _ => decide (mkS s = x)
  | _, _ => false
def ckSc (k : Ck) (sc : Scope) : Ck := { k with sc := sc }
def nmsOf : Expr → List Str
  | .Name x _ => [x]
  | .Tuple es _ _ => go es
  | _ => []
where go : List Expr → List Str
  | [] => []
  | e :: es => nmsOf e ++ go es
mutual
/-- targets -/
def kG (k : Ck) : Tg → Expr → Bool
  | .nm i, .Name x _ => decide (k.N[i]? = some x) && loc k x
  | .nf i, .Name x _ => decide (k.N[i]? = some x) && loc k x
  | .tp ts, .Tuple es _ _ => kGs k ts es
  | _, _ => false
def kGs (k : Ck) : List Tg → List Expr → Bool
  | [], [] => true
  | t :: ts, e :: es => kG k t e && kGs k ts es
  | _, _ => false
end
def ownOf (tg : Tg) (te : Expr) : List (Str × Nat) := (nmsOf te).zip (tgs tg)
def isSet : Expr → Bool
  | .Set _ _ _ => true
  | _ => false
def isTupE : Expr → Bool
  | .Tuple _ _ _ => true
  | _ => false
def rngArgs (k : Ck) : Expr → Option (List Expr)
  | .Call (.Name x _) as [] _ => if decide (x = "range") && glo k x && (as.length == 1 || as.length == 2 || as.length == 3) then some as else none
  | _ => none
def enuArg (k : Ck) : Expr → Option Expr
  | .Call (.Name x _) [a] [] _ => if decide (x = "enumerate") && glo k x then some a else none
  | _ => none
def lcOf : Expr → Option (Expr × Expr × Expr × List Expr × Scope)
  | .ListComp elt [⟨te, iter, ifs, 0⟩] sc _ => some (elt, te, iter, ifs, sc)
  | _ => none
mutual
def kE (k : Ck) : E → Expr → Bool
  | .c d, a => cC d a
  | .v i, a => nmC k i a
  | .rd i, a => nmC k i a
  | .mv i, a => nmC k i a
  | .fz i, a => nmC k i a
  | .frz e, a => (rdOf e).isNone && kE k e a
  | .tup es, a => match a with
    | .Tuple as _ _ => noRd es && decide (es.length ≤ 1000) && kL k es as
    | _ => false
  | .lst es, a => match a with
    | .List as _ => noRd es && decide (es.length ≤ 1000) && kL k es as
    | _ => false
  | .dic _ [], a => match a with
    | .Dict [] [] _ => true
    | _ => false
  | .pr p es, a => match prArgs k p a with
    | some as => rdOk es && kL k es as
    | none => false
  | .an es, a => match a with
    | .BoolOp .And as _ => noRd es && !es.isEmpty && kL k es as
    | _ => false
  | .or es, a => match a with
    | .BoolOp .Or as _ => noRd es && !es.isEmpty && kL k es as
    | _ => false
  | .nt e, a => match a with
    | .UnaryOp .Not b _ => kE k e b
    | _ => false
  | .ite t e1 e2, a => match a with
    | .IfExp c b d _ => (rdOf e1).isNone && (rdOf e2).isNone && kT k t c && kE k e1 b && kE k e2 d
    | _ => false
  | .ch p q e1 e2 e3, a => match a with
    | .Compare b [op, op'] [c, d] _ => cmpP p op && cmpP q op' && !lastMarks [op, op'] [c, d] && rdOk [e1, e2, e3] && kE k e1 b && kE k e2 c && kE k e3 d
    | _ => false
  | .cl f es, a => match clArgs k f a with
    | some as => decide (iosL es).Nodup && kA k es as
    | none => false
  | .clk f ix es, a => match kwArgs k f ix a with
    | some kws => noRd es && kL k es (kws.map kwVal)
    | none => false
  | .mu m i es, a => match muArgs k m i a with
    | some as => noRd es && !(mtL es).contains i && kL k es as
    | none => false
  | .lc tg it cs elt, a => match lcOf a with
    | some (ae, te, iter, ifs, sc) => decide ((ownOf tg te).map (·.2) = tgs tg) && blkC k.N k.sc sc (ownOf tg te) && (rdOf elt).isNone && !isSet iter && kI k it iter (isTupE te) && kG (ckSc k sc) tg te && decide (cs.length ≤ 1) && kTs (ckSc k sc) cs ifs && kE (ckSc k sc) elt ae
    | none => false
  | _, _ => false
/-- a test -/
def kT (k : Ck) : E → Expr → Bool
  | .nt e, .UnaryOp .Not b _ => kT k e b
  | .an es, .BoolOp .And as _ => !es.isEmpty && kTs k es as
  | .or es, .BoolOp .Or as _ => !es.isEmpty && kTs k es as
  | .pr p es, a => match a with
    | .Compare l [op] [r] _ => cmpP p op && !behindInMarks op r && rdOk es && kL k es [l, r]
    | a => plainT a && (match prArgs k p a with
      | some as => rdOk es && kL k es as
      | none => false)
  | .ch p q e1 e2 e3, a => match a with
    | .Compare b [op, op'] [c, d] _ => cmpP p op && cmpP q op' && !lastMarks [op, op'] [c, d] && rdOk [e1, e2, e3] && kE k e1 b && kE k e2 c && kE k e3 d
    | _ => false
  | .v i, a => nmC k i a
  | .rd i, a => nmC k i a
  | .cl f es, a => match clArgs k f a with
    | some as => decide (iosL es).Nodup && kA k es as
    | none => false
  | .clk f ix es, a => match kwArgs k f ix a with
    | some kws => noRd es && kL k es (kws.map kwVal)
    | none => false
  | _, _ => false
def kL (k : Ck) : List E → List Expr → Bool
  | [], [] => true
  | e :: es, a :: as => noStar a && kE k e a && kL k es as
  | _, _ => false
def kTs (k : Ck) : List E → List Expr → Bool
  | [], [] => true
  | e :: es, a :: as => kT k e a && kTs k es as
  | _, _ => false
/-- arguments of a call -/
def kA (k : Ck) : List E → List Expr → Bool
  | [], [] => true
  | e :: es, a :: as => noStar a && (match ioOf e with
    | some i => nmC k i a
    | none => (rdOf e).isNone && kE k e a) && kA k es as
  | _, _ => false
def kI (k : Ck) : Rt.It → Expr → Bool → Bool
  | .e x, a, _ => (rdOf x).isNone && kE k x a
  | .rng es, a, _ => match rngArgs k a with
    | some as => rdOk es && kL k es as
    | none => false
  | .enu x, a, t => match enuArg k a with
    | some b => t && (rdOf x).isNone && noStar b && kE k x b
    | none => false
  | .zip _ _, _, _ => false
end
end Rt

set_option Elab.async false
set_option linter.all false
set_option maxRecDepth 100000
/-! Rt20: the check of expressions is sound. -/
namespace Rt
open PySem PySem.Spec PyProof.Rows L2
def blts : List Str := ["len", "abs", "int", "min", "max", "sum", "sorted", "tuple", "list", "str", "bool", "dict", "isinstance", "range", "enumerate", "zip"]
/-- what is known of a block's context -/
structure Gx (n : Nms) (C : Orc) (k : Ck) (X : Cx) : Prop where
  sk : ScK n X.K
  nm : X.N = k.N
  nd : k.N.Nodup
  loc : ∀ x, k.sc.names.lookup x = some .local → X.env.scope.names.lookup x = some .local
  cel : ∀ x, k.sc.names.lookup x = some .cell → X.env.scope.names.lookup x = some .cell ∧ X.fn x = true
  fre : ∀ x, k.sc.names.lookup x = some .free → X.env.scope.names.lookup x = some .free ∨ X.env.scope.names.lookup x = some .cell
  glo : ∀ x, k.sc.names.lookup x = some .globalImplicit → X.env.scope.names.lookup x = some .globalImplicit
  cm : X.calm = true
  hu : X.A.units + 65 < cLine
  pas : PassesOwn (model X.prog X.w) X.A X.env X.xe
  blt : ∀ x, blts.contains x = true → X.mg x = none
  fns : ∀ x f m, k.fns.lookup x = some (f, m) → ∃ (j : Nat) (fa : Addr) (fd : FuncData) (ps : List Str), FnOk X.prog X.w X.K X.mg X.base CX0 j fa fd ps (spF n C f m) ∧ Room j X.A ∧ X.mg x = some (.ref fa) ∧ PySem.W.keepIn X.K (.ref fa) = true ∧ Binds X.K fd ps []
  kwf : ∀ x f ks ix, (x, f, ks, ix) ∈ k.kws → (∃ (j : Nat) (fa : Addr) (fd : FuncData) (ps : List Str), FnOk X.prog X.w X.K X.mg X.base CX0 j fa fd ps (spF n C f ix.length) ∧ Room j X.A ∧ X.mg x = some (.ref fa) ∧ PySem.W.keepIn X.K (.ref fa) = true ∧ KBn X.K fd ps 0 ks (fun _ ws => gIx .none ix ws) (fun _ zs => gIx .non ix zs)) ∧ ∀ ps r ws, C f ps = some (r, ws) → ws.length = ix.length
  wl : ∀ x f m, k.fns.lookup x = some (f, m) → ∀ ps r ws, C f ps = some (r, ws) → ws.length = m
section
variable {n : Nms} {C : Orc} {k : Ck} {X : Cx} {pos : Pos} {W : Nat}
theorem Gx.vis (G : Gx n C k X) {x : Str} (h : vis k x = true) : Vis X.env.scope x := by
  simp only [Rt.vis, Bool.or_eq_true, decide_eq_true_eq] at h
  rcases h with (h | h) | h
  · exact .inl (G.loc x h)
  · exact .inr (.inl (G.cel x h).1)
  · exact (G.fre x h).elim (fun h => .inr (.inr h)) fun h => .inr (.inl h)
theorem Gx.locOk (G : Gx n C k X) {x : Str} (h : Rt.loc k x = true) : Loc X.env.scope x ∧ (X.fn x = true ∨ X.env.scope.names.lookup x = some .local) := by
  simp only [Rt.loc, Bool.or_eq_true, decide_eq_true_eq] at h
  rcases h with h | h
  · exact ⟨.inl (G.loc x h), .inr (G.loc x h)⟩
  · exact ⟨.inr (G.cel x h).1, .inl (G.cel x h).2⟩
theorem Gx.gl (G : Gx n C k X) {x : Str} (h : Rt.glo k x = true) : Gl X x := G.glo x (of_decide_eq_true h)
theorem Gx.ix (G : Gx n C k X) {x : Str} {i : Nat} (h : k.N[i]? = some x) : X.N[i]? = some x := by rw [G.nm]; exact h
theorem Gx.ndX (G : Gx n C k X) : X.N.Nodup := by rw [G.nm]; exact G.nd
theorem nmC_ok (G : Gx n C k X) {i : Nat} {a : Expr} (h : nmC k i a = true) : PE X a (tVar i) := by
  cases a with
  | Name x p =>
    simp only [nmC, Bool.and_eq_true, decide_eq_true_eq, Bool.not_eq_true'] at h
    exact pe_var (G.ix h.1.1.1) (G.vis h.1.1.2) h.1.2 h.2
  | _ => cases h
theorem cC_ok {d : D} {a : Expr} (h : cC d a = true) : PE X a (tE n C (.c d)) := by
  cases a with
  | Constant c j p =>
    cases d with
    | non =>
      cases c <;> first | (cases h; done) | exact Rt.cE (d := .non) (v := .non) pe_non fun _ _ => rfl
    | bl b =>
      cases c <;> first | cases h | skip
      obtain rfl := eq_of_beq (show (b == _) = true from h)
      exact Rt.cE pe_bl fun _ _ => rfl
    | int i =>
      cases c <;> first | cases h | skip
      obtain rfl := eq_of_beq (show (i == _) = true from h)
      exact Rt.cE pe_int fun _ _ => rfl
    | str s =>
      cases c <;> first | cases h | skip
      obtain rfl := of_decide_eq_true (show decide (mkS s = _) = true from h)
      exact Rt.cE pe_str fun _ _ => rfl
    | _ => cases h
  | _ => cases d <;> cases h
theorem binP_ok {p : Prim} {op : Operator} (h : binP p op = true) : OpP n X (binaryOp op) p := by
  unfold binP at h
  split at h
  · exact ok_add
  · exact ok_sub
  · exact ok_mul
  · exact ok_fdiv
  · exact ok_mod
  · exact ok_pow
  · exact ok_shl
  · exact ok_shr
  · exact ok_xor
  · exact ok_band
  · exact ok_bor
  · cases h
theorem cmpP_ok [ScK n X.K] (hu : X.A.units + 65 < cLine) {p : Prim} {op : CmpOp} (h : cmpP p op = true) : OpP n X (compareOp op) p := by
  unfold cmpP at h
  split at h
  · exact ok_eq (by omega)
  · exact ok_ne (by omega)
  · exact ok_lt (by omega)
  · exact ok_le
  · exact ok_gt
  · exact ok_ge
  · exact ok_isN
  · exact ok_notN
  · exact ok_isB
  · exact ok_notB
  · exact ok_inN hu false
  · exact ok_inN hu true
  · cases h
theorem cmp_bl {p : Prim} {op : CmpOp} (h : cmpP p op = true) : ∀ x y r, app p [x, y] = some r → ∃ b, r = .d (.bl b) := by
  intro x y r e
  unfold cmpP at h
  split at h
  · replace e : pEq false x y = some r := e
    unfold pEq at e
    split at e <;> first | (cases e; exact ⟨_, rfl⟩) | cases e
  · replace e : pEq true x y = some r := e
    unfold pEq at e
    split at e <;> first | (cases e; exact ⟨_, rfl⟩) | cases e
  · replace e : pLt x y = some r := e
    unfold pLt at e
    repeat' (split at e)
    all_goals first | (cases e; exact ⟨_, rfl⟩) | cases e
  · replace e : pLe x y = some r := e
    unfold pLe at e
    repeat' (split at e)
    all_goals first | (cases e; exact ⟨_, rfl⟩) | cases e
  · replace e : pGt x y = some r := e
    unfold pGt at e
    repeat' (split at e)
    all_goals first | (cases e; exact ⟨_, rfl⟩) | cases e
  · replace e : pGe x y = some r := e
    unfold pGe at e
    repeat' (split at e)
    all_goals first | (cases e; exact ⟨_, rfl⟩) | cases e
  · replace e : pIs false x y = some r := e
    unfold pIs at e
    repeat' (split at e)
    all_goals first | (cases e; exact ⟨_, rfl⟩) | cases e
  · replace e : pIs true x y = some r := e
    unfold pIs at e
    repeat' (split at e)
    all_goals first | (cases e; exact ⟨_, rfl⟩) | cases e
  · replace e : pIsB false x y = some r := e
    unfold pIsB at e
    repeat' (split at e)
    all_goals first | (cases e; exact ⟨_, rfl⟩) | cases e
  · replace e : pIsB true x y = some r := e
    unfold pIsB at e
    repeat' (split at e)
    all_goals first | (cases e; exact ⟨_, rfl⟩) | cases e
  · replace e : pIn false x y = some r := e
    unfold pIn at e
    dsimp only at e
    repeat' (split at e)
    all_goals first | (cases e; exact ⟨_, rfl⟩) | cases e
  · replace e : pIn true x y = some r := e
    unfold pIn at e
    dsimp only at e
    repeat' (split at e)
    all_goals first | (cases e; exact ⟨_, rfl⟩) | cases e
  · cases h
theorem isSl_plain {b : Expr} (h : isSl b = false) : PlainIx b := by
  cases b <;> first | (cases h; done) | exact fun _ _ => rfl
theorem base_ok {o : Expr} {nm : Str} {env : PySem.Env} (h : baseOk o = true) : attributeBase o nm env (eval o env) = eval o env := by
  cases o with
  | Call f as ks p =>
    cases as with
    | cons a as => cases f <;> rfl
    | nil =>
      cases ks with
      | nil => cases h
      | cons q ks => cases f <;> rfl
  | _ => rfl
abbrev PEs (n : Nms) (C : Orc) (X : Cx) : List E → List Expr → Prop := Paired fun e a => noStar a = true ∧ PE X a (tE n C e)
theorem bltT_pos {p : Prim} {m : Nat} {x : Str} (h : bltT p m = some x) : 1 ≤ m := by
  unfold bltT at h
  split at h <;> first | decide | cases h
theorem blt_ok (G : Gx n C k X) {p : Prim} {m : Nat} {x : Str} {es : List E} {as : List Expr} {q : Pos} (h : bltT p m = some x) (hm : as.length = m) (hg : Gl X x) (ok : rdOk es = true) (ha : PEs n C X es as) : PE X (.Call (.Name x q) as [] pos) (tE n C (.pr p es)) := by
  haveI := G.sk
  have hl : as ≠ [] := fun e => by
    subst e
    have := bltT_pos h
    rw [← hm] at this
    exact absurd this (by decide)
  unfold bltT at h
  split at h
  · cases h; exact callBE ok_len hg (G.blt _ (by decide +kernel)) (by rfl) (by decide +kernel) (by decide +kernel) ok hl ha
  · cases h; exact callBE ok_abs hg (G.blt _ (by decide +kernel)) (by rfl) (by decide +kernel) (by decide +kernel) ok hl ha
  · cases h; exact callTE ok_int1 hg (G.blt _ (by decide +kernel)) (by rfl) (by decide +kernel) (by decide +kernel) ok hl ha
  · cases h; exact callBE (ok_min1 G.cm) hg (G.blt _ (by decide +kernel)) (by rfl) (by decide +kernel) (by decide +kernel) ok hl ha
  · cases h; exact callBE (ok_max1 G.cm) hg (G.blt _ (by decide +kernel)) (by rfl) (by decide +kernel) (by decide +kernel) ok hl ha
  · cases h; exact callBE (ok_min2 G.cm) hg (G.blt _ (by decide +kernel)) (by rfl) (by decide +kernel) (by decide +kernel) ok hl ha
  · cases h; exact callBE (ok_max2 G.cm) hg (G.blt _ (by decide +kernel)) (by rfl) (by decide +kernel) (by decide +kernel) ok hl ha
  · cases h; exact callBE (ok_sum1 G.cm) hg (G.blt _ (by decide +kernel)) (by rfl) (by decide +kernel) (by decide +kernel) ok hl ha
  · cases h; exact callBE ok_sorted hg (G.blt _ (by decide +kernel)) (by rfl) (by decide +kernel) (by decide +kernel) ok hl ha
  · cases h; exact callTE ok_tuple1 hg (G.blt _ (by decide +kernel)) (by rfl) (by decide +kernel) (by decide +kernel) ok hl ha
  · cases h; exact callTE ok_list1 hg (G.blt _ (by decide +kernel)) (by rfl) (by decide +kernel) (by decide +kernel) ok hl ha
  · cases h
theorem ty_boot {m : Nat} (h : m < 6) : bootBuiltins (tyStr m) = some (.type (tyNm m)) ∧ tyStr m ≠ "__name__" ∧ (tyStr m == ("__debug__" : Str)) = false ∧ blts.contains (tyStr m) = true := by
  match m, h with
  | 0, _ => exact ⟨by rfl, by decide +kernel, by decide +kernel, by decide +kernel⟩
  | 1, _ => exact ⟨by rfl, by decide +kernel, by decide +kernel, by decide +kernel⟩
  | 2, _ => exact ⟨by rfl, by decide +kernel, by decide +kernel, by decide +kernel⟩
  | 3, _ => exact ⟨by rfl, by decide +kernel, by decide +kernel, by decide +kernel⟩
  | 4, _ => exact ⟨by rfl, by decide +kernel, by decide +kernel, by decide +kernel⟩
  | 5, _ => exact ⟨by rfl, by decide +kernel, by decide +kernel, by decide +kernel⟩
end
end Rt

set_option Elab.async false
set_option linter.all false
set_option maxRecDepth 100000
/-! Rt21: the check of expressions is sound: the induction. -/
namespace Rt
open PySem PySem.Spec PyProof.Rows L2
section
variable {n : Nms} {C : Orc} {k : Ck} {X : Cx} {pos : Pos} {W : Nat}
theorem pes1 {es : List E} {a : Expr} (h : PEs n C X es [a]) : ∃ e, es = [e] ∧ noStar a = true ∧ PE X a (tE n C e) := by
  cases h with
  | cons h t => cases t; exact ⟨_, rfl, h⟩
theorem pes2 {es : List E} {a b : Expr} (h : PEs n C X es [a, b]) : ∃ e f, es = [e, f] ∧ (noStar a = true ∧ PE X a (tE n C e)) ∧ noStar b = true ∧ PE X b (tE n C f) := by
  cases h with
  | cons h t => obtain ⟨f, rfl, q⟩ := pes1 t; exact ⟨_, _, rfl, h, q⟩
theorem pes3 {es : List E} {a b c : Expr} (h : PEs n C X es [a, b, c]) : ∃ e f g, es = [e, f, g] ∧ (noStar a = true ∧ PE X a (tE n C e)) ∧ (noStar b = true ∧ PE X b (tE n C f)) ∧ noStar c = true ∧ PE X c (tE n C g) := by
  cases h with
  | cons h t => obtain ⟨f, g, rfl, q⟩ := pes2 t; exact ⟨_, _, _, rfl, h, q⟩
theorem m1_of {o a : Expr} {nm : Str} {apos cpos : Pos} (hb : baseOk o = true) (hl : (apos.endLine == cpos.line) = true) (na : noStar a = true) : M1 X o nm apos a cpos :=
  ⟨base_ok hb, by rw [star_of na]; rfl, hl, by rw [star_of na]; rfl⟩
theorem m2_of {o a b : Expr} {nm : Str} {apos cpos : Pos} (hb : baseOk o = true) (hl : (apos.endLine == cpos.line) = true) (na : noStar a = true) (nb : noStar b = true) : M2 X o nm apos a b cpos :=
  ⟨base_ok hb, by rw [star_of na, star_of nb]; rfl, hl, by rw [star_of na, star_of nb]; rfl⟩
theorem bool_if {α : Type} {b : Bool} {x : α} {r : α} (h : (if b = true then some x else none) = some r) : b = true ∧ x = r := by
  cases b with
  | false => cases h
  | true => exact ⟨rfl, Option.some.inj h⟩
theorem isI_or {p : Prim} {as : List Expr} {x : Str} {r : List Expr} (h : (match p, as with
    | .isI [m], [b, .Name tn _] => if decide (x = "isinstance") && decide (m < 6) && decide (tn = tyStr m) && glo k x && glo k tn then some [b] else none
    | p, as => if decide (bltT p as.length = some x) && glo k x then some as else none) = some r) :
    (∃ m b tn q, p = .isI [m] ∧ as = [b, .Name tn q] ∧ x = "isinstance" ∧ m < 6 ∧ tn = tyStr m ∧ glo k x = true ∧ glo k tn = true ∧ r = [b]) ∨ (bltT p as.length = some x ∧ glo k x = true ∧ r = as) := by
  split at h
  · obtain ⟨h1, rfl⟩ := bool_if h
    simp only [Bool.and_eq_true, decide_eq_true_eq] at h1
    exact .inl ⟨_, _, _, _, rfl, rfl, h1.1.1.1.1, h1.1.1.1.2, h1.1.1.2, h1.1.2, h1.2, rfl⟩
  · obtain ⟨h1, rfl⟩ := bool_if h
    simp only [Bool.and_eq_true, decide_eq_true_eq] at h1
    exact .inr ⟨h1.1, h1.2, rfl⟩
theorem pr_ok (G : Gx n C k X) {p : Prim} {a : Expr} {as : List Expr} {es : List E} (h : prArgs k p a = some as) (ok : rdOk es = true) (ha : PEs n C X es as) : PE X a (tE n C (.pr p es)) := by
  haveI := G.sk
  unfold prArgs at h
  split at h
  · obtain ⟨h1, rfl⟩ := bool_if h
    obtain ⟨e, f, rfl, q1, q2⟩ := pes2 ha
    exact opE (binP_ok h1) ok q1.2 q2.2
  · obtain ⟨h1, rfl⟩ := bool_if h
    obtain ⟨e, f, rfl, q1, q2⟩ := pes2 ha
    simp only [Bool.and_eq_true, Bool.not_eq_true'] at h1
    exact cmpE (cmpP_ok G.hu h1.1) ok h1.2 q1.2 q2.2
  · obtain ⟨h1, rfl⟩ := bool_if h
    obtain ⟨e, rfl, q1⟩ := pes1 ha
    obtain rfl := of_decide_eq_true h1
    exact negE q1.2
  · rename_i o l hh s p1 p2
    rw [Option.map_eq_some_iff] at h
    obtain ⟨rest, h, rfl⟩ := h
    unfold slP at h
    split at h
    · obtain ⟨h1, rfl⟩ := bool_if h
      obtain ⟨e, rfl, q1⟩ := pes1 ha
      obtain rfl := of_decide_eq_true h1
      exact slE q1.2
    · obtain ⟨h1, rfl⟩ := bool_if h
      obtain ⟨e, f, rfl, q1, q2⟩ := pes2 ha
      obtain rfl := of_decide_eq_true h1
      exact slE1 ok q1.2 q2.2
    · obtain ⟨h1, rfl⟩ := bool_if h
      obtain ⟨e, f, rfl, q1, q2⟩ := pes2 ha
      obtain rfl := of_decide_eq_true h1
      exact slE2 ok q1.2 q2.2
    · obtain ⟨h1, rfl⟩ := bool_if h
      obtain ⟨e, f, g, rfl, q1, q2, q3⟩ := pes3 ha
      obtain rfl := of_decide_eq_true h1
      exact slE3 ok q1.2 q2.2 q3.2
    · obtain ⟨h1, rfl⟩ := bool_if h
      obtain ⟨e, rfl, q1⟩ := pes1 ha
      obtain rfl := of_decide_eq_true h1
      exact revE q1.2
    · cases h
  · obtain ⟨h1, rfl⟩ := bool_if h
    obtain ⟨e, f, rfl, q1, q2⟩ := pes2 ha
    simp only [Bool.and_eq_true, Bool.not_eq_true', decide_eq_true_eq] at h1
    obtain ⟨rfl, h2⟩ := h1
    exact ixE (by have := G.hu; omega) (isSl_plain h2) ok q1.2 q2.2
  · rename_i x q as' p1
    rcases isI_or h with ⟨m, b, tn, q2, rfl, rfl, rfl, h2, rfl, h4, h5, rfl⟩ | ⟨h1, h2, rfl⟩
    · obtain ⟨e, rfl, q1⟩ := pes1 ha
      obtain ⟨b1, b2, b3, b4⟩ := ty_boot h2
      exact isIE h2 (G.gl h4) (G.blt _ (by decide +kernel)) (G.gl h5) (G.blt _ b4) b1 b2 b3 ok q1.1 q1.2
    · exact blt_ok G h1 rfl (G.gl h2) ok ha
  · rename_i o nm apos as' cpos
    obtain ⟨h1, rfl⟩ := bool_if h
    simp only [Bool.and_eq_true] at h1
    obtain ⟨⟨h2, h3⟩, h4⟩ := h1
    unfold methP at h2
    simp only [Bool.or_eq_true, Bool.and_eq_true, decide_eq_true_eq, beq_iff_eq] at h2
    rcases h2 with (⟨⟨rfl, rfl⟩, hl⟩ | ⟨⟨rfl, rfl⟩, hl⟩) | ⟨⟨rfl, rfl⟩, hl⟩
    · obtain ⟨a1, rfl⟩ := List.length_eq_one_iff.mp hl
      obtain ⟨e, f, rfl, q1, q2⟩ := pes2 ha
      exact indexE G.hu ok q2.1 q1.2 q2.2 (base_ok h3) h4
    · obtain ⟨a1, rfl⟩ := List.length_eq_one_iff.mp hl
      obtain ⟨e, f, rfl, q1, q2⟩ := pes2 ha
      exact get1E (by have := G.hu; omega) (m1_of h3 h4 q2.1) ok q1.2 q2.2
    · match as', hl with
      | [a1, a2], _ =>
        obtain ⟨e, f, g, rfl, q1, q2, q3⟩ := pes3 ha
        exact get2E (by have := G.hu; omega) (m2_of h3 h4 q2.1 q3.1) ok q1.2 q2.2 q3.2
  · cases h
/-! ### and, or -/
abbrev PTs' (n : Nms) (C : Orc) (X : Cx) : List E → List Expr → Prop := Paired fun e a => PT X a (tT n C e)
theorem anPW : ∀ {es : List E} {as : List Expr}, PTs' n C X es as → es ≠ [] → PW X (.BoolOp .And as pos) (tT n C (.an es))
  | _, _, .nil, h => absurd rfl h
  | _, _, .cons h .nil, _ => an1T h
  | _, _, .cons h (.cons h2 t), _ => anT h (anPW (.cons h2 t) (by simp))
theorem orPW : ∀ {es : List E} {as : List Expr}, PTs' n C X es as → es ≠ [] → PW X (.BoolOp .Or as pos) (tT n C (.or es))
  | _, _, .nil, h => absurd rfl h
  | _, _, .cons h .nil, _ => or1T h
  | _, _, .cons h (.cons h2 t), _ => orT h (orPW (.cons h2 t) (by simp))
theorem noRd_cons {e : E} {es : List E} (h : noRd (e :: es) = true) : rdOf e = none ∧ noRd es = true := by
  have h' := Bool.and_eq_true_iff.mp (show ((rdOf e).isNone && noRd es) = true from h)
  exact ⟨Option.isNone_iff_eq_none.mp h'.1, h'.2⟩
theorem anPE : ∀ {es : List E} {as : List Expr}, PEs n C X es as → noRd es = true → es ≠ [] → PE X (.BoolOp .And as pos) (tE n C (.an es))
  | _, _, .nil, _, h => absurd rfl h
  | _, _, .cons h .nil, r, _ => an1E (noRd_cons r).1 h.2
  | _, _, .cons h (.cons h2 t), r, _ => anE (noRd_cons r).1 h.2 (anPE (.cons h2 t) (noRd_cons r).2 (by simp))
theorem orPE : ∀ {es : List E} {as : List Expr}, PEs n C X es as → noRd es = true → es ≠ [] → PE X (.BoolOp .Or as pos) (tE n C (.or es))
  | _, _, .nil, _, h => absurd rfl h
  | _, _, .cons h .nil, r, _ => or1E (noRd_cons r).1 h.2
  | _, _, .cons h (.cons h2 t), r, _ => orE (noRd_cons r).1 h.2 (orPE (.cons h2 t) (noRd_cons r).2 (by simp))
/-! ### calls of the text's defs -/
theorem cl_ok (G : Gx n C k X) {f : Nat} {a : Expr} {as : List Expr} {es : List E} (h : clArgs k f a = some as) (hn : (iosL es).Nodup) (ha : Paired (ArgE n C X) es as) : PE X a (tE n C (.cl f es)) := by
  unfold clArgs at h
  split at h
  · obtain ⟨h1, rfl⟩ := bool_if h
    simp only [Bool.and_eq_true, decide_eq_true_eq, Bool.not_eq_true'] at h1
    obtain ⟨⟨⟨h2, h3⟩, h4⟩, h5⟩ := h1
    obtain ⟨j, fa, fd, ps, F, hr, hmg, hk, hb⟩ := G.fns _ _ _ h2
    cases ha with
    | nil => cases h4
    | cons q t =>
      rename_i e a1 es as
      have hst : ∀ {es : List E} {as : List Expr}, Paired (ArgE n C X) es as → es.length = as.length := by
        intro es as h
        induction h with
        | nil => rfl
        | cons h t ih => rw [List.length_cons, List.length_cons, ih]
      refine pe_wk (pe_call F hr (G.gl h3) hmg hk hb .nil pass0 (paA (.cons q t)) h5 (star_of q.1) ?_) fun σ H Q h => ?_
      · have hst' : ∀ {es : List E} {as : List Expr} {pp : Pos}, Paired (ArgE n C X) es as → (backTo pp (starEach as X.env)).any (·.1) = false := by
          intro es as pp h
          induction h with
          | nil => rfl
          | cons h t ih =>
            rw [star_of h.1]
            show (false || _) = false
            rw [Bool.false_or]
            exact ih
        exact hst' t
      · have hc := call_ok (E := E0) hn (by rw [List.length_cons, List.length_cons, hst t]) (G.wl _ _ _ h2) h
        refine (fun x => x) (?_ : tCall (spF n C f (a1 :: as).length) [] E0 (tA n C (e :: es)) σ H Q)
        unfold tCall
        obtain ⟨ρ, F', R, Z, ps', ρ', S, ev, kk⟩ := hc
        refine ⟨ρ, F', R, Z, ps', ρ', S, ev, fun vs H' F'' Z' f' g s r => ?_⟩
        have := kk vs H' F'' Z' f' g s r
        show spF n C f (a1 :: as).length (vs ++ []) H' Q E0
        rw [List.append_nil]
        exact this
  · cases h
theorem kw_all {env : PySem.Env} : ∀ {kws : List Keyword} {pos : Pos}, kws.all (fun q => q.arg.isSome) = true → (backToKw pos (keywordEach kws env)).all (·.1.isSome) = true ∧ (backToKw pos (keywordEach kws env)).any (·.1.isNone) = false ∧ (backToKw pos (keywordEach kws env)).filterMap (·.1) = kws.map kwNm
  | [], pos, _ => ⟨rfl, rfl, rfl⟩
  | ⟨a, e, q⟩ :: kws, pos, h => by
    have h' := Bool.and_eq_true_iff.mp (show (a.isSome && kws.all fun q => q.arg.isSome) = true from h)
    obtain ⟨i1, i2, i3⟩ := kw_all (pos := pos) h'.2
    cases a with
    | none => cases h'.1
    | some x => exact ⟨i1, i2, congrArg (x :: ·) i3⟩
theorem clk_ok (G : Gx n C k X) {f : Nat} {ix : List Nat} {a : Expr} {kws : List Keyword} {es : List E} (h : kwArgs k f ix a = some kws) (h0 : noRd es = true) (ha : PEs n C X es (kws.map kwVal)) : PE X a (tE n C (.clk f ix es)) := by
  unfold kwArgs at h
  split at h
  · obtain ⟨h1, rfl⟩ := bool_if h
    simp only [Bool.and_eq_true, decide_eq_true_eq, Bool.not_eq_true'] at h1
    obtain ⟨⟨⟨h2, h3⟩, h4⟩, h5⟩ := h1
    obtain ⟨⟨j, fa, fd, ps, F, hr, hmg, hk, hb⟩, wl⟩ := G.kwf _ _ _ _ h3
    have hp : ∀ {es : List E} {kws : List Keyword}, PEs n C X es (kws.map kwVal) → Paired (fun e (a : Keyword) => PE X a.value (tE n C e)) es kws ∧ es.length = kws.length := by
      intro es kws
      induction kws generalizing es with
      | nil => intro h; cases h; exact ⟨.nil, rfl⟩
      | cons q kws ih =>
        intro h
        cases h with
        | cons h t =>
          obtain ⟨i1, i2⟩ := ih t
          exact ⟨.cons h.2 i1, by rw [List.length_cons, List.length_cons, i2]⟩
    obtain ⟨p1, p2⟩ := hp ha
    refine pe_wk (pe_callN0 F hr (G.gl h4) hmg hk hb pass0 (pkL p1) (kw_all h2).1 (kw_all h2).2.2 h5 (by rw [(kw_all h2).2.1]; rfl)) fun σ H Q h => ?_
    refine tL_mono (callk_ok (E := E0) h0 rfl wl h) fun zs H1 ⟨q1, q2⟩ => ⟨rfl, ?_, q2⟩
    rw [q1, List.length_map, p2]
  · cases h
/-! ### methods that change -/
theorem muNm_ok {m : MP} {nm : Str} {l : Nat} (h : muNm m = some (nm, l)) : ∃ id r, Slot "list" nm id ∧ typeOf (.builtin id) = pure (.type "method_descriptor") ∧ MtR X id r ∧ MuP n X.K "list" m r ∧ l < 28 := by
  cases m <;> cases h
  · exact ⟨"list.append", rAppend, PySem.F.slot_list_append, PySem.F.type_list_append, mt_append, mu_append, by decide⟩
  · exact ⟨"list.pop", rPop, PySem.F.slot_list_pop, PySem.F.type_list_pop, mt_pop, mu_pop0, by decide⟩
  · exact ⟨"list.pop", rPopAt, PySem.F.slot_list_pop, PySem.F.type_list_pop, mt_popAt, mu_pop1, by decide⟩
  · exact ⟨"list.reverse", rReverse, PySem.F.slot_list_reverse, PySem.F.type_list_reverse, mt_reverse, mu_reverse, by decide⟩
theorem mu_ok (G : Gx n C k X) {m : MP} {i : Nat} {a : Expr} {as : List Expr} {es : List E} (h : muArgs k m i a = some as) (h0 : noRd es = true) (hi : (mtL es).contains i = false) (ha : PEs n C X es as) : PE X a (tE n C (.mu m i es)) := by
  unfold muArgs at h
  split at h
  · obtain ⟨h1, rfl⟩ := bool_if h
    simp only [Bool.and_eq_true, decide_eq_true_eq] at h1
    obtain ⟨⟨h2, h3⟩, h4⟩ := h1
    obtain ⟨id, r, s1, s2, s3, s4, s5⟩ := muNm_ok (n := n) (X := X) h2
    have hb : ∀ {o : Expr} {nm : Str}, nmC k i o = true → attributeBase o nm X.env (eval o X.env) = eval o X.env := by
      intro o nm h
      cases o <;> first | exact base_ok rfl | cases h
    exact muE PySem.F.plainAttrs_list s1 s2 s3 s4 (nmC_ok G h3) (hb h3) h4 h0 hi ha (decide_eq_true s5)
  · cases h
/-! ### targets -/
theorem noStarT_of : ∀ {t : Tg} {e : Expr}, kG k t e = true → noStarT e = true
  | .nm _, e, h => by cases e <;> first | rfl | cases h
  | .nf _, e, h => by cases e <;> first | rfl | cases h
  | .tp _, e, h => by cases e <;> first | rfl | cases h
theorem kGs_len : ∀ {ts : List Tg} {es : List Expr}, kGs k ts es = true → es.length = ts.length ∧ es.all noStarT = true
  | [], [], _ => ⟨rfl, rfl⟩
  | t :: ts, e :: es, h => by
    have h' := Bool.and_eq_true_iff.mp (show (kG k t e && kGs k ts es) = true from h)
    obtain ⟨h1, h2⟩ := kGs_len h'.2
    exact ⟨by rw [List.length_cons, List.length_cons, h1], by rw [List.all_cons, noStarT_of h'.1, h2]; rfl⟩
  | [], _ :: _, h => by cases h
  | _ :: _, [], h => by cases h
mutual
theorem kG_ok (G : Gx n C k X) : ∀ (t : Tg) (e : Expr), kG k t e = true → PG X e (gT n t)
  | .nm i, e, h => by
    cases e with
    | Name x p =>
      have h' := Bool.and_eq_true_iff.mp (show (decide (k.N[i]? = some x) && loc k x) = true from h)
      obtain ⟨l1, l2⟩ := G.locOk h'.2
      exact nmG G.ndX (G.ix (of_decide_eq_true h'.1)) l1 l2
    | _ => cases h
  | .nf i, e, h => by
    cases e with
    | Name x p =>
      have h' := Bool.and_eq_true_iff.mp (show (decide (k.N[i]? = some x) && loc k x) = true from h)
      obtain ⟨l1, l2⟩ := G.locOk h'.2
      exact nfG G.ndX (G.ix (of_decide_eq_true h'.1)) l1 l2
    | _ => cases h
  | .tp ts, e, h => by
    cases e with
    | Tuple es j p =>
      obtain ⟨h1, h2⟩ := kGs_len (show kGs k ts es = true from h)
      exact tpG G.cm (kGs_ok G ts es h) h1 h2
    | _ => cases h
theorem kGs_ok (G : Gx n C k X) : ∀ (ts : List Tg) (es : List Expr), kGs k ts es = true → PGs X es (gTs n ts)
  | [], [], _ => nilGs
  | t :: ts, e :: es, h => by
    have h' := Bool.and_eq_true_iff.mp (show (kG k t e && kGs k ts es) = true from h)
    exact consGs (kG_ok G t e h'.1) (kGs_ok G ts es h'.2) (by rw [assign_cons (noStarT_of h'.1)]; rfl)
  | [], _ :: _, h => by cases h
  | _ :: _, [], h => by cases h
end
end
end Rt

set_option Elab.async false
set_option linter.all false
set_option maxRecDepth 100000
/-! Rt22: the check of expressions is sound: all forms. -/
namespace Rt
open PySem PySem.Spec PyProof.Rows L2
section
variable {n : Nms} {C : Orc} {pos : Pos} {W : Nat}
theorem lookup_rel_free {sc : Scope} : ∀ {names : List (Str × NameKind)} {x : Str}, names.lookup x = some .free →
    (names.map fun (n, k) => if (k == NameKind.free && sc.kind == .function && sc.names.lookup n == some .cell) then (n, NameKind.cell) else (n, k)).lookup x = some .free ∨
    (names.map fun (n, k) => if (k == NameKind.free && sc.kind == .function && sc.names.lookup n == some .cell) then (n, NameKind.cell) else (n, k)).lookup x = some .cell
  | [], x, h => by simp at h
  | (m, kd) :: r, x, h => by
    rw [List.map_cons]
    dsimp only
    by_cases e : (x == m) = true
    · simp only [List.lookup_cons, e] at h
      cases h
      by_cases c : ((NameKind.free == NameKind.free) && sc.kind == .function && sc.names.lookup m == some .cell) = true
      · rw [if_pos c]; right; simp only [List.lookup_cons, e]
      · rw [if_neg c]; left; simp only [List.lookup_cons, e]
    · have e' : (x == m) = false := by simpa using e
      simp only [List.lookup_cons, e'] at h
      have ih := lookup_rel_free (sc := sc) h
      by_cases c : ((kd == NameKind.free) && sc.kind == .function && sc.names.lookup m == some .cell) = true
      · rw [if_pos c]; simp only [List.lookup_cons, e']; exact ih
      · rw [if_neg c]; simp only [List.lookup_cons, e']; exact ih
theorem Gx.blk {k : Ck} {X : Cx} (G : Gx n C k X) {s : Shared} {H : Hp} {scope : Scope} {cl : List (Str × Addr)} {Ca : Addr} {fp : List Addr} : Gx n C (ckSc k scope) (X.blk s H scope (compEnvC scope cl Ca X.env) fp) where
  sk := G.sk
  nm := G.nm
  nd := G.nd
  loc := fun x h => lookup_relabel_local h
  cel := fun x h => ⟨lookup_relS_keep (sc := X.env.scope) (by decide) h, by
    show (scope.names.lookup x == some .cell) = true
    rw [show scope.names.lookup x = some .cell from h]
    rfl⟩
  fre := fun x h => lookup_rel_free (sc := X.env.scope) h
  glo := fun x h => lookup_relS_keep (sc := X.env.scope) (by decide) h
  cm := G.cm
  hu := G.hu
  pas := PassesOwn.never
  blt := G.blt
  fns := G.fns
  kwf := G.kwf
  wl := G.wl
theorem Gx.blkOk {k : Ck} {X : Cx} (G : Gx n C k X) {scope : Scope} {own : List (Str × Nat)} (h : blkC k.N k.sc scope own = true) : BlkOk X.N X.env.scope scope own := by
  have B := blkOk_by h
  refine ⟨B.kind, B.uniq, fun p hp => by rw [G.nm]; exact B.ix p hp, fun y hy e => ?_, fun y hy e => by rw [G.nm]; exact B.own y hy e⟩
  rcases B.free y hy e with q | q
  · exact .inl (G.cel _ q).1
  · exact (G.fre _ q).elim .inr .inl
theorem noSet {iter : Expr} (h : isSet iter = false) (env : PySem.Env) : ∀ x, foldedSetIterable iter env x = pure x := by
  intro x
  cases iter <;> first | rfl | cases h
theorem lcOf_ok {a : Expr} {ae te iter : Expr} {ifs : List Expr} {sc : Scope} (h : lcOf a = some (ae, te, iter, ifs, sc)) : ∃ p, a = .ListComp ae [⟨te, iter, ifs, 0⟩] sc p := by
  unfold lcOf at h
  split at h
  · cases h; exact ⟨_, rfl⟩
  · cases h
/-! ### a op1 b op2 c -/
theorem ch_imp {X : Cx} {p q : Prim} {e1 e2 e3 : E} (ok : rdOk [e1, e2, e3] = true) {σ : L2.St} {H : Hp} {Q : VK} (h : tE n C (.ch p q e1 e2 e3) σ H fun v H' => Q v H') :
    tChain (fun x y H Q => PR n p [x, y] H Q) (fun x y H Q => PR n q [x, y] H Q) (tE n C e1) (tE n C e2) (tE n C e3) σ H Q := by
  obtain ⟨ρ, F, R, Z, w, ρ', S, ev, k⟩ := h
  have ok1 := Bool.and_eq_true_iff.mp (show ((match rdOf e1 with | some i => !(mtL [e2, e3]).contains i | none => true) && rdOk [e2, e3]) = true from ok)
  have ok2 := Bool.and_eq_true_iff.mp (show ((match rdOf e2 with | some i => !(mtL [e3]).contains i | none => true) && rdOk [e3]) = true from ok1.2)
  simp only [evE] at ev
  cases v1 : evE C e1 ρ with
  | none => rw [v1] at ev; cases ev
  | some t =>
    obtain ⟨a, ρ1⟩ := t
    rw [v1] at ev
    dsimp only at ev
    cases v2 : evE C e2 ρ1 with
    | none => rw [v2] at ev; cases ev
    | some t =>
      obtain ⟨b, ρ2⟩ := t
      rw [v2] at ev
      dsimp only at ev
      refine ⟨ρ, F, R, Z, a, ρ1, S, v1, fun x H1 F1 Z1 f1 g1 S1 r1 => ?_⟩
      refine ⟨ρ1, F1, fun a => R a + f1 a, Z1, b, ρ2, S1, v2, fun y H2 F2 Z2 f2 g2 S2 r2 => ?_⟩
      have rx : ∃ f, repV n H2 Z2 a x f := by
        unfold resV at r1
        cases hr : rdOf e1 with
        | none => rw [hr] at r1; exact ⟨f1, g2.other (fun a => Nat.le_add_left _ _) r1⟩
        | some i =>
          rw [hr] at r1
          have hi : mset (mtE e2) i = false := by
            have := ok1.1
            rw [hr] at this
            simp only [mtL, List.append_nil, Bool.not_eq_true', List.contains_eq_mem, List.mem_append, decide_eq_false_iff_not, not_or] at this
            simpa [mset] using this.1
          exact ⟨F1 i, g2.mine hi r1.2.1⟩
      obtain ⟨fx, rx⟩ := rx
      obtain ⟨fy, ry⟩ := resV_rep r2
      cases v3 : app p [a, b] with
      | none => rw [v3] at ev; cases ev
      | some c =>
        rw [v3] at ev
        have hc : ∃ kk, c = .d (.bl kk) := by
          cases c with
          | d d => cases d <;> first | exact ⟨_, rfl⟩ | cases ev
          | _ => cases ev
        obtain ⟨kk, rfl⟩ := hc
        refine ⟨Z2, [a, b], .d (.bl kk), S2.zt, ⟨x, [y], fx, rfl, rx, y, [], fy, rfl, ry, rfl⟩, v3, fun z H3 Z3 f3 w => ?_⟩
        obtain ⟨hz, hf⟩ := bl_res w.rp
        refine ⟨kk, hz, ?_⟩
        have S3 : Sv n H3 Z3 ρ2 σ F2 fun a => R a + f1 a + f2 a := S2.ext w.ext
        have m1 : ∀ i, (mset (mtE e1) i || mset (mtE e2) i) = true → mset (mtE (.ch p q e1 e2 e3)) i = true := fun i hi => by
          show mset (mtE e1 ++ (mtE e2 ++ mtE e3)) i = true
          rcases Bool.or_eq_true_iff.mp hi with h | h
          · exact mset_l h
          · exact mset_r (mset_l h)
        have g3 : Go (mset (mtE (.ch p q e1 e2 e3))) R H Z F ρ H3 Z3 F2 ρ2 := ((g1.trans g2 fun a => Nat.le_add_right _ _).mono m1).ext_ w.ext
        cases kk with
        | false =>
          rw [if_neg Bool.false_ne_true]
          simp only [Option.some.injEq, Prod.mk.injEq] at ev
          obtain ⟨rfl, rfl⟩ := ev
          exact k _ H3 F2 Z3 (fun _ => 0) g3 ((S3.less fun a => by show R a ≤ R a + f1 a + f2 a; omega).zero fun _ => rfl) ⟨rfl, fun _ => rfl⟩
        | true =>
          rw [if_pos rfl]
          dsimp only at ev
          cases v4 : evE C e3 ρ2 with
          | none => rw [v4] at ev; cases ev
          | some t =>
            obtain ⟨d, ρ3⟩ := t
            rw [v4] at ev
            dsimp only at ev
            refine ⟨ρ2, F2, fun a => R a + f1 a + f2 a, Z3, d, ρ3, S3, v4, fun u H4 F4 Z4 f4 g4 S4 r4 => ?_⟩
            have ry4 : ∃ f, repV n H4 Z4 b y f := by
              have mono3 : ∀ {q : PV} {u : V} {f : Fp}, repV n H2 Z2 q u f → repV n H3 Z3 q u f := fun r => repV_mono _ _ _ (fun a o e _ => w.ext.keep a o e) w.ext.zm r
              unfold resV at r2
              cases hr : rdOf e2 with
              | none => rw [hr] at r2; exact ⟨f2, g4.other (fun a => Nat.le_add_left _ _) (mono3 r2)⟩
              | some i =>
                rw [hr] at r2
                have hi : mset (mtE e3) i = false := by
                  have := ok2.1
                  rw [hr] at this
                  simp only [mtL, List.append_nil, Bool.not_eq_true'] at this
                  exact this
                exact ⟨F2 i, g4.mine hi (mono3 r2.2.1)⟩
            obtain ⟨fy4, ry4⟩ := ry4
            obtain ⟨fu, ru⟩ := resV_rep r4
            cases v5 : app q [b, d] with
            | none => rw [v5] at ev; cases ev
            | some c2 =>
              rw [v5] at ev
              have hc2 : ∃ kk, c2 = .d (.bl kk) := by
                cases c2 with
                | d d => cases d <;> first | exact ⟨_, rfl⟩ | cases ev
                | _ => cases ev
              obtain ⟨k2, rfl⟩ := hc2
              simp only [Option.some.injEq, Prod.mk.injEq] at ev
              obtain ⟨rfl, rfl⟩ := ev
              refine ⟨Z4, [b, d], .d (.bl k2), S4.zt, ⟨y, [u], fy4, rfl, ry4, u, [], fu, rfl, ru, rfl⟩, v5, fun z5 H5 Z5 f5 w5 => ?_⟩
              obtain ⟨hz5, hf5⟩ := bl_res w5.rp
              refine k z5 H5 F4 Z5 (fun _ => 0) ?_ (((S4.ext w5.ext).less fun a => by show R a ≤ R a + f1 a + f2 a + f4 a; omega).zero fun _ => rfl) ⟨hz5, fun _ => rfl⟩
              refine ((g3.trans g4 fun a => by show R a ≤ R a + f1 a + f2 a; omega).mono fun i hi => ?_).ext_ w5.ext
              rcases Bool.or_eq_true_iff.mp hi with h | h
              · exact h
              · show mset (mtE e1 ++ (mtE e2 ++ mtE e3)) i = true
                exact mset_r (mset_r h)
theorem chE {X : Cx} {p q : Prim} {op op' : CmpOp} {e1 e2 e3 : E} {a b c : Expr} (h1 : OpP n X (compareOp op) p) (h2 : OpP n X (compareOp op') q) (ok : rdOk [e1, e2, e3] = true) (hm : lastMarks [op, op'] [b, c] = false) (ha : PE X a (tE n C e1)) (hb : PE X b (tE n C e2)) (hc : PE X c (tE n C e3)) :
    PE X (.Compare a [op, op'] [b, c] pos) (tE n C (.ch p q e1 e2 e3)) := pe_wk (pe_chain h1 h2 ha hb hc hm) fun _ _ _ h => ch_imp (X := X) ok h
theorem ev_ch_bl {p q : Prim} {e1 e2 e3 : E} {ρ ρ' : Env} {v : PV} (h : evE C (.ch p q e1 e2 e3) ρ = some (v, ρ')) : ∃ b, v = .d (.bl b) := by
  simp only [evE] at h
  repeat' (split at h)
  all_goals first | (cases h; exact ⟨_, rfl⟩) | cases h
theorem chT {X : Cx} {p q : Prim} {op op' : CmpOp} {e1 e2 e3 : E} {a b c : Expr} (h1 : OpP n X (compareOp op) p) (h2 : OpP n X (compareOp op') q) (ok : rdOk [e1, e2, e3] = true) (hm : lastMarks [op, op'] [b, c] = false) (ha : PE X a (tE n C e1)) (hb : PE X b (tE n C e2)) (hc : PE X c (tE n C e3)) :
    PT X (.Compare a [op, op'] [b, c] pos) (tT n C (.ch p q e1 e2 e3)) := pt_wk (pt_chain h1 h2 ha hb hc hm) fun σ H Q ⟨ρ, F, R, Z, b, ρ', S, ev, k⟩ => by
  obtain ⟨v, e1, e2⟩ := evT_some ev
  obtain ⟨c, rfl⟩ := ev_ch_bl e1
  cases e2
  exact ch_imp (X := X) ok ⟨ρ, F, R, Z, _, ρ', S, e1, fun v H1 F1 Z1 f1 g1 S1 r1 => ⟨b, ((resV_own rfl).mp r1).1, k H1 F1 Z1 g1 (S1.less fun a => Nat.le_add_right _ _)⟩⟩
theorem csPT {X : Cx} {cs : List E} {ifs : List Expr} (h : cs.length ≤ 1) (t : PTs' n C X cs ifs) : PTs X ifs (tCs n C cs) := by
  cases t with
  | nil => exact csNil
  | cons h1 t =>
    cases t with
    | nil => exact csOne h1
    | cons _ _ => simp at h
theorem rng_ok {k : Ck} {X : Cx} (G : Gx n C k X) {tg a : Expr} {as : List Expr} {es : List E} (h : rngArgs k a = some as) (ok : rdOk es = true) (ha : PEs n C X es as) : PI X tg a (tI n C (.rng es)) := by
  haveI := G.sk
  unfold rngArgs at h
  split at h
  · obtain ⟨h1, rfl⟩ := bool_if h
    simp only [Bool.and_eq_true, decide_eq_true_eq, Bool.or_eq_true, beq_iff_eq] at h1
    obtain ⟨⟨rfl, h2⟩, h3⟩ := h1
    have hb : X.mg "range" = none := G.blt _ (by decide +kernel)
    rename_i q as' p'
    rcases h3 with (h3 | h3) | h3
    · obtain ⟨a1, rfl⟩ := List.length_eq_one_iff.mp h3
      obtain ⟨e, rfl, q1⟩ := pes1 ha
      exact rng1I (G.gl h2) hb ok q1.1 q1.2
    · match as', h3 with
      | [a1, a2], _ =>
        obtain ⟨e, f, rfl, q1, q2⟩ := pes2 ha
        exact rng2I (G.gl h2) hb ok q1.1 q2.1 q1.2 q2.2
    · match as', h3 with
      | [a1, a2, a3], _ =>
        obtain ⟨e, f, g, rfl, q1, q2, q3⟩ := pes3 ha
        exact rng3I (G.gl h2) hb ok q1.1 q2.1 q3.1 q1.2 q2.2 q3.2
  · cases h
theorem enu_ok {k : Ck} {X : Cx} (G : Gx n C k X) {tg a b : Expr} {x : E} (h : enuArg k a = some b) (ht : isTupE tg = true) (hr : rdOf x = none) (na : noStar b = true) (hb : PE X b (tE n C x)) : PI X tg a (tI n C (.enu x)) := by
  haveI := G.sk
  unfold enuArg at h
  split at h
  · obtain ⟨h1, rfl⟩ := bool_if h
    simp only [Bool.and_eq_true, decide_eq_true_eq] at h1
    obtain ⟨rfl, h2⟩ := h1
    cases tg with
    | Tuple es j p => exact enuI (G.gl h2) (G.blt _ (by decide +kernel)) hr na hb
    | _ => cases ht
  · cases h
theorem ioOf_eq {e : E} {i : Nat} (h : ioOf e = some i) : e = .io i := by
  cases e <;> cases h
  rfl
mutual
theorem kE_ok : ∀ (e : E) (k : Ck) (X : Cx) (_ : Gx n C k X) (a : Expr), kE k e a = true → PE X a (tE n C e)
  | .c d, k, X, G, a, h => cC_ok h
  | .v i, k, X, G, a, h => vE (nmC_ok G h)
  | .rd i, k, X, G, a, h => rdE (nmC_ok G h)
  | .mv i, k, X, G, a, h => mvE (nmC_ok G h)
  | .fz i, k, X, G, a, h => fzE (nmC_ok G h)
  | .io i, k, X, G, a, h => by cases h
  | .frz e, k, X, G, a, h => by
    have h' := Bool.and_eq_true_iff.mp (show ((rdOf e).isNone && kE k e a) = true from h)
    exact frzE (kE_ok e k X G a h'.2) (Option.isNone_iff_eq_none.mp h'.1)
  | .tup es, k, X, G, a, h => by
    cases a with
    | Tuple as j p =>
      have h' : (noRd es && decide (es.length ≤ 1000) && kL k es as) = true := h
      simp only [Bool.and_eq_true] at h'
      exact tupE h'.1.1 h'.1.2 (paL (kL_ok es k X G as h'.2))
    | _ => cases h
  | .lst es, k, X, G, a, h => by
    cases a with
    | List as p =>
      have h' : (noRd es && decide (es.length ≤ 1000) && kL k es as) = true := h
      simp only [Bool.and_eq_true] at h'
      exact lstE h'.1.1 h'.1.2 (paL (kL_ok es k X G as h'.2))
    | _ => cases h
  | .dic t es, k, X, G, a, h => by
    cases es with
    | nil =>
      cases a with
      | Dict ks vs p =>
        cases ks with
        | nil =>
          cases vs with
          | nil => exact dic0E
          | cons _ _ => cases h
        | cons _ _ => cases h
      | _ => cases h
    | cons _ _ => cases h
  | .pr p es, k, X, G, a, h => by
    haveI := G.sk
    replace h : (match prArgs k p a with | some as => rdOk es && kL k es as | none => false) = true := h
    cases e : prArgs k p a with
    | none => rw [e] at h; cases h
    | some as =>
      rw [e] at h
      have h' := Bool.and_eq_true_iff.mp h
      exact pr_ok G e h'.1 (kL_ok es k X G as h'.2)
  | .an es, k, X, G, a, h => by
    cases a with
    | BoolOp op as p =>
      cases op with
      | And =>
        have h' : (noRd es && !es.isEmpty && kL k es as) = true := h
        simp only [Bool.and_eq_true, Bool.not_eq_true'] at h'
        exact anPE (kL_ok es k X G as h'.2) h'.1.1 (by intro e; rw [e] at h'; cases h'.1.2)
      | Or => cases h
    | _ => cases h
  | .or es, k, X, G, a, h => by
    cases a with
    | BoolOp op as p =>
      cases op with
      | Or =>
        have h' : (noRd es && !es.isEmpty && kL k es as) = true := h
        simp only [Bool.and_eq_true, Bool.not_eq_true'] at h'
        exact orPE (kL_ok es k X G as h'.2) h'.1.1 (by intro e; rw [e] at h'; cases h'.1.2)
      | And => cases h
    | _ => cases h
  | .nt e, k, X, G, a, h => by
    cases a with
    | UnaryOp op b p =>
      cases op with
      | Not => exact ntE (kE_ok e k X G b h)
      | _ => cases h
    | _ => cases h
  | .ite t e1 e2, k, X, G, a, h => by
    cases a with
    | IfExp c b d p =>
      have h' : ((rdOf e1).isNone && (rdOf e2).isNone && kT k t c && kE k e1 b && kE k e2 d) = true := h
      simp only [Bool.and_eq_true] at h'
      exact iteE (Option.isNone_iff_eq_none.mp h'.1.1.1.1) (Option.isNone_iff_eq_none.mp h'.1.1.1.2) (kT_ok t k X G c h'.1.1.2) (kE_ok e1 k X G b h'.1.2) (kE_ok e2 k X G d h'.2)
    | _ => cases h
  | .ch p q e1 e2 e3, k, X, G, a, h => by
    haveI := G.sk
    replace h : (match (generalizing := false) a with
      | .Compare b [op, op'] [c, d] _ => cmpP p op && cmpP q op' && !lastMarks [op, op'] [c, d] && rdOk [e1, e2, e3] && kE k e1 b && kE k e2 c && kE k e3 d
      | _ => false) = true := h
    split at h
    · simp only [Bool.and_eq_true, Bool.not_eq_true'] at h
      obtain ⟨⟨⟨⟨⟨⟨h1, h2⟩, h3⟩, h4⟩, h5⟩, h6⟩, h7⟩ := h
      exact chE (cmpP_ok G.hu h1) (cmpP_ok G.hu h2) h4 h3 (kE_ok e1 k X G _ h5) (kE_ok e2 k X G _ h6) (kE_ok e3 k X G _ h7)
    · cases h
  | .cl f es, k, X, G, a, h => by
    replace h : (match clArgs k f a with | some as => decide (iosL es).Nodup && kA k es as | none => false) = true := h
    cases e : clArgs k f a with
    | none => rw [e] at h; cases h
    | some as =>
      rw [e] at h
      simp only [Bool.and_eq_true, decide_eq_true_eq] at h
      exact cl_ok G e h.1 (kA_ok es k X G as h.2)
  | .clk f ix es, k, X, G, a, h => by
    replace h : (match kwArgs k f ix a with | some kws => noRd es && kL k es (kws.map kwVal) | none => false) = true := h
    cases e : kwArgs k f ix a with
    | none => rw [e] at h; cases h
    | some kws =>
      rw [e] at h
      have h' := Bool.and_eq_true_iff.mp h
      exact clk_ok G e h'.1 (kL_ok es k X G _ h'.2)
  | .mk c f es, k, X, G, a, h => by cases h
  | .mt m f es, k, X, G, a, h => by cases h
  | .mu m i es, k, X, G, a, h => by
    replace h : (match muArgs k m i a with | some as => noRd es && !(mtL es).contains i && kL k es as | none => false) = true := h
    cases e : muArgs k m i a with
    | none => rw [e] at h; cases h
    | some as =>
      rw [e] at h
      simp only [Bool.and_eq_true, Bool.not_eq_true'] at h
      exact mu_ok G e h.1.1 h.1.2 (kL_ok es k X G as h.2)
  | .ixs i e, k, X, G, a, h => by cases h
  | .lc tg it cs elt, k, X, G, a, h => by
    replace h : (match lcOf a with
      | some (ae, te, iter, ifs, sc) => decide ((ownOf tg te).map (·.2) = tgs tg) && blkC k.N k.sc sc (ownOf tg te) && (rdOf elt).isNone && !isSet iter && kI k it iter (isTupE te) && kG (ckSc k sc) tg te && decide (cs.length ≤ 1) && kTs (ckSc k sc) cs ifs && kE (ckSc k sc) elt ae
      | none => false) = true := h
    cases e : lcOf a with
    | none => rw [e] at h; cases h
    | some q =>
      obtain ⟨ae, te, iter, ifs, sc⟩ := q
      rw [e] at h
      obtain ⟨p, rfl⟩ := lcOf_ok e
      simp only [Bool.and_eq_true, decide_eq_true_eq, Bool.not_eq_true'] at h
      obtain ⟨⟨⟨⟨⟨⟨⟨⟨h1, h2⟩, h3⟩, h4⟩, h5⟩, h6⟩, h7⟩, h8⟩, h9⟩ := h
      exact pe_wk (pe_lc G.cm G.ndX (kI_ok it k X G iter te (isTupE te) rfl h5) (G.blkOk h2) (fun s H Ca cl fp => kG_ok G.blk tg te h6)
        (fun s H Ca cl fp => csPT h7 (kTs_ok cs _ _ G.blk ifs h8)) (fun s H Ca cl fp => kE_ok elt _ _ G.blk ae h9) (noSet h4 _)) fun σ H Q h => lcE (te := te) (iter := iter) (ex := ae) (ifs := ifs) (scope := sc) h1 (Option.isNone_iff_eq_none.mp h3) h
  | .lc2 _ _ _ _ _ _ _, k, X, G, a, h => by cases h
  | .dc _ _ _ _ _ _, k, X, G, a, h => by cases h
theorem kT_ok : ∀ (e : E) (k : Ck) (X : Cx) (_ : Gx n C k X) (a : Expr), kT k e a = true → PT X a (tT n C e)
  | .nt e, k, X, G, a, h => by
    cases a with
    | UnaryOp op b p =>
      cases op with
      | Not => exact ntT (kT_ok e k X G b h)
      | _ => cases h
    | _ => cases h
  | .an es, k, X, G, a, h => by
    cases a with
    | BoolOp op as p =>
      cases op with
      | And =>
        have h' : (!es.isEmpty && kTs k es as) = true := h
        simp only [Bool.and_eq_true, Bool.not_eq_true'] at h'
        exact (anPW (kTs_ok es k X G as h'.2) (by intro e; rw [e] at h'; cases h'.1)).pt
      | Or => cases h
    | _ => cases h
  | .or es, k, X, G, a, h => by
    cases a with
    | BoolOp op as p =>
      cases op with
      | Or =>
        have h' : (!es.isEmpty && kTs k es as) = true := h
        simp only [Bool.and_eq_true, Bool.not_eq_true'] at h'
        exact (orPW (kTs_ok es k X G as h'.2) (by intro e; rw [e] at h'; cases h'.1)).pt
      | And => cases h
    | _ => cases h
  | .pr p es, k, X, G, a, h => by
    haveI := G.sk
    replace h : (match (generalizing := false) a with
      | .Compare l [op] [r] _ => cmpP p op && !behindInMarks op r && rdOk es && kL k es [l, r]
      | a => plainT a && (match prArgs k p a with
        | some as => rdOk es && kL k es as
        | none => false)) = true := h
    split at h
    · simp only [Bool.and_eq_true, Bool.not_eq_true'] at h
      obtain ⟨⟨⟨h1, h2⟩, h3⟩, h4⟩ := h
      obtain ⟨e1, e2, rfl, q1, q2⟩ := pes2 (kL_ok es k X G _ h4)
      exact cmpT (cmpP_ok G.hu h1) h3 (cmp_bl h1) h2 q1.2 q2.2
    · have h' := Bool.and_eq_true_iff.mp h
      have h2 := h'.2
      cases e : prArgs k p a with
      | none => rw [e] at h2; cases h2
      | some as =>
        rw [e] at h2
        have h3 := Bool.and_eq_true_iff.mp h2
        exact truT (pr_ok G e h3.1 (kL_ok es k X G as h3.2)) (plainT_he h'.1 _)
  | .ch p q e1 e2 e3, k, X, G, a, h => by
    haveI := G.sk
    replace h : (match (generalizing := false) a with
      | .Compare b [op, op'] [c, d] _ => cmpP p op && cmpP q op' && !lastMarks [op, op'] [c, d] && rdOk [e1, e2, e3] && kE k e1 b && kE k e2 c && kE k e3 d
      | _ => false) = true := h
    split at h
    · simp only [Bool.and_eq_true, Bool.not_eq_true'] at h
      obtain ⟨⟨⟨⟨⟨⟨h1, h2⟩, h3⟩, h4⟩, h5⟩, h6⟩, h7⟩ := h
      exact chT (cmpP_ok G.hu h1) (cmpP_ok G.hu h2) h4 h3 (kE_ok e1 k X G _ h5) (kE_ok e2 k X G _ h6) (kE_ok e3 k X G _ h7)
    · cases h
  | .v i, k, X, G, a, h => truT (vE (nmC_ok G h)) (plainT_he (by cases a <;> first | rfl | cases h) _)
  | .rd i, k, X, G, a, h => truT (rdE (nmC_ok G h)) (plainT_he (by cases a <;> first | rfl | cases h) _)
  | .cl f es, k, X, G, a, h => by
    replace h : (match clArgs k f a with | some as => decide (iosL es).Nodup && kA k es as | none => false) = true := h
    cases e : clArgs k f a with
    | none => rw [e] at h; cases h
    | some as =>
      rw [e] at h
      simp only [Bool.and_eq_true, decide_eq_true_eq] at h
      refine truT (cl_ok G e h.1 (kA_ok es k X G as h.2)) (plainT_he ?_ _)
      cases a <;> first | rfl | cases e
  | .c _, k, X, G, a, h => by cases a <;> cases h
  | .mv _, k, X, G, a, h => by cases a <;> cases h
  | .fz _, k, X, G, a, h => by cases a <;> cases h
  | .io _, k, X, G, a, h => by cases a <;> cases h
  | .frz _, k, X, G, a, h => by cases a <;> cases h
  | .tup _, k, X, G, a, h => by cases a <;> cases h
  | .lst _, k, X, G, a, h => by cases a <;> cases h
  | .dic _ _, k, X, G, a, h => by cases a <;> cases h
  | .ite _ _ _, k, X, G, a, h => by cases a <;> cases h
  | .clk f ix es, k, X, G, a, h => by
    replace h : (match kwArgs k f ix a with | some kws => noRd es && kL k es (kws.map kwVal) | none => false) = true := h
    cases e : kwArgs k f ix a with
    | none => rw [e] at h; cases h
    | some kws =>
      rw [e] at h
      have h' := Bool.and_eq_true_iff.mp h
      refine truT (clk_ok G e h'.1 (kL_ok es k X G _ h'.2)) (plainT_he ?_ _)
      cases a <;> first | rfl | cases e
  | .mk _ _ _, k, X, G, a, h => by cases a <;> cases h
  | .mt _ _ _, k, X, G, a, h => by cases a <;> cases h
  | .mu _ _ _, k, X, G, a, h => by cases a <;> cases h
  | .ixs _ _, k, X, G, a, h => by cases a <;> cases h
  | .lc _ _ _ _, k, X, G, a, h => by cases a <;> cases h
  | .lc2 _ _ _ _ _ _ _, k, X, G, a, h => by cases a <;> cases h
  | .dc _ _ _ _ _ _, k, X, G, a, h => by cases a <;> cases h
theorem kL_ok : ∀ (es : List E) (k : Ck) (X : Cx) (_ : Gx n C k X) (as : List Expr), kL k es as = true → PEs n C X es as
  | [], k, X, G, [], h => .nil
  | e :: es, k, X, G, a :: as, h => by
    have h' : (noStar a && kE k e a && kL k es as) = true := h
    simp only [Bool.and_eq_true] at h'
    exact .cons ⟨h'.1.1, kE_ok e k X G a h'.1.2⟩ (kL_ok es k X G as h'.2)
  | [], k, X, G, _ :: _, h => by cases h
  | _ :: _, k, X, G, [], h => by cases h
theorem kTs_ok : ∀ (es : List E) (k : Ck) (X : Cx) (_ : Gx n C k X) (as : List Expr), kTs k es as = true → PTs' n C X es as
  | [], k, X, G, [], h => .nil
  | e :: es, k, X, G, a :: as, h => by
    have h' := Bool.and_eq_true_iff.mp (show (kT k e a && kTs k es as) = true from h)
    exact .cons (kT_ok e k X G a h'.1) (kTs_ok es k X G as h'.2)
  | [], k, X, G, _ :: _, h => by cases h
  | _ :: _, k, X, G, [], h => by cases h
theorem kA_ok : ∀ (es : List E) (k : Ck) (X : Cx) (_ : Gx n C k X) (as : List Expr), kA k es as = true → Paired (ArgE n C X) es as
  | [], k, X, G, [], h => .nil
  | e :: es, k, X, G, a :: as, h => by
    have h' : (noStar a && (match ioOf e with | some i => nmC k i a | none => (rdOf e).isNone && kE k e a) && kA k es as) = true := h
    simp only [Bool.and_eq_true] at h'
    refine .cons ⟨h'.1.1, ?_⟩ (kA_ok es k X G as h'.2)
    have h2 := h'.1.2
    cases hio : ioOf e with
    | some i =>
      rw [hio] at h2
      exact .inl ⟨i, ioOf_eq hio, nmC_ok G h2⟩
    | none =>
      rw [hio] at h2
      have h3 := Bool.and_eq_true_iff.mp h2
      exact .inr ⟨Option.isNone_iff_eq_none.mp h3.1, rfl, kE_ok e k X G a h3.2⟩
  | [], k, X, G, _ :: _, h => by cases h
  | _ :: _, k, X, G, [], h => by cases h
theorem kI_ok : ∀ (it : Rt.It) (k : Ck) (X : Cx) (_ : Gx n C k X) (a tg : Expr) (t : Bool), t = isTupE tg → kI k it a t = true → PI X tg a (tI n C it)
  | .e x, k, X, G, a, tg, t, ht, h => by
    haveI := G.sk
    have h' := Bool.and_eq_true_iff.mp (show ((rdOf x).isNone && kE k x a) = true from h)
    exact eI (Option.isNone_iff_eq_none.mp h'.1) (kE_ok x k X G a h'.2)
  | .rng es, k, X, G, a, tg, t, ht, h => by
    replace h : (match rngArgs k a with | some as => rdOk es && kL k es as | none => false) = true := h
    cases e : rngArgs k a with
    | none => rw [e] at h; cases h
    | some as =>
      rw [e] at h
      have h' := Bool.and_eq_true_iff.mp h
      exact rng_ok G e h'.1 (kL_ok es k X G as h'.2)
  | .enu x, k, X, G, a, tg, t, ht, h => by
    replace h : (match enuArg k a with | some b => t && (rdOf x).isNone && noStar b && kE k x b | none => false) = true := h
    cases e : enuArg k a with
    | none => rw [e] at h; cases h
    | some b =>
      rw [e] at h
      simp only [Bool.and_eq_true] at h
      obtain ⟨⟨⟨h1, h2⟩, h3⟩, h4⟩ := h
      exact enu_ok G e (by rw [← ht]; exact h1) (Option.isNone_iff_eq_none.mp h2) h3 (kE_ok x k X G b h4)
  | .zip _ _, k, X, G, a, tg, t, ht, h => by cases h
end
end
end Rt

set_option Elab.async false
set_option linter.all false
set_option maxRecDepth 100000
/-! Rt23: the check of statements, and that it is sound. -/
namespace Rt
open PySem PySem.Spec PyProof.Rows L2
def isCompE : Expr → Bool
  | .ListComp _ _ _ _ => true
  | .SetComp _ _ _ _ => true
  | .DictComp _ _ _ _ _ => true
  | _ => false
def lcParts : E → Option (Tg × Rt.It × List E × E)
  | .lc tg it cs elt => some (tg, it, cs, elt)
  | .frz (.lc tg it cs elt) => some (tg, it, cs, elt)
  | _ => none
/-- name = comprehension, stored on the same line -/
def swT (k : Ck) (x : Str) (q : Pos) : Expr → Bool
  | .ListComp _ _ sc p => decide (k.sc.names.lookup x = some .local) && (q.line == p.line) && !(sc.names.any fun (n, kd) => n == x && (kd == .local || kd == .cell))
  | _ => false
def swF (k : Ck) (x : Str) : Expr → Bool
  | a => !isCompE a || decide (k.sc.names.lookup x = some .cell)
def augP (p : Prim) (op : Operator) : Bool := (decide (p = .add) && decide (op = .Add)) || (decide (p = .sub) && decide (op = .Sub))
def asg1 : Stmt → Option (Expr × Expr × Pos)
  | .Assign [tg] a pos => some (tg, a, pos)
  | _ => none
mutual
def kS (k : Ck) : S → Stmt → Bool
  | .asg i e, st => match asg1 st with
    | some (.Name x q, a, _) => decide (k.N[i]? = some x) && loc k x && (rdOf e).isNone && kE k e a && (swF k x a || (swT k x q a && (lcParts e).isSome))
    | _ => false
  | .asgt t e, st => match asg1 st with
    | some (tg, a, _) => kG k t tg && isTupE tg && (rdOf e).isNone && kE k e a && !isTupE a && !isCompE a
    | none => false
  | .six i ek ee, st => match asg1 st with
    | some (.Subscript o kx _, a, _) => nmC k i o && (rdOf ee).isNone && (rdOf ek).isNone && !(mtE ek).contains i && !isSl kx && kE k ek kx && kE k ee a
    | _ => false
  | .aix i p ek ee, st => match st with
    | .AugAssign (.Subscript o kx _) op a _ => nmC k i o && augP p op && (rdOf ee).isNone && (rdOf ek).isNone && !(mtE ek ++ mtE ee).contains i && (mtE ee).isEmpty && !isSl kx && kE k ek kx && kE k ee a
    | _ => false
  | .aug i p e, st => match st with
    | .AugAssign (.Name x _) op a _ => decide (k.N[i]? = some x) && loc k x && augP p op && (rdOf e).isNone && !(mtE e).contains i && kE k e a
    | _ => false
  | .ex e, st => match st with
    | .Expr a _ => !isCompE a && kE k e a
    | _ => false
  | .ret e, st => match st with
    | .Return (some a) _ => (rdOf e).isNone && kE k e a
    | _ => false
  | .retn, st => match st with
    | .Return none _ => true
    | _ => false
  | .iff t a b, st => match st with
    | .If c p q _ => kT k t c && kSs k a p && kSs k b q
    | _ => false
  | .for tg it b, st => match st with
    | .For te iter body [] _ => kI k it iter (isTupE te) && kG k tg te && !isSet iter && kSs k b body
    | _ => false
  | .forr tg es b, st => match st with
    | .For te iter body [] _ => kI k (.rng es) iter (isTupE te) && kG k tg te && !isSet iter && kSs k b body
    | _ => false
  | .whl t b, st => match st with
    | .While c body [] _ => kT k t c && kSs k b body
    | _ => false
  | .brk, st => match st with
    | .Break _ => true
    | _ => false
  | .cnt, st => match st with
    | .Continue _ => true
    | _ => false
  | .pas, st => match st with
    | .Pass _ => true
    | _ => false
  | _, _ => false
def kSs (k : Ck) : List S → List Stmt → Bool
  | [], [] => true
  | s :: ss, st :: sts => kS k s st && kSs k ss sts
  | _, _ => false
end
section
variable {n : Nms} {C : Orc} {k : Ck} {X : Cx} {pos : Pos} {W : Nat}
theorem noComp {a : Expr} {t : Option Expr} {l : Nat} {env : PySem.Env} (h : isCompE a = false) : swapsWith a t l env = pure false := by
  cases a <;> first | rfl | cases h
theorem asg1_ok {st : Stmt} {tg a : Expr} {p : Pos} (h : asg1 st = some (tg, a, p)) : st = .Assign [tg] a p := by
  unfold asg1 at h
  split at h
  · cases h; rfl
  · cases h
theorem aug_ok {p : Prim} {op : Operator} (h : augP p op = true) : (p = .add ∧ op = .Add) ∨ (p = .sub ∧ op = .Sub) := by
  simpa [augP] using h
theorem lcParts_ok {e : E} {tg : Tg} {it : Rt.It} {cs : List E} {elt : E} (h : lcParts e = some (tg, it, cs, elt)) : (∀ σ H Q, tE n C e σ H Q → tE n C (.lc tg it cs elt) σ H Q) ∧ ∀ a, kE k e a = true → kE k (.lc tg it cs elt) a = true := by
  cases e with
  | lc a b c d => cases h; exact ⟨fun _ _ _ h => h, fun _ h => h⟩
  | frz e =>
    cases e with
    | lc a b c d =>
      cases h
      refine ⟨fun _ _ _ h => frz_imp rfl h, fun a h => ?_⟩
      have h' := Bool.and_eq_true_iff.mp (show ((rdOf (E.lc tg it cs elt)).isNone && kE k (.lc tg it cs elt) a) = true from h)
      exact h'.2
    | _ => cases h
  | _ => cases h
theorem setLc_ok (G : Gx n C k X) (hkd : X.env.scope.kind = .function) {e : E} {i : Nat} {x : Str} {q : Pos} {a : Expr} (hi : k.N[i]? = some x) (hr : rdOf e = none) (h : kE k e a = true) (hs : swT k x q a = true) (hp : (lcParts e).isSome = true) : PS X (.Assign [.Name x q] a pos) (tS n C W (.asg i e)) := by
  obtain ⟨⟨tg, it, cs, elt⟩, hp⟩ := Option.isSome_iff_exists.mp hp
  obtain ⟨w1, w2⟩ := lcParts_ok (n := n) (C := C) (k := k) hp
  replace h := w2 a h
  clear w2
  replace h : (match lcOf a with
      | some (ae, te, iter, ifs, sc) => decide ((ownOf tg te).map (·.2) = tgs tg) && blkC k.N k.sc sc (ownOf tg te) && (rdOf elt).isNone && !isSet iter && kI k it iter (isTupE te) && kG (ckSc k sc) tg te && decide (cs.length ≤ 1) && kTs (ckSc k sc) cs ifs && kE (ckSc k sc) elt ae
      | none => false) = true := h
  cases e : lcOf a with
  | none => rw [e] at h; cases h
  | some qq =>
    obtain ⟨ae, te, iter, ifs, sc⟩ := qq
    rw [e] at h
    obtain ⟨p, rfl⟩ := lcOf_ok e
    simp only [Bool.and_eq_true, decide_eq_true_eq, Bool.not_eq_true'] at h
    obtain ⟨⟨⟨⟨⟨⟨⟨⟨h1, h2⟩, h3⟩, h4⟩, h5⟩, h6⟩, h7⟩, h8⟩, h9⟩ := h
    have hs' : (decide (k.sc.names.lookup x = some .local) && (q.line == p.line) && !(sc.names.any fun (n, kd) => n == x && (kd == .local || kd == .cell))) = true := hs
    simp only [Bool.and_eq_true, decide_eq_true_eq, Bool.not_eq_true'] at hs'
    obtain ⟨⟨s1, s2⟩, s3⟩ := hs'
    refine ps_wk (ps_setLc G.cm G.ndX (G.ix hi) (G.loc x s1) (sw_true hkd (G.loc x s1) s2 s3) (kI_ok it k X G iter te (isTupE te) rfl h5) (G.blkOk h2) (fun s H Ca cl fp => kG_ok G.blk tg te h6)
        (fun s H Ca cl fp => csPT h7 (kTs_ok cs _ _ G.blk ifs h8)) (fun s H Ca cl fp => kE_ok elt _ _ G.blk ae h9) (noSet h4 _)) fun D σ H h => ?_
    exact lcE (te := te) (iter := iter) (ex := ae) (ifs := ifs) (scope := sc) h1 (Option.isNone_iff_eq_none.mp h3) (w1 _ _ _ (asg_ok hr h))
mutual
theorem kS_ok (G : Gx n C k X) (hkd : X.env.scope.kind = .function) : ∀ (s : S) (st : Stmt), kS k s st = true → PS X st (tS n C W s)
  | .asg i e, st, h => by
    replace h : (match asg1 st with
      | some (.Name x q, a, _) => decide (k.N[i]? = some x) && loc k x && (rdOf e).isNone && kE k e a && (swF k x a || (swT k x q a && (lcParts e).isSome))
      | _ => false) = true := h
    split at h
    · rename_i x q a p hst
      rw [asg1_ok hst]
      simp only [Bool.and_eq_true, decide_eq_true_eq, Bool.or_eq_true] at h
      obtain ⟨⟨⟨⟨h1, h2⟩, h3⟩, h4⟩, h5⟩ := h
      rcases h5 with h5 | h5
      · obtain ⟨l1, l2⟩ := G.locOk h2
        refine asgS (Option.isNone_iff_eq_none.mp h3) G.ndX (G.ix h1) l1 l2 (kE_ok e k X G a h4) ?_
        simp only [swF, Bool.or_eq_true, Bool.not_eq_true', decide_eq_true_eq] at h5
        rcases h5 with h5 | h5
        · exact noComp h5
        · have hc := (G.cel x h5).1
          have hk' : X.env.kindOf x = some .cell := hc
          have hf : (some NameKind.cell == some NameKind.local) = false := rfl
          cases a <;> first | rfl | (unfold swapsWith; simp only [hk', hf, Bool.and_false, Bool.false_and])
      · exact setLc_ok G hkd h1 (Option.isNone_iff_eq_none.mp h3) h4 h5.1 h5.2
    · cases h
  | .asgt t e, st, h => by
    replace h : (match asg1 st with
      | some (tg, a, _) => kG k t tg && isTupE tg && (rdOf e).isNone && kE k e a && !isTupE a && !isCompE a
      | none => false) = true := h
    split at h
    · rename_i tg a p hst
      rw [asg1_ok hst]
      simp only [Bool.and_eq_true, Bool.not_eq_true'] at h
      obtain ⟨⟨⟨⟨⟨h1, h2⟩, h3⟩, h4⟩, h5⟩, h6⟩ := h
      refine asgtS (Option.isNone_iff_eq_none.mp h3) (kE_ok e k X G a h4) (kG_ok G t tg h1) (noStarT_of h1) (noComp h6) ?_
      cases tg <;> first | (cases h2; done) | skip
      cases a <;> first | (cases h5; done) | rfl
    · cases h
  | .six i ek ee, st, h => by
    replace h : (match asg1 st with
      | some (.Subscript o kx _, a, _) => nmC k i o && (rdOf ee).isNone && (rdOf ek).isNone && !(mtE ek).contains i && !isSl kx && kE k ek kx && kE k ee a
      | _ => false) = true := h
    split at h
    · rename_i o kx p' a p hst
      rw [asg1_ok hst]
      simp only [Bool.and_eq_true, Bool.not_eq_true'] at h
      obtain ⟨⟨⟨⟨⟨⟨h1, h2⟩, h3⟩, h4⟩, h5⟩, h6⟩, h7⟩ := h
      refine sixS (by have := G.hu; omega) (Option.isNone_iff_eq_none.mp h2) (Option.isNone_iff_eq_none.mp h3) h4 (nmC_ok G h1) (kE_ok ek k X G kx h6) (kE_ok ee k X G a h7) ?_ ?_ ?_
      · intro v
        cases kx <;> first | (cases h5; done) | rfl
      · cases a <;> rfl
      · cases a <;> rfl
    · cases h
  | .aix i p ek ee, st, h => by
    replace h : (match (generalizing := false) st with
      | .AugAssign (.Subscript o kx _) op a _ => nmC k i o && augP p op && (rdOf ee).isNone && (rdOf ek).isNone && !(mtE ek ++ mtE ee).contains i && (mtE ee).isEmpty && !isSl kx && kE k ek kx && kE k ee a
      | _ => false) = true := h
    split at h
    · rename_i o kx tp op a ps
      simp only [Bool.and_eq_true, Bool.not_eq_true'] at h
      obtain ⟨⟨⟨⟨⟨⟨⟨⟨h1, h2⟩, h3⟩, h4⟩, h5⟩, h6⟩, h7⟩, h8⟩, h9⟩ := h
      refine aixS (by have := G.hu; omega) (aug_ok h2) (Option.isNone_iff_eq_none.mp h3) (Option.isNone_iff_eq_none.mp h4) h5 (List.isEmpty_iff.mp h6) (nmC_ok G h1) (kE_ok ek k X G kx h8) (kE_ok ee k X G a h9) ?_
      intro ov iv new
      cases kx <;> first | (cases h7; done) | rfl
    · cases h
  | .aug i p e, st, h => by
    replace h : (match (generalizing := false) st with
      | .AugAssign (.Name x _) op a _ => decide (k.N[i]? = some x) && loc k x && augP p op && (rdOf e).isNone && !(mtE e).contains i && kE k e a
      | _ => false) = true := h
    split at h
    · rename_i x q op a ps
      simp only [Bool.and_eq_true, Bool.not_eq_true', decide_eq_true_eq] at h
      obtain ⟨⟨⟨⟨⟨h1, h2⟩, h3⟩, h4⟩, h5⟩, h6⟩ := h
      obtain ⟨l1, l2⟩ := G.locOk h2
      exact augS (aug_ok h3) (Option.isNone_iff_eq_none.mp h4) h5 G.ndX (G.ix h1) l1 l2 (kE_ok e k X G a h6)
    · cases h
  | .sfl _ _ _, st, h => by cases st <;> cases h
  | .ex e, st, h => by
    cases st with
    | Expr a p =>
      have h' := Bool.and_eq_true_iff.mp (show (!isCompE a && kE k e a) = true from h)
      exact exS (kE_ok e k X G a h'.2) (noComp (by simpa using h'.1))
    | _ => cases h
  | .ret e, st, h => by
    cases st with
    | Return a p =>
      cases a with
      | none => cases h
      | some a =>
        have h' := Bool.and_eq_true_iff.mp (show ((rdOf e).isNone && kE k e a) = true from h)
        exact retS (Option.isNone_iff_eq_none.mp h'.1) (kE_ok e k X G a h'.2)
    | _ => cases h
  | .retn, st, h => by
    cases st with
    | Return a p =>
      cases a with
      | none => exact retnS
      | some a => cases h
    | _ => cases h
  | .iff t a b, st, h => by
    cases st with
    | If c p q ps =>
      have h' : (kT k t c && kSs k a p && kSs k b q) = true := h
      simp only [Bool.and_eq_true] at h'
      exact iffS (kT_ok t k X G c h'.1.1) (kSs_ok G hkd a p h'.1.2) (kSs_ok G hkd b q h'.2)
    | _ => cases h
  | .whl t b, st, h => by
    haveI := G.sk
    cases st with
    | While c body els ps =>
      cases els with
      | nil =>
        have h' : (kT k t c && kSs k b body) = true := h
        simp only [Bool.and_eq_true] at h'
        exact whlS G.pas (kT_ok t k X G c h'.1) (kSs_ok G hkd b body h'.2)
      | cons _ _ => cases h
    | _ => cases h
  | .for tg it b, st, h => by
    haveI := G.sk
    cases st with
    | For te iter body els ps =>
      cases els with
      | nil =>
        have h' : (kI k it iter (isTupE te) && kG k tg te && !isSet iter && kSs k b body) = true := h
        simp only [Bool.and_eq_true, Bool.not_eq_true'] at h'
        exact forS G.pas G.cm (kI_ok it k X G iter te _ rfl h'.1.1.1) (kG_ok G tg te h'.1.1.2) (kSs_ok G hkd b body h'.2) (noSet h'.1.2 _)
      | cons _ _ => cases h
    | _ => cases h
  | .forr tg es b, st, h => by
    haveI := G.sk
    cases st with
    | For te iter body els ps =>
      cases els with
      | nil =>
        have h' : (kI k (.rng es) iter (isTupE te) && kG k tg te && !isSet iter && kSs k b body) = true := h
        simp only [Bool.and_eq_true, Bool.not_eq_true'] at h'
        exact forrS G.pas G.cm (kI_ok (.rng es) k X G iter te _ rfl h'.1.1.1) (kG_ok G tg te h'.1.1.2) (kSs_ok G hkd b body h'.2) (noSet h'.1.2 _)
      | cons _ _ => cases h
    | _ => cases h
  | .brk, st, h => by
    cases st with
    | Break p => exact brkS
    | _ => cases h
  | .cnt, st, h => by
    cases st with
    | Continue p => exact cntS
    | _ => cases h
  | .pas, st, h => by
    cases st with
    | Pass p => exact pasS
    | _ => cases h
theorem kSs_ok (G : Gx n C k X) (hkd : X.env.scope.kind = .function) : ∀ (ss : List S) (sts : List Stmt), kSs k ss sts = true → PSs X sts (tSs n C W ss)
  | [], [], h => nilS
  | s :: ss, st :: sts, h => by
    have h' := Bool.and_eq_true_iff.mp (show (kS k s st && kSs k ss sts) = true from h)
    exact consS (kS_ok G hkd s st h'.1) (kSs_ok G hkd ss sts h'.2)
  | [], _ :: _, h => by cases h
  | _ :: _, [], h => by cases h
end
end
end Rt

set_option Elab.async false
set_option linter.all false
set_option maxRecDepth 100000
/-! Rt24: defs by their compiled bodies. -/
namespace Rt
open PySem PySem.Spec PyProof.Rows L2
structure Df where
  name : Str
  params : Arguments
  body : List Stmt
  scope : Scope
  N : List Str
  ps : List Str
def ioFree : List Bool → Nat → List Nat → Bool
  | [], _, _ => true
  | b :: io, i, l => (!b || !l.contains i) && ioFree io (i + 1) l
def kF (fns : List (Str × Nat × Nat)) (kws : List (Str × Nat × List Str × List Nat)) (d : Df) (f : Fn) : Bool :=
  C8.scC d.N d.ps d.scope && decide (d.N.length = f.ns) && decide (f.io.length = d.ps.length) && decide (d.ps.length ≤ d.N.length) && ioFree f.io 0 (agSs f.body) && kSs ⟨d.N, d.scope, fns, kws⟩ f.body d.body
section
variable {n : Nms}
theorem get_tail {ρ : Env} {i : Nat} : get ρ.tail i = get ρ (i + 1) := by
  cases ρ <;> rfl
theorem ends_len : ∀ {io : List Bool} {ρ : Env}, (ends io ρ).length = io.length
  | [], _ => rfl
  | b :: io, ρ => by show (ends io ρ.tail).length + 1 = _; rw [ends_len]; rfl
theorem ends_get : ∀ {io : List Bool} {ρ : Env} {i : Nat}, get (ends io ρ) i = if io[i]? = some true then get ρ i else .un
  | [], ρ, i => by simp [ends, get]
  | b :: io, ρ, 0 => by
    show (if b = true then get ρ 0 else .un) = _
    cases b <;> rfl
  | b :: io, ρ, i + 1 => by
    show get (ends io ρ.tail) i = _
    rw [ends_get, get_tail]
    simp
theorem ioFree_ok : ∀ {io : List Bool} {j : Nat} {l : List Nat}, ioFree io j l = true → ∀ i : Nat, io[i]? = some true → l.contains (j + i) = false
  | [], j, l, _, i, h => by simp at h
  | b :: io, j, l, h, 0, q => by
    have h' := Bool.and_eq_true_iff.mp (show ((!b || !l.contains j) && ioFree io (j + 1) l) = true from h)
    simp only [List.getElem?_cons_zero, Option.some.injEq] at q
    subst q
    simpa using h'.1
  | b :: io, j, l, h, i + 1, q => by
    have h' := Bool.and_eq_true_iff.mp (show ((!b || !l.contains j) && ioFree io (j + 1) l) = true from h)
    have := ioFree_ok h'.2 i (by simpa using q)
    rw [show j + (i + 1) = j + 1 + i by omega]
    exact this
theorem get_app {ps : List PV} {i m : Nat} : get (ps ++ List.replicate m .un) i = get ps i := by
  induction ps generalizing i with
  | nil =>
    show get (List.replicate m .un) i = .un
    induction m generalizing i with
    | zero => rfl
    | succ m ih =>
      cases i with
      | zero => rfl
      | succ i => exact ih
  | cons p ps ih =>
    cases i with
    | zero => rfl
    | succ i => exact ih
theorem call_some {P : Tab} {W j f : Nat} {args : List PV} {r : PV} {ws : List PV} (h : call P W (j + 1) f args = some (r, ws)) : ∃ fd, P f = some fd ∧ args.length = fd.io.length ∧
    ∃ ρ, ((evSs (call P W j) W fd.body (args ++ List.replicate (fd.ns - args.length) .un) = some (.nx ρ) ∧ r = .d .non) ∨ evSs (call P W j) W fd.body (args ++ List.replicate (fd.ns - args.length) .un) = some (.rt r ρ)) ∧ ws = ends fd.io ρ := by
  rw [call] at h
  cases e : P f with
  | none => rw [e] at h; cases h
  | some fd =>
    rw [e] at h
    dsimp only at h
    by_cases hl : args.length = fd.io.length
    case neg => rw [if_neg hl] at h; cases h
    rw [if_pos hl] at h
    refine ⟨fd, rfl, hl, ?_⟩
    split at h
    · rename_i ρ he
      simp only [Option.some.injEq, Prod.mk.injEq] at h
      exact ⟨ρ, .inl ⟨he, h.1.symm⟩, h.2.symm⟩
    · rename_i v ρ he
      simp only [Option.some.injEq, Prod.mk.injEq] at h
      obtain ⟨rfl, rfl⟩ := h
      exact ⟨ρ, .inr he, rfl⟩
    · cases h
theorem call_wl {P : Tab} {W j f m : Nat} {fd : Fn} (hP : P f = some fd) (hm : fd.io.length = m) : ∀ ps r ws, call P W j f ps = some (r, ws) → ws.length = m := by
  intro ps r ws h
  cases j with
  | zero => cases h
  | succ j =>
    obtain ⟨fd', h1, _, ρ, _, h3⟩ := call_some h
    rw [hP] at h1
    cases h1
    rw [h3, ends_len, hm]
/-- the entry: the arguments in the first slots, nothing in the others -/
theorem Sv.entry {H : Hp} {Z : Zs} {ps : List PV} {vs : List V} {F : Nat → Fp} {R : Fp} {N : List Str} (S : Sv n H Z ps (vs.map some) F R) (hl : vs.length ≤ N.length) :
    Sv n H Z (ps ++ List.replicate (N.length - ps.length) .un) (L2.start N vs) F R where
  len := by
    have h := S.len
    rw [List.length_map] at h
    unfold L2.start
    rw [List.length_append, List.length_append, List.length_replicate, List.length_replicate, List.length_map, h]
  at_ := fun i => by
    have h := S.len
    rw [List.length_map] at h
    rw [get_app]
    have x := S.at_ i
    by_cases hi : i < vs.length
    · have : (L2.start N vs)[i]? = (vs.map some)[i]? := by
        unfold L2.start
        rw [List.getElem?_append_left (by rw [List.length_map]; exact hi)]
      rw [this]
      exact x
    · rw [get_out (by omega)] at x ⊢
      exact x
  one := S.one
  oneR := S.oneR
  dis := S.dis
  zz := S.zz
  all := S.all
theorem start_get {N : List Str} {vs : List V} {i : Nat} (hi : i < vs.length) : (L2.start N vs)[i]? = (vs.map some)[i]? := by
  unfold L2.start
  rw [List.getElem?_append_left (by rw [List.length_map]; exact hi)]
/-- the exit: the slots that were handed in -/
theorem Sv.exit {H : Hp} {Z : Zs} {ρ : Env} {σ : L2.St} {vs : List V} {F : Nat → Fp} {R : Fp} {io : List Bool} (S : Sv n H Z ρ σ F R) (hl : io.length = vs.length) (hs : ∀ i : Nat, io[i]? = some true → σ[i]? = (vs.map some)[i]?) :
    Sv n H Z (ends io ρ) (vs.map some) (fun i => if io[i]? = some true then F i else fun _ => 0) R where
  len := by rw [ends_len, List.length_map, hl]
  at_ := fun i => by
    rw [ends_get]
    by_cases h : io[i]? = some true
    · rw [if_pos h, if_pos h, ← hs i h]
      exact S.at_ i
    · rw [if_neg h, if_neg h]
      exact fun _ => rfl
  one := fun i a => by
    by_cases h : io[i]? = some true
    · rw [if_pos h]; exact S.one i a
    · rw [if_neg h]; have := S.oneR a; omega
  oneR := S.oneR
  dis := fun i j a h => by
    by_cases h1 : io[i]? = some true
    · by_cases h2 : io[j]? = some true
      · rw [if_pos h1, if_pos h2]; exact S.dis i j a h
      · rw [if_neg h2]; exact .inr rfl
    · rw [if_neg h1]; exact .inl rfl
  zz := fun a z => ⟨(S.zz a z).1, (S.zz a z).2.1, fun i => by
    by_cases h : io[i]? = some true
    · rw [if_pos h]; exact (S.zz a z).2.2 i
    · rw [if_neg h]⟩
  all := S.all
section
variable {P : Program} {w : World} {K : PySem.W.Frag} {mg : Str → Option Value} {base : Heap}
/-- what stands behind the top: the defs, the built-ins' names free -/
structure Tops (K : PySem.W.Frag) (mg : Str → Option Value) (ds : List Df) (kws : List (Str × Nat × List Str × List Nat)) : Prop where
  fn : ∀ (i : Nat) (d : Df), ds[i]? = some d → ∃ fa fd, FunD K d.name d.name d.params d.body d.scope [] [] fa fd ∧ mg d.name = some (.ref fa) ∧ L2.Binds K fd d.ps [] ∧ ∀ x f ks ix, (x, f, ks, ix) ∈ kws → f = i → KBn K fd d.ps 0 ks (fun _ ws => gIx .none ix ws) (fun _ zs => gIx .non ix zs)
  blt : ∀ x, blts.contains x = true → mg x = none
/-- the check of the whole text -/
structure Cks (Pt : Tab) (ds : List Df) (fns : List (Str × Nat × Nat)) (kws : List (Str × Nat × List Str × List Nat)) : Prop where
  ok : ∀ (i : Nat) (d : Df), ds[i]? = some d → ∃ f, Pt i = some f ∧ kF fns kws d f = true
  fns : ∀ (x : Str) (f m : Nat), fns.lookup x = some (f, m) → ∃ d : Df, ds[f]? = some d ∧ d.name = x ∧ d.ps.length = m
  kws : ∀ (x : Str) (f : Nat) (ks : List Str) (ix : List Nat), (x, f, ks, ix) ∈ kws → ∃ d : Df, ds[f]? = some d ∧ d.name = x ∧ d.ps.length = ix.length
theorem fn_all [sk : ScK n K] {Pt : Tab} {ds : List Df} {fns : List (Str × Nat × Nat)} {kws : List (Str × Nat × List Str × List Nat)} {W : Nat} (T : Tops K mg ds kws) (c : Cks Pt ds fns kws) : ∀ (j i : Nat) (d : Df), ds[i]? = some d → ∀ fa fd, FunD K d.name d.name d.params d.body d.scope [] [] fa fd →
    FnOk P w K mg base CX0 j fa fd d.ps (spF n (call Pt W j) i d.ps.length)
  | 0, i, d, hd, fa, fd, F => ⟨fun vs H Q E ⟨_, _, _, _, _, _, h, _⟩ => h, fun _ _ _ _ _ _ _ _ _ _ _ _ _ ⟨_, _, _, _, _, _, _, _, h, _⟩ => by cases h⟩
  | j + 1, i, d, hd, fa, fd, F => by
    obtain ⟨f, hf, hk⟩ := c.ok i d hd
    simp only [kF, Bool.and_eq_true, decide_eq_true_eq] at hk
    obtain ⟨⟨⟨⟨⟨k1, k2⟩, k3⟩, k4⟩, k5⟩, k6⟩ := hk
    refine F.ok (C8.fnScope_by k1) (fun vs H Q E ⟨_, _, _, _, _, _, h, _⟩ => h) fun cdv A outer s H vs Q E hr h => ⟨tSs n (call Pt W j) W f.body, PSs.nox ?_, ?_⟩
    · refine kSs_ok (k := ⟨d.N, d.scope, fns, kws⟩) ?_ (C8.fnScope_by k1).kind f.body d.body k6
      exact {
        sk := sk
        nm := rfl
        nd := (C8.fnScope_by k1).nd
        loc := fun x h => h
        cel := fun x h => ⟨h, rfl⟩
        fre := fun x h => .inl h
        glo := fun x h => h
        cm := rfl
        hu := by have := hr.un; show (A.deeper (envOfC d.name d.scope s.heap.objs.size fa cdv)).units + 65 < cLine; omega
        pas := PassesOwn.never
        blt := T.blt
        fns := fun x g m hx => by
          obtain ⟨d2, e1, e2, e3⟩ := c.fns x g m hx
          obtain ⟨fa2, fd2, F2, m2, b2, _⟩ := T.fn g d2 e1
          subst e2 e3
          exact ⟨j, fa2, fd2, d2.ps, fn_all T c j g d2 e1 fa2 fd2 F2, hr, m2, F2.kp, b2⟩
        kwf := fun x g ks ix hx => by
          obtain ⟨d2, e1, e2, e3⟩ := c.kws x g ks ix hx
          obtain ⟨fa2, fd2, F2, m2, b2, b3⟩ := T.fn g d2 e1
          obtain ⟨f2, hf2, hk2⟩ := c.ok g d2 e1
          simp only [kF, Bool.and_eq_true, decide_eq_true_eq] at hk2
          have hb := b3 x g ks ix hx rfl
          subst e2
          refine ⟨⟨j, fa2, fd2, d2.ps, ?_, hr, m2, F2.kp, hb⟩, call_wl hf2 (by rw [← e3]; exact hk2.1.1.1.2)⟩
          rw [← e3]
          exact fn_all T c j g d2 e1 fa2 fd2 F2
        wl := fun x g m hx => by
          obtain ⟨d2, e1, e2, e3⟩ := c.fns x g m hx
          obtain ⟨f2, hf2, hk2⟩ := c.ok g d2 e1
          simp only [kF, Bool.and_eq_true, decide_eq_true_eq] at hk2
          exact call_wl hf2 (by rw [← e3]; exact hk2.1.1.1.2) }
    · obtain ⟨ps, F0, R, Z, r, ws, hl, S, hc, hw, q⟩ := h
      obtain ⟨f', hf', hlen, ρ, hev, hws⟩ := call_some hc
      rw [hf] at hf'
      cases hf'
      have hvl : vs.length ≤ d.N.length := by rw [hl]; exact k4
      have hpl : ps.length = vs.length := by have := S.len; rwa [List.length_map] at this
      have S0 := S.entry (N := d.N) hvl
      have hns : f.ns - ps.length = d.N.length - ps.length := by rw [k2]
      rw [hns] at hev
      have hio : f.io.length = vs.length := by rw [k3, hl]
      have same : ∀ {σ' : L2.St}, Sm (agSs f.body) (L2.start d.N vs) σ' → ∀ i : Nat, f.io[i]? = some true → σ'[i]? = (vs.map some)[i]? := fun m i hi => by
        have h1 := ioFree_ok k5 i hi
        rw [Nat.zero_add] at h1
        rw [m i h1]
        have : i < f.io.length := (List.getElem?_eq_some_iff.mp hi).1
        exact start_get (by omega)
      rcases hev with ⟨hev, hr0⟩ | hev
      · refine ⟨_, F0, R, Z, _, S0, hev, ?_, ?_, ?_, ?_⟩
        · intro ρ' σ' H' F' Z' eo k2' S2 m2
          cases eo
          subst hr0 hws
          exact q .non H' _ Z' (fun _ => 0) k2' ((S2.exit hio (same m2)).zero fun _ => rfl) ⟨rfl, fun _ => rfl⟩
        · intro ρ' σ' H' F' Z' eo; cases eo
        · intro ρ' σ' H' F' Z' eo; cases eo
        · intro p v ρ' σ' H' F' Z' g eo; cases eo
      · refine ⟨_, F0, R, Z, _, S0, hev, ?_, ?_, ?_, ?_⟩
        · intro ρ' σ' H' F' Z' eo; cases eo
        · intro ρ' σ' H' F' Z' eo; cases eo
        · intro ρ' σ' H' F' Z' eo; cases eo
        · intro p v ρ' σ' H' F' Z' g eo k2' S2 rv m2
          cases eo
          subst hws
          exact q v H' _ Z' g k2' (S2.exit hio (same m2)) rv
end
end
end Rt

set_option Elab.async false
set_option linter.all false
set_option maxRecDepth 100000
/-! Rt25: a law's def from what the evaluator says. -/
namespace Rt
open PySem PySem.Spec PyProof.Rows L2
def ckAll (fns : List (Str × Nat × Nat)) (kws : List (Str × Nat × List Str × List Nat)) : List Df → List Fn → Bool
  | [], [] => true
  | d :: ds, f :: fs => kF fns kws d f && ckAll fns kws ds fs
  | _, _ => false
def ckNm (ds : List Df) (fns : List (Str × Nat × Nat)) : Bool := fns.all fun q => match ds[q.2.1]? with
  | some d => decide (d.name = q.1) && decide (d.ps.length = q.2.2)
  | none => false
def ckKw (ds : List Df) (kws : List (Str × Nat × List Str × List Nat)) : Bool := kws.all fun q => match ds[q.2.1]? with
  | some d => decide (d.name = q.1) && decide (d.ps.length = q.2.2.2.length)
  | none => false
def tab (fs : List Fn) : Tab := fun i => fs[i]?
theorem ckAll_get {fns : List (Str × Nat × Nat)} {kws : List (Str × Nat × List Str × List Nat)} : ∀ {ds : List Df} {fs : List Fn}, ckAll fns kws ds fs = true → ∀ (i : Nat) (d : Df), ds[i]? = some d → ∃ f, fs[i]? = some f ∧ kF fns kws d f = true
  | [], [], _, i, d, h => by simp at h
  | d :: ds, f :: fs, h, 0, d', e => by
    have h' := Bool.and_eq_true_iff.mp (show (kF fns kws d f && ckAll fns kws ds fs) = true from h)
    simp only [List.getElem?_cons_zero, Option.some.injEq] at e
    subst e
    exact ⟨f, rfl, h'.1⟩
  | d :: ds, f :: fs, h, i + 1, d', e => by
    have h' := Bool.and_eq_true_iff.mp (show (kF fns kws d f && ckAll fns kws ds fs) = true from h)
    obtain ⟨f', h1, h2⟩ := ckAll_get h'.2 i d' (by simpa using e)
    exact ⟨f', by simpa using h1, h2⟩
  | [], _ :: _, h, _, _, _ => by cases h
  | _ :: _, [], h, _, _, _ => by cases h
theorem lookup_mem {α : Type} {x : Str} {v : α} : ∀ {l : List (Str × α)}, l.lookup x = some v → (x, v) ∈ l
  | [], h => by simp at h
  | (y, w) :: l, h => by
    rw [List.lookup_cons] at h
    by_cases e : (x == y) = true
    · rw [e] at h
      have e' : x = y := by simpa using e
      have h' : w = v := by simpa using h
      rw [e', h']
      exact List.mem_cons_self
    · have e' : (x == y) = false := by simpa using e
      rw [e'] at h
      exact List.mem_cons_of_mem _ (lookup_mem h)
theorem cks_of {ds : List Df} {fs : List Fn} {fns : List (Str × Nat × Nat)} {kws : List (Str × Nat × List Str × List Nat)} (h1 : ckAll fns kws ds fs = true) (h2 : ckNm ds fns = true) (h3 : ckKw ds kws = true) : Cks (tab fs) ds fns kws where
  ok := fun i d e => ckAll_get h1 i d e
  fns := fun x f m e => by
    have := List.all_eq_true.mp h2 _ (lookup_mem e)
    dsimp only at this
    cases q : ds[f]? with
    | none => rw [q] at this; cases this
    | some d =>
      rw [q] at this
      simp only [Bool.and_eq_true, decide_eq_true_eq] at this
      exact ⟨d, rfl, this.1, this.2⟩
  kws := fun x f ks ix e => by
    have := List.all_eq_true.mp h3 _ e
    dsimp only at this
    cases q : ds[f]? with
    | none => rw [q] at this; cases this
    | some d =>
      rw [q] at this
      simp only [Bool.and_eq_true, decide_eq_true_eq] at this
      exact ⟨d, rfl, this.1, this.2⟩
/-- names of a law without classes -/
def nmK (K : PySem.W.Frag) : Nms := ⟨fun _ => "", fun _ => 0, fun a vs => (∀ H, SqL K H a vs) ∧ ∃ o, K.lookup a = some o ∧ o.cls = .type "list"⟩
instance (K : PySem.W.Frag) : ScK (nmK K) K := ⟨fun _ _ h => h.1, fun _ _ h => h.2⟩
/-- the law's promise -/
def spLaw (K : PySem.W.Frag) (Pt : Tab) (j L : Nat) : Sp := fun vs H Q E => ∃ W, spF (nmK K) (call Pt W j) L 1 vs H Q E
section
variable {P : Program} {w : World} {K : PySem.W.Frag} {mg : Str → Option Value} {base : Heap}
theorem law_ok {fs : List Fn} {ds : List Df} {fns : List (Str × Nat × Nat)} {kws : List (Str × Nat × List Str × List Nat)} (T : Tops K mg ds kws) (c : Cks (tab fs) ds fns kws) {L : Nat} {d : Df} (j : Nat) (hd : ds[L]? = some d) (h1 : d.ps.length = 1) {fa : Addr} {fd : FuncData}
    (F : FunD K d.name d.name d.params d.body d.scope [] [] fa fd) : FnOk P w K mg base CX0 j fa fd d.ps (spLaw K (tab fs) j L) where
  len := fun vs H Q E ⟨W, _, _, _, _, _, _, h, _⟩ => by rw [h, h1]
  run := fun A outer s H args us vs Q E hr e0 hb r ⟨W, h⟩ => by
    have := fn_all (n := nmK K) (P := P) (w := w) (base := base) (W := W) T c j L d hd fa fd F
    rw [h1] at this
    exact this.run A outer s H args us vs Q E hr e0 hb r h
theorem law_sp {Pt : Tab} {j L : Nat} {H : Hp} {a : Addr} {ns : List Int} {W : Nat} {ws : List PV} (hS : SqL K H a (ns.map V.int)) (h : call Pt W j L [.d (.sc (ns.map .int))] = some (.d (.bl true), ws)) (hw : ws.length = 1) :
    spLaw K Pt j L [.ref a] H (fun v _ => v = .bl true) fun _ _ _ => False := by
  have fin : ∀ (Z : Zs), (∀ b, Z b → H b ≠ none) → rep (nmK K) H Z (.sc (ns.map .int)) (.ref a) → spLaw K Pt j L [.ref a] H (fun v _ => v = .bl true) fun _ _ _ => False := fun Z hz r => by
    refine ⟨W, [.d (.sc (ns.map .int))], fun _ _ => 0, fun _ => 0, Z, .d (.bl true), ws, rfl, ?_, h, hw, fun v H' F' Z' g _ _ rv => rv.1⟩
    refine ⟨rfl, fun i => ?_, fun _ _ => by omega, fun _ => by omega, fun _ _ _ _ => .inl rfl, fun b z => ⟨hz b z, rfl, fun _ => rfl⟩, fun b l => by omega⟩
    match i with
    | 0 => exact ⟨.ref a, rfl, r, fun _ => rfl⟩
    | i + 1 => exact fun _ => rfl
  rcases hS with hS | hS
  · refine fin (fun b => b = a) (fun b e => ?_) ⟨a, _, rfl, .inl ⟨rfl, hS⟩, ints_repL ns⟩
    subst e
    rcases hS with q | ⟨o, q⟩ <;> (rw [q]; simp)
  · refine fin (fun _ => False) (fun _ e => e.elim) ⟨a, _, rfl, .inr ⟨fun H' => .inr hS, ?_⟩, ints_repL ns⟩
    obtain ⟨o, its, m, h1, h2, _⟩ := hS
    exact ⟨o, h1, h2⟩
/-- keywords by the parameters' order -/
theorem kbn_of {x : Str} {params : Arguments} {body : List Stmt} {scope : Scope} {fa : Addr} {fd : FuncData} {ps ks : List Str} {ix : List Nat} (F : FunD K x x params body scope [] [] fa fd)
    (h : ∀ (kV doc pm : Value) (an : Option Addr) (cdv ct : Value) (ws : List Value), ws.length = ks.length → bindArgs (PySem.W.fnOf x x params body scope .none kV doc pm an cdv ct) ⟨[], ks.zip ws⟩ = pure (ps.zip (gIx .none ix ws))) :
    KBn K fd ps 0 ks (fun _ ws => gIx .none ix ws) (fun _ zs => gIx .non ix zs) where
  to := fun s us ws _ h0 h1 => by
    obtain ⟨oc, od, dV, kV, doc, pm, an, cdv, ct, osl, rfl, _, _, hd, _⟩ := F.ex
    have e : dV = .none := by
      rcases hd with ⟨_, e⟩ | ⟨e, _⟩
      · exact e
      · exact absurd rfl e
    subst e
    have : us = [] := List.length_eq_zero_iff.mp h0
    subst this
    exact BindsTo.of_looks fun M => by
      rw [h kV doc pm an cdv ct ws h1]
      exact PySem.W.Looks.now
  rel := fun _ r => gIx_rel r
end
end Rt

set_option Elab.async false
set_option linter.all false
set_option maxRecDepth 100000
/-! Rt26: the evaluator step by step (for the laws' plain proofs). -/
namespace Rt
section
variable (C : Orc) (W : Nat)
def wE (e : E) (ρ : Env) (Q : PV → Env → Prop) : Prop := ∃ v ρ', evE C e ρ = some (v, ρ') ∧ Q v ρ'
def wL (es : List E) (ρ : Env) (Q : List PV → Env → Prop) : Prop := ∃ v ρ', evL C es ρ = some (v, ρ') ∧ Q v ρ'
def wT (e : E) (ρ : Env) (Q : Bool → Env → Prop) : Prop := ∃ b ρ', evT C e ρ = some (b, ρ') ∧ Q b ρ'
def wI (it : It) (ρ : Env) (Q : List PV → Env → Prop) : Prop := ∃ v ρ', evIt C it ρ = some (v, ρ') ∧ Q v ρ'
def wS (s : S) (ρ : Env) (Q : Out → Prop) : Prop := ∃ o, evS C W s ρ = some o ∧ Q o
def wSs (s : List S) (ρ : Env) (Q : Out → Prop) : Prop := ∃ o, evSs C W s ρ = some o ∧ Q o
end
section
variable {C : Orc} {W : Nat} {ρ : Env} {Q : PV → Env → Prop} {QL : List PV → Env → Prop} {QT : Bool → Env → Prop} {QS : Out → Prop}
theorem w_c {k : D} (h : Q (.d k) ρ) : wE C (.c k) ρ Q := ⟨_, _, by simp only [evE], h⟩
theorem w_v {i : Nat} {x : D} (e : get ρ i = .d x) (h : Q (.d x) ρ) : wE C (.v i) ρ Q := ⟨_, _, by simp only [evE]; rw [e], h⟩
theorem w_rd {i : Nat} {p : PV} (e : get ρ i = p) (hp : isUn p = false) (h : Q p ρ) : wE C (.rd i) ρ Q := ⟨p, ρ, by
  simp only [evE]
  rw [e]
  cases p <;> first | rfl | (cases hp; done), h⟩
theorem w_mv {i : Nat} {p : PV} (e : get ρ i = p) (hp : isUn p = false) (h : Q p (put ρ i .un)) : wE C (.mv i) ρ Q := ⟨p, _, by
  simp only [evE]
  rw [e]
  cases p <;> first | rfl | (cases hp; done), h⟩
theorem w_fz {i : Nat} {x : D} (e : Rt.frz (get ρ i) = some x) (h : Q (.d x) (put ρ i (.d x))) : wE C (.fz i) ρ Q := ⟨_, _, by simp only [evE]; rw [e], h⟩
theorem w_io {i : Nat} (e : isUn (get ρ i) = false) (h : Q .un ρ) : wE C (.io i) ρ Q := ⟨_, _, by simp only [evE]; rw [if_neg (by rw [e]; simp)], h⟩
theorem w_frz {e : E} (h : wE C e ρ fun v ρ1 => ∃ x, Rt.frz v = some x ∧ Q (.d x) ρ1) : wE C (.frz e) ρ Q := by
  obtain ⟨v, ρ1, h1, x, h2, h3⟩ := h
  exact ⟨_, _, by simp only [evE]; rw [h1]; dsimp only; rw [h2], h3⟩
theorem w_nil (h : QL [] ρ) : wL C [] ρ QL := ⟨_, _, by simp only [evL], h⟩
theorem w_cons {e : E} {es : List E} (h : wE C e ρ fun v ρ1 => wL C es ρ1 fun vs ρ2 => QL (v :: vs) ρ2) : wL C (e :: es) ρ QL := by
  obtain ⟨v, ρ1, h1, vs, ρ2, h2, h3⟩ := h
  exact ⟨_, _, by simp only [evL]; rw [h1]; dsimp only; rw [h2], h3⟩
theorem w_tup {es : List E} (h : wL C es ρ fun vs ρ1 => Q (mkTup vs) ρ1) : wE C (.tup es) ρ Q := by
  obtain ⟨v, ρ1, h1, h2⟩ := h
  exact ⟨_, _, by simp only [evE]; rw [h1], h2⟩
theorem w_lst {es : List E} (h : wL C es ρ fun vs ρ1 => Q (mkLst vs) ρ1) : wE C (.lst es) ρ Q := by
  obtain ⟨v, ρ1, h1, h2⟩ := h
  exact ⟨_, _, by simp only [evE]; rw [h1], h2⟩
theorem w_pr {p : Prim} {es : List E} (h : wL C es ρ fun vs ρ1 => ∃ r, app p vs = some r ∧ Q r ρ1) : wE C (.pr p es) ρ Q := by
  obtain ⟨v, ρ1, h1, r, h2, h3⟩ := h
  exact ⟨_, _, by simp only [evE]; rw [h1]; dsimp only; rw [h2], h3⟩
theorem w_T {e : E} (h : wE C e ρ fun v ρ1 => ∃ b, tru v = some b ∧ QT b ρ1) : wT C e ρ QT := by
  obtain ⟨v, ρ1, h1, b, h2, h3⟩ := h
  exact ⟨_, _, by unfold evT; rw [h1]; dsimp only; rw [h2], h3⟩
theorem w_nt {e : E} (h : wT C e ρ fun b ρ1 => Q (.d (.bl (!b))) ρ1) : wE C (.nt e) ρ Q := by
  obtain ⟨b, ρ1, h1, h2⟩ := h
  unfold evT at h1
  cases e1 : evE C e ρ with
  | none => rw [e1] at h1; cases h1
  | some q =>
    rw [e1] at h1
    dsimp only at h1
    cases e2 : tru q.1 with
    | none => rw [e2] at h1; cases h1
    | some c =>
      rw [e2] at h1
      simp only [Option.some.injEq, Prod.mk.injEq] at h1
      obtain ⟨rfl, rfl⟩ := h1
      exact ⟨_, _, by simp only [evE]; rw [e1]; dsimp only; rw [e2], h2⟩
theorem w_ite {t a b : E} (h : wT C t ρ fun c ρ1 => (c = true → wE C a ρ1 Q) ∧ (c = false → wE C b ρ1 Q)) : wE C (.ite t a b) ρ Q := by
  obtain ⟨c, ρ1, h1, h2, h3⟩ := h
  unfold evT at h1
  cases e1 : evE C t ρ with
  | none => rw [e1] at h1; cases h1
  | some q =>
    rw [e1] at h1
    dsimp only at h1
    cases e2 : tru q.1 with
    | none => rw [e2] at h1; cases h1
    | some c' =>
      rw [e2] at h1
      simp only [Option.some.injEq, Prod.mk.injEq] at h1
      obtain ⟨rfl, rfl⟩ := h1
      cases c' with
      | true =>
        obtain ⟨v, ρ2, h4, h5⟩ := h2 rfl
        exact ⟨v, ρ2, by simp only [evE]; rw [e1]; dsimp only; rw [e2]; exact h4, h5⟩
      | false =>
        obtain ⟨v, ρ2, h4, h5⟩ := h3 rfl
        exact ⟨v, ρ2, by simp only [evE]; rw [e1]; dsimp only; rw [e2]; exact h4, h5⟩
theorem w_cl {f : Nat} {es : List E} (h : wL C es ρ fun vs ρ1 => ∃ r ws, C f (fillIo es vs ρ1) = some (r, ws) ∧ Q r (backIo es ws ρ1)) : wE C (.cl f es) ρ Q := by
  obtain ⟨v, ρ1, h1, r, ws, h2, h3⟩ := h
  exact ⟨_, _, by simp only [evE]; rw [h1]; dsimp only; rw [h2], h3⟩
theorem w_nilS (h : QS (.nx ρ)) : wSs C W [] ρ QS := ⟨_, by simp only [evSs], h⟩
theorem w_consS {s : S} {ss : List S} (h : wS C W s ρ fun o => (∀ ρ1, o = .nx ρ1 → wSs C W ss ρ1 QS) ∧ ((∀ ρ1, o ≠ .nx ρ1) → QS o)) : wSs C W (s :: ss) ρ QS := by
  obtain ⟨o, h1, h2, h3⟩ := h
  cases o with
  | nx ρ1 =>
    obtain ⟨o2, h4, h5⟩ := h2 ρ1 rfl
    exact ⟨o2, by simp only [evSs]; rw [h1]; exact h4, h5⟩
  | _ => exact ⟨_, by simp only [evSs]; rw [h1], h3 (by intro ρ1 e; cases e)⟩
theorem w_asg {i : Nat} {e : E} (h : wE C e ρ fun v ρ1 => QS (.nx (put ρ1 i v))) : wS C W (.asg i e) ρ QS := by
  obtain ⟨v, ρ1, h1, h2⟩ := h
  exact ⟨_, by simp only [evS]; rw [h1], h2⟩
theorem w_ret {e : E} (h : wE C e ρ fun v ρ1 => QS (.rt v ρ1)) : wS C W (.ret e) ρ QS := by
  obtain ⟨v, ρ1, h1, h2⟩ := h
  exact ⟨_, by simp only [evS]; rw [h1], h2⟩
theorem w_iff {t : E} {a b : List S} (h : wT C t ρ fun c ρ1 => (c = true → wSs C W a ρ1 QS) ∧ (c = false → wSs C W b ρ1 QS)) : wS C W (.iff t a b) ρ QS := by
  obtain ⟨c, ρ1, h1, h2, h3⟩ := h
  cases c with
  | true =>
    obtain ⟨o, h4, h5⟩ := h2 rfl
    exact ⟨o, by simp only [evS]; rw [h1]; exact h4, h5⟩
  | false =>
    obtain ⟨o, h4, h5⟩ := h3 rfl
    exact ⟨o, by simp only [evS]; rw [h1]; exact h4, h5⟩
theorem w_an1 {e : E} (h : wE C e ρ Q) : wE C (.an [e]) ρ Q := by
  obtain ⟨v, ρ1, h1, h2⟩ := h
  exact ⟨v, ρ1, by simp only [evE, evAn]; rw [h1], h2⟩
theorem w_or1 {e : E} (h : wE C e ρ Q) : wE C (.or [e]) ρ Q := by
  obtain ⟨v, ρ1, h1, h2⟩ := h
  exact ⟨v, ρ1, by simp only [evE, evOr]; rw [h1], h2⟩
theorem w_an {e e2 : E} {es : List E} (h : wE C e ρ fun v ρ1 => ∃ b, tru v = some b ∧ (b = true → wE C (.an (e2 :: es)) ρ1 Q) ∧ (b = false → Q v ρ1)) : wE C (.an (e :: e2 :: es)) ρ Q := by
  obtain ⟨v, ρ1, h1, b, h2, h3, h4⟩ := h
  cases b with
  | true =>
    obtain ⟨v2, ρ2, h5, h6⟩ := h3 rfl
    simp only [evE] at h5
    exact ⟨v2, ρ2, by simp only [evE]; rw [evAn]; rw [h1]; dsimp only; rw [h2]; exact h5, h6⟩
  | false => exact ⟨v, ρ1, by simp only [evE]; rw [evAn]; rw [h1]; dsimp only; rw [h2], h4 rfl⟩
theorem w_or {e e2 : E} {es : List E} (h : wE C e ρ fun v ρ1 => ∃ b, tru v = some b ∧ (b = false → wE C (.or (e2 :: es)) ρ1 Q) ∧ (b = true → Q v ρ1)) : wE C (.or (e :: e2 :: es)) ρ Q := by
  obtain ⟨v, ρ1, h1, b, h2, h3, h4⟩ := h
  cases b with
  | false =>
    obtain ⟨v2, ρ2, h5, h6⟩ := h3 rfl
    simp only [evE] at h5
    exact ⟨v2, ρ2, by simp only [evE]; rw [evOr]; rw [h1]; dsimp only; rw [h2]; exact h5, h6⟩
  | true => exact ⟨v, ρ1, by simp only [evE]; rw [evOr]; rw [h1]; dsimp only; rw [h2], h4 rfl⟩
theorem w_mu {m : MP} {i : Nat} {es : List E} (hk : kin m (get ρ i) = true) (h : wL C es ρ fun vs ρ1 => ∃ r o, mapp m (get ρ1 i) vs = some (r, o) ∧ Q r (put ρ1 i o)) : wE C (.mu m i es) ρ Q := by
  obtain ⟨v, ρ1, h1, r, o, h2, h3⟩ := h
  exact ⟨_, _, by simp only [evE]; rw [if_pos hk, h1]; dsimp only; rw [h2], h3⟩
theorem w_clk {f : Nat} {ix : List Nat} {es : List E} (h : wL C es ρ fun vs ρ1 => ∃ ds, allD vs = some ds ∧ ∃ r ws, C f (ix.map fun i => .d (ds.getD i .non)) = some (r, ws) ∧ Q r ρ1) : wE C (.clk f ix es) ρ Q := by
  obtain ⟨v, ρ1, h1, ds, h2, r, ws, h3, h4⟩ := h
  exact ⟨_, _, by simp only [evE]; rw [h1]; dsimp only; rw [h2]; dsimp only; rw [h3], h4⟩
theorem w_six {i : Nat} {k e : E} (h : wE C e ρ fun v ρ1 => isUn (get ρ1 i) = false ∧ wE C k ρ1 fun x ρ2 => ∃ o, setIx (get ρ2 i) x v = some o ∧ QS (.nx (put ρ2 i o))) : wS C W (.six i k e) ρ QS := by
  obtain ⟨v, ρ1, h1, h2, x, ρ2, h3, o, h4, h5⟩ := h
  exact ⟨_, by simp only [evS]; rw [h1]; dsimp only; rw [if_neg (by rw [h2]; simp), h3]; dsimp only; rw [h4], h5⟩
theorem w_aix {i : Nat} {p : Prim} {k e : E} (h0 : isUn (get ρ i) = false) (h : wE C k ρ fun x ρ1 => isMu (get ρ1 i) = true ∧ ∃ old, pIx (get ρ1 i) x = some old ∧ wE C e ρ1 fun v ρ2 => ∃ z, iop p old v = some z ∧ ∃ o, setIx (get ρ2 i) x z = some o ∧ QS (.nx (put ρ2 i o))) : wS C W (.aix i p k e) ρ QS := by
  obtain ⟨x, ρ1, h1, h2, old, h3, v, ρ2, h4, z, h5, o, h6, h7⟩ := h
  exact ⟨_, by simp only [evS]; rw [if_neg (by rw [h0]; simp), h1]; dsimp only; rw [if_pos h2, h3]; dsimp only; rw [h4]; dsimp only; rw [h5]; dsimp only; rw [h6], h7⟩
theorem w_aug {i : Nat} {p : Prim} {e : E} {old : D} (h0 : get ρ i = .d old) (h : wE C e ρ fun v ρ1 => ∃ z, iop p (.d old) v = some z ∧ QS (.nx (put ρ1 i z))) : wS C W (.aug i p e) ρ QS := by
  obtain ⟨v, ρ1, h1, z, h2, h3⟩ := h
  exact ⟨_, by simp only [evS]; rw [h1]; dsimp only; rw [h0]; dsimp only; rw [h2], h3⟩
theorem w_asgt {t : Tg} {e : E} (h : wE C e ρ fun v ρ1 => ∃ ρ2, bind t v ρ1 = some ρ2 ∧ QS (.nx ρ2)) : wS C W (.asgt t e) ρ QS := by
  obtain ⟨v, ρ1, h1, ρ2, h2, h3⟩ := h
  exact ⟨_, by simp only [evS]; rw [h1]; dsimp only; rw [h2], h3⟩
theorem w_ex {e : E} (h : wE C e ρ fun _ ρ1 => QS (.nx ρ1)) : wS C W (.ex e) ρ QS := by
  obtain ⟨v, ρ1, h1, h2⟩ := h
  exact ⟨_, by simp only [evS]; rw [h1], h2⟩
theorem w_forr {tg : Tg} {es : List E} {b : List S} (h : wL C es ρ fun vs ρ1 => ∃ a c m, rngOf vs = some (a, c, m) ∧ ∃ o, rngGo (fun x ρ' => match bind tg x ρ' with | some ρa => evSs C W b ρa | none => none) c a m ρ1 = some o ∧ QS o) : wS C W (.forr tg es b) ρ QS := by
  obtain ⟨vs, ρ1, h1, a, c, m, h2, o, h3, h4⟩ := h
  exact ⟨o, by simp only [evS]; rw [h1]; dsimp only; rw [h2]; exact h3, h4⟩
theorem w_for {tg : Tg} {it : It} {b : List S} (h : wI C it ρ fun xs ρ1 => ∃ o, forGo (fun x ρ' => match bind tg x ρ' with | some ρa => evSs C W b ρa | none => none) xs ρ1 = some o ∧ QS o) : wS C W (.for tg it b) ρ QS := by
  obtain ⟨vs, ρ1, h1, o, h3, h4⟩ := h
  exact ⟨o, by simp only [evS]; rw [h1]; exact h3, h4⟩
/-- a loop, by a word of the turn -/
theorem forGo_by {f : PV → Env → Option Out} {Inv : List PV → Env → Prop} {QS : Out → Prop} (hd : ∀ ρ, Inv [] ρ → QS (.nx ρ)) (hs : ∀ x xs ρ, Inv (x :: xs) ρ → ∃ o, f x ρ = some o ∧ ((∃ ρ2, (o = .nx ρ2 ∨ o = .ct ρ2) ∧ Inv xs ρ2) ∨ (∃ ρ2, o = .bk ρ2 ∧ QS (.nx ρ2)) ∨ ∃ v ρ2, o = .rt v ρ2 ∧ QS o)) :
    ∀ xs ρ, Inv xs ρ → ∃ o, forGo f xs ρ = some o ∧ QS o
  | [], ρ, h => ⟨_, rfl, hd ρ h⟩
  | x :: xs, ρ, h => by
    obtain ⟨o, h1, h2⟩ := hs x xs ρ h
    simp only [forGo]
    rw [h1]
    rcases h2 with ⟨ρ2, h2 | h2, h3⟩ | ⟨ρ2, h2, h3⟩ | ⟨v, ρ2, h2, h3⟩
    · subst h2; exact forGo_by hd hs xs ρ2 h3
    · subst h2; exact forGo_by hd hs xs ρ2 h3
    · subst h2; exact ⟨_, rfl, h3⟩
    · subst h2; exact ⟨_, rfl, h3⟩
theorem rngGo_by {f : PV → Env → Option Out} {c : Int} {Inv : Int → Nat → Env → Prop} {QS : Out → Prop} (hd : ∀ a ρ, Inv a 0 ρ → QS (.nx ρ)) (hs : ∀ a m ρ, Inv a (m + 1) ρ → ∃ o, f (.d (.int a)) ρ = some o ∧ ((∃ ρ2, (o = .nx ρ2 ∨ o = .ct ρ2) ∧ Inv (a + c) m ρ2) ∨ (∃ ρ2, o = .bk ρ2 ∧ QS (.nx ρ2)) ∨ ∃ v ρ2, o = .rt v ρ2 ∧ QS o)) :
    ∀ m a ρ, Inv a m ρ → ∃ o, rngGo f c a m ρ = some o ∧ QS o
  | 0, a, ρ, h => ⟨_, rfl, hd a ρ h⟩
  | m + 1, a, ρ, h => by
    obtain ⟨o, h1, h2⟩ := hs a m ρ h
    simp only [rngGo]
    rw [h1]
    rcases h2 with ⟨ρ2, h2 | h2, h3⟩ | ⟨ρ2, h2, h3⟩ | ⟨v, ρ2, h2, h3⟩
    · subst h2; exact rngGo_by hd hs m _ ρ2 h3
    · subst h2; exact rngGo_by hd hs m _ ρ2 h3
    · subst h2; exact ⟨_, rfl, h3⟩
    · subst h2; exact ⟨_, rfl, h3⟩
end
/-- a def's call, by its body -/
theorem call_by {P : Tab} {W j f : Nat} {fd : Fn} {args : List PV} {r : PV} {ws : List PV} (hP : P f = some fd) (hl : args.length = fd.io.length)
    (h : wSs (call P W j) W fd.body (args ++ List.replicate (fd.ns - args.length) .un) fun o => ∃ ρ, ((o = .nx ρ ∧ r = .d .non) ∨ o = .rt r ρ) ∧ ws = ends fd.io ρ) : call P W (j + 1) f args = some (r, ws) := by
  obtain ⟨o, h1, ρ, h2, h3⟩ := h
  rw [call, hP]
  dsimp only
  rw [if_pos hl, h1]
  subst h3
  rcases h2 with ⟨rfl, rfl⟩ | rfl <;> rfl
end Rt

set_option Elab.async false
set_option linter.all false
set_option maxRecDepth 100000
/-! Rt27: primitives at given values. -/
namespace Rt
theorem a_mod {i j : Int} (h : j ≠ 0) : app .mod [.d (.int i), .d (.int j)] = some (.d (.int (i.fmod j))) := by
  simp [app, int2, h]
theorem a_fdiv {i j : Int} (h : divOk j = true) : app .fdiv [.d (.int i), .d (.int j)] = some (.d (.int (i.fdiv j))) := by
  simp [app, int2, h]
theorem a_mul {i j : Int} (h : mulOk i j = true) : app .mul [.d (.int i), .d (.int j)] = some (.d (.int (i * j))) := by
  simp [app, pMul, h]
theorem a_pow {i j : Int} (h : powOk i j = true) : app .pow [.d (.int i), .d (.int j)] = some (.d (.int (i ^ j.toNat))) := by
  simp [app, int2, h]
theorem a_ix {p : PV} {xs : List D} {i : Int} {x : D} (h : asQ p = some xs) (hk : asK p = none) (e : atI xs i = some x) : app .ix [p, .d (.int i)] = some (.d x) := by
  simp [app, pIx, h, hk, e]
theorem a_eqI {i j : Int} : app .eq [.d (.int i), .d (.int j)] = some (.d (.bl (i == j))) := rfl
theorem a_neI {i j : Int} : app .ne [.d (.int i), .d (.int j)] = some (.d (.bl (!(i == j)))) := rfl
theorem divOk_of {j : Int} (h0 : 1 ≤ j) (h : j < 1073741824) : divOk j = true := by
  unfold divOk
  simp only [Bool.or_eq_true, Bool.and_eq_true, decide_eq_true_eq]
  omega
theorem mulOk_r {i j : Int} (h0 : -(2 ^ 64) < j) (h : j < 2 ^ 64) : mulOk i j = true := by
  unfold mulOk
  simp only [Bool.or_eq_true, Bool.and_eq_true, decide_eq_true_eq]
  exact .inl (.inr ⟨h0, h⟩)
theorem mulOk_l {i j : Int} (h0 : -(2 ^ 64) < i) (h : i < 2 ^ 64) : mulOk i j = true := by
  unfold mulOk
  simp only [Bool.or_eq_true, Bool.and_eq_true, decide_eq_true_eq]
  exact .inl (.inl ⟨h0, h⟩)
theorem fmod_range {i j : Int} (h : 0 < j) : 0 ≤ i.fmod j ∧ i.fmod j < j := by
  rw [Int.fmod_eq_emod_of_nonneg _ (by omega)]
  exact ⟨Int.emod_nonneg _ (by omega), Int.emod_lt_of_pos _ h⟩
theorem atI_nat {α : Type} {xs : List α} {k : Nat} {x : α} (h : xs[k]? = some x) : atI xs (k : Int) = some x := by
  have hk := (List.getElem?_eq_some_iff.mp h).1
  unfold atI ixN
  rw [if_pos (by omega), if_pos (by omega)]
  show xs[(k : Int).toNat]? = some x
  rw [Int.toNat_natCast, h]
end Rt

set_option Elab.async false
set_option linter.all false
set_option maxRecDepth 100000
/-! Rt28: loops by a word; primitives at lists of ints; dicts. -/
namespace Rt.Pl
open Rt
/-- what a turn owes -/
def Trn (I : Env → Prop) (Q : Out → Prop) : Out → Prop
  | .nx ρ => I ρ
  | .ct ρ => I ρ
  | .bk ρ => Q (.nx ρ)
  | .rt v ρ => Q (.rt v ρ)
theorem t_nx {I : Env → Prop} {Q : Out → Prop} {ρ : Env} (h : I ρ) : Trn I Q (.nx ρ) := h
theorem t_ct {I : Env → Prop} {Q : Out → Prop} {ρ : Env} (h : I ρ) : Trn I Q (.ct ρ) := h
theorem t_bk {I : Env → Prop} {Q : Out → Prop} {ρ : Env} (h : Q (.nx ρ)) : Trn I Q (.bk ρ) := h
theorem t_rt {I : Env → Prop} {Q : Out → Prop} {v : PV} {ρ : Env} (h : Q (.rt v ρ)) : Trn I Q (.rt v ρ) := h
theorem w_nxS {ρ : Env} {K : Env → Prop} {Q : Prop} (h : K ρ) : (∀ ρ1, Out.nx ρ = .nx ρ1 → K ρ1) ∧ ((∀ ρ1, Out.nx ρ ≠ .nx ρ1) → Q) := ⟨fun ρ1 e => by cases e; exact h, fun e => absurd rfl (e _)⟩
theorem w_rtS {ρ : Env} {v : PV} {K : Env → Prop} {Q : Prop} (h : Q) : (∀ ρ1, Out.rt v ρ = .nx ρ1 → K ρ1) ∧ ((∀ ρ1, Out.rt v ρ ≠ .nx ρ1) → Q) := ⟨fun ρ1 e => (by cases e), fun _ => h⟩
theorem w_bkS {ρ : Env} {K : Env → Prop} {Q : Prop} (h : Q) : (∀ ρ1, Out.bk ρ = .nx ρ1 → K ρ1) ∧ ((∀ ρ1, Out.bk ρ ≠ .nx ρ1) → Q) := ⟨fun ρ1 e => (by cases e), fun _ => h⟩
theorem w_ctS {ρ : Env} {K : Env → Prop} {Q : Prop} (h : Q) : (∀ ρ1, Out.ct ρ = .nx ρ1 → K ρ1) ∧ ((∀ ρ1, Out.ct ρ ≠ .nx ρ1) → Q) := ⟨fun ρ1 e => (by cases e), fun _ => h⟩
section
variable {C : Orc} {W : Nat} {ρ : Env} {Q : PV → Env → Prop} {QL : List PV → Env → Prop} {QT : Bool → Env → Prop} {QI : List PV → Env → Prop} {QS : Out → Prop}
theorem trn_disj {I : Env → Prop} {o : Out} (h : Trn I QS o) : (∃ ρ2, (o = .nx ρ2 ∨ o = .ct ρ2) ∧ I ρ2) ∨ (∃ ρ2, o = .bk ρ2 ∧ QS (.nx ρ2)) ∨ ∃ v ρ2, o = .rt v ρ2 ∧ QS o := by
  cases o with
  | nx ρ => exact .inl ⟨_, .inl rfl, h⟩
  | ct ρ => exact .inl ⟨_, .inr rfl, h⟩
  | bk ρ => exact .inr (.inl ⟨_, rfl, h⟩)
  | rt v ρ => exact .inr (.inr ⟨_, _, rfl, h⟩)
theorem w_rng {tg : Tg} {es : List E} {b : List S} (Inv : Int → Nat → Env → Prop) (h : wL C es ρ fun vs ρ1 => ∃ a c m, rngOf vs = some (a, c, m) ∧ Inv a m ρ1 ∧ (∀ a ρ, Inv a 0 ρ → QS (.nx ρ)) ∧
    ∀ a m ρ, Inv a (m + 1) ρ → ∃ ρa, bind tg (.d (.int a)) ρ = some ρa ∧ wSs C W b ρa (Trn (Inv (a + c) m) QS)) : wS C W (.forr tg es b) ρ QS := by
  obtain ⟨vs, ρ1, h1, a, c, m, h2, h3, h4, h5⟩ := h
  refine w_forr ⟨vs, ρ1, h1, a, c, m, h2, rngGo_by (Inv := Inv) h4 (fun a m ρ hi => ?_) m a ρ1 h3⟩
  obtain ⟨ρa, e, o, e1, h6⟩ := h5 a m ρ hi
  refine ⟨o, ?_, trn_disj h6⟩
  rw [e]
  exact e1
theorem w_each {tg : Tg} {it : It} {b : List S} (Inv : List PV → Env → Prop) (h : wI C it ρ fun xs ρ1 => Inv xs ρ1 ∧ (∀ ρ, Inv [] ρ → QS (.nx ρ)) ∧
    ∀ x xs ρ, Inv (x :: xs) ρ → ∃ ρa, bind tg x ρ = some ρa ∧ wSs C W b ρa (Trn (Inv xs) QS)) : wS C W (.for tg it b) ρ QS := by
  obtain ⟨xs, ρ1, h1, h3, h4, h5⟩ := h
  refine w_for ⟨xs, ρ1, h1, forGo_by (Inv := Inv) h4 (fun a m ρ hi => ?_) xs ρ1 h3⟩
  obtain ⟨ρa, e, o, e1, h6⟩ := h5 a m ρ hi
  refine ⟨o, ?_, trn_disj h6⟩
  rw [e]
  exact e1
/-- .. by places -/
theorem w_eachN {tg : Tg} {it : It} {b : List S} (Inv : Nat → Env → Prop) (h : wI C it ρ fun xs ρ1 => Inv 0 ρ1 ∧ (∀ ρ, Inv xs.length ρ → QS (.nx ρ)) ∧
    ∀ k (hk : k < xs.length) ρ, Inv k ρ → ∃ ρa, bind tg xs[k] ρ = some ρa ∧ wSs C W b ρa (Trn (Inv (k + 1)) QS)) : wS C W (.for tg it b) ρ QS := by
  obtain ⟨xs, ρ1, h1, h3, h4, h5⟩ := h
  refine w_each (fun ys ρ => ∃ k, ys = xs.drop k ∧ k ≤ xs.length ∧ Inv k ρ) ⟨xs, ρ1, h1, ⟨0, rfl, Nat.zero_le _, h3⟩, ?_, ?_⟩
  · rintro ρ ⟨k, e, hk, h⟩
    have : k = xs.length := by
      have := congrArg List.length e
      simp at this
      omega
    subst this
    exact h4 ρ h
  · rintro x ys ρ ⟨k, e, hk, h⟩
    have hk' : k < xs.length := by
      have := congrArg List.length e
      simp at this
      omega
    rw [List.drop_eq_getElem_cons hk'] at e
    simp only [List.cons.injEq] at e
    obtain ⟨rfl, rfl⟩ := e
    obtain ⟨ρa, e1, o, e2, h6⟩ := h5 k hk' ρ h
    refine ⟨ρa, e1, o, e2, ?_⟩
    cases o with
    | nx ρ => exact ⟨k + 1, rfl, hk', h6⟩
    | ct ρ => exact ⟨k + 1, rfl, hk', h6⟩
    | bk ρ => exact h6
    | rt v ρ => exact h6
/-- a range of so many, by places -/
theorem w_rngN {tg : Tg} {es : List E} {b : List S} (Inv : Nat → Env → Prop) (h : wL C es ρ fun vs ρ1 => ∃ N : Nat, vs = [.d (.int N)] ∧ N < 2 ^ 62 ∧ Inv 0 ρ1 ∧ (∀ ρ, Inv N ρ → QS (.nx ρ)) ∧
    ∀ k, k < N → ∀ ρ, Inv k ρ → ∃ ρa, bind tg (.d (.int k)) ρ = some ρa ∧ wSs C W b ρa (Trn (Inv (k + 1)) QS)) : wS C W (.forr tg es b) ρ QS := by
  obtain ⟨vs, ρ1, h1, N, rfl, h2, h3, h4, h5⟩ := h
  refine w_rng (fun a m ρ => ∃ k : Nat, a = k ∧ k + m = N ∧ Inv k ρ) ⟨_, ρ1, h1, 0, 1, N, ?_, ⟨0, rfl, by omega, h3⟩, ?_, ?_⟩
  · simp only [rngOf]
    rw [if_pos (by simp only [Bool.and_eq_true, decide_eq_true_eq]; omega)]
    rfl
  · rintro a ρ ⟨k, rfl, e, hi⟩
    have : k = N := by omega
    subst this
    exact h4 ρ hi
  · rintro a m ρ ⟨k, rfl, e, hi⟩
    obtain ⟨ρa, e1, o, e2, h6⟩ := h5 k (by omega) ρ hi
    refine ⟨ρa, e1, o, e2, ?_⟩
    cases o with
    | nx ρ => exact ⟨k + 1, rfl, by omega, h6⟩
    | ct ρ => exact ⟨k + 1, rfl, by omega, h6⟩
    | bk ρ => exact h6
    | rt v ρ => exact h6
theorem w_itE {x : E} (h : wE C x ρ fun v ρ1 => ∃ xs, asIt v = some xs ∧ QI xs ρ1) : wI C (.e x) ρ QI := by
  obtain ⟨v, ρ1, h1, xs, h2, h3⟩ := h
  exact ⟨_, _, by simp only [evIt]; rw [h1]; dsimp only; rw [h2], h3⟩
theorem w_itR {es : List E} (h : wL C es ρ fun vs ρ1 => ∃ a c m, rngOf vs = some (a, c, m) ∧ QI ((rngL c a m).map .d) ρ1) : wI C (.rng es) ρ QI := by
  obtain ⟨v, ρ1, h1, a, c, m, h2, h3⟩ := h
  exact ⟨_, _, by simp only [evIt]; rw [h1]; dsimp only; rw [h2], h3⟩
theorem w_itN {x : E} (h : wE C x ρ fun v ρ1 => ∃ xs, asQ v = some xs ∧ QI ((xs.zipIdx).map (fun p => .d (.tup [.int p.2, p.1]))) ρ1) : wI C (.enu x) ρ QI := by
  obtain ⟨v, ρ1, h1, xs, h2, h3⟩ := h
  exact ⟨_, _, by simp only [evIt]; rw [h1]; dsimp only; rw [h2], h3⟩
def wCs (C : Orc) (es : List E) (ρ : Env) (Q : Bool → Env → Prop) : Prop := ∃ b ρ', evCs C es ρ = some (b, ρ') ∧ Q b ρ'
theorem w_csn {Q : Bool → Env → Prop} (h : Q true ρ) : wCs C [] ρ Q := ⟨_, _, by simp only [evCs], h⟩
theorem w_csc {e : E} {es : List E} (h : wT C e ρ fun b ρ1 => (b = true → wCs C es ρ1 QT) ∧ (b = false → QT false ρ1)) : wCs C (e :: es) ρ QT := by
  obtain ⟨c, ρ1, h1, h2, h3⟩ := h
  unfold evT at h1
  cases e1 : evE C e ρ with
  | none => rw [e1] at h1; cases h1
  | some q =>
    rw [e1] at h1
    dsimp only at h1
    cases e2 : tru q.1 with
    | none => rw [e2] at h1; cases h1
    | some c' =>
      rw [e2] at h1
      simp only [Option.some.injEq, Prod.mk.injEq] at h1
      obtain ⟨rfl, rfl⟩ := h1
      cases c' with
      | true =>
        obtain ⟨b, ρ2, h4, h5⟩ := h2 rfl
        exact ⟨b, ρ2, by simp only [evCs]; rw [e1]; dsimp only; rw [e2]; exact h4, h5⟩
      | false => exact ⟨_, _, by simp only [evCs]; rw [e1]; dsimp only; rw [e2], h3 rfl⟩
theorem allD_map : ∀ {l : List D}, allD (l.map PV.d) = some l
  | [] => rfl
  | x :: l => by
    show (allD (l.map PV.d)).map (x :: ·) = _
    rw [allD_map]
    rfl
theorem mkLst_map {l : List D} : mkLst (l.map PV.d) = .ol l := by unfold mkLst; rw [allD_map]
theorem mkTup_map {l : List D} : mkTup (l.map PV.d) = .d (.tup l) := by unfold mkTup; rw [allD_map]
theorem lcGo_by {f : PV → Env → Option (Option PV × Env)} {xs : List PV} {Inv : Nat → List D → Env → Prop} {P : List D → Env → Prop}
    (hs : ∀ k (hk : k < xs.length) acc ρ', Inv k acc ρ' → (∃ d ρ1, f xs[k] ρ' = some (some (.d d), ρ1) ∧ Inv (k + 1) (acc ++ [d]) ρ1) ∨ ∃ ρ1, f xs[k] ρ' = some (none, ρ1) ∧ Inv (k + 1) acc ρ1)
    (hd : ∀ acc ρ2, Inv xs.length acc ρ2 → P acc ρ2) : ∀ (m k : Nat) (acc : List D) (ρ : Env), m + k = xs.length → Inv k acc ρ →
      ∃ acc2 ρ2, lcGo f (xs.drop k) (acc.map .d) ρ = some (acc2.map .d, ρ2) ∧ P acc2 ρ2
  | 0, k, acc, ρ, e, h => by
    have : k = xs.length := by omega
    subst this
    rw [List.drop_length]
    exact ⟨acc, ρ, rfl, hd acc ρ h⟩
  | m + 1, k, acc, ρ, e, h => by
    have hk : k < xs.length := by omega
    rw [List.drop_eq_getElem_cons hk]
    simp only [lcGo]
    rcases hs k hk acc ρ h with ⟨d, ρ1, h1, h2⟩ | ⟨ρ1, h1, h2⟩
    · rw [h1]
      dsimp only
      have : acc.map PV.d ++ [.d d] = (acc ++ [d]).map .d := by simp
      rw [this]
      exact lcGo_by hs hd m (k + 1) _ ρ1 (by omega) h2
    · rw [h1]
      dsimp only
      exact lcGo_by hs hd m (k + 1) _ ρ1 (by omega) h2
theorem w_lcD {tg : Tg} {it : It} {cs : List E} {elt : E} (Inv : Nat → List D → Env → Prop) (h : wI C it ρ fun xs ρ1 => pureAt ρ1 (tgs tg) = true ∧ Inv 0 [] ρ1 ∧
    (∀ k (hk : k < xs.length) acc ρ', Inv k acc ρ' → ∃ ρa, bind tg xs[k] (wipe ρ' (tgs tg)) = some ρa ∧
      wCs C cs ρa fun b ρb => (b = true → wE C elt ρb fun y ρc => ∃ d, y = .d d ∧ Inv (k + 1) (acc ++ [d]) ρc) ∧ (b = false → Inv (k + 1) acc ρb)) ∧
    ∀ acc ρ2, Inv xs.length acc ρ2 → szB acc.length = true ∧ Q (.ol acc) (restore ρ2 ρ1 (tgs tg))) : wE C (.lc tg it cs elt) ρ Q := by
  obtain ⟨xs, ρ1, h1, h2, h3, h4, h5⟩ := h
  obtain ⟨acc2, ρ2, e2, h6, h7⟩ := lcGo_by (f := fun x ρ' => match bind tg x (wipe ρ' (tgs tg)) with
          | some ρa => match evCs C cs ρa with
            | some (true, ρb) => match evE C elt ρb with
              | some (y, ρc) => some (some y, ρc)
              | none => none
            | some (false, ρb) => some (none, ρb)
            | none => none
          | none => none) (xs := xs) (Inv := Inv) (P := fun acc ρ2 => szB acc.length = true ∧ Q (.ol acc) (restore ρ2 ρ1 (tgs tg))) (fun k hk acc ρ' hi => by
      obtain ⟨ρa, e, b, ρb, e3, h8, h9⟩ := h4 k hk acc ρ' hi
      rw [e]
      dsimp only
      rw [e3]
      cases b with
      | true =>
        obtain ⟨y, ρc, e4, d, rfl, h10⟩ := h8 rfl
        dsimp only
        rw [e4]
        exact .inl ⟨d, ρc, rfl, h10⟩
      | false => exact .inr ⟨ρb, rfl, h9 rfl⟩) h5 xs.length 0 [] ρ1 rfl h3
  simp only [List.drop_zero, List.map_nil] at e2
  refine ⟨_, _, ?_, h7⟩
  simp only [evE]
  rw [h1]
  dsimp only
  rw [if_pos h2]
  refine (congrArg (fun z : Option (List PV × Env) => match z with | some (ys, ρ2) => if szB ys.length then some (mkLst ys, restore ρ2 ρ1 (tgs tg)) else none | none => none) e2).trans ?_
  dsimp only
  rw [List.length_map, if_pos h6, mkLst_map]
theorem w_dic0 {t : Bool} (h : Q (.od t []) ρ) : wE C (.dic t []) ρ Q := ⟨_, _, by simp only [evE, evL]; rfl, h⟩
theorem w_ch {p q : Prim} {a b c : E} (h : wE C a ρ fun x ρ1 => wE C b ρ1 fun y ρ2 => ∃ k, app p [x, y] = some (.d (.bl k)) ∧ (k = true → wE C c ρ2 fun z ρ3 => ∃ k2, app q [y, z] = some (.d (.bl k2)) ∧ Q (.d (.bl k2)) ρ3) ∧ (k = false → Q (.d (.bl false)) ρ2)) : wE C (.ch p q a b c) ρ Q := by
  obtain ⟨x, ρ1, h1, y, ρ2, h2, k, h3, h4, h5⟩ := h
  cases k with
  | true =>
    obtain ⟨z, ρ3, h6, k2, h7, h8⟩ := h4 rfl
    exact ⟨_, _, by simp only [evE]; rw [h1]; dsimp only; rw [h2]; dsimp only; rw [h3]; dsimp only; rw [h6]; dsimp only; rw [h7], h8⟩
  | false => exact ⟨_, _, by simp only [evE]; rw [h1]; dsimp only; rw [h2]; dsimp only; rw [h3], h5 rfl⟩
theorem w_retn (h : QS (.rt (.d .non) ρ)) : wS C W .retn ρ QS := ⟨_, by simp only [evS], h⟩
theorem w_brk (h : QS (.bk ρ)) : wS C W .brk ρ QS := ⟨_, by simp only [evS], h⟩
theorem w_cnt (h : QS (.ct ρ)) : wS C W .cnt ρ QS := ⟨_, by simp only [evS], h⟩
theorem w_pas (h : QS (.nx ρ)) : wS C W .pas ρ QS := ⟨_, by simp only [evS], h⟩
end
/-! ### conditions -/
theorem ex1 {α : Type} {x : Option α} {r : α} {Q : α → Prop} (h : x = some r) (q : Q r) : ∃ r, x = some r ∧ Q r := ⟨r, h, q⟩
theorem ex2 {α β : Type} {x : Option (α × β)} {r : α} {o : β} {Q : α → β → Prop} (h : x = some (r, o)) (q : Q r o) : ∃ r o, x = some (r, o) ∧ Q r o := ⟨r, o, h, q⟩
theorem ex3 {α β γ : Type} {x : Option (α × β × γ)} {r : α} {o : β} {u : γ} {Q : α → β → γ → Prop} (h : x = some (r, o, u)) (q : Q r o u) : ∃ r o u, x = some (r, o, u) ∧ Q r o u := ⟨r, o, u, h, q⟩
theorem ex_m {m : MP} {p : PV} {vs : List PV} {r o : PV} {Q : PV → PV → Prop} (h : mapp m p vs = some (r, o)) (q : Q r o) : ∃ r o, mapp m p vs = some (r, o) ∧ Q r o := ⟨r, o, h, q⟩
theorem ex_call {P : Tab} {W n f : Nat} {args args' : List PV} {r : PV} {ws : List PV} {Q : PV → List PV → Prop} (h : call P W n f args' = some (r, ws)) (e : args = args') (q : Q r ws) : ∃ r ws, call P W n f args = some (r, ws) ∧ Q r ws := by
  subst e
  exact ⟨r, ws, h, q⟩
theorem exB {x : Option PV} {k : Bool} {Q : Bool → Prop} (h : x = some (.d (.bl k))) (q : Q k) : ∃ k, x = some (.d (.bl k)) ∧ Q k := ⟨k, h, q⟩
theorem ex_rng1 {n : Int} {Q : Int → Int → Nat → Prop} (h : -(2 ^ 62) ≤ n ∧ n < 2 ^ 62) (q : Q 0 1 n.toNat) : ∃ a c m, rngOf [.d (.int n)] = some (a, c, m) ∧ Q a c m := by
  refine ⟨_, _, _, ?_, q⟩
  simp only [rngOf]
  rw [if_pos (by simp only [Bool.and_eq_true, decide_eq_true_eq]; exact h)]
theorem ex_rng2 {a b : Int} {Q : Int → Int → Nat → Prop} (h : (-(2 ^ 62) ≤ a ∧ a < 2 ^ 62) ∧ -(2 ^ 62) ≤ b ∧ b < 2 ^ 62) (q : Q a 1 (b - a).toNat) : ∃ a' c m, rngOf [.d (.int a), .d (.int b)] = some (a', c, m) ∧ Q a' c m := by
  refine ⟨_, _, _, ?_, q⟩
  simp only [rngOf]
  rw [if_pos (by simp only [Bool.and_eq_true, decide_eq_true_eq]; exact ⟨⟨h.1, h.2.1⟩, h.2.2⟩)]
theorem anB {b c : Bool} {A : Prop} (h : b = c) (a : A) : b = c ∧ A := ⟨h, a⟩

theorem cd_eq {i j : Int} {A B : Prop} (h1 : i = j → A) (h2 : i ≠ j → B) : ((i == j) = true → A) ∧ ((i == j) = false → B) := ⟨fun h => h1 (by simpa using h), fun h => h2 (by simpa using h)⟩
theorem cd_dec {p : Prop} [Decidable p] {A B : Prop} (h1 : p → A) (h2 : ¬ p → B) : (decide p = true → A) ∧ (decide p = false → B) := ⟨fun h => h1 (of_decide_eq_true h), fun h => h2 (of_decide_eq_false h)⟩
theorem cd_not {b : Bool} {A B : Prop} (h : (b = true → B) ∧ (b = false → A)) : ((!b) = true → A) ∧ ((!b) = false → B) := ⟨fun e => h.2 (by simpa using e), fun e => h.1 (by simpa using e)⟩
theorem cd_t {A B : Prop} (h : A) : (true = true → A) ∧ (true = false → B) := ⟨fun _ => h, fun e => (by cases e)⟩
theorem cd_f {A B : Prop} (h : B) : (false = true → A) ∧ (false = false → B) := ⟨fun e => (by cases e), fun _ => h⟩
theorem cd_eq' {i j : Int} {A B : Prop} (h1 : i = j → A) (h2 : i ≠ j → B) : ((i == j) = false → B) ∧ ((i == j) = true → A) := ⟨fun h => h2 (by simpa using h), fun h => h1 (by simpa using h)⟩
theorem cd_dec' {p : Prop} [Decidable p] {A B : Prop} (h1 : p → A) (h2 : ¬ p → B) : (decide p = false → B) ∧ (decide p = true → A) := ⟨fun h => h2 (of_decide_eq_false h), fun h => h1 (of_decide_eq_true h)⟩
theorem cd_not' {b : Bool} {A B : Prop} (h : (b = false → A) ∧ (b = true → B)) : ((!b) = false → B) ∧ ((!b) = true → A) := ⟨fun e => h.2 (by simpa using e), fun e => h.1 (by simpa using e)⟩
theorem cd_t' {A B : Prop} (h : A) : (true = false → B) ∧ (true = true → A) := ⟨fun e => (by cases e), fun _ => h⟩
theorem cd_f' {A B : Prop} (h : B) : (false = false → B) ∧ (false = true → A) := ⟨fun _ => h, fun e => (by cases e)⟩
theorem cd_any {b : Bool} {A B : Prop} (h1 : b = true → A) (h2 : b = false → B) : (b = true → A) ∧ (b = false → B) := ⟨h1, h2⟩
theorem cd_any' {b : Bool} {A B : Prop} (h1 : b = true → A) (h2 : b = false → B) : (b = false → B) ∧ (b = true → A) := ⟨h2, h1⟩
/-! ### calls -/
def Ret (io : List Bool) (post : PV → List PV → Prop) : Out → Prop
  | .rt v ρ => post v (ends io ρ)
  | .nx ρ => post (.d .non) (ends io ρ)
  | _ => False
theorem r_rt {io : List Bool} {post : PV → List PV → Prop} {v : PV} {ρ : Env} (h : post v (ends io ρ)) : Ret io post (.rt v ρ) := h
theorem r_nx {io : List Bool} {post : PV → List PV → Prop} {ρ : Env} (h : post (.d .non) (ends io ρ)) : Ret io post (.nx ρ) := h
theorem call_ok {P : Tab} {W j f : Nat} {fd : Fn} {args : List PV} {ρ0 : Env} {post : PV → List PV → Prop} (hP : P f = some fd) (hl : args.length = fd.io.length) (hρ : args ++ List.replicate (fd.ns - args.length) .un = ρ0)
    (h : wSs (call P W j) W fd.body ρ0 (Ret fd.io post)) : ∃ r ws, call P W (j + 1) f args = some (r, ws) ∧ post r ws := by
  subst hρ
  obtain ⟨o, h1, h2⟩ := h
  cases o with
  | nx ρ => exact ⟨_, _, call_by hP hl ⟨_, h1, ρ, .inl ⟨rfl, rfl⟩, rfl⟩, h2⟩
  | rt v ρ => exact ⟨_, _, call_by hP hl ⟨_, h1, ρ, .inr rfl, rfl⟩, h2⟩
  | bk ρ => cases h2
  | ct ρ => cases h2
/-! ### primitives at lists of ints -/
theorem allInt_map : ∀ {l : List Int}, allInt (l.map .int) = some l
  | [] => rfl
  | x :: l => by
    show (allInt (l.map .int)).map (x :: ·) = _
    rw [allInt_map]
    rfl
theorem atI_of {α : Type} {xs : List α} {i : Int} {k : Nat} {x : α} (e : i = (k : Int)) (h : xs[k]? = some x) : atI xs i = some x := by
  subst e
  exact atI_nat h
theorem map_get {l : List Int} {k : Nat} {x : Int} (h : l[k]? = some x) : (l.map D.int)[k]? = some (.int x) := by
  rw [List.getElem?_map, h]; rfl
theorem a_ixT {l : List Int} {i : Int} {k : Nat} {x : Int} (e : i = (k : Int)) (h : l[k]? = some x) : app .ix [.d (tupI l), .d (.int i)] = some (.d (.int x)) := a_ix rfl rfl (atI_of e (map_get h))
theorem a_ixL {l : List Int} {i : Int} {k : Nat} {x : Int} (e : i = (k : Int)) (h : l[k]? = some x) : app .ix [.ol (l.map .int), .d (.int i)] = some (.d (.int x)) := a_ix rfl rfl (atI_of e (map_get h))
theorem a_ixF {l : List Int} {i : Int} {k : Nat} {x : Int} (e : i = (k : Int)) (h : l[k]? = some x) : app .ix [.d (.fl (l.map .int)), .d (.int i)] = some (.d (.int x)) := a_ix rfl rfl (atI_of e (map_get h))
theorem a_ixO {xs : List D} {i : Int} {k : Nat} {x : D} (e : i = (k : Int)) (h : xs[k]? = some x) : app .ix [.ol xs, .d (.int i)] = some (.d x) := a_ix rfl rfl (atI_of e h)
theorem a_ixD {xs : List D} {i : Int} {k : Nat} {x : D} (e : i = (k : Int)) (h : xs[k]? = some x) : app .ix [.d (.tup xs), .d (.int i)] = some (.d x) := a_ix rfl rfl (atI_of e h)
theorem a_lenT {xs : List D} : app .len [.d (.tup xs)] = some (.d (.int xs.length)) := rfl
theorem a_lenL {xs : List D} : app .len [.ol xs] = some (.d (.int xs.length)) := rfl
theorem a_lenF {xs : List D} : app .len [.d (.fl xs)] = some (.d (.int xs.length)) := rfl
theorem a_lenI {l : List Int} : app .len [.d (tupI l)] = some (.d (.int l.length)) := by rw [tupI, a_lenT, List.length_map]
theorem rngL_eq (a : Int) : ∀ (n : Nat), rngL 1 a n = (List.range n).map fun (k : Nat) => D.int (a + k)
  | 0 => rfl
  | n + 1 => by
    rw [List.range_succ_eq_map]
    show D.int a :: rngL 1 (a + 1) n = _
    rw [rngL_eq (a + 1) n]
    simp only [List.map_cons, List.map_map]
    congr 1
    · simp
    · apply List.map_congr_left
      intro k _
      simp only [Function.comp]
      congr 1
      show a + 1 + (k : Int) = a + ((k + 1 : Nat) : Int)
      omega
theorem rngL_len (a : Int) (n : Nat) : (rngL 1 a n).length = n := by rw [rngL_eq]; simp
theorem rngL_get {a : Int} {n k : Nat} (h : k < ((rngL 1 a n).map PV.d).length) : ((rngL 1 a n).map PV.d)[k] = .d (.int (a + k)) := by
  simp [rngL_eq]
/-- n numbers, by places -/
def tN (n : Nat) (f : Nat → Nat) : D := .tup ((List.range n).map fun i => D.int (f i))
theorem a_ixN {n : Nat} {f : Nat → Nat} {i : Int} {k : Nat} (e : i = (k : Int)) (h : k < n) : app .ix [.d (tN n f), .d (.int i)] = some (.d (.int (f k))) :=
  a_ixD e (by simp [h])
theorem a_lenN {n : Nat} {f : Nat → Nat} : app .len [.d (tN n f)] = some (.d (.int n)) := by
  rw [tN, a_lenT]; simp
theorem c_min2 {a b : Int} {Q : PV → Prop} (q : ∀ x, x ≤ a ∧ x ≤ b ∧ (x = a ∨ x = b) → Q (.d (.int x))) : ∃ r, app .min2 [.d (.int a), .d (.int b)] = some r ∧ Q r := by
  refine ⟨_, rfl, q _ ?_⟩
  split <;> omega
theorem c_max2 {a b : Int} {Q : PV → Prop} (q : ∀ x, a ≤ x ∧ b ≤ x ∧ (x = a ∨ x = b) → Q (.d (.int x))) : ∃ r, app .max2 [.d (.int a), .d (.int b)] = some r ∧ Q r := by
  refine ⟨_, rfl, q _ ?_⟩
  split <;> omega
theorem c_ix4 {a b c d : D} {h : Int} {Q : PV → Prop} (h0 : 0 ≤ h ∧ h < 4) (q : ∀ x, (x = a ∧ h = 0) ∨ (x = b ∧ h = 1) ∨ (x = c ∧ h = 2) ∨ (x = d ∧ h = 3) → Q (.d x)) : ∃ r, app .ix [.d (.tup [a, b, c, d]), .d (.int h)] = some r ∧ Q r := by
  have : h = 0 ∨ h = 1 ∨ h = 2 ∨ h = 3 := by omega
  rcases this with rfl | rfl | rfl | rfl
  · exact ⟨_, rfl, q _ (.inl ⟨rfl, rfl⟩)⟩
  · exact ⟨_, rfl, q _ (.inr (.inl ⟨rfl, rfl⟩))⟩
  · exact ⟨_, rfl, q _ (.inr (.inr (.inl ⟨rfl, rfl⟩)))⟩
  · exact ⟨_, rfl, q _ (.inr (.inr (.inr ⟨rfl, rfl⟩)))⟩
theorem c_ix3 {a b c : D} {h : Int} {Q : PV → Prop} (h0 : 0 ≤ h ∧ h < 3) (q : ∀ x, (x = a ∧ h = 0) ∨ (x = b ∧ h = 1) ∨ (x = c ∧ h = 2) → Q (.d x)) : ∃ r, app .ix [.d (.tup [a, b, c]), .d (.int h)] = some r ∧ Q r := by
  have : h = 0 ∨ h = 1 ∨ h = 2 := by omega
  rcases this with rfl | rfl | rfl
  · exact ⟨_, rfl, q _ (.inl ⟨rfl, rfl⟩)⟩
  · exact ⟨_, rfl, q _ (.inr (.inl ⟨rfl, rfl⟩))⟩
  · exact ⟨_, rfl, q _ (.inr (.inr ⟨rfl, rfl⟩))⟩
theorem c_ix2 {a b : D} {h : Int} {Q : PV → Prop} (h0 : 0 ≤ h ∧ h < 2) (q : ∀ x, (x = a ∧ h = 0) ∨ (x = b ∧ h = 1) → Q (.d x)) : ∃ r, app .ix [.d (.tup [a, b]), .d (.int h)] = some r ∧ Q r := by
  have : h = 0 ∨ h = 1 := by omega
  rcases this with rfl | rfl
  · exact ⟨_, rfl, q _ (.inl ⟨rfl, rfl⟩)⟩
  · exact ⟨_, rfl, q _ (.inr ⟨rfl, rfl⟩)⟩
theorem c_ix4i {a b c d h : Int} {Q : PV → Prop} (h0 : 0 ≤ h ∧ h < 4) (q : ∀ x : Int, (x = a ∧ h = 0) ∨ (x = b ∧ h = 1) ∨ (x = c ∧ h = 2) ∨ (x = d ∧ h = 3) → Q (.d (.int x))) : ∃ r, app .ix [.d (.tup [.int a, .int b, .int c, .int d]), .d (.int h)] = some r ∧ Q r :=
  c_ix4 h0 fun x hx => by rcases hx with ⟨rfl, e⟩ | ⟨rfl, e⟩ | ⟨rfl, e⟩ | ⟨rfl, e⟩ <;> exact q _ (by simp [e])
theorem c_ix3i {a b c h : Int} {Q : PV → Prop} (h0 : 0 ≤ h ∧ h < 3) (q : ∀ x : Int, (x = a ∧ h = 0) ∨ (x = b ∧ h = 1) ∨ (x = c ∧ h = 2) → Q (.d (.int x))) : ∃ r, app .ix [.d (.tup [.int a, .int b, .int c]), .d (.int h)] = some r ∧ Q r :=
  c_ix3 h0 fun x hx => by rcases hx with ⟨rfl, e⟩ | ⟨rfl, e⟩ | ⟨rfl, e⟩ <;> exact q _ (by simp [e])
theorem tN_list (l : List Nat) : D.tup (l.map fun (i : Nat) => D.int i) = tN l.length fun i => l.getD i 0 := by
  unfold tN
  congr 1
  apply List.ext_getElem?
  intro k
  by_cases h : k < l.length
  · simp [h]
  · rw [List.getElem?_eq_none (by simp; omega), List.getElem?_eq_none (by simp; omega)]
/-! ### dicts -/
theorem kget_kmap {α : Type} {x : D} {v : α} : ∀ {l : List (D × α)} {y : D}, kget (kmap x v l) y = if D.beq y x then (if (kget l y).isSome then some v else none) else kget l y
  | [], y => by simp [kmap, kget]
  | (k, w) :: r, y => by
    simp only [kmap]
    by_cases h : D.beq k x = true
    · have hk := D.beq_eq k x h
      subst hk
      rw [if_pos h]
      simp only [kget]
      by_cases h2 : D.beq k y = true
      · have := D.beq_eq k y h2
        subst this
        simp [h2]
      · have h3 : D.beq y k = false := D.beq_ff.mpr fun e => h2 (by rw [e]; exact D.beq_self k)
        simp [h2, h3, kget_kmap]
    · rw [if_neg h]
      simp only [kget]
      by_cases h2 : D.beq k y = true
      · have := D.beq_eq k y h2
        subst this
        simp [h2, h]
      · simp [h2, kget_kmap]
theorem kget_kput {α : Type} {x : D} {v : α} : ∀ {l : List (D × α)} {y : D}, kget (kput l x v) y = if D.beq y x then some v else kget l y
  | [], y => by
    simp only [kput, kget]
    by_cases h : D.beq x y = true
    · have := D.beq_eq x y h
      subst this
      simp [h]
    · have h3 : D.beq y x = false := D.beq_ff.mpr fun e => h (by rw [e]; exact D.beq_self x)
      simp [h, h3]
  | (k, w) :: r, y => by
    simp only [kput]
    by_cases h : D.beq k x = true
    · have hk := D.beq_eq k x h
      subst hk
      rw [if_pos h]
      simp only [kget]
      by_cases h2 : D.beq k y = true
      · have := D.beq_eq k y h2
        subst this
        simp [h2]
      · have h3 : D.beq y k = false := D.beq_ff.mpr fun e => h2 (by rw [e]; exact D.beq_self k)
        rw [if_neg h2, kget_kmap, h3, if_neg h2]
        simp
    · rw [if_neg h]
      simp only [kget]
      by_cases h2 : D.beq k y = true
      · have := D.beq_eq k y h2
        subst this
        simp [h2, h]
      · rw [if_neg h2, if_neg h2, kget_kput]
theorem kput_len {α : Type} {x : D} {v : α} : ∀ {l : List (D × α)}, (kput l x v).length ≤ l.length + 1
  | [] => by simp [kput]
  | (k, w) :: r => by
    have hm : ∀ (r : List (D × α)), (kmap x v r).length = r.length := by
      intro r
      induction r with
      | nil => rfl
      | cons a r ih => simp [kmap, ih]
    simp only [kput]
    split
    · simp [hm]
    · simp only [List.length_cons]
      have := kput_len (x := x) (v := v) (l := r)
      omega
end Rt.Pl

set_option Elab.async false
set_option linter.all false
set_option maxRecDepth 100000
set_option maxHeartbeats 2000000
/-! Rt29: faces put in order. -/
namespace Rt.Pl
open Rt
def fI (l : List Int) : D := .fl (l.map .int)
def mn : List Int → Int
  | [] => 0
  | x :: xs => xs.foldl min x
theorem mn_fold : ∀ (xs : List Int) (x : Int), xs.foldl min x = x ∨ xs.foldl min x ∈ xs
  | [], x => .inl rfl
  | y :: xs, x => by
    rcases mn_fold xs (min x y) with h | h
    · rcases Int.le_total x y with e | e
      · rw [Int.min_eq_left e] at h; exact .inl (by show xs.foldl min (min x y) = x; rw [Int.min_eq_left e]; exact h)
      · rw [Int.min_eq_right e] at h; exact .inr (by show xs.foldl min (min x y) ∈ _; rw [Int.min_eq_right e, h]; exact List.mem_cons_self)
    · exact .inr (List.mem_cons_of_mem _ h)
theorem mn_mem {l : List Int} (h : l ≠ []) : mn l ∈ l := by
  cases l with
  | nil => exact absurd rfl h
  | cons x xs =>
    rcases mn_fold xs x with e | e
    · show xs.foldl min x ∈ _; rw [e]; exact List.mem_cons_self
    · exact List.mem_cons_of_mem _ e
theorem a_min1F {l : List Int} (h : l ≠ []) : app .min1 [.d (.fl (l.map .int))] = some (.d (.int (mn l))) := by
  cases l with
  | nil => exact absurd rfl h
  | cons x xs =>
    simp only [app, pMin1, asS]
    rw [allInt_map]
    rfl
theorem lay_ints : ∀ {l : List Int}, layL (l.map .int) = true
  | [] => rfl
  | x :: l => by
    show (D.lay (.int x) && layL (l.map .int)) = true
    rw [lay_ints]
    rfl
theorem dep_ints : ∀ {l : List Int}, depL (l.map .int) = 0
  | [] => rfl
  | x :: l => by
    show max (D.dep (.int x)) (depL (l.map .int)) = 0
    rw [dep_ints]
    rfl
theorem plainL_ints {l : List Int} : plainL (l.map .int) = true := by simp [plainL, lay_ints, dep_ints]
theorem findD_ints {m : Int} : ∀ {l : List Int} {n : Nat}, m ∈ l → findD (.int m) (l.map .int) n = some (n + l.idxOf m)
  | x :: l, n, h => by
    show (if D.eqv (.int x) (.int m) then some n else findD (.int m) (l.map .int) (n + 1)) = _
    have e : D.eqv (.int x) (.int m) = (x == m) := by simp only [D.eqv.eq_def]
    rw [e, List.idxOf_cons]
    by_cases q : x = m
    · simp [q]
    · have h' : m ∈ l := by
        rcases List.mem_cons.mp h with h | h
        · exact absurd h.symm q
        · exact h
      have q' : (x == m) = false := by simpa using q
      rw [q', findD_ints h']
      simp
      omega
theorem a_index {l : List Int} {m : Int} (h : m ∈ l) : app .index [.ol (l.map .int), .d (.int m)] = some (.d (.int (l.idxOf m : Nat))) := by
  simp only [app, pIndex, asL]
  rw [plainL_ints]
  rw [findD_ints h]
  simp [D.plain, D.lay, D.dep]
theorem a_slF {xs : List D} {k : Nat} : app (.sl true false) [.d (.fl xs), .d (.int k)] = some (.ol (xs.drop k)) := by
  show some (PV.ol (cutL xs (some (k : Int)) none)) = _
  congr 2
  have e : clip xs.length (k : Int) = min k xs.length := by unfold clip; rw [if_neg (by omega)]; rfl
  simp only [cutL, Option.map_some, Option.getD_some, Option.map_none, Option.getD_none]
  rw [e]
  by_cases h : k ≤ xs.length
  · rw [Nat.min_eq_left h, List.take_of_length_le (by simp)]
  · rw [Nat.min_eq_right (by omega), List.drop_of_length_le (Nat.le_refl _), List.drop_of_length_le (by omega)]
    simp
theorem a_slT {xs : List D} {k : Nat} : app (.sl false true) [.d (.fl xs), .d (.int k)] = some (.ol (xs.take k)) := by
  show some (PV.ol (cutL xs none (some (k : Int)))) = _
  congr 2
  have e : clip xs.length (k : Int) = min k xs.length := by unfold clip; rw [if_neg (by omega)]; rfl
  simp only [cutL, Option.map_some, Option.getD_some, Option.map_none, Option.getD_none, List.drop_zero, Nat.sub_zero]
  rw [e]
  by_cases h : k ≤ xs.length
  · rw [Nat.min_eq_left h]
  · rw [Nat.min_eq_right (by omega), List.take_of_length_le (Nat.le_refl _), List.take_of_length_le (by omega)]
theorem a_addT {a b : List D} (h : a.length + b.length ≤ 16777216) : app .add [.d (.tup a), .d (.tup b)] = some (.d (.tup (a ++ b))) := by
  simp only [app, pAdd]
  rw [if_pos (show szB (a.length + b.length) = true from decide_eq_true h)]
theorem m_append {xs : List D} {x : D} (h : xs.length < 16777216) : mapp .append (.ol xs) [.d x] = some (.d .non, .ol (xs ++ [x])) := by
  simp only [mapp]
  rw [if_pos h]
theorem allIT_map : ∀ {us : List (List Int)}, (∀ u ∈ us, u ≠ []) → allIT (us.map tupI) = some us
  | [], _ => rfl
  | [] :: us, h => absurd rfl (h _ List.mem_cons_self)
  | (x :: u) :: us, h => by
    show (match allInt (.int x :: u.map .int), allIT (us.map tupI) with | some u, some us => some (u :: us) | _, _ => none) = _
    rw [allIT_map fun u hu => h u (List.mem_cons_of_mem _ hu)]
    rw [show (D.int x :: u.map .int) = (x :: u).map .int from rfl, allInt_map]
theorem a_sortT {us : List (List Int)} (h : ∀ u ∈ us, u ≠ []) : app .sorted [.ol (us.map tupI)] = some (.ol ((sortT us).map tupI)) := by
  simp only [app, pSorted, asS]
  cases us with
  | nil => simp [allInt, sortI, sortT]
  | cons u us =>
    have e : allInt ((u :: us).map tupI) = none := rfl
    rw [e]
    dsimp only
    rw [allIT_map h]
theorem a_sortI {l : List Int} : app .sorted [.ol (l.map .int)] = some (.ol ((sortI l).map .int)) := by
  simp only [app, pSorted, asS]
  rw [allInt_map]
def rot (l : List Int) : List Int := l.drop (l.idxOf (mn l)) ++ l.take (l.idxOf (mn l))
def ord (ls : List (List Int)) : List (List Int) := sortT (ls.map rot)
theorem rot_len {l : List Int} : (rot l).length = l.length := by unfold rot; simp; omega
theorem rot_ne {l : List Int} (h : l ≠ []) : rot l ≠ [] := fun e => h (List.length_eq_zero_iff.mp (by rw [← rot_len, e]; rfl))
def tT (ls : List (List Int)) : D := .tup (ls.map tupI)
def inOrderFn : Fn := ⟨4, [false], [
    .asg 1 (.lst []),
    .for (.nf 2) (.e (.v 0)) [.asg 3 (.pr .index [(.pr .list1 [(.v 2)]), (.pr .min1 [(.v 2)])]), .ex (.mu .append 1 [(.pr .add [(.pr .tuple1 [(.pr (.sl true false) [(.v 2), (.v 3)])]), (.pr .tuple1 [(.pr (.sl false true) [(.v 2), (.v 3)])])])])],
    .ret (.pr .tuple1 [(.pr .sorted [(.rd 1)])])]⟩
theorem inorder_ok {P : Tab} {W j f : Nat} (hP : P f = some inOrderFn) {ls : List (List Int)} (h : ∀ l ∈ ls, l ≠ [] ∧ l.length < 16777216) (hl : ls.length < 16777216) :
    call P W (j + 1) f [.d (.fl (ls.map fI))] = some (.d (tT (ord ls)), [.un]) := by
  suffices H : ∃ r ws, call P W (j + 1) f [.d (.fl (ls.map fI))] = some (r, ws) ∧ (r = .d (tT (ord ls)) ∧ ws = [.un]) by
    obtain ⟨r, ws, e, rfl, rfl⟩ := H
    exact e
  refine call_ok hP rfl rfl ?_
  unfold inOrderFn
  dsimp only
  repeat' first
      | with_reducible apply w_consS
      | with_reducible apply w_nilS
      | with_reducible apply w_asg
      | with_reducible apply w_iff
      | with_reducible apply w_six
      | with_reducible apply w_ret
      | with_reducible apply w_asgt
      | with_reducible apply w_ex
      | with_reducible apply w_retn
      | with_reducible apply w_brk
      | with_reducible apply w_cnt
      | with_reducible apply w_pas
      | with_reducible apply w_T
      | with_reducible apply w_pr
      | with_reducible apply w_cons
      | with_reducible apply w_nil
      | with_reducible apply w_c
      | (with_reducible refine w_v rfl ?_)
      | (with_reducible refine w_rd rfl rfl ?_)
      | (with_reducible refine w_mv rfl rfl ?_)
      | (with_reducible refine w_fz rfl ?_)
      | (with_reducible refine w_io rfl ?_)
      | with_reducible apply w_tup
      | with_reducible apply w_lst
      | with_reducible apply w_dic0
      | with_reducible apply w_frz
      | with_reducible apply w_cl
      | with_reducible apply w_clk
      | with_reducible apply w_nt
      | with_reducible apply w_or1
      | with_reducible apply w_an1
      | with_reducible apply w_or
      | with_reducible apply w_an
      | with_reducible apply w_ite
      | with_reducible apply w_ch
      | with_reducible apply w_itE
      | with_reducible apply w_itR
      | with_reducible apply w_itN
      | with_reducible apply w_csn
      | with_reducible apply w_csc
      | (with_reducible refine w_mu rfl ?_)
      | ((with_reducible apply w_aix); rfl)
      | ((with_reducible apply w_aug); rfl)
      | with_reducible apply w_nxS
      | with_reducible apply w_rtS
      | with_reducible apply w_bkS
      | with_reducible apply w_ctS
      | with_reducible apply r_rt
      | with_reducible apply r_nx
      | with_reducible apply t_nx
      | with_reducible apply t_rt
      | with_reducible apply t_ct
      | with_reducible apply t_bk
      | (with_reducible refine w_eachN (fun k ρ => ∃ x y, ρ = [.d (.fl (ls.map fI)), .ol (((ls.take k).map rot).map tupI), x, y]) ?_)
      | with_reducible rfl
      | (with_reducible refine ⟨_, a_eqI, ?_⟩)
      | (with_reducible refine ⟨_, a_neI, ?_⟩)
      | with_reducible apply cd_t
      | with_reducible apply cd_f
      | with_reducible apply cd_t'
      | with_reducible apply cd_f'
      | with_reducible apply cd_not
      | with_reducible apply cd_not'
      | (with_reducible refine cd_eq (fun hc => ?_) (fun hc => ?_) <;> first | (exfalso; omega) | skip)
      | (with_reducible refine cd_dec (fun hc => ?_) (fun hc => ?_) <;> first | (exfalso; omega) | skip)
      | (with_reducible refine cd_eq' (fun hc => ?_) (fun hc => ?_) <;> first | (exfalso; omega) | skip)
      | (with_reducible refine cd_dec' (fun hc => ?_) (fun hc => ?_) <;> first | (exfalso; omega) | skip)
      | (with_reducible refine c_min2 (fun x hx => ?_))
      | (with_reducible refine c_max2 (fun x hx => ?_))
      | ((with_reducible apply ex1); rfl)
      | ((with_reducible apply exB); rfl)
      | ((with_reducible apply ex2); rfl)
      | (with_reducible refine ex_rng1 (by omega) ?_)
      | (with_reducible refine ex_rng2 (by omega) ?_)
      | (with_reducible refine cd_any (fun hc => ?_) (fun hc => ?_) <;> first | (exact absurd hc (by decide)) | skip)
      | (with_reducible refine cd_any' (fun hc => ?_) (fun hc => ?_) <;> first | (exact absurd hc (by decide)) | skip)
      | ((with_reducible apply anB); rfl)
      | (exact ⟨rfl, rfl⟩)
      | fail
  refine ⟨⟨_, _, rfl⟩, ?_, ?_⟩
  · rintro ρ ⟨x, y, rfl⟩
    have e : (List.take ((ls.map fI).map PV.d).length ls) = ls := List.take_of_length_le (by simp)
    rw [e]
    have hs : ∀ u ∈ ls.map rot, u ≠ [] := by
      intro u hu
      obtain ⟨v, hv, rfl⟩ := List.mem_map.mp hu
      exact rot_ne (h v hv).1
    repeat' first
        | with_reducible apply w_consS
        | with_reducible apply w_nilS
        | with_reducible apply w_asg
        | with_reducible apply w_iff
        | with_reducible apply w_six
        | with_reducible apply w_ret
        | with_reducible apply w_asgt
        | with_reducible apply w_ex
        | with_reducible apply w_retn
        | with_reducible apply w_brk
        | with_reducible apply w_cnt
        | with_reducible apply w_pas
        | with_reducible apply w_T
        | with_reducible apply w_pr
        | with_reducible apply w_cons
        | with_reducible apply w_nil
        | with_reducible apply w_c
        | (with_reducible refine w_v rfl ?_)
        | (with_reducible refine w_rd rfl rfl ?_)
        | (with_reducible refine w_mv rfl rfl ?_)
        | (with_reducible refine w_fz rfl ?_)
        | (with_reducible refine w_io rfl ?_)
        | with_reducible apply w_tup
        | with_reducible apply w_lst
        | with_reducible apply w_dic0
        | with_reducible apply w_frz
        | with_reducible apply w_cl
        | with_reducible apply w_clk
        | with_reducible apply w_nt
        | with_reducible apply w_or1
        | with_reducible apply w_an1
        | with_reducible apply w_or
        | with_reducible apply w_an
        | with_reducible apply w_ite
        | with_reducible apply w_ch
        | with_reducible apply w_itE
        | with_reducible apply w_itR
        | with_reducible apply w_itN
        | with_reducible apply w_csn
        | with_reducible apply w_csc
        | (with_reducible refine w_mu rfl ?_)
        | ((with_reducible apply w_aix); rfl)
        | ((with_reducible apply w_aug); rfl)
        | with_reducible apply w_nxS
        | with_reducible apply w_rtS
        | with_reducible apply w_bkS
        | with_reducible apply w_ctS
        | with_reducible apply r_rt
        | with_reducible apply r_nx
        | with_reducible apply t_nx
        | with_reducible apply t_rt
        | with_reducible apply t_ct
        | with_reducible apply t_bk
        | ((with_reducible apply ex1); exact a_sortT hs)
        | with_reducible rfl
        | (with_reducible refine ⟨_, a_eqI, ?_⟩)
        | (with_reducible refine ⟨_, a_neI, ?_⟩)
        | with_reducible apply cd_t
        | with_reducible apply cd_f
        | with_reducible apply cd_t'
        | with_reducible apply cd_f'
        | with_reducible apply cd_not
        | with_reducible apply cd_not'
        | (with_reducible refine cd_eq (fun hc => ?_) (fun hc => ?_) <;> first | (exfalso; omega) | skip)
        | (with_reducible refine cd_dec (fun hc => ?_) (fun hc => ?_) <;> first | (exfalso; omega) | skip)
        | (with_reducible refine cd_eq' (fun hc => ?_) (fun hc => ?_) <;> first | (exfalso; omega) | skip)
        | (with_reducible refine cd_dec' (fun hc => ?_) (fun hc => ?_) <;> first | (exfalso; omega) | skip)
        | (with_reducible refine c_min2 (fun x hx => ?_))
        | (with_reducible refine c_max2 (fun x hx => ?_))
        | ((with_reducible apply ex1); rfl)
        | ((with_reducible apply exB); rfl)
        | ((with_reducible apply ex2); rfl)
        | (with_reducible refine ex_rng1 (by omega) ?_)
        | (with_reducible refine ex_rng2 (by omega) ?_)
        | (with_reducible refine cd_any (fun hc => ?_) (fun hc => ?_) <;> first | (exact absurd hc (by decide)) | skip)
        | (with_reducible refine cd_any' (fun hc => ?_) (fun hc => ?_) <;> first | (exact absurd hc (by decide)) | skip)
        | ((with_reducible apply anB); rfl)
        | (exact ⟨rfl, rfl⟩)
        | fail
  · rintro k hk ρ ⟨x, y, rfl⟩
    have hk' : k < ls.length := by simpa using hk
    have hm := h ls[k] (List.getElem_mem hk')
    have e : ((ls.map fI).map PV.d)[k] = .d (.fl (ls[k].map .int)) := by simp [fI]
    rw [e]
    refine ⟨_, rfl, ?_⟩
    repeat' first
        | with_reducible apply w_consS
        | with_reducible apply w_nilS
        | with_reducible apply w_asg
        | with_reducible apply w_iff
        | with_reducible apply w_six
        | with_reducible apply w_ret
        | with_reducible apply w_asgt
        | with_reducible apply w_ex
        | with_reducible apply w_retn
        | with_reducible apply w_brk
        | with_reducible apply w_cnt
        | with_reducible apply w_pas
        | with_reducible apply w_T
        | with_reducible apply w_pr
        | with_reducible apply w_cons
        | with_reducible apply w_nil
        | with_reducible apply w_c
        | (with_reducible refine w_v rfl ?_)
        | (with_reducible refine w_rd rfl rfl ?_)
        | (with_reducible refine w_mv rfl rfl ?_)
        | (with_reducible refine w_fz rfl ?_)
        | (with_reducible refine w_io rfl ?_)
        | with_reducible apply w_tup
        | with_reducible apply w_lst
        | with_reducible apply w_dic0
        | with_reducible apply w_frz
        | with_reducible apply w_cl
        | with_reducible apply w_clk
        | with_reducible apply w_nt
        | with_reducible apply w_or1
        | with_reducible apply w_an1
        | with_reducible apply w_or
        | with_reducible apply w_an
        | with_reducible apply w_ite
        | with_reducible apply w_ch
        | with_reducible apply w_itE
        | with_reducible apply w_itR
        | with_reducible apply w_itN
        | with_reducible apply w_csn
        | with_reducible apply w_csc
        | (with_reducible refine w_mu rfl ?_)
        | ((with_reducible apply w_aix); rfl)
        | ((with_reducible apply w_aug); rfl)
        | with_reducible apply w_nxS
        | with_reducible apply w_rtS
        | with_reducible apply w_bkS
        | with_reducible apply w_ctS
        | with_reducible apply r_rt
        | with_reducible apply r_nx
        | with_reducible apply t_nx
        | with_reducible apply t_rt
        | with_reducible apply t_ct
        | with_reducible apply t_bk
        | ((with_reducible apply ex1); exact a_min1F hm.1)
        | ((with_reducible apply ex1); exact a_index (mn_mem hm.1))
        | ((with_reducible apply ex1); exact a_slF)
        | ((with_reducible apply ex1); exact a_slT)
        | ((with_reducible apply ex1); exact a_addT (by simp; omega))
        | ((with_reducible apply ex_m); exact m_append (by simp; omega))
        | with_reducible rfl
        | (with_reducible refine ⟨_, a_eqI, ?_⟩)
        | (with_reducible refine ⟨_, a_neI, ?_⟩)
        | with_reducible apply cd_t
        | with_reducible apply cd_f
        | with_reducible apply cd_t'
        | with_reducible apply cd_f'
        | with_reducible apply cd_not
        | with_reducible apply cd_not'
        | (with_reducible refine cd_eq (fun hc => ?_) (fun hc => ?_) <;> first | (exfalso; omega) | skip)
        | (with_reducible refine cd_dec (fun hc => ?_) (fun hc => ?_) <;> first | (exfalso; omega) | skip)
        | (with_reducible refine cd_eq' (fun hc => ?_) (fun hc => ?_) <;> first | (exfalso; omega) | skip)
        | (with_reducible refine cd_dec' (fun hc => ?_) (fun hc => ?_) <;> first | (exfalso; omega) | skip)
        | (with_reducible refine c_min2 (fun x hx => ?_))
        | (with_reducible refine c_max2 (fun x hx => ?_))
        | ((with_reducible apply ex1); rfl)
        | ((with_reducible apply exB); rfl)
        | ((with_reducible apply ex2); rfl)
        | (with_reducible refine ex_rng1 (by omega) ?_)
        | (with_reducible refine ex_rng2 (by omega) ?_)
        | (with_reducible refine cd_any (fun hc => ?_) (fun hc => ?_) <;> first | (exact absurd hc (by decide)) | skip)
        | (with_reducible refine cd_any' (fun hc => ?_) (fun hc => ?_) <;> first | (exact absurd hc (by decide)) | skip)
        | ((with_reducible apply anB); rfl)
        | (exact ⟨rfl, rfl⟩)
        | fail
    refine ⟨.d (.fl (ls[k].map .int)), .d (.int (ls[k].idxOf (mn ls[k]))), ?_⟩
    have ht : (((ls.take (k + 1)).map rot).map tupI) = ((ls.take k).map rot).map tupI ++ [tupI (rot ls[k])] := by
      rw [List.take_add_one, List.getElem?_eq_getElem hk', List.map_append, List.map_append]
      rfl
    have hr : tupI (rot ls[k]) = D.tup ((ls[k].map .int).drop (ls[k].idxOf (mn ls[k])) ++ (ls[k].map .int).take (ls[k].idxOf (mn ls[k]))) := by
      simp [tupI, rot]
    rw [ht, hr]
    rfl
end Rt.Pl

set_option Elab.async false
set_option linter.all false
set_option maxRecDepth 100000
set_option maxHeartbeats 2000000
/-! Rt30: sides numbered one after another. -/
namespace Rt.Pl
open Rt
abbrev Nm := D → Option Int
def nGot (N : Nm) : D → Option Int
  | .non => none
  | o => N o
def nUp (N : Nm) (k : D) (v : Int) : Nm := fun y => if D.beq y k then some v else N y
def nSide (s : Nm × Int × List Int) (p : D × D) : Nm × Int × List Int := match nGot s.1 p.2 with
  | some v => (nUp s.1 p.1 (PySem.Builtin.bitXor v 1), s.2.1, s.2.2 ++ [PySem.Builtin.bitXor v 1])
  | none => (nUp s.1 p.1 s.2.1, s.2.1 + 2, s.2.2 ++ [s.2.1])
def nRow (s : Nm × Int × List (List Int)) (row : List (D × D)) : Nm × Int × List (List Int) :=
  let r := row.foldl nSide (s.1, s.2.1, [])
  (r.1, r.2.1, s.2.2 ++ [r.2.2])
def nFaces (rows : List (List (D × D))) : Nm × Int × List (List Int) := rows.foldl nRow (fun _ => none, 0, [])
def pr2 (p : D × D) : D := .tup [p.1, p.2]
def rowD (r : List (D × D)) : D := .fl (r.map pr2)
def numberedFn : Fn := ⟨8, [false], [
    .asg 1 (.dic true []),
    .asg 2 (.c (.int 0)),
    .asg 3 (.lst []),
    .for (.nf 4) (.e (.v 0)) [.asg 5 (.lst []), .for (.tp [(.nf 6), (.nf 7)]) (.e (.v 4)) [.iff (.an [(.pr .notN [(.v 7), (.c .non)]), (.pr .in_ [(.v 7), (.rd 1)])]) [.six 1 (.v 6) (.pr .xor [(.pr .ix [(.rd 1), (.v 7)]), (.c (.int 1))])] [.six 1 (.v 6) (.v 2), .aug 2 .add (.c (.int 2))], .ex (.mu .append 5 [(.pr .ix [(.rd 1), (.v 6)])])], .ex (.mu .append 3 [(.fz 5)])],
    .ret (.mv 3)]⟩
/-- a dict tells a table -/
def Tells (kvs : List (D × D)) (N : Nm) : Prop := ∀ y, kget kvs y = (N y).map .int
theorem Tells.nil : Tells [] (fun _ => none) := fun _ => rfl
theorem Tells.put {kvs : List (D × D)} {N : Nm} (h : Tells kvs N) {k : D} {v : Int} : Tells (kput kvs k (.int v)) (nUp N k v) := fun y => by
  rw [kget_kput, h y]
  unfold nUp
  split <;> rfl
theorem a_ixK {kvs : List (D × D)} {N : Nm} {t : Bool} {k : D} {v : Int} (h : Tells kvs N) (hk : keyB t k = true) (e : N k = some v) : app .ix [.od t kvs, .d k] = some (.d (.int v)) := by
  simp only [app, pIx, asK]
  rw [if_pos hk, h k, e]
  rfl
theorem a_inK {kvs : List (D × D)} {N : Nm} {t : Bool} {k : D} (h : Tells kvs N) (hk : keyB t k = true) : app .in_ [.d k, .od t kvs] = some (.d (.bl (N k).isSome)) := by
  have : app .in_ [.d k, .od t kvs] = if keyB t k then some (PV.d (.bl (if false then !(kget kvs k).isSome else (kget kvs k).isSome))) else none := by
    cases k <;> rfl
  rw [this, if_pos hk, h k]
  simp
theorem s_put {t : Bool} {kvs : List (D × D)} {k x : D} (hk : keyB t k = true) (hl : kvs.length < 16777216) : setIx (.od t kvs) (.d k) (.d x) = some (.od t (kput kvs k x)) := by
  simp only [setIx]
  rw [if_pos]
  rw [hk]
  simp [szB]
  omega
theorem numbered_ok {P : Tab} {W j f : Nat} (hP : P f = some numberedFn) {rows : List (List (D × D))} (h : ∀ r ∈ rows, ∀ p ∈ r, keyT p.1 = true ∧ (p.2 = .non ∨ keyT p.2 = true)) (c : Nat) (hc : ∀ r ∈ rows, r.length ≤ c) (hl : rows.length * c < 16777216) (hl2 : rows.length < 16777216) :
    call P W (j + 1) f [.d (.fl (rows.map rowD))] = some (.ol ((nFaces rows).2.2.map fI), [.un]) := by
  suffices H : ∃ r ws, call P W (j + 1) f [.d (.fl (rows.map rowD))] = some (r, ws) ∧ (r = .ol ((nFaces rows).2.2.map fI) ∧ ws = [.un]) by
    obtain ⟨r, ws, e, rfl, rfl⟩ := H
    exact e
  refine call_ok hP rfl rfl ?_
  unfold numberedFn
  dsimp only
  have hlen : ∀ rs : List (List (D × D)), (nFaces rs).2.2.length = rs.length := by
    suffices H : ∀ (rs : List (List (D × D))) s, (rs.foldl nRow s).2.2.length = s.2.2.length + rs.length by
      intro rs
      rw [nFaces, H]
      simp
    intro rs
    induction rs with
    | nil => intro s; simp
    | cons r rs ih => intro s; rw [List.foldl_cons, ih]; simp [nRow]; omega
  repeat' first
      | with_reducible apply w_consS
      | with_reducible apply w_nilS
      | with_reducible apply w_asg
      | with_reducible apply w_iff
      | with_reducible apply w_six
      | with_reducible apply w_ret
      | with_reducible apply w_asgt
      | with_reducible apply w_ex
      | with_reducible apply w_retn
      | with_reducible apply w_brk
      | with_reducible apply w_cnt
      | with_reducible apply w_pas
      | with_reducible apply w_T
      | with_reducible apply w_pr
      | with_reducible apply w_cons
      | with_reducible apply w_nil
      | with_reducible apply w_c
      | (with_reducible refine w_v rfl ?_)
      | (with_reducible refine w_rd rfl rfl ?_)
      | (with_reducible refine w_mv rfl rfl ?_)
      | (with_reducible refine w_fz rfl ?_)
      | (with_reducible refine w_io rfl ?_)
      | with_reducible apply w_tup
      | with_reducible apply w_lst
      | with_reducible apply w_dic0
      | with_reducible apply w_frz
      | with_reducible apply w_cl
      | with_reducible apply w_clk
      | with_reducible apply w_nt
      | with_reducible apply w_or1
      | with_reducible apply w_an1
      | with_reducible apply w_or
      | with_reducible apply w_an
      | with_reducible apply w_ite
      | with_reducible apply w_ch
      | with_reducible apply w_itE
      | with_reducible apply w_itR
      | with_reducible apply w_itN
      | with_reducible apply w_csn
      | with_reducible apply w_csc
      | (with_reducible refine w_mu rfl ?_)
      | ((with_reducible apply w_aix); rfl)
      | ((with_reducible apply w_aug); rfl)
      | with_reducible apply w_nxS
      | with_reducible apply w_rtS
      | with_reducible apply w_bkS
      | with_reducible apply w_ctS
      | with_reducible apply r_rt
      | with_reducible apply r_nx
      | with_reducible apply t_nx
      | with_reducible apply t_rt
      | with_reducible apply t_ct
      | with_reducible apply t_bk
      | (with_reducible refine w_eachN (fun k ρ => ∃ kvs x y z u, ρ = [.d (.fl (rows.map rowD)), .od true kvs, .d (.int (nFaces (rows.take k)).2.1), .ol ((nFaces (rows.take k)).2.2.map fI), x, y, z, u] ∧ Tells kvs (nFaces (rows.take k)).1 ∧ kvs.length ≤ k * c) ?_)
      | with_reducible rfl
      | (with_reducible refine ⟨_, a_eqI, ?_⟩)
      | (with_reducible refine ⟨_, a_neI, ?_⟩)
      | with_reducible apply cd_t
      | with_reducible apply cd_f
      | with_reducible apply cd_t'
      | with_reducible apply cd_f'
      | with_reducible apply cd_not
      | with_reducible apply cd_not'
      | (with_reducible refine cd_eq (fun hc => ?_) (fun hc => ?_) <;> first | (exfalso; omega) | skip)
      | (with_reducible refine cd_dec (fun hc => ?_) (fun hc => ?_) <;> first | (exfalso; omega) | skip)
      | (with_reducible refine cd_eq' (fun hc => ?_) (fun hc => ?_) <;> first | (exfalso; omega) | skip)
      | (with_reducible refine cd_dec' (fun hc => ?_) (fun hc => ?_) <;> first | (exfalso; omega) | skip)
      | (with_reducible refine c_min2 (fun x hx => ?_))
      | (with_reducible refine c_max2 (fun x hx => ?_))
      | ((with_reducible apply ex1); rfl)
      | ((with_reducible apply exB); rfl)
      | ((with_reducible apply ex2); rfl)
      | (with_reducible refine ex_rng1 (by omega) ?_)
      | (with_reducible refine ex_rng2 (by omega) ?_)
      | (with_reducible refine cd_any (fun hc => ?_) (fun hc => ?_) <;> first | (exact absurd hc (by decide)) | skip)
      | (with_reducible refine cd_any' (fun hc => ?_) (fun hc => ?_) <;> first | (exact absurd hc (by decide)) | skip)
      | ((with_reducible apply anB); rfl)
      | (exact ⟨rfl, rfl⟩)
      | fail
  refine ⟨⟨[], _, _, _, _, rfl, Tells.nil, Nat.zero_le _⟩, ?_, ?_⟩
  · rintro ρ ⟨kvs, x, y, z, u, rfl, h1, h2⟩
    have e : (List.take ((rows.map rowD).map PV.d).length rows) = rows := List.take_of_length_le (by simp)
    rw [e]
    repeat' first
        | with_reducible apply w_consS
        | with_reducible apply w_nilS
        | with_reducible apply w_asg
        | with_reducible apply w_iff
        | with_reducible apply w_six
        | with_reducible apply w_ret
        | with_reducible apply w_asgt
        | with_reducible apply w_ex
        | with_reducible apply w_retn
        | with_reducible apply w_brk
        | with_reducible apply w_cnt
        | with_reducible apply w_pas
        | with_reducible apply w_T
        | with_reducible apply w_pr
        | with_reducible apply w_cons
        | with_reducible apply w_nil
        | with_reducible apply w_c
        | (with_reducible refine w_v rfl ?_)
        | (with_reducible refine w_rd rfl rfl ?_)
        | (with_reducible refine w_mv rfl rfl ?_)
        | (with_reducible refine w_fz rfl ?_)
        | (with_reducible refine w_io rfl ?_)
        | with_reducible apply w_tup
        | with_reducible apply w_lst
        | with_reducible apply w_dic0
        | with_reducible apply w_frz
        | with_reducible apply w_cl
        | with_reducible apply w_clk
        | with_reducible apply w_nt
        | with_reducible apply w_or1
        | with_reducible apply w_an1
        | with_reducible apply w_or
        | with_reducible apply w_an
        | with_reducible apply w_ite
        | with_reducible apply w_ch
        | with_reducible apply w_itE
        | with_reducible apply w_itR
        | with_reducible apply w_itN
        | with_reducible apply w_csn
        | with_reducible apply w_csc
        | (with_reducible refine w_mu rfl ?_)
        | ((with_reducible apply w_aix); rfl)
        | ((with_reducible apply w_aug); rfl)
        | with_reducible apply w_nxS
        | with_reducible apply w_rtS
        | with_reducible apply w_bkS
        | with_reducible apply w_ctS
        | with_reducible apply r_rt
        | with_reducible apply r_nx
        | with_reducible apply t_nx
        | with_reducible apply t_rt
        | with_reducible apply t_ct
        | with_reducible apply t_bk
        | with_reducible rfl
        | (with_reducible refine ⟨_, a_eqI, ?_⟩)
        | (with_reducible refine ⟨_, a_neI, ?_⟩)
        | with_reducible apply cd_t
        | with_reducible apply cd_f
        | with_reducible apply cd_t'
        | with_reducible apply cd_f'
        | with_reducible apply cd_not
        | with_reducible apply cd_not'
        | (with_reducible refine cd_eq (fun hc => ?_) (fun hc => ?_) <;> first | (exfalso; omega) | skip)
        | (with_reducible refine cd_dec (fun hc => ?_) (fun hc => ?_) <;> first | (exfalso; omega) | skip)
        | (with_reducible refine cd_eq' (fun hc => ?_) (fun hc => ?_) <;> first | (exfalso; omega) | skip)
        | (with_reducible refine cd_dec' (fun hc => ?_) (fun hc => ?_) <;> first | (exfalso; omega) | skip)
        | (with_reducible refine c_min2 (fun x hx => ?_))
        | (with_reducible refine c_max2 (fun x hx => ?_))
        | ((with_reducible apply ex1); rfl)
        | ((with_reducible apply exB); rfl)
        | ((with_reducible apply ex2); rfl)
        | (with_reducible refine ex_rng1 (by omega) ?_)
        | (with_reducible refine ex_rng2 (by omega) ?_)
        | (with_reducible refine cd_any (fun hc => ?_) (fun hc => ?_) <;> first | (exact absurd hc (by decide)) | skip)
        | (with_reducible refine cd_any' (fun hc => ?_) (fun hc => ?_) <;> first | (exact absurd hc (by decide)) | skip)
        | ((with_reducible apply anB); rfl)
        | (exact ⟨rfl, rfl⟩)
        | fail
  · rintro k hk ρ ⟨kvs, x, y, z, u, rfl, h1, h2⟩
    have hk' : k < rows.length := by simpa using hk
    have hm := h rows[k] (List.getElem_mem hk')
    have hmc := hc rows[k] (List.getElem_mem hk')
    have hkc : (k + 1) * c ≤ rows.length * c := Nat.mul_le_mul_right c hk'
    rw [Nat.add_mul, Nat.one_mul] at hkc
    have e : ((rows.map rowD).map PV.d)[k] = .d (rowD rows[k]) := by simp
    have et : nFaces (rows.take (k + 1)) = nRow (nFaces (rows.take k)) rows[k] := by
      rw [List.take_add_one, List.getElem?_eq_getElem hk', nFaces, List.foldl_append]
      rfl
    rw [e]
    generalize hs : nFaces (rows.take k) = s at h1 et
    have hsl : s.2.2.length = k := by rw [← hs, hlen, List.length_take]; omega
    obtain ⟨N, fr, fs⟩ := s
    generalize hr : rows[k] = row at hm hmc et
    refine ⟨_, rfl, ?_⟩
    dsimp only
    repeat' first
        | with_reducible apply w_consS
        | with_reducible apply w_nilS
        | with_reducible apply w_asg
        | with_reducible apply w_iff
        | with_reducible apply w_six
        | with_reducible apply w_ret
        | with_reducible apply w_asgt
        | with_reducible apply w_ex
        | with_reducible apply w_retn
        | with_reducible apply w_brk
        | with_reducible apply w_cnt
        | with_reducible apply w_pas
        | with_reducible apply w_T
        | with_reducible apply w_pr
        | with_reducible apply w_cons
        | with_reducible apply w_nil
        | with_reducible apply w_c
        | (with_reducible refine w_v rfl ?_)
        | (with_reducible refine w_rd rfl rfl ?_)
        | (with_reducible refine w_mv rfl rfl ?_)
        | (with_reducible refine w_fz rfl ?_)
        | (with_reducible refine w_io rfl ?_)
        | with_reducible apply w_tup
        | with_reducible apply w_lst
        | with_reducible apply w_dic0
        | with_reducible apply w_frz
        | with_reducible apply w_cl
        | with_reducible apply w_clk
        | with_reducible apply w_nt
        | with_reducible apply w_or1
        | with_reducible apply w_an1
        | with_reducible apply w_or
        | with_reducible apply w_an
        | with_reducible apply w_ite
        | with_reducible apply w_ch
        | with_reducible apply w_itE
        | with_reducible apply w_itR
        | with_reducible apply w_itN
        | with_reducible apply w_csn
        | with_reducible apply w_csc
        | (with_reducible refine w_mu rfl ?_)
        | ((with_reducible apply w_aix); rfl)
        | ((with_reducible apply w_aug); rfl)
        | with_reducible apply w_nxS
        | with_reducible apply w_rtS
        | with_reducible apply w_bkS
        | with_reducible apply w_ctS
        | with_reducible apply r_rt
        | with_reducible apply r_nx
        | with_reducible apply t_nx
        | with_reducible apply t_rt
        | with_reducible apply t_ct
        | with_reducible apply t_bk
        | (with_reducible refine w_eachN (fun i ρ => ∃ kvs z u, ρ = [.d (.fl (rows.map rowD)), .od true kvs, .d (.int ((row.take i).foldl nSide (N, fr, [])).2.1), .ol (fs.map fI), .d (rowD row), .ol (((row.take i).foldl nSide (N, fr, [])).2.2.map .int), z, u] ∧ Tells kvs ((row.take i).foldl nSide (N, fr, [])).1 ∧ kvs.length ≤ k * c + i ∧ ((row.take i).foldl nSide (N, fr, [])).2.2.length ≤ i) ?_)
        | with_reducible rfl
        | (with_reducible refine ⟨_, a_eqI, ?_⟩)
        | (with_reducible refine ⟨_, a_neI, ?_⟩)
        | with_reducible apply cd_t
        | with_reducible apply cd_f
        | with_reducible apply cd_t'
        | with_reducible apply cd_f'
        | with_reducible apply cd_not
        | with_reducible apply cd_not'
        | (with_reducible refine cd_eq (fun hc => ?_) (fun hc => ?_) <;> first | (exfalso; omega) | skip)
        | (with_reducible refine cd_dec (fun hc => ?_) (fun hc => ?_) <;> first | (exfalso; omega) | skip)
        | (with_reducible refine cd_eq' (fun hc => ?_) (fun hc => ?_) <;> first | (exfalso; omega) | skip)
        | (with_reducible refine cd_dec' (fun hc => ?_) (fun hc => ?_) <;> first | (exfalso; omega) | skip)
        | (with_reducible refine c_min2 (fun x hx => ?_))
        | (with_reducible refine c_max2 (fun x hx => ?_))
        | ((with_reducible apply ex1); rfl)
        | ((with_reducible apply exB); rfl)
        | ((with_reducible apply ex2); rfl)
        | (with_reducible refine ex_rng1 (by omega) ?_)
        | (with_reducible refine ex_rng2 (by omega) ?_)
        | (with_reducible refine cd_any (fun hc => ?_) (fun hc => ?_) <;> first | (exact absurd hc (by decide)) | skip)
        | (with_reducible refine cd_any' (fun hc => ?_) (fun hc => ?_) <;> first | (exact absurd hc (by decide)) | skip)
        | ((with_reducible apply anB); rfl)
        | (exact ⟨rfl, rfl⟩)
        | fail
    refine ⟨⟨kvs, _, _, rfl, h1, h2, Nat.zero_le _⟩, ?_, ?_⟩
    · rintro ρ ⟨kvs, z, u, rfl, h1, h2, h3⟩
      have e : (List.take ((row.map pr2).map PV.d).length row) = row := List.take_of_length_le (by simp)
      have e2 : ((row.map pr2).map PV.d).length = row.length := by simp
      rw [e2] at h2
      rw [e] at h1 h3 ⊢
      have hfl : (fs.map fI).length < 16777216 := by rw [List.length_map]; simp only at hsl; omega
      repeat' first
          | with_reducible apply w_consS
          | with_reducible apply w_nilS
          | with_reducible apply w_asg
          | with_reducible apply w_iff
          | with_reducible apply w_six
          | with_reducible apply w_ret
          | with_reducible apply w_asgt
          | with_reducible apply w_ex
          | with_reducible apply w_retn
          | with_reducible apply w_brk
          | with_reducible apply w_cnt
          | with_reducible apply w_pas
          | with_reducible apply w_T
          | with_reducible apply w_pr
          | with_reducible apply w_cons
          | with_reducible apply w_nil
          | with_reducible apply w_c
          | (with_reducible refine w_v rfl ?_)
          | (with_reducible refine w_rd rfl rfl ?_)
          | (with_reducible refine w_mv rfl rfl ?_)
          | (with_reducible refine w_fz rfl ?_)
          | (with_reducible refine w_io rfl ?_)
          | with_reducible apply w_tup
          | with_reducible apply w_lst
          | with_reducible apply w_dic0
          | with_reducible apply w_frz
          | with_reducible apply w_cl
          | with_reducible apply w_clk
          | with_reducible apply w_nt
          | with_reducible apply w_or1
          | with_reducible apply w_an1
          | with_reducible apply w_or
          | with_reducible apply w_an
          | with_reducible apply w_ite
          | with_reducible apply w_ch
          | with_reducible apply w_itE
          | with_reducible apply w_itR
          | with_reducible apply w_itN
          | with_reducible apply w_csn
          | with_reducible apply w_csc
          | (with_reducible refine w_mu rfl ?_)
          | ((with_reducible apply w_aix); rfl)
          | ((with_reducible apply w_aug); rfl)
          | with_reducible apply w_nxS
          | with_reducible apply w_rtS
          | with_reducible apply w_bkS
          | with_reducible apply w_ctS
          | with_reducible apply r_rt
          | with_reducible apply r_nx
          | with_reducible apply t_nx
          | with_reducible apply t_rt
          | with_reducible apply t_ct
          | with_reducible apply t_bk
          | ((with_reducible apply ex_m); exact m_append hfl)
          | with_reducible rfl
          | (with_reducible refine ⟨_, a_eqI, ?_⟩)
          | (with_reducible refine ⟨_, a_neI, ?_⟩)
          | with_reducible apply cd_t
          | with_reducible apply cd_f
          | with_reducible apply cd_t'
          | with_reducible apply cd_f'
          | with_reducible apply cd_not
          | with_reducible apply cd_not'
          | (with_reducible refine cd_eq (fun hc => ?_) (fun hc => ?_) <;> first | (exfalso; omega) | skip)
          | (with_reducible refine cd_dec (fun hc => ?_) (fun hc => ?_) <;> first | (exfalso; omega) | skip)
          | (with_reducible refine cd_eq' (fun hc => ?_) (fun hc => ?_) <;> first | (exfalso; omega) | skip)
          | (with_reducible refine cd_dec' (fun hc => ?_) (fun hc => ?_) <;> first | (exfalso; omega) | skip)
          | (with_reducible refine c_min2 (fun x hx => ?_))
          | (with_reducible refine c_max2 (fun x hx => ?_))
          | ((with_reducible apply ex1); rfl)
          | ((with_reducible apply exB); rfl)
          | ((with_reducible apply ex2); rfl)
          | (with_reducible refine ex_rng1 (by omega) ?_)
          | (with_reducible refine ex_rng2 (by omega) ?_)
          | (with_reducible refine cd_any (fun hc => ?_) (fun hc => ?_) <;> first | (exact absurd hc (by decide)) | skip)
          | (with_reducible refine cd_any' (fun hc => ?_) (fun hc => ?_) <;> first | (exact absurd hc (by decide)) | skip)
          | ((with_reducible apply anB); rfl)
          | (exact ⟨rfl, rfl⟩)
          | fail
      rw [et]
      simp only [nRow]
      refine ⟨kvs, .d (rowD row), .d (fI (row.foldl nSide (N, fr, [])).2.2), z, u, ?_, h1, ?_⟩
      · rw [List.map_append]
        rfl
      · rw [Nat.add_mul, Nat.one_mul]; omega
    · rintro i hi ρ ⟨kvs, z, u, rfl, h1, h2, h3⟩
      have hi' : i < row.length := by simpa using hi
      have hm := hm row[i] (List.getElem_mem hi')
      have e : ((row.map pr2).map PV.d)[i] = .d (.tup [row[i].1, row[i].2]) := by simp [pr2]
      have et : (row.take (i + 1)).foldl nSide (N, fr, []) = nSide ((row.take i).foldl nSide (N, fr, [])) row[i] := by
        rw [List.take_add_one, List.getElem?_eq_getElem hi', List.foldl_append]
        rfl
      rw [e]
      rw [et]
      generalize hs : (row.take i).foldl nSide (N, fr, []) = s at h1 et
      obtain ⟨N', fr', f'⟩ := s
      rw [hs] at h3
      generalize hri : row[i] = p at hm et
      obtain ⟨key, oth⟩ := p
      refine ⟨_, rfl, ?_⟩
      dsimp only at hm h1 h3 ⊢
      have hkl : kvs.length < 16777216 := by omega
      have hfl : (f'.map D.int).length < 16777216 := by rw [List.length_map]; omega
      have nself : ∀ v, nUp N' key v key = some v := fun v => by unfold nUp; rw [D.beq_self]; rfl
      have fin : ∀ v w z u, (nSide (N', fr', f') (key, oth) = (nUp N' key v, w, f' ++ [v])) → (fun (ρ : Env) => ∃ kvs z u, ρ = [.d (.fl (rows.map rowD)), .od true kvs, .d (.int (nSide (N', fr', f') (key, oth)).2.1), .ol (fs.map fI), .d (rowD row), .ol ((nSide (N', fr', f') (key, oth)).2.2.map .int), z, u] ∧ Tells kvs (nSide (N', fr', f') (key, oth)).1 ∧ kvs.length ≤ k * c + (i + 1) ∧ (nSide (N', fr', f') (key, oth)).2.2.length ≤ i + 1) [.d (.fl (rows.map rowD)), .od true (kput kvs key (.int v)), .d (.int w), .ol (fs.map fI), .d (rowD row), .ol (f'.map .int ++ [.int v]), z, u] := by
        intro v w z u e
        rw [e]
        refine ⟨kput kvs key (.int v), z, u, ?_, h1.put, ?_, ?_⟩
        · rw [List.map_append]; rfl
        · have := kput_len (x := key) (v := D.int v) (l := kvs)
          omega
        · simp at h3 ⊢; omega
      rcases hm.2 with ho | ho
      · subst ho
        repeat' first
            | with_reducible apply w_consS
            | with_reducible apply w_nilS
            | with_reducible apply w_asg
            | with_reducible apply w_iff
            | with_reducible apply w_six
            | with_reducible apply w_ret
            | with_reducible apply w_asgt
            | with_reducible apply w_ex
            | with_reducible apply w_retn
            | with_reducible apply w_brk
            | with_reducible apply w_cnt
            | with_reducible apply w_pas
            | with_reducible apply w_T
            | with_reducible apply w_pr
            | with_reducible apply w_cons
            | with_reducible apply w_nil
            | with_reducible apply w_c
            | (with_reducible refine w_v rfl ?_)
            | (with_reducible refine w_rd rfl rfl ?_)
            | (with_reducible refine w_mv rfl rfl ?_)
            | (with_reducible refine w_fz rfl ?_)
            | (with_reducible refine w_io rfl ?_)
            | with_reducible apply w_tup
            | with_reducible apply w_lst
            | with_reducible apply w_dic0
            | with_reducible apply w_frz
            | with_reducible apply w_cl
            | with_reducible apply w_clk
            | with_reducible apply w_nt
            | with_reducible apply w_or1
            | with_reducible apply w_an1
            | with_reducible apply w_or
            | with_reducible apply w_an
            | with_reducible apply w_ite
            | with_reducible apply w_ch
            | with_reducible apply w_itE
            | with_reducible apply w_itR
            | with_reducible apply w_itN
            | with_reducible apply w_csn
            | with_reducible apply w_csc
            | (with_reducible refine w_mu rfl ?_)
            | ((with_reducible apply w_aix); rfl)
            | ((with_reducible apply w_aug); rfl)
            | with_reducible apply w_nxS
            | with_reducible apply w_rtS
            | with_reducible apply w_bkS
            | with_reducible apply w_ctS
            | with_reducible apply r_rt
            | with_reducible apply r_nx
            | with_reducible apply t_nx
            | with_reducible apply t_rt
            | with_reducible apply t_ct
            | with_reducible apply t_bk
            | ((with_reducible apply ex1); exact s_put hm.1 hkl)
            | ((with_reducible apply ex1); exact a_ixK h1.put hm.1 (nself _))
            | ((with_reducible apply ex_m); exact m_append hfl)
            | with_reducible rfl
            | (with_reducible refine ⟨_, a_eqI, ?_⟩)
            | (with_reducible refine ⟨_, a_neI, ?_⟩)
            | with_reducible apply cd_t
            | with_reducible apply cd_f
            | with_reducible apply cd_t'
            | with_reducible apply cd_f'
            | with_reducible apply cd_not
            | with_reducible apply cd_not'
            | (with_reducible refine cd_eq (fun hc => ?_) (fun hc => ?_) <;> first | (exfalso; omega) | skip)
            | (with_reducible refine cd_dec (fun hc => ?_) (fun hc => ?_) <;> first | (exfalso; omega) | skip)
            | (with_reducible refine cd_eq' (fun hc => ?_) (fun hc => ?_) <;> first | (exfalso; omega) | skip)
            | (with_reducible refine cd_dec' (fun hc => ?_) (fun hc => ?_) <;> first | (exfalso; omega) | skip)
            | (with_reducible refine c_min2 (fun x hx => ?_))
            | (with_reducible refine c_max2 (fun x hx => ?_))
            | ((with_reducible apply ex1); rfl)
            | ((with_reducible apply exB); rfl)
            | ((with_reducible apply ex2); rfl)
            | (with_reducible refine ex_rng1 (by omega) ?_)
            | (with_reducible refine ex_rng2 (by omega) ?_)
            | (with_reducible refine cd_any (fun hc => ?_) (fun hc => ?_) <;> first | (exact absurd hc (by decide)) | skip)
            | (with_reducible refine cd_any' (fun hc => ?_) (fun hc => ?_) <;> first | (exact absurd hc (by decide)) | skip)
            | ((with_reducible apply anB); rfl)
            | (exact ⟨rfl, rfl⟩)
            | fail
        exact fin fr' (fr' + 2) _ _ rfl
      · have hn : app .notN [.d oth, .d .non] = some (.d (.bl true)) := by
          cases oth <;> first | rfl | simp [keyT] at ho
        have hg : nGot N' oth = N' oth := by
          cases oth <;> first | rfl | simp [keyT] at ho
        cases hq : N' oth with
        | none =>
          repeat' first
              | with_reducible apply w_consS
              | with_reducible apply w_nilS
              | with_reducible apply w_asg
              | with_reducible apply w_iff
              | with_reducible apply w_six
              | with_reducible apply w_ret
              | with_reducible apply w_asgt
              | with_reducible apply w_ex
              | with_reducible apply w_retn
              | with_reducible apply w_brk
              | with_reducible apply w_cnt
              | with_reducible apply w_pas
              | with_reducible apply w_T
              | with_reducible apply w_pr
              | with_reducible apply w_cons
              | with_reducible apply w_nil
              | with_reducible apply w_c
              | (with_reducible refine w_v rfl ?_)
              | (with_reducible refine w_rd rfl rfl ?_)
              | (with_reducible refine w_mv rfl rfl ?_)
              | (with_reducible refine w_fz rfl ?_)
              | (with_reducible refine w_io rfl ?_)
              | with_reducible apply w_tup
              | with_reducible apply w_lst
              | with_reducible apply w_dic0
              | with_reducible apply w_frz
              | with_reducible apply w_cl
              | with_reducible apply w_clk
              | with_reducible apply w_nt
              | with_reducible apply w_or1
              | with_reducible apply w_an1
              | with_reducible apply w_or
              | with_reducible apply w_an
              | with_reducible apply w_ite
              | with_reducible apply w_ch
              | with_reducible apply w_itE
              | with_reducible apply w_itR
              | with_reducible apply w_itN
              | with_reducible apply w_csn
              | with_reducible apply w_csc
              | (with_reducible refine w_mu rfl ?_)
              | ((with_reducible apply w_aix); rfl)
              | ((with_reducible apply w_aug); rfl)
              | with_reducible apply w_nxS
              | with_reducible apply w_rtS
              | with_reducible apply w_bkS
              | with_reducible apply w_ctS
              | with_reducible apply r_rt
              | with_reducible apply r_nx
              | with_reducible apply t_nx
              | with_reducible apply t_rt
              | with_reducible apply t_ct
              | with_reducible apply t_bk
              | ((with_reducible apply ex1); exact hn)
              | ((with_reducible apply ex1); exact a_inK h1 ho)
              | ((with_reducible apply ex1); exact s_put hm.1 hkl)
              | ((with_reducible apply ex1); exact a_ixK h1.put hm.1 (nself _))
              | ((with_reducible apply ex_m); exact m_append hfl)
              | (exact absurd hc (by rw [hq]; decide))
              | with_reducible rfl
              | (with_reducible refine ⟨_, a_eqI, ?_⟩)
              | (with_reducible refine ⟨_, a_neI, ?_⟩)
              | with_reducible apply cd_t
              | with_reducible apply cd_f
              | with_reducible apply cd_t'
              | with_reducible apply cd_f'
              | with_reducible apply cd_not
              | with_reducible apply cd_not'
              | (with_reducible refine cd_eq (fun hc => ?_) (fun hc => ?_) <;> first | (exfalso; omega) | skip)
              | (with_reducible refine cd_dec (fun hc => ?_) (fun hc => ?_) <;> first | (exfalso; omega) | skip)
              | (with_reducible refine cd_eq' (fun hc => ?_) (fun hc => ?_) <;> first | (exfalso; omega) | skip)
              | (with_reducible refine cd_dec' (fun hc => ?_) (fun hc => ?_) <;> first | (exfalso; omega) | skip)
              | (with_reducible refine c_min2 (fun x hx => ?_))
              | (with_reducible refine c_max2 (fun x hx => ?_))
              | ((with_reducible apply ex1); rfl)
              | ((with_reducible apply exB); rfl)
              | ((with_reducible apply ex2); rfl)
              | (with_reducible refine ex_rng1 (by omega) ?_)
              | (with_reducible refine ex_rng2 (by omega) ?_)
              | (with_reducible refine cd_any (fun hc => ?_) (fun hc => ?_) <;> first | (exact absurd hc (by decide)) | skip)
              | (with_reducible refine cd_any' (fun hc => ?_) (fun hc => ?_) <;> first | (exact absurd hc (by decide)) | skip)
              | ((with_reducible apply anB); rfl)
              | (exact ⟨rfl, rfl⟩)
              | fail
          exact fin fr' (fr' + 2) _ _ (by unfold nSide; rw [hg, hq])
        | some v =>
          repeat' first
              | with_reducible apply w_consS
              | with_reducible apply w_nilS
              | with_reducible apply w_asg
              | with_reducible apply w_iff
              | with_reducible apply w_six
              | with_reducible apply w_ret
              | with_reducible apply w_asgt
              | with_reducible apply w_ex
              | with_reducible apply w_retn
              | with_reducible apply w_brk
              | with_reducible apply w_cnt
              | with_reducible apply w_pas
              | with_reducible apply w_T
              | with_reducible apply w_pr
              | with_reducible apply w_cons
              | with_reducible apply w_nil
              | with_reducible apply w_c
              | (with_reducible refine w_v rfl ?_)
              | (with_reducible refine w_rd rfl rfl ?_)
              | (with_reducible refine w_mv rfl rfl ?_)
              | (with_reducible refine w_fz rfl ?_)
              | (with_reducible refine w_io rfl ?_)
              | with_reducible apply w_tup
              | with_reducible apply w_lst
              | with_reducible apply w_dic0
              | with_reducible apply w_frz
              | with_reducible apply w_cl
              | with_reducible apply w_clk
              | with_reducible apply w_nt
              | with_reducible apply w_or1
              | with_reducible apply w_an1
              | with_reducible apply w_or
              | with_reducible apply w_an
              | with_reducible apply w_ite
              | with_reducible apply w_ch
              | with_reducible apply w_itE
              | with_reducible apply w_itR
              | with_reducible apply w_itN
              | with_reducible apply w_csn
              | with_reducible apply w_csc
              | (with_reducible refine w_mu rfl ?_)
              | ((with_reducible apply w_aix); rfl)
              | ((with_reducible apply w_aug); rfl)
              | with_reducible apply w_nxS
              | with_reducible apply w_rtS
              | with_reducible apply w_bkS
              | with_reducible apply w_ctS
              | with_reducible apply r_rt
              | with_reducible apply r_nx
              | with_reducible apply t_nx
              | with_reducible apply t_rt
              | with_reducible apply t_ct
              | with_reducible apply t_bk
              | ((with_reducible apply ex1); exact hn)
              | ((with_reducible apply ex1); exact a_inK h1 ho)
              | ((with_reducible apply ex1); exact a_ixK h1 ho hq)
              | ((with_reducible apply ex1); exact s_put hm.1 hkl)
              | ((with_reducible apply ex1); exact a_ixK h1.put hm.1 (nself _))
              | ((with_reducible apply ex_m); exact m_append hfl)
              | with_reducible rfl
              | (with_reducible refine ⟨_, a_eqI, ?_⟩)
              | (with_reducible refine ⟨_, a_neI, ?_⟩)
              | with_reducible apply cd_t
              | with_reducible apply cd_f
              | with_reducible apply cd_t'
              | with_reducible apply cd_f'
              | with_reducible apply cd_not
              | with_reducible apply cd_not'
              | (with_reducible refine cd_eq (fun hc => ?_) (fun hc => ?_) <;> first | (exfalso; omega) | skip)
              | (with_reducible refine cd_dec (fun hc => ?_) (fun hc => ?_) <;> first | (exfalso; omega) | skip)
              | (with_reducible refine cd_eq' (fun hc => ?_) (fun hc => ?_) <;> first | (exfalso; omega) | skip)
              | (with_reducible refine cd_dec' (fun hc => ?_) (fun hc => ?_) <;> first | (exfalso; omega) | skip)
              | (with_reducible refine c_min2 (fun x hx => ?_))
              | (with_reducible refine c_max2 (fun x hx => ?_))
              | ((with_reducible apply ex1); rfl)
              | ((with_reducible apply exB); rfl)
              | ((with_reducible apply ex2); rfl)
              | (with_reducible refine ex_rng1 (by omega) ?_)
              | (with_reducible refine ex_rng2 (by omega) ?_)
              | (with_reducible refine cd_any (fun hc => ?_) (fun hc => ?_) <;> first | (exact absurd hc (by decide)) | skip)
              | (with_reducible refine cd_any' (fun hc => ?_) (fun hc => ?_) <;> first | (exact absurd hc (by decide)) | skip)
              | ((with_reducible apply anB); rfl)
              | (exact ⟨rfl, rfl⟩)
              | fail
          · exact fin _ fr' _ _ (by unfold nSide; rw [hg, hq])
          · exact absurd hc (by rw [hq]; simp)
end Rt.Pl

namespace Rt.k18
open Rt
/- in_order : 0=faces 1=told 2=face 3=at -/
def f_in_order : Fn := ⟨4, [false], [
    .asg 1 (.lst []),
    .for (.nf 2) (.e (.v 0)) [.asg 3 (.pr .index [(.pr .list1 [(.v 2)]), (.pr .min1 [(.v 2)])]), .ex (.mu .append 1 [(.pr .add [(.pr .tuple1 [(.pr (.sl true false) [(.v 2), (.v 3)])]), (.pr .tuple1 [(.pr (.sl false true) [(.v 2), (.v 3)])])])])],
    .ret (.pr .tuple1 [(.pr .sorted [(.rd 1)])])]⟩
/- numbered_faces : 0=rows 1=numbers 2=fresh 3=faces 4=row 5=face 6=key 7=other -/
def f_numbered_faces : Fn := ⟨8, [false], [
    .asg 1 (.dic true []),
    .asg 2 (.c (.int 0)),
    .asg 3 (.lst []),
    .for (.nf 4) (.e (.v 0)) [.asg 5 (.lst []), .for (.tp [(.nf 6), (.nf 7)]) (.e (.v 4)) [.iff (.an [(.pr .notN [(.v 7), (.c .non)]), (.pr .in_ [(.v 7), (.rd 1)])]) [.six 1 (.v 6) (.pr .xor [(.pr .ix [(.rd 1), (.v 7)]), (.c (.int 1))])] [.six 1 (.v 6) (.v 2), .aug 2 .add (.c (.int 2))], .ex (.mu .append 5 [(.pr .ix [(.rd 1), (.v 6)])])], .ex (.mu .append 3 [(.fz 5)])],
    .ret (.mv 3)]⟩
/- row_keys : 0=sizes 1=exits 2=is_ring 3=twins 4=cell 5=position 6=goal 7=rows 8=size -/
def f_row_keys : Fn := ⟨9, [false, false, false], [
    .asg 3 (.dic true []),
    .for (.tp [(.nf 4), (.nf 5)]) (.enu (.v 1)) [.asg 6 (.ite (.pr .lt [(.pr .add [(.v 4), (.c (.int 1))]), (.pr .len [(.v 0)])]) (.pr .add [(.v 4), (.c (.int 1))]) (.c (.int 0))), .iff (.or [(.v 2), (.pr .lt [(.pr .add [(.v 4), (.c (.int 1))]), (.pr .len [(.v 0)])])]) [.six 3 (.tup [(.v 4), (.v 5)]) (.tup [(.v 6), (.c (.int 0))]), .six 3 (.tup [(.v 6), (.c (.int 0))]) (.tup [(.v 4), (.v 5)])] []],
    .asg 7 (.lst []),
    .for (.tp [(.nf 4), (.nf 8)]) (.enu (.v 0)) [.ex (.mu .append 7 [(.frz (.lc (.nf 5) (.rng [(.v 8)]) [] (.tup [(.tup [(.v 4), (.v 5)]), (.pr .get1 [(.rd 3), (.tup [(.v 4), (.v 5)])])])))])],
    .ret (.mv 7)]⟩
/- row_board : 0=sizes 1=exits -/
def f_row_board : Fn := ⟨2, [false, false], [
    .ret (.cl 0 [(.frz (.cl 1 [(.frz (.cl 2 [(.v 0), (.v 1), (.c (.bl false))]))]))])]⟩
/- ring_board : 0=sizes 1=exits -/
def f_ring_board : Fn := ⟨2, [false, false], [
    .ret (.cl 0 [(.frz (.cl 1 [(.frz (.cl 2 [(.v 0), (.v 1), (.c (.bl true))]))]))])]⟩
/- _law_take : 0=urn 1=many 2=cells 3=cell 4=size 5=got -/
def f_law_take : Fn := ⟨6, [true, false], [
    .asg 2 (.pr .ix [(.rd 0), (.c (.int 0))]),
    .iff (.pr .lt [(.pr .ix [(.rd 0), (.c (.int 1))]), (.pr .len [(.v 2)])]) [.asg 3 (.pr .ix [(.v 2), (.pr .ix [(.rd 0), (.c (.int 1))])]), .iff (.pr .eq [(.pr .ix [(.rd 0), (.c (.int 2))]), (.c (.int 0))]) [.asg 4 (.pr .abs [(.v 3)]), .six 0 (.c (.int 3)) (.pr .mod [(.pr .int1 [(.pr .add [(.pr .add [(.pr .mul [(.pr .ix [(.rd 0), (.c (.int 3))]), (.c (.int 48271))]), (.pr .mul [(.pr .mod [(.v 4), (.c (.int 999773))]), (.c (.int 8737))])]), (.c (.int 20021))])]), (.c (.int 2147483549))]), .six 0 (.c (.int 2)) (.ite (.pr .ge [(.v 4), (.pr .pow [(.c (.int 10)), (.c (.int 18))])]) (.pr .fdiv [(.v 4), (.pr .pow [(.c (.int 10)), (.c (.int 18))])]) (.pr .neg [(.c (.int 1))]))] [], .iff (.pr .gt [(.pr .ix [(.rd 0), (.c (.int 2))]), (.c (.int 0))]) [.asg 5 (.pr .mod [(.pr .int1 [(.pr .ix [(.rd 0), (.c (.int 2))])]), (.v 1)]), .six 0 (.c (.int 2)) (.pr .fdiv [(.pr .ix [(.rd 0), (.c (.int 2))]), (.v 1)]), .iff (.pr .eq [(.pr .ix [(.rd 0), (.c (.int 2))]), (.c (.int 0))]) [.aix 0 .add (.c (.int 1)) (.c (.int 1))] [], .ret (.v 5)] [], .aix 0 .add (.c (.int 1)) (.c (.int 1)), .six 0 (.c (.int 2)) (.c (.int 0))] [],
    .six 0 (.c (.int 3)) (.pr .mod [(.pr .int1 [(.pr .add [(.pr .add [(.pr .mul [(.pr .ix [(.rd 0), (.c (.int 3))]), (.c (.int 48271))]), (.pr .mul [(.pr .ix [(.rd 0), (.c (.int 1))]), (.c (.int 20021))])]), (.c (.int 8737))])]), (.c (.int 2147483549))]),
    .ret (.pr .mod [(.pr .int1 [(.pr .fdiv [(.pr .ix [(.rd 0), (.c (.int 3))]), (.c (.int 1013))])]), (.v 1)])]⟩
/- _law_urn : 0=script 1=cell -/
def f_law_urn : Fn := ⟨2, [false], [
    .ret (.lst [(.frz (.lc (.nf 1) (.e (.pr (.sl false true) [(.v 0), (.c (.int 63))])) [] (.pr .int1 [(.v 1)]))), (.c (.int 0)), (.c (.int 0)), (.c (.int 91423))])]⟩
/- _law_same : 0=told 1=due 2=rest 3=count 4=one 5=two 6=k -/
def f_law_same : Fn := ⟨7, [false, false], [
    .asg 2 (.lst [(.tup [(.v 0), (.v 1)])]),
    .forr (.nf 3) [(.c (.int 2000000))] [.iff (.pr .eq [(.pr .len [(.rd 2)]), (.c (.int 0))]) [.ret (.c (.bl true))] [], .asgt (.tp [(.nf 4), (.nf 5)]) (.mu .pop0 2 []), .iff (.pr (.isI [3]) [(.v 5)]) [.iff (.or [(.nt (.pr (.isI [3]) [(.v 4)])), (.pr .ne [(.pr .len [(.v 4)]), (.pr .len [(.v 5)])])]) [.ret (.c (.bl false))] [], .forr (.nf 6) [(.pr .len [(.v 5)])] [.ex (.mu .append 2 [(.tup [(.pr .ix [(.v 4), (.v 6)]), (.pr .ix [(.v 5), (.v 6)])])])]] [.iff (.pr .isN [(.v 5), (.c .non)]) [.iff (.pr .notN [(.v 4), (.c .non)]) [.ret (.c (.bl false))] []] [.iff (.pr (.isI [1]) [(.v 5)]) [.iff (.or [(.nt (.pr (.isI [1]) [(.v 4)])), (.pr .ne [(.v 4), (.v 5)])]) [.ret (.c (.bl false))] []] [.iff (.pr (.isI [0]) [(.v 5)]) [.iff (.or [(.nt (.pr (.isI [0]) [(.v 4)])), (.pr (.isI [1]) [(.v 4)]), (.pr .ne [(.v 4), (.v 5)])]) [.ret (.c (.bl false))] []] [.iff (.or [(.nt (.pr (.isI [2]) [(.v 5)])), (.nt (.pr (.isI [2]) [(.v 4)])), (.pr .ne [(.v 4), (.v 5)])]) [.ret (.c (.bl false))] []]]]]],
    .ret (.c (.bl false))]⟩
/- _law_ordered : 0=faces 1=told 2=face 3=at -/
def f_law_ordered : Fn := ⟨4, [false], [
    .asg 1 (.lst []),
    .for (.nf 2) (.e (.v 0)) [.asg 3 (.pr .index [(.pr .list1 [(.v 2)]), (.pr .min1 [(.v 2)])]), .ex (.mu .append 1 [(.pr .add [(.pr .tuple1 [(.pr (.sl true false) [(.v 2), (.v 3)])]), (.pr .tuple1 [(.pr (.sl false true) [(.v 2), (.v 3)])])])])],
    .ret (.pr .tuple1 [(.pr .sorted [(.rd 1)])])]⟩
/- _law_row : 0=sizes 1=exits 2=faces 3=fresh 4=i 5=face 6=place -/
def f_law_row : Fn := ⟨7, [false, false], [
    .asg 2 (.lst []),
    .asg 3 (.c (.int 0)),
    .forr (.nf 4) [(.pr .len [(.v 0)])] [.asg 5 (.lst []), .forr (.nf 6) [(.pr .ix [(.v 0), (.v 4)])] [.iff (.an [(.pr .gt [(.v 4), (.c (.int 0))]), (.pr .eq [(.v 6), (.c (.int 0))])]) [.ex (.mu .append 5 [(.pr .add [(.pr .ix [(.pr .ix [(.rd 2), (.pr .sub [(.v 4), (.c (.int 1))])]), (.pr .ix [(.v 1), (.pr .sub [(.v 4), (.c (.int 1))])])]), (.c (.int 1))])])] [.ex (.mu .append 5 [(.v 3)]), .aug 3 .add (.c (.int 2))]], .ex (.mu .append 2 [(.fz 5)])],
    .ret (.cl 8 [(.fz 2)])]⟩
/- _law_ring : 0=sizes 1=exits 2=faces 3=fresh 4=last 5=i 6=face 7=place -/
def f_law_ring : Fn := ⟨8, [false, false], [
    .asg 2 (.lst []),
    .asg 3 (.c (.int 0)),
    .asg 4 (.pr .sub [(.pr .len [(.v 0)]), (.c (.int 1))]),
    .forr (.nf 5) [(.pr .len [(.v 0)])] [.asg 6 (.lst []), .forr (.nf 7) [(.pr .ix [(.v 0), (.v 5)])] [.iff (.an [(.pr .gt [(.v 5), (.c (.int 0))]), (.pr .eq [(.v 7), (.c (.int 0))])]) [.ex (.mu .append 6 [(.pr .add [(.pr .ix [(.pr .ix [(.rd 2), (.pr .sub [(.v 5), (.c (.int 1))])]), (.pr .ix [(.v 1), (.pr .sub [(.v 5), (.c (.int 1))])])]), (.c (.int 1))])])] [.iff (.an [(.pr .eq [(.v 5), (.v 4)]), (.pr .eq [(.v 7), (.pr .ix [(.v 1), (.v 5)])])]) [.ex (.mu .append 6 [(.c (.int 1))])] [.ex (.mu .append 6 [(.v 3)]), .aug 3 .add (.c (.int 2))]]], .ex (.mu .append 2 [(.fz 6)])],
    .ret (.cl 8 [(.fz 2)])]⟩
/- _law_drawn : 0=urn 1=many 2=ring 3=most 4=habit 5=sizes 6=exits 7=i 8=least 9=size 10=first -/
def f_law_drawn : Fn := ⟨11, [true, false, false, false], [
    .asg 4 (.cl 5 [(.io 0), (.c (.int 4))]),
    .asg 5 (.lst []),
    .asg 6 (.lst []),
    .forr (.nf 7) [(.v 1)] [.asg 8 (.ite (.or [(.v 2), (.ch .lt .lt (.c (.int 0)) (.v 7) (.pr .sub [(.v 1), (.c (.int 1))]))]) (.c (.int 2)) (.c (.int 1))), .asg 9 (.frz (.pr .add [(.v 8), (.pr .ix [(.tup [(.cl 5 [(.io 0), (.v 3)]), (.c (.int 2)), (.cl 5 [(.io 0), (.c (.int 3))]), (.c (.int 0))]), (.v 4)])])), .asg 9 (.pr .min2 [(.c (.int 20)), (.v 9)]), .ex (.mu .append 5 [(.v 9)]), .iff (.or [(.v 2), (.pr .lt [(.v 7), (.pr .sub [(.v 1), (.c (.int 1))])])]) [.asg 10 (.ite (.or [(.v 2), (.pr .gt [(.v 7), (.c (.int 0))])]) (.c (.int 1)) (.c (.int 0))), .ex (.mu .append 6 [(.pr .ix [(.tup [(.frz (.pr .add [(.v 10), (.cl 5 [(.io 0), (.pr .sub [(.v 9), (.v 10)])])])), (.v 10), (.pr .sub [(.v 9), (.c (.int 1))])]), (.pr .min2 [(.c (.int 2)), (.cl 5 [(.io 0), (.c (.int 4))])])])])] []],
    .ret (.tup [(.pr .tuple1 [(.rd 5)]), (.pr .tuple1 [(.rd 6)])])]⟩
/- _law_looked : 0=urn 1=many 2=most 3=sizes 4=exits -/
def f_law_looked : Fn := ⟨5, [true, false, false], [
    .asgt (.tp [(.nf 3), (.nf 4)]) (.cl 11 [(.io 0), (.v 1), (.c (.bl false)), (.v 2)]),
    .iff (.nt (.cl 7 [(.cl 3 [(.v 3), (.v 4)]), (.cl 9 [(.v 3), (.v 4)])])) [.ret (.c (.bl false))] [],
    .iff (.pr .eq [(.v 1), (.c (.int 1))]) [.ret (.c (.bl true))] [],
    .iff (.nt (.cl 7 [(.clk 3 [1, 0] [(.frz (.pr (.sl false true) [(.v 4), (.pr .neg [(.c (.int 1))])])), (.frz (.pr (.sl false true) [(.v 3), (.pr .neg [(.c (.int 1))])]))]), (.cl 9 [(.frz (.pr (.sl false true) [(.v 3), (.pr .neg [(.c (.int 1))])])), (.frz (.pr (.sl false true) [(.v 4), (.pr .neg [(.c (.int 1))])]))])])) [.ret (.c (.bl false))] [],
    .asgt (.tp [(.nf 3), (.nf 4)]) (.cl 11 [(.io 0), (.v 1), (.c (.bl true)), (.v 2)]),
    .ret (.an [(.cl 7 [(.cl 4 [(.v 3), (.v 4)]), (.cl 10 [(.v 3), (.v 4)])]), (.cl 7 [(.cl 3 [(.v 3), (.frz (.pr (.sl false true) [(.v 4), (.pr .neg [(.c (.int 1))])]))]), (.cl 9 [(.v 3), (.frz (.pr (.sl false true) [(.v 4), (.pr .neg [(.c (.int 1))])]))])])])]⟩
/- _law_named : 0=urn 1=size 2=single 3=many 4=ring 5=k -/
def f_law_named : Fn := ⟨6, [true], [
    .asg 1 (.pr .add [(.c (.int 1)), (.cl 5 [(.io 0), (.c (.int 20))])]),
    .asg 2 (.tup [(.pr .tuple1 [(.lc (.nf 5) (.rng [(.v 1)]) [] (.pr .mul [(.c (.int 2)), (.v 5)]))])]),
    .iff (.or [(.nt (.cl 7 [(.clk 3 [0, 1] [(.tup [(.v 1)]), (.tup [])]), (.v 2)])), (.nt (.cl 7 [(.cl 3 [(.tup [(.c (.int 1)), (.c (.int 1))]), (.tup [(.c (.int 0))])]), (.tup [(.tup [(.c (.int 0))]), (.tup [(.c (.int 1))])])]))]) [.ret (.c (.bl false))] [],
    .asg 3 (.pr .add [(.c (.int 2)), (.cl 5 [(.io 0), (.c (.int 5))])]),
    .asg 4 (.frz (.pr .add [(.pr .add [(.lst [(.tup [(.c (.int 0)), (.c (.int 2))])]), (.lc (.nf 5) (.rng [(.c (.int 1)), (.pr .sub [(.v 3), (.c (.int 1))])]) [] (.tup [(.pr .add [(.pr .mul [(.c (.int 2)), (.v 5)]), (.c (.int 1))]), (.pr .add [(.pr .mul [(.c (.int 2)), (.v 5)]), (.c (.int 2))])]))]), (.lst [(.tup [(.c (.int 1)), (.pr .sub [(.pr .mul [(.c (.int 2)), (.v 3)]), (.c (.int 1))])])])])),
    .iff (.nt (.cl 7 [(.clk 4 [1, 0] [(.pr .mul [(.tup [(.c (.int 1))]), (.v 3)]), (.pr .mul [(.tup [(.c (.int 2))]), (.v 3)])]), (.pr .tuple1 [(.pr .sorted [(.v 4)])])])) [.ret (.c (.bl false))] [],
    .iff (.or [(.nt (.cl 7 [(.cl 3 [(.tup [(.c (.int 4)), (.c (.int 4))]), (.tup [(.c (.int 0))])]), (.tup [(.tup [(.c (.int 0)), (.c (.int 2)), (.c (.int 4)), (.c (.int 6))]), (.tup [(.c (.int 1)), (.c (.int 8)), (.c (.int 10)), (.c (.int 12))])])])), (.nt (.cl 7 [(.cl 3 [(.tup [(.c (.int 4)), (.c (.int 4))]), (.tup [(.c (.int 3))])]), (.tup [(.tup [(.c (.int 0)), (.c (.int 2)), (.c (.int 4)), (.c (.int 6))]), (.tup [(.c (.int 7)), (.c (.int 8)), (.c (.int 10)), (.c (.int 12))])])]))]) [.ret (.c (.bl false))] [],
    .ret (.an [(.cl 7 [(.cl 4 [(.tup [(.c (.int 3)), (.c (.int 3))]), (.tup [(.c (.int 1)), (.c (.int 2))])]), (.tup [(.tup [(.c (.int 0)), (.c (.int 2)), (.c (.int 4))]), (.tup [(.c (.int 1)), (.c (.int 3)), (.c (.int 6))])])]), (.cl 7 [(.cl 4 [(.tup [(.c (.int 3)), (.c (.int 3))]), (.tup [(.c (.int 2)), (.c (.int 1))])]), (.tup [(.tup [(.c (.int 0)), (.c (.int 2)), (.c (.int 4))]), (.tup [(.c (.int 1)), (.c (.int 6)), (.c (.int 5))])])])])]⟩
/- law : 0=script 1=urn 2=lap -/
def f_law : Fn := ⟨3, [false], [
    .asg 1 (.cl 6 [(.v 0)]),
    .iff (.nt (.cl 13 [(.io 1)])) [.ret (.c (.bl false))] [],
    .forr (.nf 2) [(.c (.int 4))] [.iff (.nt (.cl 12 [(.io 1), (.pr .add [(.c (.int 1)), (.cl 5 [(.io 1), (.c (.int 9))])]), (.pr .ix [(.tup [(.c (.int 3)), (.c (.int 8)), (.c (.int 20))]), (.cl 5 [(.io 1), (.c (.int 3))])])])) [.ret (.c (.bl false))] []],
    .ret (.or [(.pr .ne [(.cl 5 [(.io 1), (.c (.int 7))]), (.c (.int 4))]), (.cl 12 [(.io 1), (.c (.int 60)), (.c (.int 20))])])]⟩
def fs : List Fn := [f_in_order, f_numbered_faces, f_row_keys, f_row_board, f_ring_board, f_law_take, f_law_urn, f_law_same, f_law_ordered, f_law_row, f_law_ring, f_law_drawn, f_law_looked, f_law_named, f_law]
abbrev Pt : Tab := tab fs
end Rt.k18

set_option Elab.async false
set_option linter.all false
set_option maxRecDepth 100000
set_option maxHeartbeats 2000000
namespace Rt.Pl.k18
open Rt
def key (i p : Nat) : D := .tup [.int i, .int p]
theorem beq_key {a b c d : Nat} : D.beq (key a b) (key c d) = decide (a = c ∧ b = d) := by
  by_cases h : a = c ∧ b = d
  · rw [h.1, h.2, D.beq_self]; simp
  · rw [decide_eq_false h]
    refine D.beq_ff.mpr fun e => h ?_
    simp only [key, D.tup.injEq, List.cons.injEq, D.int.injEq] at e
    omega
theorem keyT_key {a b : Nat} : keyT (key a b) = true := rfl
def optD : Option (Nat × Nat) → D
  | none => .non
  | some p => key p.1 p.2
/-- the twins behind so many exits -/
def goalOf (n m : Nat) : Nat := if m + 1 < n then m + 1 else 0
def twF (n : Nat) (ring : Bool) (e : Nat → Nat) : Nat → Nat → Nat → Option (Nat × Nat)
  | 0, _, _ => none
  | m + 1, i, p => if ring ∨ m + 1 < n then (if i = goalOf n m ∧ p = 0 then some (m, e m) else if i = m ∧ p = e m then some (goalOf n m, 0) else twF n ring e m i p) else twF n ring e m i p
def rowF (n : Nat) (ring : Bool) (s e : Nat → Nat) (m i : Nat) : List (D × D) := (List.range (s i)).map fun p => (key i p, optD (twF n ring e m i p))
def rowsF (n : Nat) (ring : Bool) (s e : Nat → Nat) (m : Nat) : List (List (D × D)) := (List.range n).map (rowF n ring s e m)
/-- the law's way -/
def ent (ring : Bool) (n : Nat) (e : Nat → Nat) (fs : List (List Int)) (i p : Nat) : Option Int :=
  if 0 < i ∧ p = 0 then some ((fs.getD (i - 1) []).getD (e (i - 1)) 0 + 1) else if ring = true ∧ i + 1 = n ∧ p = e i then some 1 else none
def fill (g : Nat → Option Int) (fr : Int) : Nat → List Int × Int
  | 0 => ([], fr)
  | m + 1 => match g m with
    | some v => ((fill g fr m).1 ++ [v], (fill g fr m).2)
    | none => ((fill g fr m).1 ++ [(fill g fr m).2], (fill g fr m).2 + 2)
def faceL (ring : Bool) (n : Nat) (s e : Nat → Nat) : Nat → List (List Int) × Int
  | 0 => ([], 0)
  | i + 1 => ((faceL ring n s e i).1 ++ [(fill (ent ring n e (faceL ring n s e i).1 i) (faceL ring n s e i).2 (s i)).1], (fill (ent ring n e (faceL ring n s e i).1 i) (faceL ring n s e i).2 (s i)).2)
structure Ok (ring : Bool) (n m : Nat) (s e : Nat → Nat) : Prop where
  n1 : 1 ≤ n
  m1 : ring = false → m + 1 = n
  m2 : ring = true → m = n ∧ 2 ≤ n
  lt : ∀ i, i < m → e i < s i
  pos : ∀ i, i < m → (0 < i ∨ ring = true) → 1 ≤ e i
  s1 : ∀ i, i < n → 1 ≤ s i ∧ s i ≤ 20
  nb : n ≤ 1000
section
variable {g : Nat → Option Int} {fr : Int}
theorem fill_len : ∀ m, (fill g fr m).1.length = m
  | 0 => rfl
  | m + 1 => by
    simp only [fill]
    split <;> simp [fill_len m]
theorem fill_get : ∀ {m b : Nat}, b < m → (fill g fr m).1[b]? = some ((g b).getD (fill g fr b).2)
  | m + 1, b, h => by
    have hl := fill_len (g := g) (fr := fr) m
    rcases Nat.lt_succ_iff_lt_or_eq.mp h with h' | rfl
    · have := fill_get h'
      simp only [fill]
      split <;> (simp only; rw [List.getElem?_append_left (by omega)]; exact this)
    · simp only [fill]
      split
      · rename_i v q
        simp only
        rw [List.getElem?_append_right (by omega), hl, q]
        simp
      · rename_i q
        simp only
        rw [List.getElem?_append_right (by omega), hl, q]
        simp
theorem fill_even (h : fr % 2 = 0) (h0 : 0 ≤ fr) : ∀ m, (fill g fr m).2 % 2 = 0 ∧ 0 ≤ (fill g fr m).2
  | 0 => ⟨h, h0⟩
  | m + 1 => by
    have := fill_even h h0 m
    simp only [fill]
    split
    · exact this
    · simp only; omega
end
section
variable {ring : Bool} {n m : Nat} {s e : Nat → Nat}
def face (ring : Bool) (n : Nat) (s e : Nat → Nat) (i : Nat) : List Int := (fill (ent ring n e (faceL ring n s e i).1 i) (faceL ring n s e i).2 (s i)).1
theorem faceL_len : ∀ i, (faceL ring n s e i).1.length = i
  | 0 => rfl
  | i + 1 => by simp [faceL, faceL_len i]
theorem faceL_get : ∀ {i a : Nat}, a < i → (faceL ring n s e i).1[a]? = some (face ring n s e a)
  | i + 1, a, h => by
    have hl := faceL_len (ring := ring) (n := n) (s := s) (e := e) i
    simp only [faceL]
    rcases Nat.lt_succ_iff_lt_or_eq.mp h with h' | rfl
    · rw [List.getElem?_append_left (by omega)]
      exact faceL_get h'
    · rw [List.getElem?_append_right (by omega), hl]
      simp [face]
theorem faceL_even : ∀ i, (faceL ring n s e i).2 % 2 = 0 ∧ 0 ≤ (faceL ring n s e i).2
  | 0 => by simp [faceL]
  | i + 1 => by
    simp only [faceL]
    exact fill_even (faceL_even i).1 (faceL_even i).2 _
theorem face_len (i : Nat) : (face ring n s e i).length = s i := fill_len _
/-- the exits that lead on are even -/
theorem exit_even (k : Ok ring n m s e) {a : Nat} (h : a < m) (h2 : a + 1 < n) : ∃ v, (face ring n s e a)[e a]? = some v ∧ v % 2 = 0 ∧ 0 ≤ v := by
  have hg : ent ring n e (faceL ring n s e a).1 a (e a) = none := by
    unfold ent
    rw [if_neg, if_neg]
    · omega
    · intro q
      have := k.pos a h (.inl q.1)
      omega
  refine ⟨_, fill_get (k.lt a h), ?_⟩
  rw [hg]
  exact fill_even (faceL_even a).1 (faceL_even a).2 _
theorem first_zero (k : Ok ring n m s e) (h : ring = true) : (face ring n s e 0)[0]? = some 0 := by
  have h0 := k.s1 0 k.n1
  have h2 := k.m2 h
  have hg : ent ring n e (faceL ring n s e 0).1 0 0 = none := by
    unfold ent
    rw [if_neg (by omega), if_neg (by omega)]
  unfold face
  rw [fill_get (by omega), hg]
  rfl
theorem tw_none : ∀ {m i p : Nat}, (∀ j, j < m → (ring = true ∨ j + 1 < n) → ¬ (i = goalOf n j ∧ p = 0) ∧ ¬ (i = j ∧ p = e j)) → twF n ring e m i p = none
  | 0, _, _, _ => rfl
  | m + 1, i, p, h => by
    have ih := tw_none (m := m) fun j hj => h j (by omega)
    unfold twF
    split
    · rename_i q
      have := h m (by omega) q
      rw [if_neg this.1, if_neg this.2, ih]
    · exact ih
theorem tw_exit {i : Nat} (h1 : ring = true ∨ i + 1 < n) (h2 : ∀ j, (ring = true ∨ j + 1 < n) → ¬ (i = goalOf n j ∧ e i = 0)) : ∀ {m : Nat}, i < m → twF n ring e m i (e i) = some (goalOf n i, 0)
  | m + 1, h => by
    unfold twF
    split
    · rename_i q
      rw [if_neg (h2 m q)]
      rcases Nat.lt_succ_iff_lt_or_eq.mp h with h' | rfl
      · rw [if_neg (by omega)]
        exact tw_exit h1 h2 h'
      · rw [if_pos ⟨rfl, rfl⟩]
    · rename_i q
      rcases Nat.lt_succ_iff_lt_or_eq.mp h with h' | rfl
      · exact tw_exit h1 h2 h'
      · exact absurd h1 q
theorem tw_in {a : Nat} (h1 : ring = true ∨ a + 1 < n) : ∀ {m : Nat}, a < m → (∀ j, j < m → goalOf n j = goalOf n a → a < j → ¬ (ring = true ∨ j + 1 < n)) → (∀ j, j < m → (ring = true ∨ j + 1 < n) → goalOf n a = j → e j ≠ 0) → twF n ring e m (goalOf n a) 0 = some (a, e a)
  | m + 1, h, h3, h5 => by
    unfold twF
    rcases Nat.lt_succ_iff_lt_or_eq.mp h with h' | rfl
    · have ih := tw_in h1 h' (fun j hj => h3 j (by omega)) fun j hj => h5 j (by omega)
      split
      · rename_i q
        rw [if_neg (fun x => h3 m (by omega) x.1.symm h' q), if_neg]
        · exact ih
        · intro x
          exact h5 m (by omega) q x.1 x.2.symm
      · exact ih
    · rw [if_pos h1, if_pos ⟨rfl, rfl⟩]
theorem bx1 {v : Int} (h : v % 2 = 0) (h0 : 0 ≤ v) : PySem.Builtin.bitXor v 1 = v + 1 := by
  obtain ⟨n, rfl⟩ := Int.eq_ofNat_of_zero_le h0
  have e1 : n &&& 1 = n % 2 := Nat.and_one_is_mod n
  have e2 : (n ||| 1) / 2 = n / 2 := by rw [Nat.or_div_two]; simp
  have e3 : (n ||| 1) % 2 = 1 := by simp
  have e4 : PySem.Builtin.bitAnd (n : Int) 1 = ((n &&& 1 : Nat) : Int) := by
    unfold PySem.Builtin.bitAnd
    simp
  have e5 : PySem.Builtin.bitOr (n : Int) 1 = ((n ||| 1 : Nat) : Int) := by
    unfold PySem.Builtin.bitOr PySem.Builtin.bitAnd PySem.Builtin.bitNot
    have d1 : decide (0 ≤ -(n : Int) - 1) = false := decide_eq_false (by omega)
    have d2 : decide ((0 : Int) ≤ -1 - 1) = false := by decide
    rw [d1, d2]
    have q1 : (-(-(n : Int) - 1) - 1).toNat = n := by omega
    have q2 : (-(-(1 : Int) - 1) - 1).toNat = 1 := by decide
    simp only [q1, q2]
    omega
  unfold PySem.Builtin.bitXor
  rw [e4, e5]
  omega
/-- the table of numbers behind i cells and some sides of the next -/
def Tb (ring : Bool) (n : Nat) (s e : Nat → Nat) (i : Nat) (f : List Int) (N : Nm) : Prop := ∀ a b, N (key a b) = if a < i then (face ring n s e a)[b]? else if a = i then f[b]? else none
theorem step_ok (k : Ok ring n m s e) {i p : Nat} {f : List Int} {N : Nm} (hT : Tb ring n s e i f N) (hi : i < n) (hf : f.length ≤ p) (hp : p < s i) :
    (nGot N (optD (twF n ring e m i p))).map (fun v => PySem.Builtin.bitXor v 1) = ent ring n e (faceL ring n s e i).1 i p := by
  have hm : ring = true ∨ m + 1 = n := by
    cases h : ring with
    | false => exact .inr (k.m1 h)
    | true => exact .inl rfl
  have hm2 : i + 1 < n → i < m := by
    intro h
    rcases hm with h' | h'
    · have := (k.m2 h').1; omega
    · omega
  have hg : ∀ j, j + 1 < n → goalOf n j = j + 1 := fun j hj => if_pos hj
  have hg0 : ∀ j, ¬ j + 1 < n → goalOf n j = 0 := fun j hj => if_neg hj
  by_cases hA : p = e i ∧ i < m
  · obtain ⟨rfl, him⟩ := hA
    have hr : ring = true ∨ i + 1 < n := by
      rcases hm with h | h
      · exact .inl h
      · exact .inr (by omega)
    rw [tw_exit hr ?_ him]
    · show (N (key (goalOf n i) 0)).map _ = _
      rw [hT]
      by_cases h1 : i + 1 < n
      · rw [hg i h1, if_neg (by omega), if_neg (by omega)]
        unfold ent
        rw [if_neg, if_neg (by omega)]
        · rfl
        · intro h
          have := k.pos i him (.inl h.1)
          omega
      · have hrt : ring = true := by
          rcases hr with h | h
          · exact h
          · exact absurd h h1
        have h2 := k.m2 hrt
        have hp := k.pos i him (.inr hrt)
        rw [hg0 i h1, if_pos (by omega), first_zero k hrt]
        unfold ent
        rw [if_neg (by omega), if_pos ⟨hrt, by omega, rfl⟩]
        rfl
    · rintro j hj ⟨h1, h2⟩
      have : ¬ (0 < i ∨ ring = true) := fun h => by
        have := k.pos i him h
        omega
      have hrf : ring = false := by
        cases h : ring with
        | false => rfl
        | true => exact absurd (.inr h) this
      rcases hj with hj | hj
      · rw [hrf] at hj; cases hj
      · rw [hg j hj] at h1
        exact this (.inl (by omega))
  · by_cases hp0 : p = 0
    · subst hp0
      by_cases hi0 : 0 < i
      · obtain ⟨a, rfl⟩ : ∃ a, i = a + 1 := ⟨i - 1, by omega⟩
        have ham : a < m := by
          rcases hm with h' | h'
          · have := (k.m2 h').1; omega
          · omega
        have e1 : goalOf n a = a + 1 := hg a (by omega)
        have := tw_in (ring := ring) (n := n) (e := e) (a := a) (.inr (by omega)) ham (fun j hj q h1 h2 => by
          by_cases h3 : j + 1 < n
          · rw [hg j h3, e1] at q; omega
          · rw [hg0 j h3, e1] at q; omega) (fun j hj h1 h2 => by
          have := k.pos j hj (.inl (by omega))
          omega)
        rw [e1] at this
        rw [this]
        show (N (key a (e a))).map _ = _
        obtain ⟨v, hv, v1, v2⟩ := exit_even k ham (by omega)
        rw [hT, if_pos (by omega), hv]
        unfold ent
        rw [if_pos ⟨hi0, rfl⟩]
        show some (PySem.Builtin.bitXor v 1) = _
        rw [bx1 v1 v2]
        have q := faceL_get (ring := ring) (n := n) (s := s) (e := e) (i := a + 1) (a := a) (by omega)
        simp only [Nat.add_sub_cancel, List.getD_eq_getElem?_getD]
        rw [q]
        simp [hv]
      · have : i = 0 := by omega
        subst this
        by_cases hrt : ring = true
        · have h2 := k.m2 hrt
          have e1 : goalOf n (n - 1) = 0 := hg0 _ (by omega)
          have := tw_in (ring := ring) (n := n) (e := e) (a := n - 1) (m := m) (.inl hrt) (by omega) (fun j hj q h1 h2 => by omega) (fun j hj h1 h2 => by
            have := k.pos j hj (.inr hrt)
            omega)
          rw [e1] at this
          rw [this]
          show (N (key (n - 1) (e (n - 1)))).map _ = _
          rw [hT, if_neg (by omega), if_neg (by omega)]
          unfold ent
          rw [if_neg (by omega), if_neg (by omega)]
          rfl
        · have hrf : ring = false := by simpa using hrt
          rw [tw_none]
          · unfold ent
            rw [if_neg (by omega), if_neg (by rw [hrf]; simp)]
            rfl
          · intro j hj q
            rcases q with q | q
            · exact absurd q hrt
            · rw [hg j q]
              refine ⟨by omega, fun h => hA ⟨?_, ?_⟩⟩
              · obtain ⟨h1, h2⟩ := h
                subst h1
                exact h2
              · omega
    · rw [tw_none]
      · unfold ent
        rw [if_neg (by omega), if_neg]
        · rfl
        · intro h
          have := (k.m2 h.1).1
          exact hA ⟨h.2.2, by omega⟩
      · intro j hj q
        refine ⟨by omega, fun h => hA ⟨?_, ?_⟩⟩
        · rw [h.1]; exact h.2
        · omega
theorem row_ok (k : Ok ring n m s e) {i : Nat} {N : Nm} (hT : Tb ring n s e i [] N) (hi : i < n) : ∀ {p : Nat}, p ≤ s i →
    ∃ N', ((List.range p).map fun p => (key i p, optD (twF n ring e m i p))).foldl nSide (N, (faceL ring n s e i).2, []) = (N', (fill (ent ring n e (faceL ring n s e i).1 i) (faceL ring n s e i).2 p).2, (fill (ent ring n e (faceL ring n s e i).1 i) (faceL ring n s e i).2 p).1) ∧ Tb ring n s e i (fill (ent ring n e (faceL ring n s e i).1 i) (faceL ring n s e i).2 p).1 N'
  | 0, _ => ⟨N, rfl, hT⟩
  | p + 1, h => by
    obtain ⟨N', h1, h2⟩ := row_ok k hT hi (p := p) (by omega)
    have hl := fill_len (g := ent ring n e (faceL ring n s e i).1 i) (fr := (faceL ring n s e i).2) p
    rw [List.range_succ, List.map_append, List.foldl_append, h1]
    have st := step_ok k h2 hi (by omega) (p := p) (by omega)
    have up : ∀ v, Tb ring n s e i ((fill (ent ring n e (faceL ring n s e i).1 i) (faceL ring n s e i).2 p).1 ++ [v]) (nUp N' (key i p) v) := by
      intro v a b
      unfold nUp
      rw [beq_key, h2]
      by_cases q : a = i ∧ b = p
      · obtain ⟨rfl, rfl⟩ := q
        rw [if_pos (by simp), if_neg (by omega), if_pos rfl, List.getElem?_append_right (by omega), hl]
        simp
      · rw [if_neg (by simpa using q)]
        by_cases q1 : a < i
        · rw [if_pos q1, if_pos q1]
        · rw [if_neg q1, if_neg q1]
          by_cases q2 : a = i
          · rw [if_pos q2, if_pos q2]
            by_cases q3 : b < p
            · rw [List.getElem?_append_left (by omega)]
            · rw [List.getElem?_eq_none (by omega), List.getElem?_eq_none (by simp; omega)]
          · rw [if_neg q2, if_neg q2]
    simp only [List.map_cons, List.map_nil, List.foldl_cons, List.foldl_nil, nSide, fill]
    cases hq : nGot N' (optD (twF n ring e m i p)) with
    | none =>
      rw [hq] at st
      rw [← st]
      exact ⟨_, rfl, up _⟩
    | some v =>
      rw [hq] at st
      rw [← st]
      exact ⟨_, rfl, up _⟩
theorem rows_ok (k : Ok ring n m s e) : ∀ {i : Nat}, i ≤ n → ∃ N, ((List.range i).map (rowF n ring s e m)).foldl nRow (fun _ => none, 0, []) = (N, (faceL ring n s e i).2, (faceL ring n s e i).1) ∧ Tb ring n s e i [] N
  | 0, _ => ⟨_, rfl, fun a b => by simp⟩
  | i + 1, h => by
    obtain ⟨N, h1, h2⟩ := rows_ok k (i := i) (by omega)
    rw [List.range_succ, List.map_append, List.foldl_append, h1]
    obtain ⟨N', h3, h4⟩ := row_ok k h2 (by omega) (p := s i) (Nat.le_refl _)
    simp only [List.map_cons, List.map_nil, List.foldl_cons, List.foldl_nil, nRow, rowF]
    rw [h3]
    refine ⟨N', rfl, fun a b => ?_⟩
    rw [h4]
    by_cases q1 : a < i
    · rw [if_pos q1, if_pos (by omega)]
    · rw [if_neg q1]
      by_cases q2 : a = i
      · rw [if_pos q2, if_pos (by omega), q2]
        rfl
      · rw [if_neg q2, if_neg (by omega)]
        simp
theorem faces_eq (k : Ok ring n m s e) : (nFaces (rowsF n ring s e m)).2.2 = (faceL ring n s e n).1 := by
  obtain ⟨N, h, _⟩ := rows_ok k (Nat.le_refl n)
  unfold nFaces rowsF
  rw [h]
theorem faceL_mem (k : Ok ring n m s e) : ∀ l ∈ (faceL ring n s e n).1, 1 ≤ l.length ∧ l.length ≤ 20 := by
  intro l hl
  obtain ⟨a, ha, rfl⟩ := List.mem_iff_getElem.mp hl
  rw [faceL_len] at ha
  have := faceL_get (ring := ring) (n := n) (s := s) (e := e) ha
  rw [List.getElem?_eq_getElem (by rw [faceL_len]; exact ha)] at this
  rw [Option.some.inj this, face_len]
  exact k.s1 a ha
end
end Rt.Pl.k18

set_option Elab.async false
set_option linter.all false
set_option maxRecDepth 100000
set_option maxHeartbeats 2000000
namespace Rt.Pl.k18
open Rt Rt.k18
def Urn (p : PV) : Prop := ∃ (cells : List Int) (pl : Nat) (rest seed : Int), p = .ol [.fl (cells.map .int), .int pl, .int rest, .int seed]
theorem take_ok (W j : Nat) (u : PV) (many : Int) (h : Urn u) (h1 : 1 ≤ many) (h2 : many < 1073741824) :
    ∃ v ws, call Pt W (j + 1) 5 [u, .d (.int many)] = some (v, ws) ∧ ∃ r u', v = .d (.int r) ∧ ws = [u', .un] ∧ 0 ≤ r ∧ r < many ∧ Urn u' := by
  obtain ⟨cells, pl, rest, seed, rfl⟩ := h
  have hm0 : many ≠ 0 := by omega
  have hdv : divOk many = true := divOk_of h1 h2
  refine call_ok (fd := f_law_take) rfl rfl rfl ?_
  unfold f_law_take
  dsimp only
  repeat' first
      | with_reducible apply w_consS
      | with_reducible apply w_nilS
      | with_reducible apply w_asg
      | with_reducible apply w_iff
      | with_reducible apply w_six
      | with_reducible apply w_ret
      | with_reducible apply w_asgt
      | with_reducible apply w_ex
      | with_reducible apply w_retn
      | with_reducible apply w_brk
      | with_reducible apply w_cnt
      | with_reducible apply w_pas
      | with_reducible apply w_T
      | with_reducible apply w_pr
      | with_reducible apply w_cons
      | with_reducible apply w_nil
      | with_reducible apply w_c
      | (with_reducible refine w_v rfl ?_)
      | (with_reducible refine w_rd rfl rfl ?_)
      | (with_reducible refine w_mv rfl rfl ?_)
      | (with_reducible refine w_fz rfl ?_)
      | (with_reducible refine w_io rfl ?_)
      | with_reducible apply w_tup
      | with_reducible apply w_lst
      | with_reducible apply w_dic0
      | with_reducible apply w_frz
      | with_reducible apply w_cl
      | with_reducible apply w_clk
      | with_reducible apply w_nt
      | with_reducible apply w_or1
      | with_reducible apply w_an1
      | with_reducible apply w_or
      | with_reducible apply w_an
      | with_reducible apply w_ite
      | with_reducible apply w_ch
      | with_reducible apply w_itE
      | with_reducible apply w_itR
      | with_reducible apply w_itN
      | with_reducible apply w_csn
      | with_reducible apply w_csc
      | (with_reducible refine w_mu rfl ?_)
      | ((with_reducible apply w_aix); rfl)
      | ((with_reducible apply w_aug); rfl)
      | with_reducible apply w_nxS
      | with_reducible apply w_rtS
      | with_reducible apply w_bkS
      | with_reducible apply w_ctS
      | with_reducible apply r_rt
      | with_reducible apply r_nx
      | with_reducible apply t_nx
      | with_reducible apply t_rt
      | with_reducible apply t_ct
      | with_reducible apply t_bk
      | ((with_reducible apply ex1); exact a_mul (mulOk_r (by decide) (by decide)))
      | ((with_reducible apply ex1); exact a_mod hm0)
      | ((with_reducible apply ex1); exact a_fdiv hdv)
      | ((with_reducible apply ex1); exact a_ixF (k := pl) rfl (List.getElem?_eq_getElem (by simpa using hc)))
      | (refine ⟨_, _, rfl, rfl, (fmod_range (by omega)).1, (fmod_range (by omega)).2, ⟨_, _, _, _, rfl⟩⟩)
      | with_reducible rfl
      | (with_reducible refine ⟨_, a_eqI, ?_⟩)
      | (with_reducible refine ⟨_, a_neI, ?_⟩)
      | with_reducible apply cd_t
      | with_reducible apply cd_f
      | with_reducible apply cd_t'
      | with_reducible apply cd_f'
      | with_reducible apply cd_not
      | with_reducible apply cd_not'
      | (with_reducible refine cd_eq (fun hc => ?_) (fun hc => ?_) <;> first | (exfalso; omega) | skip)
      | (with_reducible refine cd_dec (fun hc => ?_) (fun hc => ?_) <;> first | (exfalso; omega) | skip)
      | (with_reducible refine cd_eq' (fun hc => ?_) (fun hc => ?_) <;> first | (exfalso; omega) | skip)
      | (with_reducible refine cd_dec' (fun hc => ?_) (fun hc => ?_) <;> first | (exfalso; omega) | skip)
      | (with_reducible refine c_min2 (fun x hx => ?_))
      | (with_reducible refine c_max2 (fun x hx => ?_))
      | ((with_reducible apply ex1); rfl)
      | ((with_reducible apply exB); rfl)
      | ((with_reducible apply ex2); rfl)
      | (with_reducible refine ex_rng1 (by omega) ?_)
      | (with_reducible refine ex_rng2 (by omega) ?_)
      | (with_reducible refine cd_any (fun hc => ?_) (fun hc => ?_) <;> first | (exact absurd hc (by decide)) | skip)
      | (with_reducible refine cd_any' (fun hc => ?_) (fun hc => ?_) <;> first | (exact absurd hc (by decide)) | skip)
      | ((with_reducible apply anB); rfl)
      | (exact ⟨rfl, rfl⟩)
      | fail
theorem c_take {W j : Nat} {u : PV} {many : Int} {args : List PV} {Q : PV → List PV → Prop} (e : args = [u, .d (.int many)]) (hu : Urn u) (h1 : 1 ≤ many ∧ many < 1073741824) (h : ∀ r u', 0 ≤ r → r < many → Urn u' → Q (.d (.int r)) [u', .un]) :
    ∃ v ws, call Pt W (j + 1) 5 args = some (v, ws) ∧ Q v ws := by
  subst e
  obtain ⟨v, ws, e, r, u', rfl, rfl, h3, h4, h5⟩ := take_ok W j u many hu h1.1 h1.2
  exact ⟨_, _, e, h r u' h3 h4 h5⟩
end Rt.Pl.k18

set_option Elab.async false
set_option linter.all false
set_option maxRecDepth 100000
set_option maxHeartbeats 2000000
namespace Rt.Pl.k18
open Rt Rt.k18
mutual
/-- trees that _law_same walks -/
def treeOk : D → Bool
  | .non => true
  | .bl _ => true
  | .int _ => true
  | .str s => s.all (· < 1114112)
  | .tup xs => treeL xs
  | _ => false
def treeL : List D → Bool
  | [] => true
  | x :: xs => treeOk x && treeL xs
end
mutual
def nds : D → Nat
  | .tup xs => 1 + ndsL xs
  | _ => 1
def ndsL : List D → Nat
  | [] => 0
  | x :: xs => nds x + ndsL xs
end
def prs (l : List D) : PV := .ol (l.map fun x => .tup [x, x])
theorem ndsL_app : ∀ {a b : List D}, ndsL (a ++ b) = ndsL a + ndsL b
  | [], b => by simp [ndsL]
  | x :: a, b => by
    show nds x + ndsL (a ++ b) = nds x + ndsL a + ndsL b
    rw [ndsL_app]; omega
theorem treeL_app : ∀ {a b : List D}, treeL (a ++ b) = (treeL a && treeL b)
  | [], b => by simp [treeL]
  | x :: a, b => by
    show (treeOk x && treeL (a ++ b)) = _
    rw [treeL_app]
    show _ = ((treeOk x && treeL a) && treeL b)
    rw [Bool.and_assoc]
theorem getLast_prs {l : List D} {x : D} : (prs (l ++ [x])) = .ol ((l.map fun x => .tup [x, x]) ++ [.tup [x, x]]) := by
  unfold prs
  rw [List.map_append]
  rfl
theorem pop_prs {l : List D} {x : D} : mapp .pop0 (prs (l ++ [x])) [] = some (.d (.tup [x, x]), prs l) := by
  rw [getLast_prs]
  simp [mapp, prs]
theorem app_prs {l : List D} {x : D} (h : l.length < 16777216) : mapp .append (prs l) [.d (.tup [x, x])] = some (.d .non, prs (l ++ [x])) := by
  rw [getLast_prs]
  simp [mapp, prs, h]
theorem len_nds : ∀ {l : List D}, l.length ≤ ndsL l
  | [] => Nat.le_refl _
  | x :: l => by
    have := len_nds (l := l)
    have h1 : 1 ≤ nds x := by cases x <;> simp [nds]
    show l.length + 1 ≤ nds x + ndsL l
    omega
theorem a_len_prs {l : List D} : app .len [prs l] = some (.d (.int l.length)) := by
  simp [app, pLen, asQ, prs]
theorem a_neSelf {x : D} (h : treeOk x = true) (hf : flat x = true) : app .ne [.d x, .d x] = some (.d (.bl false)) := by
  cases x <;> simp [flat] at hf <;> simp [app, pEq, toEq, D.plain, D.lay, D.dep, D.eqv]
  rw [if_pos (by simpa [treeOk] using h)]
  simp only [D.eqv.eq_def]
  simp
theorem same_ok (W j : Nat) (a0 : D) (h : treeOk a0 = true) (h1 : nds a0 < 2000000) :
    call Pt W (j + 1) 7 [.d a0, .d a0] = some (.d (.bl true), [.un, .un]) := by
  suffices H : ∃ r ws, call Pt W (j + 1) 7 [.d a0, .d a0] = some (r, ws) ∧ (r = .d (.bl true) ∧ ws = [.un, .un]) by
    obtain ⟨r, ws, e, rfl, rfl⟩ := H
    exact e
  refine call_ok (fd := f_law_same) rfl rfl rfl ?_
  unfold f_law_same
  dsimp only
  refine w_consS (w_asg (w_lst (w_cons (w_tup (w_cons (w_v rfl (w_cons (w_v rfl (w_nil (w_nil (w_nxS ?_))))))))))) 
  refine w_consS (w_rng (fun _ m ρ => ∃ l c y z k, ρ = [.d a0, .d a0, prs l, c, y, z, k] ∧ treeL l = true ∧ ndsL l < m ∧ m ≤ 2000000) (w_cons (w_c (w_nil (ex_rng1 (by omega) ⟨⟨[a0], _, _, _, _, rfl, by simp [treeL, h], ?_, by omega⟩, ?_, ?_⟩)))))
  · simp [ndsL]; omega
  · rintro _ ρ ⟨l, c, y, z, k, rfl, hl, hn, hm⟩
    omega
  · rintro i m ρ ⟨l, c, y, z, k, rfl, hl, hn, hm⟩
    refine ⟨_, rfl, ?_⟩
    rcases List.eq_nil_or_concat l with rfl | ⟨l, x, rfl⟩
    · repeat' first
          | with_reducible apply w_consS
          | with_reducible apply w_nilS
          | with_reducible apply w_asg
          | with_reducible apply w_iff
          | with_reducible apply w_six
          | with_reducible apply w_ret
          | with_reducible apply w_asgt
          | with_reducible apply w_ex
          | with_reducible apply w_retn
          | with_reducible apply w_brk
          | with_reducible apply w_cnt
          | with_reducible apply w_pas
          | with_reducible apply w_T
          | with_reducible apply w_pr
          | with_reducible apply w_cons
          | with_reducible apply w_nil
          | with_reducible apply w_c
          | (with_reducible refine w_v rfl ?_)
          | (with_reducible refine w_rd rfl rfl ?_)
          | (with_reducible refine w_mv rfl rfl ?_)
          | (with_reducible refine w_fz rfl ?_)
          | (with_reducible refine w_io rfl ?_)
          | with_reducible apply w_tup
          | with_reducible apply w_lst
          | with_reducible apply w_dic0
          | with_reducible apply w_frz
          | with_reducible apply w_cl
          | with_reducible apply w_clk
          | with_reducible apply w_nt
          | with_reducible apply w_or1
          | with_reducible apply w_an1
          | with_reducible apply w_or
          | with_reducible apply w_an
          | with_reducible apply w_ite
          | with_reducible apply w_ch
          | with_reducible apply w_itE
          | with_reducible apply w_itR
          | with_reducible apply w_itN
          | with_reducible apply w_csn
          | with_reducible apply w_csc
          | (with_reducible refine w_mu rfl ?_)
          | ((with_reducible apply w_aix); rfl)
          | ((with_reducible apply w_aug); rfl)
          | with_reducible apply w_nxS
          | with_reducible apply w_rtS
          | with_reducible apply w_bkS
          | with_reducible apply w_ctS
          | with_reducible apply r_rt
          | with_reducible apply r_nx
          | with_reducible apply t_nx
          | with_reducible apply t_rt
          | with_reducible apply t_ct
          | with_reducible apply t_bk
          | ((with_reducible apply ex1); exact a_len_prs)
          | with_reducible rfl
          | (with_reducible refine ⟨_, a_eqI, ?_⟩)
          | (with_reducible refine ⟨_, a_neI, ?_⟩)
          | with_reducible apply cd_t
          | with_reducible apply cd_f
          | with_reducible apply cd_t'
          | with_reducible apply cd_f'
          | with_reducible apply cd_not
          | with_reducible apply cd_not'
          | (with_reducible refine cd_eq (fun hc => ?_) (fun hc => ?_) <;> first | (exfalso; omega) | skip)
          | (with_reducible refine cd_dec (fun hc => ?_) (fun hc => ?_) <;> first | (exfalso; omega) | skip)
          | (with_reducible refine cd_eq' (fun hc => ?_) (fun hc => ?_) <;> first | (exfalso; omega) | skip)
          | (with_reducible refine cd_dec' (fun hc => ?_) (fun hc => ?_) <;> first | (exfalso; omega) | skip)
          | (with_reducible refine c_min2 (fun x hx => ?_))
          | (with_reducible refine c_max2 (fun x hx => ?_))
          | ((with_reducible apply ex1); rfl)
          | ((with_reducible apply exB); rfl)
          | ((with_reducible apply ex2); rfl)
          | (with_reducible refine ex_rng1 (by omega) ?_)
          | (with_reducible refine ex_rng2 (by omega) ?_)
          | (with_reducible refine cd_any (fun hc => ?_) (fun hc => ?_) <;> first | (exact absurd hc (by decide)) | skip)
          | (with_reducible refine cd_any' (fun hc => ?_) (fun hc => ?_) <;> first | (exact absurd hc (by decide)) | skip)
          | ((with_reducible apply anB); rfl)
          | (exact ⟨rfl, rfl⟩)
          | fail
      exact absurd rfl hc
    rw [List.concat_eq_append] at *
    have hlen : ((l ++ [x]).length : Int) ≠ 0 := by simp; omega
    rw [treeL_app, Bool.and_eq_true] at hl
    rw [ndsL_app] at hn
    have hx : treeOk x = true := by simpa [treeL] using hl.2
    have hnx : ndsL l + nds x < m + 1 := by simpa [ndsL] using hn
    have hll := len_nds (l := l)
    cases x with
    | fl _ => simp [treeOk] at hx
    | sc _ => simp [treeOk] at hx
    | fd _ _ => simp [treeOk] at hx
    | fi _ _ => simp [treeOk] at hx
    | tup xs =>
      have hxs := len_nds (l := xs)
      have hnx' : ndsL l + (1 + ndsL xs) < m + 1 := hnx
      have hxt : treeL xs = true := hx
      repeat' first
          | with_reducible apply w_consS
          | with_reducible apply w_nilS
          | with_reducible apply w_asg
          | with_reducible apply w_iff
          | with_reducible apply w_six
          | with_reducible apply w_ret
          | with_reducible apply w_asgt
          | with_reducible apply w_ex
          | with_reducible apply w_retn
          | with_reducible apply w_brk
          | with_reducible apply w_cnt
          | with_reducible apply w_pas
          | with_reducible apply w_T
          | with_reducible apply w_pr
          | with_reducible apply w_cons
          | with_reducible apply w_nil
          | with_reducible apply w_c
          | (with_reducible refine w_v rfl ?_)
          | (with_reducible refine w_rd rfl rfl ?_)
          | (with_reducible refine w_mv rfl rfl ?_)
          | (with_reducible refine w_fz rfl ?_)
          | (with_reducible refine w_io rfl ?_)
          | with_reducible apply w_tup
          | with_reducible apply w_lst
          | with_reducible apply w_dic0
          | with_reducible apply w_frz
          | with_reducible apply w_cl
          | with_reducible apply w_clk
          | with_reducible apply w_nt
          | with_reducible apply w_or1
          | with_reducible apply w_an1
          | with_reducible apply w_or
          | with_reducible apply w_an
          | with_reducible apply w_ite
          | with_reducible apply w_ch
          | with_reducible apply w_itE
          | with_reducible apply w_itR
          | with_reducible apply w_itN
          | with_reducible apply w_csn
          | with_reducible apply w_csc
          | (with_reducible refine w_mu rfl ?_)
          | ((with_reducible apply w_aix); rfl)
          | ((with_reducible apply w_aug); rfl)
          | with_reducible apply w_nxS
          | with_reducible apply w_rtS
          | with_reducible apply w_bkS
          | with_reducible apply w_ctS
          | with_reducible apply r_rt
          | with_reducible apply r_nx
          | with_reducible apply t_nx
          | with_reducible apply t_rt
          | with_reducible apply t_ct
          | with_reducible apply t_bk
          | ((with_reducible apply ex1); exact a_len_prs)
          | ((with_reducible apply ex1); exact a_lenT)
          | ((with_reducible apply ex_m); exact pop_prs)
          | (with_reducible refine w_rng (fun a m ρ => ∃ i : Nat, a = i ∧ i + m = xs.length ∧ ∃ k c, ρ = [.d a0, .d a0, prs (l ++ xs.take i), c, .d (.tup xs), .d (.tup xs), k]) ?_)
          | with_reducible rfl
          | (with_reducible refine ⟨_, a_eqI, ?_⟩)
          | (with_reducible refine ⟨_, a_neI, ?_⟩)
          | with_reducible apply cd_t
          | with_reducible apply cd_f
          | with_reducible apply cd_t'
          | with_reducible apply cd_f'
          | with_reducible apply cd_not
          | with_reducible apply cd_not'
          | (with_reducible refine cd_eq (fun hc => ?_) (fun hc => ?_) <;> first | (exfalso; omega) | skip)
          | (with_reducible refine cd_dec (fun hc => ?_) (fun hc => ?_) <;> first | (exfalso; omega) | skip)
          | (with_reducible refine cd_eq' (fun hc => ?_) (fun hc => ?_) <;> first | (exfalso; omega) | skip)
          | (with_reducible refine cd_dec' (fun hc => ?_) (fun hc => ?_) <;> first | (exfalso; omega) | skip)
          | (with_reducible refine c_min2 (fun x hx => ?_))
          | (with_reducible refine c_max2 (fun x hx => ?_))
          | ((with_reducible apply ex1); rfl)
          | ((with_reducible apply exB); rfl)
          | ((with_reducible apply ex2); rfl)
          | (with_reducible refine ex_rng1 (by omega) ?_)
          | (with_reducible refine ex_rng2 (by omega) ?_)
          | (with_reducible refine cd_any (fun hc => ?_) (fun hc => ?_) <;> first | (exact absurd hc (by decide)) | skip)
          | (with_reducible refine cd_any' (fun hc => ?_) (fun hc => ?_) <;> first | (exact absurd hc (by decide)) | skip)
          | ((with_reducible apply anB); rfl)
          | (exact ⟨rfl, rfl⟩)
          | fail
      refine ⟨⟨0, rfl, by omega, _, _, by rw [List.take_zero, List.append_nil]; rfl⟩, ?_, ?_⟩
      · rintro _ ρ ⟨i, rfl, h, k, c, rfl⟩
        rw [List.take_of_length_le (by omega)]
        repeat' first
            | with_reducible apply w_consS
            | with_reducible apply w_nilS
            | with_reducible apply w_asg
            | with_reducible apply w_iff
            | with_reducible apply w_six
            | with_reducible apply w_ret
            | with_reducible apply w_asgt
            | with_reducible apply w_ex
            | with_reducible apply w_retn
            | with_reducible apply w_brk
            | with_reducible apply w_cnt
            | with_reducible apply w_pas
            | with_reducible apply w_T
            | with_reducible apply w_pr
            | with_reducible apply w_cons
            | with_reducible apply w_nil
            | with_reducible apply w_c
            | (with_reducible refine w_v rfl ?_)
            | (with_reducible refine w_rd rfl rfl ?_)
            | (with_reducible refine w_mv rfl rfl ?_)
            | (with_reducible refine w_fz rfl ?_)
            | (with_reducible refine w_io rfl ?_)
            | with_reducible apply w_tup
            | with_reducible apply w_lst
            | with_reducible apply w_dic0
            | with_reducible apply w_frz
            | with_reducible apply w_cl
            | with_reducible apply w_clk
            | with_reducible apply w_nt
            | with_reducible apply w_or1
            | with_reducible apply w_an1
            | with_reducible apply w_or
            | with_reducible apply w_an
            | with_reducible apply w_ite
            | with_reducible apply w_ch
            | with_reducible apply w_itE
            | with_reducible apply w_itR
            | with_reducible apply w_itN
            | with_reducible apply w_csn
            | with_reducible apply w_csc
            | (with_reducible refine w_mu rfl ?_)
            | ((with_reducible apply w_aix); rfl)
            | ((with_reducible apply w_aug); rfl)
            | with_reducible apply w_nxS
            | with_reducible apply w_rtS
            | with_reducible apply w_bkS
            | with_reducible apply w_ctS
            | with_reducible apply r_rt
            | with_reducible apply r_nx
            | with_reducible apply t_nx
            | with_reducible apply t_rt
            | with_reducible apply t_ct
            | with_reducible apply t_bk
            | with_reducible rfl
            | (with_reducible refine ⟨_, a_eqI, ?_⟩)
            | (with_reducible refine ⟨_, a_neI, ?_⟩)
            | with_reducible apply cd_t
            | with_reducible apply cd_f
            | with_reducible apply cd_t'
            | with_reducible apply cd_f'
            | with_reducible apply cd_not
            | with_reducible apply cd_not'
            | (with_reducible refine cd_eq (fun hc => ?_) (fun hc => ?_) <;> first | (exfalso; omega) | skip)
            | (with_reducible refine cd_dec (fun hc => ?_) (fun hc => ?_) <;> first | (exfalso; omega) | skip)
            | (with_reducible refine cd_eq' (fun hc => ?_) (fun hc => ?_) <;> first | (exfalso; omega) | skip)
            | (with_reducible refine cd_dec' (fun hc => ?_) (fun hc => ?_) <;> first | (exfalso; omega) | skip)
            | (with_reducible refine c_min2 (fun x hx => ?_))
            | (with_reducible refine c_max2 (fun x hx => ?_))
            | ((with_reducible apply ex1); rfl)
            | ((with_reducible apply exB); rfl)
            | ((with_reducible apply ex2); rfl)
            | (with_reducible refine ex_rng1 (by omega) ?_)
            | (with_reducible refine ex_rng2 (by omega) ?_)
            | (with_reducible refine cd_any (fun hc => ?_) (fun hc => ?_) <;> first | (exact absurd hc (by decide)) | skip)
            | (with_reducible refine cd_any' (fun hc => ?_) (fun hc => ?_) <;> first | (exact absurd hc (by decide)) | skip)
            | ((with_reducible apply anB); rfl)
            | (exact ⟨rfl, rfl⟩)
            | fail
        exact ⟨l ++ xs, _, _, _, _, rfl, by rw [treeL_app, hl.1, hxt]; rfl, by rw [ndsL_app]; omega, by omega⟩
      · rintro _ m2 ρ ⟨i, rfl, h, k, c, rfl⟩
        have hi : i < xs.length := by omega
        have hx : xs[i]? = some xs[i] := List.getElem?_eq_getElem hi
        have ht : xs.take (i + 1) = xs.take i ++ [xs[i]] := by
          rw [List.take_add_one, hx]; rfl
        refine ⟨_, rfl, ?_⟩
        repeat' first
            | with_reducible apply w_consS
            | with_reducible apply w_nilS
            | with_reducible apply w_asg
            | with_reducible apply w_iff
            | with_reducible apply w_six
            | with_reducible apply w_ret
            | with_reducible apply w_asgt
            | with_reducible apply w_ex
            | with_reducible apply w_retn
            | with_reducible apply w_brk
            | with_reducible apply w_cnt
            | with_reducible apply w_pas
            | with_reducible apply w_T
            | with_reducible apply w_pr
            | with_reducible apply w_cons
            | with_reducible apply w_nil
            | with_reducible apply w_c
            | (with_reducible refine w_v rfl ?_)
            | (with_reducible refine w_rd rfl rfl ?_)
            | (with_reducible refine w_mv rfl rfl ?_)
            | (with_reducible refine w_fz rfl ?_)
            | (with_reducible refine w_io rfl ?_)
            | with_reducible apply w_tup
            | with_reducible apply w_lst
            | with_reducible apply w_dic0
            | with_reducible apply w_frz
            | with_reducible apply w_cl
            | with_reducible apply w_clk
            | with_reducible apply w_nt
            | with_reducible apply w_or1
            | with_reducible apply w_an1
            | with_reducible apply w_or
            | with_reducible apply w_an
            | with_reducible apply w_ite
            | with_reducible apply w_ch
            | with_reducible apply w_itE
            | with_reducible apply w_itR
            | with_reducible apply w_itN
            | with_reducible apply w_csn
            | with_reducible apply w_csc
            | (with_reducible refine w_mu rfl ?_)
            | ((with_reducible apply w_aix); rfl)
            | ((with_reducible apply w_aug); rfl)
            | with_reducible apply w_nxS
            | with_reducible apply w_rtS
            | with_reducible apply w_bkS
            | with_reducible apply w_ctS
            | with_reducible apply r_rt
            | with_reducible apply r_nx
            | with_reducible apply t_nx
            | with_reducible apply t_rt
            | with_reducible apply t_ct
            | with_reducible apply t_bk
            | ((with_reducible apply ex1); exact a_ixD rfl hx)
            | ((with_reducible apply ex_m); exact app_prs (by rw [List.length_append, List.length_take]; omega))
            | with_reducible rfl
            | (with_reducible refine ⟨_, a_eqI, ?_⟩)
            | (with_reducible refine ⟨_, a_neI, ?_⟩)
            | with_reducible apply cd_t
            | with_reducible apply cd_f
            | with_reducible apply cd_t'
            | with_reducible apply cd_f'
            | with_reducible apply cd_not
            | with_reducible apply cd_not'
            | (with_reducible refine cd_eq (fun hc => ?_) (fun hc => ?_) <;> first | (exfalso; omega) | skip)
            | (with_reducible refine cd_dec (fun hc => ?_) (fun hc => ?_) <;> first | (exfalso; omega) | skip)
            | (with_reducible refine cd_eq' (fun hc => ?_) (fun hc => ?_) <;> first | (exfalso; omega) | skip)
            | (with_reducible refine cd_dec' (fun hc => ?_) (fun hc => ?_) <;> first | (exfalso; omega) | skip)
            | (with_reducible refine c_min2 (fun x hx => ?_))
            | (with_reducible refine c_max2 (fun x hx => ?_))
            | ((with_reducible apply ex1); rfl)
            | ((with_reducible apply exB); rfl)
            | ((with_reducible apply ex2); rfl)
            | (with_reducible refine ex_rng1 (by omega) ?_)
            | (with_reducible refine ex_rng2 (by omega) ?_)
            | (with_reducible refine cd_any (fun hc => ?_) (fun hc => ?_) <;> first | (exact absurd hc (by decide)) | skip)
            | (with_reducible refine cd_any' (fun hc => ?_) (fun hc => ?_) <;> first | (exact absurd hc (by decide)) | skip)
            | ((with_reducible apply anB); rfl)
            | (exact ⟨rfl, rfl⟩)
            | fail
        refine ⟨i + 1, rfl, by omega, .d (.int i), c, ?_⟩
        rw [ht, ← List.append_assoc]
        rfl
    | _ =>
      repeat' first
          | with_reducible apply w_consS
          | with_reducible apply w_nilS
          | with_reducible apply w_asg
          | with_reducible apply w_iff
          | with_reducible apply w_six
          | with_reducible apply w_ret
          | with_reducible apply w_asgt
          | with_reducible apply w_ex
          | with_reducible apply w_retn
          | with_reducible apply w_brk
          | with_reducible apply w_cnt
          | with_reducible apply w_pas
          | with_reducible apply w_T
          | with_reducible apply w_pr
          | with_reducible apply w_cons
          | with_reducible apply w_nil
          | with_reducible apply w_c
          | (with_reducible refine w_v rfl ?_)
          | (with_reducible refine w_rd rfl rfl ?_)
          | (with_reducible refine w_mv rfl rfl ?_)
          | (with_reducible refine w_fz rfl ?_)
          | (with_reducible refine w_io rfl ?_)
          | with_reducible apply w_tup
          | with_reducible apply w_lst
          | with_reducible apply w_dic0
          | with_reducible apply w_frz
          | with_reducible apply w_cl
          | with_reducible apply w_clk
          | with_reducible apply w_nt
          | with_reducible apply w_or1
          | with_reducible apply w_an1
          | with_reducible apply w_or
          | with_reducible apply w_an
          | with_reducible apply w_ite
          | with_reducible apply w_ch
          | with_reducible apply w_itE
          | with_reducible apply w_itR
          | with_reducible apply w_itN
          | with_reducible apply w_csn
          | with_reducible apply w_csc
          | (with_reducible refine w_mu rfl ?_)
          | ((with_reducible apply w_aix); rfl)
          | ((with_reducible apply w_aug); rfl)
          | with_reducible apply w_nxS
          | with_reducible apply w_rtS
          | with_reducible apply w_bkS
          | with_reducible apply w_ctS
          | with_reducible apply r_rt
          | with_reducible apply r_nx
          | with_reducible apply t_nx
          | with_reducible apply t_rt
          | with_reducible apply t_ct
          | with_reducible apply t_bk
          | ((with_reducible apply ex1); exact a_len_prs)
          | ((with_reducible apply ex_m); exact pop_prs)
          | ((with_reducible apply ex1); exact a_neSelf hx rfl)
          | (refine ⟨l, _, _, _, _, rfl, hl.1, ?_, by omega⟩; simp [nds] at hnx; omega)
          | with_reducible rfl
          | (with_reducible refine ⟨_, a_eqI, ?_⟩)
          | (with_reducible refine ⟨_, a_neI, ?_⟩)
          | with_reducible apply cd_t
          | with_reducible apply cd_f
          | with_reducible apply cd_t'
          | with_reducible apply cd_f'
          | with_reducible apply cd_not
          | with_reducible apply cd_not'
          | (with_reducible refine cd_eq (fun hc => ?_) (fun hc => ?_) <;> first | (exfalso; omega) | skip)
          | (with_reducible refine cd_dec (fun hc => ?_) (fun hc => ?_) <;> first | (exfalso; omega) | skip)
          | (with_reducible refine cd_eq' (fun hc => ?_) (fun hc => ?_) <;> first | (exfalso; omega) | skip)
          | (with_reducible refine cd_dec' (fun hc => ?_) (fun hc => ?_) <;> first | (exfalso; omega) | skip)
          | (with_reducible refine c_min2 (fun x hx => ?_))
          | (with_reducible refine c_max2 (fun x hx => ?_))
          | ((with_reducible apply ex1); rfl)
          | ((with_reducible apply exB); rfl)
          | ((with_reducible apply ex2); rfl)
          | (with_reducible refine ex_rng1 (by omega) ?_)
          | (with_reducible refine ex_rng2 (by omega) ?_)
          | (with_reducible refine cd_any (fun hc => ?_) (fun hc => ?_) <;> first | (exact absurd hc (by decide)) | skip)
          | (with_reducible refine cd_any' (fun hc => ?_) (fun hc => ?_) <;> first | (exact absurd hc (by decide)) | skip)
          | ((with_reducible apply anB); rfl)
          | (exact ⟨rfl, rfl⟩)
          | fail
end Rt.Pl.k18

set_option Elab.async false
set_option linter.all false
set_option maxRecDepth 100000
set_option maxHeartbeats 2000000
namespace Rt.Pl.k18
open Rt Rt.k18
section
variable {ring : Bool} {n m : Nat} {s e : Nat → Nat}
def TW (kvs : List (D × D)) (T : Nat → Nat → Option (Nat × Nat)) : Prop := ∀ i p, kget kvs (key i p) = (T i p).map fun q => key q.1 q.2
theorem TW.put {kvs : List (D × D)} {T : Nat → Nat → Option (Nat × Nat)} (h : TW kvs T) {a b c d : Nat} : TW (kput kvs (key a b) (key c d)) fun i p => if i = a ∧ p = b then some (c, d) else T i p := by
  intro i p
  rw [kget_kput, beq_key, h i p]
  dsimp only
  by_cases q : i = a ∧ p = b
  · rw [if_pos (by simpa using q), if_pos q]
    rfl
  · rw [if_neg (by simpa using q), if_neg q]
theorem a_get1 {kvs : List (D × D)} {T : Nat → Nat → Option (Nat × Nat)} (h : TW kvs T) {i p : Nat} : app .get1 [.od true kvs, .d (key i p)] = some (.d (optD (T i p))) := by
  show (if keyB true (key i p) then some (PV.d ((kget kvs (key i p)).getD .non)) else none) = _
  rw [if_pos (show keyB true (key i p) = true from rfl), h i p]
  cases T i p <;> rfl
theorem rowkeys_ok (W j : Nat) (k : Ok ring n m s e) : call Pt W (j + 1) 2 [.d (tN n s), .d (tN m e), .d (.bl ring)] = some (.ol ((rowsF n ring s e m).map rowD), [.un, .un, .un]) := by
  suffices H : ∃ r ws, call Pt W (j + 1) 2 [.d (tN n s), .d (tN m e), .d (.bl ring)] = some (r, ws) ∧ (r = .ol ((rowsF n ring s e m).map rowD) ∧ ws = [.un, .un, .un]) by
    obtain ⟨r, ws, e, rfl, rfl⟩ := H
    exact e
  have hmn : m ≤ n := by
    cases h : ring with
    | false => have := k.m1 h; omega
    | true => have := (k.m2 h).1; omega
  have hnb := k.nb
  refine call_ok (fd := f_row_keys) rfl rfl rfl ?_
  unfold f_row_keys
  dsimp only
  repeat' first
      | with_reducible apply w_consS
      | with_reducible apply w_nilS
      | with_reducible apply w_asg
      | with_reducible apply w_iff
      | with_reducible apply w_six
      | with_reducible apply w_ret
      | with_reducible apply w_asgt
      | with_reducible apply w_ex
      | with_reducible apply w_retn
      | with_reducible apply w_brk
      | with_reducible apply w_cnt
      | with_reducible apply w_pas
      | with_reducible apply w_T
      | with_reducible apply w_pr
      | with_reducible apply w_cons
      | with_reducible apply w_nil
      | with_reducible apply w_c
      | (with_reducible refine w_v rfl ?_)
      | (with_reducible refine w_rd rfl rfl ?_)
      | (with_reducible refine w_mv rfl rfl ?_)
      | (with_reducible refine w_fz rfl ?_)
      | (with_reducible refine w_io rfl ?_)
      | with_reducible apply w_tup
      | with_reducible apply w_lst
      | with_reducible apply w_dic0
      | with_reducible apply w_frz
      | with_reducible apply w_cl
      | with_reducible apply w_clk
      | with_reducible apply w_nt
      | with_reducible apply w_or1
      | with_reducible apply w_an1
      | with_reducible apply w_or
      | with_reducible apply w_an
      | with_reducible apply w_ite
      | with_reducible apply w_ch
      | with_reducible apply w_itE
      | with_reducible apply w_itR
      | with_reducible apply w_itN
      | with_reducible apply w_csn
      | with_reducible apply w_csc
      | (with_reducible refine w_mu rfl ?_)
      | ((with_reducible apply w_aix); rfl)
      | ((with_reducible apply w_aug); rfl)
      | with_reducible apply w_nxS
      | with_reducible apply w_rtS
      | with_reducible apply w_bkS
      | with_reducible apply w_ctS
      | with_reducible apply r_rt
      | with_reducible apply r_nx
      | with_reducible apply t_nx
      | with_reducible apply t_rt
      | with_reducible apply t_ct
      | with_reducible apply t_bk
      | (with_reducible refine w_eachN (fun t ρ => ∃ kvs x y z, ρ = [.d (tN n s), .d (tN m e), .d (.bl ring), .od true kvs, x, y, z, .un, .un] ∧ TW kvs (twF n ring e t) ∧ kvs.length ≤ 2 * t ∧ (y = .un ∨ ∃ d, y = .d d)) ?_)
      | with_reducible rfl
      | (with_reducible refine ⟨_, a_eqI, ?_⟩)
      | (with_reducible refine ⟨_, a_neI, ?_⟩)
      | with_reducible apply cd_t
      | with_reducible apply cd_f
      | with_reducible apply cd_t'
      | with_reducible apply cd_f'
      | with_reducible apply cd_not
      | with_reducible apply cd_not'
      | (with_reducible refine cd_eq (fun hc => ?_) (fun hc => ?_) <;> first | (exfalso; omega) | skip)
      | (with_reducible refine cd_dec (fun hc => ?_) (fun hc => ?_) <;> first | (exfalso; omega) | skip)
      | (with_reducible refine cd_eq' (fun hc => ?_) (fun hc => ?_) <;> first | (exfalso; omega) | skip)
      | (with_reducible refine cd_dec' (fun hc => ?_) (fun hc => ?_) <;> first | (exfalso; omega) | skip)
      | (with_reducible refine c_min2 (fun x hx => ?_))
      | (with_reducible refine c_max2 (fun x hx => ?_))
      | ((with_reducible apply ex1); rfl)
      | ((with_reducible apply exB); rfl)
      | ((with_reducible apply ex2); rfl)
      | (with_reducible refine ex_rng1 (by omega) ?_)
      | (with_reducible refine ex_rng2 (by omega) ?_)
      | (with_reducible refine cd_any (fun hc => ?_) (fun hc => ?_) <;> first | (exact absurd hc (by decide)) | skip)
      | (with_reducible refine cd_any' (fun hc => ?_) (fun hc => ?_) <;> first | (exact absurd hc (by decide)) | skip)
      | ((with_reducible apply anB); rfl)
      | (exact ⟨rfl, rfl⟩)
      | fail
  refine ⟨⟨[], _, _, _, rfl, fun _ _ => rfl, by simp, .inl rfl⟩, ?_, ?_⟩
  · rintro ρ ⟨kvs, x, y, z, rfl, h1, h2, h3⟩
    simp only [List.length_map, List.length_zipIdx, List.length_range] at h1 h2
    repeat' first
        | with_reducible apply w_consS
        | with_reducible apply w_nilS
        | with_reducible apply w_asg
        | with_reducible apply w_iff
        | with_reducible apply w_six
        | with_reducible apply w_ret
        | with_reducible apply w_asgt
        | with_reducible apply w_ex
        | with_reducible apply w_retn
        | with_reducible apply w_brk
        | with_reducible apply w_cnt
        | with_reducible apply w_pas
        | with_reducible apply w_T
        | with_reducible apply w_pr
        | with_reducible apply w_cons
        | with_reducible apply w_nil
        | with_reducible apply w_c
        | (with_reducible refine w_v rfl ?_)
        | (with_reducible refine w_rd rfl rfl ?_)
        | (with_reducible refine w_mv rfl rfl ?_)
        | (with_reducible refine w_fz rfl ?_)
        | (with_reducible refine w_io rfl ?_)
        | with_reducible apply w_tup
        | with_reducible apply w_lst
        | with_reducible apply w_dic0
        | with_reducible apply w_frz
        | with_reducible apply w_cl
        | with_reducible apply w_clk
        | with_reducible apply w_nt
        | with_reducible apply w_or1
        | with_reducible apply w_an1
        | with_reducible apply w_or
        | with_reducible apply w_an
        | with_reducible apply w_ite
        | with_reducible apply w_ch
        | with_reducible apply w_itE
        | with_reducible apply w_itR
        | with_reducible apply w_itN
        | with_reducible apply w_csn
        | with_reducible apply w_csc
        | (with_reducible refine w_mu rfl ?_)
        | ((with_reducible apply w_aix); rfl)
        | ((with_reducible apply w_aug); rfl)
        | with_reducible apply w_nxS
        | with_reducible apply w_rtS
        | with_reducible apply w_bkS
        | with_reducible apply w_ctS
        | with_reducible apply r_rt
        | with_reducible apply r_nx
        | with_reducible apply t_nx
        | with_reducible apply t_rt
        | with_reducible apply t_ct
        | with_reducible apply t_bk
        | (with_reducible refine w_eachN (fun t ρ => ∃ x u, ρ = [.d (tN n s), .d (tN m e), .d (.bl ring), .od true kvs, x, y, z, .ol (((List.range t).map (rowF n ring s e m)).map rowD), u]) ?_)
        | with_reducible rfl
        | (with_reducible refine ⟨_, a_eqI, ?_⟩)
        | (with_reducible refine ⟨_, a_neI, ?_⟩)
        | with_reducible apply cd_t
        | with_reducible apply cd_f
        | with_reducible apply cd_t'
        | with_reducible apply cd_f'
        | with_reducible apply cd_not
        | with_reducible apply cd_not'
        | (with_reducible refine cd_eq (fun hc => ?_) (fun hc => ?_) <;> first | (exfalso; omega) | skip)
        | (with_reducible refine cd_dec (fun hc => ?_) (fun hc => ?_) <;> first | (exfalso; omega) | skip)
        | (with_reducible refine cd_eq' (fun hc => ?_) (fun hc => ?_) <;> first | (exfalso; omega) | skip)
        | (with_reducible refine cd_dec' (fun hc => ?_) (fun hc => ?_) <;> first | (exfalso; omega) | skip)
        | (with_reducible refine c_min2 (fun x hx => ?_))
        | (with_reducible refine c_max2 (fun x hx => ?_))
        | ((with_reducible apply ex1); rfl)
        | ((with_reducible apply exB); rfl)
        | ((with_reducible apply ex2); rfl)
        | (with_reducible refine ex_rng1 (by omega) ?_)
        | (with_reducible refine ex_rng2 (by omega) ?_)
        | (with_reducible refine cd_any (fun hc => ?_) (fun hc => ?_) <;> first | (exact absurd hc (by decide)) | skip)
        | (with_reducible refine cd_any' (fun hc => ?_) (fun hc => ?_) <;> first | (exact absurd hc (by decide)) | skip)
        | ((with_reducible apply anB); rfl)
        | (exact ⟨rfl, rfl⟩)
        | fail
    refine ⟨⟨_, _, rfl⟩, ?_, ?_⟩
    · rintro ρ ⟨x, u, rfl⟩
      repeat' first
          | with_reducible apply w_consS
          | with_reducible apply w_nilS
          | with_reducible apply w_asg
          | with_reducible apply w_iff
          | with_reducible apply w_six
          | with_reducible apply w_ret
          | with_reducible apply w_asgt
          | with_reducible apply w_ex
          | with_reducible apply w_retn
          | with_reducible apply w_brk
          | with_reducible apply w_cnt
          | with_reducible apply w_pas
          | with_reducible apply w_T
          | with_reducible apply w_pr
          | with_reducible apply w_cons
          | with_reducible apply w_nil
          | with_reducible apply w_c
          | (with_reducible refine w_v rfl ?_)
          | (with_reducible refine w_rd rfl rfl ?_)
          | (with_reducible refine w_mv rfl rfl ?_)
          | (with_reducible refine w_fz rfl ?_)
          | (with_reducible refine w_io rfl ?_)
          | with_reducible apply w_tup
          | with_reducible apply w_lst
          | with_reducible apply w_dic0
          | with_reducible apply w_frz
          | with_reducible apply w_cl
          | with_reducible apply w_clk
          | with_reducible apply w_nt
          | with_reducible apply w_or1
          | with_reducible apply w_an1
          | with_reducible apply w_or
          | with_reducible apply w_an
          | with_reducible apply w_ite
          | with_reducible apply w_ch
          | with_reducible apply w_itE
          | with_reducible apply w_itR
          | with_reducible apply w_itN
          | with_reducible apply w_csn
          | with_reducible apply w_csc
          | (with_reducible refine w_mu rfl ?_)
          | ((with_reducible apply w_aix); rfl)
          | ((with_reducible apply w_aug); rfl)
          | with_reducible apply w_nxS
          | with_reducible apply w_rtS
          | with_reducible apply w_bkS
          | with_reducible apply w_ctS
          | with_reducible apply r_rt
          | with_reducible apply r_nx
          | with_reducible apply t_nx
          | with_reducible apply t_rt
          | with_reducible apply t_ct
          | with_reducible apply t_bk
          | with_reducible rfl
          | (with_reducible refine ⟨_, a_eqI, ?_⟩)
          | (with_reducible refine ⟨_, a_neI, ?_⟩)
          | with_reducible apply cd_t
          | with_reducible apply cd_f
          | with_reducible apply cd_t'
          | with_reducible apply cd_f'
          | with_reducible apply cd_not
          | with_reducible apply cd_not'
          | (with_reducible refine cd_eq (fun hc => ?_) (fun hc => ?_) <;> first | (exfalso; omega) | skip)
          | (with_reducible refine cd_dec (fun hc => ?_) (fun hc => ?_) <;> first | (exfalso; omega) | skip)
          | (with_reducible refine cd_eq' (fun hc => ?_) (fun hc => ?_) <;> first | (exfalso; omega) | skip)
          | (with_reducible refine cd_dec' (fun hc => ?_) (fun hc => ?_) <;> first | (exfalso; omega) | skip)
          | (with_reducible refine c_min2 (fun x hx => ?_))
          | (with_reducible refine c_max2 (fun x hx => ?_))
          | ((with_reducible apply ex1); rfl)
          | ((with_reducible apply exB); rfl)
          | ((with_reducible apply ex2); rfl)
          | (with_reducible refine ex_rng1 (by omega) ?_)
          | (with_reducible refine ex_rng2 (by omega) ?_)
          | (with_reducible refine cd_any (fun hc => ?_) (fun hc => ?_) <;> first | (exact absurd hc (by decide)) | skip)
          | (with_reducible refine cd_any' (fun hc => ?_) (fun hc => ?_) <;> first | (exact absurd hc (by decide)) | skip)
          | ((with_reducible apply anB); rfl)
          | (exact ⟨rfl, rfl⟩)
          | fail
      simp only [List.length_map, List.length_zipIdx, List.length_range]
      exact ⟨rfl, rfl⟩
    · rintro t ht ρ ⟨x, u, rfl⟩
      have ht' : t < n := by simpa using ht
      have hs := k.s1 t ht'
      have et : (List.map (fun p => PV.d (D.tup [D.int ↑p.snd, p.fst])) ((List.range n).map fun i => D.int ↑(s i)).zipIdx)[t]'ht = .d (.tup [.int t, .int (s t)]) := by simp
      rw [et]
      refine ⟨_, rfl, ?_⟩
      repeat' first
          | with_reducible apply w_consS
          | with_reducible apply w_nilS
          | with_reducible apply w_asg
          | with_reducible apply w_iff
          | with_reducible apply w_six
          | with_reducible apply w_ret
          | with_reducible apply w_asgt
          | with_reducible apply w_ex
          | with_reducible apply w_retn
          | with_reducible apply w_brk
          | with_reducible apply w_cnt
          | with_reducible apply w_pas
          | with_reducible apply w_T
          | with_reducible apply w_pr
          | with_reducible apply w_cons
          | with_reducible apply w_nil
          | with_reducible apply w_c
          | (with_reducible refine w_v rfl ?_)
          | (with_reducible refine w_rd rfl rfl ?_)
          | (with_reducible refine w_mv rfl rfl ?_)
          | (with_reducible refine w_fz rfl ?_)
          | (with_reducible refine w_io rfl ?_)
          | with_reducible apply w_tup
          | with_reducible apply w_lst
          | with_reducible apply w_dic0
          | with_reducible apply w_frz
          | with_reducible apply w_cl
          | with_reducible apply w_clk
          | with_reducible apply w_nt
          | with_reducible apply w_or1
          | with_reducible apply w_an1
          | with_reducible apply w_or
          | with_reducible apply w_an
          | with_reducible apply w_ite
          | with_reducible apply w_ch
          | with_reducible apply w_itE
          | with_reducible apply w_itR
          | with_reducible apply w_itN
          | with_reducible apply w_csn
          | with_reducible apply w_csc
          | (with_reducible refine w_mu rfl ?_)
          | ((with_reducible apply w_aix); rfl)
          | ((with_reducible apply w_aug); rfl)
          | with_reducible apply w_nxS
          | with_reducible apply w_rtS
          | with_reducible apply w_bkS
          | with_reducible apply w_ctS
          | with_reducible apply r_rt
          | with_reducible apply r_nx
          | with_reducible apply t_nx
          | with_reducible apply t_rt
          | with_reducible apply t_ct
          | with_reducible apply t_bk
          | (with_reducible refine w_lcD (fun p acc ρ => acc = (List.range p).map (fun p => pr2 (key t p, optD (twF n ring e m t p))) ∧ ∃ v, ρ = [.d (tN n s), .d (tN m e), .d (.bl ring), .od true kvs, .d (.int t), v, z, .ol (((List.range t).map (rowF n ring s e m)).map rowD), .d (.int (s t))]) ?_)
          | with_reducible rfl
          | (with_reducible refine ⟨_, a_eqI, ?_⟩)
          | (with_reducible refine ⟨_, a_neI, ?_⟩)
          | with_reducible apply cd_t
          | with_reducible apply cd_f
          | with_reducible apply cd_t'
          | with_reducible apply cd_f'
          | with_reducible apply cd_not
          | with_reducible apply cd_not'
          | (with_reducible refine cd_eq (fun hc => ?_) (fun hc => ?_) <;> first | (exfalso; omega) | skip)
          | (with_reducible refine cd_dec (fun hc => ?_) (fun hc => ?_) <;> first | (exfalso; omega) | skip)
          | (with_reducible refine cd_eq' (fun hc => ?_) (fun hc => ?_) <;> first | (exfalso; omega) | skip)
          | (with_reducible refine cd_dec' (fun hc => ?_) (fun hc => ?_) <;> first | (exfalso; omega) | skip)
          | (with_reducible refine c_min2 (fun x hx => ?_))
          | (with_reducible refine c_max2 (fun x hx => ?_))
          | ((with_reducible apply ex1); rfl)
          | ((with_reducible apply exB); rfl)
          | ((with_reducible apply ex2); rfl)
          | (with_reducible refine ex_rng1 (by omega) ?_)
          | (with_reducible refine ex_rng2 (by omega) ?_)
          | (with_reducible refine cd_any (fun hc => ?_) (fun hc => ?_) <;> first | (exact absurd hc (by decide)) | skip)
          | (with_reducible refine cd_any' (fun hc => ?_) (fun hc => ?_) <;> first | (exact absurd hc (by decide)) | skip)
          | ((with_reducible apply anB); rfl)
          | (exact ⟨rfl, rfl⟩)
          | fail
      refine ⟨?_, ⟨rfl, _, rfl⟩, ?_, ?_⟩
      · rcases h3 with rfl | ⟨d, rfl⟩ <;> rfl
      · rintro p hp acc ρ ⟨rfl, v, rfl⟩
        have hp' : p < s t := by simpa [rngL_len] using hp
        rw [rngL_get]
        rw [Int.zero_add]
        refine ⟨_, rfl, ?_⟩
        repeat' first
            | with_reducible apply w_consS
            | with_reducible apply w_nilS
            | with_reducible apply w_asg
            | with_reducible apply w_iff
            | with_reducible apply w_six
            | with_reducible apply w_ret
            | with_reducible apply w_asgt
            | with_reducible apply w_ex
            | with_reducible apply w_retn
            | with_reducible apply w_brk
            | with_reducible apply w_cnt
            | with_reducible apply w_pas
            | with_reducible apply w_T
            | with_reducible apply w_pr
            | with_reducible apply w_cons
            | with_reducible apply w_nil
            | with_reducible apply w_c
            | (with_reducible refine w_v rfl ?_)
            | (with_reducible refine w_rd rfl rfl ?_)
            | (with_reducible refine w_mv rfl rfl ?_)
            | (with_reducible refine w_fz rfl ?_)
            | (with_reducible refine w_io rfl ?_)
            | with_reducible apply w_tup
            | with_reducible apply w_lst
            | with_reducible apply w_dic0
            | with_reducible apply w_frz
            | with_reducible apply w_cl
            | with_reducible apply w_clk
            | with_reducible apply w_nt
            | with_reducible apply w_or1
            | with_reducible apply w_an1
            | with_reducible apply w_or
            | with_reducible apply w_an
            | with_reducible apply w_ite
            | with_reducible apply w_ch
            | with_reducible apply w_itE
            | with_reducible apply w_itR
            | with_reducible apply w_itN
            | with_reducible apply w_csn
            | with_reducible apply w_csc
            | (with_reducible refine w_mu rfl ?_)
            | ((with_reducible apply w_aix); rfl)
            | ((with_reducible apply w_aug); rfl)
            | with_reducible apply w_nxS
            | with_reducible apply w_rtS
            | with_reducible apply w_bkS
            | with_reducible apply w_ctS
            | with_reducible apply r_rt
            | with_reducible apply r_nx
            | with_reducible apply t_nx
            | with_reducible apply t_rt
            | with_reducible apply t_ct
            | with_reducible apply t_bk
            | ((with_reducible apply ex1); exact a_get1 h1 (i := t) (p := p))
            | with_reducible rfl
            | (with_reducible refine ⟨_, a_eqI, ?_⟩)
            | (with_reducible refine ⟨_, a_neI, ?_⟩)
            | with_reducible apply cd_t
            | with_reducible apply cd_f
            | with_reducible apply cd_t'
            | with_reducible apply cd_f'
            | with_reducible apply cd_not
            | with_reducible apply cd_not'
            | (with_reducible refine cd_eq (fun hc => ?_) (fun hc => ?_) <;> first | (exfalso; omega) | skip)
            | (with_reducible refine cd_dec (fun hc => ?_) (fun hc => ?_) <;> first | (exfalso; omega) | skip)
            | (with_reducible refine cd_eq' (fun hc => ?_) (fun hc => ?_) <;> first | (exfalso; omega) | skip)
            | (with_reducible refine cd_dec' (fun hc => ?_) (fun hc => ?_) <;> first | (exfalso; omega) | skip)
            | (with_reducible refine c_min2 (fun x hx => ?_))
            | (with_reducible refine c_max2 (fun x hx => ?_))
            | ((with_reducible apply ex1); rfl)
            | ((with_reducible apply exB); rfl)
            | ((with_reducible apply ex2); rfl)
            | (with_reducible refine ex_rng1 (by omega) ?_)
            | (with_reducible refine ex_rng2 (by omega) ?_)
            | (with_reducible refine cd_any (fun hc => ?_) (fun hc => ?_) <;> first | (exact absurd hc (by decide)) | skip)
            | (with_reducible refine cd_any' (fun hc => ?_) (fun hc => ?_) <;> first | (exact absurd hc (by decide)) | skip)
            | ((with_reducible apply anB); rfl)
            | (exact ⟨rfl, rfl⟩)
            | fail
        refine ⟨_, rfl, ?_, _, rfl⟩
        rw [List.range_succ, List.map_append]
        rfl
      · rintro acc ρ ⟨rfl, v, rfl⟩
        have hlen : (List.map PV.d (rngL 1 0 (s t : Int).toNat)).length = s t := by simp [rngL_len]
        rw [hlen]
        refine ⟨by simp [szB]; omega, ?_⟩
        repeat' first
            | with_reducible apply w_consS
            | with_reducible apply w_nilS
            | with_reducible apply w_asg
            | with_reducible apply w_iff
            | with_reducible apply w_six
            | with_reducible apply w_ret
            | with_reducible apply w_asgt
            | with_reducible apply w_ex
            | with_reducible apply w_retn
            | with_reducible apply w_brk
            | with_reducible apply w_cnt
            | with_reducible apply w_pas
            | with_reducible apply w_T
            | with_reducible apply w_pr
            | with_reducible apply w_cons
            | with_reducible apply w_nil
            | with_reducible apply w_c
            | (with_reducible refine w_v rfl ?_)
            | (with_reducible refine w_rd rfl rfl ?_)
            | (with_reducible refine w_mv rfl rfl ?_)
            | (with_reducible refine w_fz rfl ?_)
            | (with_reducible refine w_io rfl ?_)
            | with_reducible apply w_tup
            | with_reducible apply w_lst
            | with_reducible apply w_dic0
            | with_reducible apply w_frz
            | with_reducible apply w_cl
            | with_reducible apply w_clk
            | with_reducible apply w_nt
            | with_reducible apply w_or1
            | with_reducible apply w_an1
            | with_reducible apply w_or
            | with_reducible apply w_an
            | with_reducible apply w_ite
            | with_reducible apply w_ch
            | with_reducible apply w_itE
            | with_reducible apply w_itR
            | with_reducible apply w_itN
            | with_reducible apply w_csn
            | with_reducible apply w_csc
            | (with_reducible refine w_mu rfl ?_)
            | ((with_reducible apply w_aix); rfl)
            | ((with_reducible apply w_aug); rfl)
            | with_reducible apply w_nxS
            | with_reducible apply w_rtS
            | with_reducible apply w_bkS
            | with_reducible apply w_ctS
            | with_reducible apply r_rt
            | with_reducible apply r_nx
            | with_reducible apply t_nx
            | with_reducible apply t_rt
            | with_reducible apply t_ct
            | with_reducible apply t_bk
            | ((with_reducible apply ex_m); exact m_append (by simp; omega))
            | with_reducible rfl
            | (with_reducible refine ⟨_, a_eqI, ?_⟩)
            | (with_reducible refine ⟨_, a_neI, ?_⟩)
            | with_reducible apply cd_t
            | with_reducible apply cd_f
            | with_reducible apply cd_t'
            | with_reducible apply cd_f'
            | with_reducible apply cd_not
            | with_reducible apply cd_not'
            | (with_reducible refine cd_eq (fun hc => ?_) (fun hc => ?_) <;> first | (exfalso; omega) | skip)
            | (with_reducible refine cd_dec (fun hc => ?_) (fun hc => ?_) <;> first | (exfalso; omega) | skip)
            | (with_reducible refine cd_eq' (fun hc => ?_) (fun hc => ?_) <;> first | (exfalso; omega) | skip)
            | (with_reducible refine cd_dec' (fun hc => ?_) (fun hc => ?_) <;> first | (exfalso; omega) | skip)
            | (with_reducible refine c_min2 (fun x hx => ?_))
            | (with_reducible refine c_max2 (fun x hx => ?_))
            | ((with_reducible apply ex1); rfl)
            | ((with_reducible apply exB); rfl)
            | ((with_reducible apply ex2); rfl)
            | (with_reducible refine ex_rng1 (by omega) ?_)
            | (with_reducible refine ex_rng2 (by omega) ?_)
            | (with_reducible refine cd_any (fun hc => ?_) (fun hc => ?_) <;> first | (exact absurd hc (by decide)) | skip)
            | (with_reducible refine cd_any' (fun hc => ?_) (fun hc => ?_) <;> first | (exact absurd hc (by decide)) | skip)
            | ((with_reducible apply anB); rfl)
            | (exact ⟨rfl, rfl⟩)
            | fail
        refine ⟨.d (.int t), .d (.int (s t)), ?_⟩
        have er : ((List.range (t + 1)).map (rowF n ring s e m)).map rowD = ((List.range t).map (rowF n ring s e m)).map rowD ++ [.fl ((List.range (s t)).map fun p => pr2 (key t p, optD (twF n ring e m t p)))] := by
          rw [List.range_succ, List.map_append, List.map_append]
          simp only [List.map_cons, List.map_nil, rowD, rowF, List.map_map]
          rfl
        rw [er]
        rfl
  · rintro t ht ρ ⟨kvs, x, y, z, rfl, h1, h2, h3⟩
    have ht' : t < m := by simpa using ht
    have et : (List.map (fun p => PV.d (D.tup [D.int ↑p.snd, p.fst])) ((List.range m).map fun i => D.int ↑(e i)).zipIdx)[t]'ht = .d (.tup [.int t, .int (e t)]) := by simp
    rw [et]
    refine ⟨_, rfl, ?_⟩
    have hkl : kvs.length < 16777216 := by omega
    have hq : ring = true ∨ t + 1 < n := by
      cases h : ring with
      | false => have := k.m1 h; exact .inr (by omega)
      | true => exact .inl rfl
    have hkl2 : ∀ x v, (kput kvs x v).length < 16777216 := fun x v => by
      have := kput_len (x := x) (v := v) (l := kvs)
      omega
    have fin : ∀ (kvs' : List (D × D)) (g x : Nat) w, g = goalOf n t → kvs' = kput (kput kvs (key t (e t)) (key g 0)) (key g 0) (key t (e t)) → (ring = true ∨ t + 1 < n) → ∃ kvs x y z, ([.d (tN n s), .d (tN m e), .d (.bl ring), .od true kvs', .d (.int t), .d (.int (e t)), .d (.int w), .un, .un] : Env) = [.d (tN n s), .d (tN m e), .d (.bl ring), .od true kvs, x, y, z, .un, .un] ∧ TW kvs (twF n ring e (t + 1)) ∧ kvs.length ≤ 2 * (t + 1) ∧ (y = .un ∨ ∃ d, y = .d d) := by
      rintro kvs' g x w rfl rfl hr
      refine ⟨_, _, _, _, rfl, ?_, ?_, .inr ⟨_, rfl⟩⟩
      · have := (h1.put (a := t) (b := e t) (c := goalOf n t) (d := 0)).put (a := goalOf n t) (b := 0) (c := t) (d := e t)
        intro i p
        rw [this i p]
        dsimp only
        rw [twF, if_pos hr]
      · have h4 := kput_len (x := key t (e t)) (v := key (goalOf n t) 0) (l := kvs)
        have h5 := kput_len (x := key (goalOf n t) 0) (v := key t (e t)) (l := kput kvs (key t (e t)) (key (goalOf n t) 0))
        omega
    repeat' first
        | with_reducible apply w_consS
        | with_reducible apply w_nilS
        | with_reducible apply w_asg
        | with_reducible apply w_iff
        | with_reducible apply w_six
        | with_reducible apply w_ret
        | with_reducible apply w_asgt
        | with_reducible apply w_ex
        | with_reducible apply w_retn
        | with_reducible apply w_brk
        | with_reducible apply w_cnt
        | with_reducible apply w_pas
        | with_reducible apply w_T
        | with_reducible apply w_pr
        | with_reducible apply w_cons
        | with_reducible apply w_nil
        | with_reducible apply w_c
        | (with_reducible refine w_v rfl ?_)
        | (with_reducible refine w_rd rfl rfl ?_)
        | (with_reducible refine w_mv rfl rfl ?_)
        | (with_reducible refine w_fz rfl ?_)
        | (with_reducible refine w_io rfl ?_)
        | with_reducible apply w_tup
        | with_reducible apply w_lst
        | with_reducible apply w_dic0
        | with_reducible apply w_frz
        | with_reducible apply w_cl
        | with_reducible apply w_clk
        | with_reducible apply w_nt
        | with_reducible apply w_or1
        | with_reducible apply w_an1
        | with_reducible apply w_or
        | with_reducible apply w_an
        | with_reducible apply w_ite
        | with_reducible apply w_ch
        | with_reducible apply w_itE
        | with_reducible apply w_itR
        | with_reducible apply w_itN
        | with_reducible apply w_csn
        | with_reducible apply w_csc
        | (with_reducible refine w_mu rfl ?_)
        | ((with_reducible apply w_aix); rfl)
        | ((with_reducible apply w_aug); rfl)
        | with_reducible apply w_nxS
        | with_reducible apply w_rtS
        | with_reducible apply w_bkS
        | with_reducible apply w_ctS
        | with_reducible apply r_rt
        | with_reducible apply r_nx
        | with_reducible apply t_nx
        | with_reducible apply t_rt
        | with_reducible apply t_ct
        | with_reducible apply t_bk
        | ((with_reducible apply ex1); exact a_lenN)
        | ((with_reducible apply ex1); exact s_put (t := true) rfl hkl)
        | ((with_reducible apply ex1); exact s_put (t := true) rfl (hkl2 _ _))
        | with_reducible rfl
        | (with_reducible refine ⟨_, a_eqI, ?_⟩)
        | (with_reducible refine ⟨_, a_neI, ?_⟩)
        | with_reducible apply cd_t
        | with_reducible apply cd_f
        | with_reducible apply cd_t'
        | with_reducible apply cd_f'
        | with_reducible apply cd_not
        | with_reducible apply cd_not'
        | (with_reducible refine cd_eq (fun hc => ?_) (fun hc => ?_) <;> first | (exfalso; omega) | skip)
        | (with_reducible refine cd_dec (fun hc => ?_) (fun hc => ?_) <;> first | (exfalso; omega) | skip)
        | (with_reducible refine cd_eq' (fun hc => ?_) (fun hc => ?_) <;> first | (exfalso; omega) | skip)
        | (with_reducible refine cd_dec' (fun hc => ?_) (fun hc => ?_) <;> first | (exfalso; omega) | skip)
        | (with_reducible refine c_min2 (fun x hx => ?_))
        | (with_reducible refine c_max2 (fun x hx => ?_))
        | ((with_reducible apply ex1); rfl)
        | ((with_reducible apply exB); rfl)
        | ((with_reducible apply ex2); rfl)
        | (with_reducible refine ex_rng1 (by omega) ?_)
        | (with_reducible refine ex_rng2 (by omega) ?_)
        | (with_reducible refine cd_any (fun hc => ?_) (fun hc => ?_) <;> first | (exact absurd hc (by decide)) | skip)
        | (with_reducible refine cd_any' (fun hc => ?_) (fun hc => ?_) <;> first | (exact absurd hc (by decide)) | skip)
        | ((with_reducible apply anB); rfl)
        | (exact ⟨rfl, rfl⟩)
        | fail
    all_goals first
      | (exact fin _ (t + 1) 0 _ (if_pos (by omega)).symm rfl (.inr (by omega)))
      | (exact fin _ 0 0 _ (if_neg (by omega)).symm rfl (.inl (by assumption)))
      | (exfalso; rcases hq with hq | hq <;> simp_all; done)
      | (exfalso; rcases hq with hq | hq <;> first | omega | (simp_all; done))
end
end Rt.Pl.k18

set_option Elab.async false
set_option linter.all false
set_option maxRecDepth 100000
set_option maxHeartbeats 2000000
namespace Rt.Pl.k18
open Rt Rt.k18
section
variable {ring : Bool} {n m : Nat} {s e : Nat → Nat}
theorem rowsF_mem (k : Ok ring n m s e) : ∀ r ∈ rowsF n ring s e m, (∀ p ∈ r, keyT p.1 = true ∧ (p.2 = .non ∨ keyT p.2 = true)) ∧ r.length ≤ 20 := by
  intro r hr
  obtain ⟨i, hi, rfl⟩ := List.mem_map.mp hr
  have := k.s1 i (List.mem_range.mp hi)
  refine ⟨?_, by simp [rowF]; omega⟩
  intro p hp
  obtain ⟨q, hq, rfl⟩ := List.mem_map.mp hp
  refine ⟨rfl, ?_⟩
  show optD (twF n ring e m i q) = .non ∨ keyT (optD (twF n ring e m i q)) = true
  cases twF n ring e m i q with
  | none => exact .inl rfl
  | some q => exact .inr rfl
def bd (ring : Bool) (n : Nat) (s e : Nat → Nat) : D := tT (ord (faceL ring n s e n).1)
theorem ord_ok (W j f : Nat) (hf : Pt f = some inOrderFn) (k : Ok ring n m s e) : call Pt W (j + 1) f [.d (.fl ((faceL ring n s e n).1.map fI))] = some (.d (bd ring n s e), [.un]) := by
  refine inorder_ok hf (fun l hl => ?_) ?_
  · have := faceL_mem k l hl
    refine ⟨fun h => ?_, by omega⟩
    rw [h] at this
    simp at this
  · rw [faceL_len]; have := k.nb; omega
theorem num_ok (W j : Nat) (k : Ok ring n m s e) : call Pt W (j + 1) 1 [.d (.fl ((rowsF n ring s e m).map rowD))] = some (.ol ((faceL ring n s e n).1.map fI), [.un]) := by
  rw [← faces_eq k]
  have hl : (rowsF n ring s e m).length = n := by simp [rowsF]
  have := k.nb
  exact numbered_ok rfl (fun r hr => (rowsF_mem k r hr).1) 20 (fun r hr => (rowsF_mem k r hr).2) (by omega) (by omega)
theorem rowboard_ok (W j : Nat) (k : Ok false n m s e) : call Pt W (j + 2) 3 [.d (tN n s), .d (tN m e)] = some (.d (bd false n s e), [.un, .un]) := by
  suffices H : ∃ r ws, call Pt W (j + 2) 3 [.d (tN n s), .d (tN m e)] = some (r, ws) ∧ (r = .d (bd false n s e) ∧ ws = [.un, .un]) by
    obtain ⟨r, ws, e, rfl, rfl⟩ := H
    exact e
  refine call_ok (fd := f_row_board) rfl rfl rfl ?_
  unfold f_row_board
  dsimp only
  repeat' first
      | with_reducible apply w_consS
      | with_reducible apply w_nilS
      | with_reducible apply w_asg
      | with_reducible apply w_iff
      | with_reducible apply w_six
      | with_reducible apply w_ret
      | with_reducible apply w_asgt
      | with_reducible apply w_ex
      | with_reducible apply w_retn
      | with_reducible apply w_brk
      | with_reducible apply w_cnt
      | with_reducible apply w_pas
      | with_reducible apply w_T
      | with_reducible apply w_pr
      | with_reducible apply w_cons
      | with_reducible apply w_nil
      | with_reducible apply w_c
      | (with_reducible refine w_v rfl ?_)
      | (with_reducible refine w_rd rfl rfl ?_)
      | (with_reducible refine w_mv rfl rfl ?_)
      | (with_reducible refine w_fz rfl ?_)
      | (with_reducible refine w_io rfl ?_)
      | with_reducible apply w_tup
      | with_reducible apply w_lst
      | with_reducible apply w_dic0
      | with_reducible apply w_frz
      | with_reducible apply w_cl
      | with_reducible apply w_clk
      | with_reducible apply w_nt
      | with_reducible apply w_or1
      | with_reducible apply w_an1
      | with_reducible apply w_or
      | with_reducible apply w_an
      | with_reducible apply w_ite
      | with_reducible apply w_ch
      | with_reducible apply w_itE
      | with_reducible apply w_itR
      | with_reducible apply w_itN
      | with_reducible apply w_csn
      | with_reducible apply w_csc
      | (with_reducible refine w_mu rfl ?_)
      | ((with_reducible apply w_aix); rfl)
      | ((with_reducible apply w_aug); rfl)
      | with_reducible apply w_nxS
      | with_reducible apply w_rtS
      | with_reducible apply w_bkS
      | with_reducible apply w_ctS
      | with_reducible apply r_rt
      | with_reducible apply r_nx
      | with_reducible apply t_nx
      | with_reducible apply t_rt
      | with_reducible apply t_ct
      | with_reducible apply t_bk
      | ((with_reducible refine ex_call (rowkeys_ok W j k) ?_ ?_); rfl)
      | ((with_reducible refine ex_call (num_ok W j k) ?_ ?_); rfl)
      | ((with_reducible refine ex_call (ord_ok W j 0 rfl k) ?_ ?_); rfl)
      | with_reducible rfl
      | (with_reducible refine ⟨_, a_eqI, ?_⟩)
      | (with_reducible refine ⟨_, a_neI, ?_⟩)
      | with_reducible apply cd_t
      | with_reducible apply cd_f
      | with_reducible apply cd_t'
      | with_reducible apply cd_f'
      | with_reducible apply cd_not
      | with_reducible apply cd_not'
      | (with_reducible refine cd_eq (fun hc => ?_) (fun hc => ?_) <;> first | (exfalso; omega) | skip)
      | (with_reducible refine cd_dec (fun hc => ?_) (fun hc => ?_) <;> first | (exfalso; omega) | skip)
      | (with_reducible refine cd_eq' (fun hc => ?_) (fun hc => ?_) <;> first | (exfalso; omega) | skip)
      | (with_reducible refine cd_dec' (fun hc => ?_) (fun hc => ?_) <;> first | (exfalso; omega) | skip)
      | (with_reducible refine c_min2 (fun x hx => ?_))
      | (with_reducible refine c_max2 (fun x hx => ?_))
      | ((with_reducible apply ex1); rfl)
      | ((with_reducible apply exB); rfl)
      | ((with_reducible apply ex2); rfl)
      | (with_reducible refine ex_rng1 (by omega) ?_)
      | (with_reducible refine ex_rng2 (by omega) ?_)
      | (with_reducible refine cd_any (fun hc => ?_) (fun hc => ?_) <;> first | (exact absurd hc (by decide)) | skip)
      | (with_reducible refine cd_any' (fun hc => ?_) (fun hc => ?_) <;> first | (exact absurd hc (by decide)) | skip)
      | ((with_reducible apply anB); rfl)
      | (exact ⟨rfl, rfl⟩)
      | fail
theorem ringboard_ok (W j : Nat) (k : Ok true n m s e) : call Pt W (j + 2) 4 [.d (tN n s), .d (tN m e)] = some (.d (bd true n s e), [.un, .un]) := by
  suffices H : ∃ r ws, call Pt W (j + 2) 4 [.d (tN n s), .d (tN m e)] = some (r, ws) ∧ (r = .d (bd true n s e) ∧ ws = [.un, .un]) by
    obtain ⟨r, ws, e, rfl, rfl⟩ := H
    exact e
  refine call_ok (fd := f_ring_board) rfl rfl rfl ?_
  unfold f_ring_board
  dsimp only
  repeat' first
      | with_reducible apply w_consS
      | with_reducible apply w_nilS
      | with_reducible apply w_asg
      | with_reducible apply w_iff
      | with_reducible apply w_six
      | with_reducible apply w_ret
      | with_reducible apply w_asgt
      | with_reducible apply w_ex
      | with_reducible apply w_retn
      | with_reducible apply w_brk
      | with_reducible apply w_cnt
      | with_reducible apply w_pas
      | with_reducible apply w_T
      | with_reducible apply w_pr
      | with_reducible apply w_cons
      | with_reducible apply w_nil
      | with_reducible apply w_c
      | (with_reducible refine w_v rfl ?_)
      | (with_reducible refine w_rd rfl rfl ?_)
      | (with_reducible refine w_mv rfl rfl ?_)
      | (with_reducible refine w_fz rfl ?_)
      | (with_reducible refine w_io rfl ?_)
      | with_reducible apply w_tup
      | with_reducible apply w_lst
      | with_reducible apply w_dic0
      | with_reducible apply w_frz
      | with_reducible apply w_cl
      | with_reducible apply w_clk
      | with_reducible apply w_nt
      | with_reducible apply w_or1
      | with_reducible apply w_an1
      | with_reducible apply w_or
      | with_reducible apply w_an
      | with_reducible apply w_ite
      | with_reducible apply w_ch
      | with_reducible apply w_itE
      | with_reducible apply w_itR
      | with_reducible apply w_itN
      | with_reducible apply w_csn
      | with_reducible apply w_csc
      | (with_reducible refine w_mu rfl ?_)
      | ((with_reducible apply w_aix); rfl)
      | ((with_reducible apply w_aug); rfl)
      | with_reducible apply w_nxS
      | with_reducible apply w_rtS
      | with_reducible apply w_bkS
      | with_reducible apply w_ctS
      | with_reducible apply r_rt
      | with_reducible apply r_nx
      | with_reducible apply t_nx
      | with_reducible apply t_rt
      | with_reducible apply t_ct
      | with_reducible apply t_bk
      | ((with_reducible refine ex_call (rowkeys_ok W j k) ?_ ?_); rfl)
      | ((with_reducible refine ex_call (num_ok W j k) ?_ ?_); rfl)
      | ((with_reducible refine ex_call (ord_ok W j 0 rfl k) ?_ ?_); rfl)
      | with_reducible rfl
      | (with_reducible refine ⟨_, a_eqI, ?_⟩)
      | (with_reducible refine ⟨_, a_neI, ?_⟩)
      | with_reducible apply cd_t
      | with_reducible apply cd_f
      | with_reducible apply cd_t'
      | with_reducible apply cd_f'
      | with_reducible apply cd_not
      | with_reducible apply cd_not'
      | (with_reducible refine cd_eq (fun hc => ?_) (fun hc => ?_) <;> first | (exfalso; omega) | skip)
      | (with_reducible refine cd_dec (fun hc => ?_) (fun hc => ?_) <;> first | (exfalso; omega) | skip)
      | (with_reducible refine cd_eq' (fun hc => ?_) (fun hc => ?_) <;> first | (exfalso; omega) | skip)
      | (with_reducible refine cd_dec' (fun hc => ?_) (fun hc => ?_) <;> first | (exfalso; omega) | skip)
      | (with_reducible refine c_min2 (fun x hx => ?_))
      | (with_reducible refine c_max2 (fun x hx => ?_))
      | ((with_reducible apply ex1); rfl)
      | ((with_reducible apply exB); rfl)
      | ((with_reducible apply ex2); rfl)
      | (with_reducible refine ex_rng1 (by omega) ?_)
      | (with_reducible refine ex_rng2 (by omega) ?_)
      | (with_reducible refine cd_any (fun hc => ?_) (fun hc => ?_) <;> first | (exact absurd hc (by decide)) | skip)
      | (with_reducible refine cd_any' (fun hc => ?_) (fun hc => ?_) <;> first | (exact absurd hc (by decide)) | skip)
      | ((with_reducible apply anB); rfl)
      | (exact ⟨rfl, rfl⟩)
      | fail
theorem prev_ok (k : Ok ring n m s e) {t : Nat} (h : 0 < t) (ht : t < n) : ∃ v, (face ring n s e (t - 1))[e (t - 1)]? = some v ∧ ∀ p, p = 0 → ent ring n e (faceL ring n s e t).1 t p = some (v + 1) := by
  have hm : t - 1 < m := by
    cases h : ring with
    | false => have := k.m1 h; omega
    | true => have := (k.m2 h).1; omega
  obtain ⟨v, hv, _⟩ := exit_even k hm (by omega)
  refine ⟨v, hv, ?_⟩
  rintro p rfl
  unfold ent
  rw [if_pos ⟨h, rfl⟩]
  have q := faceL_get (ring := ring) (n := n) (s := s) (e := e) (i := t) (a := t - 1) (by omega)
  simp only [List.getD_eq_getElem?_getD]
  rw [q]
  simp [hv]
theorem a_ixFI {l : List Int} {i : Int} {k : Nat} {x : Int} (e : i = (k : Int)) (h : l[k]? = some x) : app .ix [.d (fI l), .d (.int i)] = some (.d (.int x)) := a_ixF e h
theorem fill_some {g : Nat → Option Int} {fr v : Int} {p : Nat} (h : g p = some v) : fill g fr (p + 1) = ((fill g fr p).1 ++ [v], (fill g fr p).2) := by
  rw [fill, h]
theorem fill_none {g : Nat → Option Int} {fr : Int} {p : Nat} (h : g p = none) : fill g fr (p + 1) = ((fill g fr p).1 ++ [(fill g fr p).2], (fill g fr p).2 + 2) := by
  rw [fill, h]
theorem lawrow_ok (W j : Nat) (k : Ok false n m s e) : call Pt W (j + 2) 9 [.d (tN n s), .d (tN m e)] = some (.d (bd false n s e), [.un, .un]) := by
  suffices H : ∃ r ws, call Pt W (j + 2) 9 [.d (tN n s), .d (tN m e)] = some (r, ws) ∧ (r = .d (bd false n s e) ∧ ws = [.un, .un]) by
    obtain ⟨r, ws, e, rfl, rfl⟩ := H
    exact e
  have hnb := k.nb
  have hm1 := k.m1 rfl
  refine call_ok (fd := f_law_row) rfl rfl rfl ?_
  unfold f_law_row
  dsimp only
  repeat' first
      | with_reducible apply w_consS
      | with_reducible apply w_nilS
      | with_reducible apply w_asg
      | with_reducible apply w_iff
      | with_reducible apply w_six
      | with_reducible apply w_ret
      | with_reducible apply w_asgt
      | with_reducible apply w_ex
      | with_reducible apply w_retn
      | with_reducible apply w_brk
      | with_reducible apply w_cnt
      | with_reducible apply w_pas
      | with_reducible apply w_T
      | with_reducible apply w_pr
      | with_reducible apply w_cons
      | with_reducible apply w_nil
      | with_reducible apply w_c
      | (with_reducible refine w_v rfl ?_)
      | (with_reducible refine w_rd rfl rfl ?_)
      | (with_reducible refine w_mv rfl rfl ?_)
      | (with_reducible refine w_fz rfl ?_)
      | (with_reducible refine w_io rfl ?_)
      | with_reducible apply w_tup
      | with_reducible apply w_lst
      | with_reducible apply w_dic0
      | with_reducible apply w_frz
      | with_reducible apply w_cl
      | with_reducible apply w_clk
      | with_reducible apply w_nt
      | with_reducible apply w_or1
      | with_reducible apply w_an1
      | with_reducible apply w_or
      | with_reducible apply w_an
      | with_reducible apply w_ite
      | with_reducible apply w_ch
      | with_reducible apply w_itE
      | with_reducible apply w_itR
      | with_reducible apply w_itN
      | with_reducible apply w_csn
      | with_reducible apply w_csc
      | (with_reducible refine w_mu rfl ?_)
      | ((with_reducible apply w_aix); rfl)
      | ((with_reducible apply w_aug); rfl)
      | with_reducible apply w_nxS
      | with_reducible apply w_rtS
      | with_reducible apply w_bkS
      | with_reducible apply w_ctS
      | with_reducible apply r_rt
      | with_reducible apply r_nx
      | with_reducible apply t_nx
      | with_reducible apply t_rt
      | with_reducible apply t_ct
      | with_reducible apply t_bk
      | (with_reducible refine w_rngN (fun t ρ => ∃ x y z, ρ = [.d (tN n s), .d (tN m e), .ol ((faceL false n s e t).1.map fI), .d (.int (faceL false n s e t).2), x, y, z]) ?_)
      | ((with_reducible apply ex1); exact a_lenN)
      | with_reducible rfl
      | (with_reducible refine ⟨_, a_eqI, ?_⟩)
      | (with_reducible refine ⟨_, a_neI, ?_⟩)
      | with_reducible apply cd_t
      | with_reducible apply cd_f
      | with_reducible apply cd_t'
      | with_reducible apply cd_f'
      | with_reducible apply cd_not
      | with_reducible apply cd_not'
      | (with_reducible refine cd_eq (fun hc => ?_) (fun hc => ?_) <;> first | (exfalso; omega) | skip)
      | (with_reducible refine cd_dec (fun hc => ?_) (fun hc => ?_) <;> first | (exfalso; omega) | skip)
      | (with_reducible refine cd_eq' (fun hc => ?_) (fun hc => ?_) <;> first | (exfalso; omega) | skip)
      | (with_reducible refine cd_dec' (fun hc => ?_) (fun hc => ?_) <;> first | (exfalso; omega) | skip)
      | (with_reducible refine c_min2 (fun x hx => ?_))
      | (with_reducible refine c_max2 (fun x hx => ?_))
      | ((with_reducible apply ex1); rfl)
      | ((with_reducible apply exB); rfl)
      | ((with_reducible apply ex2); rfl)
      | (with_reducible refine ex_rng1 (by omega) ?_)
      | (with_reducible refine ex_rng2 (by omega) ?_)
      | (with_reducible refine cd_any (fun hc => ?_) (fun hc => ?_) <;> first | (exact absurd hc (by decide)) | skip)
      | (with_reducible refine cd_any' (fun hc => ?_) (fun hc => ?_) <;> first | (exact absurd hc (by decide)) | skip)
      | ((with_reducible apply anB); rfl)
      | (exact ⟨rfl, rfl⟩)
      | fail
  refine ⟨n, rfl, by omega, ⟨_, _, _, rfl⟩, ?_, ?_⟩
  · rintro ρ ⟨x, y, z, rfl⟩
    repeat' first
        | with_reducible apply w_consS
        | with_reducible apply w_nilS
        | with_reducible apply w_asg
        | with_reducible apply w_iff
        | with_reducible apply w_six
        | with_reducible apply w_ret
        | with_reducible apply w_asgt
        | with_reducible apply w_ex
        | with_reducible apply w_retn
        | with_reducible apply w_brk
        | with_reducible apply w_cnt
        | with_reducible apply w_pas
        | with_reducible apply w_T
        | with_reducible apply w_pr
        | with_reducible apply w_cons
        | with_reducible apply w_nil
        | with_reducible apply w_c
        | (with_reducible refine w_v rfl ?_)
        | (with_reducible refine w_rd rfl rfl ?_)
        | (with_reducible refine w_mv rfl rfl ?_)
        | (with_reducible refine w_fz rfl ?_)
        | (with_reducible refine w_io rfl ?_)
        | with_reducible apply w_tup
        | with_reducible apply w_lst
        | with_reducible apply w_dic0
        | with_reducible apply w_frz
        | with_reducible apply w_cl
        | with_reducible apply w_clk
        | with_reducible apply w_nt
        | with_reducible apply w_or1
        | with_reducible apply w_an1
        | with_reducible apply w_or
        | with_reducible apply w_an
        | with_reducible apply w_ite
        | with_reducible apply w_ch
        | with_reducible apply w_itE
        | with_reducible apply w_itR
        | with_reducible apply w_itN
        | with_reducible apply w_csn
        | with_reducible apply w_csc
        | (with_reducible refine w_mu rfl ?_)
        | ((with_reducible apply w_aix); rfl)
        | ((with_reducible apply w_aug); rfl)
        | with_reducible apply w_nxS
        | with_reducible apply w_rtS
        | with_reducible apply w_bkS
        | with_reducible apply w_ctS
        | with_reducible apply r_rt
        | with_reducible apply r_nx
        | with_reducible apply t_nx
        | with_reducible apply t_rt
        | with_reducible apply t_ct
        | with_reducible apply t_bk
        | ((with_reducible refine ex_call (ord_ok W j 8 rfl k) ?_ ?_); rfl)
        | with_reducible rfl
        | (with_reducible refine ⟨_, a_eqI, ?_⟩)
        | (with_reducible refine ⟨_, a_neI, ?_⟩)
        | with_reducible apply cd_t
        | with_reducible apply cd_f
        | with_reducible apply cd_t'
        | with_reducible apply cd_f'
        | with_reducible apply cd_not
        | with_reducible apply cd_not'
        | (with_reducible refine cd_eq (fun hc => ?_) (fun hc => ?_) <;> first | (exfalso; omega) | skip)
        | (with_reducible refine cd_dec (fun hc => ?_) (fun hc => ?_) <;> first | (exfalso; omega) | skip)
        | (with_reducible refine cd_eq' (fun hc => ?_) (fun hc => ?_) <;> first | (exfalso; omega) | skip)
        | (with_reducible refine cd_dec' (fun hc => ?_) (fun hc => ?_) <;> first | (exfalso; omega) | skip)
        | (with_reducible refine c_min2 (fun x hx => ?_))
        | (with_reducible refine c_max2 (fun x hx => ?_))
        | ((with_reducible apply ex1); rfl)
        | ((with_reducible apply exB); rfl)
        | ((with_reducible apply ex2); rfl)
        | (with_reducible refine ex_rng1 (by omega) ?_)
        | (with_reducible refine ex_rng2 (by omega) ?_)
        | (with_reducible refine cd_any (fun hc => ?_) (fun hc => ?_) <;> first | (exact absurd hc (by decide)) | skip)
        | (with_reducible refine cd_any' (fun hc => ?_) (fun hc => ?_) <;> first | (exact absurd hc (by decide)) | skip)
        | ((with_reducible apply anB); rfl)
        | (exact ⟨rfl, rfl⟩)
        | fail
  · rintro t ht ρ ⟨x, y, z, rfl⟩
    have hst := k.s1 t ht
    generalize hg : ent false n e (faceL false n s e t).1 t = g
    generalize hfr : (faceL false n s e t).2 = fr
    have hfl : (faceL false n s e (t + 1)) = ((faceL false n s e t).1 ++ [(fill g fr (s t)).1], (fill g fr (s t)).2) := by
      rw [faceL, hg, hfr]
    have hlen := faceL_len (ring := false) (n := n) (s := s) (e := e) t
    refine ⟨_, rfl, ?_⟩
    repeat' first
        | with_reducible apply w_consS
        | with_reducible apply w_nilS
        | with_reducible apply w_asg
        | with_reducible apply w_iff
        | with_reducible apply w_six
        | with_reducible apply w_ret
        | with_reducible apply w_asgt
        | with_reducible apply w_ex
        | with_reducible apply w_retn
        | with_reducible apply w_brk
        | with_reducible apply w_cnt
        | with_reducible apply w_pas
        | with_reducible apply w_T
        | with_reducible apply w_pr
        | with_reducible apply w_cons
        | with_reducible apply w_nil
        | with_reducible apply w_c
        | (with_reducible refine w_v rfl ?_)
        | (with_reducible refine w_rd rfl rfl ?_)
        | (with_reducible refine w_mv rfl rfl ?_)
        | (with_reducible refine w_fz rfl ?_)
        | (with_reducible refine w_io rfl ?_)
        | with_reducible apply w_tup
        | with_reducible apply w_lst
        | with_reducible apply w_dic0
        | with_reducible apply w_frz
        | with_reducible apply w_cl
        | with_reducible apply w_clk
        | with_reducible apply w_nt
        | with_reducible apply w_or1
        | with_reducible apply w_an1
        | with_reducible apply w_or
        | with_reducible apply w_an
        | with_reducible apply w_ite
        | with_reducible apply w_ch
        | with_reducible apply w_itE
        | with_reducible apply w_itR
        | with_reducible apply w_itN
        | with_reducible apply w_csn
        | with_reducible apply w_csc
        | (with_reducible refine w_mu rfl ?_)
        | ((with_reducible apply w_aix); rfl)
        | ((with_reducible apply w_aug); rfl)
        | with_reducible apply w_nxS
        | with_reducible apply w_rtS
        | with_reducible apply w_bkS
        | with_reducible apply w_ctS
        | with_reducible apply r_rt
        | with_reducible apply r_nx
        | with_reducible apply t_nx
        | with_reducible apply t_rt
        | with_reducible apply t_ct
        | with_reducible apply t_bk
        | (with_reducible refine w_rngN (fun p ρ => ∃ x, ρ = [.d (tN n s), .d (tN m e), .ol ((faceL false n s e t).1.map fI), .d (.int (fill g fr p).2), .d (.int t), .ol ((fill g fr p).1.map .int), x]) ?_)
        | ((with_reducible apply ex1); exact a_ixN rfl ht)
        | with_reducible rfl
        | (with_reducible refine ⟨_, a_eqI, ?_⟩)
        | (with_reducible refine ⟨_, a_neI, ?_⟩)
        | with_reducible apply cd_t
        | with_reducible apply cd_f
        | with_reducible apply cd_t'
        | with_reducible apply cd_f'
        | with_reducible apply cd_not
        | with_reducible apply cd_not'
        | (with_reducible refine cd_eq (fun hc => ?_) (fun hc => ?_) <;> first | (exfalso; omega) | skip)
        | (with_reducible refine cd_dec (fun hc => ?_) (fun hc => ?_) <;> first | (exfalso; omega) | skip)
        | (with_reducible refine cd_eq' (fun hc => ?_) (fun hc => ?_) <;> first | (exfalso; omega) | skip)
        | (with_reducible refine cd_dec' (fun hc => ?_) (fun hc => ?_) <;> first | (exfalso; omega) | skip)
        | (with_reducible refine c_min2 (fun x hx => ?_))
        | (with_reducible refine c_max2 (fun x hx => ?_))
        | ((with_reducible apply ex1); rfl)
        | ((with_reducible apply exB); rfl)
        | ((with_reducible apply ex2); rfl)
        | (with_reducible refine ex_rng1 (by omega) ?_)
        | (with_reducible refine ex_rng2 (by omega) ?_)
        | (with_reducible refine cd_any (fun hc => ?_) (fun hc => ?_) <;> first | (exact absurd hc (by decide)) | skip)
        | (with_reducible refine cd_any' (fun hc => ?_) (fun hc => ?_) <;> first | (exact absurd hc (by decide)) | skip)
        | ((with_reducible apply anB); rfl)
        | (exact ⟨rfl, rfl⟩)
        | fail
    refine ⟨s t, rfl, by omega, ⟨_, rfl⟩, ?_, ?_⟩
    · rintro ρ ⟨x, rfl⟩
      repeat' first
          | with_reducible apply w_consS
          | with_reducible apply w_nilS
          | with_reducible apply w_asg
          | with_reducible apply w_iff
          | with_reducible apply w_six
          | with_reducible apply w_ret
          | with_reducible apply w_asgt
          | with_reducible apply w_ex
          | with_reducible apply w_retn
          | with_reducible apply w_brk
          | with_reducible apply w_cnt
          | with_reducible apply w_pas
          | with_reducible apply w_T
          | with_reducible apply w_pr
          | with_reducible apply w_cons
          | with_reducible apply w_nil
          | with_reducible apply w_c
          | (with_reducible refine w_v rfl ?_)
          | (with_reducible refine w_rd rfl rfl ?_)
          | (with_reducible refine w_mv rfl rfl ?_)
          | (with_reducible refine w_fz rfl ?_)
          | (with_reducible refine w_io rfl ?_)
          | with_reducible apply w_tup
          | with_reducible apply w_lst
          | with_reducible apply w_dic0
          | with_reducible apply w_frz
          | with_reducible apply w_cl
          | with_reducible apply w_clk
          | with_reducible apply w_nt
          | with_reducible apply w_or1
          | with_reducible apply w_an1
          | with_reducible apply w_or
          | with_reducible apply w_an
          | with_reducible apply w_ite
          | with_reducible apply w_ch
          | with_reducible apply w_itE
          | with_reducible apply w_itR
          | with_reducible apply w_itN
          | with_reducible apply w_csn
          | with_reducible apply w_csc
          | (with_reducible refine w_mu rfl ?_)
          | ((with_reducible apply w_aix); rfl)
          | ((with_reducible apply w_aug); rfl)
          | with_reducible apply w_nxS
          | with_reducible apply w_rtS
          | with_reducible apply w_bkS
          | with_reducible apply w_ctS
          | with_reducible apply r_rt
          | with_reducible apply r_nx
          | with_reducible apply t_nx
          | with_reducible apply t_rt
          | with_reducible apply t_ct
          | with_reducible apply t_bk
          | ((with_reducible apply ex_m); exact m_append (by simp; omega))
          | with_reducible rfl
          | (with_reducible refine ⟨_, a_eqI, ?_⟩)
          | (with_reducible refine ⟨_, a_neI, ?_⟩)
          | with_reducible apply cd_t
          | with_reducible apply cd_f
          | with_reducible apply cd_t'
          | with_reducible apply cd_f'
          | with_reducible apply cd_not
          | with_reducible apply cd_not'
          | (with_reducible refine cd_eq (fun hc => ?_) (fun hc => ?_) <;> first | (exfalso; omega) | skip)
          | (with_reducible refine cd_dec (fun hc => ?_) (fun hc => ?_) <;> first | (exfalso; omega) | skip)
          | (with_reducible refine cd_eq' (fun hc => ?_) (fun hc => ?_) <;> first | (exfalso; omega) | skip)
          | (with_reducible refine cd_dec' (fun hc => ?_) (fun hc => ?_) <;> first | (exfalso; omega) | skip)
          | (with_reducible refine c_min2 (fun x hx => ?_))
          | (with_reducible refine c_max2 (fun x hx => ?_))
          | ((with_reducible apply ex1); rfl)
          | ((with_reducible apply exB); rfl)
          | ((with_reducible apply ex2); rfl)
          | (with_reducible refine ex_rng1 (by omega) ?_)
          | (with_reducible refine ex_rng2 (by omega) ?_)
          | (with_reducible refine cd_any (fun hc => ?_) (fun hc => ?_) <;> first | (exact absurd hc (by decide)) | skip)
          | (with_reducible refine cd_any' (fun hc => ?_) (fun hc => ?_) <;> first | (exact absurd hc (by decide)) | skip)
          | ((with_reducible apply anB); rfl)
          | (exact ⟨rfl, rfl⟩)
          | fail
      refine ⟨.d (.int t), .d (fI (fill g fr (s t)).1), x, ?_⟩
      rw [hfl, List.map_append]
      rfl
    · rintro p hp ρ ⟨x, rfl⟩
      have hfp := fill_len (g := g) (fr := fr) p
      refine ⟨_, rfl, ?_⟩
      by_cases hA : 0 < t ∧ p = 0
      · obtain ⟨v, hv, hv2⟩ := prev_ok k hA.1 ht
        have hgp : g p = some (v + 1) := by rw [← hg]; exact hv2 p hA.2
        have hfg := faceL_get (ring := false) (n := n) (s := s) (e := e) (i := t) (a := t - 1) (by omega)
        have ht1 : ((t : Int) - 1) = ((t - 1 : Nat) : Int) := by omega
        have hfg2 : ((faceL false n s e t).1.map fI)[t - 1]? = some (fI (face false n s e (t - 1))) := by rw [List.getElem?_map, hfg]; rfl
        repeat' first
            | with_reducible apply w_consS
            | with_reducible apply w_nilS
            | with_reducible apply w_asg
            | with_reducible apply w_iff
            | with_reducible apply w_six
            | with_reducible apply w_ret
            | with_reducible apply w_asgt
            | with_reducible apply w_ex
            | with_reducible apply w_retn
            | with_reducible apply w_brk
            | with_reducible apply w_cnt
            | with_reducible apply w_pas
            | with_reducible apply w_T
            | with_reducible apply w_pr
            | with_reducible apply w_cons
            | with_reducible apply w_nil
            | with_reducible apply w_c
            | (with_reducible refine w_v rfl ?_)
            | (with_reducible refine w_rd rfl rfl ?_)
            | (with_reducible refine w_mv rfl rfl ?_)
            | (with_reducible refine w_fz rfl ?_)
            | (with_reducible refine w_io rfl ?_)
            | with_reducible apply w_tup
            | with_reducible apply w_lst
            | with_reducible apply w_dic0
            | with_reducible apply w_frz
            | with_reducible apply w_cl
            | with_reducible apply w_clk
            | with_reducible apply w_nt
            | with_reducible apply w_or1
            | with_reducible apply w_an1
            | with_reducible apply w_or
            | with_reducible apply w_an
            | with_reducible apply w_ite
            | with_reducible apply w_ch
            | with_reducible apply w_itE
            | with_reducible apply w_itR
            | with_reducible apply w_itN
            | with_reducible apply w_csn
            | with_reducible apply w_csc
            | (with_reducible refine w_mu rfl ?_)
            | ((with_reducible apply w_aix); rfl)
            | ((with_reducible apply w_aug); rfl)
            | with_reducible apply w_nxS
            | with_reducible apply w_rtS
            | with_reducible apply w_bkS
            | with_reducible apply w_ctS
            | with_reducible apply r_rt
            | with_reducible apply r_nx
            | with_reducible apply t_nx
            | with_reducible apply t_rt
            | with_reducible apply t_ct
            | with_reducible apply t_bk
            | ((with_reducible apply ex1); exact a_ixO ht1 hfg2)
            | ((with_reducible apply ex1); exact a_ixN ht1 (by omega))
            | ((with_reducible apply ex1); exact a_ixFI rfl hv)
            | ((with_reducible apply ex_m); exact m_append (by simp; omega))
            | with_reducible rfl
            | (with_reducible refine ⟨_, a_eqI, ?_⟩)
            | (with_reducible refine ⟨_, a_neI, ?_⟩)
            | with_reducible apply cd_t
            | with_reducible apply cd_f
            | with_reducible apply cd_t'
            | with_reducible apply cd_f'
            | with_reducible apply cd_not
            | with_reducible apply cd_not'
            | (with_reducible refine cd_eq (fun hc => ?_) (fun hc => ?_) <;> first | (exfalso; omega) | skip)
            | (with_reducible refine cd_dec (fun hc => ?_) (fun hc => ?_) <;> first | (exfalso; omega) | skip)
            | (with_reducible refine cd_eq' (fun hc => ?_) (fun hc => ?_) <;> first | (exfalso; omega) | skip)
            | (with_reducible refine cd_dec' (fun hc => ?_) (fun hc => ?_) <;> first | (exfalso; omega) | skip)
            | (with_reducible refine c_min2 (fun x hx => ?_))
            | (with_reducible refine c_max2 (fun x hx => ?_))
            | ((with_reducible apply ex1); rfl)
            | ((with_reducible apply exB); rfl)
            | ((with_reducible apply ex2); rfl)
            | (with_reducible refine ex_rng1 (by omega) ?_)
            | (with_reducible refine ex_rng2 (by omega) ?_)
            | (with_reducible refine cd_any (fun hc => ?_) (fun hc => ?_) <;> first | (exact absurd hc (by decide)) | skip)
            | (with_reducible refine cd_any' (fun hc => ?_) (fun hc => ?_) <;> first | (exact absurd hc (by decide)) | skip)
            | ((with_reducible apply anB); rfl)
            | (exact ⟨rfl, rfl⟩)
            | fail
        rw [fill_some hgp, List.map_append]
        exact ⟨_, rfl⟩
      · have hgp : g p = none := by
          rw [← hg]
          unfold ent
          rw [if_neg hA, if_neg (by simp)]
        repeat' first
            | with_reducible apply w_consS
            | with_reducible apply w_nilS
            | with_reducible apply w_asg
            | with_reducible apply w_iff
            | with_reducible apply w_six
            | with_reducible apply w_ret
            | with_reducible apply w_asgt
            | with_reducible apply w_ex
            | with_reducible apply w_retn
            | with_reducible apply w_brk
            | with_reducible apply w_cnt
            | with_reducible apply w_pas
            | with_reducible apply w_T
            | with_reducible apply w_pr
            | with_reducible apply w_cons
            | with_reducible apply w_nil
            | with_reducible apply w_c
            | (with_reducible refine w_v rfl ?_)
            | (with_reducible refine w_rd rfl rfl ?_)
            | (with_reducible refine w_mv rfl rfl ?_)
            | (with_reducible refine w_fz rfl ?_)
            | (with_reducible refine w_io rfl ?_)
            | with_reducible apply w_tup
            | with_reducible apply w_lst
            | with_reducible apply w_dic0
            | with_reducible apply w_frz
            | with_reducible apply w_cl
            | with_reducible apply w_clk
            | with_reducible apply w_nt
            | with_reducible apply w_or1
            | with_reducible apply w_an1
            | with_reducible apply w_or
            | with_reducible apply w_an
            | with_reducible apply w_ite
            | with_reducible apply w_ch
            | with_reducible apply w_itE
            | with_reducible apply w_itR
            | with_reducible apply w_itN
            | with_reducible apply w_csn
            | with_reducible apply w_csc
            | (with_reducible refine w_mu rfl ?_)
            | ((with_reducible apply w_aix); rfl)
            | ((with_reducible apply w_aug); rfl)
            | with_reducible apply w_nxS
            | with_reducible apply w_rtS
            | with_reducible apply w_bkS
            | with_reducible apply w_ctS
            | with_reducible apply r_rt
            | with_reducible apply r_nx
            | with_reducible apply t_nx
            | with_reducible apply t_rt
            | with_reducible apply t_ct
            | with_reducible apply t_bk
            | ((with_reducible apply ex_m); exact m_append (by simp; omega))
            | with_reducible rfl
            | (with_reducible refine ⟨_, a_eqI, ?_⟩)
            | (with_reducible refine ⟨_, a_neI, ?_⟩)
            | with_reducible apply cd_t
            | with_reducible apply cd_f
            | with_reducible apply cd_t'
            | with_reducible apply cd_f'
            | with_reducible apply cd_not
            | with_reducible apply cd_not'
            | (with_reducible refine cd_eq (fun hc => ?_) (fun hc => ?_) <;> first | (exfalso; omega) | skip)
            | (with_reducible refine cd_dec (fun hc => ?_) (fun hc => ?_) <;> first | (exfalso; omega) | skip)
            | (with_reducible refine cd_eq' (fun hc => ?_) (fun hc => ?_) <;> first | (exfalso; omega) | skip)
            | (with_reducible refine cd_dec' (fun hc => ?_) (fun hc => ?_) <;> first | (exfalso; omega) | skip)
            | (with_reducible refine c_min2 (fun x hx => ?_))
            | (with_reducible refine c_max2 (fun x hx => ?_))
            | ((with_reducible apply ex1); rfl)
            | ((with_reducible apply exB); rfl)
            | ((with_reducible apply ex2); rfl)
            | (with_reducible refine ex_rng1 (by omega) ?_)
            | (with_reducible refine ex_rng2 (by omega) ?_)
            | (with_reducible refine cd_any (fun hc => ?_) (fun hc => ?_) <;> first | (exact absurd hc (by decide)) | skip)
            | (with_reducible refine cd_any' (fun hc => ?_) (fun hc => ?_) <;> first | (exact absurd hc (by decide)) | skip)
            | ((with_reducible apply anB); rfl)
            | (exact ⟨rfl, rfl⟩)
            | fail
        all_goals
          rw [fill_none hgp, List.map_append]
          exact ⟨_, rfl⟩
theorem lawring_ok (W j : Nat) (k : Ok true n m s e) : call Pt W (j + 2) 10 [.d (tN n s), .d (tN m e)] = some (.d (bd true n s e), [.un, .un]) := by
  suffices H : ∃ r ws, call Pt W (j + 2) 10 [.d (tN n s), .d (tN m e)] = some (r, ws) ∧ (r = .d (bd true n s e) ∧ ws = [.un, .un]) by
    obtain ⟨r, ws, e, rfl, rfl⟩ := H
    exact e
  have hnb := k.nb
  have hm1 := k.m2 rfl
  refine call_ok (fd := f_law_ring) rfl rfl rfl ?_
  unfold f_law_ring
  dsimp only
  repeat' first
      | with_reducible apply w_consS
      | with_reducible apply w_nilS
      | with_reducible apply w_asg
      | with_reducible apply w_iff
      | with_reducible apply w_six
      | with_reducible apply w_ret
      | with_reducible apply w_asgt
      | with_reducible apply w_ex
      | with_reducible apply w_retn
      | with_reducible apply w_brk
      | with_reducible apply w_cnt
      | with_reducible apply w_pas
      | with_reducible apply w_T
      | with_reducible apply w_pr
      | with_reducible apply w_cons
      | with_reducible apply w_nil
      | with_reducible apply w_c
      | (with_reducible refine w_v rfl ?_)
      | (with_reducible refine w_rd rfl rfl ?_)
      | (with_reducible refine w_mv rfl rfl ?_)
      | (with_reducible refine w_fz rfl ?_)
      | (with_reducible refine w_io rfl ?_)
      | with_reducible apply w_tup
      | with_reducible apply w_lst
      | with_reducible apply w_dic0
      | with_reducible apply w_frz
      | with_reducible apply w_cl
      | with_reducible apply w_clk
      | with_reducible apply w_nt
      | with_reducible apply w_or1
      | with_reducible apply w_an1
      | with_reducible apply w_or
      | with_reducible apply w_an
      | with_reducible apply w_ite
      | with_reducible apply w_ch
      | with_reducible apply w_itE
      | with_reducible apply w_itR
      | with_reducible apply w_itN
      | with_reducible apply w_csn
      | with_reducible apply w_csc
      | (with_reducible refine w_mu rfl ?_)
      | ((with_reducible apply w_aix); rfl)
      | ((with_reducible apply w_aug); rfl)
      | with_reducible apply w_nxS
      | with_reducible apply w_rtS
      | with_reducible apply w_bkS
      | with_reducible apply w_ctS
      | with_reducible apply r_rt
      | with_reducible apply r_nx
      | with_reducible apply t_nx
      | with_reducible apply t_rt
      | with_reducible apply t_ct
      | with_reducible apply t_bk
      | (with_reducible refine w_rngN (fun t ρ => ∃ x y z, ρ = [.d (tN n s), .d (tN m e), .ol ((faceL true n s e t).1.map fI), .d (.int (faceL true n s e t).2), .d (.int (n - 1)), x, y, z]) ?_)
      | ((with_reducible apply ex1); exact a_lenN)
      | with_reducible rfl
      | (with_reducible refine ⟨_, a_eqI, ?_⟩)
      | (with_reducible refine ⟨_, a_neI, ?_⟩)
      | with_reducible apply cd_t
      | with_reducible apply cd_f
      | with_reducible apply cd_t'
      | with_reducible apply cd_f'
      | with_reducible apply cd_not
      | with_reducible apply cd_not'
      | (with_reducible refine cd_eq (fun hc => ?_) (fun hc => ?_) <;> first | (exfalso; omega) | skip)
      | (with_reducible refine cd_dec (fun hc => ?_) (fun hc => ?_) <;> first | (exfalso; omega) | skip)
      | (with_reducible refine cd_eq' (fun hc => ?_) (fun hc => ?_) <;> first | (exfalso; omega) | skip)
      | (with_reducible refine cd_dec' (fun hc => ?_) (fun hc => ?_) <;> first | (exfalso; omega) | skip)
      | (with_reducible refine c_min2 (fun x hx => ?_))
      | (with_reducible refine c_max2 (fun x hx => ?_))
      | ((with_reducible apply ex1); rfl)
      | ((with_reducible apply exB); rfl)
      | ((with_reducible apply ex2); rfl)
      | (with_reducible refine ex_rng1 (by omega) ?_)
      | (with_reducible refine ex_rng2 (by omega) ?_)
      | (with_reducible refine cd_any (fun hc => ?_) (fun hc => ?_) <;> first | (exact absurd hc (by decide)) | skip)
      | (with_reducible refine cd_any' (fun hc => ?_) (fun hc => ?_) <;> first | (exact absurd hc (by decide)) | skip)
      | ((with_reducible apply anB); rfl)
      | (exact ⟨rfl, rfl⟩)
      | fail
  refine ⟨n, rfl, by omega, ⟨_, _, _, rfl⟩, ?_, ?_⟩
  · rintro ρ ⟨x, y, z, rfl⟩
    repeat' first
        | with_reducible apply w_consS
        | with_reducible apply w_nilS
        | with_reducible apply w_asg
        | with_reducible apply w_iff
        | with_reducible apply w_six
        | with_reducible apply w_ret
        | with_reducible apply w_asgt
        | with_reducible apply w_ex
        | with_reducible apply w_retn
        | with_reducible apply w_brk
        | with_reducible apply w_cnt
        | with_reducible apply w_pas
        | with_reducible apply w_T
        | with_reducible apply w_pr
        | with_reducible apply w_cons
        | with_reducible apply w_nil
        | with_reducible apply w_c
        | (with_reducible refine w_v rfl ?_)
        | (with_reducible refine w_rd rfl rfl ?_)
        | (with_reducible refine w_mv rfl rfl ?_)
        | (with_reducible refine w_fz rfl ?_)
        | (with_reducible refine w_io rfl ?_)
        | with_reducible apply w_tup
        | with_reducible apply w_lst
        | with_reducible apply w_dic0
        | with_reducible apply w_frz
        | with_reducible apply w_cl
        | with_reducible apply w_clk
        | with_reducible apply w_nt
        | with_reducible apply w_or1
        | with_reducible apply w_an1
        | with_reducible apply w_or
        | with_reducible apply w_an
        | with_reducible apply w_ite
        | with_reducible apply w_ch
        | with_reducible apply w_itE
        | with_reducible apply w_itR
        | with_reducible apply w_itN
        | with_reducible apply w_csn
        | with_reducible apply w_csc
        | (with_reducible refine w_mu rfl ?_)
        | ((with_reducible apply w_aix); rfl)
        | ((with_reducible apply w_aug); rfl)
        | with_reducible apply w_nxS
        | with_reducible apply w_rtS
        | with_reducible apply w_bkS
        | with_reducible apply w_ctS
        | with_reducible apply r_rt
        | with_reducible apply r_nx
        | with_reducible apply t_nx
        | with_reducible apply t_rt
        | with_reducible apply t_ct
        | with_reducible apply t_bk
        | ((with_reducible refine ex_call (ord_ok W j 8 rfl k) ?_ ?_); rfl)
        | with_reducible rfl
        | (with_reducible refine ⟨_, a_eqI, ?_⟩)
        | (with_reducible refine ⟨_, a_neI, ?_⟩)
        | with_reducible apply cd_t
        | with_reducible apply cd_f
        | with_reducible apply cd_t'
        | with_reducible apply cd_f'
        | with_reducible apply cd_not
        | with_reducible apply cd_not'
        | (with_reducible refine cd_eq (fun hc => ?_) (fun hc => ?_) <;> first | (exfalso; omega) | skip)
        | (with_reducible refine cd_dec (fun hc => ?_) (fun hc => ?_) <;> first | (exfalso; omega) | skip)
        | (with_reducible refine cd_eq' (fun hc => ?_) (fun hc => ?_) <;> first | (exfalso; omega) | skip)
        | (with_reducible refine cd_dec' (fun hc => ?_) (fun hc => ?_) <;> first | (exfalso; omega) | skip)
        | (with_reducible refine c_min2 (fun x hx => ?_))
        | (with_reducible refine c_max2 (fun x hx => ?_))
        | ((with_reducible apply ex1); rfl)
        | ((with_reducible apply exB); rfl)
        | ((with_reducible apply ex2); rfl)
        | (with_reducible refine ex_rng1 (by omega) ?_)
        | (with_reducible refine ex_rng2 (by omega) ?_)
        | (with_reducible refine cd_any (fun hc => ?_) (fun hc => ?_) <;> first | (exact absurd hc (by decide)) | skip)
        | (with_reducible refine cd_any' (fun hc => ?_) (fun hc => ?_) <;> first | (exact absurd hc (by decide)) | skip)
        | ((with_reducible apply anB); rfl)
        | (exact ⟨rfl, rfl⟩)
        | fail
  · rintro t ht ρ ⟨x, y, z, rfl⟩
    have hst := k.s1 t ht
    generalize hg : ent true n e (faceL true n s e t).1 t = g
    generalize hfr : (faceL true n s e t).2 = fr
    have hfl : (faceL true n s e (t + 1)) = ((faceL true n s e t).1 ++ [(fill g fr (s t)).1], (fill g fr (s t)).2) := by
      rw [faceL, hg, hfr]
    have hlen := faceL_len (ring := true) (n := n) (s := s) (e := e) t
    refine ⟨_, rfl, ?_⟩
    repeat' first
        | with_reducible apply w_consS
        | with_reducible apply w_nilS
        | with_reducible apply w_asg
        | with_reducible apply w_iff
        | with_reducible apply w_six
        | with_reducible apply w_ret
        | with_reducible apply w_asgt
        | with_reducible apply w_ex
        | with_reducible apply w_retn
        | with_reducible apply w_brk
        | with_reducible apply w_cnt
        | with_reducible apply w_pas
        | with_reducible apply w_T
        | with_reducible apply w_pr
        | with_reducible apply w_cons
        | with_reducible apply w_nil
        | with_reducible apply w_c
        | (with_reducible refine w_v rfl ?_)
        | (with_reducible refine w_rd rfl rfl ?_)
        | (with_reducible refine w_mv rfl rfl ?_)
        | (with_reducible refine w_fz rfl ?_)
        | (with_reducible refine w_io rfl ?_)
        | with_reducible apply w_tup
        | with_reducible apply w_lst
        | with_reducible apply w_dic0
        | with_reducible apply w_frz
        | with_reducible apply w_cl
        | with_reducible apply w_clk
        | with_reducible apply w_nt
        | with_reducible apply w_or1
        | with_reducible apply w_an1
        | with_reducible apply w_or
        | with_reducible apply w_an
        | with_reducible apply w_ite
        | with_reducible apply w_ch
        | with_reducible apply w_itE
        | with_reducible apply w_itR
        | with_reducible apply w_itN
        | with_reducible apply w_csn
        | with_reducible apply w_csc
        | (with_reducible refine w_mu rfl ?_)
        | ((with_reducible apply w_aix); rfl)
        | ((with_reducible apply w_aug); rfl)
        | with_reducible apply w_nxS
        | with_reducible apply w_rtS
        | with_reducible apply w_bkS
        | with_reducible apply w_ctS
        | with_reducible apply r_rt
        | with_reducible apply r_nx
        | with_reducible apply t_nx
        | with_reducible apply t_rt
        | with_reducible apply t_ct
        | with_reducible apply t_bk
        | (with_reducible refine w_rngN (fun p ρ => ∃ x, ρ = [.d (tN n s), .d (tN m e), .ol ((faceL true n s e t).1.map fI), .d (.int (fill g fr p).2), .d (.int (n - 1)), .d (.int t), .ol ((fill g fr p).1.map .int), x]) ?_)
        | ((with_reducible apply ex1); exact a_ixN rfl ht)
        | with_reducible rfl
        | (with_reducible refine ⟨_, a_eqI, ?_⟩)
        | (with_reducible refine ⟨_, a_neI, ?_⟩)
        | with_reducible apply cd_t
        | with_reducible apply cd_f
        | with_reducible apply cd_t'
        | with_reducible apply cd_f'
        | with_reducible apply cd_not
        | with_reducible apply cd_not'
        | (with_reducible refine cd_eq (fun hc => ?_) (fun hc => ?_) <;> first | (exfalso; omega) | skip)
        | (with_reducible refine cd_dec (fun hc => ?_) (fun hc => ?_) <;> first | (exfalso; omega) | skip)
        | (with_reducible refine cd_eq' (fun hc => ?_) (fun hc => ?_) <;> first | (exfalso; omega) | skip)
        | (with_reducible refine cd_dec' (fun hc => ?_) (fun hc => ?_) <;> first | (exfalso; omega) | skip)
        | (with_reducible refine c_min2 (fun x hx => ?_))
        | (with_reducible refine c_max2 (fun x hx => ?_))
        | ((with_reducible apply ex1); rfl)
        | ((with_reducible apply exB); rfl)
        | ((with_reducible apply ex2); rfl)
        | (with_reducible refine ex_rng1 (by omega) ?_)
        | (with_reducible refine ex_rng2 (by omega) ?_)
        | (with_reducible refine cd_any (fun hc => ?_) (fun hc => ?_) <;> first | (exact absurd hc (by decide)) | skip)
        | (with_reducible refine cd_any' (fun hc => ?_) (fun hc => ?_) <;> first | (exact absurd hc (by decide)) | skip)
        | ((with_reducible apply anB); rfl)
        | (exact ⟨rfl, rfl⟩)
        | fail
    refine ⟨s t, rfl, by omega, ⟨_, rfl⟩, ?_, ?_⟩
    · rintro ρ ⟨x, rfl⟩
      repeat' first
          | with_reducible apply w_consS
          | with_reducible apply w_nilS
          | with_reducible apply w_asg
          | with_reducible apply w_iff
          | with_reducible apply w_six
          | with_reducible apply w_ret
          | with_reducible apply w_asgt
          | with_reducible apply w_ex
          | with_reducible apply w_retn
          | with_reducible apply w_brk
          | with_reducible apply w_cnt
          | with_reducible apply w_pas
          | with_reducible apply w_T
          | with_reducible apply w_pr
          | with_reducible apply w_cons
          | with_reducible apply w_nil
          | with_reducible apply w_c
          | (with_reducible refine w_v rfl ?_)
          | (with_reducible refine w_rd rfl rfl ?_)
          | (with_reducible refine w_mv rfl rfl ?_)
          | (with_reducible refine w_fz rfl ?_)
          | (with_reducible refine w_io rfl ?_)
          | with_reducible apply w_tup
          | with_reducible apply w_lst
          | with_reducible apply w_dic0
          | with_reducible apply w_frz
          | with_reducible apply w_cl
          | with_reducible apply w_clk
          | with_reducible apply w_nt
          | with_reducible apply w_or1
          | with_reducible apply w_an1
          | with_reducible apply w_or
          | with_reducible apply w_an
          | with_reducible apply w_ite
          | with_reducible apply w_ch
          | with_reducible apply w_itE
          | with_reducible apply w_itR
          | with_reducible apply w_itN
          | with_reducible apply w_csn
          | with_reducible apply w_csc
          | (with_reducible refine w_mu rfl ?_)
          | ((with_reducible apply w_aix); rfl)
          | ((with_reducible apply w_aug); rfl)
          | with_reducible apply w_nxS
          | with_reducible apply w_rtS
          | with_reducible apply w_bkS
          | with_reducible apply w_ctS
          | with_reducible apply r_rt
          | with_reducible apply r_nx
          | with_reducible apply t_nx
          | with_reducible apply t_rt
          | with_reducible apply t_ct
          | with_reducible apply t_bk
          | ((with_reducible apply ex_m); exact m_append (by simp; omega))
          | with_reducible rfl
          | (with_reducible refine ⟨_, a_eqI, ?_⟩)
          | (with_reducible refine ⟨_, a_neI, ?_⟩)
          | with_reducible apply cd_t
          | with_reducible apply cd_f
          | with_reducible apply cd_t'
          | with_reducible apply cd_f'
          | with_reducible apply cd_not
          | with_reducible apply cd_not'
          | (with_reducible refine cd_eq (fun hc => ?_) (fun hc => ?_) <;> first | (exfalso; omega) | skip)
          | (with_reducible refine cd_dec (fun hc => ?_) (fun hc => ?_) <;> first | (exfalso; omega) | skip)
          | (with_reducible refine cd_eq' (fun hc => ?_) (fun hc => ?_) <;> first | (exfalso; omega) | skip)
          | (with_reducible refine cd_dec' (fun hc => ?_) (fun hc => ?_) <;> first | (exfalso; omega) | skip)
          | (with_reducible refine c_min2 (fun x hx => ?_))
          | (with_reducible refine c_max2 (fun x hx => ?_))
          | ((with_reducible apply ex1); rfl)
          | ((with_reducible apply exB); rfl)
          | ((with_reducible apply ex2); rfl)
          | (with_reducible refine ex_rng1 (by omega) ?_)
          | (with_reducible refine ex_rng2 (by omega) ?_)
          | (with_reducible refine cd_any (fun hc => ?_) (fun hc => ?_) <;> first | (exact absurd hc (by decide)) | skip)
          | (with_reducible refine cd_any' (fun hc => ?_) (fun hc => ?_) <;> first | (exact absurd hc (by decide)) | skip)
          | ((with_reducible apply anB); rfl)
          | (exact ⟨rfl, rfl⟩)
          | fail
      refine ⟨.d (.int t), .d (fI (fill g fr (s t)).1), x, ?_⟩
      rw [hfl, List.map_append]
      rfl
    · rintro p hp ρ ⟨x, rfl⟩
      have hfp := fill_len (g := g) (fr := fr) p
      refine ⟨_, rfl, ?_⟩
      by_cases hA : 0 < t ∧ p = 0
      · obtain ⟨v, hv, hv2⟩ := prev_ok k hA.1 ht
        have hgp : g p = some (v + 1) := by rw [← hg]; exact hv2 p hA.2
        have hfg := faceL_get (ring := true) (n := n) (s := s) (e := e) (i := t) (a := t - 1) (by omega)
        have ht1 : ((t : Int) - 1) = ((t - 1 : Nat) : Int) := by omega
        have hfg2 : ((faceL true n s e t).1.map fI)[t - 1]? = some (fI (face true n s e (t - 1))) := by rw [List.getElem?_map, hfg]; rfl
        repeat' first
            | with_reducible apply w_consS
            | with_reducible apply w_nilS
            | with_reducible apply w_asg
            | with_reducible apply w_iff
            | with_reducible apply w_six
            | with_reducible apply w_ret
            | with_reducible apply w_asgt
            | with_reducible apply w_ex
            | with_reducible apply w_retn
            | with_reducible apply w_brk
            | with_reducible apply w_cnt
            | with_reducible apply w_pas
            | with_reducible apply w_T
            | with_reducible apply w_pr
            | with_reducible apply w_cons
            | with_reducible apply w_nil
            | with_reducible apply w_c
            | (with_reducible refine w_v rfl ?_)
            | (with_reducible refine w_rd rfl rfl ?_)
            | (with_reducible refine w_mv rfl rfl ?_)
            | (with_reducible refine w_fz rfl ?_)
            | (with_reducible refine w_io rfl ?_)
            | with_reducible apply w_tup
            | with_reducible apply w_lst
            | with_reducible apply w_dic0
            | with_reducible apply w_frz
            | with_reducible apply w_cl
            | with_reducible apply w_clk
            | with_reducible apply w_nt
            | with_reducible apply w_or1
            | with_reducible apply w_an1
            | with_reducible apply w_or
            | with_reducible apply w_an
            | with_reducible apply w_ite
            | with_reducible apply w_ch
            | with_reducible apply w_itE
            | with_reducible apply w_itR
            | with_reducible apply w_itN
            | with_reducible apply w_csn
            | with_reducible apply w_csc
            | (with_reducible refine w_mu rfl ?_)
            | ((with_reducible apply w_aix); rfl)
            | ((with_reducible apply w_aug); rfl)
            | with_reducible apply w_nxS
            | with_reducible apply w_rtS
            | with_reducible apply w_bkS
            | with_reducible apply w_ctS
            | with_reducible apply r_rt
            | with_reducible apply r_nx
            | with_reducible apply t_nx
            | with_reducible apply t_rt
            | with_reducible apply t_ct
            | with_reducible apply t_bk
            | ((with_reducible apply ex1); exact a_ixO ht1 hfg2)
            | ((with_reducible apply ex1); exact a_ixN ht1 (by omega))
            | ((with_reducible apply ex1); exact a_ixFI rfl hv)
            | ((with_reducible apply ex_m); exact m_append (by simp; omega))
            | with_reducible rfl
            | (with_reducible refine ⟨_, a_eqI, ?_⟩)
            | (with_reducible refine ⟨_, a_neI, ?_⟩)
            | with_reducible apply cd_t
            | with_reducible apply cd_f
            | with_reducible apply cd_t'
            | with_reducible apply cd_f'
            | with_reducible apply cd_not
            | with_reducible apply cd_not'
            | (with_reducible refine cd_eq (fun hc => ?_) (fun hc => ?_) <;> first | (exfalso; omega) | skip)
            | (with_reducible refine cd_dec (fun hc => ?_) (fun hc => ?_) <;> first | (exfalso; omega) | skip)
            | (with_reducible refine cd_eq' (fun hc => ?_) (fun hc => ?_) <;> first | (exfalso; omega) | skip)
            | (with_reducible refine cd_dec' (fun hc => ?_) (fun hc => ?_) <;> first | (exfalso; omega) | skip)
            | (with_reducible refine c_min2 (fun x hx => ?_))
            | (with_reducible refine c_max2 (fun x hx => ?_))
            | ((with_reducible apply ex1); rfl)
            | ((with_reducible apply exB); rfl)
            | ((with_reducible apply ex2); rfl)
            | (with_reducible refine ex_rng1 (by omega) ?_)
            | (with_reducible refine ex_rng2 (by omega) ?_)
            | (with_reducible refine cd_any (fun hc => ?_) (fun hc => ?_) <;> first | (exact absurd hc (by decide)) | skip)
            | (with_reducible refine cd_any' (fun hc => ?_) (fun hc => ?_) <;> first | (exact absurd hc (by decide)) | skip)
            | ((with_reducible apply anB); rfl)
            | (exact ⟨rfl, rfl⟩)
            | fail
        rw [fill_some hgp, List.map_append]
        exact ⟨_, rfl⟩
      · by_cases hB : t + 1 = n ∧ p = e t
        · have hgp : g p = some 1 := by
            rw [← hg]
            unfold ent
            rw [if_neg hA, if_pos ⟨rfl, hB.1, hB.2⟩]
          have hB2 := hB.2
          repeat' first
              | with_reducible apply w_consS
              | with_reducible apply w_nilS
              | with_reducible apply w_asg
              | with_reducible apply w_iff
              | with_reducible apply w_six
              | with_reducible apply w_ret
              | with_reducible apply w_asgt
              | with_reducible apply w_ex
              | with_reducible apply w_retn
              | with_reducible apply w_brk
              | with_reducible apply w_cnt
              | with_reducible apply w_pas
              | with_reducible apply w_T
              | with_reducible apply w_pr
              | with_reducible apply w_cons
              | with_reducible apply w_nil
              | with_reducible apply w_c
              | (with_reducible refine w_v rfl ?_)
              | (with_reducible refine w_rd rfl rfl ?_)
              | (with_reducible refine w_mv rfl rfl ?_)
              | (with_reducible refine w_fz rfl ?_)
              | (with_reducible refine w_io rfl ?_)
              | with_reducible apply w_tup
              | with_reducible apply w_lst
              | with_reducible apply w_dic0
              | with_reducible apply w_frz
              | with_reducible apply w_cl
              | with_reducible apply w_clk
              | with_reducible apply w_nt
              | with_reducible apply w_or1
              | with_reducible apply w_an1
              | with_reducible apply w_or
              | with_reducible apply w_an
              | with_reducible apply w_ite
              | with_reducible apply w_ch
              | with_reducible apply w_itE
              | with_reducible apply w_itR
              | with_reducible apply w_itN
              | with_reducible apply w_csn
              | with_reducible apply w_csc
              | (with_reducible refine w_mu rfl ?_)
              | ((with_reducible apply w_aix); rfl)
              | ((with_reducible apply w_aug); rfl)
              | with_reducible apply w_nxS
              | with_reducible apply w_rtS
              | with_reducible apply w_bkS
              | with_reducible apply w_ctS
              | with_reducible apply r_rt
              | with_reducible apply r_nx
              | with_reducible apply t_nx
              | with_reducible apply t_rt
              | with_reducible apply t_ct
              | with_reducible apply t_bk
              | ((with_reducible apply ex1); exact a_ixN rfl (by omega))
              | ((with_reducible apply ex_m); exact m_append (by simp; omega))
              | with_reducible rfl
              | (with_reducible refine ⟨_, a_eqI, ?_⟩)
              | (with_reducible refine ⟨_, a_neI, ?_⟩)
              | with_reducible apply cd_t
              | with_reducible apply cd_f
              | with_reducible apply cd_t'
              | with_reducible apply cd_f'
              | with_reducible apply cd_not
              | with_reducible apply cd_not'
              | (with_reducible refine cd_eq (fun hc => ?_) (fun hc => ?_) <;> first | (exfalso; omega) | skip)
              | (with_reducible refine cd_dec (fun hc => ?_) (fun hc => ?_) <;> first | (exfalso; omega) | skip)
              | (with_reducible refine cd_eq' (fun hc => ?_) (fun hc => ?_) <;> first | (exfalso; omega) | skip)
              | (with_reducible refine cd_dec' (fun hc => ?_) (fun hc => ?_) <;> first | (exfalso; omega) | skip)
              | (with_reducible refine c_min2 (fun x hx => ?_))
              | (with_reducible refine c_max2 (fun x hx => ?_))
              | ((with_reducible apply ex1); rfl)
              | ((with_reducible apply exB); rfl)
              | ((with_reducible apply ex2); rfl)
              | (with_reducible refine ex_rng1 (by omega) ?_)
              | (with_reducible refine ex_rng2 (by omega) ?_)
              | (with_reducible refine cd_any (fun hc => ?_) (fun hc => ?_) <;> first | (exact absurd hc (by decide)) | skip)
              | (with_reducible refine cd_any' (fun hc => ?_) (fun hc => ?_) <;> first | (exact absurd hc (by decide)) | skip)
              | ((with_reducible apply anB); rfl)
              | (exact ⟨rfl, rfl⟩)
              | fail
          all_goals
            rw [fill_some hgp, List.map_append]
            exact ⟨_, rfl⟩
        · have hgp : g p = none := by
            rw [← hg]
            unfold ent
            rw [if_neg hA, if_neg (by intro h; exact hB ⟨h.2.1, h.2.2⟩)]
          repeat' first
              | with_reducible apply w_consS
              | with_reducible apply w_nilS
              | with_reducible apply w_asg
              | with_reducible apply w_iff
              | with_reducible apply w_six
              | with_reducible apply w_ret
              | with_reducible apply w_asgt
              | with_reducible apply w_ex
              | with_reducible apply w_retn
              | with_reducible apply w_brk
              | with_reducible apply w_cnt
              | with_reducible apply w_pas
              | with_reducible apply w_T
              | with_reducible apply w_pr
              | with_reducible apply w_cons
              | with_reducible apply w_nil
              | with_reducible apply w_c
              | (with_reducible refine w_v rfl ?_)
              | (with_reducible refine w_rd rfl rfl ?_)
              | (with_reducible refine w_mv rfl rfl ?_)
              | (with_reducible refine w_fz rfl ?_)
              | (with_reducible refine w_io rfl ?_)
              | with_reducible apply w_tup
              | with_reducible apply w_lst
              | with_reducible apply w_dic0
              | with_reducible apply w_frz
              | with_reducible apply w_cl
              | with_reducible apply w_clk
              | with_reducible apply w_nt
              | with_reducible apply w_or1
              | with_reducible apply w_an1
              | with_reducible apply w_or
              | with_reducible apply w_an
              | with_reducible apply w_ite
              | with_reducible apply w_ch
              | with_reducible apply w_itE
              | with_reducible apply w_itR
              | with_reducible apply w_itN
              | with_reducible apply w_csn
              | with_reducible apply w_csc
              | (with_reducible refine w_mu rfl ?_)
              | ((with_reducible apply w_aix); rfl)
              | ((with_reducible apply w_aug); rfl)
              | with_reducible apply w_nxS
              | with_reducible apply w_rtS
              | with_reducible apply w_bkS
              | with_reducible apply w_ctS
              | with_reducible apply r_rt
              | with_reducible apply r_nx
              | with_reducible apply t_nx
              | with_reducible apply t_rt
              | with_reducible apply t_ct
              | with_reducible apply t_bk
              | ((with_reducible apply ex1); exact a_ixN rfl (by omega))
              | ((with_reducible apply ex_m); exact m_append (by simp; omega))
              | with_reducible rfl
              | (with_reducible refine ⟨_, a_eqI, ?_⟩)
              | (with_reducible refine ⟨_, a_neI, ?_⟩)
              | with_reducible apply cd_t
              | with_reducible apply cd_f
              | with_reducible apply cd_t'
              | with_reducible apply cd_f'
              | with_reducible apply cd_not
              | with_reducible apply cd_not'
              | (with_reducible refine cd_eq (fun hc => ?_) (fun hc => ?_) <;> first | (exfalso; omega) | skip)
              | (with_reducible refine cd_dec (fun hc => ?_) (fun hc => ?_) <;> first | (exfalso; omega) | skip)
              | (with_reducible refine cd_eq' (fun hc => ?_) (fun hc => ?_) <;> first | (exfalso; omega) | skip)
              | (with_reducible refine cd_dec' (fun hc => ?_) (fun hc => ?_) <;> first | (exfalso; omega) | skip)
              | (with_reducible refine c_min2 (fun x hx => ?_))
              | (with_reducible refine c_max2 (fun x hx => ?_))
              | ((with_reducible apply ex1); rfl)
              | ((with_reducible apply exB); rfl)
              | ((with_reducible apply ex2); rfl)
              | (with_reducible refine ex_rng1 (by omega) ?_)
              | (with_reducible refine ex_rng2 (by omega) ?_)
              | (with_reducible refine cd_any (fun hc => ?_) (fun hc => ?_) <;> first | (exact absurd hc (by decide)) | skip)
              | (with_reducible refine cd_any' (fun hc => ?_) (fun hc => ?_) <;> first | (exact absurd hc (by decide)) | skip)
              | ((with_reducible apply anB); rfl)
              | (exact ⟨rfl, rfl⟩)
              | fail
          all_goals
            rw [fill_none hgp, List.map_append]
            exact ⟨_, rfl⟩
end
end Rt.Pl.k18

set_option Elab.async false
set_option linter.all false
set_option maxRecDepth 100000
set_option maxHeartbeats 2000000
namespace Rt.Pl.k18
open Rt Rt.k18
theorem isUn_of {u : PV} (h : Urn u) : isUn u = false := by
  obtain ⟨_, _, _, _, rfl⟩ := h
  rfl
def nums (S : List Nat) : PV := .ol (S.map fun (i : Nat) => D.int i)
theorem nums_app {S : List Nat} {x : Int} (h : 0 ≤ x) : nums (S ++ [x.toNat]) = .ol ((S.map fun (i : Nat) => D.int i) ++ [.int x]) := by
  unfold nums
  rw [List.map_append]
  simp only [List.map_cons, List.map_nil]
  rw [Int.toNat_of_nonneg h]
theorem getD_app {S : List Nat} {v i : Nat} : (S ++ [v]).getD i 0 = if i < S.length then S.getD i 0 else if i = S.length then v else 0 := by
  simp only [List.getD_eq_getElem?_getD]
  split
  · rw [List.getElem?_append_left (by assumption)]
  · split
    · rename_i h
      subst h
      rw [List.getElem?_append_right (Nat.le_refl _)]
      simp
    · rw [List.getElem?_eq_none (by simp; omega)]
      rfl
def DI (n : Nat) (ring : Bool) (most r : Int) (t : Nat) (ρ : Env) : Prop := ∃ (u' : PV) (S E : List Nat) (a b c : PV), ρ = [u', .d (.int n), .d (.bl ring), .d (.int most), .d (.int r), nums S, nums E, a, b, c, .un] ∧ Urn u' ∧ S.length = t ∧ (ring = true → E.length = t) ∧ (ring = false → E.length = min t (n - 1)) ∧ (∀ i, i < t → 1 ≤ S.getD i 0 ∧ S.getD i 0 ≤ 20) ∧ (∀ i, i < E.length → E.getD i 0 < S.getD i 0 ∧ (0 < i ∨ ring = true → 1 ≤ E.getD i 0))
def DI' (n : Nat) (ring : Bool) (most r : Int) (t : Nat) (ρ : Env) : Prop := ∃ (u' : PV) (S E : List Nat) (a b c d : PV), ρ = [u', .d (.int n), .d (.bl ring), .d (.int most), .d (.int r), nums S, nums E, a, b, c, d] ∧ Urn u' ∧ S.length = t ∧ (ring = true → E.length = t) ∧ (ring = false → E.length = min t (n - 1)) ∧ (∀ i, i < t → 1 ≤ S.getD i 0 ∧ S.getD i 0 ≤ 20) ∧ (∀ i, i < E.length → E.getD i 0 < S.getD i 0 ∧ (0 < i ∨ ring = true → 1 ≤ E.getD i 0))
theorem DI_app {n : Nat} {ring : Bool} {most r : Int} {t : Nat} {u' : PV} {S E : List Nat} {a b c d : PV} {x y : Int} (hu : Urn u') (hS : S.length = t) (hE : E.length = t) (h4 : ∀ i, i < t → 1 ≤ S.getD i 0 ∧ S.getD i 0 ≤ 20) (h5 : ∀ i, i < E.length → E.getD i 0 < S.getD i 0 ∧ (0 < i ∨ ring = true → 1 ≤ E.getD i 0))
    (hx : 1 ≤ x ∧ x ≤ 20) (hy : 0 ≤ y ∧ y < x) (hy2 : 0 < t ∨ ring = true → 1 ≤ y) (hn : ring = false → t + 1 < n) :
    DI' n ring most r (t + 1) [u', .d (.int n), .d (.bl ring), .d (.int most), .d (.int r), .ol ((S.map fun (i : Nat) => D.int i) ++ [.int x]), .ol ((E.map fun (i : Nat) => D.int i) ++ [.int y]), a, b, c, d] := by
  refine ⟨u', S ++ [x.toNat], E ++ [y.toNat], a, b, c, d, ?_, hu, by simp [hS], by simp [hE], ?_, ?_, ?_⟩
  · rw [nums_app (by omega), nums_app (by omega)]
  · intro h
    have := hn h
    simp [hE]
    omega
  · intro i hi
    rw [getD_app, hS]
    split
    · exact h4 i (by assumption)
    · rw [if_pos (by omega)]; omega
  · intro i hi
    rw [getD_app, getD_app, hS, hE]
    simp only [List.length_append, List.length_cons, List.length_nil] at hi
    split
    · exact h5 i (by omega)
    · rw [if_pos (by omega), if_pos (by omega)]
      refine ⟨by omega, fun h => ?_⟩
      have : i = t := by omega
      subst this
      have := hy2 h
      omega
theorem DI_app1 {n : Nat} {most r : Int} {t : Nat} {u' : PV} {S E : List Nat} {a b c d : PV} {x : Int} (hu : Urn u') (hS : S.length = t) (hE : E.length = min t (n - 1)) (h4 : ∀ i, i < t → 1 ≤ S.getD i 0 ∧ S.getD i 0 ≤ 20) (h5 : ∀ i, i < E.length → E.getD i 0 < S.getD i 0 ∧ (0 < i ∨ false = true → 1 ≤ E.getD i 0))
    (hx : 1 ≤ x ∧ x ≤ 20) (hn : ¬ t + 1 < n) :
    DI' n false most r (t + 1) [u', .d (.int n), .d (.bl false), .d (.int most), .d (.int r), .ol ((S.map fun (i : Nat) => D.int i) ++ [.int x]), .ol (E.map fun (i : Nat) => D.int i), a, b, c, d] := by
  refine ⟨u', S ++ [x.toNat], E, a, b, c, d, ?_, hu, by simp [hS], by simp, ?_, ?_, ?_⟩
  · rw [nums_app (by omega)]; rfl
  · intro h
    omega
  · intro i hi
    rw [getD_app, hS]
    split
    · exact h4 i (by assumption)
    · rw [if_pos (by omega)]; omega
  · intro i hi
    rw [getD_app, hS, if_pos (by omega)]
    exact h5 i hi
theorem drawn_ok (W j : Nat) (u : PV) (n : Nat) (ring : Bool) (most : Int) (hu : Urn u) (hn : 1 ≤ n ∧ n ≤ 60) (hr : ring = true → 2 ≤ n) (hm : 1 ≤ most ∧ most ≤ 20) :
    ∃ v ws, call Pt W (j + 2) 11 [u, .d (.int n), .d (.bl ring), .d (.int most)] = some (v, ws) ∧ ∃ m s e u', v = .d (.tup [tN n s, tN m e]) ∧ ws = [u', .un, .un, .un] ∧ Urn u' ∧ Ok ring n m s e := by
  refine call_ok (fd := f_law_drawn) rfl rfl rfl ?_
  unfold f_law_drawn
  dsimp only
  repeat' first
      | with_reducible apply w_consS
      | with_reducible apply w_nilS
      | with_reducible apply w_asg
      | with_reducible apply w_iff
      | with_reducible apply w_six
      | with_reducible apply w_ret
      | with_reducible apply w_asgt
      | with_reducible apply w_ex
      | with_reducible apply w_retn
      | with_reducible apply w_brk
      | with_reducible apply w_cnt
      | with_reducible apply w_pas
      | with_reducible apply w_T
      | with_reducible apply w_pr
      | with_reducible apply w_cons
      | with_reducible apply w_nil
      | with_reducible apply w_c
      | (with_reducible refine w_v rfl ?_)
      | (with_reducible refine w_rd rfl rfl ?_)
      | (with_reducible refine w_mv rfl rfl ?_)
      | (with_reducible refine w_fz rfl ?_)
      | (with_reducible refine w_io rfl ?_)
      | with_reducible apply w_tup
      | with_reducible apply w_lst
      | with_reducible apply w_dic0
      | with_reducible apply w_frz
      | with_reducible apply w_cl
      | with_reducible apply w_clk
      | with_reducible apply w_nt
      | with_reducible apply w_or1
      | with_reducible apply w_an1
      | with_reducible apply w_or
      | with_reducible apply w_an
      | with_reducible apply w_ite
      | with_reducible apply w_ch
      | with_reducible apply w_itE
      | with_reducible apply w_itR
      | with_reducible apply w_itN
      | with_reducible apply w_csn
      | with_reducible apply w_csc
      | (with_reducible refine w_mu rfl ?_)
      | ((with_reducible apply w_aix); rfl)
      | ((with_reducible apply w_aug); rfl)
      | with_reducible apply w_nxS
      | with_reducible apply w_rtS
      | with_reducible apply w_bkS
      | with_reducible apply w_ctS
      | with_reducible apply r_rt
      | with_reducible apply r_nx
      | with_reducible apply t_nx
      | with_reducible apply t_rt
      | with_reducible apply t_ct
      | with_reducible apply t_bk
      | ((with_reducible apply c_take); rfl; assumption; omega; intro r u' h0 h1 hu')
      | ((with_reducible apply w_io); exact (isUn_of (by assumption)))
      | (with_reducible refine w_rngN (DI' n ring most r) ?_)
      | with_reducible rfl
      | (with_reducible refine ⟨_, a_eqI, ?_⟩)
      | (with_reducible refine ⟨_, a_neI, ?_⟩)
      | with_reducible apply cd_t
      | with_reducible apply cd_f
      | with_reducible apply cd_t'
      | with_reducible apply cd_f'
      | with_reducible apply cd_not
      | with_reducible apply cd_not'
      | (with_reducible refine cd_eq (fun hc => ?_) (fun hc => ?_) <;> first | (exfalso; omega) | skip)
      | (with_reducible refine cd_dec (fun hc => ?_) (fun hc => ?_) <;> first | (exfalso; omega) | skip)
      | (with_reducible refine cd_eq' (fun hc => ?_) (fun hc => ?_) <;> first | (exfalso; omega) | skip)
      | (with_reducible refine cd_dec' (fun hc => ?_) (fun hc => ?_) <;> first | (exfalso; omega) | skip)
      | (with_reducible refine c_min2 (fun x hx => ?_))
      | (with_reducible refine c_max2 (fun x hx => ?_))
      | ((with_reducible apply ex1); rfl)
      | ((with_reducible apply exB); rfl)
      | ((with_reducible apply ex2); rfl)
      | (with_reducible refine ex_rng1 (by omega) ?_)
      | (with_reducible refine ex_rng2 (by omega) ?_)
      | (with_reducible refine cd_any (fun hc => ?_) (fun hc => ?_) <;> first | (exact absurd hc (by decide)) | skip)
      | (with_reducible refine cd_any' (fun hc => ?_) (fun hc => ?_) <;> first | (exact absurd hc (by decide)) | skip)
      | ((with_reducible apply anB); rfl)
      | (exact ⟨rfl, rfl⟩)
      | fail
  refine ⟨n, rfl, by omega, ⟨_, [], [], _, _, _, _, rfl, by assumption, rfl, by simp, by simp, by simp, by simp⟩, ?_, ?_⟩
  · rintro ρ ⟨u', S, E, a, b, c, d, rfl, hu', h2, h3, h3', h4, h5⟩
    repeat' first
        | with_reducible apply w_consS
        | with_reducible apply w_nilS
        | with_reducible apply w_asg
        | with_reducible apply w_iff
        | with_reducible apply w_six
        | with_reducible apply w_ret
        | with_reducible apply w_asgt
        | with_reducible apply w_ex
        | with_reducible apply w_retn
        | with_reducible apply w_brk
        | with_reducible apply w_cnt
        | with_reducible apply w_pas
        | with_reducible apply w_T
        | with_reducible apply w_pr
        | with_reducible apply w_cons
        | with_reducible apply w_nil
        | with_reducible apply w_c
        | (with_reducible refine w_v rfl ?_)
        | (with_reducible refine w_rd rfl rfl ?_)
        | (with_reducible refine w_mv rfl rfl ?_)
        | (with_reducible refine w_fz rfl ?_)
        | (with_reducible refine w_io rfl ?_)
        | with_reducible apply w_tup
        | with_reducible apply w_lst
        | with_reducible apply w_dic0
        | with_reducible apply w_frz
        | with_reducible apply w_cl
        | with_reducible apply w_clk
        | with_reducible apply w_nt
        | with_reducible apply w_or1
        | with_reducible apply w_an1
        | with_reducible apply w_or
        | with_reducible apply w_an
        | with_reducible apply w_ite
        | with_reducible apply w_ch
        | with_reducible apply w_itE
        | with_reducible apply w_itR
        | with_reducible apply w_itN
        | with_reducible apply w_csn
        | with_reducible apply w_csc
        | (with_reducible refine w_mu rfl ?_)
        | ((with_reducible apply w_aix); rfl)
        | ((with_reducible apply w_aug); rfl)
        | with_reducible apply w_nxS
        | with_reducible apply w_rtS
        | with_reducible apply w_bkS
        | with_reducible apply w_ctS
        | with_reducible apply r_rt
        | with_reducible apply r_nx
        | with_reducible apply t_nx
        | with_reducible apply t_rt
        | with_reducible apply t_ct
        | with_reducible apply t_bk
        | with_reducible rfl
        | (with_reducible refine ⟨_, a_eqI, ?_⟩)
        | (with_reducible refine ⟨_, a_neI, ?_⟩)
        | with_reducible apply cd_t
        | with_reducible apply cd_f
        | with_reducible apply cd_t'
        | with_reducible apply cd_f'
        | with_reducible apply cd_not
        | with_reducible apply cd_not'
        | (with_reducible refine cd_eq (fun hc => ?_) (fun hc => ?_) <;> first | (exfalso; omega) | skip)
        | (with_reducible refine cd_dec (fun hc => ?_) (fun hc => ?_) <;> first | (exfalso; omega) | skip)
        | (with_reducible refine cd_eq' (fun hc => ?_) (fun hc => ?_) <;> first | (exfalso; omega) | skip)
        | (with_reducible refine cd_dec' (fun hc => ?_) (fun hc => ?_) <;> first | (exfalso; omega) | skip)
        | (with_reducible refine c_min2 (fun x hx => ?_))
        | (with_reducible refine c_max2 (fun x hx => ?_))
        | ((with_reducible apply ex1); rfl)
        | ((with_reducible apply exB); rfl)
        | ((with_reducible apply ex2); rfl)
        | (with_reducible refine ex_rng1 (by omega) ?_)
        | (with_reducible refine ex_rng2 (by omega) ?_)
        | (with_reducible refine cd_any (fun hc => ?_) (fun hc => ?_) <;> first | (exact absurd hc (by decide)) | skip)
        | (with_reducible refine cd_any' (fun hc => ?_) (fun hc => ?_) <;> first | (exact absurd hc (by decide)) | skip)
        | ((with_reducible apply anB); rfl)
        | (exact ⟨rfl, rfl⟩)
        | fail
    refine ⟨E.length, fun i => S.getD i 0, fun i => E.getD i 0, u', ?_, rfl, hu', ?_⟩
    · show PV.d (.tup [D.tup _, D.tup _]) = _
      rw [tN_list, tN_list, h2]
    · exact ⟨hn.1, fun h => by rw [h3' h]; omega, fun h => ⟨h3 h, hr h⟩, fun i hi => (h5 i hi).1, fun i hi => (h5 i hi).2, h4, by omega⟩
  · rintro t ht ρ ⟨u', S, E, a, b, c, d, rfl, hu', h2, h3, h3', h4, h5⟩
    refine ⟨_, rfl, ?_⟩
    have hSl : (S.map fun (i : Nat) => D.int i).length < 16777216 := by simp; omega
    cases ring with
    | true =>
      have hE := h3 rfl
      have hEl : (E.map fun (i : Nat) => D.int i).length < 16777216 := by simp; omega
      repeat' first
          | with_reducible apply w_consS
          | with_reducible apply w_nilS
          | with_reducible apply w_asg
          | with_reducible apply w_iff
          | with_reducible apply w_six
          | with_reducible apply w_ret
          | with_reducible apply w_asgt
          | with_reducible apply w_ex
          | with_reducible apply w_retn
          | with_reducible apply w_brk
          | with_reducible apply w_cnt
          | with_reducible apply w_pas
          | with_reducible apply w_T
          | with_reducible apply w_pr
          | with_reducible apply w_cons
          | with_reducible apply w_nil
          | with_reducible apply w_c
          | (with_reducible refine w_v rfl ?_)
          | (with_reducible refine w_rd rfl rfl ?_)
          | (with_reducible refine w_mv rfl rfl ?_)
          | (with_reducible refine w_fz rfl ?_)
          | (with_reducible refine w_io rfl ?_)
          | with_reducible apply w_tup
          | with_reducible apply w_lst
          | with_reducible apply w_dic0
          | with_reducible apply w_frz
          | with_reducible apply w_cl
          | with_reducible apply w_clk
          | with_reducible apply w_nt
          | with_reducible apply w_or1
          | with_reducible apply w_an1
          | with_reducible apply w_or
          | with_reducible apply w_an
          | with_reducible apply w_ite
          | with_reducible apply w_ch
          | with_reducible apply w_itE
          | with_reducible apply w_itR
          | with_reducible apply w_itN
          | with_reducible apply w_csn
          | with_reducible apply w_csc
          | (with_reducible refine w_mu rfl ?_)
          | ((with_reducible apply w_aix); rfl)
          | ((with_reducible apply w_aug); rfl)
          | with_reducible apply w_nxS
          | with_reducible apply w_rtS
          | with_reducible apply w_bkS
          | with_reducible apply w_ctS
          | with_reducible apply r_rt
          | with_reducible apply r_nx
          | with_reducible apply t_nx
          | with_reducible apply t_rt
          | with_reducible apply t_ct
          | with_reducible apply t_bk
          | ((with_reducible apply c_take); rfl; assumption; omega; intro r u' h0 h1 hu')
          | ((with_reducible apply w_io); exact (isUn_of (by assumption)))
          | (refine c_ix4i (by omega) fun x hx => ?_)
          | (refine c_ix3i (by omega) fun x hx => ?_)
          | ((with_reducible apply ex_m); exact m_append hSl)
          | ((with_reducible apply ex_m); exact m_append hEl)
          | (exact DI_app (by assumption) h2 hE h4 h5 (by omega) (by omega) (by omega) (by simp))
          | with_reducible rfl
          | (with_reducible refine ⟨_, a_eqI, ?_⟩)
          | (with_reducible refine ⟨_, a_neI, ?_⟩)
          | with_reducible apply cd_t
          | with_reducible apply cd_f
          | with_reducible apply cd_t'
          | with_reducible apply cd_f'
          | with_reducible apply cd_not
          | with_reducible apply cd_not'
          | (with_reducible refine cd_eq (fun hc => ?_) (fun hc => ?_) <;> first | (exfalso; omega) | skip)
          | (with_reducible refine cd_dec (fun hc => ?_) (fun hc => ?_) <;> first | (exfalso; omega) | skip)
          | (with_reducible refine cd_eq' (fun hc => ?_) (fun hc => ?_) <;> first | (exfalso; omega) | skip)
          | (with_reducible refine cd_dec' (fun hc => ?_) (fun hc => ?_) <;> first | (exfalso; omega) | skip)
          | (with_reducible refine c_min2 (fun x hx => ?_))
          | (with_reducible refine c_max2 (fun x hx => ?_))
          | ((with_reducible apply ex1); rfl)
          | ((with_reducible apply exB); rfl)
          | ((with_reducible apply ex2); rfl)
          | (with_reducible refine ex_rng1 (by omega) ?_)
          | (with_reducible refine ex_rng2 (by omega) ?_)
          | (with_reducible refine cd_any (fun hc => ?_) (fun hc => ?_) <;> first | (exact absurd hc (by decide)) | skip)
          | (with_reducible refine cd_any' (fun hc => ?_) (fun hc => ?_) <;> first | (exact absurd hc (by decide)) | skip)
          | ((with_reducible apply anB); rfl)
          | (exact ⟨rfl, rfl⟩)
          | fail
    | false =>
      have hE := h3' rfl
      have hEl : (E.map fun (i : Nat) => D.int i).length < 16777216 := by simp; omega
      by_cases h7 : 0 < t <;> by_cases h8 : t + 1 < n
      all_goals
        repeat' first
            | with_reducible apply w_consS
            | with_reducible apply w_nilS
            | with_reducible apply w_asg
            | with_reducible apply w_iff
            | with_reducible apply w_six
            | with_reducible apply w_ret
            | with_reducible apply w_asgt
            | with_reducible apply w_ex
            | with_reducible apply w_retn
            | with_reducible apply w_brk
            | with_reducible apply w_cnt
            | with_reducible apply w_pas
            | with_reducible apply w_T
            | with_reducible apply w_pr
            | with_reducible apply w_cons
            | with_reducible apply w_nil
            | with_reducible apply w_c
            | (with_reducible refine w_v rfl ?_)
            | (with_reducible refine w_rd rfl rfl ?_)
            | (with_reducible refine w_mv rfl rfl ?_)
            | (with_reducible refine w_fz rfl ?_)
            | (with_reducible refine w_io rfl ?_)
            | with_reducible apply w_tup
            | with_reducible apply w_lst
            | with_reducible apply w_dic0
            | with_reducible apply w_frz
            | with_reducible apply w_cl
            | with_reducible apply w_clk
            | with_reducible apply w_nt
            | with_reducible apply w_or1
            | with_reducible apply w_an1
            | with_reducible apply w_or
            | with_reducible apply w_an
            | with_reducible apply w_ite
            | with_reducible apply w_ch
            | with_reducible apply w_itE
            | with_reducible apply w_itR
            | with_reducible apply w_itN
            | with_reducible apply w_csn
            | with_reducible apply w_csc
            | (with_reducible refine w_mu rfl ?_)
            | ((with_reducible apply w_aix); rfl)
            | ((with_reducible apply w_aug); rfl)
            | with_reducible apply w_nxS
            | with_reducible apply w_rtS
            | with_reducible apply w_bkS
            | with_reducible apply w_ctS
            | with_reducible apply r_rt
            | with_reducible apply r_nx
            | with_reducible apply t_nx
            | with_reducible apply t_rt
            | with_reducible apply t_ct
            | with_reducible apply t_bk
            | ((with_reducible apply c_take); rfl; assumption; omega; intro r u' h0 h1 hu')
            | ((with_reducible apply w_io); exact (isUn_of (by assumption)))
            | (refine c_ix4i (by omega) fun x hx => ?_)
            | (refine c_ix3i (by omega) fun x hx => ?_)
            | ((with_reducible apply ex_m); exact m_append hSl)
            | ((with_reducible apply ex_m); exact m_append hEl)
            | (exact DI_app (by assumption) h2 (by omega) h4 h5 (by omega) (by omega) (fun h => by first | omega | (simp at h; omega)) (by omega))
            | (exact DI_app1 (by assumption) h2 hE h4 h5 (by omega) h8)
            | with_reducible rfl
            | (with_reducible refine ⟨_, a_eqI, ?_⟩)
            | (with_reducible refine ⟨_, a_neI, ?_⟩)
            | with_reducible apply cd_t
            | with_reducible apply cd_f
            | with_reducible apply cd_t'
            | with_reducible apply cd_f'
            | with_reducible apply cd_not
            | with_reducible apply cd_not'
            | (with_reducible refine cd_eq (fun hc => ?_) (fun hc => ?_) <;> first | (exfalso; omega) | skip)
            | (with_reducible refine cd_dec (fun hc => ?_) (fun hc => ?_) <;> first | (exfalso; omega) | skip)
            | (with_reducible refine cd_eq' (fun hc => ?_) (fun hc => ?_) <;> first | (exfalso; omega) | skip)
            | (with_reducible refine cd_dec' (fun hc => ?_) (fun hc => ?_) <;> first | (exfalso; omega) | skip)
            | (with_reducible refine c_min2 (fun x hx => ?_))
            | (with_reducible refine c_max2 (fun x hx => ?_))
            | ((with_reducible apply ex1); rfl)
            | ((with_reducible apply exB); rfl)
            | ((with_reducible apply ex2); rfl)
            | (with_reducible refine ex_rng1 (by omega) ?_)
            | (with_reducible refine ex_rng2 (by omega) ?_)
            | (with_reducible refine cd_any (fun hc => ?_) (fun hc => ?_) <;> first | (exact absurd hc (by decide)) | skip)
            | (with_reducible refine cd_any' (fun hc => ?_) (fun hc => ?_) <;> first | (exact absurd hc (by decide)) | skip)
            | ((with_reducible apply anB); rfl)
            | (exact ⟨rfl, rfl⟩)
            | fail
end Rt.Pl.k18

set_option Elab.async false
set_option linter.all false
set_option maxRecDepth 100000
set_option maxHeartbeats 2000000
namespace Rt.Pl.k18
open Rt Rt.k18
section
variable {ring : Bool} {n m : Nat} {s e : Nat → Nat}
theorem tree_ints : ∀ {l : List Int}, treeL (l.map .int) = true
  | [] => rfl
  | x :: l => by
    show (treeOk (.int x) && treeL (l.map .int)) = true
    rw [tree_ints]
    rfl
theorem tree_tT : ∀ {ls : List (List Int)}, treeL (ls.map tupI) = true
  | [] => rfl
  | x :: l => by
    show (treeOk (tupI x) && treeL (l.map tupI)) = true
    rw [tree_tT]
    show (treeL (x.map .int) && true) = true
    rw [tree_ints]
    rfl
theorem nds_ints : ∀ {l : List Int}, ndsL (l.map .int) = l.length
  | [] => rfl
  | x :: l => by
    show nds (.int x) + ndsL (l.map .int) = l.length + 1
    rw [nds_ints]
    show 1 + l.length = _
    omega
theorem nds_tT {c : Nat} : ∀ {ls : List (List Int)}, (∀ l ∈ ls, l.length ≤ c) → ndsL (ls.map tupI) ≤ ls.length * (c + 1)
  | [], _ => Nat.zero_le _
  | x :: l, h => by
    have h1 := nds_tT fun y hy => h y (List.mem_cons_of_mem _ hy)
    have h2 := h x List.mem_cons_self
    show nds (tupI x) + ndsL (l.map tupI) ≤ (l.length + 1) * (c + 1)
    have : nds (tupI x) = 1 + x.length := by show 1 + ndsL (x.map .int) = _; rw [nds_ints]
    rw [this, Nat.add_mul, Nat.one_mul]
    omega
theorem same_tT (W j : Nat) {ls : List (List Int)} {c : Nat} (h : ∀ l ∈ ls, l.length ≤ c) (h2 : ls.length * (c + 1) < 1999999) : call Pt W (j + 1) 7 [.d (tT ls), .d (tT ls)] = some (.d (.bl true), [.un, .un]) := by
  refine same_ok W j (tT ls) tree_tT ?_
  show 1 + ndsL (ls.map tupI) < _
  have := nds_tT h
  omega
theorem same_bd (W j : Nat) (k : Ok ring n m s e) : call Pt W (j + 1) 7 [.d (bd ring n s e), .d (bd ring n s e)] = some (.d (.bl true), [.un, .un]) := by
  have hp : (ord (faceL ring n s e n).1).Perm ((faceL ring n s e n).1.map rot) := List.mergeSort_perm _ _
  refine same_tT W j (c := 20) (fun l hl => ?_) ?_
  · obtain ⟨l', h, rfl⟩ := List.mem_map.mp (hp.mem_iff.mp hl)
    rw [rot_len]
    exact (faceL_mem k l' h).2
  · rw [hp.length_eq, List.length_map, faceL_len]
    have := k.nb
    omega
theorem a_slN {n : Nat} {f : Nat → Nat} : app (.sl false true) [.d (tN n f), .d (.int (-1))] = some (.d (tN (n - 1) f)) := by
  show some (PV.d (.tup (cutL _ none (some (-1))))) = _
  congr 3
  have e : clip n (-1) = n - 1 := by unfold clip; rw [if_pos (by omega)]; omega
  simp only [cutL, Option.map_some, Option.getD_some, Option.map_none, Option.getD_none, List.drop_zero, Nat.sub_zero, List.length_map, List.length_range]
  rw [e, ← List.map_take, List.take_range, Nat.min_eq_left (by omega)]
theorem Ok.row (k : Ok ring n m s e) (h : 2 ≤ n) : Ok false (n - 1) (n - 2) s e where
  n1 := by omega
  m1 := fun _ => by omega
  m2 := fun h => by cases h
  lt := fun i hi => k.lt i (by
    cases h : ring with
    | false => have := k.m1 h; omega
    | true => have := k.m2 h; omega)
  pos := fun i hi h' => k.pos i (by
    cases h : ring with
    | false => have := k.m1 h; omega
    | true => have := k.m2 h; omega) (by
    rcases h' with h' | h'
    · exact .inl h'
    · cases h')
  s1 := fun i hi => k.s1 i (by omega)
  nb := by have := k.nb; omega
theorem Ok.open (k : Ok true n m s e) : Ok false n (m - 1) s e where
  n1 := k.n1
  m1 := fun _ => by have := k.m2 rfl; omega
  m2 := fun h => by cases h
  lt := fun i hi => k.lt i (by omega)
  pos := fun i hi h' => k.pos i (by omega) (by
    rcases h' with h' | h'
    · exact .inl h'
    · cases h')
  s1 := k.s1
  nb := k.nb
theorem looked_ok (W j : Nat) (u : PV) (many most : Int) (hu : Urn u) (hn : 1 ≤ many ∧ many ≤ 60) (hm : 1 ≤ most ∧ most ≤ 20) :
    ∃ v ws, call Pt W (j + 3) 12 [u, .d (.int many), .d (.int most)] = some (v, ws) ∧ ∃ u', v = .d (.bl true) ∧ ws = [u', .un, .un] ∧ Urn u' := by
  obtain ⟨n, rfl⟩ := Int.eq_ofNat_of_zero_le (show 0 ≤ many by omega)
  refine call_ok (fd := f_law_looked) rfl rfl rfl ?_
  unfold f_law_looked
  dsimp only
  obtain ⟨v, ws, e1, m, s, e, u', rfl, rfl, hu', k⟩ := drawn_ok W j u n false most hu (by omega) (by simp) hm
  have hm1 := k.m1 rfl
  by_cases h1 : n = 1
  · repeat' first
        | with_reducible apply w_consS
        | with_reducible apply w_nilS
        | with_reducible apply w_asg
        | with_reducible apply w_iff
        | with_reducible apply w_six
        | with_reducible apply w_ret
        | with_reducible apply w_asgt
        | with_reducible apply w_ex
        | with_reducible apply w_retn
        | with_reducible apply w_brk
        | with_reducible apply w_cnt
        | with_reducible apply w_pas
        | with_reducible apply w_T
        | with_reducible apply w_pr
        | with_reducible apply w_cons
        | with_reducible apply w_nil
        | with_reducible apply w_c
        | (with_reducible refine w_v rfl ?_)
        | (with_reducible refine w_rd rfl rfl ?_)
        | (with_reducible refine w_mv rfl rfl ?_)
        | (with_reducible refine w_fz rfl ?_)
        | (with_reducible refine w_io rfl ?_)
        | with_reducible apply w_tup
        | with_reducible apply w_lst
        | with_reducible apply w_dic0
        | with_reducible apply w_frz
        | with_reducible apply w_cl
        | with_reducible apply w_clk
        | with_reducible apply w_nt
        | with_reducible apply w_or1
        | with_reducible apply w_an1
        | with_reducible apply w_or
        | with_reducible apply w_an
        | with_reducible apply w_ite
        | with_reducible apply w_ch
        | with_reducible apply w_itE
        | with_reducible apply w_itR
        | with_reducible apply w_itN
        | with_reducible apply w_csn
        | with_reducible apply w_csc
        | (with_reducible refine w_mu rfl ?_)
        | ((with_reducible apply w_aix); rfl)
        | ((with_reducible apply w_aug); rfl)
        | with_reducible apply w_nxS
        | with_reducible apply w_rtS
        | with_reducible apply w_bkS
        | with_reducible apply w_ctS
        | with_reducible apply r_rt
        | with_reducible apply r_nx
        | with_reducible apply t_nx
        | with_reducible apply t_rt
        | with_reducible apply t_ct
        | with_reducible apply t_bk
        | ((with_reducible apply w_io); exact (isUn_of (by assumption)))
        | ((with_reducible refine ex_call (e1) ?_ ?_); rfl)
        | ((with_reducible refine ex_call (rowboard_ok W j k) ?_ ?_); rfl)
        | ((with_reducible refine ex_call (lawrow_ok W j k) ?_ ?_); rfl)
        | ((with_reducible refine ex_call (same_bd W (j + 1) k) ?_ ?_); rfl)
        | (exact ⟨_, rfl, rfl, hu'⟩)
        | with_reducible rfl
        | (with_reducible refine ⟨_, a_eqI, ?_⟩)
        | (with_reducible refine ⟨_, a_neI, ?_⟩)
        | with_reducible apply cd_t
        | with_reducible apply cd_f
        | with_reducible apply cd_t'
        | with_reducible apply cd_f'
        | with_reducible apply cd_not
        | with_reducible apply cd_not'
        | (with_reducible refine cd_eq (fun hc => ?_) (fun hc => ?_) <;> first | (exfalso; omega) | skip)
        | (with_reducible refine cd_dec (fun hc => ?_) (fun hc => ?_) <;> first | (exfalso; omega) | skip)
        | (with_reducible refine cd_eq' (fun hc => ?_) (fun hc => ?_) <;> first | (exfalso; omega) | skip)
        | (with_reducible refine cd_dec' (fun hc => ?_) (fun hc => ?_) <;> first | (exfalso; omega) | skip)
        | (with_reducible refine c_min2 (fun x hx => ?_))
        | (with_reducible refine c_max2 (fun x hx => ?_))
        | ((with_reducible apply ex1); rfl)
        | ((with_reducible apply exB); rfl)
        | ((with_reducible apply ex2); rfl)
        | (with_reducible refine ex_rng1 (by omega) ?_)
        | (with_reducible refine ex_rng2 (by omega) ?_)
        | (with_reducible refine cd_any (fun hc => ?_) (fun hc => ?_) <;> first | (exact absurd hc (by decide)) | skip)
        | (with_reducible refine cd_any' (fun hc => ?_) (fun hc => ?_) <;> first | (exact absurd hc (by decide)) | skip)
        | ((with_reducible apply anB); rfl)
        | (exact ⟨rfl, rfl⟩)
        | fail
  · obtain ⟨v, ws, e2, m2, s2, t2, u2, rfl, rfl, hu2, k2⟩ := drawn_ok W j u' n true most hu' (by omega) (fun _ => by omega) hm
    have hm2 := k2.m2 rfl
    have k3 := k.row (by omega)
    have k4 := k2.open
    have em : m - 1 = n - 2 := by omega
    have k3' : Ok false (n - 1) (m - 1) s e := by rw [em]; exact k3
    repeat' first
        | with_reducible apply w_consS
        | with_reducible apply w_nilS
        | with_reducible apply w_asg
        | with_reducible apply w_iff
        | with_reducible apply w_six
        | with_reducible apply w_ret
        | with_reducible apply w_asgt
        | with_reducible apply w_ex
        | with_reducible apply w_retn
        | with_reducible apply w_brk
        | with_reducible apply w_cnt
        | with_reducible apply w_pas
        | with_reducible apply w_T
        | with_reducible apply w_pr
        | with_reducible apply w_cons
        | with_reducible apply w_nil
        | with_reducible apply w_c
        | (with_reducible refine w_v rfl ?_)
        | (with_reducible refine w_rd rfl rfl ?_)
        | (with_reducible refine w_mv rfl rfl ?_)
        | (with_reducible refine w_fz rfl ?_)
        | (with_reducible refine w_io rfl ?_)
        | with_reducible apply w_tup
        | with_reducible apply w_lst
        | with_reducible apply w_dic0
        | with_reducible apply w_frz
        | with_reducible apply w_cl
        | with_reducible apply w_clk
        | with_reducible apply w_nt
        | with_reducible apply w_or1
        | with_reducible apply w_an1
        | with_reducible apply w_or
        | with_reducible apply w_an
        | with_reducible apply w_ite
        | with_reducible apply w_ch
        | with_reducible apply w_itE
        | with_reducible apply w_itR
        | with_reducible apply w_itN
        | with_reducible apply w_csn
        | with_reducible apply w_csc
        | (with_reducible refine w_mu rfl ?_)
        | ((with_reducible apply w_aix); rfl)
        | ((with_reducible apply w_aug); rfl)
        | with_reducible apply w_nxS
        | with_reducible apply w_rtS
        | with_reducible apply w_bkS
        | with_reducible apply w_ctS
        | with_reducible apply r_rt
        | with_reducible apply r_nx
        | with_reducible apply t_nx
        | with_reducible apply t_rt
        | with_reducible apply t_ct
        | with_reducible apply t_bk
        | ((with_reducible apply w_io); exact (isUn_of (by assumption)))
        | ((with_reducible refine ex_call (e1) ?_ ?_); rfl)
        | ((with_reducible refine ex_call (e2) ?_ ?_); rfl)
        | ((with_reducible apply ex1); exact a_slN)
        | ((with_reducible refine ex_call (rowboard_ok W j k) ?_ ?_); rfl)
        | ((with_reducible refine ex_call (lawrow_ok W j k) ?_ ?_); rfl)
        | ((with_reducible refine ex_call (same_bd W (j + 1) k) ?_ ?_); rfl)
        | ((with_reducible refine ex_call (rowboard_ok W j k3') ?_ ?_); rfl)
        | ((with_reducible refine ex_call (lawrow_ok W j k3') ?_ ?_); rfl)
        | ((with_reducible refine ex_call (same_bd W (j + 1) k3) ?_ ?_); rfl)
        | ((with_reducible refine ex_call (ringboard_ok W j k2) ?_ ?_); rfl)
        | ((with_reducible refine ex_call (lawring_ok W j k2) ?_ ?_); rfl)
        | ((with_reducible refine ex_call (same_bd W (j + 1) k2) ?_ ?_); rfl)
        | ((with_reducible refine ex_call (rowboard_ok W j k4) ?_ ?_); rfl)
        | ((with_reducible refine ex_call (lawrow_ok W j k4) ?_ ?_); rfl)
        | ((with_reducible refine ex_call (same_bd W (j + 1) k4) ?_ ?_); rfl)
        | (exact ⟨_, rfl, rfl, hu2⟩)
        | with_reducible rfl
        | (with_reducible refine ⟨_, a_eqI, ?_⟩)
        | (with_reducible refine ⟨_, a_neI, ?_⟩)
        | with_reducible apply cd_t
        | with_reducible apply cd_f
        | with_reducible apply cd_t'
        | with_reducible apply cd_f'
        | with_reducible apply cd_not
        | with_reducible apply cd_not'
        | (with_reducible refine cd_eq (fun hc => ?_) (fun hc => ?_) <;> first | (exfalso; omega) | skip)
        | (with_reducible refine cd_dec (fun hc => ?_) (fun hc => ?_) <;> first | (exfalso; omega) | skip)
        | (with_reducible refine cd_eq' (fun hc => ?_) (fun hc => ?_) <;> first | (exfalso; omega) | skip)
        | (with_reducible refine cd_dec' (fun hc => ?_) (fun hc => ?_) <;> first | (exfalso; omega) | skip)
        | (with_reducible refine c_min2 (fun x hx => ?_))
        | (with_reducible refine c_max2 (fun x hx => ?_))
        | ((with_reducible apply ex1); rfl)
        | ((with_reducible apply exB); rfl)
        | ((with_reducible apply ex2); rfl)
        | (with_reducible refine ex_rng1 (by omega) ?_)
        | (with_reducible refine ex_rng2 (by omega) ?_)
        | (with_reducible refine cd_any (fun hc => ?_) (fun hc => ?_) <;> first | (exact absurd hc (by decide)) | skip)
        | (with_reducible refine cd_any' (fun hc => ?_) (fun hc => ?_) <;> first | (exact absurd hc (by decide)) | skip)
        | ((with_reducible apply anB); rfl)
        | (exact ⟨rfl, rfl⟩)
        | fail
end
end Rt.Pl.k18

set_option Elab.async false
set_option linter.all false
set_option maxRecDepth 100000
set_option maxHeartbeats 2000000
namespace Rt.Pl.k18
open Rt Rt.k18
theorem sortT_of {us : List (List Int)} (h : us.Pairwise fun a b => (!lexI b a) = true) : sortT us = us := List.mergeSort_of_pairwise h
/-- by hand: rows -/
theorem hand_row (W j n m : Nat) (s e : Nat → Nat) (k : Ok false n m s e) (us : List (List Int)) (h : (faceL false n s e n).1.map rot = us) (hs : us.Pairwise fun a b => (!lexI b a) = true) : call Pt W (j + 2) 3 [.d (tN n s), .d (tN m e)] = some (.d (tT us), [.un, .un]) := by
  rw [rowboard_ok W j k, bd, ord, h, sortT_of hs]
theorem hand_ring (W j n m : Nat) (s e : Nat → Nat) (k : Ok true n m s e) (us : List (List Int)) (h : (faceL true n s e n).1.map rot = us) (hs : us.Pairwise fun a b => (!lexI b a) = true) : call Pt W (j + 2) 4 [.d (tN n s), .d (tN m e)] = some (.d (tT us), [.un, .un]) := by
  rw [ringboard_ok W j k, bd, ord, h, sortT_of hs]
theorem rb11 (W j : Nat) : call Pt W (j + 2) 3 [.d (.tup [.int 1, .int 1]), .d (.tup [.int 0])] = some (.d (.tup [.tup [.int 0], .tup [.int 1]]), [.un, .un]) :=
  hand_row W j 2 1 (fun _ => 1) (fun _ => 0) ⟨by omega, by simp, by simp, by simp, fun i h h' => by simp at h'; omega, by simp, by omega⟩ [[0], [1]] (by decide) (by decide)
theorem rb44a (W j : Nat) : call Pt W (j + 2) 3 [.d (.tup [.int 4, .int 4]), .d (.tup [.int 0])] = some (.d (.tup [.tup [.int 0, .int 2, .int 4, .int 6], .tup [.int 1, .int 8, .int 10, .int 12]]), [.un, .un]) :=
  hand_row W j 2 1 (fun _ => 4) (fun _ => 0) ⟨by omega, by simp, by simp, by simp, fun i h h' => by simp at h'; omega, by simp, by omega⟩ [[0, 2, 4, 6], [1, 8, 10, 12]] (by decide) (by decide)
theorem rb44b (W j : Nat) : call Pt W (j + 2) 3 [.d (.tup [.int 4, .int 4]), .d (.tup [.int 3])] = some (.d (.tup [.tup [.int 0, .int 2, .int 4, .int 6], .tup [.int 7, .int 8, .int 10, .int 12]]), [.un, .un]) :=
  hand_row W j 2 1 (fun _ => 4) (fun _ => 3) ⟨by omega, by simp, by simp, by simp, by simp, by simp, by omega⟩ [[0, 2, 4, 6], [7, 8, 10, 12]] (by decide) (by decide)
theorem rg33a (W j : Nat) : call Pt W (j + 2) 4 [.d (.tup [.int 3, .int 3]), .d (.tup [.int 1, .int 2])] = some (.d (.tup [.tup [.int 0, .int 2, .int 4], .tup [.int 1, .int 3, .int 6]]), [.un, .un]) :=
  hand_ring W j 2 2 (fun _ => 3) (fun i => i + 1) ⟨by omega, by simp, by simp, fun i h => by omega, by simp, by simp, by omega⟩ [[0, 2, 4], [1, 3, 6]] (by decide) (by decide)
theorem rg33b (W j : Nat) : call Pt W (j + 2) 4 [.d (.tup [.int 3, .int 3]), .d (.tup [.int 2, .int 1])] = some (.d (.tup [.tup [.int 0, .int 2, .int 4], .tup [.int 1, .int 6, .int 5]]), [.un, .un]) :=
  hand_ring W j 2 2 (fun _ => 3) (fun i => 2 - i) ⟨by omega, by simp, by simp, fun i h => by omega, fun i h _ => by omega, by simp, by omega⟩ [[0, 2, 4], [1, 6, 5]] (by decide) (by decide)
def evens (n : Nat) : List Int := (List.range n).map fun (k : Nat) => 2 * (k : Int)
theorem single_rot : ∀ n, n < 21 → (faceL false 1 (fun _ => n) (fun _ => 0) 1).1.map rot = [evens n] := by decide
theorem rb1 (W j n : Nat) (h : 1 ≤ n ∧ n ≤ 20) : call Pt W (j + 2) 3 [.d (.tup [.int n]), .d (.tup [])] = some (.d (tT [evens n]), [.un, .un]) :=
  hand_row W j 1 0 (fun _ => n) (fun _ => 0) ⟨by omega, by simp, by simp, by simp, by simp, fun _ _ => h, by omega⟩ [evens n] (single_rot n (by omega)) (by simp)
def ringL (n : Nat) : List (List Int) := [[0, 2]] ++ (List.range (n - 2)).map (fun (k : Nat) => [2 * (1 + (k : Int)) + 1, 2 * (1 + (k : Int)) + 2]) ++ [[1, 2 * (n : Int) - 1]]
theorem ring_rot : ∀ n, n < 7 → 2 ≤ n → (faceL true n (fun _ => 2) (fun _ => 1) n).1.map rot = ringL n := by decide
theorem rg2 (W j n : Nat) (h : 2 ≤ n ∧ n ≤ 6) : call Pt W (j + 2) 4 [.d (tN n fun _ => 2), .d (tN n fun _ => 1)] = some (.d (tT (sortT (ringL n))), [.un, .un]) := by
  rw [ringboard_ok W j (n := n) (m := n) (s := fun _ => 2) (e := fun _ => 1) ⟨by omega, by simp, fun _ => ⟨rfl, h.1⟩, by simp, by simp, by simp, by omega⟩, bd, ord, ring_rot n (by omega) h.1]
theorem a_mulR {x n : Nat} (h : 2 ≤ n ∧ n ≤ 1000) : app .mul [.d (.tup [.int x]), .d (.int n)] = some (.d (tN n fun _ => x)) := by
  simp only [app, pMul]
  rw [if_pos (by simp; omega)]
  have : (List.replicate (n : Int).toNat [D.int x]).flatten = (List.range n).map fun _ => D.int x := by
    apply List.ext_getElem?
    intro i
    by_cases h : i < n
    · simp [h]
    · simp [h]
  rw [this]
  rfl
theorem a_sortF {us : List (List Int)} (h : ∀ u ∈ us, u ≠ []) : app .sorted [.d (.fl (us.map tupI))] = some (.ol ((sortT us).map tupI)) := by
  rw [← a_sortT h]
  rfl
theorem ringL_ne {n : Nat} : ∀ u ∈ ringL n, u ≠ [] := by
  intro u hu
  simp only [ringL, List.mem_append, List.mem_map, List.mem_singleton] at hu
  rcases hu with (rfl | ⟨_, _, rfl⟩) | rfl <;> simp
theorem same_ringL (W j n : Nat) (h : 2 ≤ n ∧ n ≤ 6) : call Pt W (j + 1) 7 [.d (tT (sortT (ringL n))), .d (tT (sortT (ringL n)))] = some (.d (.bl true), [.un, .un]) := by
  have hp : (sortT (ringL n)).Perm (ringL n) := List.mergeSort_perm _ _
  refine same_tT W j (c := 20) (fun l hl => ?_) ?_
  · have := hp.mem_iff.mp hl
    simp only [ringL, List.mem_append, List.mem_map, List.mem_singleton] at this
    rcases this with (rfl | ⟨_, _, rfl⟩) | rfl <;> simp
  · rw [hp.length_eq]
    simp [ringL]
    omega
theorem a_addL {a b : List D} (h : a.length + b.length ≤ 16777216) : app .add [.ol a, .ol b] = some (.ol (a ++ b)) := by
  simp only [app, pAdd, asL]
  rw [if_pos (show szB (a.length + b.length) = true from decide_eq_true h)]
theorem c_same {W j : Nat} {d : D} {args : List PV} {Q : PV → List PV → Prop} (e : args = [.d d, .d d]) (h : treeOk d = true) (h1 : nds d < 2000000) (q : Q (.d (.bl true)) [.un, .un]) : ∃ r ws, call Pt W (j + 1) 7 args = some (r, ws) ∧ Q r ws := by
  subst e
  exact ⟨_, _, same_ok W j d h h1, q⟩
theorem named_ok (W j : Nat) (u : PV) (hu : Urn u) :
    ∃ v ws, call Pt W (j + 3) 13 [u] = some (v, ws) ∧ ∃ u', v = .d (.bl true) ∧ ws = [u'] ∧ Urn u' := by
  refine call_ok (fd := f_law_named) rfl rfl rfl ?_
  unfold f_law_named
  dsimp only
  obtain ⟨v, ws, e1, r1, u1, rfl, rfl, h10, h11, hu1⟩ := take_ok W (j + 1) u 20 hu (by omega) (by omega)
  obtain ⟨v, ws, e2, r2, u2, rfl, rfl, h20, h21, hu2⟩ := take_ok W (j + 1) u1 5 hu1 (by omega) (by omega)
  obtain ⟨n1, hn1⟩ := Int.eq_ofNat_of_zero_le (show 0 ≤ 1 + r1 by omega)
  obtain ⟨n2, hn2⟩ := Int.eq_ofNat_of_zero_le (show 0 ≤ 2 + r2 by omega)
  have i1 : app .add [.d (.int 1), .d (.int r1)] = some (.d (.int (n1 : Nat))) := by rw [← hn1]; rfl
  have i2 : app .add [.d (.int 2), .d (.int r2)] = some (.d (.int (n2 : Nat))) := by rw [← hn2]; rfl
  repeat' first
      | with_reducible apply w_consS
      | with_reducible apply w_nilS
      | with_reducible apply w_asg
      | with_reducible apply w_iff
      | with_reducible apply w_six
      | with_reducible apply w_ret
      | with_reducible apply w_asgt
      | with_reducible apply w_ex
      | with_reducible apply w_retn
      | with_reducible apply w_brk
      | with_reducible apply w_cnt
      | with_reducible apply w_pas
      | with_reducible apply w_T
      | with_reducible apply w_pr
      | with_reducible apply w_cons
      | with_reducible apply w_nil
      | with_reducible apply w_c
      | (with_reducible refine w_v rfl ?_)
      | (with_reducible refine w_rd rfl rfl ?_)
      | (with_reducible refine w_mv rfl rfl ?_)
      | (with_reducible refine w_fz rfl ?_)
      | (with_reducible refine w_io rfl ?_)
      | with_reducible apply w_tup
      | with_reducible apply w_lst
      | with_reducible apply w_dic0
      | with_reducible apply w_frz
      | with_reducible apply w_cl
      | with_reducible apply w_clk
      | with_reducible apply w_nt
      | with_reducible apply w_or1
      | with_reducible apply w_an1
      | with_reducible apply w_or
      | with_reducible apply w_an
      | with_reducible apply w_ite
      | with_reducible apply w_ch
      | with_reducible apply w_itE
      | with_reducible apply w_itR
      | with_reducible apply w_itN
      | with_reducible apply w_csn
      | with_reducible apply w_csc
      | (with_reducible refine w_mu rfl ?_)
      | ((with_reducible apply w_aix); rfl)
      | ((with_reducible apply w_aug); rfl)
      | with_reducible apply w_nxS
      | with_reducible apply w_rtS
      | with_reducible apply w_bkS
      | with_reducible apply w_ctS
      | with_reducible apply r_rt
      | with_reducible apply r_nx
      | with_reducible apply t_nx
      | with_reducible apply t_rt
      | with_reducible apply t_ct
      | with_reducible apply t_bk
      | ((with_reducible apply w_io); exact (isUn_of (by assumption)))
      | ((with_reducible refine ex_call (e1) ?_ ?_); rfl)
      | ((with_reducible refine ex_call (e2) ?_ ?_); rfl)
      | ((with_reducible apply ex1); exact i1)
      | ((with_reducible apply ex1); exact i2)
      | (with_reducible refine w_lcD (fun p acc ρ => acc = (List.range p).map (fun (k : Nat) => D.int (2 * (k : Int))) ∧ ∃ v, ρ = [u1, .d (.int (n1 : Nat)), .un, .un, .un, v]) ?_)
      | with_reducible rfl
      | (with_reducible refine ⟨_, a_eqI, ?_⟩)
      | (with_reducible refine ⟨_, a_neI, ?_⟩)
      | with_reducible apply cd_t
      | with_reducible apply cd_f
      | with_reducible apply cd_t'
      | with_reducible apply cd_f'
      | with_reducible apply cd_not
      | with_reducible apply cd_not'
      | (with_reducible refine cd_eq (fun hc => ?_) (fun hc => ?_) <;> first | (exfalso; omega) | skip)
      | (with_reducible refine cd_dec (fun hc => ?_) (fun hc => ?_) <;> first | (exfalso; omega) | skip)
      | (with_reducible refine cd_eq' (fun hc => ?_) (fun hc => ?_) <;> first | (exfalso; omega) | skip)
      | (with_reducible refine cd_dec' (fun hc => ?_) (fun hc => ?_) <;> first | (exfalso; omega) | skip)
      | (with_reducible refine c_min2 (fun x hx => ?_))
      | (with_reducible refine c_max2 (fun x hx => ?_))
      | ((with_reducible apply ex1); rfl)
      | ((with_reducible apply exB); rfl)
      | ((with_reducible apply ex2); rfl)
      | (with_reducible refine ex_rng1 (by omega) ?_)
      | (with_reducible refine ex_rng2 (by omega) ?_)
      | (with_reducible refine cd_any (fun hc => ?_) (fun hc => ?_) <;> first | (exact absurd hc (by decide)) | skip)
      | (with_reducible refine cd_any' (fun hc => ?_) (fun hc => ?_) <;> first | (exact absurd hc (by decide)) | skip)
      | ((with_reducible apply anB); rfl)
      | (exact ⟨rfl, rfl⟩)
      | fail
  refine ⟨⟨rfl, _, rfl⟩, ?_, ?_⟩
  · rintro p hp acc ρ ⟨rfl, v, rfl⟩
    rw [rngL_get, Int.zero_add]
    refine ⟨_, rfl, ?_⟩
    repeat' first
        | with_reducible apply w_consS
        | with_reducible apply w_nilS
        | with_reducible apply w_asg
        | with_reducible apply w_iff
        | with_reducible apply w_six
        | with_reducible apply w_ret
        | with_reducible apply w_asgt
        | with_reducible apply w_ex
        | with_reducible apply w_retn
        | with_reducible apply w_brk
        | with_reducible apply w_cnt
        | with_reducible apply w_pas
        | with_reducible apply w_T
        | with_reducible apply w_pr
        | with_reducible apply w_cons
        | with_reducible apply w_nil
        | with_reducible apply w_c
        | (with_reducible refine w_v rfl ?_)
        | (with_reducible refine w_rd rfl rfl ?_)
        | (with_reducible refine w_mv rfl rfl ?_)
        | (with_reducible refine w_fz rfl ?_)
        | (with_reducible refine w_io rfl ?_)
        | with_reducible apply w_tup
        | with_reducible apply w_lst
        | with_reducible apply w_dic0
        | with_reducible apply w_frz
        | with_reducible apply w_cl
        | with_reducible apply w_clk
        | with_reducible apply w_nt
        | with_reducible apply w_or1
        | with_reducible apply w_an1
        | with_reducible apply w_or
        | with_reducible apply w_an
        | with_reducible apply w_ite
        | with_reducible apply w_ch
        | with_reducible apply w_itE
        | with_reducible apply w_itR
        | with_reducible apply w_itN
        | with_reducible apply w_csn
        | with_reducible apply w_csc
        | (with_reducible refine w_mu rfl ?_)
        | ((with_reducible apply w_aix); rfl)
        | ((with_reducible apply w_aug); rfl)
        | with_reducible apply w_nxS
        | with_reducible apply w_rtS
        | with_reducible apply w_bkS
        | with_reducible apply w_ctS
        | with_reducible apply r_rt
        | with_reducible apply r_nx
        | with_reducible apply t_nx
        | with_reducible apply t_rt
        | with_reducible apply t_ct
        | with_reducible apply t_bk
        | ((with_reducible apply ex1); exact a_mul (mulOk_l (by decide) (by decide)))
        | with_reducible rfl
        | (with_reducible refine ⟨_, a_eqI, ?_⟩)
        | (with_reducible refine ⟨_, a_neI, ?_⟩)
        | with_reducible apply cd_t
        | with_reducible apply cd_f
        | with_reducible apply cd_t'
        | with_reducible apply cd_f'
        | with_reducible apply cd_not
        | with_reducible apply cd_not'
        | (with_reducible refine cd_eq (fun hc => ?_) (fun hc => ?_) <;> first | (exfalso; omega) | skip)
        | (with_reducible refine cd_dec (fun hc => ?_) (fun hc => ?_) <;> first | (exfalso; omega) | skip)
        | (with_reducible refine cd_eq' (fun hc => ?_) (fun hc => ?_) <;> first | (exfalso; omega) | skip)
        | (with_reducible refine cd_dec' (fun hc => ?_) (fun hc => ?_) <;> first | (exfalso; omega) | skip)
        | (with_reducible refine c_min2 (fun x hx => ?_))
        | (with_reducible refine c_max2 (fun x hx => ?_))
        | ((with_reducible apply ex1); rfl)
        | ((with_reducible apply exB); rfl)
        | ((with_reducible apply ex2); rfl)
        | (with_reducible refine ex_rng1 (by omega) ?_)
        | (with_reducible refine ex_rng2 (by omega) ?_)
        | (with_reducible refine cd_any (fun hc => ?_) (fun hc => ?_) <;> first | (exact absurd hc (by decide)) | skip)
        | (with_reducible refine cd_any' (fun hc => ?_) (fun hc => ?_) <;> first | (exact absurd hc (by decide)) | skip)
        | ((with_reducible apply anB); rfl)
        | (exact ⟨rfl, rfl⟩)
        | fail
    refine ⟨_, rfl, ?_, _, rfl⟩
    rw [List.range_succ, List.map_append]
    rfl
  rintro acc ρ ⟨rfl, v, rfl⟩
  have hlen : (List.map PV.d (rngL 1 0 (n1 : Int).toNat)).length = n1 := by simp [rngL_len]
  rw [hlen]
  refine ⟨by simp [szB]; omega, ?_⟩
  have ev : (List.range n1).map (fun (k : Nat) => D.int (2 * (k : Int))) = (evens n1).map .int := by simp [evens]
  rw [ev]
  have hs1 : call Pt W (j + 2) 7 [.d (tT [evens n1]), .d (tT [evens n1])] = some (.d (.bl true), [.un, .un]) := same_tT W (j + 1) (c := 20) (by simp [evens]; omega) (by simp)
  repeat' first
      | with_reducible apply w_consS
      | with_reducible apply w_nilS
      | with_reducible apply w_asg
      | with_reducible apply w_iff
      | with_reducible apply w_six
      | with_reducible apply w_ret
      | with_reducible apply w_asgt
      | with_reducible apply w_ex
      | with_reducible apply w_retn
      | with_reducible apply w_brk
      | with_reducible apply w_cnt
      | with_reducible apply w_pas
      | with_reducible apply w_T
      | with_reducible apply w_pr
      | with_reducible apply w_cons
      | with_reducible apply w_nil
      | with_reducible apply w_c
      | (with_reducible refine w_v rfl ?_)
      | (with_reducible refine w_rd rfl rfl ?_)
      | (with_reducible refine w_mv rfl rfl ?_)
      | (with_reducible refine w_fz rfl ?_)
      | (with_reducible refine w_io rfl ?_)
      | with_reducible apply w_tup
      | with_reducible apply w_lst
      | with_reducible apply w_dic0
      | with_reducible apply w_frz
      | with_reducible apply w_cl
      | with_reducible apply w_clk
      | with_reducible apply w_nt
      | with_reducible apply w_or1
      | with_reducible apply w_an1
      | with_reducible apply w_or
      | with_reducible apply w_an
      | with_reducible apply w_ite
      | with_reducible apply w_ch
      | with_reducible apply w_itE
      | with_reducible apply w_itR
      | with_reducible apply w_itN
      | with_reducible apply w_csn
      | with_reducible apply w_csc
      | (with_reducible refine w_mu rfl ?_)
      | ((with_reducible apply w_aix); rfl)
      | ((with_reducible apply w_aug); rfl)
      | with_reducible apply w_nxS
      | with_reducible apply w_rtS
      | with_reducible apply w_bkS
      | with_reducible apply w_ctS
      | with_reducible apply r_rt
      | with_reducible apply r_nx
      | with_reducible apply t_nx
      | with_reducible apply t_rt
      | with_reducible apply t_ct
      | with_reducible apply t_bk
      | ((with_reducible apply w_io); exact (isUn_of (by assumption)))
      | ((with_reducible refine ex_call (rb1 W j n1 (by omega)) ?_ ?_); rfl)
      | ((with_reducible refine ex_call (hs1) ?_ ?_); rfl)
      | ((with_reducible refine ex_call (rb11 W j) ?_ ?_); rfl)
      | ((with_reducible apply c_same); rfl; decide; decide)
      | ((with_reducible refine ex_call (e1) ?_ ?_); rfl)
      | ((with_reducible refine ex_call (e2) ?_ ?_); rfl)
      | ((with_reducible apply ex1); exact i1)
      | ((with_reducible apply ex1); exact i2)
      | ((with_reducible apply ex1); exact a_mul (mulOk_l (by decide) (by decide)))
      | (with_reducible refine w_lcD (fun p acc ρ => acc = (List.range p).map (fun (k : Nat) => tupI [2 * (1 + (k : Int)) + 1, 2 * (1 + (k : Int)) + 2]) ∧ ∃ v, ρ = [u2, .d (.int (n1 : Nat)), .d (tT [evens n1]), .d (.int (n2 : Nat)), .un, v]) ?_)
      | with_reducible rfl
      | (with_reducible refine ⟨_, a_eqI, ?_⟩)
      | (with_reducible refine ⟨_, a_neI, ?_⟩)
      | with_reducible apply cd_t
      | with_reducible apply cd_f
      | with_reducible apply cd_t'
      | with_reducible apply cd_f'
      | with_reducible apply cd_not
      | with_reducible apply cd_not'
      | (with_reducible refine cd_eq (fun hc => ?_) (fun hc => ?_) <;> first | (exfalso; omega) | skip)
      | (with_reducible refine cd_dec (fun hc => ?_) (fun hc => ?_) <;> first | (exfalso; omega) | skip)
      | (with_reducible refine cd_eq' (fun hc => ?_) (fun hc => ?_) <;> first | (exfalso; omega) | skip)
      | (with_reducible refine cd_dec' (fun hc => ?_) (fun hc => ?_) <;> first | (exfalso; omega) | skip)
      | (with_reducible refine c_min2 (fun x hx => ?_))
      | (with_reducible refine c_max2 (fun x hx => ?_))
      | ((with_reducible apply ex1); rfl)
      | ((with_reducible apply exB); rfl)
      | ((with_reducible apply ex2); rfl)
      | (with_reducible refine ex_rng1 (by omega) ?_)
      | (with_reducible refine ex_rng2 (by omega) ?_)
      | (with_reducible refine cd_any (fun hc => ?_) (fun hc => ?_) <;> first | (exact absurd hc (by decide)) | skip)
      | (with_reducible refine cd_any' (fun hc => ?_) (fun hc => ?_) <;> first | (exact absurd hc (by decide)) | skip)
      | ((with_reducible apply anB); rfl)
      | (exact ⟨rfl, rfl⟩)
      | fail
  refine ⟨⟨rfl, _, rfl⟩, ?_, ?_⟩
  · rintro p hp acc ρ ⟨rfl, v, rfl⟩
    rw [rngL_get]
    refine ⟨_, rfl, ?_⟩
    repeat' first
        | with_reducible apply w_consS
        | with_reducible apply w_nilS
        | with_reducible apply w_asg
        | with_reducible apply w_iff
        | with_reducible apply w_six
        | with_reducible apply w_ret
        | with_reducible apply w_asgt
        | with_reducible apply w_ex
        | with_reducible apply w_retn
        | with_reducible apply w_brk
        | with_reducible apply w_cnt
        | with_reducible apply w_pas
        | with_reducible apply w_T
        | with_reducible apply w_pr
        | with_reducible apply w_cons
        | with_reducible apply w_nil
        | with_reducible apply w_c
        | (with_reducible refine w_v rfl ?_)
        | (with_reducible refine w_rd rfl rfl ?_)
        | (with_reducible refine w_mv rfl rfl ?_)
        | (with_reducible refine w_fz rfl ?_)
        | (with_reducible refine w_io rfl ?_)
        | with_reducible apply w_tup
        | with_reducible apply w_lst
        | with_reducible apply w_dic0
        | with_reducible apply w_frz
        | with_reducible apply w_cl
        | with_reducible apply w_clk
        | with_reducible apply w_nt
        | with_reducible apply w_or1
        | with_reducible apply w_an1
        | with_reducible apply w_or
        | with_reducible apply w_an
        | with_reducible apply w_ite
        | with_reducible apply w_ch
        | with_reducible apply w_itE
        | with_reducible apply w_itR
        | with_reducible apply w_itN
        | with_reducible apply w_csn
        | with_reducible apply w_csc
        | (with_reducible refine w_mu rfl ?_)
        | ((with_reducible apply w_aix); rfl)
        | ((with_reducible apply w_aug); rfl)
        | with_reducible apply w_nxS
        | with_reducible apply w_rtS
        | with_reducible apply w_bkS
        | with_reducible apply w_ctS
        | with_reducible apply r_rt
        | with_reducible apply r_nx
        | with_reducible apply t_nx
        | with_reducible apply t_rt
        | with_reducible apply t_ct
        | with_reducible apply t_bk
        | ((with_reducible apply ex1); exact a_mul (mulOk_l (by decide) (by decide)))
        | with_reducible rfl
        | (with_reducible refine ⟨_, a_eqI, ?_⟩)
        | (with_reducible refine ⟨_, a_neI, ?_⟩)
        | with_reducible apply cd_t
        | with_reducible apply cd_f
        | with_reducible apply cd_t'
        | with_reducible apply cd_f'
        | with_reducible apply cd_not
        | with_reducible apply cd_not'
        | (with_reducible refine cd_eq (fun hc => ?_) (fun hc => ?_) <;> first | (exfalso; omega) | skip)
        | (with_reducible refine cd_dec (fun hc => ?_) (fun hc => ?_) <;> first | (exfalso; omega) | skip)
        | (with_reducible refine cd_eq' (fun hc => ?_) (fun hc => ?_) <;> first | (exfalso; omega) | skip)
        | (with_reducible refine cd_dec' (fun hc => ?_) (fun hc => ?_) <;> first | (exfalso; omega) | skip)
        | (with_reducible refine c_min2 (fun x hx => ?_))
        | (with_reducible refine c_max2 (fun x hx => ?_))
        | ((with_reducible apply ex1); rfl)
        | ((with_reducible apply exB); rfl)
        | ((with_reducible apply ex2); rfl)
        | (with_reducible refine ex_rng1 (by omega) ?_)
        | (with_reducible refine ex_rng2 (by omega) ?_)
        | (with_reducible refine cd_any (fun hc => ?_) (fun hc => ?_) <;> first | (exact absurd hc (by decide)) | skip)
        | (with_reducible refine cd_any' (fun hc => ?_) (fun hc => ?_) <;> first | (exact absurd hc (by decide)) | skip)
        | ((with_reducible apply anB); rfl)
        | (exact ⟨rfl, rfl⟩)
        | fail
    refine ⟨_, rfl, ?_, _, rfl⟩
    rw [List.range_succ, List.map_append]
    rfl
  rintro acc ρ ⟨rfl, v, rfl⟩
  have hlen : (List.map PV.d (rngL 1 1 ((n2 : Int) - 1 - 1).toNat)).length = n2 - 2 := by simp [rngL_len]; omega
  rw [hlen]
  refine ⟨by simp [szB]; omega, ?_⟩
  have er : ([tupI [0, 2]] ++ (List.range (n2 - 2)).map (fun (k : Nat) => tupI [2 * (1 + (k : Int)) + 1, 2 * (1 + (k : Int)) + 2])) ++ [tupI [1, 2 * (n2 : Int) - 1]] = (ringL n2).map tupI := by simp [ringL]
  have ha1 := a_addL (a := [tupI [0, 2]]) (b := (List.range (n2 - 2)).map (fun (k : Nat) => tupI [2 * (1 + (k : Int)) + 1, 2 * (1 + (k : Int)) + 2])) (by simp; omega)
  have ha2 := a_addL (a := [tupI [0, 2]] ++ (List.range (n2 - 2)).map (fun (k : Nat) => tupI [2 * (1 + (k : Int)) + 1, 2 * (1 + (k : Int)) + 2])) (b := [tupI [1, 2 * (n2 : Int) - 1]]) (by simp; omega)
  rw [er] at ha2
  have hs2 := same_ringL W (j + 1) n2 (by omega)
  repeat' first
      | with_reducible apply w_consS
      | with_reducible apply w_nilS
      | with_reducible apply w_asg
      | with_reducible apply w_iff
      | with_reducible apply w_six
      | with_reducible apply w_ret
      | with_reducible apply w_asgt
      | with_reducible apply w_ex
      | with_reducible apply w_retn
      | with_reducible apply w_brk
      | with_reducible apply w_cnt
      | with_reducible apply w_pas
      | with_reducible apply w_T
      | with_reducible apply w_pr
      | with_reducible apply w_cons
      | with_reducible apply w_nil
      | with_reducible apply w_c
      | (with_reducible refine w_v rfl ?_)
      | (with_reducible refine w_rd rfl rfl ?_)
      | (with_reducible refine w_mv rfl rfl ?_)
      | (with_reducible refine w_fz rfl ?_)
      | (with_reducible refine w_io rfl ?_)
      | with_reducible apply w_tup
      | with_reducible apply w_lst
      | with_reducible apply w_dic0
      | with_reducible apply w_frz
      | with_reducible apply w_cl
      | with_reducible apply w_clk
      | with_reducible apply w_nt
      | with_reducible apply w_or1
      | with_reducible apply w_an1
      | with_reducible apply w_or
      | with_reducible apply w_an
      | with_reducible apply w_ite
      | with_reducible apply w_ch
      | with_reducible apply w_itE
      | with_reducible apply w_itR
      | with_reducible apply w_itN
      | with_reducible apply w_csn
      | with_reducible apply w_csc
      | (with_reducible refine w_mu rfl ?_)
      | ((with_reducible apply w_aix); rfl)
      | ((with_reducible apply w_aug); rfl)
      | with_reducible apply w_nxS
      | with_reducible apply w_rtS
      | with_reducible apply w_bkS
      | with_reducible apply w_ctS
      | with_reducible apply r_rt
      | with_reducible apply r_nx
      | with_reducible apply t_nx
      | with_reducible apply t_rt
      | with_reducible apply t_ct
      | with_reducible apply t_bk
      | ((with_reducible apply w_io); exact (isUn_of (by assumption)))
      | ((with_reducible apply ex1); exact a_mul (mulOk_l (by decide) (by decide)))
      | ((with_reducible apply ex1); exact ha1)
      | ((with_reducible apply ex1); exact ha2)
      | ((with_reducible apply ex1); exact a_mulR (by omega))
      | ((with_reducible apply ex1); exact a_sortF ringL_ne)
      | ((with_reducible refine ex_call (rg2 W j n2 (by omega)) ?_ ?_); rfl)
      | ((with_reducible refine ex_call (hs2) ?_ ?_); rfl)
      | ((with_reducible refine ex_call (rb44a W j) ?_ ?_); rfl)
      | ((with_reducible refine ex_call (rb44b W j) ?_ ?_); rfl)
      | ((with_reducible refine ex_call (rg33a W j) ?_ ?_); rfl)
      | ((with_reducible refine ex_call (rg33b W j) ?_ ?_); rfl)
      | ((with_reducible apply c_same); rfl; decide; decide)
      | (exact ⟨_, rfl, rfl, hu2⟩)
      | with_reducible rfl
      | (with_reducible refine ⟨_, a_eqI, ?_⟩)
      | (with_reducible refine ⟨_, a_neI, ?_⟩)
      | with_reducible apply cd_t
      | with_reducible apply cd_f
      | with_reducible apply cd_t'
      | with_reducible apply cd_f'
      | with_reducible apply cd_not
      | with_reducible apply cd_not'
      | (with_reducible refine cd_eq (fun hc => ?_) (fun hc => ?_) <;> first | (exfalso; omega) | skip)
      | (with_reducible refine cd_dec (fun hc => ?_) (fun hc => ?_) <;> first | (exfalso; omega) | skip)
      | (with_reducible refine cd_eq' (fun hc => ?_) (fun hc => ?_) <;> first | (exfalso; omega) | skip)
      | (with_reducible refine cd_dec' (fun hc => ?_) (fun hc => ?_) <;> first | (exfalso; omega) | skip)
      | (with_reducible refine c_min2 (fun x hx => ?_))
      | (with_reducible refine c_max2 (fun x hx => ?_))
      | ((with_reducible apply ex1); rfl)
      | ((with_reducible apply exB); rfl)
      | ((with_reducible apply ex2); rfl)
      | (with_reducible refine ex_rng1 (by omega) ?_)
      | (with_reducible refine ex_rng2 (by omega) ?_)
      | (with_reducible refine cd_any (fun hc => ?_) (fun hc => ?_) <;> first | (exact absurd hc (by decide)) | skip)
      | (with_reducible refine cd_any' (fun hc => ?_) (fun hc => ?_) <;> first | (exact absurd hc (by decide)) | skip)
      | ((with_reducible apply anB); rfl)
      | (exact ⟨rfl, rfl⟩)
      | fail
end Rt.Pl.k18

set_option Elab.async false
set_option linter.all false
set_option maxRecDepth 100000
set_option maxHeartbeats 2000000
namespace Rt.Pl.k18
open Rt Rt.k18
theorem map_take_snoc {α β : Type} (f : α → β) {l : List α} {p : Nat} (h : p < l.length) : (l.take p).map f ++ [f l[p]] = (l.take (p + 1)).map f := by
  rw [List.take_add_one, List.getElem?_eq_getElem h, List.map_append]
  rfl
theorem urn_ok (W j : Nat) (ns : List Int) : call Pt W (j + 1) 6 [.d (.sc (ns.map .int))] = some (.ol [.fl ((ns.take 63).map .int), .int 0, .int 0, .int 91423], [.un]) := by
  suffices H : ∃ r ws, call Pt W (j + 1) 6 [.d (.sc (ns.map .int))] = some (r, ws) ∧ (r = .ol [.fl ((ns.take 63).map .int), .int 0, .int 0, .int 91423] ∧ ws = [.un]) by
    obtain ⟨r, ws, e, rfl, rfl⟩ := H
    exact e
  refine call_ok (fd := f_law_urn) rfl rfl rfl ?_
  unfold f_law_urn
  dsimp only
  have hsl : app (.sl false true) [.d (.sc (ns.map .int)), .d (.int 63)] = some (.ol ((ns.take 63).map .int)) := by
    show some (PV.ol (cutL _ none (some 63))) = _
    have e : clip (ns.map D.int).length 63 = min 63 ns.length := by unfold clip; rw [if_neg (by omega)]; simp
    simp only [cutL, Option.map_some, Option.getD_some, Option.map_none, Option.getD_none, List.drop_zero, Nat.sub_zero]
    rw [e, ← List.map_take, List.take_eq_take_iff.mpr]
    omega
  repeat' first
      | with_reducible apply w_consS
      | with_reducible apply w_nilS
      | with_reducible apply w_asg
      | with_reducible apply w_iff
      | with_reducible apply w_six
      | with_reducible apply w_ret
      | with_reducible apply w_asgt
      | with_reducible apply w_ex
      | with_reducible apply w_retn
      | with_reducible apply w_brk
      | with_reducible apply w_cnt
      | with_reducible apply w_pas
      | with_reducible apply w_T
      | with_reducible apply w_pr
      | with_reducible apply w_cons
      | with_reducible apply w_nil
      | with_reducible apply w_c
      | (with_reducible refine w_v rfl ?_)
      | (with_reducible refine w_rd rfl rfl ?_)
      | (with_reducible refine w_mv rfl rfl ?_)
      | (with_reducible refine w_fz rfl ?_)
      | (with_reducible refine w_io rfl ?_)
      | with_reducible apply w_tup
      | with_reducible apply w_lst
      | with_reducible apply w_dic0
      | with_reducible apply w_frz
      | with_reducible apply w_cl
      | with_reducible apply w_clk
      | with_reducible apply w_nt
      | with_reducible apply w_or1
      | with_reducible apply w_an1
      | with_reducible apply w_or
      | with_reducible apply w_an
      | with_reducible apply w_ite
      | with_reducible apply w_ch
      | with_reducible apply w_itE
      | with_reducible apply w_itR
      | with_reducible apply w_itN
      | with_reducible apply w_csn
      | with_reducible apply w_csc
      | (with_reducible refine w_mu rfl ?_)
      | ((with_reducible apply w_aix); rfl)
      | ((with_reducible apply w_aug); rfl)
      | with_reducible apply w_nxS
      | with_reducible apply w_rtS
      | with_reducible apply w_bkS
      | with_reducible apply w_ctS
      | with_reducible apply r_rt
      | with_reducible apply r_nx
      | with_reducible apply t_nx
      | with_reducible apply t_rt
      | with_reducible apply t_ct
      | with_reducible apply t_bk
      | ((with_reducible apply ex1); exact hsl)
      | (with_reducible refine w_lcD (fun p acc ρ => acc = ((ns.take 63).take p).map D.int ∧ ∃ v, ρ = [.d (.sc (ns.map .int)), v]) ?_)
      | with_reducible rfl
      | (with_reducible refine ⟨_, a_eqI, ?_⟩)
      | (with_reducible refine ⟨_, a_neI, ?_⟩)
      | with_reducible apply cd_t
      | with_reducible apply cd_f
      | with_reducible apply cd_t'
      | with_reducible apply cd_f'
      | with_reducible apply cd_not
      | with_reducible apply cd_not'
      | (with_reducible refine cd_eq (fun hc => ?_) (fun hc => ?_) <;> first | (exfalso; omega) | skip)
      | (with_reducible refine cd_dec (fun hc => ?_) (fun hc => ?_) <;> first | (exfalso; omega) | skip)
      | (with_reducible refine cd_eq' (fun hc => ?_) (fun hc => ?_) <;> first | (exfalso; omega) | skip)
      | (with_reducible refine cd_dec' (fun hc => ?_) (fun hc => ?_) <;> first | (exfalso; omega) | skip)
      | (with_reducible refine c_min2 (fun x hx => ?_))
      | (with_reducible refine c_max2 (fun x hx => ?_))
      | ((with_reducible apply ex1); rfl)
      | ((with_reducible apply exB); rfl)
      | ((with_reducible apply ex2); rfl)
      | (with_reducible refine ex_rng1 (by omega) ?_)
      | (with_reducible refine ex_rng2 (by omega) ?_)
      | (with_reducible refine cd_any (fun hc => ?_) (fun hc => ?_) <;> first | (exact absurd hc (by decide)) | skip)
      | (with_reducible refine cd_any' (fun hc => ?_) (fun hc => ?_) <;> first | (exact absurd hc (by decide)) | skip)
      | ((with_reducible apply anB); rfl)
      | (exact ⟨rfl, rfl⟩)
      | fail
  refine ⟨⟨rfl, _, rfl⟩, ?_, ?_⟩
  · rintro p hp acc ρ ⟨rfl, v, rfl⟩
    have hp' : p < (ns.take 63).length := by simpa using hp
    have e : (((ns.take 63).map D.int).map PV.d)[p] = .d (.int (ns.take 63)[p]) := by simp
    rw [e]
    refine ⟨_, rfl, ?_⟩
    repeat' first
        | with_reducible apply w_consS
        | with_reducible apply w_nilS
        | with_reducible apply w_asg
        | with_reducible apply w_iff
        | with_reducible apply w_six
        | with_reducible apply w_ret
        | with_reducible apply w_asgt
        | with_reducible apply w_ex
        | with_reducible apply w_retn
        | with_reducible apply w_brk
        | with_reducible apply w_cnt
        | with_reducible apply w_pas
        | with_reducible apply w_T
        | with_reducible apply w_pr
        | with_reducible apply w_cons
        | with_reducible apply w_nil
        | with_reducible apply w_c
        | (with_reducible refine w_v rfl ?_)
        | (with_reducible refine w_rd rfl rfl ?_)
        | (with_reducible refine w_mv rfl rfl ?_)
        | (with_reducible refine w_fz rfl ?_)
        | (with_reducible refine w_io rfl ?_)
        | with_reducible apply w_tup
        | with_reducible apply w_lst
        | with_reducible apply w_dic0
        | with_reducible apply w_frz
        | with_reducible apply w_cl
        | with_reducible apply w_clk
        | with_reducible apply w_nt
        | with_reducible apply w_or1
        | with_reducible apply w_an1
        | with_reducible apply w_or
        | with_reducible apply w_an
        | with_reducible apply w_ite
        | with_reducible apply w_ch
        | with_reducible apply w_itE
        | with_reducible apply w_itR
        | with_reducible apply w_itN
        | with_reducible apply w_csn
        | with_reducible apply w_csc
        | (with_reducible refine w_mu rfl ?_)
        | ((with_reducible apply w_aix); rfl)
        | ((with_reducible apply w_aug); rfl)
        | with_reducible apply w_nxS
        | with_reducible apply w_rtS
        | with_reducible apply w_bkS
        | with_reducible apply w_ctS
        | with_reducible apply r_rt
        | with_reducible apply r_nx
        | with_reducible apply t_nx
        | with_reducible apply t_rt
        | with_reducible apply t_ct
        | with_reducible apply t_bk
        | with_reducible rfl
        | (with_reducible refine ⟨_, a_eqI, ?_⟩)
        | (with_reducible refine ⟨_, a_neI, ?_⟩)
        | with_reducible apply cd_t
        | with_reducible apply cd_f
        | with_reducible apply cd_t'
        | with_reducible apply cd_f'
        | with_reducible apply cd_not
        | with_reducible apply cd_not'
        | (with_reducible refine cd_eq (fun hc => ?_) (fun hc => ?_) <;> first | (exfalso; omega) | skip)
        | (with_reducible refine cd_dec (fun hc => ?_) (fun hc => ?_) <;> first | (exfalso; omega) | skip)
        | (with_reducible refine cd_eq' (fun hc => ?_) (fun hc => ?_) <;> first | (exfalso; omega) | skip)
        | (with_reducible refine cd_dec' (fun hc => ?_) (fun hc => ?_) <;> first | (exfalso; omega) | skip)
        | (with_reducible refine c_min2 (fun x hx => ?_))
        | (with_reducible refine c_max2 (fun x hx => ?_))
        | ((with_reducible apply ex1); rfl)
        | ((with_reducible apply exB); rfl)
        | ((with_reducible apply ex2); rfl)
        | (with_reducible refine ex_rng1 (by omega) ?_)
        | (with_reducible refine ex_rng2 (by omega) ?_)
        | (with_reducible refine cd_any (fun hc => ?_) (fun hc => ?_) <;> first | (exact absurd hc (by decide)) | skip)
        | (with_reducible refine cd_any' (fun hc => ?_) (fun hc => ?_) <;> first | (exact absurd hc (by decide)) | skip)
        | ((with_reducible apply anB); rfl)
        | (exact ⟨rfl, rfl⟩)
        | fail
    refine ⟨_, rfl, ?_, _, rfl⟩
    exact map_take_snoc D.int hp'
  · rintro acc ρ ⟨rfl, v, rfl⟩
    have e : (ns.take 63).take (((ns.take 63).map D.int).map PV.d).length = ns.take 63 := List.take_of_length_le (by simp)
    rw [e]
    refine ⟨by simp [szB]; omega, ?_⟩
    repeat' first
        | with_reducible apply w_consS
        | with_reducible apply w_nilS
        | with_reducible apply w_asg
        | with_reducible apply w_iff
        | with_reducible apply w_six
        | with_reducible apply w_ret
        | with_reducible apply w_asgt
        | with_reducible apply w_ex
        | with_reducible apply w_retn
        | with_reducible apply w_brk
        | with_reducible apply w_cnt
        | with_reducible apply w_pas
        | with_reducible apply w_T
        | with_reducible apply w_pr
        | with_reducible apply w_cons
        | with_reducible apply w_nil
        | with_reducible apply w_c
        | (with_reducible refine w_v rfl ?_)
        | (with_reducible refine w_rd rfl rfl ?_)
        | (with_reducible refine w_mv rfl rfl ?_)
        | (with_reducible refine w_fz rfl ?_)
        | (with_reducible refine w_io rfl ?_)
        | with_reducible apply w_tup
        | with_reducible apply w_lst
        | with_reducible apply w_dic0
        | with_reducible apply w_frz
        | with_reducible apply w_cl
        | with_reducible apply w_clk
        | with_reducible apply w_nt
        | with_reducible apply w_or1
        | with_reducible apply w_an1
        | with_reducible apply w_or
        | with_reducible apply w_an
        | with_reducible apply w_ite
        | with_reducible apply w_ch
        | with_reducible apply w_itE
        | with_reducible apply w_itR
        | with_reducible apply w_itN
        | with_reducible apply w_csn
        | with_reducible apply w_csc
        | (with_reducible refine w_mu rfl ?_)
        | ((with_reducible apply w_aix); rfl)
        | ((with_reducible apply w_aug); rfl)
        | with_reducible apply w_nxS
        | with_reducible apply w_rtS
        | with_reducible apply w_bkS
        | with_reducible apply w_ctS
        | with_reducible apply r_rt
        | with_reducible apply r_nx
        | with_reducible apply t_nx
        | with_reducible apply t_rt
        | with_reducible apply t_ct
        | with_reducible apply t_bk
        | with_reducible rfl
        | (with_reducible refine ⟨_, a_eqI, ?_⟩)
        | (with_reducible refine ⟨_, a_neI, ?_⟩)
        | with_reducible apply cd_t
        | with_reducible apply cd_f
        | with_reducible apply cd_t'
        | with_reducible apply cd_f'
        | with_reducible apply cd_not
        | with_reducible apply cd_not'
        | (with_reducible refine cd_eq (fun hc => ?_) (fun hc => ?_) <;> first | (exfalso; omega) | skip)
        | (with_reducible refine cd_dec (fun hc => ?_) (fun hc => ?_) <;> first | (exfalso; omega) | skip)
        | (with_reducible refine cd_eq' (fun hc => ?_) (fun hc => ?_) <;> first | (exfalso; omega) | skip)
        | (with_reducible refine cd_dec' (fun hc => ?_) (fun hc => ?_) <;> first | (exfalso; omega) | skip)
        | (with_reducible refine c_min2 (fun x hx => ?_))
        | (with_reducible refine c_max2 (fun x hx => ?_))
        | ((with_reducible apply ex1); rfl)
        | ((with_reducible apply exB); rfl)
        | ((with_reducible apply ex2); rfl)
        | (with_reducible refine ex_rng1 (by omega) ?_)
        | (with_reducible refine ex_rng2 (by omega) ?_)
        | (with_reducible refine cd_any (fun hc => ?_) (fun hc => ?_) <;> first | (exact absurd hc (by decide)) | skip)
        | (with_reducible refine cd_any' (fun hc => ?_) (fun hc => ?_) <;> first | (exact absurd hc (by decide)) | skip)
        | ((with_reducible apply anB); rfl)
        | (exact ⟨rfl, rfl⟩)
        | fail
theorem c_looked {W j : Nat} {u : PV} {many most : Int} {args : List PV} {Q : PV → List PV → Prop} (e : args = [u, .d (.int many), .d (.int most)]) (hu : Urn u) (hn : 1 ≤ many ∧ many ≤ 60) (hm : 1 ≤ most ∧ most ≤ 20) (h : ∀ u', Urn u' → Q (.d (.bl true)) [u', .un, .un]) :
    ∃ v ws, call Pt W (j + 3) 12 args = some (v, ws) ∧ Q v ws := by
  subst e
  obtain ⟨v, ws, e, u', rfl, rfl, hu'⟩ := looked_ok W j u many most hu hn hm
  exact ⟨_, _, e, h u' hu'⟩
theorem law_pure (ns : List Int) (hl : ns.length ≤ 63) : ∃ W ws, call Pt W 20 14 [.d (.sc (ns.map .int))] = some (.d (.bl true), ws) ∧ ws.length = 1 := by
  suffices H : ∃ r ws, call Pt 0 20 14 [.d (.sc (ns.map .int))] = some (r, ws) ∧ (r = .d (.bl true) ∧ ws = [.un]) by
    obtain ⟨r, ws, e, rfl, rfl⟩ := H
    exact ⟨0, _, e, rfl⟩
  refine call_ok (fd := f_law) rfl rfl rfl ?_
  unfold f_law
  dsimp only
  obtain ⟨v, ws, e1, u1, rfl, rfl, hu1⟩ := named_ok 0 16 (.ol [.fl ((ns.take 63).map .int), .int 0, .int 0, .int 91423]) ⟨_, 0, _, _, rfl⟩
  repeat' first
      | with_reducible apply w_consS
      | with_reducible apply w_nilS
      | with_reducible apply w_asg
      | with_reducible apply w_iff
      | with_reducible apply w_six
      | with_reducible apply w_ret
      | with_reducible apply w_asgt
      | with_reducible apply w_ex
      | with_reducible apply w_retn
      | with_reducible apply w_brk
      | with_reducible apply w_cnt
      | with_reducible apply w_pas
      | with_reducible apply w_T
      | with_reducible apply w_pr
      | with_reducible apply w_cons
      | with_reducible apply w_nil
      | with_reducible apply w_c
      | (with_reducible refine w_v rfl ?_)
      | (with_reducible refine w_rd rfl rfl ?_)
      | (with_reducible refine w_mv rfl rfl ?_)
      | (with_reducible refine w_fz rfl ?_)
      | (with_reducible refine w_io rfl ?_)
      | with_reducible apply w_tup
      | with_reducible apply w_lst
      | with_reducible apply w_dic0
      | with_reducible apply w_frz
      | with_reducible apply w_cl
      | with_reducible apply w_clk
      | with_reducible apply w_nt
      | with_reducible apply w_or1
      | with_reducible apply w_an1
      | with_reducible apply w_or
      | with_reducible apply w_an
      | with_reducible apply w_ite
      | with_reducible apply w_ch
      | with_reducible apply w_itE
      | with_reducible apply w_itR
      | with_reducible apply w_itN
      | with_reducible apply w_csn
      | with_reducible apply w_csc
      | (with_reducible refine w_mu rfl ?_)
      | ((with_reducible apply w_aix); rfl)
      | ((with_reducible apply w_aug); rfl)
      | with_reducible apply w_nxS
      | with_reducible apply w_rtS
      | with_reducible apply w_bkS
      | with_reducible apply w_ctS
      | with_reducible apply r_rt
      | with_reducible apply r_nx
      | with_reducible apply t_nx
      | with_reducible apply t_rt
      | with_reducible apply t_ct
      | with_reducible apply t_bk
      | ((with_reducible refine ex_call (urn_ok 0 18 ns) ?_ ?_); rfl)
      | ((with_reducible refine ex_call (e1) ?_ ?_); rfl)
      | (with_reducible refine w_rngN (fun t ρ => ∃ u x, ρ = [.d (.sc (ns.map .int)), u, x] ∧ Urn u) ?_)
      | with_reducible rfl
      | (with_reducible refine ⟨_, a_eqI, ?_⟩)
      | (with_reducible refine ⟨_, a_neI, ?_⟩)
      | with_reducible apply cd_t
      | with_reducible apply cd_f
      | with_reducible apply cd_t'
      | with_reducible apply cd_f'
      | with_reducible apply cd_not
      | with_reducible apply cd_not'
      | (with_reducible refine cd_eq (fun hc => ?_) (fun hc => ?_) <;> first | (exfalso; omega) | skip)
      | (with_reducible refine cd_dec (fun hc => ?_) (fun hc => ?_) <;> first | (exfalso; omega) | skip)
      | (with_reducible refine cd_eq' (fun hc => ?_) (fun hc => ?_) <;> first | (exfalso; omega) | skip)
      | (with_reducible refine cd_dec' (fun hc => ?_) (fun hc => ?_) <;> first | (exfalso; omega) | skip)
      | (with_reducible refine c_min2 (fun x hx => ?_))
      | (with_reducible refine c_max2 (fun x hx => ?_))
      | ((with_reducible apply ex1); rfl)
      | ((with_reducible apply exB); rfl)
      | ((with_reducible apply ex2); rfl)
      | (with_reducible refine ex_rng1 (by omega) ?_)
      | (with_reducible refine ex_rng2 (by omega) ?_)
      | (with_reducible refine cd_any (fun hc => ?_) (fun hc => ?_) <;> first | (exact absurd hc (by decide)) | skip)
      | (with_reducible refine cd_any' (fun hc => ?_) (fun hc => ?_) <;> first | (exact absurd hc (by decide)) | skip)
      | ((with_reducible apply anB); rfl)
      | (exact ⟨rfl, rfl⟩)
      | fail
  refine ⟨4, rfl, by omega, ⟨_, _, rfl, hu1⟩, ?_, ?_⟩
  · rintro ρ ⟨u, x, rfl, hu⟩
    obtain ⟨v, ws, e2, r2, u2, rfl, rfl, h20, h21, hu2⟩ := take_ok 0 18 u 7 hu (by omega) (by omega)
    by_cases h : r2 = 4
    · obtain ⟨v, ws, e3, u3, rfl, rfl, hu3⟩ := looked_ok 0 16 u2 60 20 hu2 (by omega) (by omega)
      repeat' first
          | with_reducible apply w_consS
          | with_reducible apply w_nilS
          | with_reducible apply w_asg
          | with_reducible apply w_iff
          | with_reducible apply w_six
          | with_reducible apply w_ret
          | with_reducible apply w_asgt
          | with_reducible apply w_ex
          | with_reducible apply w_retn
          | with_reducible apply w_brk
          | with_reducible apply w_cnt
          | with_reducible apply w_pas
          | with_reducible apply w_T
          | with_reducible apply w_pr
          | with_reducible apply w_cons
          | with_reducible apply w_nil
          | with_reducible apply w_c
          | (with_reducible refine w_v rfl ?_)
          | (with_reducible refine w_rd rfl rfl ?_)
          | (with_reducible refine w_mv rfl rfl ?_)
          | (with_reducible refine w_fz rfl ?_)
          | (with_reducible refine w_io rfl ?_)
          | with_reducible apply w_tup
          | with_reducible apply w_lst
          | with_reducible apply w_dic0
          | with_reducible apply w_frz
          | with_reducible apply w_cl
          | with_reducible apply w_clk
          | with_reducible apply w_nt
          | with_reducible apply w_or1
          | with_reducible apply w_an1
          | with_reducible apply w_or
          | with_reducible apply w_an
          | with_reducible apply w_ite
          | with_reducible apply w_ch
          | with_reducible apply w_itE
          | with_reducible apply w_itR
          | with_reducible apply w_itN
          | with_reducible apply w_csn
          | with_reducible apply w_csc
          | (with_reducible refine w_mu rfl ?_)
          | ((with_reducible apply w_aix); rfl)
          | ((with_reducible apply w_aug); rfl)
          | with_reducible apply w_nxS
          | with_reducible apply w_rtS
          | with_reducible apply w_bkS
          | with_reducible apply w_ctS
          | with_reducible apply r_rt
          | with_reducible apply r_nx
          | with_reducible apply t_nx
          | with_reducible apply t_rt
          | with_reducible apply t_ct
          | with_reducible apply t_bk
          | ((with_reducible apply w_io); exact (isUn_of (by assumption)))
          | ((with_reducible refine ex_call (e2) ?_ ?_); rfl)
          | ((with_reducible refine ex_call (e3) ?_ ?_); rfl)
          | with_reducible rfl
          | (with_reducible refine ⟨_, a_eqI, ?_⟩)
          | (with_reducible refine ⟨_, a_neI, ?_⟩)
          | with_reducible apply cd_t
          | with_reducible apply cd_f
          | with_reducible apply cd_t'
          | with_reducible apply cd_f'
          | with_reducible apply cd_not
          | with_reducible apply cd_not'
          | (with_reducible refine cd_eq (fun hc => ?_) (fun hc => ?_) <;> first | (exfalso; omega) | skip)
          | (with_reducible refine cd_dec (fun hc => ?_) (fun hc => ?_) <;> first | (exfalso; omega) | skip)
          | (with_reducible refine cd_eq' (fun hc => ?_) (fun hc => ?_) <;> first | (exfalso; omega) | skip)
          | (with_reducible refine cd_dec' (fun hc => ?_) (fun hc => ?_) <;> first | (exfalso; omega) | skip)
          | (with_reducible refine c_min2 (fun x hx => ?_))
          | (with_reducible refine c_max2 (fun x hx => ?_))
          | ((with_reducible apply ex1); rfl)
          | ((with_reducible apply exB); rfl)
          | ((with_reducible apply ex2); rfl)
          | (with_reducible refine ex_rng1 (by omega) ?_)
          | (with_reducible refine ex_rng2 (by omega) ?_)
          | (with_reducible refine cd_any (fun hc => ?_) (fun hc => ?_) <;> first | (exact absurd hc (by decide)) | skip)
          | (with_reducible refine cd_any' (fun hc => ?_) (fun hc => ?_) <;> first | (exact absurd hc (by decide)) | skip)
          | ((with_reducible apply anB); rfl)
          | (exact ⟨rfl, rfl⟩)
          | fail
    · repeat' first
          | with_reducible apply w_consS
          | with_reducible apply w_nilS
          | with_reducible apply w_asg
          | with_reducible apply w_iff
          | with_reducible apply w_six
          | with_reducible apply w_ret
          | with_reducible apply w_asgt
          | with_reducible apply w_ex
          | with_reducible apply w_retn
          | with_reducible apply w_brk
          | with_reducible apply w_cnt
          | with_reducible apply w_pas
          | with_reducible apply w_T
          | with_reducible apply w_pr
          | with_reducible apply w_cons
          | with_reducible apply w_nil
          | with_reducible apply w_c
          | (with_reducible refine w_v rfl ?_)
          | (with_reducible refine w_rd rfl rfl ?_)
          | (with_reducible refine w_mv rfl rfl ?_)
          | (with_reducible refine w_fz rfl ?_)
          | (with_reducible refine w_io rfl ?_)
          | with_reducible apply w_tup
          | with_reducible apply w_lst
          | with_reducible apply w_dic0
          | with_reducible apply w_frz
          | with_reducible apply w_cl
          | with_reducible apply w_clk
          | with_reducible apply w_nt
          | with_reducible apply w_or1
          | with_reducible apply w_an1
          | with_reducible apply w_or
          | with_reducible apply w_an
          | with_reducible apply w_ite
          | with_reducible apply w_ch
          | with_reducible apply w_itE
          | with_reducible apply w_itR
          | with_reducible apply w_itN
          | with_reducible apply w_csn
          | with_reducible apply w_csc
          | (with_reducible refine w_mu rfl ?_)
          | ((with_reducible apply w_aix); rfl)
          | ((with_reducible apply w_aug); rfl)
          | with_reducible apply w_nxS
          | with_reducible apply w_rtS
          | with_reducible apply w_bkS
          | with_reducible apply w_ctS
          | with_reducible apply r_rt
          | with_reducible apply r_nx
          | with_reducible apply t_nx
          | with_reducible apply t_rt
          | with_reducible apply t_ct
          | with_reducible apply t_bk
          | ((with_reducible apply w_io); exact (isUn_of (by assumption)))
          | ((with_reducible refine ex_call (e2) ?_ ?_); rfl)
          | with_reducible rfl
          | (with_reducible refine ⟨_, a_eqI, ?_⟩)
          | (with_reducible refine ⟨_, a_neI, ?_⟩)
          | with_reducible apply cd_t
          | with_reducible apply cd_f
          | with_reducible apply cd_t'
          | with_reducible apply cd_f'
          | with_reducible apply cd_not
          | with_reducible apply cd_not'
          | (with_reducible refine cd_eq (fun hc => ?_) (fun hc => ?_) <;> first | (exfalso; omega) | skip)
          | (with_reducible refine cd_dec (fun hc => ?_) (fun hc => ?_) <;> first | (exfalso; omega) | skip)
          | (with_reducible refine cd_eq' (fun hc => ?_) (fun hc => ?_) <;> first | (exfalso; omega) | skip)
          | (with_reducible refine cd_dec' (fun hc => ?_) (fun hc => ?_) <;> first | (exfalso; omega) | skip)
          | (with_reducible refine c_min2 (fun x hx => ?_))
          | (with_reducible refine c_max2 (fun x hx => ?_))
          | ((with_reducible apply ex1); rfl)
          | ((with_reducible apply exB); rfl)
          | ((with_reducible apply ex2); rfl)
          | (with_reducible refine ex_rng1 (by omega) ?_)
          | (with_reducible refine ex_rng2 (by omega) ?_)
          | (with_reducible refine cd_any (fun hc => ?_) (fun hc => ?_) <;> first | (exact absurd hc (by decide)) | skip)
          | (with_reducible refine cd_any' (fun hc => ?_) (fun hc => ?_) <;> first | (exact absurd hc (by decide)) | skip)
          | ((with_reducible apply anB); rfl)
          | (exact ⟨rfl, rfl⟩)
          | fail
      have : (!(r2 == 4)) = true := by simpa using h
      rw [this]
      exact ⟨rfl, rfl⟩
  · rintro t ht ρ ⟨u, x, rfl, hu⟩
    refine ⟨_, rfl, ?_⟩
    repeat' first
        | with_reducible apply w_consS
        | with_reducible apply w_nilS
        | with_reducible apply w_asg
        | with_reducible apply w_iff
        | with_reducible apply w_six
        | with_reducible apply w_ret
        | with_reducible apply w_asgt
        | with_reducible apply w_ex
        | with_reducible apply w_retn
        | with_reducible apply w_brk
        | with_reducible apply w_cnt
        | with_reducible apply w_pas
        | with_reducible apply w_T
        | with_reducible apply w_pr
        | with_reducible apply w_cons
        | with_reducible apply w_nil
        | with_reducible apply w_c
        | (with_reducible refine w_v rfl ?_)
        | (with_reducible refine w_rd rfl rfl ?_)
        | (with_reducible refine w_mv rfl rfl ?_)
        | (with_reducible refine w_fz rfl ?_)
        | (with_reducible refine w_io rfl ?_)
        | with_reducible apply w_tup
        | with_reducible apply w_lst
        | with_reducible apply w_dic0
        | with_reducible apply w_frz
        | with_reducible apply w_cl
        | with_reducible apply w_clk
        | with_reducible apply w_nt
        | with_reducible apply w_or1
        | with_reducible apply w_an1
        | with_reducible apply w_or
        | with_reducible apply w_an
        | with_reducible apply w_ite
        | with_reducible apply w_ch
        | with_reducible apply w_itE
        | with_reducible apply w_itR
        | with_reducible apply w_itN
        | with_reducible apply w_csn
        | with_reducible apply w_csc
        | (with_reducible refine w_mu rfl ?_)
        | ((with_reducible apply w_aix); rfl)
        | ((with_reducible apply w_aug); rfl)
        | with_reducible apply w_nxS
        | with_reducible apply w_rtS
        | with_reducible apply w_bkS
        | with_reducible apply w_ctS
        | with_reducible apply r_rt
        | with_reducible apply r_nx
        | with_reducible apply t_nx
        | with_reducible apply t_rt
        | with_reducible apply t_ct
        | with_reducible apply t_bk
        | ((with_reducible apply w_io); exact (isUn_of (by assumption)))
        | ((with_reducible apply c_take); rfl; assumption; omega; intro r u' h0 h1 hu')
        | (refine c_ix3i (by omega) fun x hx => ?_)
        | ((with_reducible apply c_looked); rfl; assumption; omega; omega; intro u' hu')
        | (exact ⟨_, _, rfl, by assumption⟩)
        | with_reducible rfl
        | (with_reducible refine ⟨_, a_eqI, ?_⟩)
        | (with_reducible refine ⟨_, a_neI, ?_⟩)
        | with_reducible apply cd_t
        | with_reducible apply cd_f
        | with_reducible apply cd_t'
        | with_reducible apply cd_f'
        | with_reducible apply cd_not
        | with_reducible apply cd_not'
        | (with_reducible refine cd_eq (fun hc => ?_) (fun hc => ?_) <;> first | (exfalso; omega) | skip)
        | (with_reducible refine cd_dec (fun hc => ?_) (fun hc => ?_) <;> first | (exfalso; omega) | skip)
        | (with_reducible refine cd_eq' (fun hc => ?_) (fun hc => ?_) <;> first | (exfalso; omega) | skip)
        | (with_reducible refine cd_dec' (fun hc => ?_) (fun hc => ?_) <;> first | (exfalso; omega) | skip)
        | (with_reducible refine c_min2 (fun x hx => ?_))
        | (with_reducible refine c_max2 (fun x hx => ?_))
        | ((with_reducible apply ex1); rfl)
        | ((with_reducible apply exB); rfl)
        | ((with_reducible apply ex2); rfl)
        | (with_reducible refine ex_rng1 (by omega) ?_)
        | (with_reducible refine ex_rng2 (by omega) ?_)
        | (with_reducible refine cd_any (fun hc => ?_) (fun hc => ?_) <;> first | (exact absurd hc (by decide)) | skip)
        | (with_reducible refine cd_any' (fun hc => ?_) (fun hc => ?_) <;> first | (exact absurd hc (by decide)) | skip)
        | ((with_reducible apply anB); rfl)
        | (exact ⟨rfl, rfl⟩)
        | fail
end Rt.Pl.k18

theorem Rt.k18.law_pure (ns : List Int) (hl : ns.length ≤ 63) : ∃ W ws, Rt.call Rt.k18.Pt W 20 14 [.d (.sc (ns.map .int))] = some (.d (.bl true), ws) ∧ ws.length = 1 := Rt.Pl.k18.law_pure ns hl
namespace Rt.k18
open PySem PySem.Spec PyProof.Rows L2 Rt
def top (i : Nat) : Stmt := PySem.Challenge.pw_rolledtrue_k18_rows_rings.main.body.getD i (.Pass ⟨0, 0, 0, 0⟩)
abbrev s_in_order : Stmt := top 1
abbrev s_numbered_faces : Stmt := top 3
abbrev s_row_keys : Stmt := top 5
abbrev s_row_board : Stmt := top 6
abbrev s_ring_board : Stmt := top 7
abbrev s__law_take : Stmt := top 9
abbrev s__law_urn : Stmt := top 10
abbrev s__law_same : Stmt := top 11
abbrev s__law_ordered : Stmt := top 12
abbrev s__law_row : Stmt := top 13
abbrev s__law_ring : Stmt := top 14
abbrev s__law_drawn : Stmt := top 15
abbrev s__law_looked : Stmt := top 16
abbrev s__law_named : Stmt := top 17
abbrev s_law : Stmt := top 18
def h_in_order : He.DefD := ⟨("in_order", none), "in_order", "in_order", defArgs s_in_order, defBody s_in_order, defScope s_in_order, [], []⟩
def h_numbered_faces : He.DefD := ⟨("numbered_faces", none), "numbered_faces", "numbered_faces", defArgs s_numbered_faces, defBody s_numbered_faces, defScope s_numbered_faces, [], []⟩
def h_row_keys : He.DefD := ⟨("row_keys", none), "row_keys", "row_keys", defArgs s_row_keys, defBody s_row_keys, defScope s_row_keys, [], []⟩
def h_row_board : He.DefD := ⟨("row_board", none), "row_board", "row_board", defArgs s_row_board, defBody s_row_board, defScope s_row_board, [], []⟩
def h_ring_board : He.DefD := ⟨("ring_board", none), "ring_board", "ring_board", defArgs s_ring_board, defBody s_ring_board, defScope s_ring_board, [], []⟩
def h__law_take : He.DefD := ⟨("_law_take", none), "_law_take", "_law_take", defArgs s__law_take, defBody s__law_take, defScope s__law_take, [], []⟩
def h__law_urn : He.DefD := ⟨("_law_urn", none), "_law_urn", "_law_urn", defArgs s__law_urn, defBody s__law_urn, defScope s__law_urn, [], []⟩
def h__law_same : He.DefD := ⟨("_law_same", none), "_law_same", "_law_same", defArgs s__law_same, defBody s__law_same, defScope s__law_same, [], []⟩
def h__law_ordered : He.DefD := ⟨("_law_ordered", none), "_law_ordered", "_law_ordered", defArgs s__law_ordered, defBody s__law_ordered, defScope s__law_ordered, [], []⟩
def h__law_row : He.DefD := ⟨("_law_row", none), "_law_row", "_law_row", defArgs s__law_row, defBody s__law_row, defScope s__law_row, [], []⟩
def h__law_ring : He.DefD := ⟨("_law_ring", none), "_law_ring", "_law_ring", defArgs s__law_ring, defBody s__law_ring, defScope s__law_ring, [], []⟩
def h__law_drawn : He.DefD := ⟨("_law_drawn", none), "_law_drawn", "_law_drawn", defArgs s__law_drawn, defBody s__law_drawn, defScope s__law_drawn, [], []⟩
def h__law_looked : He.DefD := ⟨("_law_looked", none), "_law_looked", "_law_looked", defArgs s__law_looked, defBody s__law_looked, defScope s__law_looked, [], []⟩
def h__law_named : He.DefD := ⟨("_law_named", none), "_law_named", "_law_named", defArgs s__law_named, defBody s__law_named, defScope s__law_named, [], []⟩
def h_law : He.DefD := ⟨("law", none), "law", "law", defArgs s_law, defBody s_law, defScope s_law, [], []⟩
def hfn : List He.DefD := [h_in_order, h_numbered_faces, h_row_keys, h_row_board, h_ring_board, h__law_take, h__law_urn, h__law_same, h__law_ordered, h__law_row, h__law_ring, h__law_drawn, h__law_looked, h__law_named, h_law]
def hfa : List He.Fa := [.glo "in_order", .glo "numbered_faces", .glo "row_keys", .glo "row_board", .glo "ring_board", .glo "_law_take", .glo "_law_urn", .glo "_law_same", .glo "_law_ordered", .glo "_law_row", .glo "_law_ring", .glo "_law_drawn", .glo "_law_looked", .glo "_law_named", .glo "law", .free "len", .free "abs", .free "int", .free "min", .free "max", .free "sum", .free "sorted", .free "tuple", .free "list", .free "str", .free "bool", .free "dict", .free "isinstance", .free "range", .free "enumerate", .free "zip"]
def d_in_order : Df := ⟨"in_order", defArgs s_in_order, defBody s_in_order, defScope s_in_order, ["faces", "told", "face", "at"], ["faces"]⟩
def d_numbered_faces : Df := ⟨"numbered_faces", defArgs s_numbered_faces, defBody s_numbered_faces, defScope s_numbered_faces, ["rows", "numbers", "fresh", "faces", "row", "face", "key", "other"], ["rows"]⟩
def d_row_keys : Df := ⟨"row_keys", defArgs s_row_keys, defBody s_row_keys, defScope s_row_keys, ["sizes", "exits", "is_ring", "twins", "cell", "position", "goal", "rows", "size"], ["sizes", "exits", "is_ring"]⟩
def d_row_board : Df := ⟨"row_board", defArgs s_row_board, defBody s_row_board, defScope s_row_board, ["sizes", "exits"], ["sizes", "exits"]⟩
def d_ring_board : Df := ⟨"ring_board", defArgs s_ring_board, defBody s_ring_board, defScope s_ring_board, ["sizes", "exits"], ["sizes", "exits"]⟩
def d__law_take : Df := ⟨"_law_take", defArgs s__law_take, defBody s__law_take, defScope s__law_take, ["urn", "many", "cells", "cell", "size", "got"], ["urn", "many"]⟩
def d__law_urn : Df := ⟨"_law_urn", defArgs s__law_urn, defBody s__law_urn, defScope s__law_urn, ["script", "cell"], ["script"]⟩
def d__law_same : Df := ⟨"_law_same", defArgs s__law_same, defBody s__law_same, defScope s__law_same, ["told", "due", "rest", "count", "one", "two", "k"], ["told", "due"]⟩
def d__law_ordered : Df := ⟨"_law_ordered", defArgs s__law_ordered, defBody s__law_ordered, defScope s__law_ordered, ["faces", "told", "face", "at"], ["faces"]⟩
def d__law_row : Df := ⟨"_law_row", defArgs s__law_row, defBody s__law_row, defScope s__law_row, ["sizes", "exits", "faces", "fresh", "i", "face", "place"], ["sizes", "exits"]⟩
def d__law_ring : Df := ⟨"_law_ring", defArgs s__law_ring, defBody s__law_ring, defScope s__law_ring, ["sizes", "exits", "faces", "fresh", "last", "i", "face", "place"], ["sizes", "exits"]⟩
def d__law_drawn : Df := ⟨"_law_drawn", defArgs s__law_drawn, defBody s__law_drawn, defScope s__law_drawn, ["urn", "many", "ring", "most", "habit", "sizes", "exits", "i", "least", "size", "first"], ["urn", "many", "ring", "most"]⟩
def d__law_looked : Df := ⟨"_law_looked", defArgs s__law_looked, defBody s__law_looked, defScope s__law_looked, ["urn", "many", "most", "sizes", "exits"], ["urn", "many", "most"]⟩
def d__law_named : Df := ⟨"_law_named", defArgs s__law_named, defBody s__law_named, defScope s__law_named, ["urn", "size", "single", "many", "ring", "k"], ["urn"]⟩
def d_law : Df := ⟨"law", defArgs s_law, defBody s_law, defScope s_law, ["script", "urn", "lap"], ["script"]⟩
def ds : List Df := [d_in_order, d_numbered_faces, d_row_keys, d_row_board, d_ring_board, d__law_take, d__law_urn, d__law_same, d__law_ordered, d__law_row, d__law_ring, d__law_drawn, d__law_looked, d__law_named, d_law]
def fns : List (Str × Nat × Nat) := [("in_order", 0, 1), ("numbered_faces", 1, 1), ("row_keys", 2, 3), ("row_board", 3, 2), ("ring_board", 4, 2), ("_law_take", 5, 2), ("_law_urn", 6, 1), ("_law_same", 7, 2), ("_law_ordered", 8, 1), ("_law_row", 9, 2), ("_law_ring", 10, 2), ("_law_drawn", 11, 4), ("_law_looked", 12, 3), ("_law_named", 13, 1), ("law", 14, 1)]
def kws : List (Str × Nat × List Str × List Nat) := [("ring_board", 4, ["exits", "sizes"], [1, 0]), ("row_board", 3, ["exits", "sizes"], [1, 0]), ("row_board", 3, ["sizes", "exits"], [0, 1])]

end Rt.k18
namespace Rt.k18
open PySem PySem.Spec PyProof.Rows L2 Rt
theorem ck1 : ckAll fns kws ds fs = true := by decide +kernel
theorem ck2 : ckNm ds fns = true := by decide +kernel
theorem ck3 : ckKw ds kws = true := by decide +kernel
theorem cks : Cks Pt ds fns kws := cks_of ck1 ck2 ck3
abbrev R : PySem.W.OpenRow := PySem.W.OpenLaw.row PySem.Challenge.rw_rolledtrue_k18_rows_rings
abbrev hk : PySem.W.Hook := He.hookD 4 hfa hfn
def ob (s : PySem.W.SharedT) : He.AlD := He.obsDG 4 hfa hfn (HandSHeadRun.getT s)
theorem ob_eq (s : PySem.W.SharedT) : ob s = hk.obs s.abs := He.obsDG_eq (HandSHeadRun.getT_eq s)
theorem run (w : World) : HandSHeadRun.RunEq R (PySem.W.view R.prog [18]) hk ob 4000 ["in_order", "numbered_faces", "row_keys", "row_board", "ring_board", "_law_take", "_law_urn", "_law_same", "_law_ordered", "_law_row", "_law_ring", "_law_drawn", "_law_looked", "_law_named"] w := by
  intro os
  kernel_rfl
section
variable {P : Program} {w : World} {K : PySem.W.Frag} {h : Heap} {mg : Str → Option Value}
theorem tf_in_order (X : K.In h) (G : h.Ns mainGlobals mg) (c : He.SaysD hfa hfn K) : ∃ fa fd, FunD K d_in_order.name d_in_order.name d_in_order.params d_in_order.body d_in_order.scope [] [] fa fd ∧ mg d_in_order.name = some (.ref fa) ∧ L2.Binds K fd d_in_order.ps [] ∧
    ∀ x f ks ix, (x, f, ks, ix) ∈ kws → f = 0 → KBn K fd d_in_order.ps 0 ks (fun _ ws => gIx .none ix ws) (fun _ zs => gIx .non ix zs) := by
  obtain ⟨fd, F⟩ := c.def_ 0 (d := h_in_order) rfl
  refine ⟨_, fd, F, He.glo_ok X G (c.fact 0 (f := .glo "in_order") rfl), FunD.bindsN (ps := d_in_order.ps) F fun _ _ _ _ _ _ us hl => match us, hl with | [_], _ => rfl, ?_⟩
  intro x f ks ix hm e
  simp only [kws, List.mem_cons, Prod.mk.injEq, List.not_mem_nil, or_false] at hm
  rcases hm with ⟨rfl, rfl, rfl, rfl⟩ | ⟨rfl, rfl, rfl, rfl⟩ | ⟨rfl, rfl, rfl, rfl⟩
  · exact absurd e (by decide)
  · exact absurd e (by decide)
  · exact absurd e (by decide)
theorem tf_numbered_faces (X : K.In h) (G : h.Ns mainGlobals mg) (c : He.SaysD hfa hfn K) : ∃ fa fd, FunD K d_numbered_faces.name d_numbered_faces.name d_numbered_faces.params d_numbered_faces.body d_numbered_faces.scope [] [] fa fd ∧ mg d_numbered_faces.name = some (.ref fa) ∧ L2.Binds K fd d_numbered_faces.ps [] ∧
    ∀ x f ks ix, (x, f, ks, ix) ∈ kws → f = 1 → KBn K fd d_numbered_faces.ps 0 ks (fun _ ws => gIx .none ix ws) (fun _ zs => gIx .non ix zs) := by
  obtain ⟨fd, F⟩ := c.def_ 1 (d := h_numbered_faces) rfl
  refine ⟨_, fd, F, He.glo_ok X G (c.fact 1 (f := .glo "numbered_faces") rfl), FunD.bindsN (ps := d_numbered_faces.ps) F fun _ _ _ _ _ _ us hl => match us, hl with | [_], _ => rfl, ?_⟩
  intro x f ks ix hm e
  simp only [kws, List.mem_cons, Prod.mk.injEq, List.not_mem_nil, or_false] at hm
  rcases hm with ⟨rfl, rfl, rfl, rfl⟩ | ⟨rfl, rfl, rfl, rfl⟩ | ⟨rfl, rfl, rfl, rfl⟩
  · exact absurd e (by decide)
  · exact absurd e (by decide)
  · exact absurd e (by decide)
theorem tf_row_keys (X : K.In h) (G : h.Ns mainGlobals mg) (c : He.SaysD hfa hfn K) : ∃ fa fd, FunD K d_row_keys.name d_row_keys.name d_row_keys.params d_row_keys.body d_row_keys.scope [] [] fa fd ∧ mg d_row_keys.name = some (.ref fa) ∧ L2.Binds K fd d_row_keys.ps [] ∧
    ∀ x f ks ix, (x, f, ks, ix) ∈ kws → f = 2 → KBn K fd d_row_keys.ps 0 ks (fun _ ws => gIx .none ix ws) (fun _ zs => gIx .non ix zs) := by
  obtain ⟨fd, F⟩ := c.def_ 2 (d := h_row_keys) rfl
  refine ⟨_, fd, F, He.glo_ok X G (c.fact 2 (f := .glo "row_keys") rfl), FunD.bindsN (ps := d_row_keys.ps) F fun _ _ _ _ _ _ us hl => match us, hl with | [_, _, _], _ => rfl, ?_⟩
  intro x f ks ix hm e
  simp only [kws, List.mem_cons, Prod.mk.injEq, List.not_mem_nil, or_false] at hm
  rcases hm with ⟨rfl, rfl, rfl, rfl⟩ | ⟨rfl, rfl, rfl, rfl⟩ | ⟨rfl, rfl, rfl, rfl⟩
  · exact absurd e (by decide)
  · exact absurd e (by decide)
  · exact absurd e (by decide)
theorem tf_row_board (X : K.In h) (G : h.Ns mainGlobals mg) (c : He.SaysD hfa hfn K) : ∃ fa fd, FunD K d_row_board.name d_row_board.name d_row_board.params d_row_board.body d_row_board.scope [] [] fa fd ∧ mg d_row_board.name = some (.ref fa) ∧ L2.Binds K fd d_row_board.ps [] ∧
    ∀ x f ks ix, (x, f, ks, ix) ∈ kws → f = 3 → KBn K fd d_row_board.ps 0 ks (fun _ ws => gIx .none ix ws) (fun _ zs => gIx .non ix zs) := by
  obtain ⟨fd, F⟩ := c.def_ 3 (d := h_row_board) rfl
  refine ⟨_, fd, F, He.glo_ok X G (c.fact 3 (f := .glo "row_board") rfl), FunD.bindsN (ps := d_row_board.ps) F fun _ _ _ _ _ _ us hl => match us, hl with | [_, _], _ => rfl, ?_⟩
  intro x f ks ix hm e
  simp only [kws, List.mem_cons, Prod.mk.injEq, List.not_mem_nil, or_false] at hm
  rcases hm with ⟨rfl, rfl, rfl, rfl⟩ | ⟨rfl, rfl, rfl, rfl⟩ | ⟨rfl, rfl, rfl, rfl⟩
  · exact absurd e (by decide)
  · exact kbn_of F fun _ _ _ _ _ _ ws hl => match ws, hl with | [_, _], _ => rfl
  · exact kbn_of F fun _ _ _ _ _ _ ws hl => match ws, hl with | [_, _], _ => rfl
theorem tf_ring_board (X : K.In h) (G : h.Ns mainGlobals mg) (c : He.SaysD hfa hfn K) : ∃ fa fd, FunD K d_ring_board.name d_ring_board.name d_ring_board.params d_ring_board.body d_ring_board.scope [] [] fa fd ∧ mg d_ring_board.name = some (.ref fa) ∧ L2.Binds K fd d_ring_board.ps [] ∧
    ∀ x f ks ix, (x, f, ks, ix) ∈ kws → f = 4 → KBn K fd d_ring_board.ps 0 ks (fun _ ws => gIx .none ix ws) (fun _ zs => gIx .non ix zs) := by
  obtain ⟨fd, F⟩ := c.def_ 4 (d := h_ring_board) rfl
  refine ⟨_, fd, F, He.glo_ok X G (c.fact 4 (f := .glo "ring_board") rfl), FunD.bindsN (ps := d_ring_board.ps) F fun _ _ _ _ _ _ us hl => match us, hl with | [_, _], _ => rfl, ?_⟩
  intro x f ks ix hm e
  simp only [kws, List.mem_cons, Prod.mk.injEq, List.not_mem_nil, or_false] at hm
  rcases hm with ⟨rfl, rfl, rfl, rfl⟩ | ⟨rfl, rfl, rfl, rfl⟩ | ⟨rfl, rfl, rfl, rfl⟩
  · exact kbn_of F fun _ _ _ _ _ _ ws hl => match ws, hl with | [_, _], _ => rfl
  · exact absurd e (by decide)
  · exact absurd e (by decide)
theorem tf__law_take (X : K.In h) (G : h.Ns mainGlobals mg) (c : He.SaysD hfa hfn K) : ∃ fa fd, FunD K d__law_take.name d__law_take.name d__law_take.params d__law_take.body d__law_take.scope [] [] fa fd ∧ mg d__law_take.name = some (.ref fa) ∧ L2.Binds K fd d__law_take.ps [] ∧
    ∀ x f ks ix, (x, f, ks, ix) ∈ kws → f = 5 → KBn K fd d__law_take.ps 0 ks (fun _ ws => gIx .none ix ws) (fun _ zs => gIx .non ix zs) := by
  obtain ⟨fd, F⟩ := c.def_ 5 (d := h__law_take) rfl
  refine ⟨_, fd, F, He.glo_ok X G (c.fact 5 (f := .glo "_law_take") rfl), FunD.bindsN (ps := d__law_take.ps) F fun _ _ _ _ _ _ us hl => match us, hl with | [_, _], _ => rfl, ?_⟩
  intro x f ks ix hm e
  simp only [kws, List.mem_cons, Prod.mk.injEq, List.not_mem_nil, or_false] at hm
  rcases hm with ⟨rfl, rfl, rfl, rfl⟩ | ⟨rfl, rfl, rfl, rfl⟩ | ⟨rfl, rfl, rfl, rfl⟩
  · exact absurd e (by decide)
  · exact absurd e (by decide)
  · exact absurd e (by decide)
theorem tf__law_urn (X : K.In h) (G : h.Ns mainGlobals mg) (c : He.SaysD hfa hfn K) : ∃ fa fd, FunD K d__law_urn.name d__law_urn.name d__law_urn.params d__law_urn.body d__law_urn.scope [] [] fa fd ∧ mg d__law_urn.name = some (.ref fa) ∧ L2.Binds K fd d__law_urn.ps [] ∧
    ∀ x f ks ix, (x, f, ks, ix) ∈ kws → f = 6 → KBn K fd d__law_urn.ps 0 ks (fun _ ws => gIx .none ix ws) (fun _ zs => gIx .non ix zs) := by
  obtain ⟨fd, F⟩ := c.def_ 6 (d := h__law_urn) rfl
  refine ⟨_, fd, F, He.glo_ok X G (c.fact 6 (f := .glo "_law_urn") rfl), FunD.bindsN (ps := d__law_urn.ps) F fun _ _ _ _ _ _ us hl => match us, hl with | [_], _ => rfl, ?_⟩
  intro x f ks ix hm e
  simp only [kws, List.mem_cons, Prod.mk.injEq, List.not_mem_nil, or_false] at hm
  rcases hm with ⟨rfl, rfl, rfl, rfl⟩ | ⟨rfl, rfl, rfl, rfl⟩ | ⟨rfl, rfl, rfl, rfl⟩
  · exact absurd e (by decide)
  · exact absurd e (by decide)
  · exact absurd e (by decide)
theorem tf__law_same (X : K.In h) (G : h.Ns mainGlobals mg) (c : He.SaysD hfa hfn K) : ∃ fa fd, FunD K d__law_same.name d__law_same.name d__law_same.params d__law_same.body d__law_same.scope [] [] fa fd ∧ mg d__law_same.name = some (.ref fa) ∧ L2.Binds K fd d__law_same.ps [] ∧
    ∀ x f ks ix, (x, f, ks, ix) ∈ kws → f = 7 → KBn K fd d__law_same.ps 0 ks (fun _ ws => gIx .none ix ws) (fun _ zs => gIx .non ix zs) := by
  obtain ⟨fd, F⟩ := c.def_ 7 (d := h__law_same) rfl
  refine ⟨_, fd, F, He.glo_ok X G (c.fact 7 (f := .glo "_law_same") rfl), FunD.bindsN (ps := d__law_same.ps) F fun _ _ _ _ _ _ us hl => match us, hl with | [_, _], _ => rfl, ?_⟩
  intro x f ks ix hm e
  simp only [kws, List.mem_cons, Prod.mk.injEq, List.not_mem_nil, or_false] at hm
  rcases hm with ⟨rfl, rfl, rfl, rfl⟩ | ⟨rfl, rfl, rfl, rfl⟩ | ⟨rfl, rfl, rfl, rfl⟩
  · exact absurd e (by decide)
  · exact absurd e (by decide)
  · exact absurd e (by decide)
theorem tf__law_ordered (X : K.In h) (G : h.Ns mainGlobals mg) (c : He.SaysD hfa hfn K) : ∃ fa fd, FunD K d__law_ordered.name d__law_ordered.name d__law_ordered.params d__law_ordered.body d__law_ordered.scope [] [] fa fd ∧ mg d__law_ordered.name = some (.ref fa) ∧ L2.Binds K fd d__law_ordered.ps [] ∧
    ∀ x f ks ix, (x, f, ks, ix) ∈ kws → f = 8 → KBn K fd d__law_ordered.ps 0 ks (fun _ ws => gIx .none ix ws) (fun _ zs => gIx .non ix zs) := by
  obtain ⟨fd, F⟩ := c.def_ 8 (d := h__law_ordered) rfl
  refine ⟨_, fd, F, He.glo_ok X G (c.fact 8 (f := .glo "_law_ordered") rfl), FunD.bindsN (ps := d__law_ordered.ps) F fun _ _ _ _ _ _ us hl => match us, hl with | [_], _ => rfl, ?_⟩
  intro x f ks ix hm e
  simp only [kws, List.mem_cons, Prod.mk.injEq, List.not_mem_nil, or_false] at hm
  rcases hm with ⟨rfl, rfl, rfl, rfl⟩ | ⟨rfl, rfl, rfl, rfl⟩ | ⟨rfl, rfl, rfl, rfl⟩
  · exact absurd e (by decide)
  · exact absurd e (by decide)
  · exact absurd e (by decide)
theorem tf__law_row (X : K.In h) (G : h.Ns mainGlobals mg) (c : He.SaysD hfa hfn K) : ∃ fa fd, FunD K d__law_row.name d__law_row.name d__law_row.params d__law_row.body d__law_row.scope [] [] fa fd ∧ mg d__law_row.name = some (.ref fa) ∧ L2.Binds K fd d__law_row.ps [] ∧
    ∀ x f ks ix, (x, f, ks, ix) ∈ kws → f = 9 → KBn K fd d__law_row.ps 0 ks (fun _ ws => gIx .none ix ws) (fun _ zs => gIx .non ix zs) := by
  obtain ⟨fd, F⟩ := c.def_ 9 (d := h__law_row) rfl
  refine ⟨_, fd, F, He.glo_ok X G (c.fact 9 (f := .glo "_law_row") rfl), FunD.bindsN (ps := d__law_row.ps) F fun _ _ _ _ _ _ us hl => match us, hl with | [_, _], _ => rfl, ?_⟩
  intro x f ks ix hm e
  simp only [kws, List.mem_cons, Prod.mk.injEq, List.not_mem_nil, or_false] at hm
  rcases hm with ⟨rfl, rfl, rfl, rfl⟩ | ⟨rfl, rfl, rfl, rfl⟩ | ⟨rfl, rfl, rfl, rfl⟩
  · exact absurd e (by decide)
  · exact absurd e (by decide)
  · exact absurd e (by decide)
theorem tf__law_ring (X : K.In h) (G : h.Ns mainGlobals mg) (c : He.SaysD hfa hfn K) : ∃ fa fd, FunD K d__law_ring.name d__law_ring.name d__law_ring.params d__law_ring.body d__law_ring.scope [] [] fa fd ∧ mg d__law_ring.name = some (.ref fa) ∧ L2.Binds K fd d__law_ring.ps [] ∧
    ∀ x f ks ix, (x, f, ks, ix) ∈ kws → f = 10 → KBn K fd d__law_ring.ps 0 ks (fun _ ws => gIx .none ix ws) (fun _ zs => gIx .non ix zs) := by
  obtain ⟨fd, F⟩ := c.def_ 10 (d := h__law_ring) rfl
  refine ⟨_, fd, F, He.glo_ok X G (c.fact 10 (f := .glo "_law_ring") rfl), FunD.bindsN (ps := d__law_ring.ps) F fun _ _ _ _ _ _ us hl => match us, hl with | [_, _], _ => rfl, ?_⟩
  intro x f ks ix hm e
  simp only [kws, List.mem_cons, Prod.mk.injEq, List.not_mem_nil, or_false] at hm
  rcases hm with ⟨rfl, rfl, rfl, rfl⟩ | ⟨rfl, rfl, rfl, rfl⟩ | ⟨rfl, rfl, rfl, rfl⟩
  · exact absurd e (by decide)
  · exact absurd e (by decide)
  · exact absurd e (by decide)
theorem tf__law_drawn (X : K.In h) (G : h.Ns mainGlobals mg) (c : He.SaysD hfa hfn K) : ∃ fa fd, FunD K d__law_drawn.name d__law_drawn.name d__law_drawn.params d__law_drawn.body d__law_drawn.scope [] [] fa fd ∧ mg d__law_drawn.name = some (.ref fa) ∧ L2.Binds K fd d__law_drawn.ps [] ∧
    ∀ x f ks ix, (x, f, ks, ix) ∈ kws → f = 11 → KBn K fd d__law_drawn.ps 0 ks (fun _ ws => gIx .none ix ws) (fun _ zs => gIx .non ix zs) := by
  obtain ⟨fd, F⟩ := c.def_ 11 (d := h__law_drawn) rfl
  refine ⟨_, fd, F, He.glo_ok X G (c.fact 11 (f := .glo "_law_drawn") rfl), FunD.bindsN (ps := d__law_drawn.ps) F fun _ _ _ _ _ _ us hl => match us, hl with | [_, _, _, _], _ => rfl, ?_⟩
  intro x f ks ix hm e
  simp only [kws, List.mem_cons, Prod.mk.injEq, List.not_mem_nil, or_false] at hm
  rcases hm with ⟨rfl, rfl, rfl, rfl⟩ | ⟨rfl, rfl, rfl, rfl⟩ | ⟨rfl, rfl, rfl, rfl⟩
  · exact absurd e (by decide)
  · exact absurd e (by decide)
  · exact absurd e (by decide)
theorem tf__law_looked (X : K.In h) (G : h.Ns mainGlobals mg) (c : He.SaysD hfa hfn K) : ∃ fa fd, FunD K d__law_looked.name d__law_looked.name d__law_looked.params d__law_looked.body d__law_looked.scope [] [] fa fd ∧ mg d__law_looked.name = some (.ref fa) ∧ L2.Binds K fd d__law_looked.ps [] ∧
    ∀ x f ks ix, (x, f, ks, ix) ∈ kws → f = 12 → KBn K fd d__law_looked.ps 0 ks (fun _ ws => gIx .none ix ws) (fun _ zs => gIx .non ix zs) := by
  obtain ⟨fd, F⟩ := c.def_ 12 (d := h__law_looked) rfl
  refine ⟨_, fd, F, He.glo_ok X G (c.fact 12 (f := .glo "_law_looked") rfl), FunD.bindsN (ps := d__law_looked.ps) F fun _ _ _ _ _ _ us hl => match us, hl with | [_, _, _], _ => rfl, ?_⟩
  intro x f ks ix hm e
  simp only [kws, List.mem_cons, Prod.mk.injEq, List.not_mem_nil, or_false] at hm
  rcases hm with ⟨rfl, rfl, rfl, rfl⟩ | ⟨rfl, rfl, rfl, rfl⟩ | ⟨rfl, rfl, rfl, rfl⟩
  · exact absurd e (by decide)
  · exact absurd e (by decide)
  · exact absurd e (by decide)
theorem tf__law_named (X : K.In h) (G : h.Ns mainGlobals mg) (c : He.SaysD hfa hfn K) : ∃ fa fd, FunD K d__law_named.name d__law_named.name d__law_named.params d__law_named.body d__law_named.scope [] [] fa fd ∧ mg d__law_named.name = some (.ref fa) ∧ L2.Binds K fd d__law_named.ps [] ∧
    ∀ x f ks ix, (x, f, ks, ix) ∈ kws → f = 13 → KBn K fd d__law_named.ps 0 ks (fun _ ws => gIx .none ix ws) (fun _ zs => gIx .non ix zs) := by
  obtain ⟨fd, F⟩ := c.def_ 13 (d := h__law_named) rfl
  refine ⟨_, fd, F, He.glo_ok X G (c.fact 13 (f := .glo "_law_named") rfl), FunD.bindsN (ps := d__law_named.ps) F fun _ _ _ _ _ _ us hl => match us, hl with | [_], _ => rfl, ?_⟩
  intro x f ks ix hm e
  simp only [kws, List.mem_cons, Prod.mk.injEq, List.not_mem_nil, or_false] at hm
  rcases hm with ⟨rfl, rfl, rfl, rfl⟩ | ⟨rfl, rfl, rfl, rfl⟩ | ⟨rfl, rfl, rfl, rfl⟩
  · exact absurd e (by decide)
  · exact absurd e (by decide)
  · exact absurd e (by decide)
theorem tf_law (X : K.In h) (G : h.Ns mainGlobals mg) (c : He.SaysD hfa hfn K) : ∃ fa fd, FunD K d_law.name d_law.name d_law.params d_law.body d_law.scope [] [] fa fd ∧ mg d_law.name = some (.ref fa) ∧ L2.Binds K fd d_law.ps [] ∧
    ∀ x f ks ix, (x, f, ks, ix) ∈ kws → f = 14 → KBn K fd d_law.ps 0 ks (fun _ ws => gIx .none ix ws) (fun _ zs => gIx .non ix zs) := by
  obtain ⟨fd, F⟩ := c.def_ 14 (d := h_law) rfl
  refine ⟨_, fd, F, He.glo_ok X G (c.fact 14 (f := .glo "law") rfl), FunD.bindsN (ps := d_law.ps) F fun _ _ _ _ _ _ us hl => match us, hl with | [_], _ => rfl, ?_⟩
  intro x f ks ix hm e
  simp only [kws, List.mem_cons, Prod.mk.injEq, List.not_mem_nil, or_false] at hm
  rcases hm with ⟨rfl, rfl, rfl, rfl⟩ | ⟨rfl, rfl, rfl, rfl⟩ | ⟨rfl, rfl, rfl, rfl⟩
  · exact absurd e (by decide)
  · exact absurd e (by decide)
  · exact absurd e (by decide)
theorem tops (X : K.In h) (G : h.Ns mainGlobals mg) (c : He.SaysD hfa hfn K) : Tops K mg ds kws where
  fn := fun i d hd => match i, hd with
    | 0, rfl => tf_in_order X G c
    | 1, rfl => tf_numbered_faces X G c
    | 2, rfl => tf_row_keys X G c
    | 3, rfl => tf_row_board X G c
    | 4, rfl => tf_ring_board X G c
    | 5, rfl => tf__law_take X G c
    | 6, rfl => tf__law_urn X G c
    | 7, rfl => tf__law_same X G c
    | 8, rfl => tf__law_ordered X G c
    | 9, rfl => tf__law_row X G c
    | 10, rfl => tf__law_ring X G c
    | 11, rfl => tf__law_drawn X G c
    | 12, rfl => tf__law_looked X G c
    | 13, rfl => tf__law_named X G c
    | 14, rfl => tf_law X G c
    | _ + 15, hd => by cases hd
  blt := fun x hx => by
    have hx' : x ∈ blts := List.contains_iff_mem.mp hx
    simp only [blts, List.mem_cons, List.not_mem_nil, or_false] at hx'
    rcases hx' with rfl | rfl | rfl | rfl | rfl | rfl | rfl | rfl | rfl | rfl | rfl | rfl | rfl | rfl | rfl | rfl
    · exact He.free_ok X G (c.fact 15 (f := .free "len") rfl)
    · exact He.free_ok X G (c.fact 16 (f := .free "abs") rfl)
    · exact He.free_ok X G (c.fact 17 (f := .free "int") rfl)
    · exact He.free_ok X G (c.fact 18 (f := .free "min") rfl)
    · exact He.free_ok X G (c.fact 19 (f := .free "max") rfl)
    · exact He.free_ok X G (c.fact 20 (f := .free "sum") rfl)
    · exact He.free_ok X G (c.fact 21 (f := .free "sorted") rfl)
    · exact He.free_ok X G (c.fact 22 (f := .free "tuple") rfl)
    · exact He.free_ok X G (c.fact 23 (f := .free "list") rfl)
    · exact He.free_ok X G (c.fact 24 (f := .free "str") rfl)
    · exact He.free_ok X G (c.fact 25 (f := .free "bool") rfl)
    · exact He.free_ok X G (c.fact 26 (f := .free "dict") rfl)
    · exact He.free_ok X G (c.fact 27 (f := .free "isinstance") rfl)
    · exact He.free_ok X G (c.fact 28 (f := .free "range") rfl)
    · exact He.free_ok X G (c.fact 29 (f := .free "enumerate") rfl)
    · exact He.free_ok X G (c.fact 30 (f := .free "zip") rfl)
end
end Rt.k18

open PySem PySem.W PySem.Calls PyProof.Rows
theorem PySem.Challenge.cw_rolledtrue_k18_rows_rings_holds : PySem.Challenge.rw_rolledtrue_k18_rows_rings.Holds := by
  w_on; o_law
  refine HandSHeadRun.head_any (r := OpenLaw.row PySem.Challenge.rw_rolledtrue_k18_rows_rings) (q := view (OpenLaw.row PySem.Challenge.rw_rolledtrue_k18_rows_rings).prog [18]) (H := Rt.k18.hk) (ob := Rt.k18.ob) (M := 4000) (loose := ["in_order", "numbered_faces", "row_keys", "row_board", "ring_board", "_law_take", "_law_urn", "_law_same", "_law_ordered", "_law_row", "_law_ring", "_law_drawn", "_law_looked", "_law_named"]) (d := HandSHeadRun.topDef (OpenLaw.row PySem.Challenge.rw_rolledtrue_k18_rows_rings).prog 18) (kwd := []) Rt.k18.ob_eq
    (by kernel_rfl) (fun s => by kernel_rfl) Rt.k18.run (by kernel_rfl) (by kernel_rfl) (by kernel_rfl) (by rfl) (by first | assumption | decide +kernel) (by decide +kernel) ⟨rfl, rfl, rfl, rfl, rfl, by decide +kernel⟩ ?hw ?hc
  case hw => w_witness2
  case hc =>
    refine L2.walk_ofE (l := PySem.Challenge.rw_rolledtrue_k18_rows_rings) (n := 63) (k := 20) (x := "script") (CX := L2.CX0) rfl (by decide) (by kernel_rfl) ⟨rfl, by decide, by decide⟩ ?F (fun _ _ _ _ z => z)
    intro w mg fa h Y G hmg0
    obtain ⟨K, KX, c⟩ := Y
    have hmg : mg ("law" : PySem.Str) = some (.ref fa) := by
      have e : (HandSHeadRun.topDef (OpenLaw.row PySem.Challenge.rw_rolledtrue_k18_rows_rings).prog 18).name = ("law" : PySem.Str) := by kernel_rfl
      rw [← e]
      exact hmg0
    obtain ⟨fd, F⟩ := c.def_ 14 (d := Rt.k18.h_law) rfl
    have e := hmg.symm.trans (He.glo_ok KX G (c.fact 14 (f := .glo "law") rfl))
    cases e
    refine ⟨K, fd, Rt.spLaw K Rt.k18.Pt 20 14, KX, fun s v => L2.FunD.bindsA (ps := ["script"]) F (fun _ _ _ _ _ _ us hl => match us, hl with | [_], _ => rfl) s [v] rfl, fun H a ns hl _ hS => ?_, fun base hK hG => ?_⟩
    · obtain ⟨W, ws, h1, h2⟩ := Rt.k18.law_pure ns hl
      exact Rt.law_sp hS h1 h2
    · exact Rt.law_ok (d := Rt.k18.d_law) (Rt.k18.tops hK hG c) Rt.k18.cks 20 rfl rfl F

