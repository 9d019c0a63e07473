import PyProof.Rows.All
import Wide.All
import OpenK.AllK
import Wide.FinOn
import HandS.ForMost
import HandS.ExcOwn
import HandS.HeadHook2
import HandS.HeadEnd
import HandS.Head2
import HandS.TupAny
import HandS.TupLe
import HandS.Deep
import HandS.Codes
import HandS.IsInst
import HandS.SortInts
import HandS.SortOrd
import HandS.Flow
import HandS.TupLen
import HandS.WordsDict
import HandS.Text
import HandS.Iter
import HandS.ExcIs
import HandS.TryOnly
import HandS.HeadHook3
import HandS.HeadHook4
import HandS.EndBits
import PySem.Challenge.RW_doppelganger_k15_operators
set_option Elab.async false
set_option linter.all false
set_option maxRecDepth 100000
set_option maxHeartbeats 0
/-! Mp1: data as trees, a small language of programs over them, what it does. -/
namespace Mp
open PySem

/-! ### data -/
inductive D where
  | non
  | bl (b : Bool)
  | int (i : Int)
  | str (x : Str)
  | tup (xs : List D)
  | lst (xs : List D)
  | rol (xs : List D)
  | dct (t : Bool) (ks vs : List D)
  | exc (c : Str)

instance : Inhabited D := ⟨.non⟩

mutual
def D.beq : D → D → Bool
  | .non, .non => true
  | .bl a, .bl b => a == b
  | .int a, .int b => decide (a = b)
  | .str a, .str b => decide (a = b)
  | .tup a, .tup b => D.beqs a b
  | .lst a, .lst b => D.beqs a b
  | .rol a, .rol b => D.beqs a b
  | .dct t a c, .dct u b d => (t == u) && (D.beqs a b && D.beqs c d)
  | .exc a, .exc b => decide (a = b)
  | _, _ => false
def D.beqs : List D → List D → Bool
  | [], [] => true
  | x :: xs, y :: ys => D.beq x y && D.beqs xs ys
  | _, _ => false
end
mutual
theorem D.beq_eq : ∀ {a b : D}, D.beq a b = true → a = b
  | .non, .non, _ => rfl
  | .bl a, .bl b, h => by simp [D.beq] at h; rw [h]
  | .int a, .int b, h => by simp [D.beq] at h; rw [h]
  | .str a, .str b, h => by simp [D.beq] at h; rw [h]
  | .exc a, .exc b, h => by simp [D.beq] at h; rw [h]
  | .tup a, .tup b, h => by simp [D.beq] at h; rw [D.beqs_eq h]
  | .lst a, .lst b, h => by simp [D.beq] at h; rw [D.beqs_eq h]
  | .rol a, .rol b, h => by simp [D.beq] at h; rw [D.beqs_eq h]
  | .dct t a c, .dct u b d, h => by simp [D.beq] at h; rw [h.1, D.beqs_eq h.2.1, D.beqs_eq h.2.2]
  | .non, .bl _, h => by simp [D.beq] at h
  | .non, .int _, h => by simp [D.beq] at h
  | .non, .str _, h => by simp [D.beq] at h
  | .non, .tup _, h => by simp [D.beq] at h
  | .non, .lst _, h => by simp [D.beq] at h
  | .non, .rol _, h => by simp [D.beq] at h
  | .non, .dct _ _ _, h => by simp [D.beq] at h
  | .non, .exc _, h => by simp [D.beq] at h
  | .bl _, .non, h => by simp [D.beq] at h
  | .bl _, .int _, h => by simp [D.beq] at h
  | .bl _, .str _, h => by simp [D.beq] at h
  | .bl _, .tup _, h => by simp [D.beq] at h
  | .bl _, .lst _, h => by simp [D.beq] at h
  | .bl _, .rol _, h => by simp [D.beq] at h
  | .bl _, .dct _ _ _, h => by simp [D.beq] at h
  | .bl _, .exc _, h => by simp [D.beq] at h
  | .int _, .non, h => by simp [D.beq] at h
  | .int _, .bl _, h => by simp [D.beq] at h
  | .int _, .str _, h => by simp [D.beq] at h
  | .int _, .tup _, h => by simp [D.beq] at h
  | .int _, .lst _, h => by simp [D.beq] at h
  | .int _, .rol _, h => by simp [D.beq] at h
  | .int _, .dct _ _ _, h => by simp [D.beq] at h
  | .int _, .exc _, h => by simp [D.beq] at h
  | .str _, .non, h => by simp [D.beq] at h
  | .str _, .bl _, h => by simp [D.beq] at h
  | .str _, .int _, h => by simp [D.beq] at h
  | .str _, .tup _, h => by simp [D.beq] at h
  | .str _, .lst _, h => by simp [D.beq] at h
  | .str _, .rol _, h => by simp [D.beq] at h
  | .str _, .dct _ _ _, h => by simp [D.beq] at h
  | .str _, .exc _, h => by simp [D.beq] at h
  | .tup _, .non, h => by simp [D.beq] at h
  | .tup _, .bl _, h => by simp [D.beq] at h
  | .tup _, .int _, h => by simp [D.beq] at h
  | .tup _, .str _, h => by simp [D.beq] at h
  | .tup _, .lst _, h => by simp [D.beq] at h
  | .tup _, .rol _, h => by simp [D.beq] at h
  | .tup _, .dct _ _ _, h => by simp [D.beq] at h
  | .tup _, .exc _, h => by simp [D.beq] at h
  | .lst _, .non, h => by simp [D.beq] at h
  | .lst _, .bl _, h => by simp [D.beq] at h
  | .lst _, .int _, h => by simp [D.beq] at h
  | .lst _, .str _, h => by simp [D.beq] at h
  | .lst _, .tup _, h => by simp [D.beq] at h
  | .lst _, .rol _, h => by simp [D.beq] at h
  | .lst _, .dct _ _ _, h => by simp [D.beq] at h
  | .lst _, .exc _, h => by simp [D.beq] at h
  | .rol _, .non, h => by simp [D.beq] at h
  | .rol _, .bl _, h => by simp [D.beq] at h
  | .rol _, .int _, h => by simp [D.beq] at h
  | .rol _, .str _, h => by simp [D.beq] at h
  | .rol _, .tup _, h => by simp [D.beq] at h
  | .rol _, .lst _, h => by simp [D.beq] at h
  | .rol _, .dct _ _ _, h => by simp [D.beq] at h
  | .rol _, .exc _, h => by simp [D.beq] at h
  | .dct _ _ _, .non, h => by simp [D.beq] at h
  | .dct _ _ _, .bl _, h => by simp [D.beq] at h
  | .dct _ _ _, .int _, h => by simp [D.beq] at h
  | .dct _ _ _, .str _, h => by simp [D.beq] at h
  | .dct _ _ _, .tup _, h => by simp [D.beq] at h
  | .dct _ _ _, .lst _, h => by simp [D.beq] at h
  | .dct _ _ _, .rol _, h => by simp [D.beq] at h
  | .dct _ _ _, .exc _, h => by simp [D.beq] at h
  | .exc _, .non, h => by simp [D.beq] at h
  | .exc _, .bl _, h => by simp [D.beq] at h
  | .exc _, .int _, h => by simp [D.beq] at h
  | .exc _, .str _, h => by simp [D.beq] at h
  | .exc _, .tup _, h => by simp [D.beq] at h
  | .exc _, .lst _, h => by simp [D.beq] at h
  | .exc _, .rol _, h => by simp [D.beq] at h
  | .exc _, .dct _ _ _, h => by simp [D.beq] at h
theorem D.beqs_eq : ∀ {a b : List D}, D.beqs a b = true → a = b
  | [], [], _ => rfl
  | x :: xs, y :: ys, h => by simp [D.beqs] at h; rw [D.beq_eq h.1, D.beqs_eq h.2]
  | [], _ :: _, h => by simp [D.beqs] at h
  | _ :: _, [], h => by simp [D.beqs] at h
end
mutual
theorem D.beq_refl : ∀ a : D, D.beq a a = true
  | .non => rfl
  | .bl a => by simp [D.beq]
  | .int a => by simp [D.beq]
  | .str a => by simp [D.beq]
  | .tup a => by simp [D.beq, D.beqs_refl a]
  | .lst a => by simp [D.beq, D.beqs_refl a]
  | .rol a => by simp [D.beq, D.beqs_refl a]
  | .dct t a b => by simp [D.beq, D.beqs_refl a, D.beqs_refl b]
  | .exc a => by simp [D.beq]
theorem D.beqs_refl : ∀ a : List D, D.beqs a a = true
  | [] => rfl
  | x :: xs => by simp [D.beqs, D.beq_refl x, D.beqs_refl xs]
end
theorem D.beq_iff {a b : D} : D.beq a b = true ↔ a = b := ⟨D.beq_eq, fun e => e ▸ D.beq_refl a⟩
instance : DecidableEq D := fun a b => if h : D.beq a b = true then .isTrue (D.beq_eq h) else .isFalse fun e => h (D.beq_iff.mpr e)

/-! ### results -/
abbrev Env := List (Option D)
inductive R (α : Type) where
  | ok (a : α) (e : Env)
  | ex (c : Str) (e : Env)
  | no
abbrev M (α : Type) := Env → R α
def M.bind {α β : Type} (f : M α) (g : α → M β) : M β := fun e => match f e with
  | .ok a e' => g a e'
  | .ex c e' => .ex c e'
  | .no => .no
def M.ret {α : Type} (a : α) : M α := fun e => .ok a e
def M.opt {α : Type} (o : Option α) : M α := fun e => match o with
  | some a => .ok a e
  | none => .no

/-! ### what the operators give -/
def SZ : Nat := 16777216
def D.truth : D → Option Bool
  | .non => some false
  | .bl b => some b
  | .int i => some (i != 0)
  | .str x => if x.length ≤ SZ then some ((x.length : Int) != 0) else none
  | .tup xs => some (!xs.isEmpty)
  | .lst xs => some (!xs.isEmpty)
  | .rol xs => some (!xs.isEmpty)
  | .dct false ks _ => some (!ks.isEmpty)
  | .dct true _ _ => none
  | .exc _ => none

mutual
def D.toP : D → PyData
  | .non => .none
  | .bl b => .bool b
  | .int i => .int i
  | .str x => .str x
  | .tup xs => .tuple (D.toPs xs)
  | .lst xs => .list (D.toPs xs)
  | .rol _ => .dict []
  | .dct _ _ _ => .dict []
  | .exc _ => .dict []
def D.toPs : List D → List PyData
  | [] => []
  | x :: xs => D.toP x :: D.toPs xs
end
/-- may be compared by == -/
def D.shp (d : D) : Bool := SeqAt.shaped d.toP
def eqD (a b : D) : Option Bool := if a.shp && b.shp then some (PyData.eqv a.toP b.toP) else none

def W64 (i : Int) : Bool := decide (-18446744073709551616 < i) && decide (i < 18446744073709551616)

inductive BO where | add | sub | mul | fdiv | mod | pow
  deriving DecidableEq
def addD : D → D → Option D
  | .int a, .int b => some (.int (a + b))
  | .str a, .str b => if a.length + b.length ≤ SZ then some (.str (a ++ b)) else none
  | .lst a, .lst b => if a.length + b.length ≤ SZ then some (.lst (a ++ b)) else none
  | .tup a, .tup b => if a.length + b.length ≤ SZ then some (.tup (a ++ b)) else none
  | _, _ => none
def binD : BO → D → D → Option D
  | .add, a, b => addD a b
  | .sub, .int a, .int b => some (.int (a - b))
  | .mul, .int a, .int b => if W64 a || W64 b then some (.int (a * b)) else none
  | .mul, .lst xs, .int k => if decide (-(2 ^ 62) ≤ k) && decide (k < 2 ^ 62) && decide (xs.length * k.toNat ≤ SZ) then some (.lst (List.replicate k.toNat xs).flatten) else none
  | .fdiv, .int a, .int b => if 0 < b ∧ b < 1073741824 then some (.int (a / b)) else none
  | .mod, .int a, .int b => if 0 < b then some (.int (a % b)) else none
  | .pow, .int a, .int b => if 0 ≤ b ∧ b ≤ 1000 ∧ a.natAbs < 2 ^ 32 then some (.int (a ^ b.toNat)) else none
  | _, _, _ => none

def ltS (a b : Str) : Bool := decide (a.cps.toList < b.cps.toList)
/-- tuples of ints -/
def D.ints : List D → Option (List Int)
  | [] => some []
  | .int i :: r => (D.ints r).map (i :: ·)
  | _ :: _ => none
def D.strs : List D → Option (List Str)
  | [] => some []
  | .str i :: r => (D.strs r).map (i :: ·)
  | _ :: _ => none
def ltD : D → D → Option Bool
  | .int a, .int b => some (decide (a < b))
  | .str a, .str b => some (ltS a b)
  | .tup a, .tup b => match D.ints a, D.ints b with
    | some x, some y => some (HT.lexLt x y)
    | _, _ => none
  | _, _ => none

/-! ### comparisons -/
inductive CO where | eq | ne | lt | le | gt | ge | isn | isnn | in_ | nin
  deriving DecidableEq
/-- a key: an int, a text; a tuple of these -/
def D.flat : D → Bool
  | .int _ => true
  | .str _ => true
  | _ => false
def keyD : Bool → D → Bool
  | false, d => d.flat
  | true, .tup xs => xs.all D.flat
  | true, _ => false
/-- plain values -/
def D.plain : D → Bool
  | .non => true
  | .bl _ => true
  | .int _ => true
  | .str _ => true
  | _ => false
/-- == of plain values -/
def eqF : D → D → Bool
  | .non, .non => true
  | .bl a, .bl b => a == b
  | .bl a, .int b => (if a then 1 else 0) == b
  | .int a, .bl b => a == (if b then 1 else 0)
  | .int a, .int b => a == b
  | .str a, .str b => a == b
  | _, _ => false
def inD (x : D) : D → Option Bool
  | .lst ys => if x.shp && (D.lst ys).shp then some (ys.any fun y => PyData.eqv y.toP x.toP) else none
  | .tup ys => if x.plain && ys.all D.plain then some (ys.any fun y => eqF y x) else none
  | .dct false ks _ => if keyD false x then some (ks.any fun k => decide (k = x)) else none
  | .str y => match x with
    | .str z => some (!(Builtin.Str.occurrences y z 0 y.length 1).isEmpty)
    | _ => none
  | _ => none
def cmpD : CO → D → D → Option Bool
  | .eq, a, b => eqD a b
  | .ne, a, b => (eqD a b).map (!·)
  | .lt, a, b => ltD a b
  | .gt, a, b => ltD b a
  | .le, a, b => (ltD b a).map (!·)
  | .ge, a, b => (ltD a b).map (!·)
  | .isn, a, .non => some (decide (a = .non))
  | .isnn, a, .non => some (!decide (a = .non))
  | .in_, a, b => inD a b
  | .nin, a, b => (inD a b).map (!·)
  | _, _, _ => none

/-! ### subscripts, slices, dicts -/
def dGet : List D → List D → D → Option D
  | k :: ks, v :: vs, x => if k = x then some v else dGet ks vs x
  | _, _, _ => none
def dPut : List D → List D → D → D → List D × List D
  | k :: ks, v :: vs, x, y => if k = x then (k :: ks, y :: vs) else ((k :: (dPut ks vs x y).1), (v :: (dPut ks vs x y).2))
  | _, _, x, y => ([x], [y])
def ixD : D → D → Option D
  | .lst xs, .int i => L2.atI xs i
  | .rol xs, .int i => L2.atI xs i
  | .tup xs, .int i => L2.atI xs i
  | .str x, .int i => if x.length ≤ SZ then (L2.atI x.cps.toList i).map fun c => .str ⟨#[c]⟩ else none
  | .dct false ks vs, k => if keyD false k then dGet ks vs k else none
  | _, _ => none
def cutD {α : Type} (xs : List α) (lo hi : Option Int) : List α := (xs.drop (HT.sIx xs.length 0 lo)).take (HT.sIx xs.length xs.length hi - HT.sIx xs.length 0 lo)
def slD : D → Option Int → Option Int → Option D
  | .lst xs, lo, hi => some (.lst (cutD xs lo hi))
  | .tup xs, lo, hi => some (.tup (cutD xs lo hi))
  | .str z, lo, hi => if z.length ≤ SZ then some (.str (L2.cutS z lo hi)) else none
  | _, _, _ => none
/-- a place in nested lists -/
def getP : D → List D → Option D
  | d, [] => some d
  | .lst xs, .int i :: r => (L2.atI xs i).bind fun d => getP d r
  | .dct t ks vs, k :: r => if keyD t k then (dGet ks vs k).bind fun d => getP d r else none
  | _, _ => none
def setP : D → List D → D → Option D
  | _, [], y => some y
  | .lst xs, .int i :: r, y => match L2.ixN xs.length i, L2.atI xs i with
    | some j, some d => (setP d r y).map fun d' => .lst (xs.set j d')
    | _, _ => none
  | .dct t ks vs, k :: r, y => if keyD t k then (dGet ks vs k).bind fun d => (setP d r y).map fun d' => .dct t ks (dPut ks vs k d').2 else none
  | _, _, _ => none
/-- x[..][k] = y at the thing that holds the place -/
def putI : D → D → D → Option D
  | .lst xs, .int i, y => (L2.ixN xs.length i).map fun j => .lst (xs.set j y)
  | .dct t ks vs, k, y => if keyD t k && decide (ks.length < SZ) then some (.dct t (dPut ks vs k y).1 (dPut ks vs k y).2) else none
  | _, _, _ => none

/-! ### built-in functions -/
inductive BI where
  | len | abs | int | str | list | tuple | dict | sorted | sum | any | all | max1 | min1 | max2 | min2 | bool
  deriving DecidableEq
def bools : List D → Option (List Bool)
  | [] => some []
  | .bl b :: r => (bools r).map (b :: ·)
  | _ :: _ => none
def insI (x : Int) : List Int → List Int
  | [] => [x]
  | y :: ys => if x ≤ y then x :: y :: ys else y :: insI x ys
def sortI : List Int → List Int
  | [] => []
  | x :: xs => insI x (sortI xs)
def insS (x : Str) : List Str → List Str
  | [] => [x]
  | y :: ys => if ltS y x then y :: insS x ys else x :: y :: ys
def sortS : List Str → List Str
  | [] => []
  | x :: xs => insS x (sortS xs)
abbrev PI2 := Int × Int
def D.pairs : List D → Option (List PI2)
  | [] => some []
  | .tup [.int i, .int j] :: r => (D.pairs r).map ((i, j) :: ·)
  | _ :: _ => none
def leP (a b : PI2) : Bool := decide (a.1 < b.1) || (decide (a.1 = b.1) && decide (a.2 ≤ b.2))
def insP (x : PI2) : List PI2 → List PI2
  | [] => [x]
  | y :: ys => if leP x y then x :: y :: ys else y :: insP x ys
def sortP : List PI2 → List PI2
  | [] => []
  | x :: xs => insP x (sortP xs)
def D.pr (p : PI2) : D := .tup [.int p.1, .int p.2]
def sortD (xs : List D) : Option (List D) :=
  match D.ints xs with
  | some ns => if ns.length ≤ SZ then some ((sortI ns).map .int) else none
  | none => match D.strs xs with
    | some zs => if zs.length < 64 then some ((sortS zs).map .str) else none
    | none => match D.pairs xs with
      | some ps => if ps.length ≤ SZ then some ((sortP ps).map D.pr) else none
      | none => none
def maxI : List Int → Option Int
  | [] => none
  | [x] => some x
  | x :: xs => (maxI xs).map fun m => if x ≤ m then m else x
def minI : List Int → Option Int
  | [] => none
  | [x] => some x
  | x :: xs => (minI xs).map fun m => if m ≤ x then m else x
def D.items : D → Option (List D)
  | .lst xs => some xs
  | .tup xs => some xs
  | _ => none
def bF : BI → List D → Option D
  | .len, [.lst xs] => some (.int xs.length)
  | .len, [.rol xs] => some (.int xs.length)
  | .len, [.tup xs] => some (.int xs.length)
  | .len, [.str x] => if x.length ≤ SZ then some (.int x.length) else none
  | .len, [.dct _ ks _] => some (.int ks.length)
  | .abs, [.int i] => some (.int (if i < 0 then -i else i))
  | .int, [.int i] => some (.int i)
  | .int, [.bl b] => some (.int (if b then 1 else 0))
  | .str, [.int i] => if i.natAbs.log2 < 1920 then some (.str (toString i)) else none
  | .list, [.lst xs] => some (.lst xs)
  | .list, [.tup xs] => some (.lst xs)
  | .tuple, [.lst xs] => some (.tup xs)
  | .tuple, [.tup xs] => some (.tup xs)
  | .dict, [.dct t ks vs] => some (.dct t ks vs)
  | .sorted, [.lst xs] => (sortD xs).map .lst
  | .sum, [.lst xs] => (D.ints xs).map fun ns => .int ns.sum
  | .any, [.lst xs] => (bools xs).map fun bs => .bl (bs.any id)
  | .all, [.lst xs] => (bools xs).map fun bs => .bl (bs.all id)
  | .max1, [.lst xs] => (D.ints xs).bind fun ns => (maxI ns).map .int
  | .min1, [.lst xs] => (D.ints xs).bind fun ns => (minI ns).map .int
  | .max2, [.int i, .int j] => some (.int (if j > i then j else i))
  | .min2, [.int i, .int j] => some (.int (if j < i then j else i))
  | .bool, [.bl b] => some (.bl b)
  | _, _ => none
/-- built-in classes for isinstance -/
inductive TY where | int | bool | str | list | tuple | dict | none | exc (c : Str)
  deriving DecidableEq

/-! ### what is walked -/
inductive IK where | seq | rng | enum | zip | rev
  deriving DecidableEq
def rngD (lo : Int) : Nat → List D
  | 0 => []
  | n + 1 => .int lo :: rngD (lo + 1) n
def enumD (k : Int) : List D → List D
  | [] => []
  | x :: xs => .tup [.int k, x] :: enumD (k + 1) xs
def zipD : List D → List D → List D
  | x :: xs, y :: ys => .tup [x, y] :: zipD xs ys
  | _, _ => []
def B62 (i : Int) : Bool := decide (-(2 ^ 62) ≤ i) && decide (i < 2 ^ 62)
def itF : IK → List D → Option (List D)
  | .seq, [.lst xs] => some xs
  | .seq, [.tup xs] => some xs
  | .seq, [.str x] => some (x.cps.toList.map fun c => .str ⟨#[c]⟩)
  | .rng, [.int j] => if B62 j then some (rngD 0 j.toNat) else none
  | .rng, [.int i, .int j] => if B62 i && B62 j then some (rngD i (j - i).toNat) else none
  | .rng, [.int i, .int j, .int c] => if B62 i && B62 j && decide (c = -1) then some ((rngD (j + 1) (i - j).toNat).reverse) else none
  | .enum, [.lst xs] => some (enumD 0 xs)
  | .enum, [.tup xs] => some (enumD 0 xs)
  | .zip, [a, b] => match a.items, b.items with
    | some xs, some ys => some (zipD xs ys)
    | _, _ => none
  | .rev, [.lst xs] => some xs.reverse
  | _, _ => none

/-! ### methods -/
inductive ME where | join | split1 | get1 | get2 | index | find | upper | count
  deriving DecidableEq
def idxOf : List D → D → Nat → Option Nat
  | [], _, _ => none
  | y :: ys, x, k => if PyData.eqv y.toP x.toP then some k else idxOf ys x (k + 1)
def meF : ME → D → List D → Option D
  | .get1, .dct t ks vs, [k] => if keyD t k then some ((dGet ks vs k).getD .non) else none
  | .get2, .dct t ks vs, [k, d] => if keyD t k then some ((dGet ks vs k).getD d) else none
  | .index, .lst ys, [x] => if x.shp && (D.lst ys).shp then (idxOf ys x 0).map fun (k : Nat) => .int k else none
  | _, _, _ => none
/-- the receiver's kind -/
def meOk : ME → D → Bool
  | .index, .lst _ => true
  | .get1, .dct _ _ _ => true
  | .get2, .dct _ _ _ => true
  | .join, .str _ => true
  | .split1, .str _ => true
  | .find, .str _ => true
  | .upper, .str _ => true
  | .count, .str _ => true
  | _, _ => false
/-- methods that change what stands at a place: the new thing there, the value -/
inductive MU where | append | pop0 | pop1 | extend | insert | setdefault
  deriving DecidableEq
def muF : MU → D → List D → Option (D × D)
  | .append, .lst xs, [y] => if xs.length < SZ then some (.lst (xs ++ [y]), .non) else none
  | .pop0, .lst xs, [] => match xs.getLast? with
    | some y => some (.lst xs.dropLast, y)
    | none => none
  | .pop1, .lst xs, [.int i] => match L2.ixN xs.length i, L2.atI xs i with
    | some j, some y => some (.lst (xs.eraseIdx j), y)
    | _, _ => none
  | .extend, .lst xs, [.lst ys] => if xs.length + ys.length ≤ SZ then some (.lst (xs ++ ys), .non) else none
  | .insert, .lst xs, [.int i, y] => if 0 ≤ i ∧ i ≤ xs.length ∧ xs.length < SZ then some (.lst (xs.take i.toNat ++ y :: xs.drop i.toNat), .non) else none
  | .setdefault, .dct t ks vs, [k, d] => if keyD t k then (match dGet ks vs k with
    | some v => some (.dct t ks vs, v)
    | none => if ks.length < SZ then some (.dct t (dPut ks vs k d).1 (dPut ks vs k d).2, d) else none) else none
  | _, _, _ => none

/-! ### who owns what: fr: nobody changes it any more; ow o: this thing is the slot's own, its items as o says -/
inductive Ow where
  | fr
  | ow (o : Ow)
  deriving DecidableEq
abbrev Ows := List Ow

/-! ### the language -/
/-- a target: a name, a tuple of names -/
inductive T where
  | nm (i : Nat)
  | tp (is : List Nat)
inductive E where
  | v (i : Nat)
  | mv (i : Nat)
  | int (i : Int)
  | str (x : Str)
  | bl (b : Bool)
  | non
  | g (x : Str)
  | bin (o : BO) (a b : E)
  | neg (a : E)
  | not (a : E)
  | cmp (o : CO) (a b : E)
  | ch (o p : CO) (a b c : E)
  | and (es : List E)
  | or (es : List E)
  | ite (c a b : E)
  | tup (es : List E)
  | lst (es : List E)
  | dic (t : Bool) (ks vs : List E)
  | ln (i : Nat)
  | ix (a i : E)
  | sl (a : E) (lo hi : List E)
  | call (f : Str) (es : List E)
  | bi (b : BI) (es : List E)
  | isi (a : E) (ts : List TY)
  | me (m : ME) (o : E) (es : List E)
  | mu (m : MU) (i : Nat) (ps es : List E)
  | lc (elt : E) (t : T) (k : IK) (ia : List E) (c : List E)
  | fs (parts : List E)
inductive S where
  | set (i : Nat) (e : E)
  | tgt (is : List Nat) (e : E)
  | put (i : Nat) (ps : List E) (e : E)
  | aug (i : Nat) (o : BO) (e : E)
  | augp (i : Nat) (ps : List E) (o : BO) (e : E)
  | ex (e : E)
  | ifs (c : E) (a b : List S)
  | for_ (t : T) (k : IK) (ia : List E) (w : Option Nat) (body : List S)
  | while_ (c : E) (body : List S)
  | ret (e : E)
  | retN
  | raise (c : Str)
  | try_ (x : Ows) (body : List S) (h : S)
  | hd (cs : List Str) (n : Option Nat) (body : List S) (r : S)
  | hn
  | pass
  | brk
  | cont
  | weak (is : List Nat)

/-! ### what it does -/
inductive CR where
  | ok (r : D) (ls : List D)
  | ex (c : Str)
  | no
/-- the calls, the module's names, what own class of errors stands below what -/
structure Cs where
  cl : Str → List D → CR
  gl : Str → Option D
  sub : Str → Str → Bool
  isx : Str → Bool

def truthM (f : M D) : M Bool := M.bind f fun d => M.opt d.truth
def evs : List (M D × M Bool) → M (List D)
  | [] => M.ret []
  | p :: ps => M.bind p.1 fun d => M.bind (evs ps) fun ds => M.ret (d :: ds)
def getS (e : Env) (i : Nat) : Option D := (e[i]?).join
def setS (e : Env) (i : Nat) (d : D) : Env := e.set i (some d)
def unS (e : Env) (i : Nat) : Env := e.set i none
def varM (i : Nat) : M D := fun e => match getS e i with
  | some d => .ok d e
  | none => .no
def mvM (i : Nat) : M D := fun e => match getS e i with
  | some d => .ok d (unS e i)
  | none => .no
def op1 (f : D → Option D) (a : M D) : M D := M.bind a fun x => M.opt (f x)
def op2 (f : D → D → Option D) (a b : M D) : M D := M.bind a fun x => M.bind b fun y => M.opt (f x y)
def negD : D → Option D
  | .int i => some (.int (-i))
  | _ => none
def chM (o p : CO) (a b c : M D) : M D := M.bind a fun x => M.bind b fun y => M.bind (M.opt (cmpD o x y)) fun k =>
  if k = true then M.bind c fun z => M.opt ((cmpD p y z).map .bl) else M.ret (.bl false)
def andV : List (M D × M Bool) → M D
  | [] => fun _ => .no
  | [p] => p.1
  | p :: ps => M.bind p.1 fun d => match d with
    | .bl true => andV ps
    | .bl false => M.ret (.bl false)
    | _ => fun _ => .no
def orV : List (M D × M Bool) → M D
  | [] => fun _ => .no
  | [p] => p.1
  | p :: ps => M.bind p.1 fun d => match d with
    | .bl true => M.ret (.bl true)
    | .bl false => orV ps
    | _ => fun _ => .no
def andT : List (M D × M Bool) → M Bool
  | [] => fun _ => .no
  | [p] => p.2
  | p :: ps => M.bind p.2 fun b => if b = true then andT ps else M.ret false
def orT : List (M D × M Bool) → M Bool
  | [] => fun _ => .no
  | [p] => p.2
  | p :: ps => M.bind p.2 fun b => if b = true then M.ret true else orT ps
def partM : List (M D × M Bool) → M (Option Int)
  | [] => M.ret none
  | p :: _ => M.bind p.1 fun d => match d with
    | .int i => M.ret (some i)
    | _ => fun _ => .no
/-- the lent slots get what the callee left in them -/
def wb : List E → List D → Env → Env
  | .ln i :: es, d :: ds, e => wb es ds (setS e i d)
  | _ :: es, _ :: ds, e => wb es ds e
  | _, _, e => e
def unl : List E → Env → Env
  | .ln i :: es, e => unl es (unS e i)
  | _ :: es, e => unl es e
  | [], e => e
def callM (C : Cs) (f : Str) (es : List E) (ps : List (M D × M Bool)) : M D := fun e => match evs ps e with
  | .ok ds e1 => (match C.cl f ds with
    | .ok r ls => .ok r (wb es ls e1)
    | .ex c => .ex c (unl es e1)
    | .no => .no)
  | .ex c e1 => .ex c e1
  | .no => .no
def tyIs (C : Cs) : D → TY → Option Bool
  | .exc c, .exc x => some (C.sub c x)
  | .int _, .int => some true
  | .int _, .bool => some false
  | .bl _, .int => some true
  | .bl _, .bool => some true
  | .str _, .str => some true
  | .tup _, .tuple => some true
  | .lst _, .list => some true
  | .rol _, _ => none
  | .dct _ _ _, .dict => some true
  | .exc _, _ => none
  | _, .exc _ => none
  | _, .none => none
  | _, _ => some false
def tyAny (C : Cs) (d : D) : List TY → Option Bool
  | [] => some false
  | t :: ts => match tyIs C d t with
    | some true => some true
    | some false => tyAny C d ts
    | none => none
def getPM (i : Nat) (ps : List D) : M D := fun e => match (getS e i).bind fun d => getP d ps with
  | some d => .ok d e
  | none => .no
def setPM (i : Nat) (ps : List D) (y : D) : M Unit := fun e => match (getS e i).bind fun d => setP d ps y with
  | some d => .ok () (setS e i d)
  | none => .no
def muOk : MU → D → Bool
  | .setdefault, .dct _ _ _ => true
  | .setdefault, _ => false
  | _, .lst _ => true
  | _, _ => false
def muM (m : MU) (i : Nat) (ps es : List (M D × M Bool)) : M D := M.bind (evs ps) fun qs => M.bind (getPM i qs) fun d0 => if muOk m d0 = false then fun _ => .no else M.bind (evs es) fun ds => M.bind (getPM i qs) fun d =>
  match muF m d ds with
  | some (d', y) => M.bind (setPM i qs d') fun _ => M.ret y
  | none => fun _ => .no
def asg : T → D → Env → Option Env
  | .nm i, d, e => some (setS e i d)
  | .tp is, .tup ds, e => if is.length = ds.length then some ((is.zip ds).foldl (fun e p => setS e p.1 p.2) e) else none
  | .tp _, _, _ => none
def T.slots : T → List Nat
  | .nm i => [i]
  | .tp is => is
def wipeE (e : Env) : List Nat → Env
  | [] => e
  | i :: is => (wipeE e is).set i none
def lcL (elt : M D) (t : T) (c : Option (M Bool)) (e : Env) : List D → Option (List D)
  | [] => some []
  | d :: ds => match asg t d e with
    | none => none
    | some e1 => match (match c with
      | none => some true
      | some f => match f e1 with
        | .ok b _ => some b
        | _ => none) with
      | none => none
      | some false => lcL elt t c e ds
      | some true => match elt e1 with
        | .ok y _ => (lcL elt t c e ds).map (y :: ·)
        | _ => none
def lcM (elt : M D) (t : T) (k : IK) (ia : List (M D × M Bool)) (c : List (M D × M Bool)) : M D := M.bind (evs ia) fun as => M.bind (M.opt (itF k as)) fun ds => fun e =>
  if ds.length ≤ SZ then (match lcL elt t (c.head?.map (·.2)) (wipeE e t.slots) ds with
    | some ys => .ok (.lst ys) e
    | none => .no) else .no
def dicM (t : Bool) (ks vs : List (M D × M Bool)) : M D := match ks, vs with
  | [], [] => M.ret (.dct t [] [])
  | k :: ks, v :: vs => M.bind k.1 fun x => M.bind v.1 fun y => M.bind (dicM t ks vs) fun d => match d with
    | .dct t' a b => if keyD t x && !(a.any fun z => decide (z = x)) then M.ret (.dct t' (x :: a) (y :: b)) else fun _ => .no
    | _ => fun _ => .no
  | _, _ => fun _ => .no
def fsM : List (M D × M Bool) → M D
  | [] => M.ret (.str Str.empty)
  | p :: ps => M.bind p.1 fun d => M.bind (fsM ps) fun r => match d, r with
    | .str x, .str y => if x.length + y.length ≤ SZ then M.ret (.str (x ++ y)) else fun _ => .no
    | .int i, .str y => if i.natAbs.log2 < 1920 then M.ret (.str (Str.ofString (toString i) ++ y)) else fun _ => .no
    | _, _ => fun _ => .no
abbrev val (f : M D) : M D × M Bool := (f, truthM f)
def notT (p : M D × M Bool) : M D × M Bool := (M.bind (truthM p.1) fun b => M.ret (.bl !b), M.bind p.2 fun b => M.ret !b)

mutual
def den (C : Cs) : E → M D × M Bool
  | .v i => val (varM i)
  | .ln i => val (varM i)
  | .mv i => val (mvM i)
  | .int i => val (M.ret (.int i))
  | .str x => val (M.ret (.str x))
  | .bl b => val (M.ret (.bl b))
  | .non => val (M.ret .non)
  | .g x => val (M.opt (C.gl x))
  | .bin o a b => val (op2 (binD o) (den C a).1 (den C b).1)
  | .neg a => val (op1 negD (den C a).1)
  | .not a => notT (den C a)
  | .cmp o a b => val (op2 (fun x y => (cmpD o x y).map .bl) (den C a).1 (den C b).1)
  | .ch o p a b c => val (chM o p (den C a).1 (den C b).1 (den C c).1)
  | .and es => (andV (dens C es), andT (dens C es))
  | .or es => (orV (dens C es), orT (dens C es))
  | .ite c a b => val (M.bind (den C c).2 fun k => if k = true then (den C a).1 else (den C b).1)
  | .tup es => val (M.bind (evs (dens C es)) fun ds => M.ret (.tup ds))
  | .lst es => val (M.bind (evs (dens C es)) fun ds => M.ret (.lst ds))
  | .dic t ks vs => val (dicM t (dens C ks) (dens C vs))
  | .ix a i => val (op2 ixD (den C a).1 (den C i).1)
  | .sl a lo hi => val (M.bind (den C a).1 fun x => M.bind (partM (dens C lo)) fun l => M.bind (partM (dens C hi)) fun h => M.opt (slD x l h))
  | .call f es => val (callM C f es (dens C es))
  | .bi b es => val (M.bind (evs (dens C es)) fun ds => M.opt (bF b ds))
  | .isi a ts => val (M.bind (den C a).1 fun x => M.opt ((tyAny C x ts).map .bl))
  | .me m o es => val (M.bind (den C o).1 fun x => if meOk m x = true then M.bind (evs (dens C es)) fun ds => M.opt (meF m x ds) else fun _ => .no)
  | .mu m i ps es => val (muM m i (dens C ps) (dens C es))
  | .lc elt t k ia c => val (lcM (den C elt).1 t k (dens C ia) (dens C c))
  | .fs ps => val (fsM (dens C ps))
def dens (C : Cs) : List E → List (M D × M Bool)
  | [] => []
  | e :: es => den C e :: dens C es
end

inductive Fl where | nx | rt (d : D) | bk | ct
def seqM (f g : M Fl) : M Fl := M.bind f fun r => match r with
  | .nx => g
  | .rt d => M.ret (.rt d)
  | .bk => M.ret .bk
  | .ct => M.ret .ct
def forL (chk : Env → Bool) (t : T) (body : M Fl) : List D → M Fl
  | [] => fun e => if chk e = true then .ok .nx e else .no
  | d :: ds => fun e => if chk e = true then (match asg t d e with
      | none => .no
      | some e1 => match body e1 with
        | .ok .nx e2 => forL chk t body ds e2
        | .ok .ct e2 => forL chk t body ds e2
        | .ok .bk e2 => .ok .nx e2
        | .ok (.rt r) e2 => .ok (.rt r) e2
        | .ex c e2 => .ex c e2
        | .no => .no) else .no
def whileL (c : M Bool) (body : M Fl) : Nat → M Fl
  | 0 => fun _ => .no
  | n + 1 => fun e => match c e with
    | .ok true e1 => (match body e1 with
      | .ok .nx e2 => whileL c body n e2
      | .ok .ct e2 => whileL c body n e2
      | .ok .bk e2 => .ok .nx e2
      | .ok (.rt r) e2 => .ok (.rt r) e2
      | .ex x e2 => .ex x e2
      | .no => .no)
    | .ok false e1 => .ok .nx e1
    | .ex x e1 => .ex x e1
    | .no => .no
def FUEL : Nat := 1000000000
def chkOf (w : Option Nat) (as : List D) (e : Env) : Bool := match w with
  | none => true
  | some i => decide (getS e i = as.head?)
def forM (t : T) (k : IK) (ia : List (M D × M Bool)) (w : Option Nat) (body : M Fl) : M Fl := M.bind (evs ia) fun as => M.bind (M.opt (itF k as)) fun ds => forL (chkOf w as) t body ds
def putM (i : Nat) (qs : List D) (k : D) (y : D) : M Unit := M.bind (getPM i qs) fun d => M.bind (M.opt (putI d k y)) fun d' => setPM i qs d'
def unE : R Fl → Option Nat → R Fl
  | .ok r e, some i => .ok r (unS e i)
  | r, _ => r
def tryM (C : Cs) (body : M Fl) (h : Str → M Fl) : M Fl := fun e => match body e with
  | .ex c e1 => if C.isx c = true then h c e1 else .no
  | r => r
mutual
def dS (C : Cs) : S → M Fl
  | .set i e => M.bind (den C e).1 fun d => fun s => .ok .nx (setS s i d)
  | .tgt is e => M.bind (den C e).1 fun d => fun s => match asg (.tp is) d s with
    | some s' => .ok .nx s'
    | none => .no
  | .put i ps e => M.bind (den C e).1 fun y => M.bind (evs (dens C ps)) fun qs => match qs.getLast? with
    | none => fun _ => .no
    | some k => M.bind (putM i qs.dropLast k y) fun _ => M.ret .nx
  | .aug i o e => M.bind (varM i) fun x => M.bind (den C e).1 fun y => M.bind (M.opt (binD o x y)) fun z => fun s => .ok .nx (setS s i z)
  | .augp i ps o e => M.bind (evs (dens C ps)) fun qs => match qs.getLast? with
    | none => fun _ => .no
    | some k => M.bind (getPM i qs.dropLast) fun d => M.bind (M.opt (ixD d k)) fun x => M.bind (den C e).1 fun y => M.bind (M.opt (binD o x y)) fun z => M.bind (putM i qs.dropLast k z) fun _ => M.ret .nx
  | .ex e => M.bind (den C e).1 fun _ => M.ret .nx
  | .ifs c a b => M.bind (den C c).2 fun k => if k = true then dB C a else dB C b
  | .for_ t k ia w body => forM t k (dens C ia) w (dB C body)
  | .while_ c body => whileL (den C c).2 (dB C body) FUEL
  | .ret e => M.bind (den C e).1 fun d => M.ret (.rt d)
  | .retN => M.ret (.rt .non)
  | .raise c => fun e => .ex c e
  | .try_ _ body h => tryM C (dB C body) (dH C h)
  | .pass => M.ret .nx
  | .brk => M.ret .bk
  | .cont => M.ret .ct
  | .weak _ => M.ret .nx
  | .hd _ _ _ _ => fun _ => .no
  | .hn => fun _ => .no
def dB (C : Cs) : List S → M Fl
  | [] => M.ret .nx
  | s :: ss => seqM (dS C s) (dB C ss)
def dH (C : Cs) : S → Str → M Fl
  | .hd cs n body r => fun c e => if (cs.any fun x => C.sub c x) = true then (match (match n with
      | some i => if i < e.length then dB C body (setS e i (.exc c)) else .no
      | none => dB C body e) with
      | .ok f e1 => .ok f (match n with
        | some i => unS e1 i
        | none => e1)
      | _ => .no) else dH C r c e
  | .hn => fun c e => .ex c e
  | _ => fun _ _ => .no
end

/-! ### a program -/
structure Fn where
  name : Str
  np : Nat
  ns : Nat
  body : List S
/-- calls to the depth n -/
def call (fs : List Fn) (gl : Str → Option D) (sub : Str → Str → Bool) (isx : Str → Bool) : Nat → Str → List D → CR
  | 0, _, _ => .no
  | n + 1, f, ds => match fs.find? fun F => decide (F.name = f) with
    | none => .no
    | some F => if F.np = ds.length then (match dB ⟨call fs gl sub isx n, gl, sub, isx⟩ F.body (ds.map some ++ List.replicate (F.ns - F.np) none) with
      | .ok (.rt r) e => .ok r ((List.range F.np).map fun i => (getS e i).getD .non)
      | .ok .nx e => .ok .non ((List.range F.np).map fun i => (getS e i).getD .non)
      | .ok _ _ => .no
      | .ex c _ => .ex c
      | .no => .no) else .no
end Mp
/-! Mp2: how data lie in the abstract heap. -/
namespace Mp
open PySem PySem.Spec PyProof.Rows L2

/-- what may be changed at all -/
def mutO : HO → Bool
  | .lst _ => true
  | .dK _ => true
  | .dT _ => true
  | .ins _ _ _ => true
  | _ => false
abbrev AS := Addr → Prop
/-- the heap in which nothing is tracked -/
def H0 : Hp := fun _ => none
theorem sqL0 {K : PySem.W.Frag} {H : Hp} {a : Addr} {xs : List V} (h : SqL K H0 a xs) : SqL K H a xs := by
  rcases h with h | h
  · rcases h with h | ⟨o, h⟩ <;> cases h
  · exact .inr h
theorem sqT_mono {K : PySem.W.Frag} {H H' : Hp} {a : Addr} {xs : List V} (k : ∀ o, H a = some o → mutO o = false → H' a = some o) (h : SqT K H a xs) : SqT K H' a xs := by
  rcases h with h | h
  · rcases h with h | ⟨o, h⟩
    · exact .inl (.inl (k _ h rfl))
    · exact .inl (.inr ⟨o, k _ h rfl⟩)
  · exact .inr h

def kD : Key → D
  | .inl i => .int i
  | .inr x => .str x
theorem kD_inj {a b : Key} (h : kD a = kD b) : a = b := by
  cases a <;> cases b <;> simp [kD] at h <;> rw [h]

section
variable (K : PySem.W.Frag) (H : Hp) (Z : AS)
/-- a list that nobody changes -/
def FzL (a : Addr) (xs : List V) : Prop := Z a ∧ H a = some (.lst xs)
/-- a list that is only read: the script, a list of the module -/
def RdL (a : Addr) (xs : List V) : Prop := (∃ o, H a = some (.frz o (.lst xs))) ∨ SqL K H0 a xs
/-- a dict's keys -/
def KeyK (ks : List D) (kvs : List (Key × V)) : Prop := ks = kvs.map fun p => kD p.1
def KeyT (ks : List D) (kvs : List (List Key × V)) : Prop := ks = kvs.map fun p => D.tup (p.1.map kD)
/-- at a stands a dict with these keys, its values xs -/
def DcAt (a : Addr) (t : Bool) (ks : List D) (xs : List V) : Prop := ks.Nodup ∧
  ((t = false ∧ ∃ kvs, H a = some (.dK kvs) ∧ KeyK ks kvs ∧ xs = kvs.map (·.2)) ∨ (t = true ∧ ∃ kvs, H a = some (.dT kvs) ∧ KeyT ks kvs ∧ xs = kvs.map (·.2)))
mutual
/-- data that nobody changes -/
def Rep : D → V → Prop
  | .non, v => v = .non
  | .bl b, v => v = .bl b
  | .int i, v => v = .int i
  | .str x, v => v = .str x
  | .tup ds, v => ∃ a xs, v = .ref a ∧ SqT K H a xs ∧ Reps ds xs
  | .lst ds, v => ∃ a xs, v = .ref a ∧ FzL H Z a xs ∧ Reps ds xs
  | .rol ds, v => ∃ a xs, v = .ref a ∧ RdL K H a xs ∧ Reps ds xs
  | .dct t ks vs, v => ∃ a xs, v = .ref a ∧ Z a ∧ DcAt H a t ks xs ∧ Reps vs xs
  | .exc _, v => ∃ a, v = .ref a
def Reps : List D → List V → Prop
  | [], xs => xs = []
  | d :: ds, xs => ∃ x r, xs = x :: r ∧ Rep d x ∧ Reps ds r
end
/-- items with their places' footprints -/
structure Items (R : D → V → AS → Prop) (ds : List D) (xs : List V) (A : AS) (G : Nat → AS) : Prop where
  len : xs.length = ds.length
  at_ : ∀ (k : Nat) d x, ds[k]? = some d → xs[k]? = some x → R d x (G k)
  apart : ∀ (j k : Nat) b, G j b → G k b → j = k
  some_ : ∀ b, A b ↔ ∃ k, k < ds.length ∧ G k b
/-- data as an owner holds them: A, what may be changed of them -/
def RO : Ow → D → V → AS → Prop
  | .fr, d, v, A => Rep K H Z d v ∧ ∀ a, ¬ A a
  | .ow o, .lst ds, v, A => ∃ a xs B G, v = .ref a ∧ H a = some (.lst xs) ∧ Items (RO o) ds xs B G ∧ ¬ B a ∧ ∀ b, A b ↔ (b = a ∨ B b)
  | .ow o, .dct t ks vs, v, A => ∃ a xs B G, v = .ref a ∧ DcAt H a t ks xs ∧ Items (RO o) vs xs B G ∧ ¬ B a ∧ ∀ b, A b ↔ (b = a ∨ B b)
  | .ow _, d, v, A => Rep K H Z d v ∧ ∀ a, ¬ A a
end

section
variable {K : PySem.W.Frag} {H H' : Hp} {Z Z' : AS}
theorem RdL.sq {a : Addr} {xs : List V} (h : RdL K H a xs) : SqL K H a xs := by
  rcases h with ⟨o, h⟩ | h
  · exact .inl (.inr ⟨o, h⟩)
  · exact sqL0 h
theorem RdL.mono {a : Addr} {xs : List V} (k : ∀ a o, H a = some o → (Z a ∨ mutO o = false) → H' a = some o) (h : RdL K H a xs) : RdL K H' a xs := by
  rcases h with ⟨o, h⟩ | h
  · exact .inl ⟨o, k _ _ h (.inr rfl)⟩
  · exact .inr h
theorem FzL.mono {a : Addr} {xs : List V} (kz : ∀ a, Z a → Z' a) (k : ∀ a o, H a = some o → (Z a ∨ mutO o = false) → H' a = some o) (h : FzL H Z a xs) : FzL H' Z' a xs := ⟨kz _ h.1, k _ _ h.2 (.inl h.1)⟩
theorem DcAt.mono {a : Addr} {t : Bool} {ks : List D} {xs : List V} (k : ∀ o, H a = some o → H' a = some o) (h : DcAt H a t ks xs) : DcAt H' a t ks xs := by
  obtain ⟨nd, ⟨e, kvs, h1, h2, h3⟩ | ⟨e, kvs, h1, h2, h3⟩⟩ := h
  · exact ⟨nd, .inl ⟨e, kvs, k _ h1, h2, h3⟩⟩
  · exact ⟨nd, .inr ⟨e, kvs, k _ h1, h2, h3⟩⟩
mutual
theorem Rep.mono (kz : ∀ a, Z a → Z' a) (k : ∀ a o, H a = some o → (Z a ∨ mutO o = false) → H' a = some o) : ∀ {d : D} {v : V}, Rep K H Z d v → Rep K H' Z' d v
  | .non, _, h => h
  | .bl _, _, h => h
  | .int _, _, h => h
  | .str _, _, h => h
  | .exc _, _, h => h
  | .tup ds, v, h => by
    unfold Rep at h ⊢
    obtain ⟨a, xs, e, h1, h2⟩ := h
    exact ⟨a, xs, e, sqT_mono (fun o e m => k _ _ e (.inr m)) h1, Reps.mono kz k h2⟩
  | .lst ds, v, h => by
    unfold Rep at h ⊢
    obtain ⟨a, xs, e, h1, h2⟩ := h
    exact ⟨a, xs, e, h1.mono kz k, Reps.mono kz k h2⟩
  | .rol ds, v, h => by
    unfold Rep at h ⊢
    obtain ⟨a, xs, e, h1, h2⟩ := h
    exact ⟨a, xs, e, RdL.mono k h1, Reps.mono kz k h2⟩
  | .dct t ks vs, v, h => by
    unfold Rep at h ⊢
    obtain ⟨a, xs, e, z, h1, h2⟩ := h
    exact ⟨a, xs, e, kz _ z, h1.mono fun o q => k _ _ q (.inl z), Reps.mono kz k h2⟩
theorem Reps.mono (kz : ∀ a, Z a → Z' a) (k : ∀ a o, H a = some o → (Z a ∨ mutO o = false) → H' a = some o) : ∀ {ds : List D} {xs : List V}, Reps K H Z ds xs → Reps K H' Z' ds xs
  | [], _, h => h
  | d :: ds, xs, h => by
    unfold Reps at h ⊢
    obtain ⟨x, r, e, h1, h2⟩ := h
    exact ⟨x, r, e, Rep.mono kz k h1, Reps.mono kz k h2⟩
end
theorem Reps.len : ∀ {ds : List D} {xs : List V}, Reps K H Z ds xs → xs.length = ds.length
  | [], _, h => by unfold Reps at h; simp [h]
  | d :: ds, xs, h => by
    unfold Reps at h
    obtain ⟨x, r, rfl, _, h2⟩ := h
    simp [Reps.len h2]
theorem Reps.get : ∀ {ds : List D} {xs : List V} {k : Nat} {d : D}, Reps K H Z ds xs → ds[k]? = some d → ∃ x, xs[k]? = some x ∧ Rep K H Z d x
  | [], _, _, _, _, e => by simp at e
  | d :: ds, xs, 0, _, h, e => by
    unfold Reps at h
    obtain ⟨x, r, rfl, h1, _⟩ := h
    simp at e
    subst e
    exact ⟨x, by simp, h1⟩
  | d :: ds, xs, k + 1, _, h, e => by
    unfold Reps at h
    obtain ⟨x, r, rfl, _, h2⟩ := h
    simp at e ⊢
    exact Reps.get h2 e
theorem Reps.of : ∀ {ds : List D} {xs : List V}, xs.length = ds.length → (∀ (k : Nat) d x, ds[k]? = some d → xs[k]? = some x → Rep K H Z d x) → Reps K H Z ds xs
  | [], [], _, _ => by unfold Reps; rfl
  | [], _ :: _, h, _ => by simp at h
  | _ :: _, [], h, _ => by simp at h
  | d :: ds, x :: xs, h, g => by
    unfold Reps
    exact ⟨x, xs, rfl, g 0 d x rfl rfl, Reps.of (by simpa using h) fun k d' x' e1 e2 => g (k + 1) d' x' (by simpa using e1) (by simpa using e2)⟩
theorem RO.scal {o : Ow} {d : D} {v : V} {A : AS} (hd : ∀ ds, d ≠ .lst ds) (hd2 : ∀ t ks vs, d ≠ .dct t ks vs) : RO K H Z (.ow o) d v A ↔ (Rep K H Z d v ∧ ∀ a, ¬ A a) := by
  cases d <;> first | exact Iff.rfl | exact absurd rfl (hd _) | exact absurd rfl (hd2 _ _ _)
theorem DcAt.mut {a : Addr} {t : Bool} {ks : List D} {xs : List V} (h : DcAt H a t ks xs) : ∃ o, H a = some o ∧ mutO o = true := by
  obtain ⟨_, ⟨_, kvs, h1, _⟩ | ⟨_, kvs, h1, _⟩⟩ := h
  · exact ⟨_, h1, rfl⟩
  · exact ⟨_, h1, rfl⟩
/-- what an owner holds stays while it and what is frozen stay -/
theorem RO.keep (kz : ∀ a, Z a → Z' a) : ∀ {o : Ow} {d : D} {v : V} {A : AS}, (∀ a q, H a = some q → (Z a ∨ A a ∨ mutO q = false) → H' a = some q) → RO K H Z o d v A → RO K H' Z' o d v A
  | .fr, d, v, A, k, h => ⟨h.1.mono kz fun a q e z => k a q e (z.elim .inl fun m => .inr (.inr m)), h.2⟩
  | .ow o, d, v, A, k, h => by
    have sc : (Rep K H Z d v ∧ ∀ a, ¬ A a) → (Rep K H' Z' d v ∧ ∀ a, ¬ A a) := fun h => ⟨h.1.mono kz fun a q e z => k a q e (z.elim .inl fun m => .inr (.inr m)), h.2⟩
    have it : ∀ {ds : List D} {xs : List V} {B : AS} {G : Nat → AS}, (∀ b, B b → A b) → Items (RO K H Z o) ds xs B G → Items (RO K H' Z' o) ds xs B G := fun {ds xs B G} hB I =>
      ⟨I.len, fun j d x e1 e2 => RO.keep kz (fun a q e z => k a q e (by
        rcases z with z | z | z
        · exact .inl z
        · exact .inr (.inl (hB _ ((I.some_ a).mpr ⟨j, (List.getElem?_eq_some_iff.mp e1).1, z⟩)))
        · exact .inr (.inr z))) (I.at_ j d x e1 e2), I.apart, I.some_⟩
    cases d with
    | lst ds =>
      obtain ⟨a, xs, B, G, e, h1, I, nb, hA⟩ := h
      exact ⟨a, xs, B, G, e, k a _ h1 (.inr (.inl ((hA a).mpr (.inl rfl)))), it (fun b hb => (hA b).mpr (.inr hb)) I, nb, hA⟩
    | dct t ks vs =>
      obtain ⟨a, xs, B, G, e, h1, I, nb, hA⟩ := h
      exact ⟨a, xs, B, G, e, h1.mono fun q e => k a q e (.inr (.inl ((hA a).mpr (.inl rfl)))), it (fun b hb => (hA b).mpr (.inr hb)) I, nb, hA⟩
    | _ => exact sc h
/-- what is owned is there, and may be changed -/
theorem RO.there : ∀ {o : Ow} {d : D} {v : V} {A : AS}, RO K H Z o d v A → ∀ a, A a → ∃ q, H a = some q ∧ mutO q = true
  | .fr, d, v, A, h, a, z => absurd z (h.2 a)
  | .ow o, d, v, A, h, a, z => by
    have it : ∀ {ds : List D} {xs : List V} {B : AS} {G : Nat → AS}, Items (RO K H Z o) ds xs B G → B a → ∃ q, H a = some q ∧ mutO q = true := fun {ds xs B G} I hb => by
      obtain ⟨k, hk, g⟩ := (I.some_ a).mp hb
      obtain ⟨d, hd⟩ : ∃ d, ds[k]? = some d := ⟨_, List.getElem?_eq_getElem hk⟩
      obtain ⟨x, hx⟩ : ∃ x, xs[k]? = some x := ⟨_, List.getElem?_eq_getElem (by rw [I.len]; exact hk)⟩
      exact RO.there (I.at_ k d x hd hx) a g
    cases d with
    | lst ds =>
      obtain ⟨p, xs, B, G, e, h1, I, nb, hA⟩ := h
      rcases (hA a).mp z with rfl | hb
      · exact ⟨_, h1, rfl⟩
      · exact it I hb
    | dct t ks vs =>
      obtain ⟨p, xs, B, G, e, h1, I, nb, hA⟩ := h
      rcases (hA a).mp z with rfl | hb
      · exact h1.mut
      · exact it I hb
    | _ => exact absurd z (h.2 a)
/-- frozen: from now on nobody changes it -/
theorem RO.fz : ∀ {o : Ow} {d : D} {v : V} {A : AS}, RO K H Z o d v A → Rep K H (fun a => Z a ∨ A a) d v
  | .fr, d, v, A, h => h.1.mono (fun a z => .inl z) fun _ _ e _ => e
  | .ow o, d, v, A, h => by
    have it : ∀ {ds : List D} {xs : List V} {B : AS} {G : Nat → AS}, (∀ b, B b → A b) → Items (RO K H Z o) ds xs B G → Reps K H (fun a => Z a ∨ A a) ds xs := fun {ds xs B G} hB I =>
      Reps.of I.len fun k d x e1 e2 => (RO.fz (I.at_ k d x e1 e2)).mono (fun a z => z.elim .inl fun g => .inr (hB _ ((I.some_ a).mpr ⟨k, (List.getElem?_eq_some_iff.mp e1).1, g⟩))) fun _ _ e _ => e
    cases d with
    | lst ds =>
      obtain ⟨a, xs, B, G, e, h1, I, nb, hA⟩ := h
      unfold Rep
      exact ⟨a, xs, e, ⟨.inr ((hA a).mpr (.inl rfl)), h1⟩, it (fun b hb => (hA b).mpr (.inr hb)) I⟩
    | dct t ks vs =>
      obtain ⟨a, xs, B, G, e, h1, I, nb, hA⟩ := h
      unfold Rep
      exact ⟨a, xs, e, .inr ((hA a).mpr (.inl rfl)), h1, it (fun b hb => (hA b).mpr (.inr hb)) I⟩
    | _ => exact h.1.mono (fun a z => .inl z) fun _ _ e _ => e
end

/-! ### a state: what is frozen, the slots' footprints, the heap -/
structure Wd where
  Z : AS
  F : Nat → AS
  H : Hp
/-- from w to w': only what a slot owns may have changed -/
structure Ext (w w' : Wd) : Prop where
  z : ∀ a, w.Z a → w'.Z a
  fr : ∀ a o, w.H a = some o → (∀ i, ¬ w.F i a) → w'.H a = some o
  dm : ∀ a, w.H a ≠ none → w'.H a ≠ none
  nw : ∀ i a, w'.F i a → (∃ j, w.F j a) ∨ w.H a = none
  zn : ∀ a, w'.Z a → w.Z a ∨ (∃ j, w.F j a) ∨ w.H a = none
  zh : (∀ a, w.Z a → w.H a ≠ none) → ∀ a, w'.Z a → w'.H a ≠ none
theorem Ext.refl {w : Wd} : Ext w w := ⟨fun _ z => z, fun _ _ e _ => e, fun _ z => z, fun i _ z => .inl ⟨i, z⟩, fun _ z => .inl z, fun h => h⟩
theorem Ext.trans {u v w : Wd} (a : Ext u v) (b : Ext v w) : Ext u w where
  z := fun x h => b.z x (a.z x h)
  fr := fun x o e n => by
    have e1 := a.fr x o e n
    refine b.fr x o e1 fun i hi => ?_
    rcases a.nw i x hi with ⟨j, hj⟩ | hn
    · exact n j hj
    · rw [e] at hn; cases hn
  dm := fun x h => b.dm x (a.dm x h)
  nw := fun i x h => by
    rcases b.nw i x h with ⟨j, hj⟩ | hn
    · exact a.nw j x hj
    · by_cases q : u.H x = none
      · exact .inr q
      · exact absurd hn (a.dm x q)
  zn := fun x h => by
    rcases b.zn x h with hz | ⟨j, hj⟩ | hn
    · exact a.zn x hz
    · rcases a.nw j x hj with h' | h'
      · exact .inr (.inl h')
      · exact .inr (.inr h')
    · by_cases q : u.H x = none
      · exact .inr (.inr q)
      · exact absurd hn (a.dm x q)
  zh := fun h => b.zh (a.zh h)
abbrev owAt (ows : Ows) (i : Nat) : Ow := ows.getD i .fr
abbrev Pin := Nat → Option (V × Option D)
/-- the slots hold the data -/
structure SR (K : PySem.W.Frag) (pn : Pin) (ows : Ows) (env : Env) (σ : L2.St) (w : Wd) : Prop where
  len : σ.length = env.length
  at_ : ∀ i d, getS env i = some d → ∃ v, σ[i]? = some (some v) ∧ RO K w.H w.Z (owAt ows i) d v (w.F i)
  apart : ∀ i j a, w.F i a → w.F j a → i = j
  zf : ∀ i a, w.F i a → ¬ w.Z a
  fm : ∀ i a, w.F i a → ∃ o, w.H a = some o ∧ mutO o = true
  zt : ∀ a, w.Z a → w.H a ≠ none
  pin : ∀ i p, pn i = some p → σ[i]? = some (some p.1) ∧ ∀ d, p.2 = some d → ∀ d', getS env i = some d' → d' = d
/-- a value apart from all slots -/
structure Tmp (w w' : Wd) (A : AS) : Prop where
  z : ∀ a, A a → ¬ w'.Z a
  f : ∀ a i, A a → ¬ w'.F i a
  nw : ∀ a, A a → (∃ j, w.F j a) ∨ w.H a = none
theorem Tmp.nil {w w' : Wd} : Tmp w w' (fun _ => False) := ⟨fun _ h => h.elim, fun _ _ h => h.elim, fun _ h => h.elim⟩
end Mp
/-! Mp3: states, judgements. -/
namespace Mp
open PySem PySem.Spec PyProof.Rows L2

section
variable {K : PySem.W.Frag} {pn : Pin} {ows : Ows} {env : Env} {σ : L2.St} {w w' w1 w2 : Wd}
theorem getS_set {e : Env} {i j : Nat} {d d' : D} (h : getS (setS e i d) j = some d') : (j = i ∧ d' = d) ∨ (j ≠ i ∧ getS e j = some d') := by
  unfold getS setS at h
  by_cases q : i = j
  · subst q
    rw [List.getElem?_set] at h
    by_cases hl : i < e.length
    · simp [hl] at h; exact .inl ⟨rfl, h.symm⟩
    · simp [hl] at h
  · rw [List.getElem?_set_ne q] at h
    exact .inr ⟨fun z => q z.symm, h⟩
theorem getS_un {e : Env} {i j : Nat} {d' : D} (h : getS (unS e i) j = some d') : j ≠ i ∧ getS e j = some d' := by
  unfold getS unS at h
  by_cases q : i = j
  · subst q
    rw [List.getElem?_set] at h
    by_cases hl : i < e.length <;> simp [hl] at h
  · rw [List.getElem?_set_ne q] at h
    exact ⟨fun z => q z.symm, h⟩
theorem getS_lt {e : Env} {i : Nat} {d : D} (h : getS e i = some d) : i < e.length := by
  unfold getS at h
  rcases Nat.lt_or_ge i e.length with q | q
  · exact q
  · rw [List.getElem?_eq_none q] at h; simp at h
/-- a temp stays through an extension -/
theorem RO.ext {o : Ow} {d : D} {v : V} {A : AS} (s : SR K pn ows env σ w1) (hf : ∀ a i, A a → ¬ w1.F i a) (e : Ext w1 w2) (h : RO K w1.H w1.Z o d v A) : RO K w2.H w2.Z o d v A :=
  h.keep e.z fun a q ha z => e.fr a q ha fun i hi => by
    rcases z with z | z | z
    · exact s.zf i a hi z
    · exact hf a i z hi
    · obtain ⟨o', e1, m⟩ := s.fm i a hi
      rw [ha] at e1; cases e1
      rw [z] at m; cases m
theorem Rep.ext {d : D} {v : V} (s : SR K pn ows env σ w1) (e : Ext w1 w2) (h : Rep K w1.H w1.Z d v) : Rep K w2.H w2.Z d v :=
  (RO.ext (o := .fr) (A := fun _ => False) s (fun _ _ z => z.elim) e ⟨h, fun _ z => z⟩).1
theorem Reps.ext {d : List D} {v : List V} (s : SR K pn ows env σ w1) (e : Ext w1 w2) (h : Reps K w1.H w1.Z d v) : Reps K w2.H w2.Z d v :=
  h.mono e.z fun a q ha z => e.fr a q ha fun i hi => by
    rcases z with z | z
    · exact s.zf i a hi z
    · obtain ⟨o', e1, m⟩ := s.fm i a hi
      rw [ha] at e1; cases e1
      rw [z] at m; cases m
theorem Tmp.ext {A : AS} (s : SR K pn ows env σ w1) (t : Tmp w w1 A) (hA : ∀ a, A a → w1.H a ≠ none) (e0 : Ext w w1) (e : Ext w1 w2) : Tmp w w2 A where
  z := fun a h z => by
    rcases e.zn a z with q | ⟨j, q⟩ | q
    · exact t.z a h q
    · exact t.f a j h q
    · exact hA a h q
  f := fun a i h z => by
    rcases e.nw i a z with ⟨j, q⟩ | q
    · exact t.f a j h q
    · exact hA a h q
  nw := t.nw
theorem Tmp.pre {A : AS} (e : Ext w w1) (t : Tmp w1 w2 A) : Tmp w w2 A := ⟨t.z, t.f, fun a h => by
  rcases t.nw a h with ⟨j, q⟩ | q
  · exact e.nw j a q
  · by_cases n : w.H a = none
    · exact .inr n
    · exact absurd q (e.dm a n)⟩
/-- a slot's thing is frozen -/
def Wd.fz (w : Wd) (i : Nat) : Wd := ⟨fun a => w.Z a ∨ w.F i a, fun j a => j ≠ i ∧ w.F j a, w.H⟩
theorem Ext.fz (w : Wd) (i : Nat) (hF : ∀ a, w.F i a → w.H a ≠ none) : Ext w (w.fz i) where
  zh := fun h a z => z.elim (h a) (hF a)
  z := fun _ h => .inl h
  fr := fun _ _ e _ => e
  dm := fun _ h => h
  nw := fun j _ h => .inl ⟨j, h.2⟩
  zn := fun _ h => h.elim .inl fun q => .inr (.inl ⟨i, q⟩)
theorem owAt_set {i j : Nat} {o : Ow} (h : j ≠ i) : owAt (ows.set i o) j = owAt ows j := by
  unfold owAt
  simp only [List.getD_eq_getElem?_getD]
  rw [List.getElem?_set_ne (Ne.symm h)]
theorem owAt_self {i : Nat} : owAt (ows.set i .fr) i = .fr := by
  unfold owAt
  rw [List.getD_eq_getElem?_getD]
  by_cases h : i < ows.length
  · rw [List.getElem?_set_self h]; rfl
  · rw [List.getElem?_eq_none (by simp; omega)]; rfl
theorem owAt_self' {i : Nat} {o : Ow} (h : i < ows.length) : owAt (ows.set i o) i = o := by
  unfold owAt
  simp only [List.getD_eq_getElem?_getD]
  rw [List.getElem?_set_self h]
  rfl
theorem SR.fne {i : Nat} (s : SR K pn ows env σ w) (a : Addr) (h : w.F i a) : w.H a ≠ none := by
  obtain ⟨o, e, _⟩ := s.fm i a h
  rw [e]; simp
theorem SR.fz (s : SR K pn ows env σ w) (i : Nat) : SR K pn (ows.set i .fr) env σ (w.fz i) where
  len := s.len
  at_ := fun j d h => by
    obtain ⟨v, h1, h2⟩ := s.at_ j d h
    refine ⟨v, h1, ?_⟩
    by_cases q : j = i
    · subst q
      rw [owAt_self]
      exact ⟨h2.fz, fun a z => z.1 rfl⟩
    · rw [owAt_set q]
      have := h2.keep (H' := w.H) (Z' := (w.fz i).Z) (fun a z => .inl z) fun _ _ e _ => e
      refine cast ?_ this
      congr 1
      funext a
      exact propext ⟨fun z => ⟨q, z⟩, fun z => z.2⟩
  apart := fun j k a h1 h2 => s.apart j k a h1.2 h2.2
  zf := fun j a h z => by
    rcases z with z | z
    · exact s.zf j a h.2 z
    · exact h.1 (s.apart j i a h.2 z)
  fm := fun j a h => s.fm j a h.2
  zt := fun a z => by
    rcases z with z | z
    · exact s.zt a z
    · obtain ⟨o, e, _⟩ := s.fm i a z
      show w.H a ≠ none
      rw [e]; simp
  pin := s.pin
/-- several slots frozen -/
def fzAll (ows : Ows) : List Nat → Ows
  | [] => ows
  | i :: is => fzAll (ows.set i .fr) is
theorem SR.fzAll : ∀ (is : List Nat) {ows : Ows} {w : Wd}, SR K pn ows env σ w → ∃ w', Ext w w' ∧ w'.H = w.H ∧ SR K pn (fzAll ows is) env σ w'
  | [], _, w, s => ⟨w, Ext.refl, rfl, s⟩
  | i :: is, _, w, s => by
    obtain ⟨w', e, h, s'⟩ := SR.fzAll is (s.fz i)
    exact ⟨w', (Ext.fz w i s.fne).trans e, h, s'⟩
/-- weaker ownership: each as it was or frozen -/
def weakB : Nat → Ows → Ows → Bool
  | _, [], [] => true
  | i, a :: as, b :: bs => (decide (a = b) || decide (b = .fr)) && weakB (i + 1) as bs
  | _, _, _ => false
theorem SR.congr {ows' : Ows} (s : SR K pn ows env σ w) (h : ∀ i, owAt ows' i = owAt ows i) : SR K pn ows' env σ w :=
  ⟨s.len, fun i d e => by rw [h]; exact s.at_ i d e, s.apart, s.zf, s.fm, s.zt, s.pin⟩
theorem weak_at : ∀ {n : Nat} {a b : Ows}, weakB n a b = true → ∀ i, owAt b i = owAt a i ∨ owAt b i = .fr
  | _, [], [], _, i => .inl rfl
  | _, _ :: _, [], h, _ => by simp [weakB] at h
  | _, [], _ :: _, h, _ => by simp [weakB] at h
  | n, x :: xs, y :: ys, h, i => by
    simp [weakB] at h
    cases i with
    | zero => rcases h.1 with e | e
              · exact .inl (by simp [owAt, e])
              · exact .inr (by simp [owAt, e])
    | succ i => simpa [owAt] using weak_at (n := n + 1) (a := xs) (b := ys) h.2 i
theorem weak_len : ∀ {n : Nat} {a b : Ows}, weakB n a b = true → a.length = b.length
  | _, [], [], _ => rfl
  | _, _ :: _, [], h => by simp [weakB] at h
  | _, [], _ :: _, h => by simp [weakB] at h
  | n, x :: xs, y :: ys, h => by simp [weakB] at h; simp [weak_len (n := n + 1) h.2]
theorem fzAll_at : ∀ (is : List Nat) (ows : Ows) (i : Nat), owAt (fzAll ows is) i = if i ∈ is then .fr else owAt ows i
  | [], _, _ => by simp [Mp.fzAll]
  | j :: is, ows, i => by
    rw [Mp.fzAll, fzAll_at is]
    by_cases h : i ∈ is
    · rw [if_pos h, if_pos (List.mem_cons_of_mem _ h)]
    · by_cases q : i = j
      · subst q
        rw [if_neg h, owAt_self, if_pos List.mem_cons_self]
      · rw [if_neg h, owAt_set q, if_neg]
        intro m
        rcases List.mem_cons.mp m with e | e
        · exact q e
        · exact h e
theorem SR.weak {ows' : Ows} (s : SR K pn ows env σ w) (h : weakB 0 ows ows' = true) : ∃ w', Ext w w' ∧ w'.H = w.H ∧ SR K pn ows' env σ w' := by
  obtain ⟨w', e, eh, s'⟩ := s.fzAll ((List.range ows.length).filter fun i => decide (owAt ows' i = .fr))
  refine ⟨w', e, eh, s'.congr fun i => ?_⟩
  rw [fzAll_at]
  split
  · rename_i hm
    exact of_decide_eq_true (List.mem_filter.mp hm).2
  · rename_i hm
    rcases weak_at h i with q | q
    · exact q
    · by_cases hl : i < ows.length
      · exact absurd (List.mem_filter.mpr ⟨List.mem_range.mpr hl, decide_eq_true q⟩) hm
      · rw [q]
        unfold owAt
        rw [List.getD_eq_getElem?_getD, List.getElem?_eq_none (by omega)]
        rfl
/-- a slot is emptied, its thing taken out -/
def Wd.out (w : Wd) (i : Nat) : Wd := ⟨w.Z, fun j a => j ≠ i ∧ w.F j a, w.H⟩
theorem Ext.out (w : Wd) (i : Nat) : Ext w (w.out i) := ⟨fun _ h => h, fun _ _ e _ => e, fun _ h => h, fun j _ h => .inl ⟨j, h.2⟩, fun _ h => .inl h, fun h => h⟩
theorem SR.out {ows' : Ows} (s : SR K pn ows env σ w) (i : Nat) (ho : ∀ j, j ≠ i → owAt ows' j = owAt ows j) : SR K pn ows' (unS env i) σ (w.out i) where
  len := by rw [s.len]; unfold unS; simp
  at_ := fun j d h => by
    obtain ⟨q, h'⟩ := getS_un h
    obtain ⟨v, h1, h2⟩ := s.at_ j d h'
    refine ⟨v, h1, ?_⟩
    rw [ho j q]
    have e : (w.out i).F j = w.F j := by
      funext a
      exact propext ⟨fun z => z.2, fun z => ⟨q, z⟩⟩
    rw [e]
    exact h2
  apart := fun j k a h1 h2 => s.apart j k a h1.2 h2.2
  zf := fun j a h z => s.zf j a h.2 z
  fm := fun j a h => s.fm j a h.2
  zt := s.zt
  pin := fun j p h => ⟨(s.pin j p h).1, fun d hd d' hg => (s.pin j p h).2 d hd d' (getS_un hg).2⟩
/-- a temp is stored into a slot -/
def Wd.put (w : Wd) (i : Nat) (A : AS) : Wd := ⟨w.Z, fun j a => if j = i then A a else w.F j a, w.H⟩
theorem SR.put {o : Ow} {d : D} {v : V} {A : AS} {ows' : Ows} (s : SR K pn ows env σ w) (i : Nat) (hp : pn i = none) (ho : ∀ j, j ≠ i → owAt ows' j = owAt ows j) (hoi : owAt ows' i = o) (r : RO K w.H w.Z o d v A)
    (tz : ∀ a, A a → ¬ w.Z a) (tf : ∀ a j, A a → ¬ w.F j a) : SR K pn ows' (setS env i d) (σ.set i (some v)) (w.put i A) where
  len := by rw [List.length_set, s.len]; unfold setS; simp
  at_ := fun j d' h => by
    have hi := getS_lt h
    rcases getS_set h with ⟨rfl, rfl⟩ | ⟨q, h'⟩
    · refine ⟨v, List.getElem?_set_self (by rw [s.len]; simpa [setS] using hi), ?_⟩
      rw [hoi]
      have e : (w.put j A).F j = A := by funext a; simp [Wd.put]
      rw [e]
      exact r
    · obtain ⟨v', h1, h2⟩ := s.at_ j d' h'
      refine ⟨v', by rw [List.getElem?_set_ne (Ne.symm q)]; exact h1, ?_⟩
      rw [ho j q]
      have e : (w.put i A).F j = w.F j := by funext a; simp [Wd.put, q]
      rw [e]
      exact h2
  apart := fun j k a h1 h2 => by
    simp only [Wd.put] at h1 h2
    split at h1 <;> split at h2
    · omega
    · exact absurd h2 (tf a k h1)
    · exact absurd h1 (tf a j h2)
    · exact s.apart j k a h1 h2
  zf := fun j a h z => by
    simp only [Wd.put] at h
    split at h
    · exact tz a h z
    · exact s.zf j a h z
  fm := fun j a h => by
    simp only [Wd.put] at h
    split at h
    · exact r.there a h
    · exact s.fm j a h
  zt := s.zt
  pin := fun j v' h => by
    by_cases q : i = j
    · subst q; rw [hp] at h; cases h
    · rw [List.getElem?_set_ne q]
      refine ⟨(s.pin j v' h).1, fun d hd d' hg => (s.pin j v' h).2 d hd d' ?_⟩
      rcases getS_set hg with ⟨e, _⟩ | ⟨_, e⟩
      · exact absurd e.symm q
      · exact e
theorem Ext.put {A : AS} {i : Nat} (e : Ext w w1) (t : Tmp w w1 A) : Ext w (w1.put i A) where
  z := e.z
  fr := e.fr
  dm := e.dm
  nw := fun j a h => by
    simp only [Wd.put] at h
    split at h
    · exact t.nw a h
    · exact e.nw j a h
  zn := e.zn
  zh := e.zh
end

/-! ### judgements -/
structure Cc where
  K : PySem.W.Frag
  pn : Pin
  x : Ows
  r : Ows
  ro : Ow
  W : WX
/-- nothing that was has changed -/
def Quiet (w w' : Wd) : Prop := ∀ a q, w.H a = some q → w'.H a = some q
def exK (c : Cc) (σ : L2.St) (w : Wd) (n : Str) (env' : Env) : Prop := ∀ w', Ext w w' → SR c.K c.pn c.x env' σ w' → c.W (.ref (He.ga c.K n)) none σ w'.H
/-- an expression, its value to be kept -/
def tV (c : Cc) (f : M D) (ows ows' : Ows) (o : Ow) (qt : Bool) : TE := fun σ H Q => ∃ w env, w.H = H ∧ SR c.K c.pn ows env σ w ∧ match f env with
  | .ok d env' => ∀ w' v A, Ext w w' → SR c.K c.pn ows' env' σ w' → RO c.K w'.H w'.Z o d v A → Tmp w w' A → (qt = true → Quiet w w') → Q v w'.H
  | .ex n env' => exK c σ w n env'
  | .no => False
/-- an expression, its value to be looked at -/
def tR (c : Cc) (f : M D) (ows ows' : Ows) (o : Ow) (qt : Bool) : TE := fun σ H Q => ∃ w env, w.H = H ∧ SR c.K c.pn ows env σ w ∧ match f env with
  | .ok d env' => ∀ w' v A, Ext w w' → SR c.K c.pn ows' env' σ w' → RO c.K w'.H w'.Z o d v A → (qt = true → Quiet w w') → Q v w'.H
  | .ex n env' => exK c σ w n env'
  | .no => False
def tB_ (c : Cc) (f : M Bool) (ows ows' : Ows) (qt : Bool) : TT := fun σ H Q => ∃ w env, w.H = H ∧ SR c.K c.pn ows env σ w ∧ match f env with
  | .ok b env' => ∀ w', Ext w w' → SR c.K c.pn ows' env' σ w' → (qt = true → Quiet w w') → Q b w'.H
  | .ex n env' => exK c σ w n env'
  | .no => False
/-- a state behind; none: never reached -/
def SRq (K : PySem.W.Frag) (pn : Pin) (oo : Option Ows) (env : Env) (σ : L2.St) (w : Wd) : Prop := ∃ o, oo = some o ∧ SR K pn o env σ w
def tS (c : Cc) (f : M Fl) (ows : Ows) (onx obk oct : Option Ows) : TS := fun D σ H => ∃ w env, w.H = H ∧ SR c.K c.pn ows env σ w ∧ match f env with
  | .ok .nx env' => ∀ w' σ', Ext w w' → SRq c.K c.pn onx env' σ' w' → D.nx σ' w'.H
  | .ok .bk env' => ∀ w' σ', Ext w w' → SRq c.K c.pn obk env' σ' w' → D.bk σ' w'.H
  | .ok .ct env' => ∀ w' σ', Ext w w' → SRq c.K c.pn oct env' σ' w' → D.ct σ' w'.H
  | .ok (.rt d) env' => ∀ w' σ' v A, Ext w w' → SR c.K c.pn c.r env' σ' w' → RO c.K w'.H w'.Z c.ro d v A → Tmp w w' A → D.rt v w'.H
  | .ex n env' => ∀ w' σ', Ext w w' → SR c.K c.pn c.x env' σ' w' → c.W (.ref (He.ga c.K n)) none σ' w'.H
  | .no => False
theorem exK.mono {c : Cc} {σ : L2.St} {w w1 : Wd} {n : Str} {e : Env} (x : Ext w w1) (h : exK c σ w n e) : exK c σ w1 n e := fun w' e1 s => h w' (x.trans e1) s

theorem wPE {X : Cx} {e : Expr} {t t' : TE} (h : PE X e t) (k : ∀ σ H Q, t' σ H Q → t σ H Q) : PE X e t' := ⟨fun pins s σ H Q I q => h.run pins s σ H Q I (k σ H Q q)⟩
theorem wPT {X : Cx} {e : Expr} {t t' : TT} (h : PT X e t) (k : ∀ σ H Q, t' σ H Q → t σ H Q) : PT X e t' := ⟨fun pins s σ H Q I q => h.run pins s σ H Q I (k σ H Q q)⟩
theorem wPS {X : Cx} {e : Stmt} {t t' : TS} (h : PS X e t) (k : ∀ D σ H, t' D σ H → t D σ H) : PS X e t' := ⟨fun pins s σ H D I q => h.run pins s σ H D I (k D σ H q)⟩
theorem wPSs {X : Cx} {e : List Stmt} {t t' : TS} (h : PSs X e t) (k : ∀ D σ H, t' D σ H → t D σ H) : PSs X e t' := ⟨fun pins s σ H D I q => h.run pins s σ H D I (k D σ H q)⟩
end Mp
/-! Mp4: operators. -/
namespace Mp
open PySem PySem.Spec PyProof.Rows L2

/-- something new is laid, all else stays -/
structure Alloc (w w' : Wd) (A : AS) : Prop where
  z : w'.Z = w.Z
  f : w'.F = w.F
  h : ∀ a q, w.H a = some q → w'.H a = some q
  n : ∀ a, A a → w.H a = none
section
variable {K : PySem.W.Frag} {pn : Pin} {ows : Ows} {env : Env} {σ : L2.St} {w w' w0 : Wd} {A : AS}
theorem Alloc.refl : Alloc w w (fun _ => False) := ⟨rfl, rfl, fun _ _ e => e, fun _ h => h.elim⟩
theorem Alloc.ext (a : Alloc w w' A) : Ext w w' where
  z := fun _ h => by rw [a.z]; exact h
  fr := fun x o e _ => a.h x o e
  dm := fun x h => by
    cases e : w.H x with
    | none => exact absurd e h
    | some q => rw [a.h x q e]; simp
  nw := fun i x h => by rw [a.f] at h; exact .inl ⟨i, h⟩
  zn := fun x h => by rw [a.z] at h; exact .inl h
  zh := fun k x h => by
    rw [a.z] at h
    cases e : w.H x with
    | none => exact absurd e (k x h)
    | some q => rw [a.h x q e]; simp
theorem Alloc.keep {o : Ow} {d : D} {v : V} {B : AS} (a : Alloc w w' A) (h : RO K w.H w.Z o d v B) : RO K w'.H w'.Z o d v B := h.keep (fun x z => by rw [a.z]; exact z) fun x q e _ => a.h x q e
theorem Alloc.sr (a : Alloc w w' A) (s : SR K pn ows env σ w) : SR K pn ows env σ w' where
  len := s.len
  at_ := fun i d e => by
    obtain ⟨v, h1, h2⟩ := s.at_ i d e
    exact ⟨v, h1, by rw [a.f]; exact a.keep h2⟩
  apart := by rw [a.f]; exact s.apart
  zf := by rw [a.f, a.z]; exact s.zf
  fm := fun i x h => by
    rw [a.f] at h
    obtain ⟨o, e, m⟩ := s.fm i x h
    exact ⟨o, a.h x o e, m⟩
  zt := fun x h => by
    rw [a.z] at h
    cases e : w.H x with
    | none => exact absurd e (s.zt x h)
    | some q => rw [a.h x q e]; simp
  pin := s.pin
theorem Alloc.tmp (a : Alloc w w' A) (s : SR K pn ows env σ w) : Tmp w w' A where
  z := fun x h z => by
    rw [a.z] at z
    exact s.zt x z (a.n x h)
  f := fun x i h z => by
    rw [a.f] at z
    obtain ⟨o, e, _⟩ := s.fm i x z
    rw [a.n x h] at e; cases e
  nw := fun x h => .inr (a.n x h)
theorem Alloc.quiet (a : Alloc w w' A) : Quiet w w' := a.h
def Wd.upd (w : Wd) (p : Addr) (o : HO) : Wd := ⟨w.Z, w.F, L2.upd w.H p o⟩
theorem Alloc.new {p : Addr} {o : HO} (h : w.H p = none) : Alloc w (w.upd p o) (fun a => a = p) where
  z := rfl
  f := rfl
  h := fun a q e => by
    show L2.upd w.H p o a = some q
    rw [upd_ne (ne_of_none e h)]
    exact e
  n := fun a e => by rw [e]; exact h
theorem Alloc.new0 {p : Addr} {o : HO} (h : w.H p = none) : Alloc w (w.upd p o) (fun _ => False) := ⟨rfl, rfl, (Alloc.new h).h, fun _ z => z.elim⟩

theorem RO.rep {o : Ow} {d : D} {v : V} {H : Hp} {Z : AS} (h : RO K H Z o d v A) (h1 : ∀ ds, d ≠ .lst ds) (h2 : ∀ t ks vs, d ≠ .dct t ks vs) : Rep K H Z d v := by
  cases o with
  | fr => exact h.1
  | ow o => exact ((RO.scal h1 h2).mp h).1
theorem RO.of {o : Ow} {d : D} {v : V} {H : Hp} {Z : AS} (h : Rep K H Z d v) (h1 : ∀ ds, d ≠ .lst ds) (h2 : ∀ t ks vs, d ≠ .dct t ks vs) : RO K H Z o d v (fun _ => False) := by
  cases o with
  | fr => exact ⟨h, fun _ z => z⟩
  | ow o => exact (RO.scal h1 h2).mpr ⟨h, fun _ z => z⟩
section
variable {o : Ow} {v : V} {H : Hp} {Z : AS}
theorem RO.int {i : Int} (h : RO K H Z o (.int i) v A) : v = .int i := h.rep (fun _ q => by cases q) (fun _ _ _ q => by cases q)
theorem RO.bl {i : Bool} (h : RO K H Z o (.bl i) v A) : v = .bl i := h.rep (fun _ q => by cases q) (fun _ _ _ q => by cases q)
theorem RO.str {i : Str} (h : RO K H Z o (.str i) v A) : v = .str i := h.rep (fun _ q => by cases q) (fun _ _ _ q => by cases q)
theorem RO.non (h : RO K H Z o .non v A) : v = .non := h.rep (fun _ q => by cases q) (fun _ _ _ q => by cases q)
theorem RO.tup {ds : List D} (h : RO K H Z o (.tup ds) v A) : ∃ a xs, v = .ref a ∧ SqT K H a xs ∧ Reps K H Z ds xs := h.rep (fun _ q => by cases q) (fun _ _ _ q => by cases q)
theorem RO.rol {ds : List D} (h : RO K H Z o (.rol ds) v A) : ∃ a xs, v = .ref a ∧ RdL K H a xs ∧ Reps K H Z ds xs := h.rep (fun _ q => by cases q) (fun _ _ _ q => by cases q)
theorem RO.lst {ds : List D} (h : RO K H Z o (.lst ds) v A) : ∃ a xs, v = .ref a ∧ H a = some (.lst xs) ∧ xs.length = ds.length := by
  cases o with
  | fr =>
    obtain ⟨a, xs, e, h1, h2⟩ := (show ∃ a xs, v = V.ref a ∧ FzL H Z a xs ∧ Reps K H Z ds xs from h.1)
    exact ⟨a, xs, e, h1.2, h2.len⟩
  | ow o =>
    obtain ⟨a, xs, B, G, e, h1, I, _⟩ := h
    exact ⟨a, xs, e, h1, I.len⟩
end
theorem RO.mkint {o : Ow} {i : Int} {H : Hp} {Z : AS} : RO K H Z o (.int i) (.int i) (fun _ => False) := RO.of rfl (fun _ q => by cases q) (fun _ _ _ q => by cases q)
theorem RO.mkbl {o : Ow} {i : Bool} {H : Hp} {Z : AS} : RO K H Z o (.bl i) (.bl i) (fun _ => False) := RO.of rfl (fun _ q => by cases q) (fun _ _ _ q => by cases q)
theorem RO.mkstr {o : Ow} {i : Str} {H : Hp} {Z : AS} : RO K H Z o (.str i) (.str i) (fun _ => False) := RO.of rfl (fun _ q => by cases q) (fun _ _ _ q => by cases q)
theorem RO.mknon {o : Ow} {H : Hp} {Z : AS} : RO K H Z o .non .non (fun _ => False) := RO.of rfl (fun _ q => by cases q) (fun _ _ _ q => by cases q)
theorem RO.mktup {o : Ow} {H : Hp} {Z : AS} {ds : List D} {a : Addr} {xs : List V} (h : SqT K H a xs) (r : Reps K H Z ds xs) : RO K H Z o (.tup ds) (.ref a) (fun _ => False) := RO.of ⟨a, xs, rfl, h, r⟩ (fun _ q => by cases q) (fun _ _ _ q => by cases q)
/-- items at hand may be read as frozen data -/
def shal : Ow → Bool
  | .fr => true
  | .ow .fr => true
  | _ => false
theorem RO.lstR {o : Ow} {ds : List D} {v : V} {H : Hp} {Z : AS} (sh : shal o = true) (h : RO K H Z o (.lst ds) v A) : ∃ a xs, v = .ref a ∧ H a = some (.lst xs) ∧ Reps K H Z ds xs := by
  cases o with
  | fr =>
    obtain ⟨a, xs, e, h1, h2⟩ := (show ∃ a xs, v = V.ref a ∧ FzL H Z a xs ∧ Reps K H Z ds xs from h.1)
    exact ⟨a, xs, e, h1.2, h2⟩
  | ow o =>
    cases o with
    | fr =>
      obtain ⟨a, xs, B, G, e, h1, I, _⟩ := h
      exact ⟨a, xs, e, h1, Reps.of I.len fun k d x e1 e2 => (I.at_ k d x e1 e2).1⟩
    | ow o => cases sh
theorem Items.nil {R : D → V → AS → Prop} : Items R [] [] (fun _ => False) (fun _ _ => False) := ⟨rfl, fun _ _ _ e => by simp at e, fun _ _ _ h => h.elim, fun b => ⟨fun h => h.elim, fun ⟨k, h, _⟩ => by simp at h⟩⟩
theorem Items.frs {H : Hp} {Z : AS} {ds : List D} {xs : List V} (h : Reps K H Z ds xs) : Items (RO K H Z .fr) ds xs (fun _ => False) (fun _ _ => False) :=
  ⟨h.len, fun k d x e1 e2 => by
    obtain ⟨y, e3, r⟩ := h.get e1
    rw [e2] at e3; cases e3
    exact ⟨r, fun _ z => z⟩, fun _ _ _ z => z.elim, fun b => ⟨fun z => z.elim, fun ⟨_, _, z⟩ => z.elim⟩⟩
theorem RO.newl {p : Addr} {ds : List D} {xs : List V} (hp : w.H p = none) (r : Reps K w.H w.Z ds xs) : RO K (w.upd p (.lst xs)).H (w.upd p (.lst xs)).Z (.ow .fr) (.lst ds) (.ref p) (fun a => a = p) := by
  have a := Alloc.new (w := w) (o := .lst xs) hp
  have r' : Reps K (w.upd p (.lst xs)).H (w.upd p (.lst xs)).Z ds xs := r.mono (fun _ z => z) fun x q e _ => a.h x q e
  exact ⟨p, xs, fun _ => False, fun _ _ => False, rfl, upd_same, Items.frs r', fun z => z, fun b => ⟨.inl, fun z => z.elim id False.elim⟩⟩
theorem RO.newt {o : Ow} {p : Addr} {ds : List D} {xs : List V} (hp : w.H p = none) (r : Reps K w.H w.Z ds xs) : RO K (w.upd p (.tup xs)).H (w.upd p (.tup xs)).Z o (.tup ds) (.ref p) (fun _ => False) := by
  have a := Alloc.new (w := w) (o := .tup xs) hp
  have r' : Reps K (w.upd p (.tup xs)).H (w.upd p (.tup xs)).Z ds xs := r.mono (fun _ z => z) fun x q e _ => a.h x q e
  exact RO.mktup (SqT.of upd_same) r'
theorem Reps.append {H : Hp} {Z : AS} : ∀ {ds es : List D} {xs ys : List V}, Reps K H Z ds xs → Reps K H Z es ys → Reps K H Z (ds ++ es) (xs ++ ys)
  | [], _, _, _, h, g => by unfold Reps at h; subst h; exact g
  | d :: ds, es, xs, ys, h, g => by
    unfold Reps at h
    obtain ⟨x, r, rfl, h1, h2⟩ := h
    show Reps K H Z (d :: (ds ++ es)) (x :: (r ++ ys))
    unfold Reps
    exact ⟨x, _, rfl, h1, Reps.append h2 g⟩
theorem sz_eq : SZ = sizeLine := by rw [sizeLine_eq]; rfl
end

/-! ### two operands -/
/-- the rule r gives what g says -/
def Ok2 (K : PySem.W.Frag) (g : D → D → Option D) (o : Ow) (r : R2) (o1 o2 : Ow) : Prop := ∀ (w : Wd) (d1 d2 : D) (v1 v2 : V) (A1 A2 : AS) (d : D) (Q : VK), RO K w.H w.Z o1 d1 v1 A1 → RO K w.H w.Z o2 d2 v2 A2 → g d1 d2 = some d →
  (∀ w' v A, Alloc w w' A → RO K w'.H w'.Z o d v A → Q v w'.H) → r v1 v2 w.H Q
theorem ok2_imp {c : Cc} {fa fb : M D} {ows ows1 ows2 : Ows} {o o1 o2 : Ow} {q1 : Bool} {g : D → D → Option D} {r : R2} (k : Ok2 c.K g o r o1 o2) : ∀ σ H Q, tV c (op2 g fa fb) ows ows2 o q1 σ H Q → tOp r (tR c fa ows ows1 o1 q1) (tR c fb ows1 ows2 o2 true) σ H Q := by
  intro σ H Q ⟨w, env, hw, sr, h⟩
  refine ⟨w, env, hw, sr, ?_⟩
  unfold op2 M.bind at h
  cases e1 : fa env with
  | no => rw [e1] at h; exact h
  | ex n env1 => rw [e1] at h; exact h
  | ok d1 env1 =>
    rw [e1] at h
    intro w1 v1 A1 x1 s1 r1 z1
    refine ⟨w1, env1, rfl, s1, ?_⟩
    simp only at h
    cases e2 : fb env1 with
    | no => rw [e2] at h; exact h
    | ex n env2 => rw [e2] at h; exact exK.mono x1 h
    | ok d2 env2 =>
      rw [e2] at h
      intro w2 v2 A2 x2 s2 r2 z2
      have r1' : RO c.K w2.H w2.Z o1 d1 v1 A1 := r1.keep x2.z fun a q e _ => z2 rfl a q e
      simp only [M.opt] at h
      cases e3 : g d1 d2 with
      | none => rw [e3] at h; exact h.elim
      | some d =>
        rw [e3] at h
        refine k w2 d1 d2 v1 v2 A1 A2 d Q r1' r2 e3 fun w3 v A al ro => ?_
        exact h w3 v A ((x1.trans x2).trans al.ext) (al.sr s2) ro ((al.tmp s2).pre (x1.trans x2)) fun q => fun a b e => al.h a b (z2 rfl a b (z1 q a b e))
theorem pe_ok2 {X : Cx} {c : Cc} {a b pe : Expr} {fa fb : M D} {ows ows1 ows2 : Ows} {o o1 o2 : Ow} {q1 : Bool} {g : D → D → Option D} {r : R2} (ha : PE X a (tR c fa ows ows1 o1 q1)) (hb : PE X b (tR c fb ows1 ows2 o2 true))
    (hop : ∀ {ta tb : TE}, PE X a ta → PE X b tb → PE X pe (tOp r ta tb)) (k : Ok2 c.K g o r o1 o2) : PE X pe (tV c (op2 g fa fb) ows ows2 o q1) := wPE (hop ha hb) (ok2_imp k)
theorem Ok2.or1 {K : PySem.W.Frag} {g : D → D → Option D} {o o1 o2 : Ow} {r r' : R2} (h : ∀ (w : Wd) (d1 d2 : D) (v1 v2 : V) (A1 A2 : AS) (d : D) (Q : VK), RO K w.H w.Z o1 d1 v1 A1 → RO K w.H w.Z o2 d2 v2 A2 → g d1 d2 = some d →
    (∀ w' v A, Alloc w w' A → RO K w'.H w'.Z o d v A → Q v w'.H) → r v1 v2 w.H Q ∨ r' v1 v2 w.H Q) : Ok2 K g o (fun x y H Q => r x y H Q ∨ r' x y H Q) o1 o2 := h

section
variable {X : Cx} {o1 o2 : Ow}
/-- a value that hangs on nothing -/
theorem fin_int {K : PySem.W.Frag} {w : Wd} {o : Ow} {d : D} {i : Int} {Q : VK} (e : D.int i = d) (k : ∀ w' v A, Alloc w w' A → RO K w'.H w'.Z o d v A → Q v w'.H) : Q (.int i) w.H := by
  subst e; exact k w _ _ Alloc.refl RO.mkint
theorem fin_bl {K : PySem.W.Frag} {w : Wd} {o : Ow} {d : D} {i : Bool} {Q : VK} (e : D.bl i = d) (k : ∀ w' v A, Alloc w w' A → RO K w'.H w'.Z o d v A → Q v w'.H) : Q (.bl i) w.H := by
  subst e; exact k w _ _ Alloc.refl RO.mkbl
theorem fin_str {K : PySem.W.Frag} {w : Wd} {o : Ow} {d : D} {i : Str} {Q : VK} (e : D.str i = d) (k : ∀ w' v A, Alloc w w' A → RO K w'.H w'.Z o d v A → Q v w'.H) : Q (.str i) w.H := by
  subst e; exact k w _ _ Alloc.refl RO.mkstr

abbrev rAddS : R2 := fun x y H Q => ∃ i j, x = .str i ∧ y = .str j ∧ i.length + j.length ≤ sizeLine ∧ Q (.str (i ++ j)) H
abbrev rAddA (K : PySem.W.Frag) : R2 := fun x y H Q => rI0 (fun i j => .int (i + j)) x y H Q ∨ rAddS x y H Q ∨ rCat x y H Q ∨ rCatA K x y H Q
theorem op_addA : OpR X (binaryOp .Add) (rAddA X.K) := op_add.or (op_add_str.or (op_cat.or op_catA))
theorem ok_add {K : PySem.W.Frag} (s1 : shal o1 = true) (s2 : shal o2 = true) : Ok2 K (binD .add) (.ow .fr) (rAddA K) o1 o2 := by
  intro w d1 d2 v1 v2 A1 A2 d Q r1 r2 e k
  have e' : addD d1 d2 = some d := e
  unfold addD at e'
  split at e'
  · cases e'
    exact .inl ⟨_, _, r1.int, r2.int, fin_int rfl k⟩
  · split at e'
    · rename_i hl
      cases e'
      exact .inr (.inl ⟨_, _, r1.str, r2.str, by rw [← sz_eq]; exact hl, fin_str rfl k⟩)
    · cases e'
  · split at e'
    · rename_i hl
      cases e'
      obtain ⟨a, xs, rfl, h1, q1⟩ := r1.lstR s1
      obtain ⟨b, ys, rfl, h2, q2⟩ := r2.lstR s2
      refine .inr (.inr (.inl ⟨a, b, xs, ys, rfl, rfl, h1, h2, by rw [q1.len, q2.len, ← sz_eq]; exact hl, fun p hp => ?_⟩))
      exact k (w.upd p (.lst (xs ++ ys))) _ _ (Alloc.new hp) (RO.newl hp (q1.append q2))
    · cases e'
  · split at e'
    · rename_i hl
      cases e'
      obtain ⟨a, xs, rfl, h1, q1⟩ := r1.tup
      obtain ⟨b, ys, rfl, h2, q2⟩ := r2.tup
      refine .inr (.inr (.inr ⟨a, b, xs, ys, rfl, rfl, h1, h2, by rw [q1.len, q2.len, ← sz_eq]; exact hl, fun e => ?_, fun _ e => ?_, fun _ _ p hp => ?_⟩))
      · subst e
        have e2 := List.eq_nil_of_length_eq_zero (q1.len.symm.trans rfl)
        subst e2
        exact k w _ _ Alloc.refl (RO.mktup h2 q2)
      · subst e
        have e2 := List.eq_nil_of_length_eq_zero (q2.len.symm.trans rfl)
        subst e2
        rw [List.append_nil] at k
        exact k w _ _ Alloc.refl (RO.mktup h1 q1)
      · exact k (w.upd p (.tup (xs ++ ys))) _ _ (Alloc.new0 hp) (RO.newt hp (q1.append q2))
    · cases e'
  · cases e'

theorem ok_sub {K : PySem.W.Frag} : Ok2 K (binD .sub) (.ow .fr) (rI0 fun i j => .int (i - j)) o1 o2 := by
  intro w d1 d2 v1 v2 A1 A2 d Q r1 r2 e k
  cases d1 <;> cases d2 <;> simp only [binD, reduceCtorEq, Option.some.injEq] at e
  exact ⟨_, _, r1.int, r2.int, fin_int e k⟩
abbrev rMulA : R2 := fun x y H Q => rI CMul (fun i j => .int (i * j)) x y H Q ∨ rRep x y H Q
theorem op_mulA : OpR X (binaryOp .Mult) rMulA := op_mul.or op_rep
theorem w64_ok {i j : Int} (h : (W64 i || W64 j) = true) : CMul i j := by
  unfold W64 at h
  simp only [Bool.or_eq_true, Bool.and_eq_true, decide_eq_true_eq] at h
  unfold CMul
  have e : (2 : Int) ^ 64 = 18446744073709551616 := by decide
  rw [e]
  exact h
theorem Reps.rep {K : PySem.W.Frag} {H : Hp} {Z : AS} {ds : List D} {xs : List V} (h : Reps K H Z ds xs) : ∀ n : Nat, Reps K H Z (List.replicate n ds).flatten (List.replicate n xs).flatten
  | 0 => by simp [Reps]
  | n + 1 => by
    rw [List.replicate_succ, List.replicate_succ, List.flatten_cons, List.flatten_cons]
    exact h.append (Reps.rep h n)
theorem ok_mul {K : PySem.W.Frag} (s1 : shal o1 = true) : Ok2 K (binD .mul) (.ow .fr) rMulA o1 o2 := by
  intro w d1 d2 v1 v2 A1 A2 d Q r1 r2 e k
  cases d1 <;> cases d2 <;> simp only [binD, reduceCtorEq] at e
  · split at e
    · rename_i hw
      cases e
      exact .inl ⟨_, _, r1.int, r2.int, w64_ok hw, fin_int rfl k⟩
    · cases e
  · split at e
    · rename_i xs i hw
      simp only [Bool.and_eq_true, decide_eq_true_eq] at hw
      cases e
      obtain ⟨a, ys, rfl, h1, q1⟩ := r1.lstR s1
      refine .inr ⟨a, i, ys, rfl, r2.int, h1, by have := hw.1.1; omega, by have := hw.1.2; omega, by rw [q1.len, ← sz_eq]; exact hw.2, fun p hp => ?_⟩
      exact k (w.upd p (.lst (List.replicate i.toNat ys).flatten)) _ _ (Alloc.new hp) (RO.newl hp (q1.rep _))
    · cases e
theorem ok_fdiv {K : PySem.W.Frag} : Ok2 K (binD .fdiv) (.ow .fr) (rI CDiv fun i j => .int (i / j)) o1 o2 := by
  intro w d1 d2 v1 v2 A1 A2 d Q r1 r2 e k
  cases d1 <;> cases d2 <;> simp only [binD, reduceCtorEq] at e
  split at e
  · rename_i hw
    cases e
    exact ⟨_, _, r1.int, r2.int, hw, fin_int rfl k⟩
  · cases e
theorem ok_mod {K : PySem.W.Frag} : Ok2 K (binD .mod) (.ow .fr) (rI (fun _ j => 0 < j) fun i j => .int (i % j)) o1 o2 := by
  intro w d1 d2 v1 v2 A1 A2 d Q r1 r2 e k
  cases d1 <;> cases d2 <;> simp only [binD, reduceCtorEq] at e
  split at e
  · rename_i hw
    cases e
    exact ⟨_, _, r1.int, r2.int, hw, fin_int rfl k⟩
  · cases e
theorem ok_pow {K : PySem.W.Frag} : Ok2 K (binD .pow) (.ow .fr) (rI CPow fun i j => .int (i ^ j.toNat)) o1 o2 := by
  intro w d1 d2 v1 v2 A1 A2 d Q r1 r2 e k
  cases d1 <;> cases d2 <;> simp only [binD, reduceCtorEq] at e
  split at e
  · rename_i hw
    cases e
    exact ⟨_, _, r1.int, r2.int, ⟨hw.1, by have := hw.2.1; omega, by have := hw.2.2; omega⟩, fin_int rfl k⟩
  · cases e

/-! ### comparisons -/
mutual
theorem Rep.dp {K : PySem.W.Frag} {H : Hp} {Z : AS} : ∀ {d : D} {v : V}, d.toP.canLay0 = true → Rep K H Z d v → Dp K H v d.toP
  | .non, _, _, h => by unfold Rep at h; subst h; exact .non
  | .bl b, _, _, h => by unfold Rep at h; subst h; exact .bl b
  | .int i, _, _, h => by unfold Rep at h; subst h; exact .int i
  | .str x, _, _, h => by unfold Rep at h; subst h; exact .str x
  | .tup ds, _, c, h => by
    unfold Rep at h
    obtain ⟨a, xs, rfl, h1, h2⟩ := h
    unfold D.toP at c ⊢
    exact .tup h1 (Reps.dp (by simpa [PyData.canLay0] using c) h2)
  | .lst ds, _, c, h => by
    unfold Rep at h
    obtain ⟨a, xs, rfl, h1, h2⟩ := h
    unfold D.toP at c ⊢
    exact .lst (SqL.of h1.2) (Reps.dp (by simpa [PyData.canLay0] using c) h2)
  | .rol ds, _, c, h => by simp [D.toP, PyData.canLay0] at c
  | .dct _ _ _, _, c, h => by simp [D.toP, PyData.canLay0] at c
  | .exc _, _, c, h => by simp [D.toP, PyData.canLay0] at c
theorem Reps.dp {K : PySem.W.Frag} {H : Hp} {Z : AS} : ∀ {ds : List D} {xs : List V}, PyData.canLayAll0 (D.toPs ds) = true → Reps K H Z ds xs → DpAll K H xs (D.toPs ds)
  | [], _, _, h => by unfold Reps at h; subst h; exact .nil
  | d :: ds, _, c, h => by
    unfold Reps at h
    obtain ⟨x, r, rfl, h1, h2⟩ := h
    unfold D.toPs at c ⊢
    simp only [PyData.canLayAll0, Bool.and_eq_true] at c
    exact .cons (Rep.dp c.1 h1) (Reps.dp c.2 h2)
end
theorem RO.dp {K : PySem.W.Frag} {H : Hp} {Z : AS} {o : Ow} {d : D} {v : V} {A : AS} (h : RO K H Z o d v A) (c : d.shp = true) : Dp K H v d.toP := h.fz.dp (SeqAt.canLay_of_shaped c)
theorem eqD_some {a b : D} {k : Bool} (h : eqD a b = some k) : a.shp = true ∧ b.shp = true ∧ k = PyData.eqv a.toP b.toP := by
  unfold eqD at h
  split at h
  · rename_i hs
    simp only [Bool.and_eq_true] at hs
    exact ⟨hs.1, hs.2, (Option.some.inj h).symm⟩
  · cases h
theorem map_bl {o : Option Bool} {d : D} (h : o.map D.bl = some d) : ∃ k, o = some k ∧ d = .bl k := by
  cases o with
  | none => cases h
  | some k => exact ⟨k, rfl, (Option.some.inj h).symm⟩
abbrev cmpM (o : CO) : D → D → Option D := fun x y => (cmpD o x y).map .bl
theorem ok_eq {K : PySem.W.Frag} : Ok2 K (cmpM .eq) (.ow .fr) (rEqD K) o1 o2 := by
  intro w d1 d2 v1 v2 A1 A2 d Q r1 r2 e k
  obtain ⟨b, e1, rfl⟩ := map_bl e
  obtain ⟨s1, s2, rfl⟩ := eqD_some (show eqD d1 d2 = some b from e1)
  exact ⟨_, _, r1.dp s1, r2.dp s2, s1, s2, fin_bl rfl k⟩
theorem ok_ne {K : PySem.W.Frag} : Ok2 K (cmpM .ne) (.ow .fr) (rNeD K) o1 o2 := by
  intro w d1 d2 v1 v2 A1 A2 d Q r1 r2 e k
  obtain ⟨b, e1, rfl⟩ := map_bl e
  obtain ⟨b', e2, rfl⟩ := Option.map_eq_some_iff.mp (show (eqD d1 d2).map (!·) = some b from e1)
  obtain ⟨s1, s2, rfl⟩ := eqD_some e2
  exact ⟨_, _, r1.dp s1, r2.dp s2, s1, s2, fin_bl rfl k⟩
theorem ints_reps {K : PySem.W.Frag} {H : Hp} {Z : AS} : ∀ {ds : List D} {xs : List V} {ns : List Int}, D.ints ds = some ns → Reps K H Z ds xs → xs = ns.map V.int ∧ ds = ns.map D.int
  | [], xs, ns, e, h => by
    unfold Reps at h
    subst h
    simp only [D.ints, Option.some.injEq] at e
    subst e
    exact ⟨rfl, rfl⟩
  | d :: ds, xs, ns, e, h => by
    unfold Reps at h
    obtain ⟨x, r, rfl, h1, h2⟩ := h
    cases d <;> simp only [D.ints, reduceCtorEq] at e
    obtain ⟨ms, e1, rfl⟩ := Option.map_eq_some_iff.mp e
    obtain ⟨q1, q2⟩ := ints_reps e1 h2
    unfold Rep at h1
    subst h1 q1 q2
    exact ⟨rfl, rfl⟩
theorem strs_reps {K : PySem.W.Frag} {H : Hp} {Z : AS} : ∀ {ds : List D} {xs : List V} {ns : List Str}, D.strs ds = some ns → Reps K H Z ds xs → xs = ns.map V.str ∧ ds = ns.map D.str
  | [], xs, ns, e, h => by
    unfold Reps at h
    subst h
    simp only [D.strs, Option.some.injEq] at e
    subst e
    exact ⟨rfl, rfl⟩
  | d :: ds, xs, ns, e, h => by
    unfold Reps at h
    obtain ⟨x, r, rfl, h1, h2⟩ := h
    cases d <;> simp only [D.strs, reduceCtorEq] at e
    obtain ⟨ms, e1, rfl⟩ := Option.map_eq_some_iff.mp e
    obtain ⟨q1, q2⟩ := strs_reps e1 h2
    unfold Rep at h1
    subst h1 q1 q2
    exact ⟨rfl, rfl⟩
/-- ints, texts, tuples of ints by an order -/
def rOrd (K : PySem.W.Frag) (f : Int → Int → Bool) (g : Str → Str → Bool) (h : List Int → List Int → Bool) : R2 := fun x y H Q =>
  (∃ i j, x = .int i ∧ y = .int j ∧ Q (.bl (f i j)) H) ∨ (∃ i j, x = .str i ∧ y = .str j ∧ Q (.bl (g i j)) H) ∨
  ∃ a b ns ms, x = .ref a ∧ y = .ref b ∧ SqT K H a (ns.map V.int) ∧ SqT K H b (ms.map V.int) ∧ Q (.bl (h ns ms)) H
theorem lex_at (ns ms : List Int) (r : Int → Int → Bool) (zz : Bool) (neg : Bool) (hr : ∀ x y : Int, x ≠ y → r x y = (neg ^^ decide (x < y))) (hz : zz = (neg ^^ decide (ns.length < ms.length))) :
    ∀ (k i : Nat), i + k = min ns.length ms.length → Ob.lexAt (fun j => decide (ns.getD j 0 = ms.getD j 0)) (fun j => r (ns.getD j 0) (ms.getD j 0)) zz i k = (neg ^^ HT.lexLt (ns.drop i) (ms.drop i))
  | 0, i, h => by
    rw [Ob.lexAt_zero, hz]
    congr 1
    by_cases q : ns.length ≤ i
    · rw [List.drop_of_length_le q]
      by_cases q2 : ms.length ≤ i
      · rw [List.drop_of_length_le q2, HT.lexLt_nil_nil, decide_eq_false (by omega)]
      · rw [List.drop_eq_getElem_cons (by omega : i < ms.length), HT.lexLt_nil_cons, decide_eq_true (by omega)]
    · rw [List.drop_eq_getElem_cons (by omega : i < ns.length), List.drop_of_length_le (by omega : ms.length ≤ i), HT.lexLt_cons_nil, decide_eq_false (by omega)]
  | k + 1, i, h => by
    have h1 : i < ns.length := by omega
    have h2 : i < ms.length := by omega
    rw [Ob.lexAt_succ, List.drop_eq_getElem_cons h1, List.drop_eq_getElem_cons h2, HT.lexLt_cons]
    have e1 : ns.getD i 0 = ns[i] := by simp [List.getD_eq_getElem?_getD, List.getElem?_eq_getElem h1]
    have e2 : ms.getD i 0 = ms[i] := by simp [List.getD_eq_getElem?_getD, List.getElem?_eq_getElem h2]
    rw [e1, e2]
    by_cases q : ns[i] = ms[i]
    · rw [if_pos q, decide_eq_true q, if_pos rfl]
      exact lex_at ns ms r zz neg hr hz k (i + 1) (by omega)
    · rw [if_neg q, decide_eq_false q, if_neg Bool.false_ne_true, hr _ _ q]
theorem tup_pairs {X : Cx} {pins : List (Addr × Obj)} {s : Shared} {σ : L2.St} {H : Hp} {a : Addr} {ns : List Int} (I : Inv X pins σ H s) (ha : SqT X.K H a (ns.map V.int)) :
    ∃ its : Array Value, s.heap.IsTuple a its ∧ its.size = ns.length ∧ ∀ j (h : j < its.size), ∃ t, its[j] = .int (ns.getD j 0) t := by
  obtain ⟨us, rv, tp, _⟩ := I.tuple ha
  have ia : IntsAre us ns := Vals.ints rv
  exact ⟨us.toArray, tp, by rw [List.size_toArray]; exact ia.length, fun j h => PyProof.Rows.IntsAre.int_at ia _ _ (by simp at h; simp [h])⟩
theorem eq_at {A : Around} {s : Shared} {x y : Int} {t u : Tok} : SeqAt.EqAt A s (.int x t) (.int y u) (decide (x = y)) := by
  have z : decide (x = y) = (x == y) := rfl
  rw [z]
  exact SeqAt.EqAt.int_int _ _ _ _
theorem xor_true {b : Bool} : (true ^^ b) = !b := by cases b <;> rfl
theorem xor_false {b : Bool} : (false ^^ b) = b := by cases b <;> rfl
/-- the four orders -/
theorem op_ord {X : Cx} {op : CmpOp} (neg : Bool) {f : Int → Int → Bool} {g : Str → Str → Bool} (hf : OpR X (compareOp op) (rI0 fun i j => .bl (f i j))) (hg : OpR X (compareOp op) (fun x y H Q => ∃ i j, x = .str i ∧ y = .str j ∧ Q (.bl (g i j)) H))
    (ht : ∀ (pins : List (Addr × Obj)) (s : Shared) (σ : L2.St) (H : Hp) (a b : Addr) (ns ms : List Int) (Q : Value → Shared → Prop), Inv X pins σ H s → SqT X.K H a (ns.map V.int) → SqT X.K H b (ms.map V.int) →
      Q (.bool (neg ^^ HT.lexLt ns ms)) s → wpAny (model X.prog X.w) X.A (compareOp op (.ref a) (.ref b)) Q X.xe s) :
    OpR X (compareOp op) (rOrd X.K f g fun ns ms => neg ^^ HT.lexLt ns ms) := by
  intro pins s σ H x y v u Q I rx ry h
  rcases h with h | h | ⟨a, b, ns, ms, rfl, rfl, ha, hb, q⟩
  · exact hf pins s σ H x y v u Q I rx ry h
  · exact hg pins s σ H x y v u Q I rx ry h
  · cases rx
    cases ry
    exact ht pins s σ H a b ns ms _ I ha hb ⟨.bl _, H, I, rfl, q⟩
theorem op_ltA (hu : X.A.units < cLine) : OpR X (compareOp .Lt) (rOrd X.K (fun i j => decide (i < j)) (fun i j => decide (i.cps.toList < j.cps.toList)) fun ns ms => false ^^ HT.lexLt ns ms) :=
  op_ord false op_lt op_lt_str fun pins s σ H a b ns ms Q I ha hb q => by
    obtain ⟨ia, ta, za, ga⟩ := tup_pairs I ha
    obtain ⟨ib, tb, zb, gb⟩ := tup_pairs I hb
    have RR := Ob.RcOp.tuples_lt (A := X.A) (s := s) (e := fun j => decide (ns.getD j 0 = ms.getD j 0)) (r := fun j => decide (ns.getD j 0 < ms.getD j 0)) ta tb hu (fun j p1 p2 => by
      obtain ⟨t, e1⟩ := ga j p1
      obtain ⟨t2, e2⟩ := gb j p2
      rw [e1, e2]; exact eq_at) (fun j p1 p2 _ => by
      obtain ⟨t, e1⟩ := ga j p1
      obtain ⟨t2, e2⟩ := gb j p2
      rw [e1, e2]; exact Ob.RcOp.lt_int _ _ _ _)
    refine RR X.prog X.w _ _ ?_
    rw [za, zb, lex_at ns ms (fun x y => decide (x < y)) _ false (fun x y _ => by rw [xor_false]) (by rw [xor_false]) _ 0 (by omega)]
    exact q
theorem lex_sw (ns ms : List Int) (r : Nat → Bool) (z : Bool) (i k : Nat) : Ob.lexAt (fun j => decide (ns.getD j 0 = ms.getD j 0)) r z i k = Ob.lexAt (fun j => decide (ms.getD j 0 = ns.getD j 0)) r z i k := by
  congr 1
  funext j
  exact decide_eq_decide.mpr ⟨Eq.symm, Eq.symm⟩
theorem op_geA (hu : X.A.units < cLine) : OpR X (compareOp .GtE) (rOrd X.K (fun i j => decide (j ≤ i)) (fun i j => !decide (i.cps.toList < j.cps.toList)) fun ns ms => true ^^ HT.lexLt ns ms) :=
  op_ord true op_ge op_ge_str fun pins s σ H a b ns ms Q I ha hb q => by
    obtain ⟨ia, ta, za, ga⟩ := tup_pairs I ha
    obtain ⟨ib, tb, zb, gb⟩ := tup_pairs I hb
    have RR := Ob.RcOp.tuples_ge (A := X.A) (s := s) (e := fun j => decide (ns.getD j 0 = ms.getD j 0)) (r := fun j => decide (ms.getD j 0 ≤ ns.getD j 0)) ta tb hu (fun j p1 p2 => by
      obtain ⟨t, e1⟩ := ga j p1
      obtain ⟨t2, e2⟩ := gb j p2
      rw [e1, e2]; exact eq_at) (fun j p1 p2 _ => by
      obtain ⟨t, e1⟩ := ga j p1
      obtain ⟨t2, e2⟩ := gb j p2
      rw [e1, e2]; exact Ob.RcOp.ge_int _ _ _ _)
    refine RR X.prog X.w _ _ ?_
    rw [za, zb, lex_at ns ms (fun x y => decide (y ≤ x)) _ true (fun x y _ => by
      rw [xor_true]
      by_cases q : x < y
      · rw [decide_eq_true q, decide_eq_false (by omega)]; rfl
      · rw [decide_eq_false q, decide_eq_true (by omega)]; rfl) (by
      rw [xor_true]
      by_cases q : ns.length < ms.length
      · rw [decide_eq_true q, decide_eq_false (by omega)]; rfl
      · rw [decide_eq_false q, decide_eq_true (by omega)]; rfl) _ 0 (by omega)]
    exact q
/-- .. the other way round -/
theorem op_ordS {op : CmpOp} (neg : Bool) {f : Int → Int → Bool} {g : Str → Str → Bool} (hf : OpR X (compareOp op) (rI0 fun i j => .bl (f i j))) (hg : OpR X (compareOp op) (fun x y H Q => ∃ i j, x = .str i ∧ y = .str j ∧ Q (.bl (g i j)) H))
    (ht : ∀ (pins : List (Addr × Obj)) (s : Shared) (σ : L2.St) (H : Hp) (a b : Addr) (ns ms : List Int) (Q : Value → Shared → Prop), Inv X pins σ H s → SqT X.K H a (ns.map V.int) → SqT X.K H b (ms.map V.int) →
      Q (.bool (neg ^^ HT.lexLt ms ns)) s → wpAny (model X.prog X.w) X.A (compareOp op (.ref a) (.ref b)) Q X.xe s) :
    OpR X (compareOp op) (rOrd X.K f g fun ns ms => neg ^^ HT.lexLt ms ns) := by
  intro pins s σ H x y v u Q I rx ry h
  rcases h with h | h | ⟨a, b, ns, ms, rfl, rfl, ha, hb, q⟩
  · exact hf pins s σ H x y v u Q I rx ry h
  · exact hg pins s σ H x y v u Q I rx ry h
  · cases rx
    cases ry
    exact ht pins s σ H a b ns ms _ I ha hb ⟨.bl _, H, I, rfl, q⟩
theorem op_gtA (hu : X.A.units < cLine) : OpR X (compareOp .Gt) (rOrd X.K (fun i j => decide (j < i)) (fun i j => decide (j.cps.toList < i.cps.toList)) fun ns ms => false ^^ HT.lexLt ms ns) :=
  op_ordS false op_gt op_gt_str fun pins s σ H a b ns ms Q I ha hb q => by
    obtain ⟨ia, ta, za, ga⟩ := tup_pairs I ha
    obtain ⟨ib, tb, zb, gb⟩ := tup_pairs I hb
    have RR := Ob.RcOp.tuples_gt (A := X.A) (s := s) (e := fun j => decide (ns.getD j 0 = ms.getD j 0)) (r := fun j => decide (ms.getD j 0 < ns.getD j 0)) ta tb hu (fun j p1 p2 => by
      obtain ⟨t, e1⟩ := ga j p1
      obtain ⟨t2, e2⟩ := gb j p2
      rw [e1, e2]; exact eq_at) (fun j p1 p2 _ => by
      obtain ⟨t, e1⟩ := ga j p1
      obtain ⟨t2, e2⟩ := gb j p2
      rw [e1, e2]; exact Ob.RcOp.gt_int _ _ _ _)
    refine RR X.prog X.w _ _ ?_
    rw [za, zb, lex_sw, lex_at ms ns (fun x y => decide (x < y)) _ false (fun x y _ => by rw [xor_false]) (by rw [xor_false]) _ 0 (by omega)]
    exact q
theorem op_leA (hu : X.A.units < cLine) : OpR X (compareOp .LtE) (rOrd X.K (fun i j => decide (i ≤ j)) (fun i j => !decide (j.cps.toList < i.cps.toList)) fun ns ms => true ^^ HT.lexLt ms ns) :=
  op_ordS true op_le op_le_str fun pins s σ H a b ns ms Q I ha hb q => by
    obtain ⟨ia, ta, za, ga⟩ := tup_pairs I ha
    obtain ⟨ib, tb, zb, gb⟩ := tup_pairs I hb
    have RR := Ob.RcOp.tuples_le (A := X.A) (s := s) (e := fun j => decide (ns.getD j 0 = ms.getD j 0)) (r := fun j => decide (ns.getD j 0 ≤ ms.getD j 0)) ta tb hu (fun j p1 p2 => by
      obtain ⟨t, e1⟩ := ga j p1
      obtain ⟨t2, e2⟩ := gb j p2
      rw [e1, e2]; exact eq_at) (fun j p1 p2 _ => by
      obtain ⟨t, e1⟩ := ga j p1
      obtain ⟨t2, e2⟩ := gb j p2
      rw [e1, e2]; exact Ob.RcOp.le_int _ _ _ _)
    refine RR X.prog X.w _ _ ?_
    rw [za, zb, lex_sw, lex_at ms ns (fun x y => decide (y ≤ x)) _ true (fun x y _ => by
      rw [xor_true]
      by_cases q : x < y
      · rw [decide_eq_true q, decide_eq_false (by omega)]; rfl
      · rw [decide_eq_false q, decide_eq_true (by omega)]; rfl) (by
      rw [xor_true]
      by_cases q : ms.length < ns.length
      · rw [decide_eq_true q, decide_eq_false (by omega)]; rfl
      · rw [decide_eq_false q, decide_eq_true (by omega)]; rfl) _ 0 (by omega)]
    exact q
theorem lt_cases {K : PySem.W.Frag} {w : Wd} {a b : D} {v1 v2 : V} {A1 A2 : AS} {k : Bool} (r1 : RO K w.H w.Z o1 a v1 A1) (r2 : RO K w.H w.Z o2 b v2 A2) (h : ltD a b = some k) :
    (∃ i j, v1 = .int i ∧ v2 = .int j ∧ k = decide (i < j)) ∨ (∃ i j, v1 = .str i ∧ v2 = .str j ∧ k = decide (i.cps.toList < j.cps.toList)) ∨
    ∃ p q ns ms, v1 = .ref p ∧ v2 = .ref q ∧ SqT K w.H p (ns.map V.int) ∧ SqT K w.H q (ms.map V.int) ∧ k = HT.lexLt ns ms := by
  unfold ltD at h
  split at h
  · exact .inl ⟨_, _, r1.int, r2.int, (Option.some.inj h).symm⟩
  · exact .inr (.inl ⟨_, _, r1.str, r2.str, (Option.some.inj h).symm⟩)
  · split at h
    · rename_i x y e1 e2
      obtain ⟨p, xs, e3, t1, q1⟩ := r1.tup
      obtain ⟨q, ys, e4, t2, q2⟩ := r2.tup
      obtain ⟨e5, _⟩ := ints_reps e1 q1
      obtain ⟨e6, _⟩ := ints_reps e2 q2
      subst e5 e6
      exact .inr (.inr ⟨p, q, x, y, e3, e4, t1, t2, (Option.some.inj h).symm⟩)
    · cases h
  · cases h
theorem not_lt_dec {i j : Int} : (!decide (j < i)) = decide (i ≤ j) := by
  by_cases q : j < i
  · rw [decide_eq_true q, decide_eq_false (by omega)]; rfl
  · rw [decide_eq_false q, decide_eq_true (by omega)]; rfl
theorem ok_lt {K : PySem.W.Frag} : Ok2 K (cmpM .lt) (.ow .fr) (rOrd K (fun i j => decide (i < j)) (fun i j => decide (i.cps.toList < j.cps.toList)) fun ns ms => false ^^ HT.lexLt ns ms) o1 o2 := by
  intro w d1 d2 v1 v2 A1 A2 d Q r1 r2 e k
  obtain ⟨b, e1, rfl⟩ := map_bl e
  rcases lt_cases r1 r2 (show ltD d1 d2 = some b from e1) with ⟨i, j, rfl, rfl, rfl⟩ | ⟨i, j, rfl, rfl, rfl⟩ | ⟨p, q, ns, ms, rfl, rfl, t1, t2, rfl⟩
  · exact .inl ⟨_, _, rfl, rfl, fin_bl rfl k⟩
  · exact .inr (.inl ⟨_, _, rfl, rfl, fin_bl rfl k⟩)
  · exact .inr (.inr ⟨_, _, _, _, rfl, rfl, t1, t2, fin_bl (congrArg D.bl xor_false) k⟩)
theorem ok_gt {K : PySem.W.Frag} : Ok2 K (cmpM .gt) (.ow .fr) (rOrd K (fun i j => decide (j < i)) (fun i j => decide (j.cps.toList < i.cps.toList)) fun ns ms => false ^^ HT.lexLt ms ns) o1 o2 := by
  intro w d1 d2 v1 v2 A1 A2 d Q r1 r2 e k
  obtain ⟨b, e1, rfl⟩ := map_bl e
  rcases lt_cases r2 r1 (show ltD d2 d1 = some b from e1) with ⟨i, j, rfl, rfl, rfl⟩ | ⟨i, j, rfl, rfl, rfl⟩ | ⟨p, q, ns, ms, rfl, rfl, t1, t2, rfl⟩
  · exact .inl ⟨_, _, rfl, rfl, fin_bl rfl k⟩
  · exact .inr (.inl ⟨_, _, rfl, rfl, fin_bl rfl k⟩)
  · exact .inr (.inr ⟨_, _, _, _, rfl, rfl, t2, t1, fin_bl (congrArg D.bl xor_false) k⟩)
theorem ok_le {K : PySem.W.Frag} : Ok2 K (cmpM .le) (.ow .fr) (rOrd K (fun i j => decide (i ≤ j)) (fun i j => !decide (j.cps.toList < i.cps.toList)) fun ns ms => true ^^ HT.lexLt ms ns) o1 o2 := by
  intro w d1 d2 v1 v2 A1 A2 d Q r1 r2 e k
  obtain ⟨b, e1, rfl⟩ := map_bl e
  obtain ⟨b', e2, rfl⟩ := Option.map_eq_some_iff.mp (show (ltD d2 d1).map (!·) = some b from e1)
  rcases lt_cases r2 r1 e2 with ⟨i, j, rfl, rfl, rfl⟩ | ⟨i, j, rfl, rfl, rfl⟩ | ⟨p, q, ns, ms, rfl, rfl, t1, t2, rfl⟩
  · exact .inl ⟨_, _, rfl, rfl, fin_bl (by rw [not_lt_dec]) k⟩
  · exact .inr (.inl ⟨_, _, rfl, rfl, fin_bl rfl k⟩)
  · exact .inr (.inr ⟨_, _, _, _, rfl, rfl, t2, t1, fin_bl (congrArg D.bl xor_true) k⟩)
theorem ok_ge {K : PySem.W.Frag} : Ok2 K (cmpM .ge) (.ow .fr) (rOrd K (fun i j => decide (j ≤ i)) (fun i j => !decide (i.cps.toList < j.cps.toList)) fun ns ms => true ^^ HT.lexLt ns ms) o1 o2 := by
  intro w d1 d2 v1 v2 A1 A2 d Q r1 r2 e k
  obtain ⟨b, e1, rfl⟩ := map_bl e
  obtain ⟨b', e2, rfl⟩ := Option.map_eq_some_iff.mp (show (ltD d1 d2).map (!·) = some b from e1)
  rcases lt_cases r1 r2 e2 with ⟨i, j, rfl, rfl, rfl⟩ | ⟨i, j, rfl, rfl, rfl⟩ | ⟨p, q, ns, ms, rfl, rfl, t1, t2, rfl⟩
  · exact .inl ⟨_, _, rfl, rfl, fin_bl (by rw [not_lt_dec]) k⟩
  · exact .inr (.inl ⟨_, _, rfl, rfl, fin_bl rfl k⟩)
  · exact .inr (.inr ⟨_, _, _, _, rfl, rfl, t1, t2, fin_bl (congrArg D.bl xor_true) k⟩)

abbrev rIsN : R2 := fun x y H Q => y = .non ∧ Q (.bl (decide (x = .non))) H
abbrev rNotN : R2 := fun x y H Q => y = .non ∧ Q (.bl (!decide (x = .non))) H
theorem non_iff {K : PySem.W.Frag} {H : Hp} {Z : AS} {o : Ow} {d : D} {v : V} {A : AS} (h : RO K H Z o d v A) : decide (v = .non) = decide (d = .non) := by
  cases d
  case non => rw [h.non]; rfl
  case bl => rw [h.bl]; rfl
  case int => rw [h.int]; rfl
  case str => rw [h.str]; rfl
  case tup => obtain ⟨a, xs, e, _⟩ := h.tup; rw [e]; rfl
  case lst => obtain ⟨a, xs, e, _⟩ := h.lst; rw [e]; rfl
  case rol => obtain ⟨a, xs, e, _⟩ := h.rol; rw [e]; rfl
  case dct =>
    obtain ⟨a, xs, e, _⟩ := (show ∃ a xs, v = V.ref a ∧ _ from h.fz)
    rw [e]; rfl
  case exc =>
    obtain ⟨a, e⟩ := (show ∃ a, v = V.ref a from h.fz)
    rw [e]; rfl
theorem ok_isn {K : PySem.W.Frag} : Ok2 K (cmpM .isn) (.ow .fr) rIsN o1 o2 := by
  intro w d1 d2 v1 v2 A1 A2 d Q r1 r2 e k
  obtain ⟨b, e1, rfl⟩ := map_bl e
  cases d2 <;> simp only [cmpD, reduceCtorEq, Option.some.injEq] at e1
  subst e1
  exact ⟨r2.non, by rw [non_iff r1]; exact fin_bl rfl k⟩
theorem ok_isnn {K : PySem.W.Frag} : Ok2 K (cmpM .isnn) (.ow .fr) rNotN o1 o2 := by
  intro w d1 d2 v1 v2 A1 A2 d Q r1 r2 e k
  obtain ⟨b, e1, rfl⟩ := map_bl e
  cases d2 <;> simp only [cmpD, reduceCtorEq, Option.some.injEq] at e1
  subst e1
  exact ⟨r2.non, by rw [non_iff r1]; exact fin_bl rfl k⟩

/-! ### subscripts -/
abbrev rIxA (K : PySem.W.Frag) : R2 := fun x y H Q => rIxL K x y H Q ∨ rIxT K x y H Q ∨ rIxS x y H Q
theorem ix_all : IxR X (rIxA X.K) := ix_list.or (ix_tup.or ix_str)
theorem atI_reps {K : PySem.W.Frag} {H : Hp} {Z : AS} {ds : List D} {xs : List V} {i : Int} {d : D} (r : Reps K H Z ds xs) (h : atI ds i = some d) : ∃ x, atI xs i = some x ∧ Rep K H Z d x := by
  unfold atI at h ⊢
  rw [r.len]
  cases e : ixN ds.length i with
  | none => rw [e] at h; cases h
  | some j =>
    rw [e] at h
    obtain ⟨x, h1, h2⟩ := r.get (k := j) h
    exact ⟨x, h1, h2⟩
theorem fin_rep {K : PySem.W.Frag} {w : Wd} {d : D} {x : V} {Q : VK} (r : Rep K w.H w.Z d x) (k : ∀ w' v A, Alloc w w' A → RO K w'.H w'.Z .fr d v A → Q v w'.H) : Q x w.H :=
  k w x _ Alloc.refl ⟨r, fun _ z => z⟩
theorem ok_ix {K : PySem.W.Frag} (s1 : shal o1 = true) : Ok2 K (fun x y => match x with
    | .dct _ _ _ => none
    | _ => ixD x y) .fr (rIxA K) o1 o2 := by
  intro w d1 d2 v1 v2 A1 A2 d Q r1 r2 e k
  cases d1 <;> simp only [reduceCtorEq] at e <;> cases d2 <;> simp only [ixD, reduceCtorEq] at e
  · split at e
    · rename_i hl
      obtain ⟨c, e1, rfl⟩ := Option.map_eq_some_iff.mp e
      exact .inr (.inr ⟨_, _, c, r1.str, r2.int, by rw [← sz_eq]; exact hl, e1, k w _ _ Alloc.refl RO.mkstr⟩)
    · cases e
  · obtain ⟨a, xs, rfl, h1, q1⟩ := r1.tup
    obtain ⟨x, e1, q⟩ := atI_reps q1 e
    exact .inr (.inl ⟨a, xs, _, x, rfl, r2.int, h1, e1, fin_rep q k⟩)
  · obtain ⟨a, xs, rfl, h1, q1⟩ := r1.lstR s1
    obtain ⟨x, e1, q⟩ := atI_reps q1 e
    exact .inl ⟨a, xs, _, x, rfl, r2.int, SqL.of h1, e1, fin_rep q k⟩
  · obtain ⟨a, xs, rfl, h1, q1⟩ := r1.rol
    obtain ⟨x, e1, q⟩ := atI_reps q1 e
    exact .inl ⟨a, xs, _, x, rfl, r2.int, h1.sq, e1, fin_rep q k⟩
end
end Mp
/-! Mp5: expressions. -/
namespace Mp
open PySem PySem.Spec PyProof.Rows L2

section
variable {X : Cx} {c : Cc} {f g : M D} {ows ows1 ows2 ows' : Ows} {o o1 o2 : Ow} {q q1 q2 : Bool} {e pe : Expr}
/-- looked at instead of kept -/
theorem look_of (h : PE X e (tV c f ows ows' o q)) : PE X e (tR c f ows ows' o q) := wPE h fun σ H Q ⟨w, env, hw, sr, z⟩ => ⟨w, env, hw, sr, by
  cases e1 : f env with
  | no => rw [e1] at z; exact z
  | ex n env1 => rw [e1] at z; exact z
  | ok d env1 => rw [e1] at z; exact fun w' v A x s r _ k => z w' v A x s r k⟩
/-- a temp is frozen -/
def Wd.frz (w : Wd) (A : AS) : Wd := ⟨fun a => w.Z a ∨ A a, w.F, w.H⟩
theorem frz_ext {w w' : Wd} {A : AS} (x : Ext w w') (t : Tmp w w' A) (ha : ∀ a, A a → w'.H a ≠ none) : Ext w (w'.frz A) :=
  ⟨fun a z => .inl (x.z a z), x.fr, x.dm, x.nw, fun a z => z.elim (x.zn a) fun z => .inr (t.nw a z), fun h a z => z.elim (x.zh h a) (ha a)⟩
theorem SR.frz {K : PySem.W.Frag} {pn : Pin} {env : Env} {σ : L2.St} {w : Wd} {A : AS} (s : SR K pn ows env σ w) (tf : ∀ a i, A a → ¬ w.F i a) (ta : ∀ a, A a → w.H a ≠ none) : SR K pn ows env σ (w.frz A) where
  len := s.len
  at_ := fun i d e => by
    obtain ⟨v, h1, h2⟩ := s.at_ i d e
    exact ⟨v, h1, h2.keep (H' := w.H) (Z' := (w.frz A).Z) (fun a z => .inl z) fun _ _ e _ => e⟩
  apart := s.apart
  zf := fun i a h z => z.elim (s.zf i a h) fun z => tf a i z h
  fm := s.fm
  zt := fun a z => z.elim (s.zt a) (ta a)
  pin := s.pin
theorem RO.ne {K : PySem.W.Frag} {H : Hp} {Z : AS} {d : D} {v : V} {A : AS} (h : RO K H Z o d v A) (a : Addr) (ha : A a) : H a ≠ none := by
  obtain ⟨q, e, _⟩ := h.there a ha
  rw [e]; simp
theorem keep_fr (h : PE X e (tV c f ows ows' o q)) : PE X e (tV c f ows ows' .fr q) := wPE h fun σ H Q ⟨w, env, hw, sr, z⟩ => ⟨w, env, hw, sr, by
  cases e1 : f env with
  | no => rw [e1] at z; exact z
  | ex n env1 => rw [e1] at z; exact z
  | ok d env1 =>
    rw [e1] at z
    intro w' v A x s r t k
    exact z (w'.frz A) v (fun _ => False) (frz_ext x t fun a ha => r.ne a ha) (s.frz (fun a i ha => t.f a i ha) fun a ha => r.ne a ha) ⟨r.fz, fun _ z => z⟩ Tmp.nil fun hq => k hq⟩

/-! ### names, constants -/
theorem pv_const {d : D} {t : TE} (h : PE X e t) (k : ∀ (w : Wd) (σ : L2.St) (Q : VK), (∀ w' v A, Alloc w w' A → RO c.K w'.H w'.Z o d v A → Q v w'.H) → t σ w.H Q) : PE X e (tV c (M.ret d) ows ows o true) :=
  wPE h fun σ H Q ⟨w, env, hw, sr, z⟩ => by
    subst hw
    exact k w σ Q fun w' v A al ro => z w' v A al.ext (al.sr sr) ro (al.tmp sr) fun _ => al.quiet
theorem pv_int {i : Int} {j : Nat} {pos : Pos} : PE X (.Constant (.int i) j pos) (tV c (M.ret (.int i)) ows ows o true) := pv_const pe_int fun w σ Q k => k w _ _ Alloc.refl RO.mkint
theorem pv_str {i : Str} {j : Nat} {pos : Pos} : PE X (.Constant (.str i) j pos) (tV c (M.ret (.str i)) ows ows o true) := pv_const pe_str fun w σ Q k => k w _ _ Alloc.refl RO.mkstr
theorem pv_bl {i : Bool} {j : Nat} {pos : Pos} : PE X (.Constant (.bool i) j pos) (tV c (M.ret (.bl i)) ows ows o true) := pv_const pe_bl fun w σ Q k => k w _ _ Alloc.refl RO.mkbl
theorem pv_non {j : Nat} {pos : Pos} : PE X (.Constant .none j pos) (tV c (M.ret .non) ows ows o true) := pv_const pe_non fun w σ Q k => k w _ _ Alloc.refl RO.mknon
theorem slot_at {K : PySem.W.Frag} {pn : Pin} {env : Env} {σ : L2.St} {w : Wd} {i : Nat} {d : D} (s : SR K pn ows env σ w) (h : getS env i = some d) : ∃ v, σ[i]? = some (some v) ∧ RO K w.H w.Z (owAt ows i) d v (w.F i) := s.at_ i d h
/-- a name, looked at -/
theorem pr_var {i : Nat} {x : Str} {pos : Pos} (hN : X.N[i]? = some x) (hv : Vis X.env.scope x) (hd : (x == ("__debug__" : Str)) = false) (hcd : (x == ("__classdict__" : Str)) = false) : PE X (.Name x pos) (tR c (varM i) ows ows (owAt ows i) true) :=
  wPE (pe_var hN hv hd hcd) fun σ H Q ⟨w, env, hw, sr, z⟩ => by
    unfold varM at z
    cases e1 : getS env i with
    | none => rw [e1] at z; exact z.elim
    | some d =>
      rw [e1] at z
      obtain ⟨v, h1, h2⟩ := sr.at_ i d e1
      subst hw
      exact ⟨v, h1, z w v _ Ext.refl sr h2 fun _ => fun _ _ e => e⟩
/-- a name, kept: frozen from now on -/
theorem pv_var {i : Nat} {x : Str} {pos : Pos} (hN : X.N[i]? = some x) (hv : Vis X.env.scope x) (hd : (x == ("__debug__" : Str)) = false) (hcd : (x == ("__classdict__" : Str)) = false) : PE X (.Name x pos) (tV c (varM i) ows (ows.set i .fr) .fr true) :=
  wPE (pe_var hN hv hd hcd) fun σ H Q ⟨w, env, hw, sr, z⟩ => by
    unfold varM at z
    cases e1 : getS env i with
    | none => rw [e1] at z; exact z.elim
    | some d =>
      rw [e1] at z
      obtain ⟨v, h1, h2⟩ := sr.at_ i d e1
      subst hw
      exact ⟨v, h1, z (w.fz i) v (fun _ => False) (Ext.fz w i sr.fne) (sr.fz i) ⟨h2.fz, fun _ z => z⟩ Tmp.nil fun _ => fun _ _ e => e⟩
/-- a name, its thing taken out -/
theorem pv_mv {i : Nat} {x : Str} {pos : Pos} (hN : X.N[i]? = some x) (hv : Vis X.env.scope x) (hd : (x == ("__debug__" : Str)) = false) (hcd : (x == ("__classdict__" : Str)) = false) : PE X (.Name x pos) (tV c (mvM i) ows (ows.set i .fr) (owAt ows i) true) :=
  wPE (pe_var hN hv hd hcd) fun σ H Q ⟨w, env, hw, sr, z⟩ => by
    unfold mvM at z
    cases e1 : getS env i with
    | none => rw [e1] at z; exact z.elim
    | some d =>
      rw [e1] at z
      obtain ⟨v, h1, h2⟩ := sr.at_ i d e1
      subst hw
      refine ⟨v, h1, z (w.out i) v (w.F i) (Ext.out w i) (sr.out i fun j hj => owAt_set hj) h2 ⟨fun a ha hz => sr.zf i a ha hz, fun a j ha hj => hj.1 (sr.apart j i a hj.2 ha), fun a ha => .inl ⟨i, ha⟩⟩ fun _ => fun _ _ e => e⟩
/-- a constant of the module -/
theorem pv_glob {x : Str} {d : D} {v : V} {u : Value} {pos : Pos} {gl : Str → Option D} (hg : Gl X x) (hm : X.mg x = some u) (r : RelV v u) (hx : gl x = some d) (hr : ∀ H Z, Rep c.K H Z d v) (hd : (x == ("__debug__" : Str)) = false) : PE X (.Name x pos) (tV c (M.opt (gl x)) ows ows .fr true) :=
  wPE (pe_glob hg hm r hd) fun σ H Q ⟨w, env, hw, sr, z⟩ => by
    rw [hx] at z
    subst hw
    exact z w v _ Ext.refl sr ⟨hr _ _, fun _ z => z⟩ Tmp.nil fun _ => fun _ _ e => e

/-! ### tests -/
theorem emp_of {α β : Type} {xs : List α} {ys : List β} (h : xs.length = ys.length) : xs.isEmpty = ys.isEmpty := by
  cases xs <;> cases ys <;> first | rfl | cases h
theorem truth_of {K : PySem.W.Frag} {H : Hp} {Z : AS} {d : D} {v : V} {A : AS} {b : Bool} (h : RO K H Z o d v A) (e : d.truth = some b) : TruV K v H b := by
  cases d with
  | non => cases e; rw [h.non]; exact rfl
  | bl => cases e; rw [h.bl]; exact rfl
  | int => cases e; rw [h.int]; exact rfl
  | str x =>
    have e' : (if x.length ≤ SZ then some ((x.length : Int) != 0) else none) = some b := e
    by_cases hl : x.length ≤ SZ
    · rw [if_pos hl] at e'
      cases e'
      rw [h.str]
      exact ⟨by rw [← sz_eq]; exact hl, rfl⟩
    · rw [if_neg hl] at e'
      cases e'
  | tup ds =>
    cases e
    obtain ⟨a, xs, rfl, h1, h2⟩ := h.tup
    exact .inr (.inl ⟨xs, h1, by rw [emp_of h2.len]⟩)
  | lst ds =>
    cases e
    obtain ⟨a, xs, rfl, h1, h2⟩ := h.lst
    exact .inl ⟨xs, SqL.of h1, by rw [emp_of h2]⟩
  | rol ds =>
    cases e
    obtain ⟨a, xs, rfl, h1, h2⟩ := h.rol
    exact .inl ⟨xs, h1.sq, by rw [emp_of h2.len]⟩
  | exc => cases e
  | dct t ks vs =>
    cases t with
    | true => cases e
    | false =>
      cases e
      obtain ⟨a, xs, rfl, _, h1, _⟩ := (show ∃ a xs, v = V.ref a ∧ _ ∧ DcAt H a false ks xs ∧ _ from h.fz)
      obtain ⟨_, ⟨_, kvs, e1, e2, _⟩ | ⟨e0, _⟩⟩ := h1
      · exact .inr (.inr ⟨kvs, e1, by rw [e2]; cases kvs <;> rfl⟩)
      · cases e0
/-- a value's truth as a test -/
theorem pt_look (h : PE X e (tR c f ows ows' o q)) (he : ∀ whole, isTrue e X.env whole = (do let v ← whole; standAt e.pos; holding [v] (truthy v))) (hK : X.K = c.K) : PT X e (tB_ c (truthM f) ows ows' q) := by
  refine wPT (pt_truth h he) fun σ H Q ⟨w, env, hw, sr, z⟩ => ⟨w, env, hw, sr, ?_⟩
  unfold truthM M.bind at z
  cases e1 : f env with
  | no => rw [e1] at z; exact z
  | ex n env1 => rw [e1] at z; exact z
  | ok d env1 =>
    rw [e1] at z
    intro w' v A x s r k
    simp only [M.opt] at z
    cases e2 : d.truth with
    | none => rw [e2] at z; exact z.elim
    | some b =>
      rw [e2] at z
      exact ⟨b, by rw [hK]; exact truth_of r e2, z w' x s k⟩
/-- a comparison as a test: its bool -/
theorem pt_bool {t : TE} (hb : PT X e (fun σ H Q => t σ H fun x H' => ∃ k, x = .bl k ∧ Q k H')) (k : ∀ σ H Q, tV c f ows ows' o q σ H Q → t σ H Q) (hf : ∀ env d env', f env = .ok d env' → ∃ b, d = .bl b) : PT X e (tB_ c (truthM f) ows ows' q) := by
  refine wPT hb fun σ H Q ⟨w, env, hw, sr, z⟩ => k σ H _ ⟨w, env, hw, sr, ?_⟩
  unfold truthM M.bind at z
  cases e1 : f env with
  | no => rw [e1] at z; exact z
  | ex n env1 => rw [e1] at z; exact z
  | ok d env1 =>
    rw [e1] at z
    obtain ⟨b, rfl⟩ := hf _ _ _ e1
    intro w' v A x s r t' k'
    exact ⟨b, r.bl, z w' x s k'⟩
/-- not -/
theorem pt_notM {fb : M Bool} {pos : Pos} (h : PT X e (tB_ c fb ows ows' q)) : PT X (.UnaryOp .Not e pos) (tB_ c (M.bind fb fun b => M.ret !b) ows ows' q) := by
  refine wPT (pt_not h) fun σ H Q ⟨w, env, hw, sr, z⟩ => ⟨w, env, hw, sr, ?_⟩
  unfold M.bind at z
  cases e1 : fb env with
  | no => rw [e1] at z; exact z
  | ex n env1 => rw [e1] at z; exact z
  | ok b env1 => rw [e1] at z; exact fun w' x s k => z w' x s k
theorem pv_notM {pos : Pos} (h : PE X e (tR c f ows ows' o1 q)) (hK : X.K = c.K) : PE X (.UnaryOp .Not e pos) (tV c (M.bind (truthM f) fun b => M.ret (.bl !b)) ows ows' o q) := by
  refine wPE (pe_notT h) fun σ H Q ⟨w, env, hw, sr, z⟩ => ⟨w, env, hw, sr, ?_⟩
  unfold truthM M.bind at z
  cases e1 : f env with
  | no => rw [e1] at z; exact z
  | ex n env1 => rw [e1] at z; exact z
  | ok d env1 =>
    rw [e1] at z
    intro w' v A x s r k
    simp only [M.opt] at z
    cases e2 : d.truth with
    | none => rw [e2] at z; exact z.elim
    | some b =>
      rw [e2] at z
      exact ⟨b, by rw [hK]; exact truth_of r e2, z w' _ _ x s RO.mkbl Tmp.nil k⟩
/-- a if t else b -/
theorem pv_ite {fb : M Bool} {a b : Expr} {fa g : M D} {pos : Pos} {qc qa qb : Bool} (hc : PT X e (tB_ c fb ows ows1 qc)) (ha : PE X a (tV c fa ows1 ows' o qa)) (hb : PE X b (tV c g ows1 ows' o qb)) :
    PE X (.IfExp e a b pos) (tV c (M.bind fb fun k => if k = true then fa else g) ows ows' o (qc && (qa && qb))) := by
  refine wPE (pe_ifExp hc ha hb) fun σ H Q ⟨w, env, hw, sr, z⟩ => ⟨w, env, hw, sr, ?_⟩
  unfold M.bind at z
  cases e1 : fb env with
  | no => rw [e1] at z; exact z
  | ex n env1 => rw [e1] at z; exact z
  | ok k env1 =>
    rw [e1] at z
    intro w1 x1 s1 k1
    have fin : ∀ {h : M D} {qh : Bool}, ((qc && (qa && qb)) = true → qc = true ∧ qh = true) → (match h env1 with
        | .ok d env' => ∀ w' v A, Ext w w' → SR c.K c.pn ows' env' σ w' → RO c.K w'.H w'.Z o d v A → Tmp w w' A → ((qc && (qa && qb)) = true → Quiet w w') → Q v w'.H
        | .ex n env' => exK c σ w n env'
        | .no => False) → tV c h ows1 ows' o qh σ w1.H Q := fun {h qh} hq z => ⟨w1, env1, rfl, s1, by
      cases e2 : h env1 with
      | no => rw [e2] at z; exact z
      | ex n env2 => rw [e2] at z; exact exK.mono x1 z
      | ok d env2 =>
        rw [e2] at z
        exact fun w2 v A x2 s2 r2 t2 k2 => z w2 v A (x1.trans x2) s2 r2 (t2.pre x1) fun h => fun a b e => k2 (hq h).2 a b (k1 (hq h).1 a b e)⟩
    cases k with
    | true => exact fin (fun h => by simp only [Bool.and_eq_true] at h; exact ⟨h.1, h.2.1⟩) z
    | false => exact fin (fun h => by simp only [Bool.and_eq_true] at h; exact ⟨h.1, h.2.2⟩) z

/-! ### and, or -/
theorem andB_cons {a : Expr} {fa : M Bool} {fr : M Bool} {qa qr : Bool} {rest : List Expr} {b : Expr} {pos : Pos} (ha : PT X a (tB_ c fa ows ows1 qa)) (hr : PW X (.BoolOp .And (b :: rest) pos) (tB_ c fr ows1 ows' qr)) (hwk : weakB 0 ows1 ows' = true) :
    PW X (.BoolOp .And (a :: b :: rest) pos) (tB_ c (M.bind fa fun k => if k = true then fr else M.ret false) ows ows' (qa && qr)) := by
  refine ⟨fun wh pins s σ H Q I hh => (pw_and ha hr).run wh pins s σ H Q I ?_⟩
  obtain ⟨w, env, hw, sr, z⟩ := hh
  refine ⟨w, env, hw, sr, ?_⟩
  unfold M.bind at z
  cases e1 : fa env with
  | no => rw [e1] at z; exact z
  | ex n env1 => rw [e1] at z; exact z
  | ok k env1 =>
    rw [e1] at z
    intro w1 x1 s1 k1
    cases k with
    | true =>
      rw [if_pos rfl]
      refine ⟨w1, env1, rfl, s1, ?_⟩
      simp only [if_true] at z
      cases e2 : fr env1 with
      | no => rw [e2] at z; exact z
      | ex n env2 => rw [e2] at z; exact exK.mono x1 z
      | ok d env2 =>
        rw [e2] at z
        exact fun w2 x2 s2 k2 => z w2 (x1.trans x2) s2 fun h => fun p r e => k2 (by simp only [Bool.and_eq_true] at h; exact h.2) p r (k1 (by simp only [Bool.and_eq_true] at h; exact h.1) p r e)
    | false =>
      rw [if_neg Bool.false_ne_true]
      obtain ⟨w2, x2, eh, s2⟩ := s1.weak hwk
      have := z w2 (x1.trans x2) s2 fun h => by
        intro p r e
        rw [eh]
        exact k1 (by simp only [Bool.and_eq_true] at h; exact h.1) p r e
      rw [eh] at this
      exact this
theorem orB_cons {a : Expr} {fa : M Bool} {fr : M Bool} {qa qr : Bool} {rest : List Expr} {b : Expr} {pos : Pos} (ha : PT X a (tB_ c fa ows ows1 qa)) (hr : PW X (.BoolOp .Or (b :: rest) pos) (tB_ c fr ows1 ows' qr)) (hwk : weakB 0 ows1 ows' = true) :
    PW X (.BoolOp .Or (a :: b :: rest) pos) (tB_ c (M.bind fa fun k => if k = true then M.ret true else fr) ows ows' (qa && qr)) := by
  refine ⟨fun wh pins s σ H Q I hh => (pw_or ha hr).run wh pins s σ H Q I ?_⟩
  obtain ⟨w, env, hw, sr, z⟩ := hh
  refine ⟨w, env, hw, sr, ?_⟩
  unfold M.bind at z
  cases e1 : fa env with
  | no => rw [e1] at z; exact z
  | ex n env1 => rw [e1] at z; exact z
  | ok k env1 =>
    rw [e1] at z
    intro w1 x1 s1 k1
    cases k with
    | true =>
      rw [if_pos rfl]
      obtain ⟨w2, x2, eh, s2⟩ := s1.weak hwk
      have := z w2 (x1.trans x2) s2 fun h => by
        intro p r e
        rw [eh]
        exact k1 (by simp only [Bool.and_eq_true] at h; exact h.1) p r e
      rw [eh] at this
      exact this
    | false =>
      rw [if_neg Bool.false_ne_true]
      refine ⟨w1, env1, rfl, s1, ?_⟩
      simp only [Bool.false_eq_true, if_false] at z
      cases e2 : fr env1 with
      | no => rw [e2] at z; exact z
      | ex n env2 => rw [e2] at z; exact exK.mono x1 z
      | ok d env2 =>
        rw [e2] at z
        exact fun w2 x2 s2 k2 => z w2 (x1.trans x2) s2 fun h => fun p r e => k2 (by simp only [Bool.and_eq_true] at h; exact h.2) p r (k1 (by simp only [Bool.and_eq_true] at h; exact h.1) p r e)
theorem andV_cons {a : Expr} {fa fr : M D} {oa : Ow} {qa qr : Bool} {rest : List Expr} {b : Expr} {pos : Pos} (ha : PE X a (tR c fa ows ows1 oa qa)) (hr : PE X (.BoolOp .And (b :: rest) pos) (tV c fr ows1 ows' o qr)) (hwk : weakB 0 ows1 ows' = true) :
    PE X (.BoolOp .And (a :: b :: rest) pos) (tV c (M.bind fa fun d => match d with
      | .bl true => fr
      | .bl false => M.ret (.bl false)
      | _ => fun _ => .no) ows ows' o (qa && qr)) := by
  refine wPE (pe_and ha hr) fun σ H Q ⟨w, env, hw, sr, z⟩ => ⟨w, env, hw, sr, ?_⟩
  unfold M.bind at z
  cases e1 : fa env with
  | no => rw [e1] at z; exact z
  | ex n env1 => rw [e1] at z; exact z
  | ok k env1 =>
    rw [e1] at z
    intro w1 v1 A1 x1 s1 r1 k1
    cases k with
    | bl kb =>
      refine ⟨kb, r1.bl, ?_⟩
      cases kb with
      | true =>
        rw [if_pos rfl]
        refine ⟨w1, env1, rfl, s1, ?_⟩
        simp only at z
        cases e2 : fr env1 with
        | no => rw [e2] at z; exact z
        | ex n env2 => rw [e2] at z; exact exK.mono x1 z
        | ok d env2 =>
          rw [e2] at z
          exact fun w2 v2 A2 x2 s2 r2 t2 k2 => z w2 v2 A2 (x1.trans x2) s2 r2 (t2.pre x1) fun h => fun p r e => k2 (by simp only [Bool.and_eq_true] at h; exact h.2) p r (k1 (by simp only [Bool.and_eq_true] at h; exact h.1) p r e)
      | false =>
        rw [if_neg Bool.false_ne_true]
        obtain ⟨w2, x2, eh, s2⟩ := s1.weak hwk
        have := z w2 _ _ (x1.trans x2) s2 RO.mkbl Tmp.nil fun h => by
          intro p r e
          rw [eh]
          exact k1 (by simp only [Bool.and_eq_true] at h; exact h.1) p r e
        rw [eh] at this
        exact this
    | _ => exact z.elim
theorem orV_cons {a : Expr} {fa fr : M D} {oa : Ow} {qa qr : Bool} {rest : List Expr} {b : Expr} {pos : Pos} (ha : PE X a (tR c fa ows ows1 oa qa)) (hr : PE X (.BoolOp .Or (b :: rest) pos) (tV c fr ows1 ows' o qr)) (hwk : weakB 0 ows1 ows' = true) :
    PE X (.BoolOp .Or (a :: b :: rest) pos) (tV c (M.bind fa fun d => match d with
      | .bl true => M.ret (.bl true)
      | .bl false => fr
      | _ => fun _ => .no) ows ows' o (qa && qr)) := by
  refine wPE (pe_or ha hr) fun σ H Q ⟨w, env, hw, sr, z⟩ => ⟨w, env, hw, sr, ?_⟩
  unfold M.bind at z
  cases e1 : fa env with
  | no => rw [e1] at z; exact z
  | ex n env1 => rw [e1] at z; exact z
  | ok k env1 =>
    rw [e1] at z
    intro w1 v1 A1 x1 s1 r1 k1
    cases k with
    | bl kb =>
      refine ⟨kb, r1.bl, ?_⟩
      cases kb with
      | false =>
        rw [if_neg Bool.false_ne_true]
        refine ⟨w1, env1, rfl, s1, ?_⟩
        simp only at z
        cases e2 : fr env1 with
        | no => rw [e2] at z; exact z
        | ex n env2 => rw [e2] at z; exact exK.mono x1 z
        | ok d env2 =>
          rw [e2] at z
          exact fun w2 v2 A2 x2 s2 r2 t2 k2 => z w2 v2 A2 (x1.trans x2) s2 r2 (t2.pre x1) fun h => fun p r e => k2 (by simp only [Bool.and_eq_true] at h; exact h.2) p r (k1 (by simp only [Bool.and_eq_true] at h; exact h.1) p r e)
      | true =>
        rw [if_pos rfl]
        obtain ⟨w2, x2, eh, s2⟩ := s1.weak hwk
        have := z w2 _ _ (x1.trans x2) s2 RO.mkbl Tmp.nil fun h => by
          intro p r e
          rw [eh]
          exact k1 (by simp only [Bool.and_eq_true] at h; exact h.1) p r e
        rw [eh] at this
        exact this
    | _ => exact z.elim

/-! ### lists of expressions -/
def tAV (c : Cc) (f : M (List D)) (ows ows' : Ows) (qt : Bool) : TA := fun σ H Q => ∃ w env, w.H = H ∧ SR c.K c.pn ows env σ w ∧ match f env with
  | .ok ds env' => ∀ w' vs, Ext w w' → SR c.K c.pn ows' env' σ w' → Reps c.K w'.H w'.Z ds vs → (qt = true → Quiet w w') → Q vs w'.H
  | .ex n env' => exK c σ w n env'
  | .no => False
/-- each looked at, os their owners -/
def ROR (K : PySem.W.Frag) (H : Hp) (Z : AS) : List Ow → List D → List V → Prop
  | [], [], [] => True
  | o :: os, d :: ds, v :: vs => (∃ A, RO K H Z o d v A) ∧ ROR K H Z os ds vs
  | _, _, _ => False
def tAR (c : Cc) (f : M (List D)) (ows ows' : Ows) (os : List Ow) (qt : Bool) : TA := fun σ H Q => ∃ w env, w.H = H ∧ SR c.K c.pn ows env σ w ∧ match f env with
  | .ok ds env' => ∀ w' vs, Ext w w' → SR c.K c.pn ows' env' σ w' → ROR c.K w'.H w'.Z os ds vs → (qt = true → Quiet w w') → Q vs w'.H
  | .ex n env' => exK c σ w n env'
  | .no => False
def noStar : Expr → Bool
  | .Starred _ _ => false
  | _ => true
theorem star_cons {e : Expr} {es : List Expr} {env : PySem.Env} (h : noStar e = true) : starEach (e :: es) env = (false, eval e env) :: starEach es env := by
  cases e <;> first | rfl | cases h
theorem star_any {es : List Expr} {env : PySem.Env} {pos : Pos} (h : es.all noStar = true) : (backTo pos (starEach es env)).any (·.1) = false := by
  induction es with
  | nil => rfl
  | cons e es ih =>
    simp only [List.all_cons, Bool.and_eq_true] at h
    rw [star_cons h.1]
    simp only [backTo, List.map_cons, List.any_cons, Bool.false_or]
    exact ih h.2
theorem wPA {X : Cx} {es : List Expr} {t t' : TA} (h : PA X es t) (k : ∀ σ H Q, t' σ H Q → t σ H Q) : PA X es t' := ⟨fun pos pins s σ H Q I q => h.run pos pins s σ H Q I (k σ H Q q)⟩
theorem av_nil : PA X [] (tAV c (M.ret []) ows ows true) := wPA pa_nil fun σ H Q ⟨w, env, hw, sr, z⟩ => by
  subst hw
  exact z w [] Ext.refl sr (by unfold Reps; rfl) fun _ => fun _ _ e => e
theorem av_cons {es : List Expr} {fs : M (List D)} (hs : noStar e = true) (h : PE X e (tV c f ows ows1 .fr q1)) (hr : PA X es (tAV c fs ows1 ows' q2)) : PA X (e :: es) (tAV c (M.bind f fun d => M.bind fs fun ds => M.ret (d :: ds)) ows ows' (q1 && q2)) := by
  refine wPA (pa_cons h hr (star_cons hs)) fun σ H Q ⟨w, env, hw, sr, z⟩ => ⟨w, env, hw, sr, ?_⟩
  unfold M.bind at z
  cases e1 : f env with
  | no => rw [e1] at z; exact z
  | ex n env1 => rw [e1] at z; exact z
  | ok d env1 =>
    rw [e1] at z
    intro w1 v1 A1 x1 s1 r1 t1 k1
    refine ⟨w1, env1, rfl, s1, ?_⟩
    simp only at z
    cases e2 : fs env1 with
    | no => rw [e2] at z; exact z
    | ex n env2 => rw [e2] at z; exact exK.mono x1 z
    | ok ds env2 =>
      rw [e2] at z
      intro w2 vs x2 s2 r2 k2
      have r1' : Rep c.K w2.H w2.Z d v1 := Rep.ext s1 x2 r1.1
      exact z w2 (v1 :: vs) (x1.trans x2) s2 (by unfold Reps; exact ⟨v1, vs, rfl, r1', r2⟩) fun h => fun p r e => k2 (by simp only [Bool.and_eq_true] at h; exact h.2) p r (k1 (by simp only [Bool.and_eq_true] at h; exact h.1) p r e)
theorem ar_nil : PA X [] (tAR c (M.ret []) ows ows [] true) := wPA pa_nil fun σ H Q ⟨w, env, hw, sr, z⟩ => by
  subst hw
  exact z w [] Ext.refl sr trivial fun _ => fun _ _ e => e
theorem ROR.keep {K : PySem.W.Frag} {H H' : Hp} {Z Z' : AS} (kz : ∀ a, Z a → Z' a) (k : ∀ a q, H a = some q → H' a = some q) : ∀ {os : List Ow} {ds : List D} {vs : List V}, ROR K H Z os ds vs → ROR K H' Z' os ds vs
  | [], [], [], _ => trivial
  | _ :: _, _ :: _, _ :: _, h => ⟨let ⟨A, r⟩ := h.1; ⟨A, r.keep kz fun a q e _ => k a q e⟩, ROR.keep kz k h.2⟩
  | [], _ :: _, _, h => h.elim
  | [], [], _ :: _, h => h.elim
  | _ :: _, [], _, h => h.elim
  | _ :: _, _ :: _, [], h => h.elim
/-- later ones must change nothing -/
theorem ar_cons {es : List Expr} {fs : M (List D)} {os : List Ow} (hs : noStar e = true) (h : PE X e (tR c f ows ows1 o q1)) (hr : PA X es (tAR c fs ows1 ows' os true)) : PA X (e :: es) (tAR c (M.bind f fun d => M.bind fs fun ds => M.ret (d :: ds)) ows ows' (o :: os) q1) := by
  refine wPA (pa_cons h hr (star_cons hs)) fun σ H Q ⟨w, env, hw, sr, z⟩ => ⟨w, env, hw, sr, ?_⟩
  unfold M.bind at z
  cases e1 : f env with
  | no => rw [e1] at z; exact z
  | ex n env1 => rw [e1] at z; exact z
  | ok d env1 =>
    rw [e1] at z
    intro w1 v1 A1 x1 s1 r1 k1
    refine ⟨w1, env1, rfl, s1, ?_⟩
    simp only at z
    cases e2 : fs env1 with
    | no => rw [e2] at z; exact z
    | ex n env2 => rw [e2] at z; exact exK.mono x1 z
    | ok ds env2 =>
      rw [e2] at z
      intro w2 vs x2 s2 r2 k2
      have kk := k2 rfl
      exact z w2 (v1 :: vs) (x1.trans x2) s2 ⟨⟨A1, r1.keep x2.z fun a q e _ => kk a q e⟩, r2⟩ fun h => fun p r e => kk p r (k1 h p r e)
/-- a tuple, a list of written items -/
theorem pv_tup {es : List Expr} {fs : M (List D)} {k : Nat} {pos : Pos} (hl : es.length ≤ 1000) (hfs : ∀ env ds env', fs env = .ok ds env' → ds.length = es.length) (h : PA X es (tAV c fs ows ows' q)) : PE X (.Tuple es k pos) (tV c (M.bind fs fun ds => M.ret (.tup ds)) ows ows' o q) := by
  refine wPE (pe_tup h) fun σ H Q ⟨w, env, hw, sr, z⟩ => ⟨w, env, hw, sr, ?_⟩
  unfold M.bind at z
  cases e1 : fs env with
  | no => rw [e1] at z; exact z
  | ex n env1 => rw [e1] at z; exact z
  | ok ds env1 =>
    rw [e1] at z
    intro w1 vs x1 s1 r1 k1
    refine ⟨by rw [r1.len, hfs _ _ _ e1, ← sz_eq]; unfold SZ; omega, fun p hp => ?_⟩
    have al : Alloc w1 (w1.upd p (.tup vs)) (fun _ => False) := Alloc.new0 hp
    exact z (w1.upd p (.tup vs)) _ _ (x1.trans al.ext) (al.sr s1) (RO.newt hp r1) Tmp.nil fun h => fun a b e => al.h a b (k1 h a b e)
theorem pv_lst {es : List Expr} {fs : M (List D)} {pos : Pos} (hl : es.length ≤ 1000) (hfs : ∀ env ds env', fs env = .ok ds env' → ds.length = es.length) (h : PA X es (tAV c fs ows ows' q)) : PE X (.List es pos) (tV c (M.bind fs fun ds => M.ret (.lst ds)) ows ows' (.ow .fr) q) := by
  refine wPE (pe_lst h) fun σ H Q ⟨w, env, hw, sr, z⟩ => ⟨w, env, hw, sr, ?_⟩
  unfold M.bind at z
  cases e1 : fs env with
  | no => rw [e1] at z; exact z
  | ex n env1 => rw [e1] at z; exact z
  | ok ds env1 =>
    rw [e1] at z
    intro w1 vs x1 s1 r1 k1
    refine ⟨by rw [r1.len, hfs _ _ _ e1, ← sz_eq]; unfold SZ; omega, fun p hp => ?_⟩
    have al : Alloc w1 (w1.upd p (.lst vs)) (fun a => a = p) := Alloc.new hp
    exact z (w1.upd p (.lst vs)) _ _ (x1.trans al.ext) (al.sr s1) (RO.newl hp r1) ((al.tmp s1).pre x1) fun h => fun a b e => al.h a b (k1 h a b e)
end
end Mp
/-! Mp6: built-in functions, slices, methods. -/
namespace Mp
open PySem PySem.Spec PyProof.Rows L2

section
variable {X : Cx} {c : Cc} {f g : M D} {ows ows1 ows2 ows' : Ows} {o o1 o2 : Ow} {q q1 q2 : Bool} {e pe : Expr}

/-! ### built-in functions -/
abbrev RC := List V → Hp → VK → Prop
def OkN (K : PySem.W.Frag) (g : List D → Option D) (o : Ow) (r : RC) (sh : Ow → Bool) : Prop := ∀ (w : Wd) (os : List Ow) (ds : List D) (vs : List V) (d : D) (Q : VK), os.all sh = true → ROR K w.H w.Z os ds vs → g ds = some d →
  (∀ w' v A, Alloc w w' A → RO K w'.H w'.Z o d v A → Q v w'.H) → r vs w.H Q
theorem pv_okN {es : List Expr} {fs : M (List D)} {os : List Ow} {g : List D → Option D} {r : RC} {sh : Ow → Bool} {pe : Expr} (hop : ∀ {t}, PA X es t → PE X pe (tCB r t)) (ha : PA X es (tAR c fs ows ows' os q)) (k : OkN c.K g o r sh) (hs : os.all sh = true) :
    PE X pe (tV c (M.bind fs fun ds => M.opt (g ds)) ows ows' o q) := by
  refine wPE (hop ha) fun σ H Q ⟨w, env, hw, sr, z⟩ => ⟨w, env, hw, sr, ?_⟩
  unfold M.bind at z
  cases e1 : fs env with
  | no => rw [e1] at z; exact z
  | ex n env1 => rw [e1] at z; exact z
  | ok ds env1 =>
    rw [e1] at z
    intro w1 vs x1 s1 r1 k1
    simp only [M.opt] at z
    cases e2 : g ds with
    | none => rw [e2] at z; exact z.elim
    | some d =>
      rw [e2] at z
      exact k w1 os ds vs d Q hs r1 e2 fun w2 v A al ro => z w2 v A (x1.trans al.ext) (al.sr s1) ro ((al.tmp s1).pre x1) fun h => fun a b e => al.h a b (k1 h a b e)
theorem ROR.one {K : PySem.W.Frag} {H : Hp} {Z : AS} {os : List Ow} {d : D} {vs : List V} (h : ROR K H Z os [d] vs) : ∃ o v A, os = [o] ∧ vs = [v] ∧ RO K H Z o d v A := by
  match os, vs, h with
  | [o], [v], h => obtain ⟨⟨A, r⟩, _⟩ := h; exact ⟨o, v, A, rfl, rfl, r⟩
  | [], _, h => exact h.elim
  | _ :: _, [], h => exact h.elim
  | [_], _ :: _ :: _, h => exact h.2.elim
  | _ :: _ :: _, [_], h => exact h.2.elim
  | _ :: _ :: _, _ :: _ :: _, h => exact h.2.elim
theorem ROR.two {K : PySem.W.Frag} {H : Hp} {Z : AS} {os : List Ow} {d d2 : D} {vs : List V} (h : ROR K H Z os [d, d2] vs) : ∃ o v A o2 v2 A2, os = [o, o2] ∧ vs = [v, v2] ∧ RO K H Z o d v A ∧ RO K H Z o2 d2 v2 A2 := by
  match os, vs, h with
  | o :: os, v :: vs, h =>
    obtain ⟨o2, v2, A2, rfl, rfl, h2⟩ := ROR.one h.2
    obtain ⟨⟨A, r⟩, _⟩ := h
    exact ⟨o, v, A, o2, v2, A2, rfl, rfl, r, h2⟩
  | [], _, h => exact h.elim
  | _ :: _, [], h => exact h.elim
/-- len: any owner -/
def anyO (_ : Ow) : Bool := true
abbrev rLenA (K : PySem.W.Frag) : RC := fun xs H Q => (∃ x n, xs = [x] ∧ LenV K x H n ∧ Q (.int n) H) ∨ (∃ a kvs, xs = [V.ref a] ∧ H a = some (.dK kvs) ∧ Q (.int kvs.length) H) ∨ rLenT xs H Q
theorem call_lenA : CallR X (.builtin "len") (rLenA X.K) := call_len.or (call_lenD.or call_len_dT)
theorem ok_len {K : PySem.W.Frag} : OkN K (bF .len) (.ow .fr) (rLenA K) anyO := by
  intro w os ds vs d Q _ rr e k
  match ds, e with
  | [.lst xs], e =>
    obtain ⟨o, v, A, rfl, rfl, r⟩ := rr.one
    cases e
    obtain ⟨a, ys, rfl, h1, h2⟩ := r.lst
    exact .inl ⟨_, ys.length, rfl, .inl ⟨ys, SqL.of h1, rfl⟩, fin_int (by rw [h2]) k⟩
  | [.rol xs], e =>
    obtain ⟨o, v, A, rfl, rfl, r⟩ := rr.one
    cases e
    obtain ⟨a, ys, rfl, h1, h2⟩ := r.rol
    exact .inl ⟨_, ys.length, rfl, .inl ⟨ys, h1.sq, rfl⟩, fin_int (by rw [h2.len]) k⟩
  | [.tup xs], e =>
    obtain ⟨o, v, A, rfl, rfl, r⟩ := rr.one
    cases e
    obtain ⟨a, ys, rfl, h1, h2⟩ := r.tup
    exact .inl ⟨_, ys.length, rfl, .inr ⟨ys, h1, rfl⟩, fin_int (by rw [h2.len]) k⟩
  | [.str x], e =>
    obtain ⟨o, v, A, rfl, rfl, r⟩ := rr.one
    have e' : (if x.length ≤ SZ then some (D.int x.length) else none) = some d := e
    by_cases hl : x.length ≤ SZ
    · rw [if_pos hl] at e'
      cases e'
      rw [r.str]
      exact .inl ⟨_, x.length, rfl, ⟨by rw [← sz_eq]; exact hl, rfl⟩, fin_int rfl k⟩
    · rw [if_neg hl] at e'; cases e'
  | [.dct t ks xs], e =>
    obtain ⟨o, v, A, rfl, rfl, r⟩ := rr.one
    cases e
    obtain ⟨a, ys, rfl, _, h1, _⟩ := (show ∃ a xs', v = V.ref a ∧ _ ∧ DcAt w.H a t ks xs' ∧ _ from r.fz)
    obtain ⟨_, ⟨_, kvs, e1, e2, _⟩ | ⟨_, kvs, e1, e2, _⟩⟩ := h1
    · exact .inr (.inl ⟨a, kvs, rfl, e1, fin_int (by rw [e2, List.length_map]) k⟩)
    · exact .inr (.inr ⟨a, kvs, rfl, e1, fin_int (by rw [e2, List.length_map]) k⟩)
theorem ok_abs {K : PySem.W.Frag} : OkN K (bF .abs) (.ow .fr) (fun xs H Q => ∃ i, xs = [.int i] ∧ Q (.int (if i < 0 then -i else i)) H) anyO := by
  intro w os ds vs d Q _ rr e k
  match ds, e with
  | [.int i], e =>
    obtain ⟨o, v, A, rfl, rfl, r⟩ := rr.one
    cases e
    exact ⟨i, by rw [r.int], fin_int rfl k⟩
theorem ok_int {K : PySem.W.Frag} : OkN K (bF .int) (.ow .fr) (fun xs H Q => (∃ i, xs = [.int i] ∧ Q (.int i) H) ∨ ∃ k, xs = [.bl k] ∧ Q (.int (if k then 1 else 0)) H) anyO := by
  intro w os ds vs d Q _ rr e k
  match ds, e with
  | [.int i], e =>
    obtain ⟨o, v, A, rfl, rfl, r⟩ := rr.one
    cases e
    exact .inl ⟨i, by rw [r.int], fin_int rfl k⟩
  | [.bl b], e =>
    obtain ⟨o, v, A, rfl, rfl, r⟩ := rr.one
    cases e
    exact .inr ⟨b, by rw [r.bl], fin_int rfl k⟩
theorem ok_bool {K : PySem.W.Frag} : OkN K (bF .bool) (.ow .fr) (fun xs H Q => (∃ i, xs = [.int i] ∧ Q (.bl (i != 0)) H) ∨ ∃ k, xs = [.bl k] ∧ Q (.bl k) H) anyO := by
  intro w os ds vs d Q _ rr e k
  match ds, e with
  | [.bl b], e =>
    obtain ⟨o, v, A, rfl, rfl, r⟩ := rr.one
    cases e
    exact .inr ⟨b, by rw [r.bl], fin_bl rfl k⟩
theorem ok_str {K : PySem.W.Frag} : OkN K (bF .str) (.ow .fr) (fun xs H Q => ∃ i, xs = [.int i] ∧ i.natAbs.log2 < 1920 ∧ Q (.str (toString i)) H) anyO := by
  intro w os ds vs d Q _ rr e k
  match ds, e with
  | [.int i], e =>
    obtain ⟨o, v, A, rfl, rfl, r⟩ := rr.one
    have e' : (if i.natAbs.log2 < 1920 then some (D.str (toString i)) else none) = some d := e
    by_cases hl : i.natAbs.log2 < 1920
    · rw [if_pos hl] at e'
      exact ⟨i, by rw [r.int], hl, fin_str (Option.some.inj e') k⟩
    · rw [if_neg hl] at e'; cases e'
theorem ok_max2 {K : PySem.W.Frag} : OkN K (bF .max2) (.ow .fr) (fun xs H Q => ∃ i j, xs = [.int i, .int j] ∧ Q (.int (if j > i then j else i)) H) anyO := by
  intro w os ds vs d Q _ rr e k
  match ds, e with
  | [.int i, .int j], e =>
    obtain ⟨o, v, A, o2, v2, A2, rfl, rfl, r, r2⟩ := rr.two
    cases e
    exact ⟨i, j, by rw [r.int, r2.int], fin_int rfl k⟩
theorem ok_min2 {K : PySem.W.Frag} : OkN K (bF .min2) (.ow .fr) (fun xs H Q => ∃ i j, xs = [.int i, .int j] ∧ Q (.int (if j < i then j else i)) H) anyO := by
  intro w os ds vs d Q _ rr e k
  match ds, e with
  | [.int i, .int j], e =>
    obtain ⟨o, v, A, o2, v2, A2, rfl, rfl, r, r2⟩ := rr.two
    cases e
    exact ⟨i, j, by rw [r.int, r2.int], fin_int rfl k⟩
abbrev rListA (K : PySem.W.Frag) : RC := fun xs H Q => ∃ p ys, xs = [.ref p] ∧ (SqL K H p ys ∨ SqT K H p ys) ∧ ∀ l, H l = none → Q (.ref l) (upd H l (.lst ys))
theorem ok_list {K : PySem.W.Frag} : OkN K (bF .list) (.ow .fr) (rListA K) shal := by
  intro w os ds vs d Q sh rr e k
  match ds, e with
  | [.lst xs], e =>
    obtain ⟨o, v, A, rfl, rfl, r⟩ := rr.one
    cases e
    obtain ⟨a, ys, rfl, h1, h2⟩ := r.lstR (by simpa using sh)
    exact ⟨a, ys, rfl, .inl (SqL.of h1), fun p hp => k (w.upd p (.lst ys)) _ _ (Alloc.new hp) (RO.newl hp h2)⟩
  | [.tup xs], e =>
    obtain ⟨o, v, A, rfl, rfl, r⟩ := rr.one
    cases e
    obtain ⟨a, ys, rfl, h1, h2⟩ := r.tup
    exact ⟨a, ys, rfl, .inr h1, fun p hp => k (w.upd p (.lst ys)) _ _ (Alloc.new hp) (RO.newl hp h2)⟩
abbrev rTupleA (K : PySem.W.Frag) : RC := fun xs H Q => ∃ p ys, xs = [.ref p] ∧ ((SqL K H p ys ∧ ∀ l, H l = none → Q (.ref l) (upd H l (.tup ys))) ∨ (SqT K H p ys ∧ Q (.ref p) H))
theorem ok_tuple {K : PySem.W.Frag} : OkN K (bF .tuple) .fr (rTupleA K) shal := by
  intro w os ds vs d Q sh rr e k
  match ds, e with
  | [.lst xs], e =>
    obtain ⟨o, v, A, rfl, rfl, r⟩ := rr.one
    cases e
    obtain ⟨a, ys, rfl, h1, h2⟩ := r.lstR (by simpa using sh)
    exact ⟨a, ys, rfl, .inl ⟨SqL.of h1, fun p hp => k (w.upd p (.tup ys)) _ _ (Alloc.new0 hp) (RO.newt hp h2)⟩⟩
  | [.tup xs], e =>
    obtain ⟨o, v, A, rfl, rfl, r⟩ := rr.one
    cases e
    obtain ⟨a, ys, rfl, h1, h2⟩ := r.tup
    exact ⟨a, ys, rfl, .inr ⟨h1, k w _ _ Alloc.refl (RO.mktup h1 h2)⟩⟩
theorem ok_sum {K : PySem.W.Frag} : OkN K (bF .sum) (.ow .fr) (rSum K) shal := by
  intro w os ds vs d Q sh rr e k
  match ds, e with
  | [.lst xs], e =>
    obtain ⟨o, v, A, rfl, rfl, r⟩ := rr.one
    obtain ⟨ns, e1, rfl⟩ := Option.map_eq_some_iff.mp (show (D.ints xs).map (fun ns => D.int ns.sum) = some d from e)
    obtain ⟨a, ys, rfl, h1, h2⟩ := r.lstR (by simpa using sh)
    obtain ⟨e2, _⟩ := ints_reps e1 h2
    subst e2
    exact ⟨a, ns, rfl, SqL.of h1, fin_int rfl k⟩
theorem bools_reps {K : PySem.W.Frag} {H : Hp} {Z : AS} : ∀ {ds : List D} {xs : List V} {ns : List Bool}, bools ds = some ns → Reps K H Z ds xs → xs = ns.map V.bl
  | [], xs, ns, e, h => by
    unfold Reps at h
    subst h
    simp only [bools, Option.some.injEq] at e
    subst e
    rfl
  | d :: ds, xs, ns, e, h => by
    unfold Reps at h
    obtain ⟨x, r, rfl, h1, h2⟩ := h
    cases d <;> simp only [bools, reduceCtorEq] at e
    obtain ⟨ms, e1, rfl⟩ := Option.map_eq_some_iff.mp e
    have q1 := bools_reps e1 h2
    unfold Rep at h1
    subst h1 q1
    rfl
theorem ok_any {K : PySem.W.Frag} : OkN K (bF .any) (.ow .fr) (rAny K) shal := by
  intro w os ds vs d Q sh rr e k
  match ds, e with
  | [.lst xs], e =>
    obtain ⟨o, v, A, rfl, rfl, r⟩ := rr.one
    obtain ⟨ns, e1, rfl⟩ := Option.map_eq_some_iff.mp (show (bools xs).map (fun bs => D.bl (bs.any id)) = some d from e)
    obtain ⟨a, ys, rfl, h1, h2⟩ := r.lstR (by simpa using sh)
    rw [bools_reps e1 h2] at h1
    exact ⟨a, ns, rfl, SqL.of h1, fin_bl rfl k⟩
theorem ok_all {K : PySem.W.Frag} : OkN K (bF .all) (.ow .fr) (rAll K) shal := by
  intro w os ds vs d Q sh rr e k
  match ds, e with
  | [.lst xs], e =>
    obtain ⟨o, v, A, rfl, rfl, r⟩ := rr.one
    obtain ⟨ns, e1, rfl⟩ := Option.map_eq_some_iff.mp (show (bools xs).map (fun bs => D.bl (bs.all id)) = some d from e)
    obtain ⟨a, ys, rfl, h1, h2⟩ := r.lstR (by simpa using sh)
    rw [bools_reps e1 h2] at h1
    exact ⟨a, ns, rfl, SqL.of h1, fin_bl rfl k⟩
theorem maxI_spec : ∀ {ns : List Int} {m : Int}, maxI ns = some m → 0 < ns.length ∧ ∀ y, (y ∈ ns ∧ ∀ z, z ∈ ns → z ≤ y) ↔ y = m
  | [], _, e => by cases e
  | [x], m, e => by
    cases e
    refine ⟨by simp, fun y => ⟨fun h => by simpa using h.1, fun h => by subst h; simp⟩⟩
  | x :: x2 :: xs, m, e => by
    obtain ⟨m', e1, rfl⟩ := Option.map_eq_some_iff.mp (show (maxI (x2 :: xs)).map (fun m => if x ≤ m then m else x) = some m from e)
    obtain ⟨_, h⟩ := maxI_spec e1
    obtain ⟨h1, h2⟩ := (h m').mpr rfl
    have key : (if x ≤ m' then m' else x) ∈ x :: x2 :: xs ∧ ∀ z, z ∈ x :: x2 :: xs → z ≤ (if x ≤ m' then m' else x) := by
      by_cases q : x ≤ m'
      · rw [if_pos q]
        refine ⟨List.mem_cons_of_mem _ h1, fun z hz => ?_⟩
        rcases List.mem_cons.mp hz with rfl | hz
        · exact q
        · exact h2 z hz
      · rw [if_neg q]
        refine ⟨List.mem_cons_self, fun z hz => ?_⟩
        rcases List.mem_cons.mp hz with rfl | hz
        · exact Int.le_refl _
        · have := h2 z hz; omega
    exact ⟨by simp, fun y => ⟨fun hy => Int.le_antisymm (key.2 y hy.1) (hy.2 _ key.1), fun hy => by rw [hy]; exact key⟩⟩
theorem minI_spec : ∀ {ns : List Int} {m : Int}, minI ns = some m → 0 < ns.length ∧ ∀ y, (y ∈ ns ∧ ∀ z, z ∈ ns → y ≤ z) ↔ y = m
  | [], _, e => by cases e
  | [x], m, e => by
    cases e
    refine ⟨by simp, fun y => ⟨fun h => by simpa using h.1, fun h => by subst h; simp⟩⟩
  | x :: x2 :: xs, m, e => by
    obtain ⟨m', e1, rfl⟩ := Option.map_eq_some_iff.mp (show (minI (x2 :: xs)).map (fun m => if m ≤ x then m else x) = some m from e)
    obtain ⟨_, h⟩ := minI_spec e1
    obtain ⟨h1, h2⟩ := (h m').mpr rfl
    have key : (if m' ≤ x then m' else x) ∈ x :: x2 :: xs ∧ ∀ z, z ∈ x :: x2 :: xs → (if m' ≤ x then m' else x) ≤ z := by
      by_cases q : m' ≤ x
      · rw [if_pos q]
        refine ⟨List.mem_cons_of_mem _ h1, fun z hz => ?_⟩
        rcases List.mem_cons.mp hz with rfl | hz
        · exact q
        · exact h2 z hz
      · rw [if_neg q]
        refine ⟨List.mem_cons_self, fun z hz => ?_⟩
        rcases List.mem_cons.mp hz with rfl | hz
        · exact Int.le_refl _
        · have := h2 z hz; omega
    exact ⟨by simp, fun y => ⟨fun hy => Int.le_antisymm (hy.2 _ key.1) (key.2 y hy.1), fun hy => by rw [hy]; exact key⟩⟩
theorem ok_max1 {K : PySem.W.Frag} : OkN K (bF .max1) (.ow .fr) (rMax K) shal := by
  intro w os ds vs d Q sh rr e k
  match ds, e with
  | [.lst xs], e =>
    obtain ⟨o, v, A, rfl, rfl, r⟩ := rr.one
    obtain ⟨ns, e1, e2⟩ := Option.bind_eq_some_iff.mp (show (D.ints xs).bind (fun ns => (maxI ns).map D.int) = some d from e)
    obtain ⟨m, e3, rfl⟩ := Option.map_eq_some_iff.mp e2
    obtain ⟨a, ys, rfl, h1, h2⟩ := r.lstR (by simpa using sh)
    obtain ⟨e4, _⟩ := ints_reps e1 h2
    subst e4
    obtain ⟨h3, h4⟩ := maxI_spec e3
    exact ⟨a, ns, rfl, SqL.of h1, h3, fun m' a1 a2 => fin_int (by rw [(h4 m').mp ⟨a1, a2⟩]) k⟩
theorem ok_min1 {K : PySem.W.Frag} : OkN K (bF .min1) (.ow .fr) (rMin K) shal := by
  intro w os ds vs d Q sh rr e k
  match ds, e with
  | [.lst xs], e =>
    obtain ⟨o, v, A, rfl, rfl, r⟩ := rr.one
    obtain ⟨ns, e1, e2⟩ := Option.bind_eq_some_iff.mp (show (D.ints xs).bind (fun ns => (minI ns).map D.int) = some d from e)
    obtain ⟨m, e3, rfl⟩ := Option.map_eq_some_iff.mp e2
    obtain ⟨a, ys, rfl, h1, h2⟩ := r.lstR (by simpa using sh)
    obtain ⟨e4, _⟩ := ints_reps e1 h2
    subst e4
    obtain ⟨h3, h4⟩ := minI_spec e3
    exact ⟨a, ns, rfl, SqL.of h1, h3, fun m' a1 a2 => fin_int (by rw [(h4 m').mp ⟨a1, a2⟩]) k⟩
end
end Mp
/-! Mp7: subscripts, slices, methods, calls. -/
namespace Mp
open PySem PySem.Spec PyProof.Rows L2

section
variable {X : Cx} {c : Cc} {f g : M D} {ows ows1 ows2 ows' : Ows} {o o1 o2 : Ow} {q q1 q2 : Bool} {e pe : Expr}
theorem PEor {X : Cx} {e : Expr} {t t' : TE} (h : PE X e t) (h' : PE X e t') : PE X e (fun σ H Q => t σ H Q ∨ t' σ H Q) := ⟨fun pins s σ H Q I z => z.elim (h.run pins s σ H Q I) (h'.run pins s σ H Q I)⟩
def noSl : Expr → Bool
  | .Slice _ _ _ _ => false
  | _ => true
theorem plainIx {b : Expr} (h : noSl b = true) : PlainIx b := by
  intro o i
  cases b <;> first | rfl | cases h
/-- a chain of two comparisons -/
theorem ch_imp {fa fb fd : M D} {oa ob od : Ow} {oc oc' : CO} {r r' : R2} (k1 : Ok2 c.K (cmpM oc) (.ow .fr) r oa ob) (k2 : Ok2 c.K (cmpM oc') (.ow .fr) r' ob od) :
    ∀ σ H Q, tV c (chM oc oc' fa fb fd) ows ows2 (.ow .fr) q σ H Q → tChain r r' (tR c fa ows ows1 oa q) (tR c fb ows1 ows2 ob true) (tR c fd ows2 ows2 od true) σ H Q := by
  intro σ H Q ⟨w, env, hw, sr, z⟩
  refine ⟨w, env, hw, sr, ?_⟩
  unfold chM M.bind at z
  cases e1 : fa env with
  | no => rw [e1] at z; exact z
  | ex n env1 => rw [e1] at z; exact z
  | ok d1 env1 =>
    rw [e1] at z
    intro w1 v1 A1 x1 s1 r1 kk1
    refine ⟨w1, env1, rfl, s1, ?_⟩
    simp only at z
    cases e2 : fb env1 with
    | no => rw [e2] at z; exact z
    | ex n env2 => rw [e2] at z; exact exK.mono x1 z
    | ok d2 env2 =>
      rw [e2] at z
      intro w2 v2 A2 x2 s2 r2 kk2
      have r1' : RO c.K w2.H w2.Z oa d1 v1 A1 := r1.keep x2.z fun a q e _ => kk2 rfl a q e
      simp only [M.opt] at z
      cases e3 : cmpD oc d1 d2 with
      | none => rw [e3] at z; exact z.elim
      | some kb =>
        rw [e3] at z
        simp only at z
        refine k1 w2 d1 d2 v1 v2 A1 A2 (.bl kb) _ r1' r2 (by show (cmpD oc d1 d2).map D.bl = _; rw [e3]; rfl) fun w3 v3 A3 al ro => ⟨kb, ro.bl, ?_⟩
        have x13 := (x1.trans x2).trans al.ext
        have q13 : q = true → Quiet w w3 := fun h => fun a b e => al.h a b (kk2 rfl a b (kk1 h a b e))
        cases kb with
        | true =>
          rw [if_pos rfl]
          simp only [if_true] at z
          refine ⟨w3, env2, rfl, al.sr s2, ?_⟩
          cases e4 : fd env2 with
          | no => rw [e4] at z; exact z
          | ex n env3 => rw [e4] at z; exact exK.mono x13 z
          | ok d3 env3 =>
            rw [e4] at z
            intro w4 v4 A4 x4 s4 r4 kk4
            simp only [M.opt] at z
            cases e5 : cmpM oc' d2 d3 with
            | none => rw [show (cmpD oc' d2 d3).map D.bl = none from e5] at z; exact z.elim
            | some dd =>
              rw [show (cmpD oc' d2 d3).map D.bl = some dd from e5] at z
              have r2' : RO c.K w4.H w4.Z ob d2 v2 A2 := (al.keep r2).keep x4.z fun a q e _ => kk4 rfl a q e
              refine k2 w4 d2 d3 v2 v4 A2 A4 dd _ r2' r4 e5 fun w5 v5 A5 al5 ro5 => ?_
              exact z w5 v5 A5 ((x13.trans x4).trans al5.ext) (al5.sr s4) ro5 ((al5.tmp s4).pre (x13.trans x4)) fun h => fun a b e => al5.h a b (kk4 rfl a b (q13 h a b e))
        | false =>
          rw [if_neg Bool.false_ne_true]
          simp only [Bool.false_eq_true, if_false] at z
          exact z w3 _ _ x13 (al.sr s2) RO.mkbl Tmp.nil q13

/-! ### subscripts -/
theorem pv_ix0 {a b : Expr} {fa fb : M D} {oa ob : Ow} {pos : Pos} (ha : PE X a (tR c fa ows ows1 oa q)) (hb : PE X b (tR c fb ows1 ows2 ob true)) (hs : noSl b = true) (sh : shal oa = true) (hK : X.K = c.K) :
    PE X (.Subscript a b pos) (tV c (op2 (fun x y => match x with
      | .dct _ _ _ => none
      | _ => ixD x y) fa fb) ows ows2 .fr q) :=
  pe_ok2 ha hb (fun h1 h2 => pe_ix (r := rIxA c.K) (by rw [← hK]; exact ix_all) h1 h2 (plainIx hs)) (ok_ix sh)

/-! ### slices -/
def tPO (c : Cc) (f : M (Option Int)) (ows ows' : Ows) : TO := fun σ H Q => ∃ w env, w.H = H ∧ SR c.K c.pn ows env σ w ∧ match f env with
  | .ok oi env' => ∀ w', Ext w w' → SR c.K c.pn ows' env' σ w' → Quiet w w' → Q oi w'.H
  | .ex n env' => exK c σ w n env'
  | .no => False
theorem wPO {e : Option Expr} {t t' : TO} (h : PO X e t) (k : ∀ σ H Q, t' σ H Q → t σ H Q) : PO X e t' := ⟨fun pins s σ H Q I z => h.run pins s σ H Q I (k σ H Q z)⟩
theorem po_no : PO X none (tPO c (M.ret none) ows ows) := wPO po_none fun σ H Q ⟨w, env, hw, sr, z⟩ => by
  subst hw
  exact z w Ext.refl sr fun _ _ e => e
theorem po_at {fs : M D × M Bool} (h : PE X e (tR c fs.1 ows ows' o true)) : PO X (some e) (tPO c (partM [fs]) ows ows') := by
  refine wPO (po_some h) fun σ H Q ⟨w, env, hw, sr, z⟩ => ⟨w, env, hw, sr, ?_⟩
  simp only [partM, M.bind] at z
  cases e1 : fs.1 env with
  | no => rw [e1] at z; exact z
  | ex n env1 => rw [e1] at z; exact z
  | ok d env1 =>
    rw [e1] at z
    intro w1 v A x s r k
    cases d with
    | int i => exact ⟨i, r.int, z w1 x s (k rfl)⟩
    | _ => exact z.elim
theorem cut_reps {K : PySem.W.Frag} {H : Hp} {Z : AS} : ∀ {ds : List D} {xs : List V}, Reps K H Z ds xs → ∀ n m : Nat, Reps K H Z ((ds.drop n).take m) ((xs.drop n).take m) := fun {ds xs} h n m =>
  Reps.of (by simp [h.len]) fun k d x e1 e2 => by
    rw [List.getElem?_take] at e1 e2
    split at e1
    · rename_i hk
      rw [if_pos hk] at e2
      rw [List.getElem?_drop] at e1 e2
      obtain ⟨y, e3, r⟩ := h.get e1
      rw [e2] at e3; cases e3
      exact r
    · cases e1
abbrev rSlAll (K : PySem.W.Frag) : V → Option Int → Option Int → Hp → VK → Prop := fun x lo hi H Q => rSlL K x lo hi H Q ∨ rSlA K x lo hi H Q ∨ rSlS x lo hi H Q
theorem pv_sl {lo hi : Option Expr} {fl fh : M (Option Int)} {pos p2 : Pos} (ha : PE X e (tR c f ows ows1 o q)) (hl : PO X lo (tPO c fl ows1 ows2)) (hh : PO X hi (tPO c fh ows2 ows')) (sh : shal o = true) (hK : X.K = c.K) :
    PE X (.Subscript e (.Slice lo hi none p2) pos) (tV c (M.bind f fun x => M.bind fl fun l => M.bind fh fun h => M.opt (slD x l h)) ows ows' (.ow .fr) q) := by
  refine wPE (pe_slice (r := rSlAll c.K) (by rw [← hK]; exact sl_list.or (sl_tupA.or sl_str)) ha hl hh) fun σ H Q ⟨w, env, hw, sr, z⟩ => ⟨w, env, hw, sr, ?_⟩
  unfold M.bind at z
  cases e1 : f env with
  | no => rw [e1] at z; exact z
  | ex n env1 => rw [e1] at z; exact z
  | ok d env1 =>
    rw [e1] at z
    intro w1 v1 A1 x1 s1 r1 k1
    refine ⟨w1, env1, rfl, s1, ?_⟩
    simp only at z
    cases e2 : fl env1 with
    | no => rw [e2] at z; exact z
    | ex n env2 => rw [e2] at z; exact exK.mono x1 z
    | ok l env2 =>
      rw [e2] at z
      intro w2 x2 s2 k2
      refine ⟨w2, env2, rfl, s2, ?_⟩
      simp only at z
      cases e3 : fh env2 with
      | no => rw [e3] at z; exact z
      | ex n env3 => rw [e3] at z; exact exK.mono (x1.trans x2) z
      | ok h env3 =>
        rw [e3] at z
        intro w3 x3 s3 k3
        simp only [M.opt] at z
        have r3 : RO c.K w3.H w3.Z o d v1 A1 := r1.keep (fun a h => x3.z a (x2.z a h)) fun a q e _ => k3 a q (k2 a q e)
        cases e4 : slD d l h with
        | none => rw [e4] at z; exact z.elim
        | some dd =>
          rw [e4] at z
          have fin : ∀ w4 v A, Alloc w3 w4 A → RO c.K w4.H w4.Z (.ow .fr) dd v A → Q v w4.H := fun w4 v A al ro =>
            z w4 v A (((x1.trans x2).trans x3).trans al.ext) (al.sr s3) ro ((al.tmp s3).pre ((x1.trans x2).trans x3)) fun h => fun a b e => al.h a b (k3 a b (k2 a b (k1 h a b e)))
          cases d with
          | lst ds =>
            cases e4
            obtain ⟨a, xs, rfl, h1, q1⟩ := r3.lstR sh
            refine .inl ⟨a, xs, rfl, SqL.of h1, fun p hp => fin (w3.upd p _) _ _ (Alloc.new hp) ?_⟩
            have q2 := cut_reps q1 (HT.sIx ds.length 0 l) (HT.sIx ds.length ds.length h - HT.sIx ds.length 0 l)
            rw [← q1.len] at q2
            have := RO.newl hp q2
            rw [q1.len] at this
            unfold cutV cutD
            rw [q1.len]
            exact this
          | tup ds =>
            cases e4
            obtain ⟨a, xs, rfl, h1, q1⟩ := r3.tup
            have q2 := cut_reps q1 (HT.sIx ds.length 0 l) (HT.sIx ds.length ds.length h - HT.sIx ds.length 0 l)
            refine .inr (.inl ⟨a, xs, rfl, h1, fun hq => ?_, fun _ p hp => fin (w3.upd p _) _ _ (Alloc.new0 hp) ?_⟩)
            · rw [q1.len] at hq
              have ec : cutD ds l h = ds := by
                unfold cutD
                rw [hq.1, hq.2]
                simp
              rw [ec] at fin
              exact fin w3 _ _ Alloc.refl (RO.mktup h1 q1)
            · have := RO.newt (o := .ow .fr) hp q2
              unfold cutV cutD
              rw [q1.len]
              exact this
          | str zz =>
            have e5 : (if zz.length ≤ SZ then some (D.str (cutS zz l h)) else none) = some dd := e4
            by_cases hl : zz.length ≤ SZ
            · rw [if_pos hl] at e5
              cases e5
              exact .inr (.inr ⟨zz, r3.str, by rw [← sz_eq]; exact hl, fin w3 _ _ Alloc.refl RO.mkstr⟩)
            · rw [if_neg hl] at e5; cases e5
          | _ => cases e4

/-! ### calls of one's own defs -/
/-- what the def called n promises: C says what the call does -/
def pinOf (po : Ows) (vs : List V) : Pin := fun i => if owAt po i = .fr then none else (vs[i]?).map fun v => (v, none)
/-- what is given back of the parameters: the lent ones -/
def lsOf (po : Ows) (ls : List D) : Env := (List.range ls.length).map fun i => if owAt po i = .fr then none else ls[i]?
def spOf (K : PySem.W.Frag) (cl : List D → CR) (po : Ows) (ro : Ow) (np : Nat) : Sp := fun vs H Q E => ∃ (w : Wd) (ds : List D), w.H = H ∧ vs.length = np ∧ ds.length = np ∧ SR K (pinOf po vs) po (ds.map some) (vs.map some) w ∧ match cl ds with
  | .ok r ls => ∀ w' v A, Ext w w' → ls.length = np → SR K (pinOf po vs) po (lsOf po ls) (vs.map some) w' → RO K w'.H w'.Z ro r v A → Tmp w w' A → Q v w'.H
  | .ex n => ∀ w', Ext w w' → E (.ref (He.ga K n)) none w'.H
  | .no => False

/-- the caller's state behind a call that was lent nothing -/
theorem SR.after {K : PySem.W.Frag} {pn : Pin} {env : Env} {σ : L2.St} {w w2 : Wd} (s : SR K pn ows env σ w) (x : Ext ⟨w.Z, fun _ _ => False, w.H⟩ w2) : SR K pn ows env σ ⟨w2.Z, w.F, w2.H⟩ ∧ Ext w ⟨w2.Z, w.F, w2.H⟩ ∧ (∀ a q, w.H a = some q → w2.H a = some q) := by
  have hk : ∀ a q, w.H a = some q → w2.H a = some q := fun a q e => x.fr a q e fun _ z => z
  refine ⟨⟨s.len, fun i d e => ?_, s.apart, fun i a h z => ?_, fun i a h => ?_, fun a z => ?_, s.pin⟩, ⟨x.z, fun a o e _ => hk a o e, x.dm, fun i a h => .inl ⟨i, h⟩, fun a z => ?_, x.zh⟩, hk⟩
  · obtain ⟨v, h1, h2⟩ := s.at_ i d e
    exact ⟨v, h1, h2.keep (H' := w2.H) (Z' := w2.Z) x.z fun a q e _ => hk a q e⟩
  · rcases x.zn a z with q | ⟨_, q⟩ | q
    · exact s.zf i a h q
    · exact q
    · obtain ⟨o, e, _⟩ := s.fm i a h
      exact absurd e (by rw [show w.H a = none from q]; simp)
  · obtain ⟨o, e, m⟩ := s.fm i a h
    exact ⟨o, hk a o e, m⟩
  · exact x.zh s.zt a z
  · rcases x.zn a z with q | ⟨_, q⟩ | q
    · exact .inl q
    · exact q.elim
    · exact .inr (.inr q)

def noLn : E → Bool
  | .ln _ => false
  | _ => true
theorem wb_none : ∀ {es : List E} {ls : List D} {e : Env}, es.all noLn = true → wb es ls e = e
  | [], _, _, _ => by cases ‹List D› <;> rfl
  | x :: es, [], e, _ => by cases x <;> rfl
  | x :: es, l :: ls, e, h => by
    simp only [List.all_cons, Bool.and_eq_true] at h
    have ih := wb_none (ls := ls) (e := e) h.2
    cases x <;> first | exact ih | (simp [noLn] at h)
theorem unl_none : ∀ {es : List E} {e : Env}, es.all noLn = true → unl es e = e
  | [], _, _ => rfl
  | x :: es, e, h => by
    simp only [List.all_cons, Bool.and_eq_true] at h
    have ih := unl_none (e := e) h.2
    cases x <;> first | exact ih | (simp [noLn] at h)
theorem getS_map {ds : List D} {i : Nat} {d : D} (h : getS (ds.map some) i = some d) : ds[i]? = some d := by
  unfold getS at h
  rw [List.getElem?_map] at h
  cases e : ds[i]? with
  | none => rw [e] at h; simp at h
  | some x => rw [e] at h; simpa using h
/-- frozen arguments, as the callee's slots -/
theorem sr_args {K : PySem.W.Frag} {Z : AS} {H : Hp} {ds : List D} {vs : List V} (h : Reps K H Z ds vs) (hz : ∀ a, Z a → H a ≠ none) : SR K (pinOf [] vs) [] (ds.map some) (vs.map some) ⟨Z, fun _ _ => False, H⟩ where
  len := by simp [h.len]
  at_ := fun i d e => by
    obtain ⟨x, h1, h2⟩ := h.get (getS_map e)
    exact ⟨x, by simp [h1], ⟨h2, fun _ z => z⟩⟩
  apart := fun _ _ _ z => z.elim
  zf := fun _ _ z => z.elim
  fm := fun _ _ z => z.elim
  zt := hz
  pin := fun i p e => by simp [pinOf, owAt] at e
theorem pv_call {C : Cs} {fn : Str} {Es : List E} {ps : List (M D × M Bool)} {fa : Addr} {fd : FuncData} {pnames : List Str} {ro : Ow} {np k : Nat} {e : Expr} {es : List Expr} {p pos : Pos}
    (F : FnOk X.prog X.w X.K X.mg X.base (L2.CX X.prog X.w) k fa fd pnames (spOf c.K (C.cl fn) [] ro np)) (hr : Room k X.A) (hg : Gl X fn) (hm : X.mg fn = some (.ref fa)) (hk : PySem.W.keepIn X.K (.ref fa) = true) (hb : Binds X.K fd pnames [])
    (tk : Takes X c.W) (hl : Es.all noLn = true) (hne : Es.length = np) (ha : PA X (e :: es) (tAV c (evs ps) ows ows' q)) (hps : ∀ env ds env', evs ps env = .ok ds env' → ds.length = Es.length) (hx : weakB 0 ows' c.x = true) (hst : (e :: es).all noStar = true) (hdb : (fn == ("__debug__" : Str)) = false) :
    PE X (.Call (.Name fn p) (e :: es) [] pos) (tV c (callM C fn Es ps) ows ows' ro q) := by
  simp only [List.all_cons, Bool.and_eq_true] at hst
  refine wPE (pe_callS F hr hg hm hk hb (fun σ => passAt tk σ) ha hdb (star_cons hst.1) (star_any hst.2)) fun σ H Q ⟨w, env, hw, sr, z⟩ => ⟨w, env, hw, sr, ?_⟩
  unfold callM at z
  cases e1 : evs ps env with
  | no => rw [e1] at z; exact z
  | ex n env1 => rw [e1] at z; exact z
  | ok ds env1 =>
    rw [e1] at z
    intro w1 vs x1 s1 r1 k1
    have hds := hps _ _ _ e1
    refine ⟨⟨w1.Z, fun _ _ => False, w1.H⟩, ds, rfl, by rw [r1.len, hds, hne], by rw [hds, hne], sr_args r1 s1.zt, ?_⟩
    simp only at z
    cases e2 : C.cl fn ds with
    | no => rw [e2] at z; exact z
    | ex n =>
      rw [e2] at z
      intro w2 x2
      obtain ⟨s2, xx, _⟩ := s1.after x2
      obtain ⟨w3, x3, eh, s3⟩ := s2.weak hx
      have := z w3 ((x1.trans xx).trans x3) (by rw [unl_none hl]; exact s3)
      rw [eh] at this
      exact this
    | ok r ls =>
      rw [e2] at z
      intro w2 v A x2 _ _ ro2 t2
      obtain ⟨s2, xx, hq⟩ := s1.after x2
      simp only at z
      rw [wb_none hl] at z
      refine z ⟨w2.Z, w1.F, w2.H⟩ v A (x1.trans xx) s2 ro2 ⟨t2.z, fun a i ha hf => ?_, fun a ha => ?_⟩ fun h => fun a b e => hq a b (k1 h a b e)
      · rcases t2.nw a ha with ⟨_, z⟩ | hn
        · exact z
        · exact s1.fne a hf hn
      · rcases t2.nw a ha with ⟨_, z⟩ | hn
        · exact z.elim
        · by_cases q : w.H a = none
          · exact .inr q
          · exact absurd hn (x1.dm a q)
end
end Mp
/-! Mp8: places in nested data. -/
namespace Mp
open PySem PySem.Spec PyProof.Rows L2

/-- from v along qs in the heap -/
def At (H : Hp) : V → List D → V → Prop
  | v, [], v1 => v1 = v
  | v, q :: r, v1 => ∃ a x, v = .ref a ∧ ((∃ xs i, q = .int i ∧ H a = some (.lst xs) ∧ atI xs i = some x) ∨ (∃ (t : Bool) (ks : List D) (xs : List V) (j : Nat), DcAt H a t ks xs ∧ ks[j]? = some q ∧ xs[j]? = some x)) ∧ At H x r v1
theorem At.mono {H H' : Hp} (k : ∀ a q, H a = some q → H' a = some q) : ∀ {qs : List D} {v v1 : V}, At H v qs v1 → At H' v qs v1
  | [], _, _, h => h
  | q :: r, v, v1, h => by
    obtain ⟨a, x, e, h1, h2⟩ := h
    refine ⟨a, x, e, ?_, At.mono k h2⟩
    rcases h1 with ⟨xs, i, e1, e2, e3⟩ | ⟨t, ks, xs, j, e1, e2, e3⟩
    · exact .inl ⟨xs, i, e1, k _ _ e2, e3⟩
    · exact .inr ⟨t, ks, xs, j, e1.mono fun o => k a o, e2, e3⟩
theorem kvs_inj {ks : List D} {xs ys : List V} {a b : List (Key × V)} (h1 : KeyK ks a) (h2 : xs = a.map (·.2)) (e : a = b) (h4 : ys = b.map (·.2)) : xs = ys := by subst e; rw [h2, h4]
theorem DcAt.det {H : Hp} {a : Addr} {t t' : Bool} {ks ks' : List D} {xs xs' : List V} (h : DcAt H a t ks xs) (h' : DcAt H a t' ks' xs') : t = t' ∧ ks = ks' ∧ xs = xs' := by
  obtain ⟨_, ⟨rfl, kvs, e1, e2, e3⟩ | ⟨rfl, kvs, e1, e2, e3⟩⟩ := h <;> obtain ⟨_, ⟨rfl, kvs', f1, f2, f3⟩ | ⟨rfl, kvs', f1, f2, f3⟩⟩ := h'
  · rw [e1] at f1; cases f1; exact ⟨rfl, by rw [e2, f2], by rw [e3, f3]⟩
  · rw [e1] at f1; cases f1
  · rw [e1] at f1; cases f1
  · rw [e1] at f1; cases f1; exact ⟨rfl, by rw [e2, f2], by rw [e3, f3]⟩
theorem nodup_at {α : Type} {ks : List α} (nd : ks.Nodup) {i j : Nat} {k : α} (h1 : ks[i]? = some k) (h2 : ks[j]? = some k) : i = j := by
  obtain ⟨a1, b1⟩ := List.getElem?_eq_some_iff.mp h1
  obtain ⟨a2, b2⟩ := List.getElem?_eq_some_iff.mp h2
  have pw := List.pairwise_iff_getElem.mp nd
  rcases Nat.lt_trichotomy i j with q | q | q
  · exact absurd (b1.trans b2.symm) (pw i j a1 a2 q)
  · exact q
  · exact absurd (b2.trans b1.symm) (pw j i a2 a1 q)
theorem At.det {H : Hp} : ∀ {qs : List D} {v v1 v2 : V}, At H v qs v1 → At H v qs v2 → v1 = v2
  | [], _, _, _, h, h' => by
    have h : _ = _ := h
    have h' : _ = _ := h'
    rw [h, h']
  | q :: r, v, v1, v2, h, h' => by
    obtain ⟨a, x, e, h1, h2⟩ := h
    obtain ⟨a', x', e', h1', h2'⟩ := h'
    rw [e] at e'; cases e'
    have : x = x' := by
      rcases h1 with ⟨xs, i, e1, e2, e3⟩ | ⟨t, ks, xs, j, e1, e2, e3⟩ <;> rcases h1' with ⟨xs', i', f1, f2, f3⟩ | ⟨t', ks', xs', j', f1, f2, f3⟩
      · rw [e1] at f1; cases f1; rw [e2] at f2; cases f2; rw [e3] at f3; exact Option.some.inj f3
      · obtain ⟨_, ⟨_, kvs, z, _⟩ | ⟨_, kvs, z, _⟩⟩ := f1 <;> (rw [e2] at z; cases z)
      · obtain ⟨_, ⟨_, kvs, z, _⟩ | ⟨_, kvs, z, _⟩⟩ := e1 <;> (rw [f2] at z; cases z)
      · obtain ⟨_, k1, k2⟩ := e1.det f1
        subst k1 k2
        have : j = j' := nodup_at e1.1 e2 f2
        subst this
        rw [e3] at f3
        exact Option.some.inj f3
    subst this
    exact h2.det h2'
theorem dGet_at : ∀ {ks vs : List D} {k d : D}, dGet ks vs k = some d → ∃ j, ks[j]? = some k ∧ vs[j]? = some d ∧ ∀ y, dPut ks vs k y = (ks, vs.set j y)
  | [], _, _, _, h => by simp [dGet] at h
  | _ :: _, [], _, _, h => by simp [dGet] at h
  | k0 :: ks, v0 :: vs, k, d, h => by
    unfold dGet at h
    by_cases e : k0 = k
    · rw [if_pos e] at h
      exact ⟨0, by simp [e], by simpa using h, fun y => by simp [dPut, e]⟩
    · rw [if_neg e] at h
      obtain ⟨j, h1, h2, h3⟩ := dGet_at h
      exact ⟨j + 1, by simpa using h1, by simpa using h2, fun y => by simp [dPut, e, h3]⟩
theorem atI_at {α : Type} {xs : List α} {i : Int} {x : α} (h : atI xs i = some x) : ∃ j, ixN xs.length i = some j ∧ xs[j]? = some x := by
  unfold atI at h
  obtain ⟨j, h1, h2⟩ := Option.bind_eq_some_iff.mp h
  exact ⟨j, h1, h2⟩
def oAt : Ow → Nat → Ow
  | o, 0 => o
  | .fr, _ + 1 => .fr
  | .ow o, n + 1 => oAt o n
theorem oAt0 {o : Ow} : oAt o 0 = o := by cases o <;> rfl
/-- the owner's for n steps, and there, too -/
def deepO : Ow → Nat → Bool
  | .fr, _ => false
  | .ow _, 0 => true
  | .ow o, n + 1 => deepO o n
section
variable {K : PySem.W.Frag} {H H' : Hp} {Z : AS}
theorem RO.iff {o : Ow} {d : D} {v : V} {A A' : AS} (h : RO K H Z o d v A) (e : ∀ a, A' a ↔ A a) : RO K H Z o d v A' := by
  have : A' = A := funext fun a => propext (e a)
  rw [this]; exact h
/-- one item is another one now -/
theorem Items.setAt {R R' : D → V → AS → Prop} {ds : List D} {xs : List V} {B : AS} {G : Nat → AS} {j : Nat} {d' : D} {x' : V} {A' : AS} (I : Items R ds xs B G) (hj : j < ds.length) (k : ∀ i d x, i ≠ j → ds[i]? = some d → xs[i]? = some x → R d x (G i) → R' d x (G i)) (r : R' d' x' A')
    (dis : ∀ i a, i ≠ j → i < ds.length → A' a → ¬ G i a) : Items R' (ds.set j d') (xs.set j x') (fun a => (B a ∧ ¬ G j a) ∨ A' a) (fun i a => if i = j then A' a else (i < ds.length ∧ G i a)) where
  len := by simp [I.len]
  at_ := fun i d x h1 h2 => by
    by_cases q : i = j
    · subst q
      rw [List.getElem?_set_self hj] at h1
      rw [List.getElem?_set_self (by rw [I.len]; exact hj)] at h2
      cases h1; cases h2
      have e : (fun a => if i = i then A' a else (i < ds.length ∧ G i a)) = A' := by funext a; simp
      rw [e]; exact r
    · rw [List.getElem?_set_ne (Ne.symm q)] at h1 h2
      have e : (fun a => if i = j then A' a else (i < ds.length ∧ G i a)) = G i := by
        funext a
        rw [if_neg q]
        exact propext ⟨fun h => h.2, fun h => ⟨(List.getElem?_eq_some_iff.mp h1).1, h⟩⟩
      rw [e]
      exact k i d x q h1 h2 (I.at_ i d x h1 h2)
  apart := fun i k a h1 h2 => by
    split at h1 <;> split at h2
    · omega
    · rename_i q1 q2; exact absurd h2.2 (dis k a q2 h2.1 h1)
    · rename_i q1 q2; exact absurd h1.2 (dis i a q1 h1.1 h2)
    · exact I.apart i k a h1.2 h2.2
  some_ := fun a => by
    rw [I.some_ a]
    constructor
    · rintro (⟨⟨i, hi, g⟩, n⟩ | h)
      · exact ⟨i, by rw [List.length_set]; exact hi, by rw [if_neg (fun (z : i = j) => n (by subst z; exact g))]; exact ⟨hi, g⟩⟩
      · exact ⟨j, by rw [List.length_set]; exact hj, by rw [if_pos rfl]; exact h⟩
    · rintro ⟨i, hi, g⟩
      split at g
      · exact .inr g
      · rename_i q
        exact .inl ⟨⟨i, g.1, g.2⟩, fun z => q (I.apart i j a g.2 z)⟩
theorem set_same {α : Type} {xs : List α} {j : Nat} {x : α} (h : xs[j]? = some x) : xs.set j x = xs := by
  obtain ⟨h1, h2⟩ := List.getElem?_eq_some_iff.mp h
  rw [← h2, List.set_getElem_self]
/-- at a place: what stands there, and what becomes of the whole if it changes -/
theorem RO.focus : ∀ {qs : List D} {o : Ow} {d d1 : D} {v : V} {A : AS}, RO K H Z o d v A → (∀ a, A a → ¬ Z a) → getP d qs = some d1 → deepO o qs.length = true →
    ∃ v1 A1, At H v qs v1 ∧ RO K H Z (oAt o qs.length) d1 v1 A1 ∧ (∀ a, A1 a → A a) ∧
      ∀ {H' : Hp} {d1' : D} {A1' : AS}, (∀ a q, ¬ A1 a → H a = some q → H' a = some q) → RO K H' Z (oAt o qs.length) d1' v1 A1' → (∀ a, A1' a → A a → A1 a) → ∃ d', setP d qs d1' = some d' ∧ RO K H' Z o d' v (fun a => (A a ∧ ¬ A1 a) ∨ A1' a)
  | [], o, d, d1, v, A, h, _, hg, hd => by
    cases (show some d = some d1 from by cases d <;> exact hg)
    refine ⟨v, A, rfl, by rw [List.length_nil, oAt0]; exact h, fun _ z => z, fun {H' d1' A1'} _ r _ => ?_⟩
    rw [List.length_nil, oAt0] at r
    exact ⟨d1', by cases d <;> rfl, r.iff fun a => ⟨fun (z : (A a ∧ ¬ A a) ∨ A1' a) => z.elim (fun z => absurd z.1 z.2) id, .inr⟩⟩
  | q :: r, .fr, d, d1, v, A, h, _, hg, hd => by cases hd
  | q :: r, .ow o, d, d1, v, A, h, hz, hg, hd => by
    have own : ∀ {ds : List D} {xs : List V} {B : AS} {G : Nat → AS} {j : Nat} {d2 : D} {a : Addr} {x : V}, Items (RO K H Z o) ds xs B G → ¬ B a → (∀ b, A b ↔ (b = a ∨ B b)) → ds[j]? = some d2 → xs[j]? = some x → getP d2 r = some d1 →
        ∃ v1 A1, At H x r v1 ∧ RO K H Z (oAt o r.length) d1 v1 A1 ∧ (∀ b, A1 b → A b) ∧ ¬ A1 a ∧
          ∀ {H' : Hp} {d1' : D} {A1' : AS}, (∀ a q, ¬ A1 a → H a = some q → H' a = some q) → RO K H' Z (oAt o r.length) d1' v1 A1' → (∀ a, A1' a → A a → A1 a) → ∃ d2', setP d2 r d1' = some d2' ∧
            ∃ B' G', Items (RO K H' Z o) (ds.set j d2') xs B' G' ∧ ¬ B' a ∧ ∀ b, ((A b ∧ ¬ A1 b) ∨ A1' b) ↔ (b = a ∨ B' b) := by
      intro ds xs B G j d2 a x I nb hA e1 e2 hg
      have hj := (List.getElem?_eq_some_iff.mp e1).1
      have gB : ∀ b, G j b → B b := fun b g => (I.some_ b).mpr ⟨j, hj, g⟩
      obtain ⟨v1, A1, a1, a2, a3, a4⟩ := RO.focus (I.at_ j d2 x e1 e2) (fun b g => hz b ((hA b).mpr (.inr (gB b g)))) hg hd
      have na : ¬ A1 a := fun z => nb (gB a (a3 a z))
      refine ⟨v1, A1, a1, a2, fun b z => (hA b).mpr (.inr (gB b (a3 b z))), na, fun {H' d1' A1'} kk rr dis => ?_⟩
      obtain ⟨d2', s1, s2⟩ := a4 kk rr fun b z g => dis b z ((hA b).mpr (.inr (gB b g)))
      refine ⟨d2', s1, (fun b => (B b ∧ ¬ G j b) ∨ ((G j b ∧ ¬ A1 b) ∨ A1' b)), _, (by
        have := I.setAt (R' := RO K H' Z o) (d' := d2') (x' := x) hj (fun i d x hi e1 e2 rx => rx.keep (fun _ z => z) fun b q e z => kk b q (fun z1 => by
          rcases z with z | z | z
          · exact hz b ((hA b).mpr (.inr (gB b (a3 b z1)))) z
          · exact hi (I.apart i j b z (a3 b z1))
          · obtain ⟨q', e', m⟩ := a2.there b z1
            rw [e] at e'; cases e'; rw [z] at m; cases m) e) s2 (fun i b hi hl z g => by
          rcases z with z | z
          · exact hi (I.apart i j b g z.1)
          · exact hi (I.apart i j b g (a3 b (dis b z ((hA b).mpr (.inr ((I.some_ b).mpr ⟨i, hl, g⟩)))))))
        rw [set_same e2] at this
        exact this), ?_, fun b => ?_⟩
      · rintro (z | z | z)
        · exact nb z.1
        · exact nb (gB a z.1)
        · exact na (dis a z ((hA a).mpr (.inl rfl)))
      · rw [hA b]
        constructor
        · rintro (⟨rfl | hb, n⟩ | z)
          · exact .inl rfl
          · by_cases g : G j b
            · exact .inr (.inr (.inl ⟨g, n⟩))
            · exact .inr (.inl ⟨hb, g⟩)
          · exact .inr (.inr (.inr z))
        · rintro (rfl | z | z | z)
          · exact .inl ⟨.inl rfl, na⟩
          · exact .inl ⟨.inr z.1, fun z1 => z.2 (a3 b z1)⟩
          · exact .inl ⟨.inr (gB b z.1), z.2⟩
          · exact .inr z
    cases d with
    | lst ds =>
      cases q with
      | int i =>
        obtain ⟨d2, g1, g2⟩ := Option.bind_eq_some_iff.mp (show (L2.atI ds i).bind (fun d => getP d r) = some d1 from hg)
        obtain ⟨a, xs, B, G, rfl, h1, I, nb, hA⟩ := h
        obtain ⟨j, j1, j2⟩ := atI_at g1
        have hj := (List.getElem?_eq_some_iff.mp j2).1
        obtain ⟨x, hx⟩ : ∃ x, xs[j]? = some x := ⟨_, List.getElem?_eq_getElem (by rw [I.len]; exact hj)⟩
        obtain ⟨v1, A1, a1, a2, a3, na, a4⟩ := own I nb hA j2 hx g2
        refine ⟨v1, A1, ⟨a, x, rfl, .inl ⟨xs, i, rfl, h1, by unfold atI; rw [I.len, j1]; exact hx⟩, a1⟩, a2, a3, fun {H' d1' A1'} kk rr dis => ?_⟩
        obtain ⟨d2', s1, B', G', I', nb', hA'⟩ := a4 kk rr dis
        refine ⟨.lst (ds.set j d2'), by simp only [setP, j1, g1, s1]; rfl, ⟨a, xs, B', G', rfl, kk a _ na h1, I', nb', hA'⟩⟩
      | _ => cases hg
    | dct t ks vs =>
      have hg' : (if keyD t q then (dGet ks vs q).bind fun d => getP d r else none) = some d1 := by simpa only [getP] using hg
      by_cases hk : keyD t q = true
      · rw [if_pos hk] at hg'
        obtain ⟨d2, g1, g2⟩ := Option.bind_eq_some_iff.mp hg'
        obtain ⟨a, xs, B, G, rfl, h1, I, nb, hA⟩ := h
        obtain ⟨j, j1, j2, j3⟩ := dGet_at g1
        have hj := (List.getElem?_eq_some_iff.mp j2).1
        obtain ⟨x, hx⟩ : ∃ x, xs[j]? = some x := ⟨_, List.getElem?_eq_getElem (by rw [I.len]; exact hj)⟩
        obtain ⟨v1, A1, a1, a2, a3, na, a4⟩ := own I nb hA j2 hx g2
        refine ⟨v1, A1, ⟨a, x, rfl, .inr ⟨t, ks, xs, j, h1, j1, hx⟩, a1⟩, a2, a3, fun {H' d1' A1'} kk rr dis => ?_⟩
        obtain ⟨d2', s1, B', G', I', nb', hA'⟩ := a4 kk rr dis
        refine ⟨.dct t ks (vs.set j d2'), by simp only [setP, hk, if_true, g1, s1, j3, Option.bind_some, Option.map_some], ⟨a, xs, B', G', rfl, h1.mono fun o e => kk a o na e, I', nb', hA'⟩⟩
      · rw [if_neg hk] at hg'; cases hg'
    | _ => simp [getP] at hg
end

section
variable {K : PySem.W.Frag} {pn : Pin} {ows : Ows} {env : Env} {σ : L2.St} {w w' w0 : Wd} {A : AS} {H' : Hp}
/-- the thing of a slot is another one now, in another heap -/
def Wd.slot (w : Wd) (i : Nat) (A : AS) (H' : Hp) : Wd := ⟨w.Z, fun j a => if j = i then A a else w.F j a, H'⟩
theorem SR.slot {i : Nat} {d : D} {v : V} {A' : AS} (s : SR K pn ows env σ w) (hσ : σ[i]? = some (some v)) (hk : ∀ a q, ¬ w.F i a → w.H a = some q → H' a = some q) (r : RO K H' w.Z (owAt ows i) d v A')
    (hz : ∀ a, A' a → ¬ w.Z a) (hf : ∀ a j, j ≠ i → A' a → ¬ w.F j a) (hp : ∀ p, pn i = some p → p.2 = none) : SR K pn ows (setS env i d) σ (w.slot i A' H') where
  len := by rw [s.len]; unfold setS; simp
  at_ := fun j d' h => by
    rcases getS_set h with ⟨rfl, rfl⟩ | ⟨q, h'⟩
    · refine ⟨v, hσ, ?_⟩
      have e : (w.slot j A' H').F j = A' := by funext a; simp [Wd.slot]
      rw [e]; exact r
    · obtain ⟨v', h1, h2⟩ := s.at_ j d' h'
      refine ⟨v', h1, ?_⟩
      have e : (w.slot i A' H').F j = w.F j := by funext a; simp [Wd.slot, q]
      rw [e]
      refine h2.keep (fun _ z => z) fun a qq e z => hk a qq ?_ e
      intro hi
      rcases z with z | z | z
      · exact s.zf i a hi z
      · exact q (s.apart j i a z hi)
      · obtain ⟨o', e1, m⟩ := s.fm i a hi
        rw [e] at e1; cases e1; rw [z] at m; cases m
  apart := fun j k a h1 h2 => by
    simp only [Wd.slot] at h1 h2
    split at h1 <;> split at h2
    · omega
    · rename_i e1 e2; exact absurd h2 (hf a k e2 h1)
    · rename_i e1 e2; exact absurd h1 (hf a j e1 h2)
    · exact s.apart j k a h1 h2
  zf := fun j a h z => by
    simp only [Wd.slot] at h
    split at h
    · exact hz a h z
    · exact s.zf j a h z
  fm := fun j a h => by
    simp only [Wd.slot] at h
    split at h
    · exact r.there a h
    · rename_i n
      obtain ⟨q, e, m⟩ := s.fm j a h
      exact ⟨q, hk a q (fun z => n (s.apart j i a h z)) e, m⟩
  zt := fun a z => by
    cases e : w.H a with
    | none => exact absurd e (s.zt a z)
    | some q =>
      show H' a ≠ none
      rw [hk a q (fun h => s.zf i a h z) e]; simp
  pin := fun j p h => by
    refine ⟨(s.pin j p h).1, fun d hd d' hg => ?_⟩
    rcases getS_set hg with ⟨rfl, _⟩ | ⟨_, e⟩
    · rw [hp p h] at hd; cases hd
    · exact (s.pin j p h).2 d hd d' e
theorem Ext.slot {i : Nat} {A' : AS} (e : Ext w0 w) (hk : ∀ a q, ¬ w.F i a → w.H a = some q → H' a = some q) (dm : ∀ a, w.H a ≠ none → H' a ≠ none) (hB : ∀ a, A' a → (∃ j, w0.F j a) ∨ w0.H a = none) : Ext w0 (w.slot i A' H') where
  z := e.z
  fr := fun a o e1 n => hk a o (fun z => by
    rcases e.nw i a z with ⟨j, q⟩ | q
    · exact n j q
    · rw [e1] at q; cases q) (e.fr a o e1 n)
  dm := fun a h => dm a (e.dm a h)
  nw := fun j a h => by
    simp only [Wd.slot] at h
    split at h
    · exact hB a h
    · exact e.nw j a h
  zn := e.zn
  zh := fun h a z => dm a (e.zh h a z)
end
end Mp
/-! Mp9: what changes a list; stores at a place. -/
namespace Mp
open PySem PySem.Spec PyProof.Rows L2

theorem setP_nil {d y : D} : setP d [] y = some y := by cases d <;> rfl
theorem getP_nil {d : D} : getP d [] = some d := by cases d <;> rfl
theorem getP_snoc : ∀ {qs : List D} {d d1 : D} {q : D}, getP d (qs ++ [q]) = some d1 → ∃ d0, getP d qs = some d0 ∧ getP d0 [q] = some d1
  | [], d, d1, q, h => ⟨d, getP_nil, h⟩
  | q0 :: r, d, d1, q, h => by
    cases d with
    | lst xs =>
      cases q0 with
      | int i =>
        obtain ⟨d2, g1, g2⟩ := Option.bind_eq_some_iff.mp (show (L2.atI xs i).bind (fun d => getP d (r ++ [q])) = some d1 from h)
        obtain ⟨d0, h1, h2⟩ := getP_snoc g2
        exact ⟨d0, show (L2.atI xs i).bind (fun d => getP d r) = some d0 by rw [g1]; exact h1, h2⟩
      | _ => simp [getP] at h
    | dct t ks vs =>
      rw [List.cons_append, getP] at h
      rw [getP]
      split at h
      · rename_i hk
        rw [if_pos hk]
        obtain ⟨d2, g1, g2⟩ := Option.bind_eq_some_iff.mp h
        obtain ⟨d0, h1, h2⟩ := getP_snoc g2
        exact ⟨d0, by rw [g1]; exact h1, h2⟩
      · cases h
    | _ => simp [getP] at h
theorem At.snoc {H : Hp} : ∀ {qs : List D} {v v1 v2 : V} {q : D}, At H v qs v1 → At H v1 [q] v2 → At H v (qs ++ [q]) v2
  | [], v, v1, v2, q, h, h' => by
    cases (show v1 = v from h)
    exact h'
  | q0 :: r, v, v1, v2, q, h, h' => by
    obtain ⟨a, x, e, h1, h2⟩ := h
    exact ⟨a, x, e, h1, At.snoc h2 h'⟩
theorem evs_snoc {a : List (M D × M Bool)} {p : M D × M Bool} : evs (a ++ [p]) = M.bind (evs a) fun ds => M.bind p.1 fun d => M.ret (ds ++ [d]) := by
  induction a with
  | nil =>
    funext e
    rfl
  | cons b a ih =>
    funext e
    simp only [List.cons_append, evs, M.bind, M.ret, ih]
    cases b.1 e with
    | no => rfl
    | ex => rfl
    | ok x e1 =>
      simp only
      cases evs a e1 with
      | no => rfl
      | ex => rfl
      | ok xs e2 =>
        simp only
        cases p.1 e2 <;> rfl

/-- it changes no slot -/
def Pure {α : Type} (f : M α) : Prop := ∀ e r e', f e = .ok r e' → e' = e
section
variable {X : Cx} {c : Cc} {f g : M D} {ows ows1 ows2 ows' : Ows} {o o1 o2 : Ow} {q q1 q2 : Bool} {e pe : Expr}
/-- the thing at a place, reached -/
def tPl (c : Cc) (i : Nat) (f : M (List D)) (ows : Ows) : TE := fun σ H Q => ∃ w env, w.H = H ∧ SR c.K c.pn ows env σ w ∧ match f env with
  | .ok qs env' => env' = env ∧ ∃ d d1, getS env i = some d ∧ getP d qs = some d1 ∧ ∀ w' v v1, Ext w w' → Quiet w w' → SR c.K c.pn ows env σ w' → σ[i]? = some (some v) → At w'.H v qs v1 → Q v1 w'.H
  | .ex n env' => exK c σ w n env'
  | .no => False
theorem pl_nil {i : Nat} {x : Str} {pos : Pos} (hN : X.N[i]? = some x) (hv : Vis X.env.scope x) (hd : (x == ("__debug__" : Str)) = false) (hcd : (x == ("__classdict__" : Str)) = false) : PE X (.Name x pos) (tPl c i (M.ret []) ows) :=
  wPE (pe_var hN hv hd hcd) fun σ H Q ⟨w, env, hw, sr, _, d, d1, e1, e2, z⟩ => by
    subst hw
    obtain ⟨v, h1, h2⟩ := sr.at_ i d e1
    exact ⟨v, h1, z w v v Ext.refl (fun _ _ e => e) sr h1 rfl⟩
theorem SR.place {K : PySem.W.Frag} {pn : Pin} {env : Env} {σ : L2.St} {w : Wd} {i : Nat} {d d1 : D} {qs : List D} (s : SR K pn ows env σ w) (e : getS env i = some d) (hg : getP d qs = some d1) (hd : deepO (owAt ows i) qs.length = true) :
    ∃ v v1 A1, σ[i]? = some (some v) ∧ At w.H v qs v1 ∧ RO K w.H w.Z (oAt (owAt ows i) qs.length) d1 v1 A1 ∧ (∀ a, A1 a → w.F i a) ∧
      ∀ {H' : Hp} {d1' : D} {A1' : AS}, (∀ a q, ¬ A1 a → w.H a = some q → H' a = some q) → RO K H' w.Z (oAt (owAt ows i) qs.length) d1' v1 A1' → (∀ a, A1' a → w.F i a → A1 a) → ∃ d', setP d qs d1' = some d' ∧ RO K H' w.Z (owAt ows i) d' v (fun a => (w.F i a ∧ ¬ A1 a) ∨ A1' a) := by
  obtain ⟨v, h1, h2⟩ := s.at_ i d e
  obtain ⟨v1, A1, a1, a2, a3, a4⟩ := h2.focus (fun a h => s.zf i a h) hg hd
  exact ⟨v, v1, A1, h1, a1, a2, a3, a4⟩
theorem oAt_snoc : ∀ {o : Ow} {n : Nat}, deepO o n = true → ∃ o', oAt o n = .ow o' ∧ oAt o (n + 1) = o'
  | .fr, _, h => by cases h
  | .ow o, 0, _ => ⟨o, rfl, by show oAt o 0 = o; exact oAt0⟩
  | .ow o, n + 1, h => oAt_snoc (o := o) (n := n) h
/-- a list's item -/
theorem at_item {K : PySem.W.Frag} {H : Hp} {Z : AS} {d0 d1 : D} {v0 : V} {A : AS} {i : Int} (r : RO K H Z (.ow o) d0 v0 A) (h : getP d0 [.int i] = some d1) (hl : ∀ t ks vs, d0 ≠ .dct t ks vs) : ∃ a xs x, v0 = .ref a ∧ H a = some (.lst xs) ∧ atI xs i = some x ∧ At H v0 [.int i] x := by
  cases d0 with
  | lst ds =>
    obtain ⟨a, xs, B, G, rfl, h1, I, _⟩ := r
    obtain ⟨d2, g1, _⟩ := Option.bind_eq_some_iff.mp (show (L2.atI ds i).bind (fun d => getP d []) = some d1 from h)
    obtain ⟨j, j1, j2⟩ := atI_at g1
    obtain ⟨x, hx⟩ : ∃ x, xs[j]? = some x := ⟨_, List.getElem?_eq_getElem (by rw [I.len]; exact (List.getElem?_eq_some_iff.mp j2).1)⟩
    have e : atI xs i = some x := by unfold atI; rw [I.len, j1]; exact hx
    exact ⟨a, xs, x, rfl, h1, e, ⟨a, x, rfl, .inl ⟨xs, i, rfl, h1, e⟩, rfl⟩⟩
  | dct => exact absurd rfl (hl _ _ _)
  | _ => simp [getP] at h

/-! ### the step of a change -/
theorem mut_step {K : PySem.W.Frag} {pn : Pin} {env : Env} {σ : L2.St} {w w0 : Wd} {i : Nat} {d d1 : D} {v v1 : V} {qs : List D} (s : SR K pn ows env σ w) (e : getS env i = some d) (hg : getP d qs = some d1) (hd : deepO (owAt ows i) qs.length = true) (hp : ∀ p, pn i = some p → p.2 = none)
    (x0 : Ext w0 w) (hσ : σ[i]? = some (some v)) (ha : At w.H v qs v1) :
    ∃ A1, RO K w.H w.Z (oAt (owAt ows i) qs.length) d1 v1 A1 ∧ (∀ a, A1 a → w.F i a) ∧
      ∀ {H' : Hp} {d1' : D} {A1' : AS}, (∀ a q, ¬ A1 a → w.H a = some q → H' a = some q) → (∀ a, w.H a ≠ none → H' a ≠ none) → RO K H' w.Z (oAt (owAt ows i) qs.length) d1' v1 A1' → (∀ a, A1' a → ¬ w.Z a) → (∀ a j, A1' a → w.F j a → A1 a) → (∀ a, A1' a → (∃ j, w0.F j a) ∨ w0.H a = none) →
        ∃ d', setP d qs d1' = some d' ∧ SR K pn ows (setS env i d') σ (w.slot i (fun a => (w.F i a ∧ ¬ A1 a) ∨ A1' a) H') ∧ Ext w0 (w.slot i (fun a => (w.F i a ∧ ¬ A1 a) ∨ A1' a) H') := by
  obtain ⟨v', v1', A1, h1, a1, a2, a3, a4⟩ := s.place e hg hd
  rw [hσ] at h1
  cases h1
  cases ha.det a1
  refine ⟨A1, a2, a3, fun {H' d1' A1'} kk dm rr hz hf hn => ?_⟩
  obtain ⟨d', s1, s2⟩ := a4 kk rr fun a h g => hf a i h g
  have hk : ∀ a q, ¬ w.F i a → w.H a = some q → H' a = some q := fun a q n e => kk a q (fun z => n (a3 a z)) e
  refine ⟨d', s1, s.slot hσ hk s2 (fun a z => ?_) (fun a j hj z g => ?_) hp, x0.slot hk dm fun a z => ?_⟩
  · rcases z with z | z
    · exact s.zf i a z.1
    · exact hz a z
  · rcases z with z | z
    · exact hj (s.apart j i a g z.1)
    · exact hj (s.apart j i a g (a3 a (hf a j z g)))
  · rcases z with z | z
    · exact x0.nw i a z.1
    · exact hn a z
theorem setPM_of {e : Env} {i : Nat} {qs : List D} {d y d' : D} (h1 : getS e i = some d) (h2 : setP d qs y = some d') : setPM i qs y e = .ok () (setS e i d') := by
  unfold setPM; rw [h1]; simp [h2]
theorem getPM_of {e : Env} {i : Nat} {qs : List D} {d d1 : D} (h1 : getS e i = some d) (h2 : getP d qs = some d1) : getPM i qs e = .ok d1 e := by
  unfold getPM; rw [h1]; simp [h2]
theorem getPM_inv {e : Env} {i : Nat} {qs : List D} : (∃ d d1, getS e i = some d ∧ getP d qs = some d1 ∧ getPM i qs e = .ok d1 e) ∨ getPM i qs e = .no := by
  unfold getPM
  cases h1 : getS e i with
  | none => exact .inr rfl
  | some d =>
    cases h2 : getP d qs with
    | none => exact .inr (by simp [h2])
    | some d1 => exact .inl ⟨d, d1, rfl, h2, by simp [h2]⟩
/-- the place of a method's receiver, typed -/
theorem ty_list {K : PySem.W.Frag} {H : Hp} {l : Addr} {xs : List V} (h : H l = some (.lst xs)) : tyV K "list" (.ref l) H := .inl ⟨rfl, _, SqL.of h⟩
theorem few1 {e : Expr} {env : PySem.Env} {cpos : Pos} (hs : noStar e = true) : ((backTo cpos (starEach [e] env)).all (fun x => !x.1) && (backToKw cpos (keywordEach [] env)).all (fun x => x.1.isSome)
      && decide (([e] : List Expr).length + ([] : List Keyword).length + (if ([] : List Keyword).isEmpty then 0 else 1) < 30)) = true := by
  rw [star_cons hs]; rfl
/-- no getattr of super() -/
def plainB : Expr → Bool
  | .Name _ _ => true
  | .Subscript _ _ _ => true
  | .List _ _ => true
  | .Constant _ _ _ => true
  | _ => false
theorem base_of {b : Expr} {name : Str} {env : PySem.Env} (h : plainB b = true) : attributeBase b name env (eval b env) = eval b env := by
  cases b <;> first | rfl | cases h
/-- one more item -/
theorem Items.snoc {R : D → V → AS → Prop} {ds : List D} {xs : List V} {B : AS} {G : Nat → AS} {d : D} {x : V} {A : AS} (I : Items R ds xs B G) (r : R d x A) (dis : ∀ a, A a → ¬ B a) :
    Items R (ds ++ [d]) (xs ++ [x]) (fun a => B a ∨ A a) (fun k a => if k = ds.length then A a else (k < ds.length ∧ G k a)) where
  len := by simp [I.len]
  at_ := fun k e y h1 h2 => by
    by_cases q : k < ds.length
    · rw [List.getElem?_append_left q] at h1
      rw [List.getElem?_append_left (by rw [I.len]; exact q)] at h2
      have e0 : (fun a => if k = ds.length then A a else (k < ds.length ∧ G k a)) = G k := by
        funext a
        rw [if_neg (by omega)]
        exact propext ⟨fun h => h.2, fun h => ⟨q, h⟩⟩
      rw [e0]
      exact I.at_ k e y h1 h2
    · rw [List.getElem?_append_right (by omega)] at h1
      rw [List.getElem?_append_right (by rw [I.len]; omega), I.len] at h2
      have hk : k = ds.length := by
        rcases Nat.lt_or_ge ds.length k with z | z
        · rw [List.getElem?_eq_none (by simp; omega)] at h1; cases h1
        · omega
      subst hk
      simp at h1 h2
      subst h1 h2
      have e0 : (fun a => if ds.length = ds.length then A a else (ds.length < ds.length ∧ G ds.length a)) = A := by funext a; simp
      rw [e0]
      exact r
  apart := fun j k b h1 h2 => by
    split at h1 <;> split at h2
    · omega
    · exact absurd ((I.some_ b).mpr ⟨k, h2⟩) (dis b h1)
    · exact absurd ((I.some_ b).mpr ⟨j, h1⟩) (dis b h2)
    · exact I.apart j k b h1.2 h2.2
  some_ := fun b => by
    rw [I.some_ b]
    constructor
    · rintro (⟨k, hk, g⟩ | h)
      · exact ⟨k, by rw [List.length_append]; omega, by rw [if_neg (by omega)]; exact ⟨hk, g⟩⟩
      · exact ⟨ds.length, by rw [List.length_append]; simp, by rw [if_pos rfl]; exact h⟩
    · rintro ⟨k, hk, g⟩
      split at g
      · exact .inr g
      · exact .inl ⟨k, g⟩
theorem Items.keep {K : PySem.W.Frag} {H H' : Hp} {Z Z' : AS} {o : Ow} {ds : List D} {xs : List V} {B : AS} {G : Nat → AS} (I : Items (RO K H Z o) ds xs B G) (kz : ∀ a, Z a → Z' a) (k : ∀ a q, H a = some q → (Z a ∨ B a ∨ mutO q = false) → H' a = some q) : Items (RO K H' Z' o) ds xs B G :=
  ⟨I.len, fun j d x e1 e2 => (I.at_ j d x e1 e2).keep kz fun a q e z => k a q e (by
    rcases z with z | z | z
    · exact .inl z
    · exact .inr (.inl ((I.some_ a).mpr ⟨j, (List.getElem?_eq_some_iff.mp e1).1, z⟩))
    · exact .inr (.inr z)), I.apart, I.some_⟩
/-- the list at a is written anew -/
theorem kp_upd {w : Wd} {a : Addr} {o' : HO} {A1 : AS} (ha : A1 a) : (∀ b q, ¬ A1 b → w.H b = some q → L2.upd w.H a o' b = some q) ∧ ∀ b, w.H b ≠ none → L2.upd w.H a o' b ≠ none :=
  ⟨fun b q n e => by rw [upd_ne (fun z => n (by subst z; exact ha))]; exact e, fun b n => by
    by_cases z : b = a
    · subst z; rw [upd_same]; simp
    · rw [upd_ne z]; exact n⟩
/-- before the arguments: the receiver is there -/
theorem mu_head {m : MU} {i : Nat} {ps es : List (M D × M Bool)} {env : Env} {P : R D → Prop} (z : P (muM m i ps es env)) (hno : ¬ P .no) : (∃ n e, evs ps env = .ex n e ∧ P (.ex n e)) ∨
    ∃ qs env0 d d1, evs ps env = .ok qs env0 ∧ getS env0 i = some d ∧ getP d qs = some d1 ∧ muOk m d1 = true ∧ P ((M.bind (evs es) fun ds => M.bind (getPM i qs) fun d => match muF m d ds with
      | some (d', y) => M.bind (setPM i qs d') fun _ => M.ret y
      | none => fun _ => .no) env0) := by
  unfold muM M.bind at z
  cases e0 : evs ps env with
  | no => rw [e0] at z; exact absurd z hno
  | ex n env0 => rw [e0] at z; exact .inl ⟨n, env0, rfl, z⟩
  | ok qs env0 =>
    rw [e0] at z
    simp only at z
    obtain ⟨d, d1, g1, g2, g3⟩ | g3 := getPM_inv (e := env0) (i := i) (qs := qs)
    · rw [g3] at z
      simp only at z
      by_cases hm : muOk m d1 = false
      · rw [if_pos hm] at z; exact absurd z hno
      · rw [if_neg hm] at z
        exact .inr ⟨qs, env0, d, d1, rfl, g1, g2, by simpa using hm, z⟩
    · rw [g3] at z; exact absurd z hno
/-- behind the arguments: the change -/
theorem mu_tail {m : MU} {i : Nat} {qs ds : List D} {env : Env} {P : R D → Prop} (z : P ((M.bind (getPM i qs) fun d => match muF m d ds with
      | some (d', y) => M.bind (setPM i qs d') fun _ => M.ret y
      | none => fun _ => .no) env)) (hno : ¬ P .no) : ∃ d d1 d1' y, getS env i = some d ∧ getP d qs = some d1 ∧ muF m d1 ds = some (d1', y) ∧ ∀ d', setP d qs d1' = some d' → P (.ok y (setS env i d')) := by
  unfold M.bind at z
  obtain ⟨d, d1, g1, g2, g3⟩ | g3 := getPM_inv (e := env) (i := i) (qs := qs)
  · rw [g3] at z
    simp only at z
    cases e : muF m d1 ds with
    | none => rw [e] at z; exact absurd z hno
    | some p =>
      rw [e] at z
      refine ⟨d, d1, p.1, p.2, g1, g2, e, fun d' h => ?_⟩
      simp only at z
      rw [setPM_of g1 h] at z
      exact z
  · rw [g3] at z; exact absurd z hno
theorem At.same {H H' : Hp} {v v1 : V} {qs : List D} {n : Nat} (h : At H v qs v1) (hn : qs.length = n) (k : n = 0 ∨ ∀ a q, H a = some q → H' a = some q) : At H' v qs v1 := by
  rcases k with k | k
  · subst k
    cases qs with
    | nil => exact h
    | cons => simp at hn
  · exact h.mono k
/-- x[..].append(e) -/
theorem pv_append {i : Nat} {b : Expr} {ps : List (M D × M Bool)} {fe : M D × M Bool} {apos cpos : Pos} {n : Nat} (hb : PE X b (tPl c i (evs ps) ows)) (hpb : plainB b = true) (hline : (apos.endLine == cpos.line) = true) (hpl : ∀ e r e', evs ps e = .ok r e' → r.length = n) (hpu : Pure (evs ps))
    (hs : noStar e = true) (he : PE X e (tV c fe.1 ows ows' (oAt (owAt ows i) (n + 1)) q)) (hd : deepO (owAt ows i) n = true) (ho' : owAt ows' i = owAt ows i) (hq : n = 0 ∨ q = true) (hp : ∀ p, c.pn i = some p → p.2 = none) :
    PE X (.Call (.Attribute b "append" apos) [e] [] cpos) (tV c (muM .append i ps [fe]) ows ows' .fr false) := by
  refine wPE (pe_bm PySem.F.plainAttrs_list PySem.F.slot_list_append PySem.F.type_list_append mt_append hb (pa_cons he pa_nil (star_cons hs)) (base_of hpb) (few1 hs) hline (star_cons hs) rfl) fun σ H Q ⟨w, env, hw, sr, z⟩ => ?_
  subst hw
  refine ⟨w, env, rfl, sr, ?_⟩
  rcases mu_head (P := fun r => match r with
    | .ok d env' => ∀ w' v A, Ext w w' → SR c.K c.pn ows' env' σ w' → RO c.K w'.H w'.Z .fr d v A → Tmp w w' A → (false = true → Quiet w w') → Q v w'.H
    | .ex n env' => exK c σ w n env'
    | .no => False) z (fun h => h) with ⟨m, e1, h1, h2⟩ | ⟨qs, env0, d, d1, h1, g1, g2, hm, z5⟩
  · rw [h1]; exact h2
  clear z
  rw [h1]
  have he0 := hpu _ _ _ h1
  subst he0
  refine ⟨rfl, d, d1, g1, g2, fun w1 v v1 x1 k1 s1 hσ at1 => ?_⟩
  have hqn := hpl _ _ _ h1
  subst hqn
  obtain ⟨o', eo, eo'⟩ := oAt_snoc hd
  obtain ⟨v', v1', A1, p1, p2, p3, _⟩ := s1.place g1 g2 hd
  rw [hσ] at p1
  cases p1
  cases at1.det p2
  rw [eo] at p3
  have hl : ∃ ds, d1 = .lst ds := by cases d1 <;> simp [muOk] at hm; exact ⟨_, rfl⟩
  obtain ⟨ds, rfl⟩ := hl
  obtain ⟨l, xs, rfl, hl1, _⟩ := p3.lst
  refine ⟨ty_list hl1, ?_⟩
  refine ⟨w1, env0, rfl, s1, ?_⟩
  have z := z5
  simp only [evs, M.bind, M.ret] at z
  cases e2 : fe.1 env0 with
  | no => rw [e2] at z; exact z
  | ex m env2 => rw [e2] at z; exact exK.mono x1 z
  | ok y env2 =>
    rw [e2] at z
    intro w2 vy Ay x2 s2 r2 t2 k2
    obtain ⟨d', d1', d1'', yy, q1, q2, q3, q4⟩ := mu_tail (P := fun r => match r with
      | .ok d env' => ∀ w' v A, Ext w w' → SR c.K c.pn ows' env' σ w' → RO c.K w'.H w'.Z .fr d v A → Tmp w w' A → (false = true → Quiet w w') → Q v w'.H
      | .ex n env' => exK c σ w n env'
      | .no => False) z (fun h => h)
    cases d1' <;> simp only [muF, reduceCtorEq] at q3
    rename_i ds2
    split at q3
    · rename_i hlen
      cases q3
      have hd2 : deepO (owAt ows' i) qs.length = true := by rw [ho']; exact hd
      obtain ⟨A2, r3, a3, a4⟩ := mut_step s2 q1 q2 hd2 hp (x1.trans x2) hσ (at1.same rfl (hq.imp id fun h => k2 h))
      rw [ho', eo] at r3
      obtain ⟨l', zs, B, G, el, hl2, I, nb, hA⟩ := r3
      cases el
      have hlF : A2 l := (hA l).mpr (.inl rfl)
      rw [eo'] at r2
      have kp := kp_upd (w := w2) (o' := .lst (zs ++ [vy])) (A1 := A2) hlF
      have ne : ∀ b q, w2.H b = some q → (w2.Z b ∨ B b ∨ mutO q = false) → L2.upd w2.H l (.lst (zs ++ [vy])) b = some q := fun b q e z => by
        rw [upd_ne]
        · exact e
        · rintro rfl
          rcases z with z | z | z
          · exact s2.zf i b (a3 b hlF) z
          · exact nb z
          · rw [hl2] at e; cases e; cases z
      have I' := (I.keep (Z' := w2.Z) (fun _ z => z) ne).snoc (d := y) (x := vy) (A := Ay) (r2.keep (fun _ z => z) fun b q e z => by
        rw [upd_ne]
        · exact e
        · rintro rfl
          rcases z with z | z | z
          · exact s2.zf i b (a3 b hlF) z
          · exact t2.f b i z (a3 b hlF)
          · rw [hl2] at e; cases e; cases z) (fun b h1 h2 => t2.f b i h1 (a3 b ((hA b).mpr (.inr h2))))
      obtain ⟨d3, f1, f2, f3⟩ := a4 (d1' := .lst (ds2 ++ [y])) (A1' := fun b => A2 b ∨ Ay b) kp.1 kp.2 (by
        rw [ho', eo]
        exact ⟨l, zs ++ [vy], _, _, rfl, upd_same, I', fun z => z.elim nb fun z => t2.f l i z (a3 l hlF), fun b => by show (A2 b ∨ Ay b) ↔ _; rw [hA b]; exact or_assoc⟩) (fun b z => z.elim (fun z => s2.zf i b (a3 b z)) fun z => t2.z b z)
        (fun b j z g => z.elim id fun z => absurd g (t2.f b j z)) fun b z => z.elim (fun z => (x1.trans x2).nw i b (a3 b z)) fun z => (t2.pre x1).nw b z
      refine ⟨l, zs, vy, rfl, rfl, hl2, by rw [I.len, ← sz_eq]; exact hlen, ?_⟩
      exact q4 d3 f1 _ _ _ f3 f2 RO.mknon Tmp.nil fun h => nomatch h
    · cases q3
end
end Mp
/-! Mp10: statements. -/
namespace Mp
open PySem PySem.Spec PyProof.Rows L2

/-- the weaker of both -/
def wk : Option Ows → Option Ows → Bool
  | none, _ => true
  | some a, some b => weakB 0 a b
  | some _, none => false
section
variable {K : PySem.W.Frag} {pn : Pin} {env : Env} {σ : L2.St} {w : Wd}
theorem SRq.weak {a b : Option Ows} (h : wk a b = true) (s : SRq K pn a env σ w) : ∃ w', Ext w w' ∧ w'.H = w.H ∧ SRq K pn b env σ w' := by
  obtain ⟨o, rfl, s⟩ := s
  cases b with
  | none => cases h
  | some b =>
    obtain ⟨w', e, eh, s'⟩ := s.weak h
    exact ⟨w', e, eh, b, rfl, s'⟩
end
section
variable {X : Cx} {c : Cc} {f : M D} {ows ows1 ows2 ows' : Ows} {o o1 o2 : Ow} {q q1 q2 : Bool} {e pe : Expr} {st : Stmt} {sts : List Stmt} {fs gs : M Fl} {onx obk oct onx' obk' oct' : Option Ows} {pos : Pos}
/-- what tS asks of an outcome -/
def tSz (c : Cc) (w : Wd) (σ : L2.St) (D : Ends) (onx obk oct : Option Ows) : R Fl → Prop
  | .ok .nx env' => ∀ w' σ', Ext w w' → SRq c.K c.pn onx env' σ' w' → D.nx σ' w'.H
  | .ok .bk env' => ∀ w' σ', Ext w w' → SRq c.K c.pn obk env' σ' w' → D.bk σ' w'.H
  | .ok .ct env' => ∀ w' σ', Ext w w' → SRq c.K c.pn oct env' σ' w' → D.ct σ' w'.H
  | .ok (.rt d) env' => ∀ w' σ' v A, Ext w w' → SR c.K c.pn c.r env' σ' w' → RO c.K w'.H w'.Z c.ro d v A → Tmp w w' A → D.rt v w'.H
  | .ex n env' => ∀ w' σ', Ext w w' → SR c.K c.pn c.x env' σ' w' → c.W (.ref (He.ga c.K n)) none σ' w'.H
  | .no => False
theorem tS_iff {D : Ends} {σ : L2.St} {H : Hp} : tS c fs ows onx obk oct D σ H ↔ ∃ w env, w.H = H ∧ SR c.K c.pn ows env σ w ∧ tSz c w σ D onx obk oct (fs env) := by
  unfold tS tSz
  constructor
  · rintro ⟨w, env, h1, h2, h3⟩
    refine ⟨w, env, h1, h2, ?_⟩
    cases e : fs env with
    | no => rw [e] at h3; exact h3
    | ex => rw [e] at h3; exact h3
    | ok r => cases r <;> (rw [e] at h3; exact h3)
  · rintro ⟨w, env, h1, h2, h3⟩
    refine ⟨w, env, h1, h2, ?_⟩
    cases e : fs env with
    | no => rw [e] at h3; exact h3
    | ex => rw [e] at h3; exact h3
    | ok r => cases r <;> (rw [e] at h3; exact h3)
/-- the outcome seen from an earlier state -/
theorem tSz.pre {D : Ends} {w w1 : Wd} {σ σ1 : L2.St} {r : R Fl} (x : Ext w w1) (h : tSz c w σ D onx obk oct r) : tSz c w1 σ1 D onx obk oct r := by
  cases r with
  | no => exact h
  | ex n e => exact fun w' σ' x' s => h w' σ' (x.trans x') s
  | ok r e =>
    cases r with
    | nx => exact fun w' σ' x' s => h w' σ' (x.trans x') s
    | bk => exact fun w' σ' x' s => h w' σ' (x.trans x') s
    | ct => exact fun w' σ' x' s => h w' σ' (x.trans x') s
    | rt d => exact fun w' σ' v A x' s ro t => h w' σ' v A (x.trans x') s ro (t.pre x)
/-- weaker states behind -/
theorem tSz.weak {D : Ends} {w : Wd} {σ : L2.St} {r : R Fl} (h1 : wk onx onx' = true) (h2 : wk obk obk' = true) (h3 : wk oct oct' = true) (h : tSz c w σ D onx' obk' oct' r) : tSz c w σ D onx obk oct r := by
  cases r with
  | no => exact h
  | ex n e => exact h
  | ok r e =>
    cases r with
    | nx =>
      intro w' σ' x s
      obtain ⟨w2, x2, eh, s2⟩ := s.weak h1
      have := h w2 σ' (x.trans x2) s2
      rw [eh] at this; exact this
    | bk =>
      intro w' σ' x s
      obtain ⟨w2, x2, eh, s2⟩ := s.weak h2
      have := h w2 σ' (x.trans x2) s2
      rw [eh] at this; exact this
    | ct =>
      intro w' σ' x s
      obtain ⟨w2, x2, eh, s2⟩ := s.weak h3
      have := h w2 σ' (x.trans x2) s2
      rw [eh] at this; exact this
    | rt d => exact h
theorem PS.weaken (h : PS X st (tS c fs ows onx obk oct)) (h1 : wk onx onx' = true) (h2 : wk obk obk' = true) (h3 : wk oct oct' = true) : PS X st (tS c fs ows onx' obk' oct') := wPS h fun D σ H z => by
  obtain ⟨w, env, a, b, z⟩ := tS_iff.mp z
  exact tS_iff.mpr ⟨w, env, a, b, z.weak h1 h2 h3⟩
theorem PSs.weaken (h : PSs X sts (tS c fs ows onx obk oct)) (h1 : wk onx onx' = true) (h2 : wk obk obk' = true) (h3 : wk oct oct' = true) : PSs X sts (tS c fs ows onx' obk' oct') := wPSs h fun D σ H z => by
  obtain ⟨w, env, a, b, z⟩ := tS_iff.mp z
  exact tS_iff.mpr ⟨w, env, a, b, z.weak h1 h2 h3⟩
/-- a weaker state ahead -/
theorem tS.ahead {D : Ends} {σ : L2.St} {H : Hp} (h : weakB 0 ows ows1 = true) (z : tS c fs ows onx obk oct D σ H) : tS c fs ows1 onx obk oct D σ H := by
  obtain ⟨w, env, a, b, z⟩ := tS_iff.mp z
  obtain ⟨w', x, eh, s⟩ := b.weak h
  exact tS_iff.mpr ⟨w', env, eh.trans a, s, z.pre x⟩
theorem PSs.ahead (h : PSs X sts (tS c fs ows1 onx obk oct)) (hw : weakB 0 ows ows1 = true) : PSs X sts (tS c fs ows onx obk oct) := wPSs h fun D σ H z => z.ahead hw

/-! ### blocks -/
theorem pss_nil' : PSs X [] (tS c (M.ret .nx) ows (some ows) none none) := wPSs pss_nil fun D σ H ⟨w, env, hw, sr, z⟩ => by
  subst hw
  exact z w σ Ext.refl ⟨_, rfl, sr⟩
theorem pss_cons' {onx1 : Ows} (h1 : PS X st (tS c fs ows (some onx1) obk oct)) (h2 : PSs X sts (tS c gs onx1 onx obk oct)) : PSs X (st :: sts) (tS c (seqM fs gs) ows onx obk oct) := wPSs (pss_cons h1 h2) fun D σ H z => by
  obtain ⟨w, env, hw, sr, z⟩ := tS_iff.mp z
  refine tS_iff.mpr ⟨w, env, hw, sr, ?_⟩
  unfold seqM M.bind at z
  cases e : fs env with
  | no => rw [e] at z; exact z
  | ex n e1 => rw [e] at z; exact z
  | ok r e1 =>
    rw [e] at z
    cases r with
    | nx =>
      rintro w1 σ1 x1 ⟨o1, h, s1⟩
      cases h
      exact tS_iff.mpr ⟨w1, e1, rfl, s1, z.pre x1⟩
    | bk => exact z
    | ct => exact z
    | rt d => exact z
/-- what stands behind a return is never reached -/
theorem pss_stop (h1 : PS X st (tS c fs ows none obk oct)) : PSs X (st :: sts) (tS c (seqM fs gs) ows none obk oct) := wPSs (pss_cons h1 (pss_never (sts := sts))) fun D σ H z => by
  obtain ⟨w, env, hw, sr, z⟩ := tS_iff.mp z
  refine tS_iff.mpr ⟨w, env, hw, sr, ?_⟩
  unfold seqM M.bind at z
  cases e : fs env with
  | no => rw [e] at z; exact z
  | ex n e1 => rw [e] at z; exact z
  | ok r e1 =>
    rw [e] at z
    cases r with
    | nx =>
      rintro w1 σ1 x1 ⟨o1, h, s1⟩
      cases h
    | bk => exact z
    | ct => exact z
    | rt d => exact z

/-! ### small statements -/
def noComp : Expr → Bool
  | .ListComp _ _ _ _ => false
  | .SetComp _ _ _ _ => false
  | .DictComp _ _ _ _ _ => false
  | _ => true
theorem swaps_no {e : Expr} {t : Option Expr} {n : Nat} {env : PySem.Env} (h : noComp e = true) : swapsWith e t n env = pure false := by
  cases e <;> first | rfl | cases h
theorem ps_setM {i : Nat} {x : Str} {px : Pos} (hN : X.N.Nodup) (hi : X.N[i]? = some x) (hx : X.env.scope.names.lookup x = some .local) (hp : c.pn i = none) (hl : i < ows'.length) (hc : noComp e = true) (he : PE X e (tV c f ows ows' o q)) :
    PS X (.Assign [.Name x px] e pos) (tS c (M.bind f fun d => fun s => .ok .nx (setS s i d)) ows (some (ows'.set i o)) none none) := by
  refine wPS (ps_set hN hi (.inl hx) he (swaps_no hc) (.inr hx)) fun D σ H ⟨w, env, hw, sr, z⟩ => ⟨w, env, hw, sr, ?_⟩
  unfold M.bind at z
  cases e1 : f env with
  | no => rw [e1] at z; exact z
  | ex n env1 => rw [e1] at z; exact fun w' x s => z w' σ x s
  | ok d env1 =>
    rw [e1] at z
    intro w1 v A x1 s1 r1 t1 k1
    exact z (w1.put i A) _ (Ext.put x1 t1) ⟨_, rfl, s1.put i hp (fun j hj => owAt_set hj) (owAt_self' hl) r1 t1.z t1.f⟩
theorem ps_exM (hc : noComp e = true) (he : PE X e (tR c f ows ows' o q)) : PS X (.Expr e pos) (tS c (M.bind f fun _ => M.ret .nx) ows (some ows') none none) := by
  refine wPS (ps_expr he (swaps_no hc)) fun D σ H ⟨w, env, hw, sr, z⟩ => ⟨w, env, hw, sr, ?_⟩
  unfold M.bind at z
  cases e1 : f env with
  | no => rw [e1] at z; exact z
  | ex n env1 => rw [e1] at z; exact fun w' x s => z w' σ x s
  | ok d env1 =>
    rw [e1] at z
    intro w1 v A x1 s1 r1 k1
    exact z w1 σ x1 ⟨_, rfl, s1⟩
theorem ps_passM : PS X (.Pass pos) (tS c (M.ret .nx) ows (some ows) none none) := wPS ps_pass fun D σ H ⟨w, env, hw, sr, z⟩ => by
  subst hw; exact z w σ Ext.refl ⟨_, rfl, sr⟩
theorem ps_brkM : PS X (.Break pos) (tS c (M.ret .bk) ows none (some ows) none) := wPS ps_break fun D σ H ⟨w, env, hw, sr, z⟩ => by
  subst hw; exact z w σ Ext.refl ⟨_, rfl, sr⟩
theorem ps_contM : PS X (.Continue pos) (tS c (M.ret .ct) ows none none (some ows)) := wPS ps_continue fun D σ H ⟨w, env, hw, sr, z⟩ => by
  subst hw; exact z w σ Ext.refl ⟨_, rfl, sr⟩
theorem ps_docM {x : Str} {j : Nat} {p2 : Pos} : PS X (.Expr (.Constant (.str x) j p2) pos) (tS c (M.ret .nx) ows (some ows) none none) := wPS ps_doc fun D σ H ⟨w, env, hw, sr, z⟩ => by
  subst hw; exact z w σ Ext.refl ⟨_, rfl, sr⟩
theorem ps_retM (hr : weakB 0 ows' c.r = true) (he : PE X e (tV c f ows ows' c.ro q)) : PS X (.Return (some e) pos) (tS c (M.bind f fun d => M.ret (.rt d)) ows none none none) := by
  refine wPS (ps_ret he) fun D σ H ⟨w, env, hw, sr, z⟩ => ⟨w, env, hw, sr, ?_⟩
  unfold M.bind at z
  cases e1 : f env with
  | no => rw [e1] at z; exact z
  | ex n env1 => rw [e1] at z; exact fun w' x s => z w' σ x s
  | ok d env1 =>
    rw [e1] at z
    intro w1 v A x1 s1 r1 t1 k1
    obtain ⟨w2, x2, eh, s2⟩ := s1.weak hr
    have := z w2 σ v A (x1.trans x2) s2 (RO.ext s1 t1.f x2 r1) (Tmp.ext s1 t1 (fun a ha => r1.ne a ha) x1 x2)
    rw [eh] at this
    exact this
theorem ps_retNM (hr : weakB 0 ows c.r = true) : PS X (.Return none pos) (tS c (M.ret (.rt .non)) ows none none none) := by
  refine wPS ps_retN fun D σ H ⟨w, env, hw, sr, z⟩ => ?_
  subst hw
  obtain ⟨w2, x2, eh, s2⟩ := sr.weak hr
  have := z w2 σ .non (fun _ => False) x2 s2 RO.mknon Tmp.nil
  rw [eh] at this
  exact this
theorem ps_ifsM {ce : Expr} {a b : List Stmt} {fc : M Bool} (hc : PT X ce (tB_ c fc ows ows1 q)) (ha : PSs X a (tS c fs ows1 onx obk oct)) (hb : PSs X b (tS c gs ows1 onx obk oct)) :
    PS X (.If ce a b pos) (tS c (M.bind fc fun k => if k = true then fs else gs) ows onx obk oct) := by
  refine wPS (ps_if hc ha hb) fun D σ H z => ?_
  obtain ⟨w, env, hw, sr, z⟩ := tS_iff.mp z
  refine ⟨w, env, hw, sr, ?_⟩
  unfold M.bind at z
  cases e1 : fc env with
  | no => rw [e1] at z; exact z
  | ex n env1 => rw [e1] at z; exact fun w' x s => z w' σ x s
  | ok k env1 =>
    rw [e1] at z
    intro w1 x1 s1 k1
    cases k with
    | true =>
      rw [if_pos rfl]
      exact tS_iff.mpr ⟨w1, env1, rfl, s1, z.pre x1⟩
    | false =>
      rw [if_neg Bool.false_ne_true]
      exact tS_iff.mpr ⟨w1, env1, rfl, s1, z.pre x1⟩

/-! ### targets -/
/-- the slots are nobody's own any more -/
def frs : Ows → List Nat → Ows
  | o, [] => o
  | o, i :: is => frs (o.set i .fr) is
def tgN (c : Cc) (is : List Nat) (ows : Ows) : TGs := fun vs σ H Q => ∃ w env ds, w.H = H ∧ SR c.K c.pn ows env σ w ∧ Reps c.K w.H w.Z ds vs ∧ is.length = ds.length ∧ ∀ w' σ', Ext w w' → SR c.K c.pn (frs ows is) ((is.zip ds).foldl (fun e p => setS e p.1 p.2) env) σ' w' → Q σ' w'.H
def vName : Expr → Option Str
  | .Name x _ => some x
  | _ => none
theorem vName_eq {e : Expr} {x : Str} (h : vName e = some x) : ∃ p, e = .Name x p := by
  unfold vName at h
  split at h
  · cases h; exact ⟨_, rfl⟩
  · cases h
/-- the names of a target -/
def nmsOk (N : List Str) (sc : Scope) (pn : Nat → Bool) : List Nat → List Expr → Bool
  | [], [] => true
  | i :: is, e :: es => (match vName e with
    | some x => decide (N[i]? = some x) && decide (sc.names.lookup x = some .local) && !pn i
    | none => false) && nmsOk N sc pn is es
  | _, _ => false
theorem SR.bind {K : PySem.W.Frag} {pn : Pin} {env : Env} {σ : L2.St} {w : Wd} {i : Nat} {d : D} {v : V} (s : SR K pn ows env σ w) (r : Rep K w.H w.Z d v) (hp : pn i = none) : SR K pn (ows.set i .fr) (setS env i d) (σ.set i (some v)) (w.put i fun _ => False) :=
  s.put (o := .fr) i hp (fun j hj => owAt_set hj) owAt_self ⟨r, fun _ z => z⟩ (fun _ z => z.elim) (fun _ _ z => z.elim)
theorem Ext.bind {w : Wd} {i : Nat} : Ext w (w.put i fun _ => False) := Ext.refl.put Tmp.nil
theorem pgs_nms {pn : Nat → Bool} (hN : X.N.Nodup) (hpn : ∀ i, pn i = false → c.pn i = none) : ∀ {is : List Nat} {es : List Expr} {ows : Ows}, nmsOk X.N X.env.scope pn is es = true → PGs X es (tgN c is ows)
  | [], [], ows, _ => ⟨fun pins s σ H vs us Q I r ⟨w, env, ds, hw, sr, rp, hl, z⟩ => pgs_nil.run pins s σ H vs us Q I r (by
      have : ds = [] := List.eq_nil_of_length_eq_zero hl.symm
      subst this
      unfold Reps at rp
      subst hw
      exact ⟨rp, z w σ Ext.refl sr⟩)⟩
  | i :: is, e :: es, ows, h => by
    simp only [nmsOk, Bool.and_eq_true] at h
    obtain ⟨h0, h4⟩ := h
    cases hv : vName e with
    | none => rw [hv] at h0; cases h0
    | some x =>
      rw [hv] at h0
      simp only [Bool.and_eq_true, decide_eq_true_eq, Bool.not_eq_true'] at h0
      obtain ⟨⟨h1, h2⟩, h3⟩ := h0
      obtain ⟨px, rfl⟩ := vName_eq hv
      have ih := pgs_nms hN hpn (ows := ows.set i .fr) h4
      refine ⟨fun pins s σ H vs us Q I r ⟨w, env, ds, hw, sr, rp, hl, z⟩ => (pgs_cons (pg_name hN h1 (.inl h2) (.inr h2)) ih).run pins s σ H vs us Q I r ?_⟩
      cases ds with
      | nil => simp at hl
      | cons d ds =>
        unfold Reps at rp
        obtain ⟨v, vr, rfl, r1, r2⟩ := rp
        subst hw
        refine ⟨v, vr, rfl, w.put i (fun _ => False), setS env i d, ds, rfl, sr.bind r1 (hpn i h3), Reps.mono (fun _ z => z) (fun _ _ e _ => e) r2, by simpa using hl, fun w' σ' x s' => ?_⟩
        exact z w' σ' (Ext.bind.trans x) s'
  | [], _ :: _, _, h => by simp [nmsOk] at h
  | i :: is, [], _, h => by simp [nmsOk] at h
/-- a target gets frozen data -/
def tgT (c : Cc) (t : T) (ows : Ows) : TG := fun v σ H Q => ∃ w env d, w.H = H ∧ SR c.K c.pn ows env σ w ∧ Rep c.K w.H w.Z d v ∧ match asg t d env with
  | some env' => ∀ w' σ', Ext w w' → SR c.K c.pn (frs ows t.slots) env' σ' w' → Q σ' w'.H
  | none => False
theorem assignEach_len {es : List Expr} {env : PySem.Env} : (assignEach es env).length = es.length := by
  induction es with
  | nil => rfl
  | cons e es ih => cases e <;> simp only [assignEach, List.length_cons, ih]
theorem nms_len {N : List Str} {sc : Scope} {pn : Nat → Bool} : ∀ {is : List Nat} {es : List Expr}, nmsOk N sc pn is es = true → is.length = es.length
  | [], [], _ => rfl
  | i :: is, e :: es, h => by
    simp only [nmsOk, Bool.and_eq_true] at h
    simp [nms_len h.2]
  | [], _ :: _, h => by simp [nmsOk] at h
  | _ :: _, [], h => by simp [nmsOk] at h
theorem nms_star {N : List Str} {sc : Scope} {pn : Nat → Bool} {env : PySem.Env} : ∀ {is : List Nat} {es : List Expr}, nmsOk N sc pn is es = true → (assignEach es env).findIdx? (·.1) = none
  | [], [], _ => rfl
  | i :: is, e :: es, h => by
    simp only [nmsOk, Bool.and_eq_true] at h
    obtain ⟨h0, h4⟩ := h
    cases hv : vName e with
    | none => rw [hv] at h0; cases h0
    | some x =>
      obtain ⟨px, rfl⟩ := vName_eq hv
      show ((false, assign (.Name x px) env) :: assignEach es env).findIdx? (·.1) = none
      rw [List.findIdx?_cons]
      simp [nms_star h4]
  | [], _ :: _, h => by simp [nmsOk] at h
  | _ :: _, [], h => by simp [nmsOk] at h
def vTup : Expr → Option (List Expr)
  | .Tuple es _ _ => some es
  | _ => none
theorem vTup_eq {e : Expr} {x : List Expr} (h : vTup e = some x) : ∃ k p, e = .Tuple x k p := by
  unfold vTup at h
  split at h
  · cases h; exact ⟨_, _, rfl⟩
  · cases h
/-- the target of the text is this one -/
def tgOk (N : List Str) (sc : Scope) (pn : Nat → Bool) : T → Expr → Bool
  | .nm i, e => nmsOk N sc pn [i] [e]
  | .tp is, e => match vTup e with
    | some es => nmsOk N sc pn is es
    | none => false
theorem pg_tg {pn : Nat → Bool} (hc : X.calm = true) (hK : X.K = c.K) (hN : X.N.Nodup) (hpn : ∀ i, pn i = false → c.pn i = none) {t : T} {e : Expr} {ows : Ows} (h : tgOk X.N X.env.scope pn t e = true) : PG X e (tgT c t ows) := by
  cases t with
  | nm i =>
    simp only [tgOk, nmsOk, Bool.and_eq_true] at h
    obtain ⟨h0, h4⟩ := h
    cases hv : vName e with
    | none => rw [hv] at h0; cases h0
    | some x =>
      rw [hv] at h0
      simp only [Bool.and_eq_true, decide_eq_true_eq, Bool.not_eq_true'] at h0
      obtain ⟨⟨h1, h2⟩, h3⟩ := h0
      obtain ⟨px, rfl⟩ := vName_eq hv
      refine ⟨fun pins s σ H v u Q I r ⟨w, env, d, hw, sr, rp, z⟩ => (pg_name hN h1 (.inl h2) (.inr h2)).run pins s σ H v u Q I r ?_⟩
      subst hw
      exact z (w.put i fun _ => False) _ Ext.bind (sr.bind rp (hpn i h3))
  | tp is =>
    simp only [tgOk] at h
    cases hv : vTup e with
    | none => rw [hv] at h; cases h
    | some es =>
      rw [hv] at h
      obtain ⟨k, p, rfl⟩ := vTup_eq hv
      refine ⟨fun pins s σ H v u Q I r ⟨w, env, d, hw, sr, rp, z⟩ => (pg_tup hc (pgs_nms (c := c) hN hpn (ows := ows) h) (assignEach_len) (nms_star h)).run pins s σ H v u Q I r ?_⟩
      cases d with
      | tup ds =>
        unfold Rep at rp
        obtain ⟨a, xs, rfl, h1, h2⟩ := rp
        simp only [asg] at z
        by_cases hl : is.length = ds.length
        · rw [if_pos hl] at z
          refine ⟨a, xs, rfl, ?_, ?_, w, env, ds, hw, sr, h2, hl, z⟩
          · rw [hK, ← hw]; exact h1
          · rw [h2.len, ← hl, nms_len h]
        · rw [if_neg hl] at z; exact z.elim
      | _ => exact z.elim

/-! ### while -/
theorem ps_whileM {ce : Expr} {body : List Stmt} {fc : M Bool} {oh : Ows} (hp : PassesOwn (model X.prog X.w) X.A X.env X.xe) (hc : PT X ce (tB_ c fc oh ows1 q)) (hb : PSs X body (tS c fs ows1 onx obk oct)) (h0 : weakB 0 ows oh = true) (h1 : wk onx (some oh) = true) (h2 : wk oct (some oh) = true)
    {oj : Ows} (h3 : weakB 0 ows1 oj = true) (h4 : wk obk (some oj) = true) : PS X (.While ce body [] pos) (tS c (whileL fc fs FUEL) ows (some oj) none none) := by
  refine wPS (ps_while hp hc hb) fun D σ H z => ?_
  obtain ⟨w, env, hw, sr, z2⟩ := tS_iff.mp (z.ahead h0)
  clear z
  subst hw
  refine ⟨fun m σ' H' => ∃ w' env', w'.H = H' ∧ SR c.K c.pn oh env' σ' w' ∧ tSz c w' σ' D (some oj) none none (whileL fc fs m env'), ⟨FUEL, w, env, rfl, sr, z2⟩, ?_⟩
  rintro m σ1 H1 ⟨w1, env1, rfl, s1, z1⟩
  cases m with
  | zero => exact z1.elim
  | succ m =>
    refine ⟨w1, env1, rfl, s1, ?_⟩
    unfold whileL at z1
    cases e1 : fc env1 with
    | no => rw [e1] at z1; exact z1
    | ex n env2 => rw [e1] at z1; exact fun w' x s => z1 w' σ1 x s
    | ok k env2 =>
      rw [e1] at z1
      intro w2 x2 s2 k2
      cases k with
      | false =>
        rw [if_neg Bool.false_ne_true]
        obtain ⟨w3, x3, eh, s3⟩ := s2.weak h3
        have := z1 w3 σ1 (x2.trans x3) ⟨_, rfl, s3⟩
        rw [eh] at this; exact this
      | true =>
        rw [if_pos rfl]
        simp only at z1
        refine ⟨fun σ' H' => ∃ w' env', w'.H = H' ∧ SR c.K c.pn oh env' σ' w' ∧ tSz c w' σ' D (some oj) none none (whileL fc fs m env'), fun σ' H' hh => ⟨m, Nat.lt_succ_self m, hh⟩, ?_⟩
        refine tS_iff.mpr ⟨w2, env2, rfl, s2, ?_⟩
        cases e2 : fs env2 with
        | no => rw [e2] at z1; exact z1
        | ex n env3 => rw [e2] at z1; exact fun w' σ' x s => z1 w' σ' (x2.trans x) s
        | ok r env3 =>
          rw [e2] at z1
          cases r with
          | nx =>
            intro w3 σ3 x3 s3
            obtain ⟨w4, x4, eh, o4, h, s4⟩ := s3.weak h1
            cases h
            exact ⟨w4, env3, eh, s4, z1.pre ((x2.trans x3).trans x4)⟩
          | ct =>
            intro w3 σ3 x3 s3
            obtain ⟨w4, x4, eh, o4, h, s4⟩ := s3.weak h2
            cases h
            exact ⟨w4, env3, eh, s4, z1.pre ((x2.trans x3).trans x4)⟩
          | bk =>
            intro w3 σ3 x3 s3
            obtain ⟨w4, x4, eh, s4⟩ := s3.weak h4
            have := z1 w4 σ3 ((x2.trans x3).trans x4) s4
            rw [eh] at this; exact this
          | rt d => exact fun w' σ' v A x s ro t => z1 w' σ' v A (x2.trans x) s ro (t.pre x2)

/-! ### for -/
/-- the iterator yields these -/
def Src (c : Cc) (J : It) (ds : List D) (w0 : Wd) : Prop := ∀ (w : Wd) (ows : Ows) (env : Env) (σ : L2.St), Ext w0 w → SR c.K c.pn ows env σ w → ∀ k : Nat,
  (∀ d, ds[k]? = some d → J.go k w.H ∧ ∀ x H', J.yld k w.H x H' → ∃ w', w'.H = H' ∧ Alloc w w' (fun _ => False) ∧ Rep c.K w'.H w'.Z d x) ∧ (ds.length ≤ k → J.stop k w.H)
def tI (c : Cc) (f : M (List D)) (ows ows' : Ows) : TI := fun σ H R => ∃ w env, w.H = H ∧ SR c.K c.pn ows env σ w ∧ match f env with
  | .ok ds env' => ∀ w' J, Ext w w' → SR c.K c.pn ows' env' σ w' → Src c J ds w' → R J w'.H
  | .ex n env' => exK c σ w n env'
  | .no => False
theorem wPI {X : Cx} {tg e : Expr} {t t' : TI} (h : PI X tg e t) (k : ∀ σ H Q, t' σ H Q → t σ H Q) : PI X tg e t' := ⟨fun pins s σ H Q I q => h.run pins s σ H Q I (k σ H Q q)⟩
theorem ps_forM {t : T} {tg it : Expr} {body : List Stmt} {fi : M (List D)} {oh : Ows} (hp : PassesOwn (model X.prog X.w) X.A X.env X.xe) (hcm : X.calm = true) (hi : PI X tg it (tI c fi ows ows1)) (hg : PG X tg (tgT c t oh)) (hb : PSs X body (tS c fs (frs oh t.slots) onx obk oct)) (hs : ∀ x, foldedSetIterable it X.env x = pure x)
    (h0 : weakB 0 ows1 oh = true) (h1 : wk onx (some oh) = true) (h2 : wk oct (some oh) = true) {oj : Ows} (h3 : weakB 0 oh oj = true) (h4 : wk obk (some oj) = true) :
    PS X (.For tg it body [] pos) (tS c (M.bind fi fun ds => forL (fun _ => true) t fs ds) ows (some oj) none none) := by
  refine wPS (ps_for hp hcm hi hg hb hs) fun D σ H z => ?_
  obtain ⟨w, env, hw, sr, z⟩ := tS_iff.mp z
  refine ⟨w, env, hw, sr, ?_⟩
  unfold M.bind at z
  cases e1 : fi env with
  | no => rw [e1] at z; exact z
  | ex n env1 => rw [e1] at z; exact fun w' x s => z w' σ x s
  | ok ds env1 =>
    rw [e1] at z
    intro w1 J x1 s1 src
    obtain ⟨w2, x2, eh, s2⟩ := s1.weak h0
    rw [← eh]
    have z2 := z.pre (σ1 := σ) (x1.trans x2)
    refine ⟨fun i m σ' H' => m = ds.length - i ∧ i ≤ ds.length ∧ ∃ w' env', w'.H = H' ∧ Ext w1 w' ∧ SR c.K c.pn oh env' σ' w' ∧ tSz c w' σ' D (some oj) none none (forL (fun _ => true) t fs (ds.drop i) env'), ⟨_, rfl, Nat.zero_le _, w2, env1, rfl, x2, s2, z2⟩, ?_⟩
    rintro i m σ3 H3 ⟨rfl, hi3, w3, env3, rfl, x3, s3, z3⟩
    obtain ⟨sg, ss⟩ := src w3 oh env3 σ3 x3 s3 i
    by_cases hlt : i < ds.length
    · have hd : ds[i]? = some ds[i] := List.getElem?_eq_getElem hlt
      obtain ⟨g1, g2⟩ := sg _ hd
      refine .inr ⟨g1, fun σ' H' => ∃ w' env', w'.H = H' ∧ Ext w1 w' ∧ SR c.K c.pn oh env' σ' w' ∧ tSz c w' σ' D (some oj) none none (forL (fun _ => true) t fs (ds.drop (i + 1)) env'), fun σ' H' hh => ⟨ds.length - (i + 1), by omega, rfl, hlt, hh⟩, fun x H' y => ?_⟩
      obtain ⟨w4, rfl, al, rp⟩ := g2 x H' y
      rw [List.drop_eq_getElem_cons hlt] at z3
      simp only [forL, if_true] at z3
      refine ⟨w4, env3, ds[i], rfl, al.sr s3, rp, ?_⟩
      cases e2 : asg t ds[i] env3 with
      | none => rw [e2] at z3; exact z3
      | some env4 =>
        rw [e2] at z3
        simp only at z3 ⊢
        intro w5 σ5 x5 s5
        have x35 := al.ext.trans x5
        refine tS_iff.mpr ⟨w5, env4, rfl, s5, ?_⟩
        cases e3 : fs env4 with
        | no => rw [e3] at z3; exact z3
        | ex n env5 => rw [e3] at z3; exact fun w' σ' x s => z3 w' σ' (x35.trans x) s
        | ok r env5 =>
          rw [e3] at z3
          cases r with
          | nx =>
            intro w6 σ6 x6 s6
            obtain ⟨w7, x7, eh7, o7, h, s7⟩ := s6.weak h1
            cases h
            exact ⟨w7, env5, eh7, ((x3.trans x35).trans x6).trans x7, s7, z3.pre ((x35.trans x6).trans x7)⟩
          | ct =>
            intro w6 σ6 x6 s6
            obtain ⟨w7, x7, eh7, o7, h, s7⟩ := s6.weak h2
            cases h
            exact ⟨w7, env5, eh7, ((x3.trans x35).trans x6).trans x7, s7, z3.pre ((x35.trans x6).trans x7)⟩
          | bk =>
            intro w6 σ6 x6 s6
            obtain ⟨w7, x7, eh7, s7⟩ := s6.weak h4
            have := z3 w7 σ6 ((x35.trans x6).trans x7) s7
            rw [eh7] at this; exact this
          | rt d => exact fun w' σ' v A x s ro t => z3 w' σ' v A (x35.trans x) s ro (t.pre x35)
    · have e : i = ds.length := by omega
      subst e
      rw [List.drop_length] at z3
      simp only [forL, if_true] at z3
      refine .inl ⟨ss (Nat.le_refl _), ?_⟩
      obtain ⟨w7, x7, eh7, s7⟩ := s3.weak h3
      have := z3 w7 σ3 x7 ⟨_, rfl, s7⟩
      rw [eh7] at this; exact this
end
end Mp
/-! Mp11: what loops walk. -/
namespace Mp
open PySem PySem.Spec PyProof.Rows L2
section
variable {X : Cx} {c : Cc} {f : M D} {fs : M (List D)} {ows ows1 ows2 ows' : Ows} {o : Ow} {q : Bool} {e tg : Expr} {pos : Pos}
theorem PIor {X : Cx} {tg e : Expr} {t t' : TI} (h : PI X tg e t) (h' : PI X tg e t') : PI X tg e (fun σ H Q => t σ H Q ∨ t' σ H Q) := ⟨fun pins s σ H Q I z => z.elim (h.run pins s σ H Q I) (h'.run pins s σ H Q I)⟩
theorem Src.still {c : Cc} {J : It} {ds : List D} {w0 : Wd} (h : ∀ (w : Wd), (∀ {d : D} {v : V}, Rep c.K w0.H w0.Z d v → Rep c.K w.H w.Z d v) → ∀ k : Nat, (∀ d, ds[k]? = some d → J.go k w.H ∧ ∀ x H', J.yld k w.H x H' → H' = w.H ∧ Rep c.K w.H w.Z d x) ∧ (ds.length ≤ k → J.stop k w.H))
    {ows0 : Ows} {env0 : Env} {σ0 : L2.St} (s0 : SR c.K c.pn ows0 env0 σ0 w0) : Src c J ds w0 := fun w ows env σ x s k => by
  obtain ⟨h1, h2⟩ := h w (fun r => Rep.ext s0 x r) k
  refine ⟨fun d e => ⟨(h1 d e).1, fun v H' y => ?_⟩, h2⟩
  obtain ⟨e1, e2⟩ := (h1 d e).2 v H' y
  exact ⟨w, e1.symm, Alloc.refl, e2⟩
/-- a list nobody changes -/
theorem src_lst {ds : List D} {a : Addr} {w0 : Wd} (r : Rep c.K w0.H w0.Z (.lst ds) (.ref a)) {ows0 : Ows} {env0 : Env} {σ0 : L2.St} (s0 : SR c.K c.pn ows0 env0 σ0 w0) : Src c (Itl c.K a) ds w0 := Src.still (fun w kp k => by
  have r' := kp r
  unfold Rep at r'
  obtain ⟨a', xs, e, h1, h2⟩ := r'
  cases e
  have hq : SqL c.K w.H a xs := SqL.of h1.2
  refine ⟨fun d e => ?_, fun hk => ⟨xs, hq, by rw [h2.len]; exact hk⟩⟩
  obtain ⟨x, e1, r1⟩ := h2.get e
  refine ⟨⟨xs, x, hq, e1⟩, fun v H' y => ?_⟩
  obtain ⟨rfl, y⟩ := y
  have := y xs hq
  rw [e1] at this; cases this
  exact ⟨rfl, r1⟩) s0
theorem src_rol {ds : List D} {a : Addr} {w0 : Wd} (r : Rep c.K w0.H w0.Z (.rol ds) (.ref a)) {ows0 : Ows} {env0 : Env} {σ0 : L2.St} (s0 : SR c.K c.pn ows0 env0 σ0 w0) : Src c (Itl c.K a) ds w0 := Src.still (fun w kp k => by
  have r' := kp r
  unfold Rep at r'
  obtain ⟨a', xs, e, h1, h2⟩ := r'
  cases e
  refine ⟨fun d e => ?_, fun hk => ⟨xs, h1.sq, by rw [h2.len]; exact hk⟩⟩
  obtain ⟨x, e1, r1⟩ := h2.get e
  refine ⟨⟨xs, x, h1.sq, e1⟩, fun v H' y => ?_⟩
  obtain ⟨rfl, y⟩ := y
  have := y xs h1.sq
  rw [e1] at this; cases this
  exact ⟨rfl, r1⟩) s0
theorem src_tup {ds : List D} {a : Addr} {w0 : Wd} (r : Rep c.K w0.H w0.Z (.tup ds) (.ref a)) {ows0 : Ows} {env0 : Env} {σ0 : L2.St} (s0 : SR c.K c.pn ows0 env0 σ0 w0) : Src c (Itt c.K a) ds w0 := Src.still (fun w kp k => by
  have r' := kp r
  unfold Rep at r'
  obtain ⟨a', xs, e, h1, h2⟩ := r'
  cases e
  refine ⟨fun d e => ?_, fun hk => ⟨xs, h1, by rw [h2.len]; exact hk⟩⟩
  obtain ⟨x, e1, r1⟩ := h2.get e
  refine ⟨⟨xs, x, h1, e1⟩, fun v H' y => ?_⟩
  obtain ⟨rfl, y⟩ := y
  have := y xs h1
  rw [e1] at this; cases this
  exact ⟨rfl, r1⟩) s0
theorem src_str {x : Str} {w0 : Wd} {ows0 : Ows} {env0 : Env} {σ0 : L2.St} (s0 : SR c.K c.pn ows0 env0 σ0 w0) : Src c (Its x) (x.cps.toList.map fun c => .str ⟨#[c]⟩) w0 := Src.still (fun w kp k => by
  refine ⟨fun d e => ?_, fun hk => by
    show x.cps.size ≤ k
    simpa using hk⟩
  rw [List.getElem?_map] at e
  obtain ⟨p, e1, rfl⟩ := Option.map_eq_some_iff.mp e
  have e2 : x.cps[k]? = some p := by rw [← Array.getElem?_toList]; exact e1
  refine ⟨?_, fun v H' y => ?_⟩
  · obtain ⟨h, _⟩ := Array.getElem?_eq_some_iff.mp e2
    exact h
  · obtain ⟨rfl, c', e3, rfl⟩ := y
    rw [e2] at e3; cases e3
    exact ⟨rfl, rfl⟩) s0
theorem rngD_at : ∀ {lo : Int} {n k : Nat}, (rngD lo n)[k]? = if k < n then some (.int (lo + k)) else none
  | lo, 0, k => by simp [rngD]
  | lo, n + 1, 0 => by simp [rngD]
  | lo, n + 1, k + 1 => by
    rw [rngD, List.getElem?_cons_succ, rngD_at]
    by_cases h : k < n
    · rw [if_pos h, if_pos (by omega)]
      congr 2
      omega
    · rw [if_neg h, if_neg (by omega)]
theorem rngD_len : ∀ {lo : Int} {n : Nat}, (rngD lo n).length = n
  | lo, 0 => rfl
  | lo, n + 1 => by rw [rngD, List.length_cons, rngD_len]
theorem src_rng {lo : Int} {n : Nat} {w0 : Wd} {ows0 : Ows} {env0 : Env} {σ0 : L2.St} (s0 : SR c.K c.pn ows0 env0 σ0 w0) : Src c (Itr lo n) (rngD lo n) w0 := Src.still (fun w kp k => by
  refine ⟨fun d e => ?_, fun hk => by rw [rngD_len] at hk; exact hk⟩
  rw [rngD_at] at e
  split at e
  · rename_i hk
    cases e
    refine ⟨hk, fun v H' y => ?_⟩
    obtain ⟨rfl, rfl⟩ := y
    exact ⟨rfl, rfl⟩
  · cases e) s0
theorem src_rngD {lo : Int} {n : Nat} {w0 : Wd} {ows0 : Ows} {env0 : Env} {σ0 : L2.St} (s0 : SR c.K c.pn ows0 env0 σ0 w0) : Src c (Itc (lo + n) (-1) n) ((rngD (lo + 1) n).reverse) w0 := Src.still (fun w kp k => by
  refine ⟨fun d e => ?_, fun hk => by rw [List.length_reverse, rngD_len] at hk; exact hk⟩
  have hk : k < n := by
    have := (List.getElem?_eq_some_iff.mp e).1
    rw [List.length_reverse, rngD_len] at this
    exact this
  rw [List.getElem?_reverse (by rw [rngD_len]; exact hk), rngD_len, rngD_at, if_pos (by omega)] at e
  cases e
  refine ⟨hk, fun v H' y => ?_⟩
  obtain ⟨rfl, rfl⟩ := y
  refine ⟨rfl, ?_⟩
  unfold Rep
  congr 1
  omega) s0

/-! ### the forms -/
/-- a value walked -/
theorem pi_seq (hK : X.K = c.K) (h : PE X e (tV c f ows ows' .fr q)) : PI X tg e (tI c (M.bind f fun d => M.opt (itF .seq [d])) ows ows') := by
  refine wPI (PIor (pi_list h) (PIor (pi_tup h) (pi_str h))) fun σ H R ⟨w, env, hw, sr, z⟩ => ?_
  unfold M.bind at z
  have mk : ∀ {Q : VK}, (match f env with
      | .ok d env' => ∀ w' v A, Ext w w' → SR c.K c.pn ows' env' σ w' → RO c.K w'.H w'.Z .fr d v A → Tmp w w' A → (q = true → Quiet w w') → Q v w'.H
      | .ex n env' => exK c σ w n env'
      | .no => False) → tV c f ows ows' .fr q σ H Q := fun z => ⟨w, env, hw, sr, z⟩
  cases e1 : f env with
  | no => rw [e1] at z; exact z.elim
  | ex n env1 => rw [e1] at z; exact .inl (mk (by rw [e1]; exact z))
  | ok d env1 =>
    rw [e1] at z
    cases d with
    | lst ds =>
      refine .inl (mk ?_)
      rw [e1]
      intro w1 v A x1 s1 r1 _ _
      obtain ⟨a, xs, rfl, h1, h2⟩ := r1.lst
      exact ⟨a, rfl, ⟨xs, SqL.of h1⟩, by rw [hK]; exact z w1 _ x1 s1 (src_lst r1.1 s1)⟩
    | tup ds =>
      refine .inr (.inl (mk ?_))
      rw [e1]
      intro w1 v A x1 s1 r1 _ _
      obtain ⟨a, xs, rfl, h1, h2⟩ := r1.tup
      exact ⟨a, rfl, ⟨xs, by rw [hK]; exact h1⟩, by rw [hK]; exact z w1 _ x1 s1 (src_tup r1.1 s1)⟩
    | str x =>
      refine .inr (.inr (mk ?_))
      rw [e1]
      intro w1 v A x1 s1 r1 _ _
      exact ⟨x, r1.str, z w1 _ x1 s1 (src_str s1)⟩
    | _ => exact z.elim
theorem ROR.three {K : PySem.W.Frag} {H : Hp} {Z : AS} {os : List Ow} {d d2 d3 : D} {vs : List V} (h : ROR K H Z os [d, d2, d3] vs) : ∃ o v A o2 v2 A2 o3 v3 A3, os = [o, o2, o3] ∧ vs = [v, v2, v3] ∧ RO K H Z o d v A ∧ RO K H Z o2 d2 v2 A2 ∧ RO K H Z o3 d3 v3 A3 := by
  match os, vs, h with
  | o :: os, v :: vs, h =>
    obtain ⟨o2, v2, A2, o3, v3, A3, rfl, rfl, h2, h3⟩ := ROR.two h.2
    obtain ⟨⟨A, r⟩, _⟩ := h
    exact ⟨o, v, A, o2, v2, A2, o3, v3, A3, rfl, rfl, r, h2, h3⟩
  | [], _, h => exact h.elim
  | _ :: _, [], h => exact h.elim
theorem b62 {i : Int} (h : B62 i = true) : -(2 ^ 62) ≤ i ∧ i < 2 ^ 62 := by
  unfold B62 at h
  simp only [Bool.and_eq_true, decide_eq_true_eq] at h
  exact h
theorem pi_rng1 {a : Expr} {p : Pos} {os : List Ow} (hg : Gl X "range") (hm : X.mg "range" = none) (ha : PA X [a] (tAR c fs ows ows' os q)) (hs : noStar a = true) (hl : ∀ env ds env', fs env = .ok ds env' → ds.length = 1) :
    PI X tg (.Call (.Name "range" p) [a] [] pos) (tI c (M.bind fs fun ds => M.opt (itF .rng ds)) ows ows') := by
  refine wPI (pi_range1 hg hm ha (star_cons hs)) fun σ H R ⟨w, env, hw, sr, z⟩ => ⟨w, env, hw, sr, ?_⟩
  unfold M.bind at z
  cases e1 : fs env with
  | no => rw [e1] at z; exact z.elim
  | ex n env1 => rw [e1] at z; exact z
  | ok ds env1 =>
    rw [e1] at z
    intro w1 vs x1 s1 r1 k1
    have h1 := hl _ _ _ e1
    match ds, h1 with
    | [d], _ =>
      obtain ⟨o, v, A, rfl, rfl, r⟩ := r1.one
      cases d with
      | int j =>
        simp only [M.opt, itF] at z
        by_cases hb : B62 j = true
        · rw [if_pos hb] at z
          have := b62 hb
          exact ⟨j, by rw [r.int], this.1, this.2, z w1 _ x1 s1 (src_rng s1)⟩
        · rw [if_neg hb] at z; exact z.elim
      | _ => exact z.elim
theorem pi_rng2 {a b : Expr} {p : Pos} {os : List Ow} (hg : Gl X "range") (hm : X.mg "range" = none) (ha : PA X [a, b] (tAR c fs ows ows' os q)) (hs : noStar a = true) (hs2 : noStar b = true) (hl : ∀ env ds env', fs env = .ok ds env' → ds.length = 2) :
    PI X tg (.Call (.Name "range" p) [a, b] [] pos) (tI c (M.bind fs fun ds => M.opt (itF .rng ds)) ows ows') := by
  refine wPI (pi_range2 hg hm ha (by rw [star_cons hs, star_cons hs2]; rfl) (by rw [star_cons hs2]; rfl)) fun σ H R ⟨w, env, hw, sr, z⟩ => ⟨w, env, hw, sr, ?_⟩
  unfold M.bind at z
  cases e1 : fs env with
  | no => rw [e1] at z; exact z.elim
  | ex n env1 => rw [e1] at z; exact z
  | ok ds env1 =>
    rw [e1] at z
    intro w1 vs x1 s1 r1 k1
    have h1 := hl _ _ _ e1
    match ds, h1 with
    | [d, d2], _ =>
      obtain ⟨o, v, A, o2, v2, A2, rfl, rfl, r, r2⟩ := r1.two
      cases d with
      | int i =>
        cases d2 with
        | int j =>
          simp only [M.opt, itF] at z
          by_cases hb : (B62 i && B62 j) = true
          · rw [if_pos hb] at z
            simp only [Bool.and_eq_true] at hb
            have h1 := b62 hb.1
            have h2 := b62 hb.2
            exact ⟨i, j, by rw [r.int, r2.int], ⟨h1.1, h1.2, h2.1, h2.2⟩, z w1 _ x1 s1 (src_rng s1)⟩
          · rw [if_neg hb] at z; exact z.elim
        | _ => exact z.elim
      | _ => exact z.elim
theorem pi_rng3 {a b d : Expr} {p : Pos} {os : List Ow} (hg : Gl X "range") (hm : X.mg "range" = none) (ha : PA X [a, b, d] (tAR c fs ows ows' os q)) (hs : noStar a = true) (hs2 : noStar b = true) (hs3 : noStar d = true) (hl : ∀ env ds env', fs env = .ok ds env' → ds.length = 3) :
    PI X tg (.Call (.Name "range" p) [a, b, d] [] pos) (tI c (M.bind fs fun ds => M.opt (itF .rng ds)) ows ows') := by
  refine wPI (pi_range3 hg hm ha (star_cons hs) (by rw [star_cons hs2, star_cons hs3]; rfl)) fun σ H R ⟨w, env, hw, sr, z⟩ => ⟨w, env, hw, sr, ?_⟩
  unfold M.bind at z
  cases e1 : fs env with
  | no => rw [e1] at z; exact z.elim
  | ex n env1 => rw [e1] at z; exact z
  | ok ds env1 =>
    rw [e1] at z
    intro w1 vs x1 s1 r1 k1
    have h1 := hl _ _ _ e1
    match ds, h1 with
    | [d, d2, d3], _ =>
      obtain ⟨o, v, A, o2, v2, A2, o3, v3, A3, rfl, rfl, r, r2, r3⟩ := r1.three
      cases d with
      | int i =>
        cases d2 with
        | int j =>
          cases d3 with
          | int k =>
            simp only [M.opt, itF] at z
            by_cases hb : (B62 i && B62 j && decide (k = -1)) = true
            · rw [if_pos hb] at z
              simp only [Bool.and_eq_true, decide_eq_true_eq] at hb
              have h1 := b62 hb.1.1
              have h2 := b62 hb.1.2
              rw [hb.2] at r3
              refine ⟨i, j, -1, (i - j).toNat, by rw [r.int, r2.int, r3.int], RgC.neg h1.1 h1.2 h2.1 h2.2, z w1 _ x1 s1 ?_⟩
              by_cases hij : j ≤ i
              · have e := src_rngD (c := c) (lo := j) (n := (i - j).toNat) s1
                have e2 : j + ((i - j).toNat : Int) = i := by omega
                rw [e2] at e
                exact e
              · have e0 : (i - j).toNat = 0 := by omega
                rw [e0]
                exact Src.still (fun w kp k => ⟨fun d e => by simp [rngD] at e, fun _ => Nat.zero_le _⟩) s1
            · rw [if_neg hb] at z; exact z.elim
          | _ => exact z.elim
        | _ => exact z.elim
      | _ => exact z.elim
end
end Mp
/-! Mp12: operators by their table; in; isinstance; tests. -/
namespace Mp
open PySem PySem.Spec PyProof.Rows L2

def opB : BO → Operator
  | .add => .Add
  | .sub => .Sub
  | .mul => .Mult
  | .fdiv => .FloorDiv
  | .mod => .Mod
  | .pow => .Pow
def opC : CO → CmpOp
  | .eq => .Eq
  | .ne => .NotEq
  | .lt => .Lt
  | .le => .LtE
  | .gt => .Gt
  | .ge => .GtE
  | .isn => .Is
  | .isnn => .IsNot
  | .in_ => .In
  | .nin => .NotIn
section
variable {X : Cx} {c : Cc} {f g fa fb fd : M D} {ows ows1 ows2 ows' : Ows} {o o1 o2 oa ob od : Ow} {q q1 q2 : Bool} {e pe a b d : Expr} {pos : Pos}
theorem pv_bin {k : BO} (hK : X.K = c.K) (ha : PE X a (tR c fa ows ows1 o1 q)) (hb : PE X b (tR c fb ows1 ows2 o2 true)) (s1 : shal o1 = true) (s2 : shal o2 = true) : PE X (.BinOp a (opB k) b pos) (tV c (op2 (binD k) fa fb) ows ows2 (.ow .fr) q) := by
  cases k with
  | add => exact pe_ok2 ha hb (fun h1 h2 => pe_op (r := rAddA c.K) (by rw [← hK]; exact op_addA) h1 h2) (ok_add s1 s2)
  | sub => exact pe_ok2 ha hb (fun h1 h2 => pe_op op_sub h1 h2) ok_sub
  | mul => exact pe_ok2 ha hb (fun h1 h2 => pe_op op_mulA h1 h2) (ok_mul s1)
  | fdiv => exact pe_ok2 ha hb (fun h1 h2 => pe_op op_fdiv h1 h2) ok_fdiv
  | mod => exact pe_ok2 ha hb (fun h1 h2 => pe_op op_mod h1 h2) ok_mod
  | pow => exact pe_ok2 ha hb (fun h1 h2 => pe_op op_pow h1 h2) ok_pow
theorem toPs_any {p : PyData → Bool} : ∀ {ys : List D}, (D.toPs ys).any p = ys.any fun y => p y.toP
  | [] => rfl
  | y :: ys => by simp only [D.toPs, List.any_cons, toPs_any]
theorem valV_at {κ : Type} [DecidableEq κ] : ∀ {kvs : List (κ × V)} {k : κ} {x : V} {j : Nat}, (kvs.map (·.1)).Nodup → kvs[j]? = some (k, x) → valV kvs k = some x
  | [], _, _, _, _, h => by simp at h
  | p :: r, k, x, 0, _, h => by
    simp at h
    subst h
    exact valV_pos rfl
  | p :: r, k, x, j + 1, nd, h => by
    simp at h
    rw [List.map_cons, List.nodup_cons] at nd
    have hm : k ∈ r.map (·.1) := List.mem_map.mpr ⟨(k, x), List.mem_of_getElem? h, rfl⟩
    have ne : p.1 ≠ k := fun e => nd.1 (e ▸ hm)
    have ih := valV_at nd.2 h
    unfold valV at ih ⊢
    rw [List.find?_cons, decide_eq_false ne]
    exact ih
theorem valV_no {κ : Type} [DecidableEq κ] {kvs : List (κ × V)} {k : κ} (h : ∀ p, p ∈ kvs → p.1 ≠ k) : valV kvs k = none := by
  unfold valV
  rw [List.find?_eq_none.mpr fun p hp => by simpa using h p hp]
  rfl
theorem kd_of {k : D} (h : keyD false k = true) : ∃ key : Key, k = kD key ∧ ∀ (K : PySem.W.Frag) (H : Hp) (Z : AS) (o : Ow) (v : V) (A : AS), RO K H Z o k v A → v = kV key := by
  cases k <;> first | cases h | skip
  · exact ⟨.inl _, rfl, fun _ _ _ _ _ _ r => r.int⟩
  · exact ⟨.inr _, rfl, fun _ _ _ _ _ _ r => r.str⟩
theorem nodup_kd {kvs : List (Key × V)} (h : (kvs.map fun p => kD p.1).Nodup) : (kvs.map (·.1)).Nodup := by
  rw [List.Nodup, List.pairwise_map] at h ⊢
  exact h.imp fun h e => h (by rw [e])
/-- a key looked up -/
theorem dk_get {H : Hp} {a : Addr} {ks : List D} {xs : List V} {key : Key} (h : DcAt H a false ks xs) : ∃ kvs, H a = some (.dK kvs) ∧ xs.length = ks.length ∧ (∀ (j : Nat) (x : V), ks[j]? = some (kD key) → xs[j]? = some x → valV kvs key = some x) ∧ ((∀ j : Nat, ks[j]? ≠ some (kD key)) → valV kvs key = none) := by
  obtain ⟨nd, ⟨_, kvs, h1, h2, h3⟩ | ⟨e, _⟩⟩ := h
  · refine ⟨kvs, h1, by rw [h2, h3]; simp, fun j x e1 e2 => ?_, fun hn => valV_no fun p hp e => ?_⟩
    · have hk : KeyK ks kvs := h2
      unfold KeyK at hk
      subst hk h3
      rw [List.getElem?_map] at e1 e2
      obtain ⟨p, e3, e4⟩ := Option.map_eq_some_iff.mp e1
      rw [e3] at e2
      cases e2
      have := kD_inj e4
      subst this
      exact valV_at (nodup_kd nd) e3
    · obtain ⟨j, hj⟩ := List.mem_iff_getElem?.mp hp
      refine hn j ?_
      have hk : KeyK ks kvs := h2
      unfold KeyK at hk
      rw [hk, List.getElem?_map, hj, ← e]
      rfl
  · cases e
theorem dGet_no : ∀ {ks vs : List D} {k : D}, vs.length = ks.length → dGet ks vs k = none → ∀ j : Nat, ks[j]? ≠ some k
  | [], _, _, _, _, j => by simp
  | _ :: _, [], _, h, _, _ => by simp at h
  | k0 :: ks, v0 :: vs, k, h, e, j => by
    unfold dGet at e
    split at e
    · cases e
    · rename_i ne
      cases j with
      | zero => simpa using ne
      | succ j =>
        rw [List.getElem?_cons_succ]
        exact dGet_no (by simpa using h) e j
abbrev rDIn : R2 := fun x y H Q => ∃ a o, y = .ref a ∧ DGet H a x o ∧ Q (.bl o.isSome) H
abbrev rDNin : R2 := fun x y H Q => ∃ a o, y = .ref a ∧ DGet H a x o ∧ Q (.bl (!o.isSome)) H
theorem op_dIn (hu : X.A.units + 1 < cLine) : OpR X (compareOp .In) rDIn := by
  intro pins s σ H x y v u Q I rx ry h
  obtain ⟨a, o, rfl, g, q⟩ := h
  cases ry
  exact d_in hu I g rx fun s3 I3 => ⟨.bl o.isSome, H, I3, rfl, q⟩
theorem op_dNin (hu : X.A.units + 1 < cLine) : OpR X (compareOp .NotIn) rDNin := by
  intro pins s σ H x y v u Q I rx ry h
  obtain ⟨a, o, rfl, g, q⟩ := h
  cases ry
  exact d_notIn hu I g rx fun s3 I3 => ⟨.bl (!o.isSome), H, I3, rfl, q⟩
abbrev rInA (K : PySem.W.Frag) : R2 := fun x y H Q => rInD K x y H Q ∨ (∃ i j, x = .str i ∧ y = .str j ∧ Q (.bl (!(Builtin.Str.occurrences j i 0 j.length 1).isEmpty)) H) ∨ rIn K false x y H Q ∨ rDIn x y H Q
abbrev rNinA (K : PySem.W.Frag) : R2 := fun x y H Q => rNotInD K x y H Q ∨ (∃ i j, x = .str i ∧ y = .str j ∧ Q (.bl (!(!(Builtin.Str.occurrences j i 0 j.length 1).isEmpty))) H) ∨ rIn K true x y H Q ∨ rDNin x y H Q
theorem plain_rep {K : PySem.W.Frag} {H : Hp} {Z : AS} {x y : D} {v u : V} (hx : x.plain = true) (hy : y.plain = true) (r1 : Rep K H Z x v) (r2 : Rep K H Z y u) : flatV v = true ∧ flatV u = true ∧ eqV u v = eqF y x := by
  cases x <;> first | (cases hx; done) | skip
  all_goals (cases y <;> first | (cases hy; done) | skip)
  all_goals (unfold Rep at r1 r2; subst r1 r2; exact ⟨rfl, rfl, rfl⟩)
theorem plain_all {K : PySem.W.Frag} {H : Hp} {Z : AS} {x : D} {v : V} (hx : x.plain = true) (r1 : Rep K H Z x v) : ∀ {ys : List D} {us : List V}, ys.all D.plain = true → Reps K H Z ys us → us.all flatV = true ∧ (us.any fun u => eqV u v) = ys.any fun y => eqF y x
  | [], _, _, h => by unfold Reps at h; subst h; exact ⟨rfl, rfl⟩
  | y :: ys, us, hy, h => by
    unfold Reps at h
    obtain ⟨u, r, rfl, h1, h2⟩ := h
    simp only [List.all_cons, Bool.and_eq_true] at hy
    obtain ⟨a1, a2⟩ := plain_all hx r1 hy.2 h2
    obtain ⟨b1, b2, b3⟩ := plain_rep hx hy.1 r1 h1
    simp only [List.all_cons, List.any_cons, a1, a2, b2, b3, Bool.and_self, and_self]
theorem flat_plain {x : D} {K : PySem.W.Frag} {H : Hp} {Z : AS} {v : V} (hx : x.plain = true) (r : Rep K H Z x v) : flatV v = true := (plain_rep hx hx r r).1
theorem RO.plain {K : PySem.W.Frag} {H : Hp} {Z : AS} {x : D} {v : V} {A : AS} (r : RO K H Z o x v A) (hx : x.plain = true) : Rep K H Z x v := r.rep (fun ds e => by subst e; cases hx) (fun _ _ _ e => by subst e; cases hx)
theorem in_cases {K : PySem.W.Frag} {w : Wd} {x y : D} {v1 v2 : V} {A1 A2 : AS} {k : Bool} (r1 : RO K w.H w.Z o1 x v1 A1) (r2 : RO K w.H w.Z o2 y v2 A2) (e : inD x y = some k) :
    (∃ d ds, Dp K w.H v1 d ∧ Dp K w.H v2 (.list ds) ∧ SeqAt.shaped d = true ∧ SeqAt.shaped (.list ds) = true ∧ k = (ds.any fun z => PyData.eqv z d)) ∨ (∃ i j, v1 = .str i ∧ v2 = .str j ∧ k = !(Builtin.Str.occurrences j i 0 j.length 1).isEmpty) ∨
    (∃ p xs, v2 = .ref p ∧ SqT K w.H p xs ∧ flatV v1 = true ∧ xs.all flatV = true ∧ k = inV v1 xs) ∨ (∃ a o, v2 = .ref a ∧ DGet w.H a v1 o ∧ k = o.isSome) := by
  cases y with
  | str j =>
    cases x <;> simp only [inD, reduceCtorEq, Option.some.injEq] at e
    exact .inr (.inl ⟨_, _, r1.str, r2.str, e.symm⟩)
  | lst ys =>
    simp only [inD] at e
    split at e
    · rename_i hs
      simp only [Bool.and_eq_true] at hs
      have := r2.dp hs.2
      refine .inl ⟨x.toP, D.toPs ys, r1.dp hs.1, this, hs.1, hs.2, ?_⟩
      rw [toPs_any]
      exact (Option.some.inj e).symm
    · cases e
  | tup ys =>
    simp only [inD] at e
    split at e
    · rename_i hs
      simp only [Bool.and_eq_true] at hs
      obtain ⟨a, xs, rfl, h1, h2⟩ := r2.tup
      obtain ⟨b1, b2⟩ := plain_all hs.1 (r1.plain hs.1) hs.2 h2
      exact .inr (.inr (.inl ⟨a, xs, rfl, h1, flat_plain hs.1 (r1.plain hs.1), b1, by unfold inV; rw [b2]; exact (Option.some.inj e).symm⟩))
    · cases e
  | dct t ks vs =>
    cases t with
    | true => cases e
    | false =>
      simp only [inD] at e
      split at e
      · rename_i hk
        obtain ⟨key, rfl, hv⟩ := kd_of hk
        have hv1 := hv _ _ _ _ _ _ r1
        subst hv1
        obtain ⟨a, xs, rfl, _, h1, _⟩ := (show ∃ a xs', v2 = V.ref a ∧ _ ∧ DcAt w.H a false ks xs' ∧ _ from r2.fz)
        obtain ⟨kvs, e1, hl, g1, g2⟩ := dk_get (key := key) h1
        refine .inr (.inr (.inr ⟨a, valV kvs key, rfl, DGet.k e1, ?_⟩))
        rw [← Option.some.inj e]
        by_cases hm : kD key ∈ ks
        · obtain ⟨j, hj⟩ := List.mem_iff_getElem?.mp hm
          obtain ⟨y, hy⟩ : ∃ y, xs[j]? = some y := ⟨_, List.getElem?_eq_getElem (by rw [hl]; exact (List.getElem?_eq_some_iff.mp hj).1)⟩
          rw [g1 j y hj hy]
          simp only [List.any_eq_true, decide_eq_true_eq, Option.isSome_some]
          exact ⟨_, hm, rfl⟩
        · rw [g2 fun j hj => hm (List.mem_of_getElem? hj)]
          simp only [Option.isSome_none, List.any_eq_false, decide_eq_true_eq]
          exact fun z hz e => hm (e ▸ hz)
      · cases e
  | _ => cases e
theorem ok_in {K : PySem.W.Frag} : Ok2 K (cmpM .in_) (.ow .fr) (rInA K) o1 o2 := by
  intro w d1 d2 v1 v2 A1 A2 d Q r1 r2 e k
  obtain ⟨b, e1, rfl⟩ := map_bl e
  rcases in_cases r1 r2 (show inD d1 d2 = some b from e1) with ⟨p, ps, h1, h2, h3, h4, rfl⟩ | ⟨i, j, rfl, rfl, rfl⟩ | ⟨p, xs, rfl, h1, h2, h3, rfl⟩ | ⟨a, oo, rfl, g, rfl⟩
  · exact .inl ⟨p, ps, h1, h2, h3, h4, fin_bl rfl k⟩
  · exact .inr (.inl ⟨i, j, rfl, rfl, fin_bl rfl k⟩)
  · exact .inr (.inr (.inl ⟨p, xs, rfl, .inr h1, h2, h3, fin_bl rfl k⟩))
  · exact .inr (.inr (.inr ⟨a, oo, rfl, g, fin_bl rfl k⟩))
theorem ok_nin {K : PySem.W.Frag} : Ok2 K (cmpM .nin) (.ow .fr) (rNinA K) o1 o2 := by
  intro w d1 d2 v1 v2 A1 A2 d Q r1 r2 e k
  obtain ⟨b, e1, rfl⟩ := map_bl e
  obtain ⟨b', e2, rfl⟩ := Option.map_eq_some_iff.mp (show (inD d1 d2).map (!·) = some b from e1)
  rcases in_cases r1 r2 e2 with ⟨p, ps, h1, h2, h3, h4, rfl⟩ | ⟨i, j, rfl, rfl, rfl⟩ | ⟨p, xs, rfl, h1, h2, h3, rfl⟩ | ⟨a, oo, rfl, g, rfl⟩
  · exact .inl ⟨p, ps, h1, h2, h3, h4, fin_bl rfl k⟩
  · exact .inr (.inl ⟨i, j, rfl, rfl, fin_bl rfl k⟩)
  · exact .inr (.inr (.inl ⟨p, xs, rfl, .inr h1, h2, h3, fin_bl rfl k⟩))
  · exact .inr (.inr (.inr ⟨a, oo, rfl, g, fin_bl rfl k⟩))
/-- each comparison has its rule -/
theorem cmp_rule (hK : X.K = c.K) (hu : X.A.units + 66 < cLine) (k : CO) : ∃ r : R2, OpR X (compareOp (opC k)) r ∧ ∀ o1 o2, Ok2 c.K (cmpM k) (.ow .fr) r o1 o2 := by
  cases k with
  | eq => exact ⟨rEqD c.K, by rw [← hK]; exact op_eqD (by omega), fun _ _ => ok_eq⟩
  | ne => exact ⟨rNeD c.K, by rw [← hK]; exact op_neD (by omega), fun _ _ => ok_ne⟩
  | lt => exact ⟨_, op_ltA (by omega), fun _ _ => by rw [hK]; exact ok_lt⟩
  | le => exact ⟨_, op_leA (by omega), fun _ _ => by rw [hK]; exact ok_le⟩
  | gt => exact ⟨_, op_gtA (by omega), fun _ _ => by rw [hK]; exact ok_gt⟩
  | ge => exact ⟨_, op_geA (by omega), fun _ _ => by rw [hK]; exact ok_ge⟩
  | isn => exact ⟨_, op_isN, fun _ _ => ok_isn⟩
  | isnn => exact ⟨_, op_notN, fun _ _ => ok_isnn⟩
  | in_ => exact ⟨rInA c.K, by rw [← hK]; exact (op_inD (by omega)).or (op_in_str.or (op_in_seq.or (op_dIn (X := X) (by omega)))), fun _ _ => ok_in⟩
  | nin => exact ⟨rNinA c.K, by rw [← hK]; exact (op_notInD (by omega)).or (op_notin_str.or (op_notIn_seq.or (op_dNin (X := X) (by omega)))), fun _ _ => ok_nin⟩
end
end Mp
/-! Mp13: subscripts with dicts; isinstance; built-in functions by name; tests. -/
namespace Mp
open PySem PySem.Spec PyProof.Rows L2
section
variable {X : Cx} {c : Cc} {f g fa fb fd : M D} {ows ows1 ows2 ows' : Ows} {o o1 o2 oa ob od : Ow} {q q1 q2 : Bool} {e pe a b d : Expr} {pos : Pos}
/-! ### subscripts -/
abbrev rIxDc : R2 := fun x y H Q => ∃ a v, x = .ref a ∧ DGet H a y (some v) ∧ Q v H
theorem ix_dict (hu : X.A.units + 1 < cLine) : IxR X rIxDc := by
  intro value slice pins s σ H x y v u Q I rx ry h hs
  obtain ⟨a, r, rfl, g, q⟩ := h
  cases rx
  exact tail_any (dict_typeIs I g) PySem.F.slot_dict_getitem.lookup (d_getItem hu I g ry fun w' s' I' rw' => ⟨r, H, I', rw', q⟩) hs
abbrev rIxB (K : PySem.W.Frag) : R2 := fun x y H Q => rIxA K x y H Q ∨ rIxDc x y H Q
theorem RO.dctR {K : PySem.W.Frag} {H : Hp} {Z : AS} {t : Bool} {ks vs : List D} {v : V} {A : AS} (sh : shal o = true) (h : RO K H Z o (.dct t ks vs) v A) : ∃ a xs, v = .ref a ∧ DcAt H a t ks xs ∧ Reps K H Z vs xs := by
  cases o with
  | fr =>
    obtain ⟨a, xs, e, _, h1, h2⟩ := (show ∃ a xs, v = V.ref a ∧ _ ∧ DcAt H a t ks xs ∧ Reps K H Z vs xs from h.1)
    exact ⟨a, xs, e, h1, h2⟩
  | ow o =>
    cases o with
    | fr =>
      obtain ⟨a, xs, B, G, e, h1, I, _⟩ := h
      exact ⟨a, xs, e, h1, Reps.of I.len fun k d x e1 e2 => (I.at_ k d x e1 e2).1⟩
    | ow o => cases sh
theorem ok_ixB {K : PySem.W.Frag} (s1 : shal o1 = true) : Ok2 K ixD .fr (rIxB K) o1 o2 := by
  intro w d1 d2 v1 v2 A1 A2 d Q r1 r2 e k
  cases d1 with
  | dct t ks vs =>
    cases t with
    | true => cases e
    | false =>
      simp only [ixD] at e
      split at e
      · rename_i hk
        obtain ⟨key, rfl, hv⟩ := kd_of hk
        have hv1 := hv _ _ _ _ _ _ r2
        subst hv1
        obtain ⟨a, xs, rfl, h1, h2⟩ := r1.dctR s1
        obtain ⟨kvs, e1, hl, g1, _⟩ := dk_get (key := key) h1
        obtain ⟨j, j1, j2, _⟩ := dGet_at e
        obtain ⟨x, e2, rx⟩ := h2.get j2
        refine .inr ⟨a, x, rfl, ?_, fin_rep rx k⟩
        have := g1 j x j1 e2
        rw [← this]
        exact DGet.k e1
      · cases e
  | _ => exact .inl (ok_ix s1 w _ d2 v1 v2 A1 A2 d Q r1 r2 e k)
theorem pv_ix (hu : X.A.units + 1 < cLine) (ha : PE X a (tR c fa ows ows1 oa q)) (hb : PE X b (tR c fb ows1 ows2 ob true)) (hs : noSl b = true) (sh : shal oa = true) (hK : X.K = c.K) : PE X (.Subscript a b pos) (tV c (op2 ixD fa fb) ows ows2 .fr q) :=
  pe_ok2 ha hb (fun h1 h2 => pe_ix (r := rIxB c.K) (by rw [← hK]; exact ix_all.or (ix_dict hu)) h1 h2 (plainIx hs)) (ok_ixB sh)

/-! ### isinstance, one built-in class -/
def tyN : TY → String
  | .int => "int"
  | .bool => "bool"
  | .str => "str"
  | .list => "list"
  | .tuple => "tuple"
  | .dict => "dict"
  | _ => ""
def dN : D → String
  | .non => "NoneType"
  | .bl _ => "bool"
  | .int _ => "int"
  | .str _ => "str"
  | .tup _ => "tuple"
  | .lst _ => "list"
  | .dct _ _ _ => "dict"
  | _ => ""
def tyPl : TY → Bool
  | .exc _ => false
  | .none => false
  | _ => true
theorem kit_tab {C : Cs} {x : D} {t : TY} {r : Bool} (ht : tyPl t = true) (h : tyIs C x t = some r) : kitB (dN x) (tyN t) = some r ∧ (∀ xs, x ≠ .rol xs) ∧ ∀ n, x ≠ .exc n := by
  cases t <;> first | (cases ht; done) | skip
  all_goals (cases x <;> first | (cases h; done) | skip)
  all_goals (refine ⟨?_, fun _ e => (nomatch e), fun _ e => (nomatch e)⟩; cases h; simp only [dN, tyN]; decide +kernel)
theorem tyx_of {K : PySem.W.Frag} {w : Wd} {x : D} {v : V} {A : AS} (r : RO K w.H w.Z o x v A) (h1 : ∀ xs, x ≠ .rol xs) (h2 : ∀ n, x ≠ .exc n) : TyX K w.H v (.type (dN x)) := by
  cases x with
  | non => rw [r.non]; exact .base .non
  | bl => rw [r.bl]; exact .base (.bl _)
  | int => rw [r.int]; exact .base (.int _)
  | str => rw [r.str]; exact .base (.str _)
  | tup xs =>
    obtain ⟨a, ys, rfl, h, _⟩ := r.tup
    rcases h with (h | ⟨_, h⟩) | ⟨o, _, _, h1, h2, _⟩
    · exact .base (.tup h)
    · exact .fTuple h
    · exact .kTuple h1 h2
  | lst xs =>
    obtain ⟨a, ys, rfl, h, _⟩ := r.lst
    exact .base (.lst h)
  | rol xs => exact absurd rfl (h1 xs)
  | dct t ks vs =>
    obtain ⟨a, xs, rfl, _, h1, _⟩ := (show ∃ a xs', v = V.ref a ∧ _ ∧ DcAt w.H a t ks xs' ∧ _ from r.fz)
    obtain ⟨_, ⟨_, kvs, e1, _⟩ | ⟨_, kvs, e1, _⟩⟩ := h1
    · exact .base (.dK e1)
    · exact .base (.dT e1)
  | exc n => exact absurd rfl (h2 n)
def nmS (x : String) : Str := Str.ofString x
theorem boot_ty {t : TY} (h : tyPl t = true) : bootBuiltins (nmS (tyN t)) = some (.type (tyN t)) := by
  cases t <;> first | (cases h; done) | decide +kernel
theorem pv_isi {C : Cs} {t : TY} {p p2 : Pos} (ht : tyPl t = true) (hg : Gl X "isinstance") (hm : X.mg "isinstance" = none) (hg2 : Gl X (nmS (tyN t))) (hm2 : X.mg (nmS (tyN t)) = none) (hK : X.K = c.K) (hs : noStar a = true) (ha : PE X a (tR c fa ows ows' o q)) :
    PE X (.Call (.Name "isinstance" p) [a, .Name (nmS (tyN t)) p2] [] pos) (tV c (M.bind fa fun x => M.opt ((tyAny C x [t]).map .bl)) ows ows' (.ow .fr) q) := by
  have hn : nmS (tyN t) ≠ "__name__" := by cases t <;> first | (cases ht; done) | decide +kernel
  have hd : (nmS (tyN t) == ("__debug__" : Str)) = false := by cases t <;> first | (cases ht; done) | decide +kernel
  refine wPE (pe_callB call_isi hg hm PyProof.Rows.boot_isinstance (pa_cons ha (pa_cons (pe_bltn hg2 hm2 (boot_ty ht) (v := .ty (tyN t)) rfl hn hd) pa_nil (by rfl)) (star_cons hs)) (by decide) (by decide) (star_cons hs) (by rfl)) fun σ H Q ⟨w, env, hw, sr, z⟩ => ⟨w, env, hw, sr, ?_⟩
  unfold M.bind at z
  cases e1 : fa env with
  | no => rw [e1] at z; exact z
  | ex n env1 => rw [e1] at z; exact z
  | ok x env1 =>
    rw [e1] at z
    intro w1 v A x1 s1 r1 k1
    simp only [tyAny] at z
    cases e2 : tyIs C x t with
    | none => rw [e2] at z; exact z.elim
    | some r =>
      obtain ⟨h1, h2, h3⟩ := kit_tab ht e2
      have z' : ∀ w' v A, Ext w w' → SR c.K c.pn ows' env1 σ w' → RO c.K w'.H w'.Z (.ow .fr) (.bl r) v A → Tmp w w' A → (q = true → Quiet w w') → Q v w'.H := by
        rw [e2] at z
        cases r <;> exact z
      refine ⟨v, .ty (tyN t), _, _, r, rfl, .ty _, by rw [hK]; exact tyx_of r1 h2 h3, kit_ty h1, z' w1 _ _ x1 s1 RO.mkbl Tmp.nil k1⟩

/-! ### built-in functions by name -/
def biN : BI → Str
  | .len => "len"
  | .abs => "abs"
  | .int => "int"
  | .str => "str"
  | .list => "list"
  | .tuple => "tuple"
  | .dict => "dict"
  | .sorted => "sorted"
  | .sum => "sum"
  | .any => "any"
  | .all => "all"
  | .max1 => "max"
  | .min1 => "min"
  | .max2 => "max"
  | .min2 => "min"
  | .bool => "bool"
def biO : BI → Ow
  | .tuple => .fr
  | _ => .ow .fr
def biOk : BI → Bool
  | .dict => false
  | .sorted => false
  | _ => true
def biCalm : BI → Bool
  | .max2 => true
  | .min2 => true
  | .max1 => true
  | .min1 => true
  | .sum => true
  | .any => true
  | .all => true
  | _ => false
theorem pv_bi {k : BI} {e : Expr} {es : List Expr} {fs : M (List D)} {os : List Ow} {p : Pos} (hk : biOk k = true) (hc : biCalm k = true → X.calm = true) (hK : X.K = c.K) (hg : Gl X (biN k)) (hm : X.mg (biN k) = none) (hst : (e :: es).all noStar = true) (ha : PA X (e :: es) (tAR c fs ows ows' os q)) (hs : os.all shal = true) :
    PE X (.Call (.Name (biN k) p) (e :: es) [] pos) (tV c (M.bind fs fun ds => M.opt (bF k ds)) ows ows' (biO k) q) := by
  simp only [List.all_cons, Bool.and_eq_true] at hst
  have h1 := star_cons (es := es) (env := X.env) hst.1
  have h2 := star_any (es := es) (env := X.env) (pos := pos) hst.2
  have sh2 : os.all anyO = true := List.all_eq_true.mpr fun _ _ => rfl
  cases k with
  | len => exact pv_okN (r := rLenA c.K) (fun h => pe_callB (by rw [← hK]; exact call_lenA) hg hm boot_len h (by decide) (by decide) h1 h2) ha ok_len sh2
  | abs => exact pv_okN (fun h => pe_callB call_abs hg hm boot_abs h (by decide) (by decide) h1 h2) ha ok_abs sh2
  | int => exact pv_okN (fun h => pe_callTy call_int1 hg hm PyProof.Rows.boot_int h (by decide) (by decide) h1 h2) ha ok_int sh2
  | bool => exact pv_okN (fun h => pe_callTy call_bool1 hg hm PyProof.Rows.boot_bool h (by decide) (by decide) h1 h2) ha ok_bool sh2
  | str => exact pv_okN (fun h => pe_callTy call_str_int hg hm PyProof.Rows.boot_str h (by decide) (by decide) h1 h2) ha ok_str sh2
  | list => exact pv_okN (r := rListA c.K) (fun h => pe_callTy (by rw [← hK]; exact call_list_of) hg hm PyProof.Rows.boot_list h (by decide) (by decide) h1 h2) ha ok_list hs
  | tuple => exact pv_okN (r := rTupleA c.K) (fun h => pe_callTy (by rw [← hK]; exact call_tuple_of) hg hm PyProof.Rows.boot_tuple h (by decide) (by decide) h1 h2) ha ok_tuple hs
  | dict => cases hk
  | sorted => cases hk
  | sum => exact pv_okN (r := rSum c.K) (fun h => pe_callB (by rw [← hK]; exact cr_sum (hc rfl)) hg hm PyProof.Rows.boot_sum h (by decide) (by decide) h1 h2) ha ok_sum hs
  | any => exact pv_okN (r := rAny c.K) (fun h => pe_callB (by rw [← hK]; exact cr_any (hc rfl)) hg hm PyProof.Rows.boot_any h (by decide) (by decide) h1 h2) ha ok_any hs
  | all => exact pv_okN (r := rAll c.K) (fun h => pe_callB (by rw [← hK]; exact cr_all (hc rfl)) hg hm PyProof.Rows.boot_all h (by decide) (by decide) h1 h2) ha ok_all hs
  | max1 => exact pv_okN (r := rMax c.K) (fun h => pe_callB (by rw [← hK]; exact cr_max (hc rfl)) hg hm PyProof.Rows.boot_max h (by decide) (by decide) h1 h2) ha ok_max1 hs
  | min1 => exact pv_okN (r := rMin c.K) (fun h => pe_callB (by rw [← hK]; exact cr_min (hc rfl)) hg hm PyProof.Rows.boot_min h (by decide) (by decide) h1 h2) ha ok_min1 hs
  | max2 => exact pv_okN (fun h => pe_callB (call_max2 (hc rfl)) hg hm PyProof.Rows.boot_max h (by decide) (by decide) h1 h2) ha ok_max2 sh2
  | min2 => exact pv_okN (fun h => pe_callB (call_min2 (hc rfl)) hg hm PyProof.Rows.boot_min h (by decide) (by decide) h1 h2) ha ok_min2 sh2

/-! ### l.index(x) -/
theorem toPs_get : ∀ {ys : List D} {j : Nat}, (D.toPs ys)[j]? = (ys[j]?).map D.toP
  | [], j => by simp [D.toPs]
  | y :: ys, 0 => by simp [D.toPs]
  | y :: ys, j + 1 => by simp only [D.toPs, List.getElem?_cons_succ]; exact toPs_get
theorem idxOf_at : ∀ {ys : List D} {x : D} {k0 k : Nat}, idxOf ys x k0 = some k → ∃ j z, k = k0 + j ∧ ys[j]? = some z ∧ PyData.eqv z.toP x.toP = true ∧ ∀ (m : Nat) (z' : D), m < j → ys[m]? = some z' → PyData.eqv z'.toP x.toP = false
  | [], _, _, _, h => by cases h
  | y :: ys, x, k0, k, h => by
    unfold idxOf at h
    split at h
    · rename_i hy
      cases h
      exact ⟨0, y, rfl, rfl, hy, fun m z' hm => absurd hm (Nat.not_lt_zero m)⟩
    · rename_i hy
      obtain ⟨j, z, e1, e2, e3, e4⟩ := idxOf_at h
      refine ⟨j + 1, z, by omega, by simpa using e2, e3, fun m z' hm e => ?_⟩
      cases m with
      | zero =>
        simp at e
        subst e
        simpa using hy
      | succ m => exact e4 m z' (by omega) (by simpa using e)
theorem pv_index {b e : Expr} {fb fe : M D} {apos cpos : Pos} (hu : X.A.units + 65 < cLine) (hK : X.K = c.K) (hpb : plainB b = true) (hline : (apos.endLine == cpos.line) = true) (hs : noStar e = true) (hb : PE X b (tR c fb ows ows1 oa q)) (he : PE X e (tR c fe ows1 ows2 ob true)) :
    PE X (.Call (.Attribute b "index" apos) [e] [] cpos) (tV c (M.bind fb fun x => if meOk .index x = true then M.bind (M.bind fe fun d => M.bind (M.ret []) fun ds => M.ret (d :: ds)) fun ds => M.opt (meF .index x ds) else fun _ => .no) ows ows2 (.ow .fr) q) := by
  refine wPE (pe_bm PySem.F.plainAttrs_list PySem.F.slot_list_index PySem.F.type_list_index (r := rIndexD c.K) (by rw [← hK]; exact mt_indexD hu) hb (pa_cons he pa_nil (star_cons hs)) (base_of hpb) (few1 hs) hline (star_cons hs) rfl) fun σ H Q ⟨w, env, hw, sr, z⟩ => ⟨w, env, hw, sr, ?_⟩
  unfold M.bind at z
  cases e1 : fb env with
  | no => rw [e1] at z; exact z
  | ex n env1 => rw [e1] at z; exact z
  | ok l env1 =>
    rw [e1] at z
    intro w1 v1 A1 x1 s1 r1 k1
    simp only at z
    by_cases hm : meOk .index l = true
    · rw [if_pos hm] at z
      have hl : ∃ ys, l = .lst ys := by cases l <;> simp [meOk] at hm; exact ⟨_, rfl⟩
      obtain ⟨ys, rfl⟩ := hl
      obtain ⟨a, us, rfl, hl1, _⟩ := r1.lst
      refine ⟨by rw [hK]; exact .inl ⟨rfl, us, SqL.of hl1⟩, w1, env1, rfl, s1, ?_⟩
      cases e2 : fe env1 with
      | no => rw [e2] at z; exact z
      | ex n env2 => rw [e2] at z; exact exK.mono x1 z
      | ok d env2 =>
        rw [e2] at z
        intro w2 v2 A2 x2 s2 r2 k2
        have r1' : RO c.K w2.H w2.Z oa (.lst ys) (.ref a) A1 := r1.keep x2.z fun a q e _ => k2 rfl a q e
        simp only [M.ret, M.opt] at z
        have em : meF .index (.lst ys) [d] = if d.shp && (D.lst ys).shp then (idxOf ys d 0).map fun (k : Nat) => D.int k else none := rfl
        by_cases hsh : (d.shp && (D.lst ys).shp) = true
        · rw [em, if_pos hsh] at z
          simp only [Bool.and_eq_true] at hsh
          cases ei : idxOf ys d 0 with
          | none => rw [ei] at z; exact z.elim
          | some k =>
            rw [ei] at z
            obtain ⟨j, zz, rfl, g1, g2, g3⟩ := idxOf_at ei
            refine ⟨a, v2, d.toP, D.toPs ys, j, zz.toP, rfl, rfl, r1'.dp hsh.2, r2.dp hsh.1, hsh.2, hsh.1, by rw [toPs_get, g1]; rfl, g2, fun m z' hm e => ?_, ?_⟩
            · rw [toPs_get] at e
              obtain ⟨y', e1, rfl⟩ := Option.map_eq_some_iff.mp e
              exact g3 m y' hm e1
            · rw [Nat.zero_add] at z
              exact z w2 _ _ (x1.trans x2) s2 RO.mkint Tmp.nil fun h => fun a b e => k2 rfl a b (k1 h a b e)
        · rw [em, if_neg hsh] at z; exact z.elim
    · rw [if_neg hm] at z; exact z.elim
/-! ### tests -/
theorem pt_ok2 {op : CmpOp} {k : CO} {r : R2} (ho : OpR X (compareOp op) r) (k2 : Ok2 c.K (cmpM k) (.ow .fr) r oa ob) (ha : PE X a (tR c fa ows ows1 oa q)) (hb : PE X b (tR c fb ows1 ows2 ob true)) (hm : behindInMarks op b = false) :
    PT X (.Compare a [op] [b] pos) (tB_ c (truthM (op2 (cmpM k) fa fb)) ows ows2 q) := by
  refine pt_bool (pt_cmpR ho ha hb hm) (ok2_imp k2) fun env d env' e => ?_
  unfold op2 M.bind at e
  cases e1 : fa env with
  | no => rw [e1] at e; cases e
  | ex => rw [e1] at e; cases e
  | ok x env1 =>
    rw [e1] at e
    simp only at e
    cases e2 : fb env1 with
    | no => rw [e2] at e; cases e
    | ex => rw [e2] at e; cases e
    | ok y env2 =>
      rw [e2] at e
      simp only [M.opt, cmpM] at e
      cases e3 : cmpD k x y with
      | none => rw [e3] at e; cases e
      | some r => rw [e3] at e; cases e; exact ⟨r, rfl⟩
theorem chM_bl {oc oc' : CO} {env env' : Env} {d : D} (e : chM oc oc' fa fb fd env = .ok d env') : ∃ b, d = .bl b := by
  unfold chM M.bind at e
  cases e1 : fa env with
  | no => rw [e1] at e; cases e
  | ex => rw [e1] at e; cases e
  | ok x env1 =>
    rw [e1] at e
    simp only at e
    cases e2 : fb env1 with
    | no => rw [e2] at e; cases e
    | ex => rw [e2] at e; cases e
    | ok y env2 =>
      rw [e2] at e
      simp only [M.opt] at e
      cases e3 : cmpD oc x y with
      | none => rw [e3] at e; cases e
      | some r =>
        rw [e3] at e
        cases r with
        | false => cases e; exact ⟨false, rfl⟩
        | true =>
          simp only [if_true] at e
          cases e4 : fd env2 with
          | no => rw [e4] at e; cases e
          | ex => rw [e4] at e; cases e
          | ok z env3 =>
            rw [e4] at e
            simp only at e
            cases e5 : cmpD oc' y z with
            | none => rw [e5] at e; cases e
            | some r => rw [e5] at e; cases e; exact ⟨r, rfl⟩
/-- no mark behind in -/
def noSet : Expr → Bool
  | .Set _ _ _ => false
  | _ => true
theorem noMarks {op : CmpOp} {b : Expr} (h : noSet b = true) : behindInMarks op b = false := by
  cases b <;> first | rfl | cases h
/-- no own rule as a test -/
def plainT : Expr → Bool
  | .UnaryOp _ _ _ => false
  | .BoolOp _ _ _ => false
  | .IfExp _ _ _ _ => false
  | .Compare _ _ _ _ => false
  | _ => true
theorem plainT_ok {e : Expr} {env : PySem.Env} (h : plainT e = true) : ∀ whole, isTrue e env whole = (do let v ← whole; standAt e.pos; holding [v] (truthy v)) := by
  intro whole
  cases e <;> first | rfl | cases h
end
end Mp
/-! Mp14: the checker of expressions. -/
namespace Mp
open PySem PySem.Spec PyProof.Rows L2

/-! ### views -/
def vBin : Expr → Option (Expr × Operator × Expr)
  | .BinOp a k b _ => some (a, k, b)
  | _ => none
theorem vBin_eq {e : Expr} {r : Expr × Operator × Expr} (h : vBin e = some r) : ∃ p, e = .BinOp r.1 r.2.1 r.2.2 p := by
  unfold vBin at h
  split at h
  · cases h; exact ⟨_, rfl⟩
  · cases h
def vUn : Expr → Option (UnaryOp × Expr)
  | .UnaryOp k a _ => some (k, a)
  | _ => none
theorem vUn_eq {e : Expr} {r : UnaryOp × Expr} (h : vUn e = some r) : ∃ p, e = .UnaryOp r.1 r.2 p := by
  unfold vUn at h
  split at h
  · cases h; exact ⟨_, rfl⟩
  · cases h
def vCmp : Expr → Option (Expr × CmpOp × Expr)
  | .Compare a [k] [b] _ => some (a, k, b)
  | _ => none
theorem vCmp_eq {e : Expr} {r : Expr × CmpOp × Expr} (h : vCmp e = some r) : ∃ p, e = .Compare r.1 [r.2.1] [r.2.2] p := by
  unfold vCmp at h
  split at h
  · cases h; exact ⟨_, rfl⟩
  · cases h
def vCh : Expr → Option (Expr × CmpOp × CmpOp × Expr × Expr)
  | .Compare a [k, l] [b, d] _ => some (a, k, l, b, d)
  | _ => none
theorem vCh_eq {e : Expr} {r : Expr × CmpOp × CmpOp × Expr × Expr} (h : vCh e = some r) : ∃ p, e = .Compare r.1 [r.2.1, r.2.2.1] [r.2.2.2.1, r.2.2.2.2] p := by
  unfold vCh at h
  split at h
  · cases h; exact ⟨_, rfl⟩
  · cases h
def vBool : Expr → Option (BoolOp × List Expr)
  | .BoolOp k es _ => some (k, es)
  | _ => none
theorem vBool_eq {e : Expr} {r : BoolOp × List Expr} (h : vBool e = some r) : ∃ p, e = .BoolOp r.1 r.2 p := by
  unfold vBool at h
  split at h
  · cases h; exact ⟨_, rfl⟩
  · cases h
def vIf : Expr → Option (Expr × Expr × Expr)
  | .IfExp c a b _ => some (c, a, b)
  | _ => none
theorem vIf_eq {e : Expr} {r : Expr × Expr × Expr} (h : vIf e = some r) : ∃ p, e = .IfExp r.1 r.2.1 r.2.2 p := by
  unfold vIf at h
  split at h
  · cases h; exact ⟨_, rfl⟩
  · cases h
def vLst : Expr → Option (List Expr)
  | .List es _ => some es
  | _ => none
theorem vLst_eq {e : Expr} {r : List Expr} (h : vLst e = some r) : ∃ p, e = .List r p := by
  unfold vLst at h
  split at h
  · cases h; exact ⟨_, rfl⟩
  · cases h
def vSub : Expr → Option (Expr × Expr)
  | .Subscript a b _ => some (a, b)
  | _ => none
theorem vSub_eq {e : Expr} {r : Expr × Expr} (h : vSub e = some r) : ∃ p, e = .Subscript r.1 r.2 p := by
  unfold vSub at h
  split at h
  · cases h; exact ⟨_, rfl⟩
  · cases h
def vSl : Expr → Option (Expr × Option Expr × Option Expr)
  | .Subscript a (.Slice lo hi none _) _ => some (a, lo, hi)
  | _ => none
theorem vSl_eq {e : Expr} {r : Expr × Option Expr × Option Expr} (h : vSl e = some r) : ∃ p p2, e = .Subscript r.1 (.Slice r.2.1 r.2.2 none p2) p := by
  unfold vSl at h
  split at h
  · cases h; exact ⟨_, _, rfl⟩
  · cases h
/-- f(e, ..) -/
def vCall : Expr → Option (Str × Expr × List Expr)
  | .Call (.Name f _) (e :: es) [] _ => some (f, e, es)
  | _ => none
theorem vCall_eq {e : Expr} {r : Str × Expr × List Expr} (h : vCall e = some r) : ∃ p p2, e = .Call (.Name r.1 p) (r.2.1 :: r.2.2) [] p2 := by
  unfold vCall at h
  split at h
  · cases h; exact ⟨_, _, rfl⟩
  · cases h
/-- o.m(e) -/
def vM1 : Expr → Option (Expr × Str × Pos × Expr × Pos)
  | .Call (.Attribute b m ap) [e] [] cp => some (b, m, ap, e, cp)
  | _ => none
theorem vM1_eq {e : Expr} {r : Expr × Str × Pos × Expr × Pos} (h : vM1 e = some r) : e = .Call (.Attribute r.1 r.2.1 r.2.2.1) [r.2.2.2.1] [] r.2.2.2.2 := by
  unfold vM1 at h
  split at h
  · cases h; rfl
  · cases h
def vConst : Expr → Option Const
  | .Constant k _ _ => some k
  | _ => none
theorem vConst_eq {e : Expr} {r : Const} (h : vConst e = some r) : ∃ j p, e = .Constant r j p := by
  unfold vConst at h
  split at h
  · cases h; exact ⟨_, _, rfl⟩
  · cases h

/-! ### more rules -/
section
variable {X : Cx} {c : Cc} {f g fa fb fd : M D} {ows ows1 ows2 ows' ows'' : Ows} {o o1 o2 oa ob od : Ow} {q q1 q2 : Bool} {e pe a b d : Expr} {pos : Pos}
theorem pv_weak (h : PE X e (tV c f ows ows' o q)) (hw : weakB 0 ows' ows'' = true) : PE X e (tV c f ows ows'' o q) := wPE h fun σ H Q ⟨w, env, hw', sr, z⟩ => ⟨w, env, hw', sr, by
  cases e1 : f env with
  | no => rw [e1] at z; exact z
  | ex n env1 => rw [e1] at z; exact z
  | ok d env1 =>
    rw [e1] at z
    intro w1 v A x1 s1 r1 t1 k1
    obtain ⟨w2, x2, eh, s2⟩ := s1.weak hw
    have := z w2 v A (x1.trans x2) s2 (RO.ext s1 t1.f x2 r1) (Tmp.ext s1 t1 (fun a ha => r1.ne a ha) x1 x2) fun h => by
      intro a b e
      rw [eh]
      exact k1 h a b e
    rw [eh] at this
    exact this⟩
/-- a value that hangs on nothing, looked at, may be kept -/
theorem look_fr (h : PE X e (tR c f ows ows' .fr q)) : PE X e (tV c f ows ows' .fr q) := wPE h fun σ H Q ⟨w, env, hw', sr, z⟩ => ⟨w, env, hw', sr, by
  cases e1 : f env with
  | no => rw [e1] at z; exact z
  | ex n env1 => rw [e1] at z; exact z
  | ok d env1 =>
    rw [e1] at z
    intro w1 v A x1 s1 r1 k1
    exact z w1 v A x1 s1 r1 ⟨fun a ha => absurd ha (r1.2 a), fun a i ha => absurd ha (r1.2 a), fun a ha => absurd ha (r1.2 a)⟩ k1⟩
theorem pv_neg (ha : PE X a (tR c fa ows ows' o1 q)) : PE X (.UnaryOp .USub a pos) (tV c (op1 negD fa) ows ows' (.ow .fr) q) := by
  refine wPE (pe_un un_neg ha) fun σ H Q ⟨w, env, hw, sr, z⟩ => ⟨w, env, hw, sr, ?_⟩
  unfold op1 M.bind at z
  cases e1 : fa env with
  | no => rw [e1] at z; exact z
  | ex n env1 => rw [e1] at z; exact z
  | ok d env1 =>
    rw [e1] at z
    intro w1 v A x1 s1 r1 k1
    cases d with
    | int i => exact ⟨i, r1.int, z w1 _ _ x1 s1 RO.mkint Tmp.nil k1⟩
    | _ => exact z.elim
theorem pv_cmp {k : CO} (hK : X.K = c.K) (hu : X.A.units + 66 < cLine) (ha : PE X a (tR c fa ows ows1 oa q)) (hb : PE X b (tR c fb ows1 ows2 ob true)) (hm : noSet b = true) : PE X (.Compare a [opC k] [b] pos) (tV c (op2 (cmpM k) fa fb) ows ows2 (.ow .fr) q) := by
  obtain ⟨r, h1, h2⟩ := cmp_rule hK hu k
  exact (pe_ok2 ha hb (fun p1 p2 => pe_cmpR h1 p1 p2 (noMarks hm)) (h2 oa ob))
theorem pt_cmp' {k : CO} (hK : X.K = c.K) (hu : X.A.units + 66 < cLine) (ha : PE X a (tR c fa ows ows1 oa q)) (hb : PE X b (tR c fb ows1 ows2 ob true)) (hm : noSet b = true) : PT X (.Compare a [opC k] [b] pos) (tB_ c (truthM (op2 (cmpM k) fa fb)) ows ows2 q) := by
  obtain ⟨r, h1, h2⟩ := cmp_rule hK hu k
  exact pt_ok2 h1 (h2 oa ob) ha hb (noMarks hm)
theorem lastM {op op' : CmpOp} {b d : Expr} (h : noSet d = true) : lastMarks [op, op'] [b, d] = false := by
  show lastMarks [op'] [d] = false
  show behindInMarks op' d = false
  exact noMarks h
theorem pv_ch' {k l : CO} (hK : X.K = c.K) (hu : X.A.units + 66 < cLine) (ha : PE X a (tR c fa ows ows1 oa q)) (hb : PE X b (tR c fb ows1 ows2 ob true)) (hd : PE X d (tR c fd ows2 ows2 od true)) (hm : noSet d = true) : PE X (.Compare a [opC k, opC l] [b, d] pos) (tV c (chM k l fa fb fd) ows ows2 (.ow .fr) q) := by
  obtain ⟨r, h1, h2⟩ := cmp_rule hK hu k
  obtain ⟨r', h1', h2'⟩ := cmp_rule hK hu l
  exact (wPE (pe_chain h1 h1' ha hb hd (lastM hm)) (ch_imp (h2 oa ob) (h2' ob od)))
theorem pt_ch' {k l : CO} (hK : X.K = c.K) (hu : X.A.units + 66 < cLine) (ha : PE X a (tR c fa ows ows1 oa q)) (hb : PE X b (tR c fb ows1 ows2 ob true)) (hd : PE X d (tR c fd ows2 ows2 od true)) (hm : noSet d = true) : PT X (.Compare a [opC k, opC l] [b, d] pos) (tB_ c (truthM (chM k l fa fb fd)) ows ows2 q) := by
  obtain ⟨r, h1, h2⟩ := cmp_rule hK hu k
  obtain ⟨r', h1', h2'⟩ := cmp_rule hK hu l
  exact pt_bool (pt_chain h1 h1' ha hb hd (lastM hm)) (ch_imp (h2 oa ob) (h2' ob od)) fun env d env' e => chM_bl e
end

/-! ### what the checker knows -/
structure Sg where
  N : List Str
  sc : Scope
  pins : List Nat
  pinw : List Nat
  calm : Bool
  calls : Bool
  gl : Str → Bool
  fn : Str → Option (Nat × Ow)
  exc : Str → Bool
  es : Option Nat
  x : Ows
  r : Ows
  ro : Ow
def Sg.vis (S : Sg) (x : Str) : Bool := match S.sc.names.lookup x with
  | some .local => true
  | some .cell => true
  | some .free => true
  | _ => false
def Sg.glo (S : Sg) (x : Str) : Bool := match S.sc.names.lookup x with
  | some .globalImplicit => true
  | _ => false
def noDbg (x : Str) : Bool := !(x == ("__debug__" : Str)) && !(x == ("__classdict__" : Str))
/-- built-in names that are the program's nowhere -/
def bltNames : List Str := ["len", "abs", "int", "str", "list", "tuple", "dict", "sorted", "sum", "any", "all", "max", "min", "bool", "isinstance", "range", "enumerate", "zip", "reversed", "set", "ValueError"]
structure GOk (X : Cx) (c : Cc) (C : Cs) (S : Sg) : Prop where
  N : X.N = S.N
  sc : X.env.scope = S.sc
  K : X.K = c.K
  nd : X.N.Nodup
  hu : X.A.units + 66 < cLine
  calm : S.calm = true → X.calm = true
  pas : S.calm = true → PassesOwn (model X.prog X.w) X.A X.env X.xe
  tkc : S.calls = true → S.calm = true
  blt : ∀ x, x ∈ bltNames → X.mg x = none
  gl : ∀ x, S.gl x = true → ∃ d v u, X.mg x = some u ∧ L2.RelV v u ∧ C.gl x = some d ∧ ∀ H Z, Rep c.K H Z d v
  fn : S.calls = true → Takes X c.W ∧ ∀ f np ro, S.fn f = some (np, ro) → ∃ k fa fd pnames, FnOk X.prog X.w X.K X.mg X.base (L2.CX X.prog X.w) k fa fd pnames (spOf c.K (C.cl f) [] ro np) ∧ Room k X.A ∧ X.mg f = some (.ref fa) ∧ PySem.W.keepIn X.K (.ref fa) = true ∧ Binds X.K fd pnames []
  exc : ∀ x, S.exc x = true → X.mg x = some (.ref (He.ga c.K x)) ∧ PySem.W.keepIn X.K (.ref (He.ga c.K x)) = true ∧ Raises X (.ref (He.ga c.K x)) ∧ ∃ B newId initId bmB, ExcBaseFacts B newId initId bmB ∧ PySem.W.excIn X.K (He.ga c.K x) bmB newId = true
  exm : ∀ x y, S.exc x = true → S.exc y = true → PySem.W.exmOne X.K (.ref (He.ga c.K x)) (.ref (He.ga c.K y)) = some (C.sub x y)
  exx : ∀ x, C.isx x = true → S.exc x = true
  kx : ∀ x y, S.exc x = true → S.exc y = true → PySem.W.kitOne X.K (.ref (He.ga c.K x)) (.ref (He.ga c.K y)) = some (C.sub x y)
  kv : ∀ x, S.exc x = true → PySem.W.kitOne X.K (.ref (He.ga c.K x)) (.type "ValueError") = some (C.sub x "ValueError")
  ec : ∀ x, S.exc x = true → ExcC X.K (He.ga c.K x)
  stk : S.calm = true → X.stack = X.env :: X.outer ∧ X.env.frame = some X.env.locals
  es : ∀ i, S.es = some i → ∃ a n, S.exc n = true ∧ c.pn i = some (.ref a, some (.exc n)) ∧ CallR X (.builtin "isinstance") (rIsE X.K (He.ga c.K n) a)
  x : c.x = S.x
  r : c.r = S.r
  ro : c.ro = S.ro
  pn : ∀ i, i ∉ S.pins → c.pn i = none
  pw : ∀ i, i ∉ S.pinw → ∀ p, c.pn i = some p → p.2 = none
section
variable {X : Cx} {c : Cc} {C : Cs} {S : Sg}
theorem GOk.vis (G : GOk X c C S) {x : Str} (h : S.vis x = true) : Vis X.env.scope x := by
  unfold Vis
  rw [G.sc]
  unfold Sg.vis at h
  split at h
  · rename_i e; exact .inl e
  · rename_i e; exact .inr (.inl e)
  · rename_i e; exact .inr (.inr e)
  · cases h
theorem GOk.glo (G : GOk X c C S) {x : Str} (h : S.glo x = true) : Gl X x := by
  show X.env.scope.names.lookup x = some .globalImplicit
  rw [G.sc]
  unfold Sg.glo at h
  split at h
  · rename_i e; exact e
  · cases h
end
end Mp
/-! Mp15: the checker of expressions, and that it is right. -/
namespace Mp
open PySem PySem.Spec PyProof.Rows L2

abbrev VR := Option (Ows × Ow × Bool)
abbrev TR := Option (Ows × Bool)
structure Ck where
  v : Expr → Ows → VR
  r : Expr → Ows → VR
  t : Expr → Ows → TR
instance : Inhabited Ck := ⟨⟨fun _ _ => none, fun _ _ => none, fun _ _ => none⟩⟩
def CkOk (S : Sg) (C : Cs) (k : Ck) (p : M D × M Bool) : Prop := ∀ (X : Cx) (c : Cc), GOk X c C S →
  (∀ pe ows r, k.v pe ows = some r → PE X pe (tV c p.1 ows r.1 r.2.1 r.2.2)) ∧ (∀ pe ows r, k.r pe ows = some r → PE X pe (tR c p.1 ows r.1 r.2.1 r.2.2)) ∧ (∀ pe ows r, k.t pe ows = some r → PT X pe (tB_ c p.2 ows r.1 r.2))
/-- lists of these -/
def CksOk (S : Sg) (C : Cs) : List Ck → List (M D × M Bool) → Prop
  | [], [] => True
  | k :: ks, p :: ps => CkOk S C k p ∧ CksOk S C ks ps
  | _, _ => False
/-- the truth of a looked-at value -/
def mkT (r : Expr → Ows → VR) : Expr → Ows → TR := fun pe ows => if plainT pe = true then (match r pe ows with
  | some x => some (x.1, x.2.2)
  | none => none) else none
def mkV (v : Expr → Ows → VR) : Ck := ⟨v, v, mkT v⟩
section
variable {S : Sg} {C : Cs} {f : M D}
theorem mkT_ok {r : Expr → Ows → VR} {X : Cx} {c : Cc} (G : GOk X c C S) (h : ∀ pe ows x, r pe ows = some x → PE X pe (tR c f ows x.1 x.2.1 x.2.2)) : ∀ pe ows x, mkT r pe ows = some x → PT X pe (tB_ c (truthM f) ows x.1 x.2) := by
  intro pe ows x e
  unfold mkT at e
  split at e
  · rename_i hp
    split at e
    · rename_i y ey
      cases e
      exact pt_look (h pe ows y ey) (plainT_ok hp) G.K
    · cases e
  · cases e
theorem mkV_ok {v : Expr → Ows → VR} (h : ∀ X c, GOk X c C S → ∀ pe ows x, v pe ows = some x → PE X pe (tV c f ows x.1 x.2.1 x.2.2)) : CkOk S C (mkV v) (val f) := fun X c G =>
  ⟨h X c G, fun pe ows x e => look_of (h X c G pe ows x e), mkT_ok G fun pe ows x e => look_of (h X c G pe ows x e)⟩
end

/-! ### lists -/
/-- kept, frozen -/
def ckAV : List Ck → List Expr → Ows → Option (Ows × Bool)
  | [], [], ows => some (ows, true)
  | k :: ks, e :: es, ows => if noStar e = true then (match k.v e ows with
    | some a => (match ckAV ks es a.1 with
      | some b => some (b.1, a.2.2 && b.2)
      | none => none)
    | none => none) else none
  | _, _, _ => none
/-- looked at; the later ones change nothing -/
def ckAR : List Ck → List Expr → Ows → Option (Ows × List Ow × Bool)
  | [], [], ows => some (ows, [], true)
  | k :: ks, e :: es, ows => if noStar e = true then (match k.r e ows with
    | some a => (match ckAR ks es a.1 with
      | some b => if b.2.2 = true then some (b.1, a.2.1 :: b.2.1, a.2.2) else none
      | none => none)
    | none => none) else none
  | _, _, _ => none
section
variable {S : Sg} {C : Cs} {X : Cx} {c : Cc}
theorem ckAV_ok (G : GOk X c C S) : ∀ {ks : List Ck} {ps : List (M D × M Bool)} {es : List Expr} {ows : Ows} {r : Ows × Bool}, CksOk S C ks ps → ckAV ks es ows = some r → PA X es (tAV c (evs ps) ows r.1 r.2) ∧ es.all noStar = true ∧ es.length = ps.length
  | [], [], [], ows, r, _, h => by cases h; exact ⟨av_nil, rfl, rfl⟩
  | k :: ks, p :: ps, e :: es, ows, r, hk, h => by
    unfold ckAV at h
    split at h
    · rename_i hs
      split at h
      · rename_i a ea
        split at h
        · rename_i b eb
          cases h
          obtain ⟨i1, i2, i3⟩ := ckAV_ok G hk.2 eb
          exact ⟨av_cons hs (keep_fr ((hk.1 X c G).1 e ows a ea)) i1, by simp [hs, i2], by simp [i3]⟩
        · cases h
      · cases h
    · cases h
  | [], _ :: _, _, _, _, hk, _ => hk.elim
  | _ :: _, [], _, _, _, hk, _ => hk.elim
  | [], [], _ :: _, _, _, _, h => by cases h
  | _ :: _, _ :: _, [], _, _, _, h => by cases h
theorem ckAR_ok (G : GOk X c C S) : ∀ {ks : List Ck} {ps : List (M D × M Bool)} {es : List Expr} {ows : Ows} {r : Ows × List Ow × Bool}, CksOk S C ks ps → ckAR ks es ows = some r → PA X es (tAR c (evs ps) ows r.1 r.2.1 r.2.2) ∧ es.all noStar = true ∧ es.length = ps.length
  | [], [], [], ows, r, _, h => by cases h; exact ⟨ar_nil, rfl, rfl⟩
  | k :: ks, p :: ps, e :: es, ows, r, hk, h => by
    unfold ckAR at h
    split at h
    · rename_i hs
      split at h
      · rename_i a ea
        split at h
        · rename_i b eb
          split at h
          · rename_i hq
            cases h
            obtain ⟨i1, i2, i3⟩ := ckAR_ok G hk.2 eb
            rw [hq] at i1
            exact ⟨ar_cons hs ((hk.1 X c G).2.1 e ows a ea) i1, by simp [hs, i2], by simp [i3]⟩
          · cases h
        · cases h
      · cases h
    · cases h
  | [], _ :: _, _, _, _, hk, _ => hk.elim
  | _ :: _, [], _, _, _, hk, _ => hk.elim
  | [], [], _ :: _, _, _, _, h => by cases h
  | _ :: _, _ :: _, [], _, _, _, h => by cases h
theorem evs_len : ∀ {ps : List (M D × M Bool)} {env env' : Env} {ds : List D}, evs ps env = .ok ds env' → ds.length = ps.length
  | [], _, _, _, h => by cases h; rfl
  | p :: ps, env, env', ds, h => by
    unfold evs M.bind at h
    cases e1 : p.1 env with
    | no => rw [e1] at h; cases h
    | ex => rw [e1] at h; cases h
    | ok d env1 =>
      rw [e1] at h
      simp only at h
      cases e2 : evs ps env1 with
      | no => rw [e2] at h; cases h
      | ex => rw [e2] at h; cases h
      | ok ds2 env2 =>
        rw [e2] at h
        cases h
        simp [evs_len e2]

/-! ### and, or -/
def ckBT : List Ck → List Expr → Ows → TR
  | [k], [e], ows => k.t e ows
  | k :: ks, e :: es, ows => match k.t e ows with
    | some a => (match ckBT ks es a.1 with
      | some b => if weakB 0 a.1 b.1 = true then some (b.1, a.2 && b.2) else none
      | none => none)
    | none => none
  | _, _, _ => none
def ckBV : List Ck → List Expr → Ows → VR
  | [k], [e], ows => k.v e ows
  | k :: ks, e :: es, ows => match k.r e ows with
    | some a => (match ckBV ks es a.1 with
      | some b => if weakB 0 a.1 b.1 = true then some (b.1, b.2.1, a.2.2 && b.2.2) else none
      | none => none)
    | none => none
  | _, _, _ => none
theorem andT_ok (G : GOk X c C S) : ∀ {ks : List Ck} {ps : List (M D × M Bool)} {es : List Expr} {ows : Ows} {r : Ows × Bool} {pos : Pos}, CksOk S C ks ps → ckBT ks es ows = some r → PW X (.BoolOp .And es pos) (tB_ c (andT ps) ows r.1 r.2)
  | [k], [p], [e], ows, r, pos, hk, h => pw_and1 ((hk.1 X c G).2.2 e ows r h)
  | k :: k2 :: ks, p :: p2 :: ps, e :: e2 :: es, ows, r, pos, hk, h => by
    unfold ckBT at h
    split at h
    · rename_i a ea
      split at h
      · rename_i b eb
        split at h
        · rename_i he
          cases h
          exact andB_cons ((hk.1 X c G).2.2 e ows a ea) (andT_ok (pos := pos) G hk.2 eb) he
        · cases h
      · cases h
    · cases h
  | [], [], _, _, _, _, _, h => by cases h
  | [_], [_], [], _, _, _, _, h => by cases h
  | [_], [_], _ :: _ :: _, _, _, _, _, h => by
    unfold ckBT at h
    split at h
    · simp [ckBT] at h
    · cases h
  | _ :: _ :: _, _ :: _ :: _, [], _, _, _, _, h => by cases h
  | _ :: _ :: _, _ :: _ :: _, [_], _, _, _, _, h => by
    unfold ckBT at h
    split at h
    · simp [ckBT] at h
    · cases h
  | [], _ :: _, _, _, _, _, hk, _ => hk.elim
  | _ :: _, [], _, _, _, _, hk, _ => hk.elim
  | [_], _ :: _ :: _, _, _, _, _, hk, _ => hk.2.elim
  | _ :: _ :: _, [_], _, _, _, _, hk, _ => hk.2.elim
theorem orT_ok (G : GOk X c C S) : ∀ {ks : List Ck} {ps : List (M D × M Bool)} {es : List Expr} {ows : Ows} {r : Ows × Bool} {pos : Pos}, CksOk S C ks ps → ckBT ks es ows = some r → PW X (.BoolOp .Or es pos) (tB_ c (orT ps) ows r.1 r.2)
  | [k], [p], [e], ows, r, pos, hk, h => pw_or1 ((hk.1 X c G).2.2 e ows r h)
  | k :: k2 :: ks, p :: p2 :: ps, e :: e2 :: es, ows, r, pos, hk, h => by
    unfold ckBT at h
    split at h
    · rename_i a ea
      split at h
      · rename_i b eb
        split at h
        · rename_i he
          cases h
          exact orB_cons ((hk.1 X c G).2.2 e ows a ea) (orT_ok (pos := pos) G hk.2 eb) he
        · cases h
      · cases h
    · cases h
  | [], [], _, _, _, _, _, h => by cases h
  | [_], [_], [], _, _, _, _, h => by cases h
  | [_], [_], _ :: _ :: _, _, _, _, _, h => by
    unfold ckBT at h
    split at h
    · simp [ckBT] at h
    · cases h
  | _ :: _ :: _, _ :: _ :: _, [], _, _, _, _, h => by cases h
  | _ :: _ :: _, _ :: _ :: _, [_], _, _, _, _, h => by
    unfold ckBT at h
    split at h
    · simp [ckBT] at h
    · cases h
  | [], _ :: _, _, _, _, _, hk, _ => hk.elim
  | _ :: _, [], _, _, _, _, hk, _ => hk.elim
  | [_], _ :: _ :: _, _, _, _, _, hk, _ => hk.2.elim
  | _ :: _ :: _, [_], _, _, _, _, hk, _ => hk.2.elim
theorem andV_ok (G : GOk X c C S) : ∀ {ks : List Ck} {ps : List (M D × M Bool)} {es : List Expr} {ows : Ows} {r : Ows × Ow × Bool} {pos : Pos}, CksOk S C ks ps → ckBV ks es ows = some r → PE X (.BoolOp .And es pos) (tV c (andV ps) ows r.1 r.2.1 r.2.2)
  | [k], [p], [e], ows, r, pos, hk, h => pe_one ((hk.1 X c G).1 e ows r h)
  | k :: k2 :: ks, p :: p2 :: ps, e :: e2 :: es, ows, r, pos, hk, h => by
    unfold ckBV at h
    split at h
    · rename_i a ea
      split at h
      · rename_i b eb
        split at h
        · rename_i he
          cases h
          exact andV_cons ((hk.1 X c G).2.1 e ows a ea) (andV_ok (pos := pos) G hk.2 eb) he
        · cases h
      · cases h
    · cases h
  | [], [], _, _, _, _, _, h => by cases h
  | [_], [_], [], _, _, _, _, h => by cases h
  | [_], [_], _ :: _ :: _, _, _, _, _, h => by
    unfold ckBV at h
    split at h
    · simp [ckBV] at h
    · cases h
  | _ :: _ :: _, _ :: _ :: _, [], _, _, _, _, h => by cases h
  | _ :: _ :: _, _ :: _ :: _, [_], _, _, _, _, h => by
    unfold ckBV at h
    split at h
    · simp [ckBV] at h
    · cases h
  | [], _ :: _, _, _, _, _, hk, _ => hk.elim
  | _ :: _, [], _, _, _, _, hk, _ => hk.elim
  | [_], _ :: _ :: _, _, _, _, _, hk, _ => hk.2.elim
  | _ :: _ :: _, [_], _, _, _, _, hk, _ => hk.2.elim
theorem orV_ok (G : GOk X c C S) : ∀ {ks : List Ck} {ps : List (M D × M Bool)} {es : List Expr} {ows : Ows} {r : Ows × Ow × Bool} {pos : Pos}, CksOk S C ks ps → ckBV ks es ows = some r → PE X (.BoolOp .Or es pos) (tV c (orV ps) ows r.1 r.2.1 r.2.2)
  | [k], [p], [e], ows, r, pos, hk, h => pe_one ((hk.1 X c G).1 e ows r h)
  | k :: k2 :: ks, p :: p2 :: ps, e :: e2 :: es, ows, r, pos, hk, h => by
    unfold ckBV at h
    split at h
    · rename_i a ea
      split at h
      · rename_i b eb
        split at h
        · rename_i he
          cases h
          exact orV_cons ((hk.1 X c G).2.1 e ows a ea) (orV_ok (pos := pos) G hk.2 eb) he
        · cases h
      · cases h
    · cases h
  | [], [], _, _, _, _, _, h => by cases h
  | [_], [_], [], _, _, _, _, h => by cases h
  | [_], [_], _ :: _ :: _, _, _, _, _, h => by
    unfold ckBV at h
    split at h
    · simp [ckBV] at h
    · cases h
  | _ :: _ :: _, _ :: _ :: _, [], _, _, _, _, h => by cases h
  | _ :: _ :: _, _ :: _ :: _, [_], _, _, _, _, h => by
    unfold ckBV at h
    split at h
    · simp [ckBV] at h
    · cases h
  | [], _ :: _, _, _, _, _, hk, _ => hk.elim
  | _ :: _, [], _, _, _, _, hk, _ => hk.elim
  | [_], _ :: _ :: _, _, _, _, _, hk, _ => hk.2.elim
  | _ :: _ :: _, [_], _, _, _, _, hk, _ => hk.2.elim
end
end Mp
/-! Mp16: the checker, construct by construct. -/
namespace Mp
open PySem PySem.Spec PyProof.Rows L2

theorem noDbg1 {x : Str} (h : noDbg x = true) : (x == ("__debug__" : Str)) = false := by
  unfold noDbg at h
  simp only [Bool.and_eq_true, Bool.not_eq_true'] at h
  exact h.1
theorem noDbg2 {x : Str} (h : noDbg x = true) : (x == ("__classdict__" : Str)) = false := by
  unfold noDbg at h
  simp only [Bool.and_eq_true, Bool.not_eq_true'] at h
  exact h.2
def nmOk (S : Sg) (i : Nat) (pe : Expr) : Bool := match vName pe with
  | some x => decide (S.N[i]? = some x) && (S.vis x && noDbg x)
  | none => false
def noCk : Ck := ⟨fun _ _ => none, fun _ _ => none, fun _ _ => none⟩
theorem noCk_ok {S : Sg} {C : Cs} {p : M D × M Bool} : CkOk S C noCk p := fun _ _ _ => ⟨fun _ _ _ h => (nomatch h), fun _ _ _ h => (nomatch h), fun _ _ _ h => (nomatch h)⟩
section
variable {S : Sg} {C : Cs} {X : Cx} {c : Cc}
theorem nmOk_eq (G : GOk X c C S) {i : Nat} {pe : Expr} (h : nmOk S i pe = true) : ∃ x p, pe = .Name x p ∧ X.N[i]? = some x ∧ Vis X.env.scope x ∧ (x == ("__debug__" : Str)) = false ∧ (x == ("__classdict__" : Str)) = false := by
  unfold nmOk at h
  split at h
  · rename_i x e
    obtain ⟨p, rfl⟩ := vName_eq e
    simp only [Bool.and_eq_true, decide_eq_true_eq] at h
    exact ⟨x, p, rfl, by rw [G.N]; exact h.1, G.vis h.2.1, noDbg1 h.2.2, noDbg2 h.2.2⟩
  · cases h
def ckVar (S : Sg) (i : Nat) : Ck := ⟨fun pe ows => if nmOk S i pe = true then some (ows.set i .fr, .fr, true) else none, fun pe ows => if nmOk S i pe = true then some (ows, owAt ows i, true) else none, mkT fun pe ows => if nmOk S i pe = true then some (ows, owAt ows i, true) else none⟩
theorem ckVar_ok {i : Nat} : CkOk S C (ckVar S i) (val (varM i)) := fun X c G => by
  have hr : ∀ pe ows r, (ckVar S i).r pe ows = some r → PE X pe (tR c (varM i) ows r.1 r.2.1 r.2.2) := fun pe ows r h => by
    simp only [ckVar] at h
    split at h
    · rename_i hn
      cases h
      obtain ⟨x, p, rfl, h1, h2, h3, h4⟩ := nmOk_eq G hn
      exact pr_var h1 h2 h3 h4
    · cases h
  refine ⟨fun pe ows r h => ?_, hr, mkT_ok G hr⟩
  simp only [ckVar] at h
  split at h
  · rename_i hn
    cases h
    obtain ⟨x, p, rfl, h1, h2, h3, h4⟩ := nmOk_eq G hn
    exact pv_var h1 h2 h3 h4
  · cases h
def ckMv (S : Sg) (i : Nat) : Ck := mkV fun pe ows => if nmOk S i pe = true then some (ows.set i .fr, owAt ows i, true) else none
theorem ckMv_ok {i : Nat} : CkOk S C (ckMv S i) (val (mvM i)) := mkV_ok fun X c G pe ows r h => by
  split at h
  · rename_i hn
    cases h
    obtain ⟨x, p, rfl, h1, h2, h3, h4⟩ := nmOk_eq G hn
    exact pv_mv h1 h2 h3 h4
  · cases h
def ckK (k : Const) : Ck := mkV fun pe ows => if decide (vConst pe = some k) = true then some (ows, .ow .fr, true) else none
theorem ckInt_ok {i : Int} : CkOk S C (ckK (.int i)) (val (M.ret (.int i))) := mkV_ok fun X c G pe ows r h => by
  split at h
  · rename_i hn
    cases h
    obtain ⟨j, p, rfl⟩ := vConst_eq (of_decide_eq_true hn)
    exact pv_int
  · cases h
theorem ckStr_ok {i : Str} : CkOk S C (ckK (.str i)) (val (M.ret (.str i))) := mkV_ok fun X c G pe ows r h => by
  split at h
  · rename_i hn
    cases h
    obtain ⟨j, p, rfl⟩ := vConst_eq (of_decide_eq_true hn)
    exact pv_str
  · cases h
theorem ckBl_ok {i : Bool} : CkOk S C (ckK (.bool i)) (val (M.ret (.bl i))) := mkV_ok fun X c G pe ows r h => by
  split at h
  · rename_i hn
    cases h
    obtain ⟨j, p, rfl⟩ := vConst_eq (of_decide_eq_true hn)
    exact pv_bl
  · cases h
theorem ckNon_ok : CkOk S C (ckK .none) (val (M.ret .non)) := mkV_ok fun X c G pe ows r h => by
  split at h
  · rename_i hn
    cases h
    obtain ⟨j, p, rfl⟩ := vConst_eq (of_decide_eq_true hn)
    exact pv_non
  · cases h
def ckG (S : Sg) (x : Str) : Ck := mkV fun pe ows => if (decide (vName pe = some x) && (S.gl x && (S.glo x && noDbg x))) = true then some (ows, .fr, true) else none
theorem ckG_ok {x : Str} : CkOk S C (ckG S x) (val (M.opt (C.gl x))) := mkV_ok fun X c G pe ows r h => by
  split at h
  · rename_i hn
    cases h
    simp only [Bool.and_eq_true, decide_eq_true_eq] at hn
    obtain ⟨p, rfl⟩ := vName_eq hn.1
    obtain ⟨d, v, u, h1, h2, h3, h4⟩ := G.gl x hn.2.1
    exact pv_glob (G.glo hn.2.2.1) h1 h2 h3 h4 (noDbg1 hn.2.2.2)
  · cases h
def ckBin (k : BO) (a b : Ck) : Ck := mkV fun pe ows => match vBin pe with
  | some e => if decide (e.2.1 = opB k) = true then (match a.r e.1 ows with
    | some x => (match b.r e.2.2 x.1 with
      | some y => if (y.2.2 && (shal x.2.1 && shal y.2.1)) = true then some (y.1, .ow .fr, x.2.2) else none
      | none => none)
    | none => none) else none
  | none => none
theorem ckBin_ok {k : BO} {a b : Ck} {p q : M D × M Bool} (ha : CkOk S C a p) (hb : CkOk S C b q) : CkOk S C (ckBin k a b) (val (op2 (binD k) p.1 q.1)) := mkV_ok fun X c G pe ows r h => by
  split at h
  · rename_i e he
    split at h
    · rename_i hk
      split at h
      · rename_i x ex
        split at h
        · rename_i y ey
          split at h
          · rename_i hs
            cases h
            simp only [Bool.and_eq_true] at hs
            obtain ⟨pos, rfl⟩ := vBin_eq he
            rw [of_decide_eq_true hk]
            have h2 := (hb X c G).2.1 _ _ y ey
            rw [hs.1] at h2
            exact pv_bin G.K ((ha X c G).2.1 _ _ x ex) h2 hs.2.1 hs.2.2
          · cases h
        · cases h
      · cases h
    · cases h
  · cases h
def ckNeg (a : Ck) : Ck := mkV fun pe ows => match vUn pe with
  | some e => if decide (e.1 = .USub) = true then (match a.r e.2 ows with
    | some x => some (x.1, .ow .fr, x.2.2)
    | none => none) else none
  | none => none
theorem ckNeg_ok {a : Ck} {p : M D × M Bool} (ha : CkOk S C a p) : CkOk S C (ckNeg a) (val (op1 negD p.1)) := mkV_ok fun X c G pe ows r h => by
  split at h
  · rename_i e he
    split at h
    · rename_i hk
      split at h
      · rename_i x ex
        cases h
        obtain ⟨pos, rfl⟩ := vUn_eq he
        rw [of_decide_eq_true hk]
        exact pv_neg ((ha X c G).2.1 _ _ x ex)
      · cases h
    · cases h
  · cases h
def vNot (pe : Expr) : Option Expr := match vUn pe with
  | some e => if decide (e.1 = .Not) = true then some e.2 else none
  | none => none
theorem vNot_eq {pe e : Expr} (h : vNot pe = some e) : ∃ p, pe = .UnaryOp .Not e p := by
  unfold vNot at h
  split at h
  · rename_i r he
    split at h
    · rename_i hk
      cases h
      obtain ⟨pos, rfl⟩ := vUn_eq he
      rw [of_decide_eq_true hk]
      exact ⟨_, rfl⟩
    · cases h
  · cases h
def ckNotV (a : Ck) : Expr → Ows → VR := fun pe ows => match vNot pe with
  | some e => (match a.r e ows with
    | some x => some (x.1, .ow .fr, x.2.2)
    | none => none)
  | none => none
def ckNot (a : Ck) : Ck := ⟨ckNotV a, ckNotV a, fun pe ows => match vNot pe with
  | some e => a.t e ows
  | none => none⟩
theorem ckNot_ok {a : Ck} {p : M D × M Bool} (ha : CkOk S C a (p.1, p.2)) : CkOk S C (ckNot a) (notT p) := fun X c G => by
  have hv : ∀ pe ows r, ckNotV a pe ows = some r → PE X pe (tV c (notT p).1 ows r.1 r.2.1 r.2.2) := fun pe ows r h => by
    unfold ckNotV at h
    split at h
    · rename_i e he
      split at h
      · rename_i x ex
        cases h
        obtain ⟨pos, rfl⟩ := vNot_eq he
        exact pv_notM ((ha X c G).2.1 _ _ x ex) G.K
      · cases h
    · cases h
  refine ⟨hv, fun pe ows r h => look_of (hv pe ows r h), fun pe ows r h => ?_⟩
  simp only [ckNot] at h
  split at h
  · rename_i e he
    obtain ⟨pos, rfl⟩ := vNot_eq he
    exact pt_notM ((ha X c G).2.2 _ _ _ h)
  · cases h
/-- both sides of a comparison -/
def ckCmpX {α : Type} (k : CO) (a b : Ck) (fin : Ows → Bool → α) : Expr → Ows → Option α := fun pe ows => match vCmp pe with
  | some e => if (decide (e.2.1 = opC k) && noSet e.2.2) = true then (match a.r e.1 ows with
    | some x => (match b.r e.2.2 x.1 with
      | some y => if y.2.2 = true then some (fin y.1 x.2.2) else none
      | none => none)
    | none => none) else none
  | none => none
theorem ckCmpX_ok {α : Type} {k : CO} {a b : Ck} {p q : M D × M Bool} {fin : Ows → Bool → α} (ha : CkOk S C a p) (hb : CkOk S C b q) (G : GOk X c C S) {pe : Expr} {ows : Ows} {r : α} (h : ckCmpX k a b fin pe ows = some r) :
    ∃ e1 e2 pos ows1 ows2 oa ob qa, pe = .Compare e1 [opC k] [e2] pos ∧ noSet e2 = true ∧ PE X e1 (tR c p.1 ows ows1 oa qa) ∧ PE X e2 (tR c q.1 ows1 ows2 ob true) ∧ r = fin ows2 qa := by
  unfold ckCmpX at h
  split at h
  · rename_i e he
    split at h
    · rename_i hk
      split at h
      · rename_i x ex
        split at h
        · rename_i y ey
          split at h
          · rename_i hq
            cases h
            simp only [Bool.and_eq_true, decide_eq_true_eq] at hk
            obtain ⟨pos, rfl⟩ := vCmp_eq he
            rw [hk.1]
            have h2 := (hb X c G).2.1 _ _ y ey
            rw [hq] at h2
            exact ⟨_, _, _, _, _, _, _, _, rfl, hk.2, (ha X c G).2.1 _ _ _ ex, h2, rfl⟩
          · cases h
        · cases h
      · cases h
    · cases h
  · cases h
def ckCmp (k : CO) (a b : Ck) : Ck := ⟨ckCmpX k a b fun o q => (o, .ow .fr, q), ckCmpX k a b fun o q => (o, .ow .fr, q), ckCmpX k a b fun o q => (o, q)⟩
theorem ckCmp_ok {k : CO} {a b : Ck} {p q : M D × M Bool} (ha : CkOk S C a p) (hb : CkOk S C b q) : CkOk S C (ckCmp k a b) (val (op2 (fun x y => (cmpD k x y).map .bl) p.1 q.1)) := fun X c G => by
  have hv : ∀ pe ows r, (ckCmp k a b).v pe ows = some r → PE X pe (tV c (op2 (cmpM k) p.1 q.1) ows r.1 r.2.1 r.2.2) := fun pe ows r h => by
    obtain ⟨e1, e2, pos, ows1, ows2, oa, ob, qa, rfl, h1, h2, h3, rfl⟩ := ckCmpX_ok ha hb G (show ckCmpX k a b (fun o q => (o, Ow.ow Ow.fr, q)) pe ows = some r from h)
    exact pv_cmp G.K G.hu h2 h3 h1
  refine ⟨hv, fun pe ows r h => look_of (hv pe ows r h), fun pe ows r h => ?_⟩
  obtain ⟨e1, e2, pos, ows1, ows2, oa, ob, qa, rfl, h1, h2, h3, rfl⟩ := ckCmpX_ok ha hb G (show ckCmpX k a b (fun o q => (o, q)) pe ows = some r from h)
  exact pt_cmp' G.K G.hu h2 h3 h1
def ckChX {α : Type} (k l : CO) (a b d : Ck) (fin : Ows → Bool → α) : Expr → Ows → Option α := fun pe ows => match vCh pe with
  | some e => if (decide (e.2.1 = opC k) && (decide (e.2.2.1 = opC l) && noSet e.2.2.2.2)) = true then (match a.r e.1 ows with
    | some x => (match b.r e.2.2.2.1 x.1 with
      | some y => (match d.r e.2.2.2.2 y.1 with
        | some z => if (y.2.2 && (z.2.2 && decide (z.1 = y.1))) = true then some (fin y.1 x.2.2) else none
        | none => none)
      | none => none)
    | none => none) else none
  | none => none
theorem ckChX_ok {α : Type} {k l : CO} {a b d : Ck} {p q s : M D × M Bool} {fin : Ows → Bool → α} (ha : CkOk S C a p) (hb : CkOk S C b q) (hd : CkOk S C d s) (G : GOk X c C S) {pe : Expr} {ows : Ows} {r : α} (h : ckChX k l a b d fin pe ows = some r) :
    ∃ e1 e2 e3 pos ows1 ows2 oa ob od qa, pe = .Compare e1 [opC k, opC l] [e2, e3] pos ∧ noSet e3 = true ∧ PE X e1 (tR c p.1 ows ows1 oa qa) ∧ PE X e2 (tR c q.1 ows1 ows2 ob true) ∧ PE X e3 (tR c s.1 ows2 ows2 od true) ∧ r = fin ows2 qa := by
  unfold ckChX at h
  split at h
  · rename_i e he
    split at h
    · rename_i hk
      split at h
      · rename_i x ex
        split at h
        · rename_i y ey
          split at h
          · rename_i z ez
            split at h
            · rename_i hq
              cases h
              simp only [Bool.and_eq_true, decide_eq_true_eq] at hk hq
              obtain ⟨pos, rfl⟩ := vCh_eq he
              rw [hk.1, hk.2.1]
              have h2 := (hb X c G).2.1 _ _ y ey
              rw [hq.1] at h2
              have h3 := (hd X c G).2.1 _ _ z ez
              rw [hq.2.1, hq.2.2] at h3
              exact ⟨_, _, _, _, _, _, _, _, _, _, rfl, hk.2.2, (ha X c G).2.1 _ _ _ ex, h2, h3, rfl⟩
            · cases h
          · cases h
        · cases h
      · cases h
    · cases h
  · cases h
def ckCh (k l : CO) (a b d : Ck) : Ck := ⟨ckChX k l a b d fun o q => (o, .ow .fr, q), ckChX k l a b d fun o q => (o, .ow .fr, q), ckChX k l a b d fun o q => (o, q)⟩
theorem ckCh_ok {k l : CO} {a b d : Ck} {p q s : M D × M Bool} (ha : CkOk S C a p) (hb : CkOk S C b q) (hd : CkOk S C d s) : CkOk S C (ckCh k l a b d) (val (chM k l p.1 q.1 s.1)) := fun X c G => by
  have hv : ∀ pe ows r, (ckCh k l a b d).v pe ows = some r → PE X pe (tV c (chM k l p.1 q.1 s.1) ows r.1 r.2.1 r.2.2) := fun pe ows r h => by
    obtain ⟨e1, e2, e3, pos, ows1, ows2, oa, ob, od, qa, rfl, h1, h2, h3, h4, rfl⟩ := ckChX_ok ha hb hd G (show ckChX k l a b d (fun o q => (o, Ow.ow Ow.fr, q)) pe ows = some r from h)
    exact pv_ch' G.K G.hu h2 h3 h4 h1
  refine ⟨hv, fun pe ows r h => look_of (hv pe ows r h), fun pe ows r h => ?_⟩
  obtain ⟨e1, e2, e3, pos, ows1, ows2, oa, ob, od, qa, rfl, h1, h2, h3, h4, rfl⟩ := ckChX_ok ha hb hd G (show ckChX k l a b d (fun o q => (o, q)) pe ows = some r from h)
  exact pt_ch' G.K G.hu h2 h3 h4 h1
def ckAnd (ks : List Ck) : Ck :=
  let v : Expr → Ows → VR := fun pe ows => match vBool pe with
    | some e => if decide (e.1 = .And) = true then ckBV ks e.2 ows else none
    | none => none
  ⟨v, v, fun pe ows => match vBool pe with
    | some e => if decide (e.1 = .And) = true then ckBT ks e.2 ows else none
    | none => none⟩
theorem ckAnd_ok {ks : List Ck} {ps : List (M D × M Bool)} (h : CksOk S C ks ps) : CkOk S C (ckAnd ks) (andV ps, andT ps) := fun X c G => by
  have hv : ∀ pe ows r, (ckAnd ks).v pe ows = some r → PE X pe (tV c (andV ps) ows r.1 r.2.1 r.2.2) := fun pe ows r hh => by
    simp only [ckAnd] at hh
    split at hh
    · rename_i e he
      split at hh
      · rename_i hk
        obtain ⟨pos, rfl⟩ := vBool_eq he
        rw [of_decide_eq_true hk]
        exact andV_ok G h hh
      · cases hh
    · cases hh
  refine ⟨hv, fun pe ows r hh => look_of (hv pe ows r hh), fun pe ows r hh => ?_⟩
  simp only [ckAnd] at hh
  split at hh
  · rename_i e he
    split at hh
    · rename_i hk
      obtain ⟨pos, rfl⟩ := vBool_eq he
      rw [of_decide_eq_true hk]
      exact (andT_ok G h hh).pt
    · cases hh
  · cases hh
def ckOr (ks : List Ck) : Ck :=
  let v : Expr → Ows → VR := fun pe ows => match vBool pe with
    | some e => if decide (e.1 = .Or) = true then ckBV ks e.2 ows else none
    | none => none
  ⟨v, v, fun pe ows => match vBool pe with
    | some e => if decide (e.1 = .Or) = true then ckBT ks e.2 ows else none
    | none => none⟩
theorem ckOr_ok {ks : List Ck} {ps : List (M D × M Bool)} (h : CksOk S C ks ps) : CkOk S C (ckOr ks) (orV ps, orT ps) := fun X c G => by
  have hv : ∀ pe ows r, (ckOr ks).v pe ows = some r → PE X pe (tV c (orV ps) ows r.1 r.2.1 r.2.2) := fun pe ows r hh => by
    simp only [ckOr] at hh
    split at hh
    · rename_i e he
      split at hh
      · rename_i hk
        obtain ⟨pos, rfl⟩ := vBool_eq he
        rw [of_decide_eq_true hk]
        exact orV_ok G h hh
      · cases hh
    · cases hh
  refine ⟨hv, fun pe ows r hh => look_of (hv pe ows r hh), fun pe ows r hh => ?_⟩
  simp only [ckOr] at hh
  split at hh
  · rename_i e he
    split at hh
    · rename_i hk
      obtain ⟨pos, rfl⟩ := vBool_eq he
      rw [of_decide_eq_true hk]
      exact (orT_ok G h hh).pt
    · cases hh
  · cases hh
def joinO : Ows → Ows → Ows
  | a :: as, b :: bs => (if a = b then a else .fr) :: joinO as bs
  | _, _ => []
def ckIte (k a b : Ck) : Ck := mkV fun pe ows => match vIf pe with
  | some e => (match k.t e.1 ows with
    | some z => (match a.v e.2.1 z.1, b.v e.2.2 z.1 with
      | some x, some y => if (weakB 0 x.1 (joinO x.1 y.1) && weakB 0 y.1 (joinO x.1 y.1)) = true then (if decide (x.2.1 = y.2.1) = true then some (joinO x.1 y.1, x.2.1, z.2 && (x.2.2 && y.2.2)) else some (joinO x.1 y.1, .fr, z.2 && (x.2.2 && y.2.2))) else none
      | _, _ => none)
    | none => none)
  | none => none
theorem ckIte_ok {k a b : Ck} {s p q : M D × M Bool} (hk : CkOk S C k s) (ha : CkOk S C a p) (hb : CkOk S C b q) : CkOk S C (ckIte k a b) (val (M.bind s.2 fun k => if k = true then p.1 else q.1)) := mkV_ok fun X c G pe ows r h => by
  split at h
  · rename_i e he
    split at h
    · rename_i z ez
      split at h
      · rename_i x y ex ey
        split at h
        · rename_i hw
          simp only [Bool.and_eq_true] at hw
          obtain ⟨pos, rfl⟩ := vIf_eq he
          have h1 := pv_weak ((ha X c G).1 _ _ x ex) hw.1
          have h2 := pv_weak ((hb X c G).1 _ _ y ey) hw.2
          split at h
          · rename_i ho
            cases h
            rw [← of_decide_eq_true ho] at h2
            exact pv_ite ((hk X c G).2.2 _ _ z ez) h1 h2
          · cases h
            exact pv_ite ((hk X c G).2.2 _ _ z ez) (keep_fr h1) (keep_fr h2)
        · cases h
      · cases h
    · cases h
  · cases h
def ckTup (ks : List Ck) : Ck := mkV fun pe ows => match vTup pe with
  | some es => if decide (es.length ≤ 1000) = true then (match ckAV ks es ows with
    | some x => some (x.1, .ow .fr, x.2)
    | none => none) else none
  | none => none
theorem ckTup_ok {ks : List Ck} {ps : List (M D × M Bool)} (hs : CksOk S C ks ps) : CkOk S C (ckTup ks) (val (M.bind (evs ps) fun ds => M.ret (.tup ds))) := mkV_ok fun X c G pe ows r h => by
  split at h
  · rename_i es he
    split at h
    · rename_i hl
      split at h
      · rename_i x ex
        cases h
        obtain ⟨j, pos, rfl⟩ := vTup_eq he
        obtain ⟨i1, i2, i3⟩ := ckAV_ok G hs ex
        exact pv_tup (of_decide_eq_true hl) (fun env ds env' e => by rw [evs_len e, i3]) i1
      · cases h
    · cases h
  · cases h
def ckLst (ks : List Ck) : Ck := mkV fun pe ows => match vLst pe with
  | some es => if decide (es.length ≤ 1000) = true then (match ckAV ks es ows with
    | some x => some (x.1, .ow .fr, x.2)
    | none => none) else none
  | none => none
theorem ckLst_ok {ks : List Ck} {ps : List (M D × M Bool)} (hs : CksOk S C ks ps) : CkOk S C (ckLst ks) (val (M.bind (evs ps) fun ds => M.ret (.lst ds))) := mkV_ok fun X c G pe ows r h => by
  split at h
  · rename_i es he
    split at h
    · rename_i hl
      split at h
      · rename_i x ex
        cases h
        obtain ⟨pos, rfl⟩ := vLst_eq he
        obtain ⟨i1, i2, i3⟩ := ckAV_ok G hs ex
        exact pv_lst (of_decide_eq_true hl) (fun env ds env' e => by rw [evs_len e, i3]) i1
      · cases h
    · cases h
  · cases h
def ckIx (a b : Ck) : Ck := mkV fun pe ows => match vSub pe with
  | some e => if noSl e.2 = true then (match a.r e.1 ows with
    | some x => (match b.r e.2 x.1 with
      | some y => if (y.2.2 && shal x.2.1) = true then some (y.1, .fr, x.2.2) else none
      | none => none)
    | none => none) else none
  | none => none
theorem ckIx_ok {a b : Ck} {p q : M D × M Bool} (ha : CkOk S C a p) (hb : CkOk S C b q) : CkOk S C (ckIx a b) (val (op2 ixD p.1 q.1)) := mkV_ok fun X c G pe ows r h => by
  split at h
  · rename_i e he
    split at h
    · rename_i hk
      split at h
      · rename_i x ex
        split at h
        · rename_i y ey
          split at h
          · rename_i hs
            cases h
            simp only [Bool.and_eq_true] at hs
            obtain ⟨pos, rfl⟩ := vSub_eq he
            have h2 := (hb X c G).2.1 _ _ y ey
            rw [hs.1] at h2
            exact pv_ix (by have := G.hu; omega) ((ha X c G).2.1 _ _ x ex) h2 hk hs.2 G.K
          · cases h
        · cases h
      · cases h
    · cases h
  · cases h
def ckPart : List Ck → Option Expr → Ows → Option Ows
  | [], none, ows => some ows
  | [k], some e, ows => match k.r e ows with
    | some x => if x.2.2 = true then some x.1 else none
    | none => none
  | _, _, _ => none
theorem ckPart_ok (G : GOk X c C S) {ks : List Ck} {ps : List (M D × M Bool)} {e : Option Expr} {ows r : Ows} (hs : CksOk S C ks ps) (h : ckPart ks e ows = some r) : PO X e (tPO c (partM ps) ows r) := by
  unfold ckPart at h
  split at h
  · cases h
    cases ps with
    | nil => exact po_no
    | cons => exact hs.elim
  · rename_i k e
    split at h
    · rename_i x ex
      split at h
      · rename_i hq
        cases h
        cases ps with
        | nil => exact hs.elim
        | cons p ps =>
          cases ps with
          | cons => exact hs.2.elim
          | nil =>
            have h1 := (hs.1 X c G).2.1 _ _ x ex
            rw [hq] at h1
            exact po_at h1
      · cases h
    · cases h
  · cases h
def ckSl (a : Ck) (lo hi : List Ck) : Ck := mkV fun pe ows => match vSl pe with
  | some e => (match a.r e.1 ows with
    | some x => (match ckPart lo e.2.1 x.1 with
      | some y => (match ckPart hi e.2.2 y with
        | some z => if shal x.2.1 = true then some (z, .ow .fr, x.2.2) else none
        | none => none)
      | none => none)
    | none => none)
  | none => none
theorem ckSl_ok {a : Ck} {lo hi : List Ck} {p : M D × M Bool} {pl ph : List (M D × M Bool)} (ha : CkOk S C a p) (hl : CksOk S C lo pl) (hh : CksOk S C hi ph) :
    CkOk S C (ckSl a lo hi) (val (M.bind p.1 fun x => M.bind (partM pl) fun l => M.bind (partM ph) fun h => M.opt (slD x l h))) := mkV_ok fun X c G pe ows r h => by
  split at h
  · rename_i e he
    split at h
    · rename_i x ex
      split at h
      · rename_i y ey
        split at h
        · rename_i z ez
          split at h
          · rename_i hs
            cases h
            obtain ⟨p1, p2, rfl⟩ := vSl_eq he
            exact pv_sl ((ha X c G).2.1 _ _ x ex) (ckPart_ok G hl ey) (ckPart_ok G hh ez) hs G.K
          · cases h
        · cases h
      · cases h
    · cases h
  · cases h
def ckCall (S : Sg) (f : Str) (Es : List E) (ks : List Ck) : Ck := mkV fun pe ows => match vCall pe, S.fn f with
  | some e, some s => if (decide (e.1 = f) && (S.calls && (S.glo f && (noDbg f && (Es.all noLn && decide (Es.length = s.1)))))) = true then (match ckAV ks (e.2.1 :: e.2.2) ows with
    | some x => if weakB 0 x.1 S.x = true then some (x.1, s.2, x.2) else none
    | none => none) else none
  | _, _ => none
theorem ckCall_ok {f : Str} {Es : List E} {ks : List Ck} {ps : List (M D × M Bool)} (hs : CksOk S C ks ps) (hl : ps.length = Es.length) : CkOk S C (ckCall S f Es ks) (val (callM C f Es ps)) := mkV_ok fun X c G pe ows r h => by
  split at h
  · rename_i e s he hf
    split at h
    · rename_i hk
      split at h
      · rename_i x ex
        split at h
        · rename_i hw
          cases h
          simp only [Bool.and_eq_true, decide_eq_true_eq] at hk
          obtain ⟨h1, h2, h3, h4, h5, h6⟩ := hk
          obtain ⟨p1, p2, rfl⟩ := vCall_eq he
          obtain ⟨i1, i2, i3⟩ := ckAV_ok G hs ex
          obtain ⟨tk, fns⟩ := G.fn h2
          obtain ⟨k, fa, fd, pn, F, hr, hm, hkp, hb⟩ := fns f s.1 s.2 hf
          rw [h1]
          exact pv_call F hr (G.glo h3) hm hkp hb tk h5 h6 i1 (fun env ds env' e => by rw [evs_len e, hl]) (by rw [G.x]; exact hw) i2 (noDbg1 h4)
        · cases h
      · cases h
    · cases h
  · cases h
theorem biN_mem : ∀ k : BI, biN k ∈ bltNames := by intro k; cases k <;> decide +kernel
def ckBi (S : Sg) (k : BI) (ks : List Ck) : Ck := mkV fun pe ows => match vCall pe with
  | some e => if (decide (e.1 = biN k) && (biOk k && (S.glo (biN k) && (!biCalm k || S.calm)))) = true then (match ckAR ks (e.2.1 :: e.2.2) ows with
    | some x => if x.2.1.all shal = true then some (x.1, biO k, x.2.2) else none
    | none => none) else none
  | none => none
theorem ckBi_ok {k : BI} {ks : List Ck} {ps : List (M D × M Bool)} (hs : CksOk S C ks ps) : CkOk S C (ckBi S k ks) (val (M.bind (evs ps) fun ds => M.opt (bF k ds))) := mkV_ok fun X c G pe ows r h => by
  split at h
  · rename_i e he
    split at h
    · rename_i hk
      split at h
      · rename_i x ex
        split at h
        · rename_i hw
          cases h
          simp only [Bool.and_eq_true, decide_eq_true_eq, Bool.or_eq_true, Bool.not_eq_true'] at hk
          obtain ⟨h1, h2, h3, h4⟩ := hk
          obtain ⟨p1, p2, rfl⟩ := vCall_eq he
          obtain ⟨i1, i2, i3⟩ := ckAR_ok G hs ex
          rw [h1]
          exact pv_bi h2 (fun hb => G.calm (h4.elim (fun z => by rw [hb] at z; cases z) id)) G.K (G.glo h3) (G.blt _ (biN_mem k)) i2 i1 hw
        · cases h
      · cases h
    · cases h
  · cases h
def vIsi (pe : Expr) : Option (Expr × Str) := match vCall pe with
  | some (f, a, [b]) => if decide (f = ("isinstance" : Str)) = true then (match vName b with
    | some x => some (a, x)
    | none => none) else none
  | _ => none
theorem vIsi_eq {pe : Expr} {r : Expr × Str} (h : vIsi pe = some r) : ∃ p p2 pos, pe = .Call (.Name "isinstance" p) [r.1, .Name r.2 p2] [] pos := by
  unfold vIsi at h
  split at h
  · rename_i f a b he
    split at h
    · rename_i hf
      split at h
      · rename_i x hx
        cases h
        obtain ⟨p, p2, rfl⟩ := vCall_eq he
        obtain ⟨p3, rfl⟩ := vName_eq hx
        simp only at hf ⊢
        rw [of_decide_eq_true hf]
        exact ⟨_, _, _, rfl⟩
      · cases h
    · cases h
  · cases h
theorem tyN_mem {t : TY} (h : tyPl t = true) : nmS (tyN t) ∈ bltNames := by cases t <;> first | (cases h; done) | decide +kernel
def ckIsi (S : Sg) (a : Ck) (ts : List TY) : Ck := mkV fun pe ows => match vIsi pe, ts with
  | some e, [t] => if (tyPl t && (decide (e.2 = nmS (tyN t)) && (S.glo "isinstance" && (S.glo (nmS (tyN t)) && noStar e.1)))) = true then (match a.r e.1 ows with
    | some x => some (x.1, .ow .fr, x.2.2)
    | none => none) else none
  | _, _ => none
theorem ckIsi_ok {a : Ck} {ts : List TY} {p : M D × M Bool} (ha : CkOk S C a p) : CkOk S C (ckIsi S a ts) (val (M.bind p.1 fun x => M.opt ((tyAny C x ts).map .bl))) := mkV_ok fun X c G pe ows r h => by
  split at h
  · rename_i e t he
    split at h
    · rename_i hk
      split at h
      · rename_i x ex
        cases h
        simp only [Bool.and_eq_true, decide_eq_true_eq] at hk
        obtain ⟨h1, h2, h3, h4, h5⟩ := hk
        obtain ⟨p1, p2, p3, rfl⟩ := vIsi_eq he
        rw [h2]
        exact pv_isi h1 (G.glo h3) (G.blt _ (by decide +kernel)) (G.glo h4) (G.blt _ (tyN_mem h1)) G.K h5 ((ha X c G).2.1 _ _ x ex)
      · cases h
    · cases h
  · cases h
/-- isinstance(e, X), e the error that the suite holds -/
theorem pv_isE {i : Nat} {x y : Str} {p1 p2 p3 pos : Pos} {V' : V} {u : Value} {ows : Ows} {a : Addr} {n : Str} (hN : X.N[i]? = some x) (hv : Vis X.env.scope x) (hd : (x == ("__debug__" : Str)) = false) (hcd : (x == ("__classdict__" : Str)) = false)
    (hg : Gl X "isinstance") (hm : X.mg "isinstance" = none) (hy : ∀ {pos : Pos}, PE X (.Name y pos) (tC V')) (hu : ∀ w, L2.RelV V' w → w = u) (hp : c.pn i = some (.ref a, some (.exc n))) (hc : CallR X (.builtin "isinstance") (rIsE X.K (He.ga c.K n) a)) (hk : PySem.W.kitOne X.K (.ref (He.ga c.K n)) u = some (C.sub n y)) :
    PE X (.Call (.Name "isinstance" p1) [.Name x p2, .Name y p3] [] pos) (tV c (M.bind (varM i) fun x => M.opt ((tyAny C x [.exc y]).map .bl)) ows ows (.ow .fr) true) := by
  refine wPE (pe_callB hc hg hm PyProof.Rows.boot_isinstance (pa_cons (pe_var hN hv hd hcd) (pa_cons hy pa_nil (by rfl)) (by rfl)) (by decide) (by decide) (by rfl) (by rfl)) fun σ H Q ⟨w, env, hw, sr, z⟩ => ?_
  subst hw
  unfold M.bind varM at z
  cases e1 : getS env i with
  | none => rw [e1] at z; exact z.elim
  | some d =>
    rw [e1] at z
    obtain ⟨h1, h2⟩ := sr.pin i _ hp
    have hd' := h2 _ rfl d e1
    subst hd'
    have z' : ∀ w' v A, Ext w w' → SR c.K c.pn ows env σ w' → RO c.K w'.H w'.Z (.ow .fr) (.bl (C.sub n y)) v A → Tmp w w' A → (true = true → Quiet w w') → Q v w'.H := by
      have hz : tyAny C (.exc n) [.exc y] = some (C.sub n y) := by
        simp only [tyAny, tyIs]
        cases C.sub n y <;> rfl
      dsimp only at z
      rw [hz] at z
      exact z
    exact ⟨_, h1, V', u, _, rfl, hu, hk, z' w _ _ Ext.refl sr RO.mkbl Tmp.nil fun _ _ _ e => e⟩
def ckIsE (S : Sg) (i : Nat) (y : Str) : Ck := mkV fun pe ows => match vIsi pe with
  | some e => if (decide (S.es = some i) && (nmOk S i e.1 && (decide (e.2 = y) && (S.glo "isinstance" && (S.glo y && (noDbg y && (S.exc y || decide (y = ("ValueError" : Str))))))))) = true then some (ows, .ow .fr, true) else none
  | none => none
theorem ckIsE_ok {i : Nat} {y : Str} : CkOk S C (ckIsE S i y) (val (M.bind (varM i) fun x => M.opt ((tyAny C x [.exc y]).map .bl))) := mkV_ok fun X c G pe ows r h => by
  split at h
  · rename_i e he
    split at h
    · rename_i hk
      cases h
      simp only [Bool.and_eq_true, decide_eq_true_eq, Bool.or_eq_true] at hk
      obtain ⟨h1, h2, h3, h4, h5, h6, h7⟩ := hk
      obtain ⟨p1, p2, p3, rfl⟩ := vIsi_eq he
      obtain ⟨x', p', hx, n1, n2, n3, n4⟩ := nmOk_eq G h2
      obtain ⟨a, n, hn, hp, hc⟩ := G.es i h1
      rw [hx, h3]
      by_cases hy : S.exc y = true
      · exact pv_isE n1 n2 n3 n4 (G.glo h4) (G.blt _ (by decide +kernel)) (fun {pos} => pe_glob (G.glo h5) (G.exc y hy).1 (v := .ref (He.ga c.K y)) rfl (noDbg1 h6)) (fun w r => r) hp hc (G.kx n y hn hy)
      · have hy' : y = "ValueError" := h7.resolve_left hy
        subst hy'
        exact pv_isE n1 n2 n3 n4 (G.glo h4) (G.blt _ (by decide +kernel)) (fun {pos} => pe_bltn (G.glo h5) (G.blt _ (by decide +kernel)) (u := .type "ValueError") (by decide +kernel) (v := .ty "ValueError") rfl (by decide +kernel) (by decide +kernel)) (fun w r => r) hp hc (G.kv n hn)
    · cases h
  · cases h
/-- l.index(x) -/
def ckIndex (S : Sg) (a k : Ck) : Ck := mkV fun pe ows => match vM1 pe with
  | some e => if (decide (e.2.1 = ("index" : Str)) && (plainB e.1 && ((e.2.2.1.endLine == e.2.2.2.2.line) && noStar e.2.2.2.1))) = true then (match a.r e.1 ows with
    | some x => (match k.r e.2.2.2.1 x.1 with
      | some y => if y.2.2 = true then some (y.1, .ow .fr, x.2.2) else none
      | none => none)
    | none => none) else none
  | none => none
theorem ckIndex_ok {a k : Ck} {p q : M D × M Bool} (ha : CkOk S C a p) (hk : CkOk S C k q) : CkOk S C (ckIndex S a k) (val (M.bind p.1 fun x => if meOk .index x = true then M.bind (evs [q]) fun ds => M.opt (meF .index x ds) else fun _ => .no)) := mkV_ok fun X c G pe ows r h => by
  split at h
  · rename_i e he
    split at h
    · rename_i hn
      split at h
      · rename_i x ex
        split at h
        · rename_i y ey
          split at h
          · rename_i hq
            cases h
            simp only [Bool.and_eq_true, decide_eq_true_eq] at hn
            obtain ⟨h1, h2, h3, h4⟩ := hn
            have := vM1_eq he
            subst this
            rw [h1]
            have hv := (hk X c G).2.1 _ _ y ey
            rw [hq] at hv
            exact pv_index (by have := G.hu; omega) G.K h2 h3 h4 ((ha X c G).2.1 _ _ x ex) hv
          · cases h
        · cases h
      · cases h
    · cases h
  · cases h
/-- x.append(e) -/
def ckApp (S : Sg) (i : Nat) (k : Ck) : Ck := mkV fun pe ows => match vM1 pe with
  | some e => if (nmOk S i e.1 && (decide (e.2.1 = ("append" : Str)) && ((e.2.2.1.endLine == e.2.2.2.2.line) && (noStar e.2.2.2.1 && !S.pinw.contains i)))) = true then (match owAt ows i, k.v e.2.2.2.1 ows with
    | .ow o, some x => if decide (owAt x.1 i = .ow o) = true then (if (decide (x.2.1 = o) || decide (o = .fr)) = true then some (x.1, .fr, false) else none) else none
    | _, _ => none) else none
  | none => none
theorem ckApp_ok {i : Nat} {k : Ck} {p : M D × M Bool} (hk : CkOk S C k p) : CkOk S C (ckApp S i k) (val (muM .append i [] [p])) := mkV_ok fun X c G pe ows r h => by
  split at h
  · rename_i e he
    split at h
    · rename_i hn
      split at h
      · rename_i o x ho ex
        split at h
        · rename_i ho'
          split at h
          · rename_i hoo
            cases h
            simp only [Bool.and_eq_true, decide_eq_true_eq, Bool.not_eq_true'] at hn
            obtain ⟨h1, h2, h3, h4, h5⟩ := hn
            have := vM1_eq he
            subst this
            obtain ⟨x', p', hx, n1, n2, n3, n4⟩ := nmOk_eq G h1
            rw [h2]
            have hv := (hk X c G).1 _ _ x ex
            have hv' : PE X e.2.2.2.1 (tV c p.1 ows x.1 o x.2.2) := by
              simp only [Bool.or_eq_true, decide_eq_true_eq] at hoo
              rcases hoo with q | q
              · rw [← q]; exact hv
              · rw [q]; exact keep_fr hv
            rw [hx]
            exact pv_append (n := 0) (ps := []) (i := i) (pl_nil n1 n2 n3 n4) rfl h3 (fun e r e' h => by cases h; rfl) (fun e r e' h => by cases h; rfl) h4 (by rw [ho]; show PE X _ (tV c p.1 ows x.1 (oAt o 0) _); rw [oAt0]; exact hv') (by rw [ho]; rfl) (by rw [of_decide_eq_true ho', ho]) (.inl rfl) (G.pw i (by simpa using h5))
          · cases h
        · cases h
      · cases h
    · cases h
  · cases h
end

mutual
def ck (S : Sg) : E → Ck
  | .v i => ckVar S i
  | .ln _ => noCk
  | .mv i => ckMv S i
  | .int i => ckK (.int i)
  | .str x => ckK (.str x)
  | .bl b => ckK (.bool b)
  | .non => ckK .none
  | .g x => ckG S x
  | .bin k a b => ckBin k (ck S a) (ck S b)
  | .neg a => ckNeg (ck S a)
  | .not a => ckNot (ck S a)
  | .cmp k a b => ckCmp k (ck S a) (ck S b)
  | .ch k l a b d => ckCh k l (ck S a) (ck S b) (ck S d)
  | .and es => ckAnd (cks S es)
  | .or es => ckOr (cks S es)
  | .ite k a b => ckIte (ck S k) (ck S a) (ck S b)
  | .tup es => ckTup (cks S es)
  | .lst es => ckLst (cks S es)
  | .dic _ _ _ => noCk
  | .ix a i => ckIx (ck S a) (ck S i)
  | .sl a lo hi => ckSl (ck S a) (cks S lo) (cks S hi)
  | .call f es => ckCall S f es (cks S es)
  | .bi k es => ckBi S k (cks S es)
  | .isi a ts => match a, ts with
    | .v i, [.exc y] => ckIsE S i y
    | _, _ => ckIsi S (ck S a) ts
  | .me m o es => match m, cks S es with
    | .index, [k] => ckIndex S (ck S o) k
    | _, _ => noCk
  | .mu m i ps es => match m, ps, cks S es with
    | .append, [], [k] => ckApp S i k
    | _, _, _ => noCk
  | .lc _ _ _ _ _ => noCk
  | .fs _ => noCk
def cks (S : Sg) : List E → List Ck
  | [] => []
  | e :: es => ck S e :: cks S es
end
theorem dens_len {C : Cs} : ∀ {es : List E}, (dens C es).length = es.length
  | [] => rfl
  | e :: es => by simp [dens, dens_len]
mutual
theorem ck_ok (S : Sg) (C : Cs) : ∀ e : E, CkOk S C (ck S e) (den C e)
  | .v i => by simp only [ck, den]; exact ckVar_ok
  | .ln _ => by simp only [ck, den]; exact noCk_ok
  | .mv i => by simp only [ck, den]; exact ckMv_ok
  | .int i => by simp only [ck, den]; exact ckInt_ok
  | .str x => by simp only [ck, den]; exact ckStr_ok
  | .bl b => by simp only [ck, den]; exact ckBl_ok
  | .non => by simp only [ck, den]; exact ckNon_ok
  | .g x => by simp only [ck, den]; exact ckG_ok
  | .bin k a b => by simp only [ck, den]; exact ckBin_ok (ck_ok S C a) (ck_ok S C b)
  | .neg a => by simp only [ck, den]; exact ckNeg_ok (ck_ok S C a)
  | .not a => by simp only [ck, den]; exact ckNot_ok (ck_ok S C a)
  | .cmp k a b => by simp only [ck, den]; exact ckCmp_ok (ck_ok S C a) (ck_ok S C b)
  | .ch k l a b d => by simp only [ck, den]; exact ckCh_ok (ck_ok S C a) (ck_ok S C b) (ck_ok S C d)
  | .and es => by simp only [ck, den]; exact ckAnd_ok (cks_ok S C es)
  | .or es => by simp only [ck, den]; exact ckOr_ok (cks_ok S C es)
  | .ite k a b => by simp only [ck, den]; exact ckIte_ok (ck_ok S C k) (ck_ok S C a) (ck_ok S C b)
  | .tup es => by simp only [ck, den]; exact ckTup_ok (cks_ok S C es)
  | .lst es => by simp only [ck, den]; exact ckLst_ok (cks_ok S C es)
  | .dic _ _ _ => by simp only [ck, den]; exact noCk_ok
  | .ix a i => by simp only [ck, den]; exact ckIx_ok (ck_ok S C a) (ck_ok S C i)
  | .sl a lo hi => by simp only [ck, den]; exact ckSl_ok (ck_ok S C a) (cks_ok S C lo) (cks_ok S C hi)
  | .call f es => by simp only [ck, den]; exact ckCall_ok (cks_ok S C es) dens_len
  | .bi k es => by simp only [ck, den]; exact ckBi_ok (cks_ok S C es)
  | .isi a ts => by
    have h := ck_ok S C a
    simp only [ck, den]
    split
    · simp only [den]; exact ckIsE_ok
    · exact ckIsi_ok h
  | .me m o es => by
    have h := cks_ok S C es
    have h0 := ck_ok S C o
    simp only [ck, den]
    split
    · rename_i k e
      rw [e] at h
      match hd : dens C es, h with
      | [p], h => exact ckIndex_ok h0 h.1
      | [], h => exact h.elim
      | _ :: _ :: _, h => exact h.2.elim
    · exact noCk_ok
  | .mu m i ps es => by
    have h := cks_ok S C es
    simp only [ck, den]
    split
    · rename_i k e
      rw [e] at h
      match hd : dens C es, h with
      | [p], h => simp only [dens]; exact ckApp_ok h.1
      | [], h => exact h.elim
      | _ :: _ :: _, h => exact h.2.elim
    · exact noCk_ok
  | .lc _ _ _ _ _ => by simp only [ck, den]; exact noCk_ok
  | .fs _ => by simp only [ck, den]; exact noCk_ok
theorem cks_ok (S : Sg) (C : Cs) : ∀ es : List E, CksOk S C (cks S es) (dens C es)
  | [] => by simp only [cks, dens]; trivial
  | e :: es => by simp only [cks, dens]; exact ⟨ck_ok S C e, cks_ok S C es⟩
end
end Mp
/-! Mp17: the checker of statements. -/
namespace Mp
open PySem PySem.Spec PyProof.Rows L2

structure SF where
  nx : Option Ows
  bk : Option Ows
  ct : Option Ows
abbrev SC := Stmt → Ows → Option SF
abbrev BC := List Stmt → Ows → Option SF
def SCOk (S : Sg) (C : Cs) (k : SC) (f : M Fl) : Prop := ∀ (X : Cx) (c : Cc), GOk X c C S → ∀ st ows r, k st ows = some r → PS X st (tS c f ows r.nx r.bk r.ct)
def BCOk (S : Sg) (C : Cs) (k : BC) (f : M Fl) : Prop := ∀ (X : Cx) (c : Cc), GOk X c C S → ∀ st ows r, k st ows = some r → PSs X st (tS c f ows r.nx r.bk r.ct)
def noSC : SC := fun _ _ => none
def joinQ : Option Ows → Option Ows → Option Ows
  | none, b => b
  | some a, none => some a
  | some a, some b => some (joinO a b)

/-! ### views -/
def vAsg : Stmt → Option (Expr × Expr)
  | .Assign [t] e _ => some (t, e)
  | _ => none
theorem vAsg_eq {s : Stmt} {r : Expr × Expr} (h : vAsg s = some r) : ∃ p, s = .Assign [r.1] r.2 p := by
  unfold vAsg at h
  split at h
  · cases h; exact ⟨_, rfl⟩
  · cases h
def vExp : Stmt → Option Expr
  | .Expr e _ => some e
  | _ => none
theorem vExp_eq {s : Stmt} {r : Expr} (h : vExp s = some r) : ∃ p, s = .Expr r p := by
  unfold vExp at h
  split at h
  · cases h; exact ⟨_, rfl⟩
  · cases h
def vIfS : Stmt → Option (Expr × List Stmt × List Stmt)
  | .If c a b _ => some (c, a, b)
  | _ => none
theorem vIfS_eq {s : Stmt} {r : Expr × List Stmt × List Stmt} (h : vIfS s = some r) : ∃ p, s = .If r.1 r.2.1 r.2.2 p := by
  unfold vIfS at h
  split at h
  · cases h; exact ⟨_, rfl⟩
  · cases h
def vFor : Stmt → Option (Expr × Expr × List Stmt)
  | .For t i b [] _ => some (t, i, b)
  | _ => none
theorem vFor_eq {s : Stmt} {r : Expr × Expr × List Stmt} (h : vFor s = some r) : ∃ p, s = .For r.1 r.2.1 r.2.2 [] p := by
  unfold vFor at h
  split at h
  · cases h; exact ⟨_, rfl⟩
  · cases h
def vWh : Stmt → Option (Expr × List Stmt)
  | .While c b [] _ => some (c, b)
  | _ => none
theorem vWh_eq {s : Stmt} {r : Expr × List Stmt} (h : vWh s = some r) : ∃ p, s = .While r.1 r.2 [] p := by
  unfold vWh at h
  split at h
  · cases h; exact ⟨_, rfl⟩
  · cases h
def vRet : Stmt → Option (Option Expr)
  | .Return e _ => some e
  | _ => none
theorem vRet_eq {s : Stmt} {r : Option Expr} (h : vRet s = some r) : ∃ p, s = .Return r p := by
  unfold vRet at h
  split at h
  · cases h; exact ⟨_, rfl⟩
  · cases h
def vAug : Stmt → Option (Expr × Operator × Expr)
  | .AugAssign t k e _ => some (t, k, e)
  | _ => none
theorem vAug_eq {s : Stmt} {r : Expr × Operator × Expr} (h : vAug s = some r) : ∃ p, s = .AugAssign r.1 r.2.1 r.2.2 p := by
  unfold vAug at h
  split at h
  · cases h; exact ⟨_, rfl⟩
  · cases h
/-- raise X('..') -/
def vRaise : Stmt → Option Str
  | .Raise (some (.Call (.Name x _) [.Constant (.str _) _ _] [] _)) none _ => some x
  | _ => none
theorem vRaise_eq {s : Stmt} {x : Str} (h : vRaise s = some x) : ∃ p m j p2 p3 p4, s = .Raise (some (.Call (.Name x p) [.Constant (.str m) j p2] [] p3)) none p4 := by
  unfold vRaise at h
  split at h
  · cases h; exact ⟨_, _, _, _, _, _, rfl⟩
  · cases h
def isPass : Stmt → Bool
  | .Pass _ => true
  | _ => false
def isBrk : Stmt → Bool
  | .Break _ => true
  | _ => false
def isCont : Stmt → Bool
  | .Continue _ => true
  | _ => false

section
variable {S : Sg} {C : Cs} {X : Cx} {c : Cc}
/-! ### small statements -/
def locOk (S : Sg) (i : Nat) (e : Expr) : Bool := match vName e with
  | some x => decide (S.N[i]? = some x) && (decide (S.sc.names.lookup x = some .local) && !S.pins.contains i)
  | none => false
theorem locOk_eq (G : GOk X c C S) {i : Nat} {pe : Expr} (h : locOk S i pe = true) : ∃ x p, pe = .Name x p ∧ X.N[i]? = some x ∧ X.env.scope.names.lookup x = some .local ∧ c.pn i = none := by
  unfold locOk at h
  split at h
  · rename_i x e
    obtain ⟨p, rfl⟩ := vName_eq e
    simp only [Bool.and_eq_true, decide_eq_true_eq, Bool.not_eq_true'] at h
    exact ⟨x, p, rfl, by rw [G.N]; exact h.1, by rw [G.sc]; exact h.2.1, G.pn i (by simpa using h.2.2)⟩
  · cases h
def csSet (S : Sg) (i : Nat) (k : Ck) : SC := fun st ows => match vAsg st with
  | some a => if (locOk S i a.1 && noComp a.2) = true then (match k.v a.2 ows with
    | some x => if decide (i < x.1.length) = true then some ⟨some (x.1.set i x.2.1), none, none⟩ else none
    | none => none) else none
  | none => none
theorem csSet_ok {i : Nat} {k : Ck} {p : M D × M Bool} (hk : CkOk S C k p) : SCOk S C (csSet S i k) (M.bind p.1 fun d => fun s => .ok .nx (setS s i d)) := fun X c G st ows r h => by
  unfold csSet at h
  split at h
  · rename_i a ha
    split at h
    · rename_i hn
      split at h
      · rename_i x ex
        split at h
        · rename_i hl
          cases h
          simp only [Bool.and_eq_true] at hn
          obtain ⟨pos, rfl⟩ := vAsg_eq ha
          obtain ⟨y, p', e1, h1, h2, h3⟩ := locOk_eq G hn.1
          rw [e1]
          exact ps_setM G.nd h1 h2 h3 (of_decide_eq_true hl) hn.2 ((hk X c G).1 _ _ x ex)
        · cases h
      · cases h
    · cases h
  · cases h
def noTup : Expr → Bool
  | .Tuple _ _ _ => false
  | _ => true
theorem swaps_tup {es : List Expr} {k : Nat} {p : Pos} {e : Expr} {n : Nat} {env : PySem.Env} : swapsWithSole [.Tuple es k p] e n env = pure false := by
  cases e <;> rfl
theorem swapped_no {es : List Expr} {k : Nat} {p : Pos} {e : Expr} {env : PySem.Env} (h : noTup e = true) : swappedStores [.Tuple es k p] e env = pure none := by
  cases e <;> first | rfl | cases h
theorem ps_tgtM {is : List Nat} {es : List Expr} {k : Nat} {p pos : Pos} {e : Expr} {f : M D} {ows ows1 : Ows} {q : Bool} (hK : X.K = c.K) {pn : Nat → Bool} (hc : X.calm = true) (hN : X.N.Nodup) (hpn : ∀ i, pn i = false → c.pn i = none) (hn : nmsOk X.N X.env.scope pn is es = true) (hs : noTup e = true) (he : PE X e (tV c f ows ows1 .fr q)) :
    PS X (.Assign [.Tuple es k p] e pos) (tS c (M.bind f fun d => fun s => match asg (.tp is) d s with
      | some s' => .ok .nx s'
      | none => .no) ows (some (frs ows1 is)) none none) := by
  have hg : PG X (.Tuple es k p) (tgT c (.tp is) ows1) := pg_tg hc hK hN hpn (by simpa [tgOk, vTup] using hn)
  refine wPS (ps_asg he hg swaps_tup (swapped_no hs) (by rfl)) fun D σ H ⟨w, env, hw, sr, z⟩ => ⟨w, env, hw, sr, ?_⟩
  unfold M.bind at z
  cases e1 : f env with
  | no => rw [e1] at z; exact z
  | ex n env1 => rw [e1] at z; exact fun w' x s => z w' σ x s
  | ok d env1 =>
    rw [e1] at z
    intro w1 v A x1 s1 r1 t1 k1
    refine ⟨w1, env1, d, rfl, s1, r1.1, ?_⟩
    simp only at z
    cases e2 : asg (.tp is) d env1 with
    | none => rw [e2] at z; exact z
    | some env2 =>
      rw [e2] at z
      exact fun w' σ' x s => z w' σ' (x1.trans x) ⟨_, rfl, s⟩
def csTgt (S : Sg) (is : List Nat) (k : Ck) : SC := fun st ows => match vAsg st with
  | some a => (match vTup a.1 with
    | some es => if (nmsOk S.N S.sc (fun i => S.pins.contains i) is es && (noTup a.2 && S.calm)) = true then (match k.v a.2 ows with
      | some x => some ⟨some (frs x.1 is), none, none⟩
      | none => none) else none
    | none => none)
  | none => none
theorem csTgt_ok {is : List Nat} {k : Ck} {p : M D × M Bool} (hk : CkOk S C k p) : SCOk S C (csTgt S is k) (M.bind p.1 fun d => fun s => match asg (.tp is) d s with
      | some s' => .ok .nx s'
      | none => .no) := fun X c G st ows r h => by
  unfold csTgt at h
  split at h
  · rename_i a ha
    split at h
    · rename_i es he
      split at h
      · rename_i hn
        split at h
        · rename_i x ex
          cases h
          simp only [Bool.and_eq_true] at hn
          obtain ⟨pos, rfl⟩ := vAsg_eq ha
          obtain ⟨j, p', e1⟩ := vTup_eq he
          rw [e1]
          exact ps_tgtM G.K (pn := fun i => S.pins.contains i) (G.calm hn.2.2) G.nd (fun i h => G.pn i (by simpa using h)) (by rw [G.N, G.sc]; exact hn.1) hn.2.1 (keep_fr ((hk X c G).1 _ _ x ex))
        · cases h
      · cases h
    · cases h
  · cases h
def csEx (k : Ck) : SC := fun st ows => match vExp st with
  | some e => if noComp e = true then (match k.r e ows with
    | some x => some ⟨some x.1, none, none⟩
    | none => none) else none
  | none => none
theorem csEx_ok {k : Ck} {p : M D × M Bool} (hk : CkOk S C k p) : SCOk S C (csEx k) (M.bind p.1 fun _ => M.ret .nx) := fun X c G st ows r h => by
  unfold csEx at h
  split at h
  · rename_i e he
    split at h
    · rename_i hn
      split at h
      · rename_i x ex
        cases h
        obtain ⟨pos, rfl⟩ := vExp_eq he
        exact ps_exM hn ((hk X c G).2.1 _ _ x ex)
      · cases h
    · cases h
  · cases h
def csRet (S : Sg) (k : Ck) : SC := fun st ows => match vRet st with
  | some (some e) => (match k.v e ows with
    | some x => if (weakB 0 x.1 S.r && (decide (x.2.1 = S.ro) || decide (S.ro = .fr))) = true then some ⟨none, none, none⟩ else none
    | none => none)
  | _ => none
theorem csRet_ok {k : Ck} {p : M D × M Bool} (hk : CkOk S C k p) : SCOk S C (csRet S k) (M.bind p.1 fun d => M.ret (.rt d)) := fun X c G st ows r h => by
  unfold csRet at h
  split at h
  · rename_i e he
    split at h
    · rename_i x ex
      split at h
      · rename_i hw
        cases h
        simp only [Bool.and_eq_true, Bool.or_eq_true, decide_eq_true_eq] at hw
        obtain ⟨pos, rfl⟩ := vRet_eq he
        have hv := (hk X c G).1 _ _ x ex
        refine ps_retM (by rw [G.r]; exact hw.1) (q := x.2.2) ?_
        rw [G.ro]
        rcases hw.2 with q | q
        · rw [← q]; exact hv
        · rw [q]; exact keep_fr hv
      · cases h
    · cases h
  · cases h
def csRetN (S : Sg) : SC := fun st ows => match vRet st with
  | some none => if weakB 0 ows S.r = true then some ⟨none, none, none⟩ else none
  | _ => none
theorem csRetN_ok : SCOk S C (csRetN S) (M.ret (.rt .non)) := fun X c G st ows r h => by
  unfold csRetN at h
  split at h
  · rename_i he
    split at h
    · rename_i hw
      cases h
      obtain ⟨pos, rfl⟩ := vRet_eq he
      exact ps_retNM (by rw [G.r]; exact hw)
    · cases h
  · cases h
def csPass : SC := fun st ows => if isPass st = true then some ⟨some ows, none, none⟩ else none
theorem csPass_ok : SCOk S C csPass (M.ret .nx) := fun X c G st ows r h => by
  unfold csPass at h
  split at h
  · cases h
    cases st <;> first | exact ps_passM | (rename_i hp; cases hp)
  · cases h
def csBrk : SC := fun st ows => if isBrk st = true then some ⟨none, some ows, none⟩ else none
theorem csBrk_ok : SCOk S C csBrk (M.ret .bk) := fun X c G st ows r h => by
  unfold csBrk at h
  split at h
  · cases h
    cases st <;> first | exact ps_brkM | (rename_i hp; cases hp)
  · cases h
def csCont : SC := fun st ows => if isCont st = true then some ⟨none, none, some ows⟩ else none
theorem csCont_ok : SCOk S C csCont (M.ret .ct) := fun X c G st ows r h => by
  unfold csCont at h
  split at h
  · cases h
    cases st <;> first | exact ps_contM | (rename_i hp; cases hp)
  · cases h
/-- raise -/
def csRaise (S : Sg) (n : Str) : SC := fun st ows => match vRaise st with
  | some x => if (decide (x = n) && (S.exc n && (S.glo n && (noDbg n && (S.calls && weakB 0 ows S.x))))) = true then some ⟨none, none, none⟩ else none
  | none => none
theorem csRaise_ok {n : Str} : SCOk S C (csRaise S n) (fun e => .ex n e) := fun X c G st ows r h => by
  unfold csRaise at h
  split at h
  · rename_i x hx
    split at h
    · rename_i hn
      cases h
      simp only [Bool.and_eq_true, decide_eq_true_eq] at hn
      obtain ⟨rfl, h1, h2, h3, h4, h5⟩ := hn
      obtain ⟨p, m, j, p2, p3, p4, rfl⟩ := vRaise_eq hx
      obtain ⟨hm, hkp, hr, B, nw, ini, bm, F, hex⟩ := G.exc x h1
      refine wPS (ps_raise (G.calm (G.tkc h4)) (G.fn h4).1 (pmk_own F hex hm hkp hr (G.glo h2) (noDbg1 h3))) fun D σ H ⟨w, env, hw, sr, z⟩ => ?_
      subst hw
      obtain ⟨w', x', eh, s'⟩ := sr.weak (show weakB 0 ows c.x = true by rw [G.x]; exact h5)
      have := z w' σ x' s'
      rw [eh] at this
      exact this
    · cases h
  · cases h

/-! ### blocks -/
def bcNil : BC := fun sts ows => match sts with
  | [] => some ⟨some ows, none, none⟩
  | _ => none
theorem bcNil_ok : BCOk S C bcNil (M.ret .nx) := fun X c G sts ows r h => by
  unfold bcNil at h
  split at h
  · cases h; exact pss_nil'
  · cases h
def isDoc : Stmt → Bool
  | .Expr (.Constant (.str _) _ _) _ => true
  | _ => false
def bcCons (k : SC) (ks : BC) : BC := fun sts ows => match sts with
  | st :: rest => (match k st ows with
    | some a => (match a.nx with
      | some o => (match ks rest o with
        | some b => if (wk a.bk (joinQ a.bk b.bk) && (wk b.bk (joinQ a.bk b.bk) && (wk a.ct (joinQ a.ct b.ct) && wk b.ct (joinQ a.ct b.ct)))) = true then some ⟨b.nx, joinQ a.bk b.bk, joinQ a.ct b.ct⟩ else none
        | none => none)
      | none => some ⟨none, a.bk, a.ct⟩)
    | none => none)
  | [] => none
theorem wk_refl : ∀ {a : Option Ows}, wk a a = true
  | none => rfl
  | some a => by
    show weakB 0 a a = true
    suffices h : ∀ (n : Nat) (a : Ows), weakB n a a = true from h 0 a
    intro n a
    induction a generalizing n with
    | nil => rfl
    | cons x xs ih => simp [weakB, ih]
theorem bcCons_ok {k : SC} {ks : BC} {f g : M Fl} (h1 : SCOk S C k f) (h2 : BCOk S C ks g) : BCOk S C (bcCons k ks) (seqM f g) := fun X c G sts ows r h => by
  unfold bcCons at h
  split at h
  · rename_i st rest
    split at h
    · rename_i a ea
      have p1 := h1 X c G st ows a ea
      split at h
      · rename_i o eo
        rw [eo] at p1
        split at h
        · rename_i b eb
          split at h
          · rename_i hw
            cases h
            simp only [Bool.and_eq_true] at hw
            exact pss_cons' (PS.weaken p1 wk_refl hw.1 hw.2.2.1) (PSs.weaken (h2 X c G rest o b eb) wk_refl hw.2.1 hw.2.2.2)
          · cases h
        · cases h
      · rename_i eo
        cases h
        rw [eo] at p1
        exact pss_stop p1
    · cases h
  · cases h
def csIf (k : Ck) (a b : BC) : SC := fun st ows => match vIfS st with
  | some e => (match k.t e.1 ows with
    | some z => (match a e.2.1 z.1, b e.2.2 z.1 with
      | some x, some y => if (wk x.nx (joinQ x.nx y.nx) && (wk y.nx (joinQ x.nx y.nx) && (wk x.bk (joinQ x.bk y.bk) && (wk y.bk (joinQ x.bk y.bk) && (wk x.ct (joinQ x.ct y.ct) && wk y.ct (joinQ x.ct y.ct)))))) = true then
          some ⟨joinQ x.nx y.nx, joinQ x.bk y.bk, joinQ x.ct y.ct⟩ else none
      | _, _ => none)
    | none => none)
  | none => none
theorem csIf_ok {k : Ck} {a b : BC} {p : M D × M Bool} {f g : M Fl} (hk : CkOk S C k p) (ha : BCOk S C a f) (hb : BCOk S C b g) : SCOk S C (csIf k a b) (M.bind p.2 fun k => if k = true then f else g) := fun X c G st ows r h => by
  unfold csIf at h
  split at h
  · rename_i e he
    split at h
    · rename_i z ez
      split at h
      · rename_i x y ex ey
        split at h
        · rename_i hw
          cases h
          simp only [Bool.and_eq_true] at hw
          obtain ⟨w1, w2, w3, w4, w5, w6⟩ := hw
          obtain ⟨pos, rfl⟩ := vIfS_eq he
          exact ps_ifsM ((hk X c G).2.2 _ _ z ez) (PSs.weaken (ha X c G _ _ x ex) w1 w3 w5) (PSs.weaken (hb X c G _ _ y ey) w2 w4 w6)
        · cases h
      · cases h
    · cases h
  · cases h

/-! ### loops -/
/-- a head that the body keeps -/
def fixL (body : Ows → Option SF) : Nat → Ows → Option (Ows × SF)
  | 0, _ => none
  | n + 1, h => match body h with
    | some f => if (wk f.nx (some h) && wk f.ct (some h)) = true then some (h, f) else (match joinQ (some h) (joinQ f.nx f.ct) with
      | some h' => fixL body n h'
      | none => none)
    | none => none
theorem fixL_ok {body : Ows → Option SF} : ∀ {n : Nat} {h : Ows} {r : Ows × SF}, fixL body n h = some r → body r.1 = some r.2 ∧ wk r.2.nx (some r.1) = true ∧ wk r.2.ct (some r.1) = true
  | 0, _, _, e => by cases e
  | n + 1, h, r, e => by
    unfold fixL at e
    split at e
    · rename_i f ef
      split at e
      · rename_i hw
        cases e
        simp only [Bool.and_eq_true] at hw
        exact ⟨ef, hw.1, hw.2⟩
      · split at e
        · exact fixL_ok e
        · cases e
    · cases e
/-- what is walked -/
def ckI (S : Sg) (k : IK) (ks : List Ck) (it : Expr) (ows : Ows) : Option Ows := match k with
  | .seq => (match ks with
    | [a] => (match a.v it ows with
      | some x => some x.1
      | none => none)
    | _ => none)
  | .rng => (match vCall it with
    | some e => if (decide (e.1 = ("range" : Str)) && S.glo "range") = true then (match ckAR ks (e.2.1 :: e.2.2) ows with
      | some x => if decide (e.2.2.length ≤ 2) = true then some x.1 else none
      | none => none) else none
    | none => none)
  | _ => none
def noSet' : Expr → Bool
  | .Set _ _ _ => false
  | _ => true
theorem folded_no {it : Expr} {env : PySem.Env} (h : noSet' it = true) : ∀ x, foldedSetIterable it env x = pure x := by
  intro x
  cases it <;> first | rfl | cases h
theorem ckI_ok (G : GOk X c C S) {k : IK} {ks : List Ck} {ps : List (M D × M Bool)} {it tg : Expr} {ows r : Ows} (hs : CksOk S C ks ps) (h : ckI S k ks it ows = some r) : PI X tg it (tI c (M.bind (evs ps) fun as => M.opt (itF k as)) ows r) := by
  unfold ckI at h
  split at h
  · split at h
    · rename_i a
      split at h
      · rename_i x ex
        cases h
        match ps, hs with
        | [p], hs =>
          have e : (M.bind (evs [p]) fun as => M.opt (itF .seq as)) = M.bind p.1 fun d => M.opt (itF .seq [d]) := by
            funext env
            simp only [evs, M.bind, M.ret]
            cases p.1 env <;> rfl
          rw [e]
          exact pi_seq G.K (keep_fr ((hs.1 X c G).1 _ _ x ex))
        | [], hs => exact hs.elim
        | _ :: _ :: _, hs => exact hs.2.elim
      · cases h
    · cases h
  · split at h
    · rename_i e he
      split at h
      · rename_i hn
        split at h
        · rename_i x ex
          split at h
          · rename_i hl
            cases h
            simp only [Bool.and_eq_true, decide_eq_true_eq] at hn hl
            obtain ⟨p1, p2, rfl⟩ := vCall_eq he
            obtain ⟨i1, i2, i3⟩ := ckAR_ok G hs ex
            rw [hn.1]
            have hm : X.mg "range" = none := G.blt _ (by decide +kernel)
            obtain ⟨f, a, es⟩ := e
            simp only at i1 i2 i3 hl ⊢
            simp only [List.all_cons, Bool.and_eq_true] at i2
            match es, i1, i2, i3, hl with
            | [], i1, i2, i3, _ => exact pi_rng1 (G.glo hn.2) hm i1 i2.1 (fun env ds env' e => by rw [evs_len e, ← i3]; rfl)
            | [b], i1, i2, i3, _ =>
              simp only [List.all_cons, List.all_nil, Bool.and_true] at i2
              exact pi_rng2 (G.glo hn.2) hm i1 i2.1 i2.2 (fun env ds env' e => by rw [evs_len e, ← i3]; rfl)
            | [b, d], i1, i2, i3, _ =>
              simp only [List.all_cons, List.all_nil, Bool.and_true, Bool.and_eq_true] at i2
              exact pi_rng3 (G.glo hn.2) hm i1 i2.1 i2.2.1 i2.2.2 (fun env ds env' e => by rw [evs_len e, ← i3]; rfl)
            | _ :: _ :: _ :: _, _, _, _, hl => simp at hl
          · cases h
        · cases h
      · cases h
    · cases h
  · cases h
theorem forM_none {t : T} {k : IK} {ia : List (M D × M Bool)} {body : M Fl} : forM t k ia none body = M.bind (M.bind (evs ia) fun as => M.opt (itF k as)) fun ds => forL (fun _ => true) t body ds := by
  funext e
  unfold forM M.bind
  cases evs ia e with
  | no => rfl
  | ex => rfl
  | ok as e1 => rfl
def csFor (S : Sg) (t : T) (k : IK) (ks : List Ck) (w : Option Nat) (b : BC) : SC := fun st ows => match vFor st, w with
  | some e, none => if (noSet' e.2.1 && (S.calm && tgOk S.N S.sc (fun i => S.pins.contains i) t e.1)) = true then (match ckI S k ks e.2.1 ows with
    | some ows1 => (match fixL (fun h => b e.2.2 (frs h t.slots)) 8 ows1 with
      | some r => (match joinQ (some r.1) r.2.bk with
        | some oj => if (weakB 0 ows1 r.1 && (weakB 0 r.1 oj && wk r.2.bk (some oj))) = true then some ⟨some oj, none, none⟩ else none
        | none => none)
      | none => none)
    | none => none) else none
  | _, _ => none
theorem csFor_ok {t : T} {k : IK} {ks : List Ck} {ps : List (M D × M Bool)} {w : Option Nat} {b : BC} {f : M Fl} (hs : CksOk S C ks ps) (hb : BCOk S C b f) : SCOk S C (csFor S t k ks w b) (forM t k ps w f) := fun X c G st ows r h => by
  unfold csFor at h
  split at h
  · rename_i e he
    split at h
    · rename_i hn
      split at h
      · rename_i ows1 e1
        split at h
        · rename_i rr er
          split at h
          · rename_i oj ej
            split at h
            · rename_i hw
              cases h
              simp only [Bool.and_eq_true] at hn hw
              obtain ⟨pos, rfl⟩ := vFor_eq he
              obtain ⟨f1, f2, f3⟩ := fixL_ok er
              rw [forM_none]
              exact ps_forM (G.pas hn.2.1) (G.calm hn.2.1) (ckI_ok G hs e1) (pg_tg (pn := fun i => S.pins.contains i) (G.calm hn.2.1) G.K G.nd (fun i h => G.pn i (by simpa using h)) (by rw [G.N, G.sc]; exact hn.2.2)) (hb X c G _ _ _ f1) (folded_no hn.1) hw.1 f2 f3 hw.2.1 hw.2.2
            · cases h
          · cases h
        · cases h
      · cases h
    · cases h
  · cases h
def csWh (S : Sg) (k : Ck) (b : BC) : SC := fun st ows => match vWh st with
  | some e => if S.calm = true then (match fixL (fun h => match k.t e.1 h with
      | some x => b e.2 x.1
      | none => none) 8 ows with
    | some r => (match k.t e.1 r.1 with
      | some x => (match joinQ (some x.1) r.2.bk with
        | some oj => if (weakB 0 ows r.1 && (weakB 0 x.1 oj && wk r.2.bk (some oj))) = true then some ⟨some oj, none, none⟩ else none
        | none => none)
      | none => none)
    | none => none) else none
  | none => none
theorem csWh_ok {k : Ck} {p : M D × M Bool} {b : BC} {f : M Fl} (hk : CkOk S C k p) (hb : BCOk S C b f) : SCOk S C (csWh S k b) (whileL p.2 f FUEL) := fun X c G st ows r h => by
  unfold csWh at h
  split at h
  · rename_i e he
    split at h
    · rename_i hn
      split at h
      · rename_i rr er
        split at h
        · rename_i x ex
          split at h
          · rename_i oj ej
            split at h
            · rename_i hw
              cases h
              simp only [Bool.and_eq_true] at hw
              obtain ⟨pos, rfl⟩ := vWh_eq he
              obtain ⟨f1, f2, f3⟩ := fixL_ok er
              rw [ex] at f1
              exact ps_whileM (G.pas hn) ((hk X c G).2.2 _ _ x ex) (hb X c G _ _ _ f1) hw.1 f2 f3 hw.2.1 hw.2.2
            · cases h
          · cases h
        · cases h
      · cases h
    · cases h
  · cases h
end
end Mp
/-! Mp18: try. -/
namespace Mp
open PySem PySem.Spec PyProof.Rows L2

section
variable {K : PySem.W.Frag} {pn : Pin} {ows : Ows} {env : Env} {σ : L2.St} {w : Wd}
/-- the slot of the error gets its pin -/
def pinE (pn : Pin) (i : Nat) (a : Addr) (n : Str) : Pin := fun j => if j = i then some (.ref a, some (.exc n)) else pn j
theorem SR.err {i : Nat} {a : Addr} {n : Str} (s : SR K pn ows env σ w) (hi : i < env.length) (hp : pn i = none) : SR K (pinE pn i a n) (ows.set i .fr) (setS env i (.exc n)) (σ.set i (some (.ref a))) (w.put i fun _ => False) := by
  have s1 : SR K pn (ows.set i .fr) (setS env i (.exc n)) (σ.set i (some (.ref a))) (w.put i fun _ => False) := s.bind (d := .exc n) (v := .ref a) ⟨a, rfl⟩ hp
  refine ⟨s1.len, s1.at_, s1.apart, s1.zf, s1.fm, s1.zt, fun j p h => ?_⟩
  unfold pinE at h
  split at h
  · rename_i e
    subst e
    cases h
    refine ⟨List.getElem?_set_self (by rw [s.len]; exact hi), fun d hd d' hg => ?_⟩
    cases hd
    rcases getS_set hg with ⟨_, e⟩ | ⟨e, _⟩
    · exact e
    · exact absurd rfl e
  · exact s1.pin j p h
theorem SR.unerr {i : Nat} {a : Addr} {n : Str} (s : SR K (pinE pn i a n) ows env σ w) (hp : pn i = none) : SR K pn ows (unS env i) (σ.set i none) (w.out i) := by
  have s1 := s.out i (ows' := ows) (fun _ _ => rfl)
  refine ⟨by rw [List.length_set]; exact s1.len, fun j d h => ?_, s1.apart, s1.zf, s1.fm, s1.zt, fun j p h => ?_⟩
  · obtain ⟨v, h1, h2⟩ := s1.at_ j d h
    exact ⟨v, by rw [List.getElem?_set_ne (Ne.symm (getS_un h).1)]; exact h1, h2⟩
  · have hj : j ≠ i := fun e => by subst e; rw [hp] at h; cases h
    have := s1.pin j p (by unfold pinE; rw [if_neg hj]; exact h)
    exact ⟨by rw [List.getElem?_set_ne (Ne.symm hj)]; exact this.1, this.2⟩
end
section
variable {S : Sg} {C : Cs} {X : Cx} {c : Cc}
/-- the try's body -/
def Cc.body (c : Cc) (W : WX) (xo : Ows) : Cc := { c with W := W, x := xo }
def Sg.body (S : Sg) (xo : Ows) : Sg := { S with x := xo, es := none }
theorem GOk.body (G : GOk X c C S) {xo : Ows} {W : WX} {pn : List (Addr × Obj)} {xe : Value → Shared → Prop} (tk : Takes (X.tr pn xe) W) (hp : PassesOwn (model X.prog X.w) X.A X.env xe) : GOk (X.tr pn xe) (c.body W xo) C (S.body xo) where
  N := G.N
  sc := G.sc
  K := G.K
  nd := G.nd
  hu := G.hu
  calm := G.calm
  pas := fun _ => hp
  tkc := G.tkc
  blt := G.blt
  gl := G.gl
  fn := fun h => ⟨tk, (G.fn h).2⟩
  exc := G.exc
  exm := G.exm
  exx := G.exx
  kx := G.kx
  kv := G.kv
  ec := G.ec
  stk := G.stk
  es := fun j h => by cases h
  x := rfl
  r := G.r
  ro := G.ro
  pn := G.pn
  pw := G.pw
/-- the suite behind except X as e -/
def Cc.suiteE (c : Cc) (i : Nat) (a : Addr) (n : Str) : Cc := { c with W := fun _ _ _ _ => False, pn := pinE c.pn i a n }
def Sg.suiteE (S : Sg) (i : Nat) : Sg := { S with calm := false, calls := false, pins := i :: S.pins, pinw := i :: S.pinw, es := some i }
theorem GOk.suiteE (G : GOk X c C S) {i : Nat} {a : Addr} {n : Str} {oe : Obj} {pn : List (Addr × Obj)} (hn : S.exc n = true) (hz : Zc (.ref (He.ga c.K n)) none oe) (hf : ∃ vs, oe.data = .fields vs) : GOk (X.suite a ((a, oe) :: pn)) (c.suiteE i a n) C (S.suiteE i) where
  N := G.N
  sc := G.sc
  K := G.K
  nd := G.nd
  hu := G.hu
  calm := fun h => by cases h
  pas := fun h => by cases h
  tkc := fun h => by cases h
  blt := G.blt
  gl := G.gl
  fn := fun h => by cases h
  exc := G.exc
  exm := G.exm
  exx := G.exx
  kx := G.kx
  kv := G.kv
  ec := G.ec
  stk := fun h => by cases h
  es := fun j h => by
    cases h
    refine ⟨a, n, hn, by show pinE c.pn i a n i = _; unfold pinE; rw [if_pos rfl], ?_⟩
    have := G.ec n hn
    exact call_isE this hz hf
  x := G.x
  r := G.r
  ro := G.ro
  pn := fun j h => by
    have h' : j ∉ i :: S.pins := h
    simp only [List.mem_cons, not_or] at h'
    show pinE c.pn i a n j = none
    unfold pinE
    rw [if_neg h'.1]
    exact G.pn j h'.2
  pw := fun j h p hp => by
    have h' : j ∉ i :: S.pinw := h
    simp only [List.mem_cons, not_or] at h'
    have hp' : pinE c.pn i a n j = some p := hp
    unfold pinE at hp'
    rw [if_neg h'.1] at hp'
    exact G.pw j h'.2 p hp'
/-- the suite behind except X -/
def Cc.suiteN (c : Cc) : Cc := { c with W := fun _ _ _ _ => False }
def Sg.suiteN (S : Sg) : Sg := { S with calm := false, calls := false, es := none }
theorem GOk.suiteN (G : GOk X c C S) {a : Addr} {pn : List (Addr × Obj)} : GOk (X.suite a pn) c.suiteN C S.suiteN where
  N := G.N
  sc := G.sc
  K := G.K
  nd := G.nd
  hu := G.hu
  calm := fun h => by cases h
  pas := fun h => by cases h
  tkc := fun h => by cases h
  blt := G.blt
  gl := G.gl
  fn := fun h => by cases h
  exc := G.exc
  exm := G.exm
  exx := G.exx
  kx := G.kx
  kv := G.kv
  ec := G.ec
  stk := fun h => by cases h
  es := fun j h => by cases h
  x := G.x
  r := G.r
  ro := G.ro
  pn := G.pn
  pw := G.pw

/-! ### the rules -/
theorem ps_tryAs {i : Nat} {x n : Str} {body suite : List Stmt} {b₀ : Stmt} {np pos pos' : Pos} {fb fh : M Fl} {ows xo : Ows} {onx obk oct : Option Ows} (G : GOk X c C S) (hcl : S.calls = true) (hi : X.N[i]? = some n) (hln : X.env.scope.names.lookup n = some .local) (hpn : c.pn i = none) (hx : S.exc x = true) (hg : Gl X x) (hd : (x == ("__debug__" : Str)) = false)
    (hb : ∀ (W : WX) (pn : List (Addr × Obj)) (xe : Value → Shared → Prop), Takes (X.tr pn xe) W → PassesOwn (model X.prog X.w) X.A X.env xe → PSs (X.tr pn xe) body (tS (c.body W xo) fb ows onx obk oct))
    (hsu : ∀ (a : Addr) (m : Str) (oe : Obj) (pn : List (Addr × Obj)), S.exc m = true → Zc (.ref (He.ga c.K m)) none oe → (∃ vs, oe.data = .fields vs) → PSs (X.suite a ((a, oe) :: pn)) (b₀ :: suite) (tS (c.suiteE i a m) fh (xo.set i .fr) onx obk oct)) (hw : weakB 0 xo c.x = true) :
    PS X (.Try body [.ExceptHandler (some (.Name x np)) (some n) (b₀ :: suite) pos'] [] [] pos) (tS c (tryM C fb fun m e => if C.sub m x = true then (match (if i < e.length then fh (setS e i (.exc m)) else .no) with
      | .ok f e1 => .ok f (unS e1 i)
      | _ => .no) else .ex m e) ows onx obk oct) := by
  obtain ⟨tk, _⟩ := G.fn hcl
  obtain ⟨s1, s2⟩ := G.stk (G.tkc hcl)
  let ts : Addr → Value → Option Addr → TS := fun a cls d D σ H => ∃ m, S.exc m = true ∧ cls = .ref (He.ga c.K m) ∧ d = none ∧ tS (c.suiteE i a m) fh (xo.set i .fr) onx obk oct D σ H
  refine wPS (ps_try_as (ts := ts) s1 s2 G.nd hi hln ⟨hg, hd, .inl (G.exc x hx).1⟩ tk hb (fun a oe cls d pn hz hf => ⟨fun pins s σ H D I ⟨m, hm, hcls, hdn, h⟩ => by
    subst hcls hdn
    exact (hsu a m oe pn hm hz hf).run pins s σ H D I h⟩)) fun D σ H z => ?_
  obtain ⟨w, env, hw', sr, z⟩ := tS_iff.mp z
  refine tS_iff.mpr ⟨w, env, hw', sr, ?_⟩
  unfold tryM at z
  cases e1 : fb env with
  | no => rw [e1] at z; exact z
  | ok r env1 => rw [e1] at z; cases r <;> exact z
  | ex m env1 =>
    rw [e1] at z
    simp only at z
    by_cases hm : C.isx m = true
    · rw [if_pos hm] at z
      intro w1 σ1 x1 sr1
      refine ⟨C.sub m x, G.exm m x (G.exx m hm) hx, fun hb' a ha => ?_, fun hb' => ?_⟩
      · rw [if_pos hb'] at z
        by_cases hi2 : i < env1.length
        · rw [if_pos hi2] at z
          refine ⟨m, G.exx m hm, rfl, rfl, tS_iff.mpr ⟨w1.put i fun _ => False, setS env1 i (.exc m), rfl, sr1.err hi2 hpn, ?_⟩⟩
          cases e2 : fh (setS env1 i (.exc m)) with
          | no => rw [e2] at z; exact z
          | ex m2 e3 => rw [e2] at z; exact z.elim
          | ok f e3 =>
            rw [e2] at z
            have ext : ∀ {w2}, Ext (w1.put i fun _ => False) w2 → Ext w (w2.out i) := fun x2 => ((x1.trans Ext.bind).trans x2).trans (Ext.out _ i)
            cases f with
            | nx =>
              rintro w2 σ2 x2 ⟨o2, ho, s2⟩
              exact z (w2.out i) (σ2.set i none) (ext x2) ⟨o2, ho, s2.unerr hpn⟩
            | bk =>
              rintro w2 σ2 x2 ⟨o2, ho, s2⟩
              exact z (w2.out i) (σ2.set i none) (ext x2) ⟨o2, ho, s2.unerr hpn⟩
            | ct =>
              rintro w2 σ2 x2 ⟨o2, ho, s2⟩
              exact z (w2.out i) (σ2.set i none) (ext x2) ⟨o2, ho, s2.unerr hpn⟩
            | rt d =>
              intro w2 σ2 v A x2 s2 ro t
              exact z (w2.out i) (σ2.set i none) v A (ext x2) (s2.unerr hpn) ro ⟨t.z, fun a j ha h => t.f a j ha h.2, (t.pre (x1.trans Ext.bind)).nw⟩
        · rw [if_neg hi2] at z; exact z.elim
      · rw [if_neg (by rw [hb']; exact Bool.false_ne_true)] at z
        obtain ⟨w2, x2, eh, s2⟩ := sr1.weak hw
        have := z w2 σ1 (x1.trans x2) s2
        rw [eh] at this
        exact this
    · rw [if_neg hm] at z; exact z.elim
theorem ps_tryNo {x : Str} {body suite : List Stmt} {b₀ : Stmt} {np pos pos' : Pos} {fb fh : M Fl} {ows xo : Ows} {onx obk oct : Option Ows} (G : GOk X c C S) (hcl : S.calls = true) (hx : S.exc x = true) (hg : Gl X x) (hd : (x == ("__debug__" : Str)) = false)
    (hb : ∀ (W : WX) (pn : List (Addr × Obj)) (xe : Value → Shared → Prop), Takes (X.tr pn xe) W → PassesOwn (model X.prog X.w) X.A X.env xe → PSs (X.tr pn xe) body (tS (c.body W xo) fb ows onx obk oct))
    (hsu : ∀ (a : Addr) (pn : List (Addr × Obj)), PSs (X.suite a pn) (b₀ :: suite) (tS c.suiteN fh xo onx obk oct)) (hw : weakB 0 xo c.x = true) :
    PS X (.Try body [.ExceptHandler (some (.Name x np)) none (b₀ :: suite) pos'] [] [] pos) (tS c (tryM C fb fun m e => if C.sub m x = true then (match fh e with
      | .ok f e1 => .ok f e1
      | _ => .no) else .ex m e) ows onx obk oct) := by
  obtain ⟨tk, _⟩ := G.fn hcl
  obtain ⟨s1, s2⟩ := G.stk (G.tkc hcl)
  let ts : Addr → Value → Option Addr → TS := fun a cls d => tS c.suiteN fh xo onx obk oct
  refine wPS (ps_try_only (ts := ts) s1 s2 ⟨hg, hd, .inl (G.exc x hx).1⟩ tk hb (fun a oe cls d pn hz hf => hsu a ((a, oe) :: pn))) fun D σ H z => ?_
  obtain ⟨w, env, hw', sr, z⟩ := tS_iff.mp z
  refine tS_iff.mpr ⟨w, env, hw', sr, ?_⟩
  unfold tryM at z
  cases e1 : fb env with
  | no => rw [e1] at z; exact z
  | ok r env1 => rw [e1] at z; cases r <;> exact z
  | ex m env1 =>
    rw [e1] at z
    simp only at z
    by_cases hm : C.isx m = true
    · rw [if_pos hm] at z
      intro w1 σ1 x1 sr1
      refine ⟨C.sub m x, G.exm m x (G.exx m hm) hx, fun hb' a ha => ?_, fun hb' => ?_⟩
      · rw [if_pos hb'] at z
        refine tS_iff.mpr ⟨w1, env1, rfl, sr1, ?_⟩
        cases e2 : fh env1 with
        | no => rw [e2] at z; exact z
        | ex m2 e3 => rw [e2] at z; exact z.elim
        | ok f e3 =>
          rw [e2] at z
          exact tSz.pre (c := c.suiteN) (σ := σ) x1 (by cases f <;> exact z)
      · rw [if_neg (by rw [hb']; exact Bool.false_ne_true)] at z
        obtain ⟨w2, x2, eh, s2⟩ := sr1.weak hw
        have := z w2 σ1 (x1.trans x2) s2
        rw [eh] at this
        exact this
    · rw [if_neg hm] at z; exact z.elim

/-! ### the checker -/
/-- one except clause: its class, its name -/
def vTry : Stmt → Option (List Stmt × Str × Option Str × Stmt × List Stmt)
  | .Try b [.ExceptHandler (some (.Name x _)) n (s :: ss) _] [] [] _ => some (b, x, n, s, ss)
  | _ => none
theorem vTry_eq {s : Stmt} {r : List Stmt × Str × Option Str × Stmt × List Stmt} (h : vTry s = some r) : ∃ np p' p, s = .Try r.1 [.ExceptHandler (some (.Name r.2.1 np)) r.2.2.1 (r.2.2.2.1 :: r.2.2.2.2) p'] [] [] p := by
  unfold vTry at h
  split at h
  · cases h; exact ⟨_, _, _, rfl⟩
  · cases h
/-- the body's and the suite's states behind -/
def meet (a b : SF) : Option SF := if (wk a.nx (joinQ a.nx b.nx) && (wk b.nx (joinQ a.nx b.nx) && (wk a.bk (joinQ a.bk b.bk) && (wk b.bk (joinQ a.bk b.bk) && (wk a.ct (joinQ a.ct b.ct) && wk b.ct (joinQ a.ct b.ct)))))) = true then
  some ⟨joinQ a.nx b.nx, joinQ a.bk b.bk, joinQ a.ct b.ct⟩ else none
theorem meet_ok {a b r : SF} (h : meet a b = some r) : (wk a.nx r.nx = true ∧ wk a.bk r.bk = true ∧ wk a.ct r.ct = true) ∧ (wk b.nx r.nx = true ∧ wk b.bk r.bk = true ∧ wk b.ct r.ct = true) := by
  unfold meet at h
  split at h
  · rename_i hw
    cases h
    simp only [Bool.and_eq_true] at hw
    obtain ⟨w1, w2, w3, w4, w5, w6⟩ := hw
    exact ⟨⟨w1, w3, w5⟩, ⟨w2, w4, w6⟩⟩
  · cases h
def csTry (S : Sg) (xo : Ows) (cs : List Str) (n : Option Nat) (kb : BC) (ks : BC) : SC := fun st ows => match vTry st, cs with
  | some t, [x] => if (decide (t.2.1 = x) && (S.calls && (S.exc x && (S.glo x && (noDbg x && weakB 0 xo S.x))))) = true then (match n, t.2.2.1 with
    | some i, some y => if (decide (S.N[i]? = some y) && (decide (S.sc.names.lookup y = some .local) && !S.pins.contains i)) = true then (match kb t.1 ows, ks (t.2.2.2.1 :: t.2.2.2.2) (xo.set i .fr) with
      | some a, some b => meet a b
      | _, _ => none) else none
    | none, none => (match kb t.1 ows, ks (t.2.2.2.1 :: t.2.2.2.2) xo with
      | some a, some b => meet a b
      | _, _ => none)
    | _, _ => none) else none
  | _, _ => none
theorem csTry_ok {xo : Ows} {cs : List Str} {n : Option Nat} {kb ks : BC} {fb fh : M Fl} (hb : BCOk (S.body xo) C kb fb) (hs : match n with
    | some i => BCOk (S.suiteE i) C ks fh
    | none => BCOk S.suiteN C ks fh) : SCOk S C (csTry S xo cs n kb ks) (tryM C fb fun c e => if (cs.any fun x => C.sub c x) = true then (match (match n with
      | some i => if i < e.length then fh (setS e i (.exc c)) else .no
      | none => fh e) with
      | .ok f e1 => .ok f (match n with
        | some i => unS e1 i
        | none => e1)
      | _ => .no) else .ex c e) := fun X c G st ows r h => by
  unfold csTry at h
  split at h
  · rename_i t x ht
    split at h
    · rename_i hn
      simp only [Bool.and_eq_true, decide_eq_true_eq] at hn
      obtain ⟨h1, h2, h3, h4, h5, h6⟩ := hn
      obtain ⟨np, p', p, rfl⟩ := vTry_eq ht
      have e0 : ∀ m, ([x].any fun x => C.sub m x) = C.sub m x := fun m => by simp
      have hw : weakB 0 xo c.x = true := by rw [G.x]; exact h6
      split at h
      · rename_i i y hy
        split at h
        · rename_i hk
          simp only [Bool.and_eq_true, decide_eq_true_eq, Bool.not_eq_true'] at hk
          split at h
          · rename_i a b ea eb
            obtain ⟨⟨m1, m2, m3⟩, m4, m5, m6⟩ := meet_ok h
            have hpn := G.pn i (by simpa using hk.2.2)
            rw [h1, hy]
            simp only [e0]
            exact ps_tryAs G h2 (by rw [G.N]; exact hk.1) (by rw [G.sc]; exact hk.2.1) hpn h3 (G.glo h4) (noDbg1 h5) (fun W pn xe tk hp => PSs.weaken (hb _ _ (G.body tk hp) _ _ a ea) m1 m2 m3)
              (fun a' m oe pn hm hz hf => PSs.weaken (hs _ _ (G.suiteE hm hz hf) _ _ b eb) m4 m5 m6) hw
          · cases h
        · cases h
      · rename_i hy
        split at h
        · rename_i a b ea eb
          obtain ⟨⟨m1, m2, m3⟩, m4, m5, m6⟩ := meet_ok h
          rw [h1, hy]
          simp only [e0]
          exact ps_tryNo G h2 h3 (G.glo h4) (noDbg1 h5) (fun W pn xe tk hp => PSs.weaken (hb _ _ (G.body tk hp) _ _ a ea) m1 m2 m3)
            (fun a' pn => PSs.weaken (hs _ _ G.suiteN _ _ b eb) m4 m5 m6) hw
        · cases h
      · cases h
    · cases h
  · cases h
end

mutual
def cS (S : Sg) : Mp.S → SC
  | .set i e => csSet S i (ck S e)
  | .tgt is e => csTgt S is (ck S e)
  | .put _ _ _ => noSC
  | .aug _ _ _ => noSC
  | .augp _ _ _ _ => noSC
  | .ex e => csEx (ck S e)
  | .ifs k a b => csIf (ck S k) (cB S a) (cB S b)
  | .for_ t k ia w body => csFor S t k (cks S ia) w (cB S body)
  | .while_ k body => csWh S (ck S k) (cB S body)
  | .ret e => csRet S (ck S e)
  | .retN => csRetN S
  | .raise n => csRaise S n
  | .try_ xo body h => match h with
    | .hd cs n hb .hn => csTry S xo cs n (cB (S.body xo) body) (cB (match n with
      | some i => S.suiteE i
      | none => S.suiteN) hb)
    | _ => noSC
  | .hd _ _ _ _ => noSC
  | .hn => noSC
  | .pass => csPass
  | .brk => csBrk
  | .cont => csCont
  | .weak _ => noSC
def cB (S : Sg) : List Mp.S → BC
  | [] => bcNil
  | s :: ss => bcCons (cS S s) (cB S ss)
end
theorem noSC_ok {S : Sg} {C : Cs} {f : M Fl} : SCOk S C noSC f := fun _ _ _ _ _ _ h => nomatch h
mutual
theorem cS_ok (C : Cs) : ∀ (S : Sg) (s : Mp.S), SCOk S C (cS S s) (dS C s)
  | S, .set i e => by simp only [cS, dS]; exact csSet_ok (ck_ok S C e)
  | S, .tgt is e => by simp only [cS, dS]; exact csTgt_ok (ck_ok S C e)
  | S, .put _ _ _ => by simp only [cS]; exact noSC_ok
  | S, .aug _ _ _ => by simp only [cS]; exact noSC_ok
  | S, .augp _ _ _ _ => by simp only [cS]; exact noSC_ok
  | S, .ex e => by simp only [cS, dS]; exact csEx_ok (ck_ok S C e)
  | S, .ifs k a b => by simp only [cS, dS]; exact csIf_ok (ck_ok S C k) (cB_ok C S a) (cB_ok C S b)
  | S, .for_ t k ia w body => by simp only [cS, dS]; exact csFor_ok (cks_ok S C ia) (cB_ok C S body)
  | S, .while_ k body => by simp only [cS, dS]; exact csWh_ok (ck_ok S C k) (cB_ok C S body)
  | S, .ret e => by simp only [cS, dS]; exact csRet_ok (ck_ok S C e)
  | S, .retN => by simp only [cS, dS]; exact csRetN_ok
  | S, .raise n => by simp only [cS, dS]; exact csRaise_ok
  | S, .try_ xo body (.hd cs n hb r) => by
    cases r with
    | hn =>
      simp only [cS, dS]
      have := csTry_ok (S := S) (xo := xo) (cs := cs) (n := n) (cB_ok C (S.body xo) body) (ks := cB (match n with
        | some i => S.suiteE i
        | none => S.suiteN) hb) (fh := dB C hb) (by
          cases n with
          | some i => exact cB_ok C (S.suiteE i) hb
          | none => exact cB_ok C S.suiteN hb)
      refine cast (congrArg (SCOk S C _) ?_) this
      congr 1
      funext m e
      simp only [dH]
      cases n <;> rfl
    | _ => simp only [cS]; exact noSC_ok
  | S, .try_ xo body .hn => by simp only [cS]; exact noSC_ok
  | S, .try_ xo body (.set _ _) => by simp only [cS]; exact noSC_ok
  | S, .try_ xo body (.tgt _ _) => by simp only [cS]; exact noSC_ok
  | S, .try_ xo body (.put _ _ _) => by simp only [cS]; exact noSC_ok
  | S, .try_ xo body (.aug _ _ _) => by simp only [cS]; exact noSC_ok
  | S, .try_ xo body (.augp _ _ _ _) => by simp only [cS]; exact noSC_ok
  | S, .try_ xo body (.ex _) => by simp only [cS]; exact noSC_ok
  | S, .try_ xo body (.ifs _ _ _) => by simp only [cS]; exact noSC_ok
  | S, .try_ xo body (.for_ _ _ _ _ _) => by simp only [cS]; exact noSC_ok
  | S, .try_ xo body (.while_ _ _) => by simp only [cS]; exact noSC_ok
  | S, .try_ xo body (.ret _) => by simp only [cS]; exact noSC_ok
  | S, .try_ xo body (.retN) => by simp only [cS]; exact noSC_ok
  | S, .try_ xo body (.raise _) => by simp only [cS]; exact noSC_ok
  | S, .try_ xo body (.try_ _ _ _) => by simp only [cS]; exact noSC_ok
  | S, .try_ xo body (.pass) => by simp only [cS]; exact noSC_ok
  | S, .try_ xo body (.brk) => by simp only [cS]; exact noSC_ok
  | S, .try_ xo body (.cont) => by simp only [cS]; exact noSC_ok
  | S, .try_ xo body (.weak _) => by simp only [cS]; exact noSC_ok
  | S, .hd _ _ _ _ => by simp only [cS]; exact noSC_ok
  | S, .hn => by simp only [cS]; exact noSC_ok
  | S, .pass => by simp only [cS, dS]; exact csPass_ok
  | S, .brk => by simp only [cS, dS]; exact csBrk_ok
  | S, .cont => by simp only [cS, dS]; exact csCont_ok
  | S, .weak _ => by simp only [cS]; exact noSC_ok
theorem cB_ok (C : Cs) : ∀ (S : Sg) (ss : List Mp.S), BCOk S C (cB S ss) (dB C ss)
  | S, [] => by simp only [cB, dB]; exact bcNil_ok
  | S, s :: ss => by simp only [cB, dB]; exact bcCons_ok (cS_ok C S s) (cB_ok C S ss)
end
end Mp
/-! Mp19: a program, its defs, the law. -/
namespace Mp
open PySem PySem.Spec PyProof.Rows L2

/-- a def: as it stands in the text, its slots, its parameters, what it gives, what it says -/
structure Fd where
  d : He.DefD
  N : List Str
  ps : List Str
  ro : Ow
  body : List Mp.S
def Fd.fn (F : Fd) : Fn := ⟨F.d.name, F.ps.length, F.N.length, F.body⟩
/-- a program: its defs, constants, errors, which stands below which -/
structure Pg where
  fs : List Fd
  cs : List (Str × D)
  ex : List Str
  sub : List (Str × Str)
def Pg.subB (P : Pg) (x y : Str) : Bool := P.sub.any fun p => decide (p = (x, y))
def Pg.isx (P : Pg) (x : Str) : Bool := P.ex.any fun y => decide (y = x)
def Pg.gl (P : Pg) (x : Str) : Option D := P.cs.lookup x
def Pg.find (P : Pg) (f : Str) : Option Fd := P.fs.find? fun F => decide (F.d.name = f)
def Pg.call (P : Pg) (n : Nat) (f : Str) (ds : List D) : CR := Mp.call (P.fs.map Fd.fn) P.gl P.subB P.isx n f ds
def Pg.cs_ (P : Pg) (n : Nat) : Cs := ⟨P.call n, P.gl, P.subB, P.isx⟩
def allFr (n : Nat) : Ows := List.replicate n .fr
def Pg.sg (P : Pg) (F : Fd) : Sg where
  N := F.N
  sc := F.d.scope
  pins := []
  pinw := []
  calm := true
  calls := true
  gl := fun x => (P.gl x).isSome
  fn := fun f => (P.find f).map fun G => (G.ps.length, G.ro)
  exc := P.isx
  es := none
  x := allFr F.N.length
  r := allFr F.N.length
  ro := F.ro
def scB (N ps : List Str) (sc : Scope) : Bool := decide (sc.kind = .function) && (!sc.isCoroutine && (!sc.isGenerator && (decide N.Nodup && (decide (N.take ps.length = ps) && (ps.all (fun x => decide (sc.names.lookup x = some .local)) && sc.names.all fun y => decide (y.2 ≠ .free))))))
theorem scB_ok {N ps : List Str} {sc : Scope} (h : scB N ps sc = true) : FnScope N ps sc := by
  unfold scB at h
  simp only [Bool.and_eq_true, decide_eq_true_eq, Bool.not_eq_true', List.all_eq_true] at h
  obtain ⟨h1, h2, h3, h4, h5, h6, h7⟩ := h
  exact ⟨h1, h2, h3, h4, h5, fun x hx => .inl (h6 x hx), h7⟩
/-- the def says what its text says -/
def Fd.ok (P : Pg) (F : Fd) : Bool := scB F.N F.ps F.d.scope && (match cB (P.sg F) F.body F.d.body (allFr F.N.length) with
  | some r => wk r.nx (some (allFr F.N.length))
  | none => false)
def Pg.ok (P : Pg) : Bool := P.fs.all fun F => F.ok P && (decide (F.d.dfl.length = 0) && decide (F.d.kwd.length = 0))

/-! ### what the module must hold -/
def cstB (K : PySem.W.Frag) (p : Str × D) : Bool := match p.2 with
  | .int i => (He.Fa.int p.1 i).ok K
  | .str z => (He.Fa.str p.1 z).ok K
  | _ => false
def okE (K : PySem.W.Frag) (C : Addr) (x : Str) (v : Option (Option Value)) : Bool := decide (PySem.W.findIn K (.ref C) x = v)
def excB (K : PySem.W.Frag) (x : Str) : Bool := (He.Fa.glo x).ok K && ((He.Fa.exc x).ok K &&
  (okE K (He.ga K x) "__getattribute__" (some (some (.builtin "BaseException.__getattribute__"))) && (okE K (He.ga K x) "__getattr__" (some none) && (PySem.W.hasDictIn K (He.ga K x) && (okE K (He.ga K x) "__class__" (some (some (.builtin "object.__class__"))) &&
    (decide (PySem.W.specialIn K (.builtin "object.__class__") "__get__" = some (some (.builtin "getset_descriptor.__get__"))) && (decide (PySem.W.takesIn K (.builtin "object.__class__") = some true) && decide (PySem.W.mroIn K (He.ga K x) (.type "object") = some true))))))))
def Pg.factB (P : Pg) (K : PySem.W.Frag) : Bool := (P.fs.all fun F => (He.Fa.glo F.d.name).ok K && decide (F.d.at_ = (F.d.name, none))) && (bltNames.all (fun x => (He.Fa.free x).ok K) && (P.cs.all (cstB K) && (P.ex.all (excB K) &&
  P.ex.all fun x => decide (PySem.W.kitOne K (.ref (He.ga K x)) (.type "ValueError") = some (P.subB x "ValueError")) && P.ex.all fun y => decide (PySem.W.exmOne K (.ref (He.ga K x)) (.ref (He.ga K y)) = some (P.subB x y)) && decide (PySem.W.kitOne K (.ref (He.ga K x)) (.ref (He.ga K y)) = some (P.subB x y)))))
section
variable {P : Pg} {Pr : Program} {w : World} {K : PySem.W.Frag} {mg : Str → Option Value}
theorem isx_mem {x : Str} (h : P.isx x = true) : x ∈ P.ex := by
  unfold Pg.isx at h
  simp only [List.any_eq_true, decide_eq_true_eq] at h
  obtain ⟨y, hy, rfl⟩ := h
  exact hy
structure PgOk (P : Pg) (K : PySem.W.Frag) (mg : Str → Option Value) : Prop where
  fn : ∀ F ∈ P.fs, (∃ fd, FunD K F.d.name F.d.qual F.d.params F.d.body F.d.scope (F.d.dvs K) (F.d.kws K) (He.ga K F.d.name) fd ∧ Binds K fd F.ps []) ∧ mg F.d.name = some (.ref (He.ga K F.d.name))
  blt : ∀ x ∈ bltNames, mg x = none
  cs : ∀ x d, P.gl x = some d → ∃ v u, mg x = some u ∧ L2.RelV v u ∧ ∀ H Z, Rep K H Z d v
  ex : ∀ x, P.isx x = true → excB K x = true ∧ mg x = some (.ref (He.ga K x))
  exm : ∀ x y, P.isx x = true → P.isx y = true → PySem.W.exmOne K (.ref (He.ga K x)) (.ref (He.ga K y)) = some (P.subB x y)
  kx : ∀ x y, P.isx x = true → P.isx y = true → PySem.W.kitOne K (.ref (He.ga K x)) (.ref (He.ga K y)) = some (P.subB x y)
  kv : ∀ x, P.isx x = true → PySem.W.kitOne K (.ref (He.ga K x)) (.type "ValueError") = some (P.subB x "ValueError")
theorem find_mem {f : Str} {F : Fd} (h : P.find f = some F) : F ∈ P.fs ∧ F.d.name = f := by
  unfold Pg.find at h
  exact ⟨List.mem_of_find?_eq_some h, by simpa using List.find?_some h⟩
theorem find_fn {f : Str} : ((P.fs.map Fd.fn).find? fun G => decide (G.name = f)) = (P.find f).map Fd.fn := by
  unfold Pg.find
  rw [List.find?_map]
  rfl
theorem excC_of {x : Str} (h : excB K x = true) : ExcC K (He.ga K x) := by
  unfold excB okE at h
  simp only [Bool.and_eq_true, decide_eq_true_eq] at h
  obtain ⟨h0, h1, h2, h3, h4, h5, h6, h7, h8⟩ := h
  have := He.exc_ok h1
  exact ⟨h2, h3, this.2.2.1, h4, h5, h6, h7, h8⟩
/-- the context of a def's body -/
theorem gok_body (O : PgOk P K mg) {n : Nat} {F : Fd} (hF : F ∈ P.fs) (hs : scB F.N F.ps F.d.scope = true)
    (ih : ∀ {base : Heap}, ∀ G ∈ P.fs, ∃ fd, FnOk Pr w K mg base (L2.CX Pr w) n (He.ga K G.d.name) fd G.ps (spOf K (P.call n G.d.name) [] G.ro G.ps.length) ∧ PySem.W.keepIn K (.ref (He.ga K G.d.name)) = true ∧ Binds K fd G.ps [])
    {base : Heap} {f : Addr} {cdv : Value} {A : Around} {outer : List PySem.Env} {s : Shared} {H : Hp} {E : XK} (hr : Room n (A.deeper (envOfC F.d.qual F.d.scope s.heap.objs.size f cdv))) :
    GOk (cxOf (L2.CX Pr w) Pr w K mg base F.N F.d.qual F.d.scope f cdv A outer s H E) ⟨K, fun _ => none, allFr F.N.length, allFr F.N.length, F.ro, fun cls d _ H => E cls d H⟩ (P.cs_ n) (P.sg F) where
  N := rfl
  sc := rfl
  K := rfl
  nd := (scB_ok hs).nd
  hu := by
    have h := hr.un
    show (A.deeper (envOfC F.d.qual F.d.scope s.heap.objs.size f cdv)).units + 66 < cLine
    omega
  calm := fun _ => rfl
  pas := fun _ => passes_of rfl
  tkc := fun _ => rfl
  blt := O.blt
  gl := fun x h => by
    obtain ⟨d, hd⟩ := Option.isSome_iff_exists.mp (show (P.gl x).isSome = true from h)
    obtain ⟨v, u, h1, h2, h3⟩ := O.cs x d hd
    exact ⟨d, v, u, h1, h2, hd, h3⟩
  fn := fun _ => ⟨takes_of rfl rfl rfl rfl, fun g np ro h => by
    obtain ⟨G, hG, e⟩ := Option.map_eq_some_iff.mp (show (P.find g).map (fun G => (G.ps.length, G.ro)) = some (np, ro) from h)
    cases e
    obtain ⟨hm, rfl⟩ := find_mem hG
    obtain ⟨fd, h1, h2, h3⟩ := ih (base := base) G hm
    exact ⟨n, _, fd, G.ps, h1, hr, (O.fn G hm).2, h2, h3⟩⟩
  exc := fun x h => by
    obtain ⟨h1, h2⟩ := O.ex x h
    have h3 : (He.Fa.exc x).ok K = true := by
      unfold excB at h1
      simp only [Bool.and_eq_true] at h1
      exact h1.2.1
    obtain ⟨e1, e2, e3, e4⟩ := He.exc_ok h3
    exact ⟨h2, e2, raises_own e3 e4, _, _, _, _, PySem.F.excBase_ValueError, e1⟩
  exm := O.exm
  exx := fun x h => h
  kx := O.kx
  kv := O.kv
  ec := fun x h => excC_of (O.ex x h).1
  stk := fun _ => ⟨rfl, rfl⟩
  es := fun i h => by cases h
  x := rfl
  r := rfl
  ro := rfl
  pn := fun _ _ => rfl
  pw := fun _ _ p h => by cases h

theorem getS_app {ds : List D} {m i : Nat} {d : D} (h : getS (ds.map some ++ List.replicate m none) i = some d) : ds[i]? = some d := by
  unfold getS at h
  by_cases hi : i < ds.length
  · rw [List.getElem?_append_left (by simpa using hi), List.getElem?_map] at h
    cases e : ds[i]? with
    | none => rw [e] at h; simp at h
    | some x => rw [e] at h; simpa using h
  · rw [List.getElem?_append_right (by simpa using hi), List.getElem?_replicate] at h
    split at h <;> simp at h
theorem owAt_fr {n i : Nat} : owAt (allFr n) i = .fr := by
  unfold owAt allFr
  rw [List.getD_eq_getElem?_getD, List.getElem?_replicate]
  split <;> rfl
/-- the slots at a def's start -/
theorem SR.start {w : Wd} {ds : List D} {vs : List V} {N : List Str} {m : Nat} (s : SR K (pinOf [] vs) [] (ds.map some) (vs.map some) w) (hl : ds.length = vs.length) : SR K (fun _ => none) (allFr m) (ds.map some ++ List.replicate (N.length - ds.length) none) (L2.start N vs) w where
  len := by unfold L2.start; simp [hl]
  at_ := fun i d h => by
    have e := getS_app h
    obtain ⟨v, h1, h2⟩ := s.at_ i d (by unfold getS; rw [List.getElem?_map, e]; rfl)
    refine ⟨v, ?_, by rw [owAt_fr]; exact h2⟩
    unfold L2.start
    have hi : i < vs.length := by rw [← hl]; exact (List.getElem?_eq_some_iff.mp e).1
    rw [List.getElem?_append_left (by simpa using hi)]
    exact h1
  apart := s.apart
  zf := s.zf
  fm := s.fm
  zt := s.zt
  pin := fun _ _ h => by cases h
/-- what is given back: nothing was lent -/
theorem SR.back {pn : Pin} {ows : Ows} {env : Env} {σ : L2.St} {w : Wd} {ls : List D} {vs : List V} (s : SR K pn ows env σ w) (hl : ls.length = vs.length) : SR K (pinOf [] vs) [] (lsOf [] ls) (vs.map some) w where
  len := by unfold lsOf; simp [hl]
  at_ := fun i d h => by
    unfold getS lsOf at h
    rw [List.getElem?_map] at h
    cases e : (List.range ls.length)[i]? with
    | none => rw [e] at h; simp at h
    | some j => rw [e] at h; simp [owAt] at h
  apart := s.apart
  zf := s.zf
  fm := s.fm
  zt := s.zt
  pin := fun i p e => by simp [pinOf, owAt] at e
theorem call_succ {n : Nat} {F : Fd} {ds : List D} (h : P.find F.d.name = some F) (hl : F.ps.length = ds.length) : P.call (n + 1) F.d.name ds = (match dB (P.cs_ n) F.body (ds.map some ++ List.replicate (F.N.length - F.ps.length) none) with
      | .ok (.rt r) e => .ok r ((List.range F.ps.length).map fun i => (getS e i).getD .non)
      | .ok .nx e => .ok .non ((List.range F.ps.length).map fun i => (getS e i).getD .non)
      | .ok _ _ => .no
      | .ex c _ => .ex c
      | .no => .no) := by
  unfold Pg.call
  rw [Mp.call, find_fn, h]
  simp only [Option.map_some]
  show (if F.ps.length = ds.length then _ else _) = _
  rw [if_pos hl]
  rfl
theorem prog_ok (O : PgOk P K mg) (hok : P.ok = true) (hnd : ∀ F ∈ P.fs, P.find F.d.name = some F) : ∀ (n : Nat) {base : Heap}, ∀ F ∈ P.fs, ∀ {fd : FuncData}, FunD K F.d.name F.d.qual F.d.params F.d.body F.d.scope (F.d.dvs K) (F.d.kws K) (He.ga K F.d.name) fd → FnOk Pr w K mg base (L2.CX Pr w) n (He.ga K F.d.name) fd F.ps (spOf K (P.call n F.d.name) [] F.ro F.ps.length)
  | 0, base, F, hF, fd, FD => by
    refine ⟨fun vs H Q E h => ?_, fun A outer s H args us vs Q E _ _ _ _ h => ?_⟩
    · obtain ⟨w, ds, _, h1, _⟩ := h
      exact h1
    · obtain ⟨w, ds, _, _, _, _, z⟩ := h
      exact z.elim
  | n + 1, base, F, hF, fd, FD => by
    have hFo : F.ok P = true := by
      have := List.all_eq_true.mp hok F hF
      simp only [Bool.and_eq_true] at this
      exact this.1
    unfold Fd.ok at hFo
    simp only [Bool.and_eq_true] at hFo
    obtain ⟨hs, hc⟩ := hFo
    cases er : cB (P.sg F) F.body F.d.body (allFr F.N.length) with
    | none => rw [er] at hc; cases hc
    | some r =>
      rw [er] at hc
      refine FD.ok (scB_ok hs) (fun vs H Q E h => ?_) fun cdv A outer s H vs Q E hr h => ?_
      · obtain ⟨w, ds, _, h1, _⟩ := h
        exact h1
      · have G := gok_body (Pr := Pr) (w := w) O hF hs (fun {base} G hG => by
          obtain ⟨⟨fd', FD', hb'⟩, _⟩ := O.fn G hG
          exact ⟨fd', prog_ok O hok hnd n (base := base) G hG FD', FD'.kp, hb'⟩) (base := base) (f := He.ga K F.d.name) (cdv := cdv) (A := A) (outer := outer) (s := s) (H := H) (E := E) hr
        refine ⟨_, cB_ok (P.cs_ n) (P.sg F) F.body _ _ G F.d.body (allFr F.N.length) r er, ?_⟩
        obtain ⟨w0, ds, hw, l1, l2, sr, z⟩ := h
        rw [call_succ (hnd F hF) l2.symm] at z
        refine tS_iff.mpr ⟨w0, ds.map some ++ List.replicate (F.N.length - F.ps.length) none, hw, ?_, ?_⟩
        · have := sr.start (N := F.N) (m := F.N.length) (by rw [l1, l2])
          rw [l2] at this
          exact this
        · cases e1 : dB (P.cs_ n) F.body (ds.map some ++ List.replicate (F.N.length - F.ps.length) none) with
          | no => rw [e1] at z; exact z
          | ex m e2 => rw [e1] at z; exact fun w' σ' x s => z w' x
          | ok fl e2 =>
            rw [e1] at z
            have hlen : ((List.range F.ps.length).map fun i => (getS e2 i).getD .non).length = vs.length := by simp [l1]
            cases fl with
            | bk => exact z.elim
            | ct => exact z.elim
            | nx =>
              rintro w' σ' x ⟨o, ho, s'⟩
              exact z w' .non (fun _ => False) x (by simp) (s'.back hlen) RO.mknon Tmp.nil
            | rt d =>
              intro w' σ' v A' x s' ro t
              exact z w' v A' x (by simp) (s'.back hlen) ro t
end
end Mp
/-! Mp20: the end of a law. -/
namespace Mp
open PySem PySem.Spec PyProof.Rows L2
/-- a def's parameters are plain: each takes one value -/
def BindOk (F : Fd) : Prop := ∀ (kV doc pm : Value) (an : Option Addr) (cdv ct : Value) (us : List Value), us.length = F.ps.length →
  bindArgs (PySem.W.fnOf F.d.name F.d.qual F.d.params F.d.body F.d.scope .none kV doc pm an cdv ct) ⟨us, []⟩ = pure (F.ps.zip us)
section
variable {P : Pg} {w : World} {K : PySem.W.Frag} {mg : Str → Option Value} {h : Heap}
theorem lookup_mem {α β : Type} [BEq α] [LawfulBEq α] : ∀ {l : List (α × β)} {a : α} {b : β}, l.lookup a = some b → (a, b) ∈ l
  | [], _, _, h => by cases h
  | (x, y) :: l, a, b, h => by
    rw [List.lookup_cons] at h
    split at h
    · rename_i e
      cases h
      have := eq_of_beq e
      subst this
      exact List.mem_cons_self
    · exact List.mem_cons_of_mem _ (lookup_mem h)
theorem funD_of (c : He.SaysX [] (P.fs.map Fd.d) [] [] P.factB w h K) (hok : P.ok = true) {F : Fd} (hF : F ∈ P.fs) : ∃ fd, FunD K F.d.name F.d.qual F.d.params F.d.body F.d.scope [] [] (He.ga K F.d.name) fd ∧ F.d.dvs K = [] ∧ F.d.kws K = [] := by
  obtain ⟨fd, FD⟩ := He.SaysD.defs (He.SaysT.d c.t) (List.mem_map.mpr ⟨F, hF, rfl⟩)
  have hm := c.more
  unfold Pg.factB at hm
  simp only [Bool.and_eq_true, List.all_eq_true, decide_eq_true_eq] at hm
  have hat := (hm.1 F hF).2
  have hp := List.all_eq_true.mp hok F hF
  simp only [Bool.and_eq_true, decide_eq_true_eq] at hp
  have h1 : F.d.dvs K = [] := by
    unfold He.DefD.dvs
    rw [List.eq_nil_of_length_eq_zero hp.2.1]; rfl
  have h2 : F.d.kws K = [] := by
    unfold He.DefD.kws
    rw [List.eq_nil_of_length_eq_zero hp.2.2]; rfl
  rw [h1, h2, hat] at FD
  exact ⟨fd, FD, h1, h2⟩
theorem pgOk_of (X : K.In h) (G : h.Ns mainGlobals mg) (c : He.SaysX [] (P.fs.map Fd.d) [] [] P.factB w h K) (hok : P.ok = true) (hb : ∀ F ∈ P.fs, BindOk F) : PgOk P K mg := by
  have hm := c.more
  unfold Pg.factB at hm
  simp only [Bool.and_eq_true, List.all_eq_true, decide_eq_true_eq] at hm
  obtain ⟨m1, m2, m3, m4, m5⟩ := hm
  refine ⟨fun F hF => ?_, fun x hx => He.free_ok X G (m2 x hx), fun x d hd => ?_, fun x hx => ?_, fun x y hx hy => ((m5 x (isx_mem hx)).2 y (isx_mem hy)).1, fun x y hx hy => ((m5 x (isx_mem hx)).2 y (isx_mem hy)).2, fun x hx => (m5 x (isx_mem hx)).1⟩
  · obtain ⟨fd, FD, h1, h2⟩ := funD_of c hok hF
    exact ⟨⟨fd, by rw [h1, h2]; exact FD, FD.bindsN (hb F hF)⟩, He.glo_ok X G (m1 F hF).1⟩
  · have := m3 (x, d) (lookup_mem hd)
    unfold cstB at this
    split at this
    · rename_i i e
      obtain ⟨t, h1⟩ := He.int_ok X G this
      cases (show d = .int i from e)
      exact ⟨.int i, _, h1, ⟨t, rfl⟩, fun _ _ => rfl⟩
    · rename_i z e
      obtain ⟨t, h1⟩ := He.str_ok X G this
      cases (show d = .str z from e)
      exact ⟨.str z, _, h1, ⟨t, rfl⟩, fun _ _ => rfl⟩
    · cases this
  · have h1 := m4 x (isx_mem hx)
    refine ⟨h1, He.glo_ok X G ?_⟩
    unfold excB at h1
    simp only [Bool.and_eq_true] at h1
    exact h1.1
theorem findB_ok (h : (P.fs.all fun F => match P.find F.d.name with
    | some G => decide (G.d.name = F.d.name) && decide (G.N = F.N)
    | none => false) = true) : True := trivial
/-- names once each -/
theorem find_of : ∀ {fs : List Fd}, (fs.map fun F => F.d.name).Nodup → ∀ F ∈ fs, (fs.find? fun G => decide (G.d.name = F.d.name)) = some F
  | [], _, F, h => by cases h
  | G :: fs, nd, F, h => by
    rw [List.map_cons, List.nodup_cons] at nd
    rcases List.mem_cons.mp h with rfl | h
    · rw [List.find?_cons, decide_eq_true rfl]
    · have ne : G.d.name ≠ F.d.name := fun e => nd.1 (e ▸ List.mem_map.mpr ⟨F, h, rfl⟩)
      rw [List.find?_cons, decide_eq_false ne]
      exact find_of nd.2 F h
end
/-- the script, as the law gets it -/
theorem rol_of {K : PySem.W.Frag} {H : Hp} {a : Addr} {ns : List Int} (hO : Only H) (hS : SqL K H a (ns.map V.int)) (Z : AS) : Rep K H Z (.rol (ns.map D.int)) (.ref a) := by
  refine ⟨a, ns.map V.int, rfl, ?_, ?_⟩
  · rcases hS with (h | ⟨o, h⟩) | h
    · rcases hO a with z | ⟨o, xs, z⟩
      · rw [h] at z; cases z
      · rw [h] at z; cases z
    · exact .inl ⟨o, h⟩
    · exact .inr (.inr h)
  · exact Reps.of (by simp) fun k d x e1 e2 => by
      rw [List.getElem?_map] at e1 e2
      cases e : ns[k]? with
      | none => rw [e] at e1; cases e1
      | some i =>
        rw [e] at e1 e2
        cases e1; cases e2
        rfl
/-- a law whose def the program P says -/
theorem law_end {l : PySem.W.OpenLaw} {n k : Nat} {q : Program} {loose : List Str} {XP : (Str → Option Value) → Heap → Prop} {d : DefRec} {P : Pg} {L : Fd} {x : Str} (hn : l.most = some n) (hn2 : n ≤ sizeLine) (hdf : d.params.defaults = []) (hr : Room k callerA)
    (hname : d.name = L.d.name) (hL : L ∈ P.fs) (hps : L.ps = [x]) (hok : P.ok = true) (hnd : (P.fs.map fun F => F.d.name).Nodup) (hb : ∀ F ∈ P.fs, BindOk F)
    (law : ∀ ns : List Int, ns.length ≤ n → ∃ ls, P.call k L.d.name [.rol (ns.map D.int)] = .ok (.bl true) ls) :
    PySem.W.WalkO q loose XP (fun w h => ∃ K : PySem.W.Frag, K.In h ∧ He.SaysX [] (P.fs.map Fd.d) [] [] P.factB w h K) l.row.toRowW d [] (fun f vs => PySem.call f vs) := by
  refine Att.attach_call hn hdf fun w s₀ s₁ mg mb fa o pm cd doc a vs ns G Y ho hd hcd hmg hobj hints hlen hg => ?_
  obtain ⟨K, KX, c⟩ := Y
  have O := pgOk_of KX G.T.g c hok hb
  obtain ⟨fd, FD, h1, h2⟩ := funD_of c hok hL
  have efa : fa = He.ga K L.d.name := by
    have h1 := (O.fn L hL).2
    rw [← hname, hmg] at h1
    cases h1
    rw [hname]
  subst efa
  have hnd' : ∀ F ∈ P.fs, P.find F.d.name = some F := find_of hnd
  obtain ⟨ls, hlaw⟩ := law ns hlen
  have bA := FunD.bindsA (ps := L.ps) FD (hb L hL)
  refine law_call (fd := fd) (CX := L2.CX l.prog w) (x := x) (sp := spOf K (P.call k L.d.name) [] L.ro L.ps.length) KX G.T.g G.T.b G.T.builtins G.T.nolimit hg hobj hints (Nat.le_trans hlen hn2) hr (fun base _ _ => ?_) (fun s v => ?_) (fun H hO hS => ?_) fun H e s' z => ?_
  · have := prog_ok (Pr := l.prog) (w := w) O hok hnd' k (base := base) L hL (fd := fd) (by rw [h1, h2]; exact FD)
    rw [hps] at this ⊢
    exact this
  · have := bA s [v] (by rw [hps]; rfl)
    rw [hps] at this
    exact this
  · refine ⟨⟨fun _ => False, fun _ _ => False, H⟩, [.rol (ns.map D.int)], rfl, by rw [hps]; rfl, by rw [hps]; rfl, ?_, ?_⟩
    · have rr : Reps K H (fun _ => False) [.rol (ns.map D.int)] [.ref a] := by
        unfold Reps
        exact ⟨.ref a, [], rfl, rol_of hO hS _, by unfold Reps; rfl⟩
      exact sr_args rr fun _ z => z.elim
    · rw [hlaw]
      intro w' v A x1 hl s ro t
      exact ro.bl
  · obtain ⟨_, _, _, _, _, _, _, _, _, _, _, _, z⟩ := z
    exact z
end Mp
/-! Mp21: words for the plain law. -/
namespace Mp
open PySem

theorem chkOf_none {as : List D} : chkOf none as = fun _ => true := rfl
theorem getS0 {o : Option D} {e : Env} : getS (o :: e) 0 = o := by simp [getS]
theorem getSs {o : Option D} {e : Env} {i : Nat} : getS (o :: e) (i + 1) = getS e i := by simp [getS]
theorem setS0 {o : Option D} {e : Env} {d : D} : setS (o :: e) 0 d = some d :: e := by simp [setS]
theorem setSs {o : Option D} {e : Env} {i : Nat} {d : D} : setS (o :: e) (i + 1) d = o :: setS e i d := by simp [setS]
theorem for_inv {t : T} {body : M Fl} (I : Nat → Env → Prop) : ∀ (ds : List D) (k : Nat) (e : Env), I k e → (∀ j d e, ds[j]? = some d → I (k + j) e → ∃ e1, asg t d e = some e1 ∧ ∃ e2, (body e1 = .ok .nx e2 ∨ body e1 = .ok .ct e2) ∧ I (k + j + 1) e2) →
    ∃ e', forL (fun _ => true) t body ds e = .ok .nx e' ∧ I (k + ds.length) e'
  | [], k, e, h, _ => ⟨e, by simp [forL], h⟩
  | d :: ds, k, e, h, st => by
    obtain ⟨e1, a1, e2, b1, h2⟩ := st 0 d e rfl h
    obtain ⟨e', f1, f2⟩ := for_inv I ds (k + 1) e2 h2 fun j d' e0 hj hi => by
      have := st (j + 1) d' e0 (by simpa using hj) (by rw [show k + (j + 1) = k + 1 + j by omega]; exact hi)
      rw [show k + (j + 1) + 1 = k + 1 + j + 1 by omega] at this
      exact this
    refine ⟨e', ?_, by rw [List.length_cons, show k + (ds.length + 1) = k + 1 + ds.length by omega]; exact f2⟩
    simp only [forL, if_true, a1]
    rcases b1 with b | b <;> rw [b] <;> exact f1
/-- the invariant as a family of environments -/
theorem for_env {α : Type} {t : T} {body : M Fl} (env : Nat → α → Env) (P : Nat → α → Prop) (ds : List D) (a0 : α) (h0 : P 0 a0) (st : ∀ j d a, ds[j]? = some d → P j a → ∃ e1, asg t d (env j a) = some e1 ∧ ∃ a', (body e1 = .ok .nx (env (j + 1) a') ∨ body e1 = .ok .ct (env (j + 1) a')) ∧ P (j + 1) a') :
    ∃ a', forL (fun _ => true) t body ds (env 0 a0) = .ok .nx (env ds.length a') ∧ P ds.length a' := by
  obtain ⟨e', f1, a', rfl, h⟩ := for_inv (fun k e => ∃ a, e = env k a ∧ P k a) ds 0 (env 0 a0) ⟨a0, rfl, h0⟩ fun j d e hj ⟨a, he, hp⟩ => by
    subst he
    simp only [Nat.zero_add] at hp ⊢
    obtain ⟨e1, x1, a', x2, x3⟩ := st j d a hj hp
    exact ⟨e1, x1, _, x2, a', rfl, x3⟩
  rw [Nat.zero_add] at f1 h
  exact ⟨a', f1, h⟩
theorem rngD_get {lo : Int} {n j : Nat} {d : D} (h : (rngD lo n)[j]? = some d) : j < n ∧ d = .int (lo + j) := by
  rw [rngD_at] at h
  split at h
  · cases h; exact ⟨‹_›, rfl⟩
  · cases h
theorem atI_nat {α : Type} {xs : List α} {j : Nat} (h : j < xs.length) : L2.atI xs (j : Int) = some xs[j] := by
  unfold L2.atI L2.ixN
  rw [if_pos (by omega), if_pos (by omega)]
  simp [h]
theorem atI_map {ns : List Int} {j : Nat} (h : j < ns.length) : L2.atI (ns.map D.int) (j : Int) = some (.int ns[j]) := by
  rw [atI_nat (by simpa using h)]
  simp
theorem dB_nil {C : Cs} {e : Mp.Env} : dB C [] e = .ok .nx e := by simp [dB, M.ret]
theorem dB_cons {C : Cs} {s : Mp.S} {ss : List Mp.S} {e e1 : Mp.Env} {r : R Fl} (h1 : dS C s e = .ok .nx e1) (h2 : dB C ss e1 = r) : dB C (s :: ss) e = r := by
  simp only [dB, seqM, M.bind, h1, h2]
theorem dB_ret {C : Cs} {s : Mp.S} {ss : List Mp.S} {e e1 : Mp.Env} {d : D} (h1 : dS C s e = .ok (.rt d) e1) : dB C (s :: ss) e = .ok (.rt d) e1 := by
  simp only [dB, seqM, M.bind, h1, M.ret]
theorem dS_set {C : Cs} {i : Nat} {x : E} {e e1 : Mp.Env} {d : D} (h : (den C x).1 e = .ok d e1) : dS C (.set i x) e = .ok .nx (setS e1 i d) := by
  simp only [dS, M.bind, h]
theorem dS_ret {C : Cs} {x : E} {e e1 : Mp.Env} {d : D} (h : (den C x).1 e = .ok d e1) : dS C (.ret x) e = .ok (.rt d) e1 := by
  simp only [dS, M.bind, h, M.ret]
theorem dS_if {C : Cs} {k : E} {a b : List Mp.S} {e e1 : Mp.Env} {t : Bool} (h : (den C k).2 e = .ok t e1) : dS C (.ifs k a b) e = if t = true then dB C a e1 else dB C b e1 := by
  simp only [dS, M.bind, h]
  cases t <;> rfl
theorem dS_for {C : Cs} {t : T} {k : IK} {ia : List E} {body : List Mp.S} {e e1 : Mp.Env} {as ds : List D} (h : evs (dens C ia) e = .ok as e1) (h2 : itF k as = some ds) : dS C (.for_ t k ia none body) e = forL (fun _ => true) t (dB C body) ds e1 := by
  simp only [dS, Mp.forM, M.bind, h, h2, M.opt, chkOf_none]
/-- a call whose body returns -/
theorem call_rt {P : Pg} {n : Nat} {F : Fd} {ds : List D} {r : D} {e : Mp.Env} (hf : P.find F.d.name = some F) (hl : F.ps.length = ds.length) (h : dB (P.cs_ n) F.body (ds.map some ++ List.replicate (F.N.length - F.ps.length) none) = .ok (.rt r) e) : ∃ ls, P.call (n + 1) F.d.name ds = .ok r ls := by
  rw [call_succ hf hl, h]
  exact ⟨_, rfl⟩
end Mp
/-! Num: the numbers that the laws draw from the script. -/
namespace Lw
open PySem Mp
def b__law_numbers : List Mp.S := [
  .set 2 (.lst []),
  .for_ (.nm 3) .rng [.bi .len [.v 0]] none [
    .set 4 (.bi .abs [.bi .int [.ix (.v 0) (.v 3)]]),
    .ifs (.cmp .ge (.v 4) (.bin .pow (.int 10) (.int 18))) [
      .for_ (.nm 5) .rng [.int 60] none [
        .ifs (.and [.cmp .gt (.v 4) (.int 0), .cmp .lt (.bi .len [.v 2]) (.v 1)]) [
          .ex (.mu .append 2 [] [.bin .mod (.v 4) (.int 10007)]),
          .set 4 (.bin .fdiv (.v 4) (.int 10007))] []]] [
      .ifs (.cmp .lt (.bi .len [.v 2]) (.v 1)) [
        .set 6 (.bin .mod (.bi .int [.bin .add (.bin .add (.bin .mul (.v 4) (.int 48271)) (.bin .mul (.v 3) (.int 69621))) (.int 11)]) (.int 2147483647)),
        .ex (.mu .append 2 [] [.bin .fdiv (.bin .mod (.bi .int [.bin .add (.bin .add (.bin .mul (.v 6) (.int 16807)) (.bin .mul (.int 7) (.v 3))) (.int 3)]) (.int 2147483647)) (.int 3)])] []]],
  .set 7 (.bi .len [.v 2]),
  .set 8 (.bin .add (.int 5381) (.bi .len [.v 0])),
  .for_ (.nm 3) .rng [.bi .max2 [.int 0, .bin .sub (.v 1) (.v 7)]] none [
    .ifs (.cmp .gt (.v 7) (.int 0)) [
      .set 8 (.bin .add (.v 8) (.ix (.v 2) (.bin .mod (.v 3) (.v 7))))] [],
    .set 8 (.bin .mod (.bi .int [.bin .add (.bin .mul (.v 8) (.int 48271)) (.v 3)]) (.int 2147483647)),
    .ex (.mu .append 2 [] [.bin .fdiv (.v 8) (.int 7)])],
  .ret (.sl (.v 2) [] [.v 1])]

def body60 : List Mp.S := [
        .ifs (.and [.cmp .gt (.v 4) (.int 0), .cmp .lt (.bi .len [.v 2]) (.v 1)]) [
          .ex (.mu .append 2 [] [.bin .mod (.v 4) (.int 10007)]),
          .set 4 (.bin .fdiv (.v 4) (.int 10007))] []]
theorem b60 {C : Cs} {s : Option D} {m : Nat} {xs : List Int} {cell : Int} {o3 o5 : Option D} {r : Mp.Env} (hx : xs.length ≤ m) (hm : m ≤ 100000) : ∃ (ys : List Int) (c : Int), ys.length ≤ m ∧ dB C body60 (s :: some (.int m) :: some (.lst (xs.map .int)) :: o3 :: some (.int cell) :: o5 :: r) = .ok .nx (s :: some (.int m) :: some (.lst (ys.map .int)) :: o3 :: some (.int c) :: o5 :: r) := by
  have hs : xs.length < SZ := by unfold SZ; omega
  by_cases h1 : 0 < cell
  · by_cases h2 : (xs.length : Int) < m
    · refine ⟨xs ++ [cell % 10007], cell / 10007, by simp; omega, ?_⟩
      have h3 : xs.length < m := by omega
      simp [body60, dB, dS, seqM, M.bind, M.ret, den, dens, val, evs, op2, varM, truthM, andT, getS, M.opt, bF, cmpD, ltD, D.truth, h1, h2, h3, muM, getPM, setPM, muOk, muF, getP, setP, binD, setS, hs]
    · have h3 : ¬ xs.length < m := by omega
      refine ⟨xs, cell, hx, ?_⟩
      simp [body60, dB, dS, seqM, M.bind, M.ret, den, dens, val, evs, op2, varM, truthM, andT, getS, M.opt, bF, cmpD, ltD, D.truth, h1, h2, h3]
  · refine ⟨xs, cell, hx, ?_⟩
    simp [body60, dB, dS, seqM, M.bind, M.ret, den, dens, val, evs, op2, varM, truthM, andT, getS, M.opt, bF, cmpD, ltD, D.truth, h1]
def bodyA : List Mp.S := [
    .set 4 (.bi .abs [.bi .int [.ix (.v 0) (.v 3)]]),
    .ifs (.cmp .ge (.v 4) (.bin .pow (.int 10) (.int 18))) [
      .for_ (.nm 5) .rng [.int 60] none body60] [
      .ifs (.cmp .lt (.bi .len [.v 2]) (.v 1)) [
        .set 6 (.bin .mod (.bi .int [.bin .add (.bin .add (.bin .mul (.v 4) (.int 48271)) (.bin .mul (.v 3) (.int 69621))) (.int 11)]) (.int 2147483647)),
        .ex (.mu .append 2 [] [.bin .fdiv (.bin .mod (.bi .int [.bin .add (.bin .add (.bin .mul (.v 6) (.int 16807)) (.bin .mul (.int 7) (.v 3))) (.int 3)]) (.int 2147483647)) (.int 3)])] []]]
def bodyB : List Mp.S := [
    .ifs (.cmp .gt (.v 7) (.int 0)) [
      .set 8 (.bin .add (.v 8) (.ix (.v 2) (.bin .mod (.v 3) (.v 7))))] [],
    .set 8 (.bin .mod (.bi .int [.bin .add (.bin .mul (.v 8) (.int 48271)) (.v 3)]) (.int 2147483647)),
    .ex (.mu .append 2 [] [.bin .fdiv (.v 8) (.int 7)])]
theorem loop60 {C : Cs} {s : Option D} {m : Nat} {xs : List Int} {cell : Int} {o3 o5 : Option D} {r : Mp.Env} (hx : xs.length ≤ m) (hm : m ≤ 100000) : ∃ (ys : List Int) (c : Int) (o5' : Option D), ys.length ≤ m ∧ dS C (.for_ (.nm 5) .rng [.int 60] none body60) (s :: some (.int m) :: some (.lst (xs.map .int)) :: o3 :: some (.int cell) :: o5 :: r) = .ok .nx (s :: some (.int m) :: some (.lst (ys.map .int)) :: o3 :: some (.int c) :: o5' :: r) := by
  obtain ⟨e', f1, ys, c, o5', rfl, h⟩ := for_inv (t := .nm 5) (body := dB C body60) (fun _ e => ∃ (ys : List Int) (c : Int) (o5' : Option D), e = (s :: some (.int m) :: some (.lst (ys.map .int)) :: o3 :: some (.int c) :: o5' :: r) ∧ ys.length ≤ m) (rngD 0 60) 0 _ ⟨xs, cell, o5, rfl, hx⟩ fun j d e hj ⟨ys, c, o5', he, hy⟩ => by
    subst he
    obtain ⟨zs, c', hz, e2⟩ := b60 (C := C) (s := s) (o3 := o3) (o5 := some d) (r := r) (cell := c) hy hm
    exact ⟨_, rfl, _, .inl e2, zs, c', some d, rfl, hz⟩
  refine ⟨ys, c, o5', h, ?_⟩
  have : dS C (.for_ (.nm 5) .rng [.int 60] none body60) (s :: some (.int m) :: some (.lst (xs.map .int)) :: o3 :: some (.int cell) :: o5 :: r) = forL (fun _ => true) (.nm 5) (dB C body60) (rngD 0 60) (s :: some (.int m) :: some (.lst (xs.map .int)) :: o3 :: some (.int cell) :: o5 :: r) := by
    simp [dS, Mp.forM, dens, den, val, evs, M.bind, M.ret, M.opt, itF, B62, chkOf_none]
  rw [this]
  exact f1
theorem bA0 {C : Cs} {ns : List Int} {m : Nat} {xs : List Int} {j : Nat} {o4 o5 o6 : Option D} {r : Mp.Env} (hj : j < ns.length) : dS C (.set 4 (.bi .abs [.bi .int [.ix (.v 0) (.v 3)]])) (some (.rol (ns.map .int)) :: some (.int m) :: some (.lst (xs.map .int)) :: some (.int j) :: o4 :: o5 :: o6 :: r) = .ok .nx (some (.rol (ns.map .int)) :: some (.int m) :: some (.lst (xs.map .int)) :: some (.int j) :: some (.int (if ns[j] < 0 then -ns[j] else ns[j])) :: o5 :: o6 :: r) := by
  have hat := atI_map hj
  simp [dS, M.bind, M.ret, den, dens, val, evs, op2, varM, getS, M.opt, ixD, hat, bF, setS]
def elseA : List Mp.S := [
      .ifs (.cmp .lt (.bi .len [.v 2]) (.v 1)) [
        .set 6 (.bin .mod (.bi .int [.bin .add (.bin .add (.bin .mul (.v 4) (.int 48271)) (.bin .mul (.v 3) (.int 69621))) (.int 11)]) (.int 2147483647)),
        .ex (.mu .append 2 [] [.bin .fdiv (.bin .mod (.bi .int [.bin .add (.bin .add (.bin .mul (.v 6) (.int 16807)) (.bin .mul (.int 7) (.v 3))) (.int 3)]) (.int 2147483647)) (.int 3)])] []]
theorem mulc {a b : Int} (h : W64 b = true) : binD .mul (.int a) (.int b) = some (.int (a * b)) := by
  simp [binD, h]
theorem mulc' {a b : Int} (h : W64 a = true) : binD .mul (.int a) (.int b) = some (.int (a * b)) := by
  simp [binD, h]
theorem addI {a b : Int} : binD .add (.int a) (.int b) = some (.int (a + b)) := rfl
theorem modI {a b : Int} (h : 0 < b) : binD .mod (.int a) (.int b) = some (.int (a % b)) := by simp [binD, h]
theorem divI {a b : Int} (h : 0 < b) (h' : b < 1073741824) : binD .fdiv (.int a) (.int b) = some (.int (a / b)) := by simp [binD, h, h']
def e6 : E := .bin .mod (.bi .int [.bin .add (.bin .add (.bin .mul (.v 4) (.int 48271)) (.bin .mul (.v 3) (.int 69621))) (.int 11)]) (.int 2147483647)
def e7 : E := .bin .fdiv (.bin .mod (.bi .int [.bin .add (.bin .add (.bin .mul (.v 6) (.int 16807)) (.bin .mul (.int 7) (.v 3))) (.int 3)]) (.int 2147483647)) (.int 3)
theorem e6_ok {C : Cs} {e : Mp.Env} {a b : Int} (h3 : getS e 3 = some (.int a)) (h4 : getS e 4 = some (.int b)) : ∃ v : Int, (den C e6).1 e = .ok (.int v) e := by
  have m1 : ∀ a : Int, binD .mul (.int a) (.int 48271) = some (.int (a * 48271)) := fun a => mulc (by simp [W64])
  have m2 : ∀ a : Int, binD .mul (.int a) (.int 69621) = some (.int (a * 69621)) := fun a => mulc (by simp [W64])
  have d1 : ∀ a : Int, binD .mod (.int a) (.int 2147483647) = some (.int (a % 2147483647)) := fun a => modI (by omega)
  refine ⟨(b * 48271 + a * 69621 + 11) % 2147483647, ?_⟩
  simp only [e6, den, dens, val, evs, op2, varM, M.bind, M.ret, M.opt, h3, h4, m1, m2, d1, addI, bF]
theorem e7_ok {C : Cs} {e : Mp.Env} {a b : Int} (h3 : getS e 3 = some (.int a)) (h4 : getS e 6 = some (.int b)) : ∃ v : Int, (den C e7).1 e = .ok (.int v) e := by
  have m3 : ∀ a : Int, binD .mul (.int a) (.int 16807) = some (.int (a * 16807)) := fun a => mulc (by simp [W64])
  have m4 : ∀ a : Int, binD .mul (.int 7) (.int a) = some (.int (7 * a)) := fun a => mulc' (by simp [W64])
  have d1 : ∀ a : Int, binD .mod (.int a) (.int 2147483647) = some (.int (a % 2147483647)) := fun a => modI (by omega)
  have d2 : ∀ a : Int, binD .fdiv (.int a) (.int 3) = some (.int (a / 3)) := fun a => divI (by omega) (by omega)
  refine ⟨((b * 16807 + 7 * a + 3) % 2147483647) / 3, ?_⟩
  simp only [e7, den, dens, val, evs, op2, varM, M.bind, M.ret, M.opt, h3, h4, m3, m4, d1, d2, addI, bF]
/-- x.append(e), x a slot -/
theorem app_ok {C : Cs} {i : Nat} {e : E} {s s' : Mp.Env} {v : D} {xs : List D} (h : (den C e).1 s = .ok v s') (hs : getS s' i = some (.lst xs)) (h0 : getS s i = some (.lst xs)) (hl : xs.length < SZ) : dS C (.ex (.mu .append i [] [e])) s = .ok .nx (setS s' i (.lst (xs ++ [v]))) := by
  simp [dS, den, dens, val, muM, evs, M.bind, M.ret, getPM, h0, getP, muOk, h, hs, muF, hl, setPM, setP]
theorem bA1 {C : Cs} {s : Option D} {m : Nat} {xs : List Int} {j : Nat} {cell : Int} {o5 o6 : Option D} {r : Mp.Env} (hx : xs.length ≤ m) (hm : m ≤ 100000) : ∃ (ys : List Int) (p6 : Option D), ys.length ≤ m ∧ dB C elseA (s :: some (.int m) :: some (.lst (xs.map .int)) :: some (.int j) :: some (.int cell) :: o5 :: o6 :: r) = .ok .nx (s :: some (.int m) :: some (.lst (ys.map .int)) :: some (.int j) :: some (.int cell) :: o5 :: p6 :: r) := by
  have hs : (xs.map D.int).length < SZ := by rw [List.length_map]; unfold SZ; omega
  have ht : (den C (.cmp .lt (.bi .len [.v 2]) (.v 1))).2 (s :: some (.int m) :: some (.lst (xs.map .int)) :: some (.int j) :: some (.int cell) :: o5 :: o6 :: r) = .ok (decide (xs.length < m)) (s :: some (.int m) :: some (.lst (xs.map .int)) :: some (.int j) :: some (.int cell) :: o5 :: o6 :: r) := by
    simp [den, dens, val, truthM, op2, varM, evs, M.bind, M.ret, M.opt, getS, bF, cmpD, ltD, D.truth]
  obtain ⟨v6, h6⟩ := e6_ok (C := C) (e := s :: some (.int m) :: some (.lst (xs.map .int)) :: some (.int j) :: some (.int cell) :: o5 :: o6 :: r) (a := j) (b := cell) rfl rfl
  obtain ⟨v7, h7⟩ := e7_ok (C := C) (e := s :: some (.int m) :: some (.lst (xs.map .int)) :: some (.int j) :: some (.int cell) :: o5 :: some (.int v6) :: r) (a := j) (b := v6) rfl rfl
  have ha := app_ok (i := 2) h7 (xs := xs.map .int) rfl rfl hs
  have hset : dS C (.set 6 e6) (s :: some (.int m) :: some (.lst (xs.map .int)) :: some (.int j) :: some (.int cell) :: o5 :: o6 :: r) = .ok .nx (s :: some (.int m) :: some (.lst (xs.map .int)) :: some (.int j) :: some (.int cell) :: o5 :: some (.int v6) :: r) := by
    rw [dS]
    unfold M.bind
    rw [h6]
    rfl
  by_cases h2 : xs.length < m
  · refine ⟨xs ++ [v7], some (.int v6), by simp; omega, ?_⟩
    show dB C [.ifs (.cmp .lt (.bi .len [.v 2]) (.v 1)) [.set 6 e6, .ex (.mu .append 2 [] [e7])] []] _ = _
    rw [dB, dS]
    unfold seqM M.bind
    rw [ht, decide_eq_true h2]
    simp only [if_true, dB, seqM, M.bind, hset, ha, M.ret]
    simp [setS]
  · refine ⟨xs, o6, hx, ?_⟩
    show dB C [.ifs (.cmp .lt (.bi .len [.v 2]) (.v 1)) [.set 6 e6, .ex (.mu .append 2 [] [e7])] []] _ = _
    rw [dB, dS]
    unfold seqM M.bind
    rw [ht, decide_eq_false h2]
    rfl
theorem bAif {C : Cs} {s : Option D} {e : Mp.Env} {cell : Int} (hc : getS e 4 = some (.int cell)) : dS C (.ifs (.cmp .ge (.v 4) (.bin .pow (.int 10) (.int 18))) [.for_ (.nm 5) .rng [.int 60] none body60] elseA) e = if cell < 1000000000000000000 then dB C elseA e else dB C [.for_ (.nm 5) .rng [.int 60] none body60] e := by
  have hb : binD .pow (.int 10) (.int 18) = some (.int 1000000000000000000) := rfl
  have h1 : (den C (.cmp .ge (.v 4) (.bin .pow (.int 10) (.int 18)))).2 e = .ok (!decide (cell < 1000000000000000000)) e := by
    simp only [den, val, truthM, op2, varM, M.bind, M.ret, M.opt, hc, hb, cmpD, ltD, D.truth, Option.map_some]
  rw [dS]
  unfold M.bind
  rw [h1]
  by_cases h : cell < 1000000000000000000
  · rw [if_pos h, decide_eq_true h]; rfl
  · rw [if_neg h, decide_eq_false h]; rfl
theorem bA {C : Cs} {ns : List Int} {m : Nat} {xs : List Int} {j : Nat} {o4 o5 o6 : Option D} {r : Mp.Env} (hj : j < ns.length) (hx : xs.length ≤ m) (hm : m ≤ 100000) : ∃ (ys : List Int) (p4 p5 p6 : Option D), ys.length ≤ m ∧ dB C bodyA (some (.rol (ns.map .int)) :: some (.int m) :: some (.lst (xs.map .int)) :: some (.int j) :: o4 :: o5 :: o6 :: r) = .ok .nx (some (.rol (ns.map .int)) :: some (.int m) :: some (.lst (ys.map .int)) :: some (.int j) :: p4 :: p5 :: p6 :: r) := by
  have h0 := bA0 (C := C) (m := m) (xs := xs) (o4 := o4) (o5 := o5) (o6 := o6) (r := r) hj
  generalize (if ns[j] < 0 then -ns[j] else ns[j]) = cell at h0
  have hif := bAif (C := C) (s := none) (e := some (.rol (ns.map .int)) :: some (.int m) :: some (.lst (xs.map .int)) :: some (.int j) :: some (.int cell) :: o5 :: o6 :: r) (cell := cell) rfl
  by_cases h1 : cell < 1000000000000000000
  · rw [if_pos h1] at hif
    obtain ⟨ys, p6, hy, e2⟩ := bA1 (C := C) (s := some (.rol (ns.map .int))) (j := j) (cell := cell) (o5 := o5) (o6 := o6) (r := r) hx hm
    exact ⟨ys, some (.int cell), o5, p6, hy, dB_cons h0 (dB_cons (hif.trans e2) dB_nil)⟩
  · rw [if_neg h1] at hif
    obtain ⟨ys, c, o5', hy, e2⟩ := loop60 (C := C) (s := some (.rol (ns.map .int))) (o3 := some (.int j)) (o5 := o5) (r := o6 :: r) (cell := cell) hx hm
    exact ⟨ys, some (.int c), o5', o6, hy, dB_cons h0 (dB_cons (hif.trans (dB_cons e2 dB_nil)) dB_nil)⟩
theorem loopA {C : Cs} {ns : List Int} {m : Nat} {o3 o4 o5 o6 : Option D} {r : Mp.Env} (hm : m ≤ 100000) (hn : ns.length ≤ 100000) : ∃ (ys : List Int) (p3 p4 p5 p6 : Option D), ys.length ≤ m ∧ dS C (.for_ (.nm 3) .rng [.bi .len [.v 0]] none bodyA) (some (.rol (ns.map .int)) :: some (.int m) :: some (.lst []) :: o3 :: o4 :: o5 :: o6 :: r) = .ok .nx (some (.rol (ns.map .int)) :: some (.int m) :: some (.lst (ys.map .int)) :: p3 :: p4 :: p5 :: p6 :: r) := by
  obtain ⟨e', f1, ys, p3, p4, p5, p6, rfl, h⟩ := for_inv (t := .nm 3) (body := dB C bodyA) (fun _ e => ∃ (ys : List Int) (p3 p4 p5 p6 : Option D), e = (some (.rol (ns.map .int)) :: some (.int m) :: some (.lst (ys.map .int)) :: p3 :: p4 :: p5 :: p6 :: r) ∧ ys.length ≤ m) (rngD 0 ns.length) 0 (some (.rol (ns.map .int)) :: some (.int m) :: some (.lst []) :: o3 :: o4 :: o5 :: o6 :: r) ⟨[], o3, o4, o5, o6, rfl, Nat.zero_le _⟩ fun j d e hj ⟨ys, p3, p4, p5, p6, he, hy⟩ => by
    subst he
    obtain ⟨hj1, rfl⟩ := rngD_get hj
    obtain ⟨zs, q4, q5, q6, hz, e2⟩ := bA (C := C) (ns := ns) (o4 := p4) (o5 := p5) (o6 := p6) (r := r) hj1 hy hm
    rw [Int.zero_add]
    exact ⟨_, rfl, _, .inl e2, zs, _, q4, q5, q6, rfl, hz⟩
  refine ⟨ys, p3, p4, p5, p6, h, ?_⟩
  rw [dS_for (as := [.int ns.length]) (ds := rngD 0 ns.length) (e1 := some (.rol (ns.map .int)) :: some (.int m) :: some (.lst []) :: o3 :: o4 :: o5 :: o6 :: r)]
  · exact f1
  · simp [dens, den, val, evs, varM, M.bind, M.ret, M.opt, getS, bF]
  · have hb : B62 ns.length = true := by unfold B62; simp; omega
    simp [itF, hb]
theorem bB {C : Cs} {s : Option D} {m : Nat} {xs : List Int} {j base : Nat} {last : Int} {o4 o5 o6 : Option D} (hb : base ≤ xs.length) (hx : xs.length < SZ) : ∃ (v l : Int), dB C bodyB (s :: some (.int m) :: some (.lst (xs.map .int)) :: some (.int j) :: o4 :: o5 :: o6 :: some (.int base) :: some (.int last) :: []) = .ok .nx (s :: some (.int m) :: some (.lst ((xs ++ [v]).map .int)) :: some (.int j) :: o4 :: o5 :: o6 :: some (.int base) :: some (.int l) :: []) := by
  have hs : (xs.map D.int).length < SZ := by rw [List.length_map]; exact hx
  have m1 : ∀ a : Int, binD .mul (.int a) (.int 48271) = some (.int (a * 48271)) := fun a => mulc (by simp [W64])
  have d1 : ∀ a : Int, binD .mod (.int a) (.int 2147483647) = some (.int (a % 2147483647)) := fun a => modI (by omega)
  have d2 : ∀ a : Int, binD .fdiv (.int a) (.int 7) = some (.int (a / 7)) := fun a => divI (by omega) (by omega)
  have h1 : ∃ l1 : Int, dS C (.ifs (.cmp .gt (.v 7) (.int 0)) [.set 8 (.bin .add (.v 8) (.ix (.v 2) (.bin .mod (.v 3) (.v 7))))] []) (s :: some (.int m) :: some (.lst (xs.map .int)) :: some (.int j) :: o4 :: o5 :: o6 :: some (.int base) :: some (.int last) :: []) = .ok .nx (s :: some (.int m) :: some (.lst (xs.map .int)) :: some (.int j) :: o4 :: o5 :: o6 :: some (.int base) :: some (.int l1) :: []) := by
    have ht : (den C (.cmp .gt (.v 7) (.int 0))).2 (s :: some (.int m) :: some (.lst (xs.map .int)) :: some (.int j) :: o4 :: o5 :: o6 :: some (.int base) :: some (.int last) :: []) = .ok (decide (0 < base)) (s :: some (.int m) :: some (.lst (xs.map .int)) :: some (.int j) :: o4 :: o5 :: o6 :: some (.int base) :: some (.int last) :: []) := by
      simp [den, val, truthM, op2, varM, M.bind, M.ret, M.opt, getS, cmpD, ltD, D.truth]
    rw [dS_if ht]
    by_cases h : 0 < base
    · rw [decide_eq_true h, if_pos rfl]
      have hlt : j % base < xs.length := Nat.lt_of_lt_of_le (Nat.mod_lt _ h) hb
      have ea : L2.atI (xs.map D.int) ((j : Int) % (base : Int)) = some (.int xs[j % base]) := by
        rw [← Int.natCast_emod]
        exact atI_map hlt
      have em : binD .mod (.int j) (.int base) = some (.int ((j : Int) % base)) := modI (by omega)
      exact ⟨last + xs[j % base], dB_cons (dS_set (d := .int (last + xs[j % base])) (e1 := s :: some (.int m) :: some (.lst (xs.map .int)) :: some (.int j) :: o4 :: o5 :: o6 :: some (.int base) :: some (.int last) :: []) (by
        simp [den, val, op2, varM, M.bind, M.opt, getS, em, ixD, ea, addI])) dB_nil⟩
    · rw [decide_eq_false h]
      exact ⟨last, by rw [if_neg Bool.false_ne_true]; exact dB_nil⟩
  obtain ⟨l1, h1⟩ := h1
  have g8 : ∀ l : Int, getS (s :: some (.int m) :: some (.lst (xs.map .int)) :: some (.int j) :: o4 :: o5 :: o6 :: some (.int base) :: some (.int l) :: []) 8 = some (.int l) := fun _ => rfl
  have g3 : ∀ l : Int, getS (s :: some (.int m) :: some (.lst (xs.map .int)) :: some (.int j) :: o4 :: o5 :: o6 :: some (.int base) :: some (.int l) :: []) 3 = some (.int j) := fun _ => rfl
  have h2 : dS C (.set 8 (.bin .mod (.bi .int [.bin .add (.bin .mul (.v 8) (.int 48271)) (.v 3)]) (.int 2147483647))) (s :: some (.int m) :: some (.lst (xs.map .int)) :: some (.int j) :: o4 :: o5 :: o6 :: some (.int base) :: some (.int l1) :: []) = .ok .nx (s :: some (.int m) :: some (.lst (xs.map .int)) :: some (.int j) :: o4 :: o5 :: o6 :: some (.int base) :: some (.int ((l1 * 48271 + j) % 2147483647)) :: []) :=
    dS_set (d := .int ((l1 * 48271 + j) % 2147483647)) (e1 := s :: some (.int m) :: some (.lst (xs.map .int)) :: some (.int j) :: o4 :: o5 :: o6 :: some (.int base) :: some (.int l1) :: []) (by
      simp only [den, dens, val, evs, op2, varM, M.bind, M.ret, M.opt, getSs, getS0, m1, d1, addI, bF, g8 l1, g3 l1])
  generalize (l1 * 48271 + (j : Int)) % 2147483647 = l2 at h2
  have h3 := app_ok (C := C) (i := 2) (e := .bin .fdiv (.v 8) (.int 7)) (s := s :: some (.int m) :: some (.lst (xs.map .int)) :: some (.int j) :: o4 :: o5 :: o6 :: some (.int base) :: some (.int l2) :: []) (s' := s :: some (.int m) :: some (.lst (xs.map .int)) :: some (.int j) :: o4 :: o5 :: o6 :: some (.int base) :: some (.int l2) :: []) (v := .int (l2 / 7)) (xs := xs.map .int) (by
      simp only [den, val, op2, varM, M.bind, M.ret, M.opt, d2, g8 l2]) rfl rfl hs
  refine ⟨l2 / 7, l2, dB_cons h1 (dB_cons h2 (dB_cons (h3.trans ?_) dB_nil))⟩
  simp [setS]
theorem loopB {C : Cs} {s : Option D} {m : Nat} {xs : List Int} {last : Int} {o3 o4 o5 o6 : Option D} (hx : xs.length ≤ m) (hm : m ≤ 100000) : ∃ (ys : List Int) (p3 : Option D) (l : Int), ys.length = m ∧ dS C (.for_ (.nm 3) .rng [.bi .max2 [.int 0, .bin .sub (.v 1) (.v 7)]] none bodyB) (s :: some (.int m) :: some (.lst (xs.map .int)) :: o3 :: o4 :: o5 :: o6 :: some (.int xs.length) :: some (.int last) :: []) = .ok .nx (s :: some (.int m) :: some (.lst (ys.map .int)) :: p3 :: o4 :: o5 :: o6 :: some (.int xs.length) :: some (.int l) :: []) := by
  obtain ⟨e', f1, ys, p3, l, rfl, h⟩ := for_inv (t := .nm 3) (body := dB C bodyB) (fun k e => ∃ (ys : List Int) (p3 : Option D) (l : Int), e = (s :: some (.int m) :: some (.lst (ys.map .int)) :: p3 :: o4 :: o5 :: o6 :: some (.int xs.length) :: some (.int l) :: []) ∧ ys.length = xs.length + k) (rngD 0 (m - xs.length)) 0 (s :: some (.int m) :: some (.lst (xs.map .int)) :: o3 :: o4 :: o5 :: o6 :: some (.int xs.length) :: some (.int last) :: []) ⟨xs, o3, last, rfl, rfl⟩ fun j d e hj ⟨ys, p3, l, he, hy⟩ => by
    subst he
    obtain ⟨hj1, rfl⟩ := rngD_get hj
    obtain ⟨v, l', e2⟩ := bB (C := C) (s := s) (m := m) (xs := ys) (j := j) (base := xs.length) (last := l) (o4 := o4) (o5 := o5) (o6 := o6) (by omega) (by unfold SZ; omega)
    rw [Int.zero_add]
    exact ⟨_, rfl, _, .inl e2, ys ++ [v], _, l', rfl, by simp; omega⟩
  rw [rngD_len] at h
  refine ⟨ys, p3, l, by omega, ?_⟩
  rw [dS_for (as := [.int ((m - xs.length : Nat) : Int)]) (ds := rngD 0 (m - xs.length)) (e1 := s :: some (.int m) :: some (.lst (xs.map .int)) :: o3 :: o4 :: o5 :: o6 :: some (.int xs.length) :: some (.int last) :: [])]
  · exact f1
  · have e0 : (if (m : Int) - (xs.length : Int) > 0 then (m : Int) - (xs.length : Int) else 0) = ((m - xs.length : Nat) : Int) := by split <;> omega
    have g1 : getS (s :: some (.int m) :: some (.lst (xs.map .int)) :: o3 :: o4 :: o5 :: o6 :: some (.int xs.length) :: some (.int last) :: []) 1 = some (.int m) := rfl
    have g7 : getS (s :: some (.int m) :: some (.lst (xs.map .int)) :: o3 :: o4 :: o5 :: o6 :: some (.int xs.length) :: some (.int last) :: []) 7 = some (.int xs.length) := rfl
    simp only [dens, den, val, evs, op2, varM, M.bind, M.ret, M.opt, g1, g7, bF, binD, e0]
  · have hb : B62 ((m - xs.length : Nat) : Int) = true := by unfold B62; simp; omega
    simp only [itF, hb, if_true, Int.toNat_natCast]
theorem numbers_body {C : Cs} {ns : List Int} {m : Nat} (hm : m ≤ 100000) (hn : ns.length ≤ 100000) : ∃ (xs : List Int) (e : Mp.Env), xs.length = m ∧ dB C b__law_numbers (some (.rol (ns.map .int)) :: some (.int m) :: List.replicate 7 none) = .ok (.rt (.lst (xs.map .int))) e := by
  obtain ⟨ys, p3, p4, p5, p6, hy, hA⟩ := loopA (C := C) (ns := ns) (o3 := none) (o4 := none) (o5 := none) (o6 := none) (r := [none, none]) hm hn
  obtain ⟨zs, q3, l, hz, hB⟩ := loopB (C := C) (s := some (.rol (ns.map .int))) (xs := ys) (last := 5381 + ns.length) (o3 := p3) (o4 := p4) (o5 := p5) (o6 := p6) hy hm
  refine ⟨zs, _, hz, dB_cons (dS_set (d := .lst []) (e1 := some (.rol (ns.map .int)) :: some (.int m) :: List.replicate 7 none) rfl) (dB_cons hA (dB_cons (dS_set (d := .int ys.length) (e1 := some (.rol (ns.map .int)) :: some (.int m) :: some (.lst (ys.map .int)) :: p3 :: p4 :: p5 :: p6 :: [none, none]) ?_) (dB_cons (dS_set (d := .int (5381 + ns.length)) (e1 := some (.rol (ns.map .int)) :: some (.int m) :: some (.lst (ys.map .int)) :: p3 :: p4 :: p5 :: p6 :: [some (.int ys.length), none]) ?_) (dB_cons hB (dB_ret (dS_ret (d := .lst (zs.map .int)) (e1 := some (.rol (ns.map .int)) :: some (.int m) :: some (.lst (zs.map .int)) :: q3 :: p4 :: p5 :: p6 :: some (.int ys.length) :: some (.int l) :: []) ?_))))))⟩
  · simp [den, dens, val, evs, varM, M.bind, M.ret, M.opt, getS, bF]
  · simp [den, dens, val, evs, op2, varM, M.bind, M.ret, M.opt, getS, setS, bF, addI]
  · have hc : cutD (zs.map D.int) none (some (m : Int)) = zs.map D.int := by
      unfold cutD
      have h1 : HT.sIx (zs.map D.int).length 0 none = 0 := rfl
      have h2 : HT.sIx (zs.map D.int).length (zs.map D.int).length (some (m : Int)) = m := by
        rw [HT.sIx_nat, List.length_map, hz, Nat.min_self]
      rw [h1, h2]
      rw [List.drop_zero, Nat.sub_zero]
      exact List.take_of_length_le (by rw [List.length_map, hz]; exact Nat.le_refl m)
    have g2 : getS (some (.rol (ns.map .int)) :: some (.int m) :: some (.lst (zs.map .int)) :: q3 :: p4 :: p5 :: p6 :: some (.int ys.length) :: some (.int l) :: []) 2 = some (.lst (zs.map .int)) := rfl
    have g1 : getS (some (.rol (ns.map .int)) :: some (.int m) :: some (.lst (zs.map .int)) :: q3 :: p4 :: p5 :: p6 :: some (.int ys.length) :: some (.int l) :: []) 1 = some (.int m) := rfl
    simp only [den, dens, val, partM, varM, M.bind, M.ret, M.opt, g1, g2, slD, hc]
end Lw
namespace Lw
open PySem PySem.Spec PyProof.Rows L2 Mp
def top (i : Nat) : Stmt := PySem.Challenge.pw_doppelganger_k15_operators.main.body.getD i (.Pass ⟨0, 0, 0, 0⟩)
def dfn (x : Str) (i : Nat) : He.DefD := ⟨(x, none), x, x, defArgs (top i), defBody (top i), defScope (top i), [], []⟩
def b_operate : List Mp.S := [
  .ifs (.cmp .eq (.v 0) (.str "add")) [
    .ret (.bin .mod (.bin .add (.v 1) (.v 2)) (.g "WIDTH"))] [],
  .ifs (.cmp .eq (.v 0) (.str "sub")) [
    .ret (.bin .mod (.bin .sub (.v 1) (.v 2)) (.g "WIDTH"))] [],
  .ifs (.cmp .eq (.v 0) (.str "mul")) [
    .ret (.bin .mod (.bin .mul (.v 1) (.v 2)) (.g "WIDTH"))] [],
  .ifs (.cmp .eq (.v 0) (.str "equal")) [
    .ret (.bi .int [.cmp .eq (.v 1) (.v 2)])] [],
  .ifs (.cmp .eq (.v 0) (.str "less")) [
    .ret (.bi .int [.cmp .lt (.v 1) (.v 2)])] [],
  .raise "NotAllowed"]
def f_operate : Fd := ⟨dfn "operate" 7, ["kind", "first", "second"], ["kind", "first", "second"], .fr, b_operate⟩
def f__law_numbers : Fd := ⟨dfn "_law_numbers" 9, ["_law_script", "_law_many", "_law_numbers_here", "_law_k", "_law_cell", "_law_j", "_law_mixed", "_law_base", "_law_last"], ["_law_script", "_law_many"], .fr, b__law_numbers⟩
def b__law_due : List Mp.S := [
  .ifs (.cmp .eq (.v 0) (.str "equal")) [
    .ret (.bi .int [.cmp .eq (.v 1) (.v 2)])] [],
  .ifs (.cmp .eq (.v 0) (.str "less")) [
    .ret (.bi .int [.cmp .lt (.v 1) (.v 2)])] [],
  .ret (.bin .mod (.bi .int [.ix (.lst [.bin .add (.v 1) (.v 2), .bin .sub (.v 1) (.v 2), .bin .mul (.v 1) (.v 2)]) (.me .index (.lst [.str "add", .str "sub", .str "mul"]) [.v 0])]) (.int 3))]
def f__law_due : Fd := ⟨dfn "_law_due" 10, ["_law_kind", "_law_first", "_law_second"], ["_law_kind", "_law_first", "_law_second"], .fr, b__law_due⟩
def b__law_refused : List Mp.S := [
  .try_ (Mp.allFr 2) [
    .ex (.call "operate" [.v 0, .int 1, .int 2])] (.hd ["DoppelError"] (some 1) [
    .ret (.and [.isi (.v 1) [.exc "NotAllowed"], .isi (.v 1) [.exc "ValueError"], .not (.isi (.v 1) [.exc "TooLarge"])])] .hn),
  .ret (.bl false)]
def f__law_refused : Fd := ⟨dfn "_law_refused" 11, ["_law_kind", "e"], ["_law_kind"], .fr, b__law_refused⟩
def b_law : List Mp.S := [
  .set 1 (.call "_law_numbers" [.v 0, .int 4]),
  .for_ (.nm 2) .seq [.lst [.str "add", .str "sub", .str "mul", .str "equal", .str "less"]] none [
    .for_ (.nm 3) .rng [.int 3] none [
      .for_ (.nm 4) .rng [.int 3] none [
        .set 5 (.call "operate" [.v 2, .v 3, .v 4]),
        .ifs (.or [.not (.isi (.v 5) [.int]), .isi (.v 5) [.bool], .cmp .ne (.v 5) (.call "_law_due" [.v 2, .v 3, .v 4])]) [
          .ret (.bl false)] []]]],
  .set 6 (.lst [.str "", .str "Add", .str "if", .str "num", .str "seq", .str "addd", .str "ad", .str "equals", .str "less ", .str "+"]),
  .ret (.and [.call "_law_refused" [.ix (.v 6) (.bin .mod (.ix (.v 1) (.int 0)) (.int 10))], .cmp .eq (.lst [.g "WIDTH", .g "MAX_STEPS"]) (.lst [.int 3, .int 20000])])]
def f_law : Fd := ⟨dfn "law" 12, ["_law_script", "_law_numbers_here", "_law_kind", "_law_first", "_law_second", "_law_told", "_law_words"], ["_law_script"], .fr, b_law⟩
def P : Pg := ⟨[f_operate, f__law_numbers, f__law_due, f__law_refused, f_law], [("WIDTH", .int 3), ("MAX_STEPS", .int 20000)], ["DoppelError", "NotAllowed", "TooLarge"], [("DoppelError", "DoppelError"), ("DoppelError", "ValueError"), ("NotAllowed", "NotAllowed"), ("NotAllowed", "DoppelError"), ("NotAllowed", "ValueError"), ("TooLarge", "TooLarge"), ("TooLarge", "DoppelError"), ("TooLarge", "ValueError")]⟩
theorem bd_operate : BindOk f_operate := fun _ _ _ _ _ _ us hl => match us, hl with | [_, _, _], _ => rfl
theorem bd__law_numbers : BindOk f__law_numbers := fun _ _ _ _ _ _ us hl => match us, hl with | [_, _], _ => rfl
theorem bd__law_due : BindOk f__law_due := fun _ _ _ _ _ _ us hl => match us, hl with | [_, _, _], _ => rfl
theorem bd__law_refused : BindOk f__law_refused := fun _ _ _ _ _ _ us hl => match us, hl with | [_], _ => rfl
theorem bd_law : BindOk f_law := fun _ _ _ _ _ _ us hl => match us, hl with | [_], _ => rfl
theorem bds : ∀ F ∈ P.fs, BindOk F := by
  intro F hF
  simp only [P, List.mem_cons, List.not_mem_nil, or_false] at hF
  rcases hF with rfl | rfl | rfl | rfl | rfl
  · exact bd_operate
  · exact bd__law_numbers
  · exact bd__law_due
  · exact bd__law_refused
  · exact bd_law

abbrev C3 : Cs := P.cs_ 3
def loopK : Mp.S := .for_ (.nm 2) .seq [.lst [.str "add", .str "sub", .str "mul", .str "equal", .str "less"]] none [
    .for_ (.nm 3) .rng [.int 3] none [
      .for_ (.nm 4) .rng [.int 3] none [
        .set 5 (.call "operate" [.v 2, .v 3, .v 4]),
        .ifs (.or [.not (.isi (.v 5) [.int]), .isi (.v 5) [.bool], .cmp .ne (.v 5) (.call "_law_due" [.v 2, .v 3, .v 4])]) [
          .ret (.bl false)] []]]]
theorem lk (a b : Option D) : dS C3 loopK [a, b, none, none, none, none, none] = .ok .nx [a, b, some (.str "less"), some (.int 2), some (.int 2), some (.int 0), none] := by
  kernel_rfl
def wordsK : List D := [.str "", .str "Add", .str "if", .str "num", .str "seq", .str "addd", .str "ad", .str "equals", .str "less ", .str "+"]
theorem rf0 : ∀ w, w ∈ wordsK → P.call 3 "_law_refused" [w] = .ok (.bl true) [w] := by
  intro w hw
  simp only [wordsK, List.mem_cons, List.not_mem_nil, or_false] at hw
  rcases hw with rfl | rfl | rfl | rfl | rfl | rfl | rfl | rfl | rfl | rfl
  all_goals kernel_rfl
theorem cs_cl {P : Pg} {n : Nat} : (P.cs_ n).cl = P.call n := rfl
theorem P_numbers {k n m : Nat} {ns : List Int} (hk : k = n + 1) (hm : m ≤ 100000) (hn : ns.length ≤ 63) : ∃ (xs : List Int) (ls : List D), xs.length = m ∧ P.call k "_law_numbers" [.rol (ns.map .int), .int m] = .ok (.lst (xs.map .int)) ls := by
  subst hk
  have hf : P.find f__law_numbers.d.name = some f__law_numbers := by kernel_rfl
  obtain ⟨xs, e, hx, h⟩ := numbers_body (C := P.cs_ n) (ns := ns) (m := m) hm (by omega)
  obtain ⟨ls, hc⟩ := call_rt (n := n) (ds := [.rol (ns.map .int), .int m]) (e := e) hf rfl h
  exact ⟨xs, ls, hx, hc⟩
/-- a call whose arguments are there -/
theorem den_call {C : Cs} {f : Str} {es : List E} {e : Mp.Env} {ds : List D} {r : D} {ls : List D} (h : evs (dens C es) e = .ok ds e) (hl : es.all noLn = true) (hc : C.cl f ds = .ok r ls) : (den C (.call f es)).1 e = .ok r e := by
  simp only [den, val, callM, h, hc]
  rw [wb_none hl]
theorem t1 {C : Cs} {s : D} {ls : List D} {r : D} (h1 : C.cl "_law_numbers" [s, .int 4] = .ok r ls) : dS C (.set 1 (.call "_law_numbers" [.v 0, .int 4])) [some s, none, none, none, none, none, none] = .ok .nx [some s, some r, none, none, none, none, none] :=
  dS_set (d := r) (e1 := [some s, none, none, none, none, none, none]) (den_call rfl rfl h1)
theorem t2 (a : Int) : ∃ w, w ∈ wordsK ∧ ixD (.lst wordsK) (.int (a % 10)) = some w := by
      have h0 : 0 ≤ a % 10 := Int.emod_nonneg _ (by decide)
      have h9 : a % 10 < 10 := Int.emod_lt_of_pos _ (by decide)
      obtain ⟨k, hk⟩ := Int.eq_ofNat_of_zero_le h0
      have hk10 : k < wordsK.length := by
        show k < 10
        omega
      refine ⟨wordsK[k], List.getElem_mem hk10, ?_⟩
      rw [hk]
      exact atI_nat hk10
theorem t3 {ns : List Int} {a b c d : Int} : dS C3 (.set 6 (.lst [.str "", .str "Add", .str "if", .str "num", .str "seq", .str "addd", .str "ad", .str "equals", .str "less ", .str "+"])) [some (.rol (ns.map .int)), some (.lst ([a, b, c, d].map .int)), some (.str "less"), some (.int 2), some (.int 2), some (.int 0), none] = .ok .nx [some (.rol (ns.map .int)), some (.lst ([a, b, c, d].map .int)), some (.str "less"), some (.int 2), some (.int 2), some (.int 0), some (.lst wordsK)] :=
      dS_set (d := .lst wordsK) (e1 := [some (.rol (ns.map .int)), some (.lst ([a, b, c, d].map .int)), some (.str "less"), some (.int 2), some (.int 2), some (.int 0), none]) rfl
theorem t5 {env : Mp.Env} : (den C3 (.cmp .eq (.lst [.g "WIDTH", .g "MAX_STEPS"]) (.lst [.int 3, .int 20000]))).1 env = .ok (.bl true) env := by kernel_rfl
theorem t4 {C : Cs} {w : D} {a b c d : Int} (h2 : C.cl "_law_refused" [w] = .ok (.bl true) [w]) (hw2 : ixD (.lst wordsK) (.int (a % 10)) = some w) (env : Mp.Env) (g1 : getS env 1 = some (.lst ([a, b, c, d].map .int))) (g6 : getS env 6 = some (.lst wordsK)) : (den C (.call "_law_refused" [.ix (.v 6) (.bin .mod (.ix (.v 1) (.int 0)) (.int 10))])).1 env = .ok (.bl true) env := by
  refine den_call (ds := [w]) ?_ rfl h2
  have i0 : ixD (.lst ([a, b, c, d].map .int)) (.int 0) = some (.int a) := rfl
  have m0 : binD .mod (.int a) (.int 10) = some (.int (a % 10)) := modI (by omega)
  simp only [den, dens, val, evs, op2, varM, M.bind, M.ret, M.opt, g1, g6, i0, m0, hw2]
theorem t6 {C : Cs} {x y : E} {env : Mp.Env} {r : D} (e1 : (den C x).1 env = .ok (.bl true) env) (e2 : (den C y).1 env = .ok r env) : (den C (.and [x, y])).1 env = .ok r env := by
  simp only [den, dens, andV, M.bind, e1, e2]
theorem hB {ns : List Int} {ls : List D} {a b c d : Int} {w : D} (h1 : P.call 3 "_law_numbers" [.rol (ns.map .int), .int 4] = .ok (.lst ([a, b, c, d].map .int)) ls) (h2 : P.call 3 "_law_refused" [w] = .ok (.bl true) [w]) (hw : ixD (.lst wordsK) (.int (a % 10)) = some w) :
    dB C3 b_law [some (.rol (ns.map .int)), none, none, none, none, none, none] = .ok (.rt (.bl true)) [some (.rol (ns.map .int)), some (.lst ([a, b, c, d].map .int)), some (.str "less"), some (.int 2), some (.int 2), some (.int 0), some (.lst wordsK)] := by
  unfold b_law
  exact dB_cons (t1 ((congrFun (congrFun cs_cl _) _).trans h1)) (dB_cons (lk _ _) (dB_cons t3 (dB_ret (dS_ret (t6 (t4 (a := a) (b := b) (c := c) (d := d) ((congrFun (congrFun cs_cl _) _).trans h2) hw _ rfl rfl) t5)))))
theorem law15 (ns : List Int) (hn : ns.length ≤ 63) : ∃ ls, P.call 4 f_law.d.name [.rol (ns.map .int)] = .ok (.bl true) ls := by
  have hf : P.find f_law.d.name = some f_law := by kernel_rfl
  obtain ⟨xs, ls, hx, h1⟩ := P_numbers (k := 3) (n := 2) (m := 4) (ns := ns) rfl (by omega) hn
  match xs, hx, h1 with
  | [a, b, c, d], _, h1 =>
    obtain ⟨w, hw1, hw2⟩ := t2 a
    exact call_rt (n := 3) (F := f_law) (ds := [.rol (ns.map .int)]) hf rfl (hB h1 (rf0 w hw1) hw2)
end Lw
namespace Lw
open PySem Mp
theorem pok : P.ok = true := by decide +kernel
theorem pnd : (P.fs.map fun F => F.d.name).Nodup := by decide +kernel
abbrev Rr : PySem.W.OpenRow := PySem.W.OpenLaw.row PySem.Challenge.rw_doppelganger_k15_operators
abbrev hk : PySem.W.Hook := He.hookX 4 [] (P.fs.map Fd.d) [] [] P.factB
def ob (s : PySem.W.SharedT) : He.AlX := He.obsX 4 [] (P.fs.map Fd.d) [] [] P.factB (HandSHeadRun.getT s)
theorem ob_eq (s : PySem.W.SharedT) : ob s = hk.obs s.abs := He.obsX_eq (HandSHeadRun.getT_eq s)
abbrev loose : List Str := ["__name__", "DoppelError", "NotAllowed", "TooLarge", "WIDTH", "MAX_STEPS", "operate", "_law_numbers", "_law_due", "_law_refused"]
theorem run (w : World) : HandSHeadRun.RunEq Rr (PySem.W.view Rr.prog [12]) hk ob 4000 loose w := by
  intro os
  kernel_rfl
end Lw
open PySem PySem.W PySem.Calls PyProof.Rows
theorem PySem.Challenge.cw_doppelganger_k15_operators_holds : PySem.Challenge.rw_doppelganger_k15_operators.Holds := by
  w_on; o_law
  refine HandSHeadRun.head_any (r := OpenLaw.row PySem.Challenge.rw_doppelganger_k15_operators) (q := view (OpenLaw.row PySem.Challenge.rw_doppelganger_k15_operators).prog [12]) (H := Lw.hk) (ob := Lw.ob) (M := 4000) (loose := Lw.loose) (d := HandSHeadRun.topDef (OpenLaw.row PySem.Challenge.rw_doppelganger_k15_operators).prog 12) (kwd := []) Lw.ob_eq
    (by kernel_rfl) (fun s => by kernel_rfl) Lw.run (by kernel_rfl) (by kernel_rfl) (by kernel_rfl) (by rfl) (by first | assumption | decide +kernel) (by decide +kernel) ⟨rfl, rfl, rfl, rfl, rfl, by decide +kernel⟩ ?hw ?hc
  case hw => w_witness2
  case hc =>
    exact Mp.law_end (l := PySem.Challenge.rw_doppelganger_k15_operators) (n := 63) (k := 4) (P := Lw.P) (L := Lw.f_law) (x := "_law_script") rfl (by decide) (by kernel_rfl) ⟨rfl, by decide, by decide⟩ (by kernel_rfl) (by simp [Lw.P]) rfl Lw.pok Lw.pnd Lw.bds Lw.law15
