import PyProof.Rows.All
import Wide.All
import OpenK.AllK
import Wide.FinOn
import HandS.ForMost
import HandS.ExcOwn
import HandS.HeadHook2
import HandS.HeadEnd
import HandS.Head2
import HandS.TupAny
import HandS.TupMul
import HandS.TupLe
import HandS.Deep
import HandS.Codes
import HandS.IsInst
import HandS.SortInts
import HandS.SortOrd
import HandS.Flow
import HandS.TupLen
import HandS.WordsDict
import HandS.Text
import HandS.Iter
import HandS.ExcIs
import HandS.TryOnly
import KE.GoesMore
import PyProof.EnumMake
import HandS.Comp
import HandS.WordsExc
import HandS.More
import HandS.Small
import HandS.HeadHook3
import HandS.HeadHook4
import HandS.EndBits
import PySem.Challenge.RW_doppelganger_k26_machines_checked
set_option Elab.async false
set_option linter.all false
set_option maxRecDepth 100000
set_option maxHeartbeats 0
/-! Mp1: data as trees, a small language of programs over them, what it does. -/
namespace Mp
open PySem

/-! ### data -/
inductive D where
  | non
  | bl (b : Bool)
  | int (i : Int)
  | str (x : Str)
  | tup (xs : List D)
  | lst (xs : List D)
  | rol (xs : List D)
  | dct (t : Bool) (ks vs : List D)
  | exc (c : Str)

instance : Inhabited D := ⟨.non⟩

mutual
def D.beq : D → D → Bool
  | .non, .non => true
  | .bl a, .bl b => a == b
  | .int a, .int b => decide (a = b)
  | .str a, .str b => decide (a = b)
  | .tup a, .tup b => D.beqs a b
  | .lst a, .lst b => D.beqs a b
  | .rol a, .rol b => D.beqs a b
  | .dct t a c, .dct u b d => (t == u) && (D.beqs a b && D.beqs c d)
  | .exc a, .exc b => decide (a = b)
  | _, _ => false
def D.beqs : List D → List D → Bool
  | [], [] => true
  | x :: xs, y :: ys => D.beq x y && D.beqs xs ys
  | _, _ => false
end
mutual
theorem D.beq_eq : ∀ {a b : D}, D.beq a b = true → a = b
  | .non, .non, _ => rfl
  | .bl a, .bl b, h => by simp [D.beq] at h; rw [h]
  | .int a, .int b, h => by simp [D.beq] at h; rw [h]
  | .str a, .str b, h => by simp [D.beq] at h; rw [h]
  | .exc a, .exc b, h => by simp [D.beq] at h; rw [h]
  | .tup a, .tup b, h => by simp [D.beq] at h; rw [D.beqs_eq h]
  | .lst a, .lst b, h => by simp [D.beq] at h; rw [D.beqs_eq h]
  | .rol a, .rol b, h => by simp [D.beq] at h; rw [D.beqs_eq h]
  | .dct t a c, .dct u b d, h => by simp [D.beq] at h; rw [h.1, D.beqs_eq h.2.1, D.beqs_eq h.2.2]
  | .non, .bl _, h => by simp [D.beq] at h
  | .non, .int _, h => by simp [D.beq] at h
  | .non, .str _, h => by simp [D.beq] at h
  | .non, .tup _, h => by simp [D.beq] at h
  | .non, .lst _, h => by simp [D.beq] at h
  | .non, .rol _, h => by simp [D.beq] at h
  | .non, .dct _ _ _, h => by simp [D.beq] at h
  | .non, .exc _, h => by simp [D.beq] at h
  | .bl _, .non, h => by simp [D.beq] at h
  | .bl _, .int _, h => by simp [D.beq] at h
  | .bl _, .str _, h => by simp [D.beq] at h
  | .bl _, .tup _, h => by simp [D.beq] at h
  | .bl _, .lst _, h => by simp [D.beq] at h
  | .bl _, .rol _, h => by simp [D.beq] at h
  | .bl _, .dct _ _ _, h => by simp [D.beq] at h
  | .bl _, .exc _, h => by simp [D.beq] at h
  | .int _, .non, h => by simp [D.beq] at h
  | .int _, .bl _, h => by simp [D.beq] at h
  | .int _, .str _, h => by simp [D.beq] at h
  | .int _, .tup _, h => by simp [D.beq] at h
  | .int _, .lst _, h => by simp [D.beq] at h
  | .int _, .rol _, h => by simp [D.beq] at h
  | .int _, .dct _ _ _, h => by simp [D.beq] at h
  | .int _, .exc _, h => by simp [D.beq] at h
  | .str _, .non, h => by simp [D.beq] at h
  | .str _, .bl _, h => by simp [D.beq] at h
  | .str _, .int _, h => by simp [D.beq] at h
  | .str _, .tup _, h => by simp [D.beq] at h
  | .str _, .lst _, h => by simp [D.beq] at h
  | .str _, .rol _, h => by simp [D.beq] at h
  | .str _, .dct _ _ _, h => by simp [D.beq] at h
  | .str _, .exc _, h => by simp [D.beq] at h
  | .tup _, .non, h => by simp [D.beq] at h
  | .tup _, .bl _, h => by simp [D.beq] at h
  | .tup _, .int _, h => by simp [D.beq] at h
  | .tup _, .str _, h => by simp [D.beq] at h
  | .tup _, .lst _, h => by simp [D.beq] at h
  | .tup _, .rol _, h => by simp [D.beq] at h
  | .tup _, .dct _ _ _, h => by simp [D.beq] at h
  | .tup _, .exc _, h => by simp [D.beq] at h
  | .lst _, .non, h => by simp [D.beq] at h
  | .lst _, .bl _, h => by simp [D.beq] at h
  | .lst _, .int _, h => by simp [D.beq] at h
  | .lst _, .str _, h => by simp [D.beq] at h
  | .lst _, .tup _, h => by simp [D.beq] at h
  | .lst _, .rol _, h => by simp [D.beq] at h
  | .lst _, .dct _ _ _, h => by simp [D.beq] at h
  | .lst _, .exc _, h => by simp [D.beq] at h
  | .rol _, .non, h => by simp [D.beq] at h
  | .rol _, .bl _, h => by simp [D.beq] at h
  | .rol _, .int _, h => by simp [D.beq] at h
  | .rol _, .str _, h => by simp [D.beq] at h
  | .rol _, .tup _, h => by simp [D.beq] at h
  | .rol _, .lst _, h => by simp [D.beq] at h
  | .rol _, .dct _ _ _, h => by simp [D.beq] at h
  | .rol _, .exc _, h => by simp [D.beq] at h
  | .dct _ _ _, .non, h => by simp [D.beq] at h
  | .dct _ _ _, .bl _, h => by simp [D.beq] at h
  | .dct _ _ _, .int _, h => by simp [D.beq] at h
  | .dct _ _ _, .str _, h => by simp [D.beq] at h
  | .dct _ _ _, .tup _, h => by simp [D.beq] at h
  | .dct _ _ _, .lst _, h => by simp [D.beq] at h
  | .dct _ _ _, .rol _, h => by simp [D.beq] at h
  | .dct _ _ _, .exc _, h => by simp [D.beq] at h
  | .exc _, .non, h => by simp [D.beq] at h
  | .exc _, .bl _, h => by simp [D.beq] at h
  | .exc _, .int _, h => by simp [D.beq] at h
  | .exc _, .str _, h => by simp [D.beq] at h
  | .exc _, .tup _, h => by simp [D.beq] at h
  | .exc _, .lst _, h => by simp [D.beq] at h
  | .exc _, .rol _, h => by simp [D.beq] at h
  | .exc _, .dct _ _ _, h => by simp [D.beq] at h
theorem D.beqs_eq : ∀ {a b : List D}, D.beqs a b = true → a = b
  | [], [], _ => rfl
  | x :: xs, y :: ys, h => by simp [D.beqs] at h; rw [D.beq_eq h.1, D.beqs_eq h.2]
  | [], _ :: _, h => by simp [D.beqs] at h
  | _ :: _, [], h => by simp [D.beqs] at h
end
mutual
theorem D.beq_refl : ∀ a : D, D.beq a a = true
  | .non => rfl
  | .bl a => by simp [D.beq]
  | .int a => by simp [D.beq]
  | .str a => by simp [D.beq]
  | .tup a => by simp [D.beq, D.beqs_refl a]
  | .lst a => by simp [D.beq, D.beqs_refl a]
  | .rol a => by simp [D.beq, D.beqs_refl a]
  | .dct t a b => by simp [D.beq, D.beqs_refl a, D.beqs_refl b]
  | .exc a => by simp [D.beq]
theorem D.beqs_refl : ∀ a : List D, D.beqs a a = true
  | [] => rfl
  | x :: xs => by simp [D.beqs, D.beq_refl x, D.beqs_refl xs]
end
theorem D.beq_iff {a b : D} : D.beq a b = true ↔ a = b := ⟨D.beq_eq, fun e => e ▸ D.beq_refl a⟩
instance : DecidableEq D := fun a b => if h : D.beq a b = true then .isTrue (D.beq_eq h) else .isFalse fun e => h (D.beq_iff.mpr e)

/-! ### results -/
abbrev Env := List (Option D)
inductive R (α : Type) where
  | ok (a : α) (e : Env)
  | ex (c : Str) (e : Env)
  | no
abbrev M (α : Type) := Env → R α
def M.bind {α β : Type} (f : M α) (g : α → M β) : M β := fun e => match f e with
  | .ok a e' => g a e'
  | .ex c e' => .ex c e'
  | .no => .no
def M.ret {α : Type} (a : α) : M α := fun e => .ok a e
def M.opt {α : Type} (o : Option α) : M α := fun e => match o with
  | some a => .ok a e
  | none => .no

/-! ### what the operators give -/
def SZ : Nat := 16777216
def D.truth : D → Option Bool
  | .non => some false
  | .bl b => some b
  | .int i => some (i != 0)
  | .str x => if x.length ≤ SZ then some ((x.length : Int) != 0) else none
  | .tup xs => some (!xs.isEmpty)
  | .lst xs => some (!xs.isEmpty)
  | .rol xs => some (!xs.isEmpty)
  | .dct false ks _ => some (!ks.isEmpty)
  | .dct true _ _ => none
  | .exc _ => none

mutual
def D.toP : D → PyData
  | .non => .none
  | .bl b => .bool b
  | .int i => .int i
  | .str x => .str x
  | .tup xs => .tuple (D.toPs xs)
  | .lst xs => .list (D.toPs xs)
  | .rol _ => .dict []
  | .dct _ _ _ => .dict []
  | .exc _ => .dict []
def D.toPs : List D → List PyData
  | [] => []
  | x :: xs => D.toP x :: D.toPs xs
end
/-- may be compared by == -/
def D.shp (d : D) : Bool := SeqAt.shaped d.toP
def eqD (a b : D) : Option Bool := if a.shp && b.shp then some (PyData.eqv a.toP b.toP) else none

def W64 (i : Int) : Bool := decide (i.natAbs < 18446744073709551616)
def B62 (i : Int) : Bool := decide (i.natAbs < 4611686018427387904)

inductive BO where | add | sub | mul | fdiv | mod | pow
  deriving DecidableEq
def addD : D → D → Option D
  | .int a, .int b => some (.int (a + b))
  | .str a, .str b => if a.length + b.length ≤ SZ then some (.str (a ++ b)) else none
  | .lst a, .lst b => if a.length + b.length ≤ SZ then some (.lst (a ++ b)) else none
  | .tup a, .tup b => if a.length + b.length ≤ SZ then some (.tup (a ++ b)) else none
  | _, _ => none
def binD : BO → D → D → Option D
  | .add, a, b => addD a b
  | .sub, .int a, .int b => some (.int (a - b))
  | .mul, .int a, .int b => if W64 a || W64 b then some (.int (a * b)) else none
  | .mul, .tup xs, .int k => if k = 1 then some (.tup xs) else none
  | .mul, .lst xs, .int k => if B62 k && decide (xs.length * k.toNat ≤ SZ) then some (.lst (List.replicate k.toNat xs).flatten) else none
  | .fdiv, .int a, .int b => if 0 < b ∧ b < 1073741824 then some (.int (a / b)) else none
  | .mod, .int a, .int b => if 0 < b then some (.int (a % b)) else none
  | .pow, .int a, .int b => if 0 ≤ b ∧ b ≤ 1000 ∧ a.natAbs < 2 ^ 32 then some (.int (a ^ b.toNat)) else none
  | _, _, _ => none

def ltS (a b : Str) : Bool := decide (a.cps.toList < b.cps.toList)
/-- tuples of ints -/
def D.ints : List D → Option (List Int)
  | [] => some []
  | .int i :: r => (D.ints r).map (i :: ·)
  | _ :: _ => none
def D.strs : List D → Option (List Str)
  | [] => some []
  | .str i :: r => (D.strs r).map (i :: ·)
  | _ :: _ => none
def ltD : D → D → Option Bool
  | .int a, .int b => some (decide (a < b))
  | .str a, .str b => some (ltS a b)
  | .tup a, .tup b => match D.ints a, D.ints b with
    | some x, some y => some (HT.lexLt x y)
    | _, _ => none
  | _, _ => none

/-! ### comparisons -/
/-- x += y: whole numbers -/
def augD (o : BO) : D → D → Option D
  | .int a, .int b => binD o (.int a) (.int b)
  | _, _ => none
inductive CO where | eq | ne | lt | le | gt | ge | isn | isnn | in_ | nin
  deriving DecidableEq
/-- a key: an int, a text; a tuple of these -/
def D.flat : D → Bool
  | .int _ => true
  | .str _ => true
  | _ => false
def keyD : Bool → D → Bool
  | false, d => d.flat
  | true, _ => false
/-- plain values -/
def D.plain : D → Bool
  | .non => true
  | .bl _ => true
  | .int _ => true
  | .str _ => true
  | _ => false
/-- == of plain values -/
def eqF : D → D → Bool
  | .non, .non => true
  | .bl a, .bl b => a == b
  | .bl a, .int b => (if a then 1 else 0) == b
  | .int a, .bl b => a == (if b then 1 else 0)
  | .int a, .int b => a == b
  | .str a, .str b => a == b
  | _, _ => false
def inD (x : D) : D → Option Bool
  | .lst ys => if x.shp && (D.lst ys).shp then some (ys.any fun y => PyData.eqv y.toP x.toP) else none
  | .tup ys => if x.plain && ys.all D.plain then some (ys.any fun y => eqF y x) else none
  | .dct false ks _ => if keyD false x then some (ks.any fun k => decide (k = x)) else none
  | .str y => match x with
    | .str z => some (!(Builtin.Str.occurrences y z 0 y.length 1).isEmpty)
    | _ => none
  | _ => none
def cmpD : CO → D → D → Option Bool
  | .eq, a, b => eqD a b
  | .ne, a, b => (eqD a b).map (!·)
  | .lt, a, b => ltD a b
  | .gt, a, b => ltD b a
  | .le, a, b => (ltD b a).map (!·)
  | .ge, a, b => (ltD a b).map (!·)
  | .isn, a, .non => some (decide (a = .non))
  | .isnn, a, .non => some (!decide (a = .non))
  | .in_, a, b => inD a b
  | .nin, a, b => (inD a b).map (!·)
  | _, _, _ => none

/-! ### subscripts, slices, dicts -/
def dGet : List D → List D → D → Option D
  | k :: ks, v :: vs, x => if k = x then some v else dGet ks vs x
  | _, _, _ => none
def dPut : List D → List D → D → D → List D × List D
  | k :: ks, v :: vs, x, y => if k = x then (k :: ks, y :: vs) else ((k :: (dPut ks vs x y).1), (v :: (dPut ks vs x y).2))
  | _, _, x, y => ([x], [y])
def ixD : D → D → Option D
  | .lst xs, .int i => L2.atI xs i
  | .rol xs, .int i => L2.atI xs i
  | .tup xs, .int i => L2.atI xs i
  | .str x, .int i => if x.length ≤ SZ then (L2.atI x.cps.toList i).map fun c => .str ⟨#[c]⟩ else none
  | .dct false ks vs, k => if keyD false k then dGet ks vs k else none
  | _, _ => none
def cutD {α : Type} (xs : List α) (lo hi : Option Int) : List α := (xs.drop (HT.sIx xs.length 0 lo)).take (HT.sIx xs.length xs.length hi - HT.sIx xs.length 0 lo)
def slD : D → Option Int → Option Int → Option D
  | .lst xs, lo, hi => some (.lst (cutD xs lo hi))
  | .tup xs, lo, hi => some (.tup (cutD xs lo hi))
  | .str z, lo, hi => if z.length ≤ SZ then some (.str (L2.cutS z lo hi)) else none
  | _, _, _ => none
/-- a place in nested lists -/
def getP : D → List D → Option D
  | d, [] => some d
  | .lst xs, .int i :: r => (L2.atI xs i).bind fun d => getP d r
  | .dct t ks vs, k :: r => if keyD t k then (dGet ks vs k).bind fun d => getP d r else none
  | _, _ => none
def setP : D → List D → D → Option D
  | _, [], y => some y
  | .lst xs, .int i :: r, y => match L2.ixN xs.length i, L2.atI xs i with
    | some j, some d => (setP d r y).map fun d' => .lst (xs.set j d')
    | _, _ => none
  | .dct t ks vs, k :: r, y => if keyD t k then (dGet ks vs k).bind fun d => (setP d r y).map fun d' => .dct t ks (dPut ks vs k d').2 else none
  | _, _, _ => none
/-- x[..][k] = y at the thing that holds the place -/
def putI : D → D → D → Option D
  | .lst xs, .int i, y => (L2.ixN xs.length i).map fun j => .lst (xs.set j y)
  | .dct t ks vs, k, y => if keyD t k && decide (ks.length < SZ) then some (.dct t (dPut ks vs k y).1 (dPut ks vs k y).2) else none
  | _, _, _ => none

/-! ### built-in functions -/
inductive BI where
  | len | abs | int | str | list | tuple | dict | sorted | sum | any | all | max1 | min1 | max2 | min2 | bool
  deriving DecidableEq
def bools : List D → Option (List Bool)
  | [] => some []
  | .bl b :: r => (bools r).map (b :: ·)
  | _ :: _ => none
def insI (x : Int) : List Int → List Int
  | [] => [x]
  | y :: ys => if x ≤ y then x :: y :: ys else y :: insI x ys
def sortI : List Int → List Int
  | [] => []
  | x :: xs => insI x (sortI xs)
def insS (x : Str) : List Str → List Str
  | [] => [x]
  | y :: ys => if ltS y x then y :: insS x ys else x :: y :: ys
def sortS : List Str → List Str
  | [] => []
  | x :: xs => insS x (sortS xs)
abbrev PI2 := Int × Int
def D.pairs : List D → Option (List PI2)
  | [] => some []
  | .tup [.int i, .int j] :: r => (D.pairs r).map ((i, j) :: ·)
  | _ :: _ => none
def leP (a b : PI2) : Bool := decide (a.1 < b.1) || (decide (a.1 = b.1) && decide (a.2 ≤ b.2))
def insP (x : PI2) : List PI2 → List PI2
  | [] => [x]
  | y :: ys => if leP x y then x :: y :: ys else y :: insP x ys
def sortP : List PI2 → List PI2
  | [] => []
  | x :: xs => insP x (sortP xs)
def D.pr (p : PI2) : D := .tup [.int p.1, .int p.2]
def sortD (xs : List D) : Option (List D) := (D.ints xs).map fun ns => (sortI ns).map .int
def sortP_ (xs : List D) : Option (List D) := (D.pairs xs).map fun ps => (sortP ps).map D.pr
def sortS_ (xs : List D) : Option (List D) := (D.strs xs).bind fun zs => if zs.length < 64 then some ((sortS zs).map .str) else none
def maxI : List Int → Option Int
  | [] => none
  | [x] => some x
  | x :: xs => (maxI xs).map fun m => if x ≤ m then m else x
def minI : List Int → Option Int
  | [] => none
  | [x] => some x
  | x :: xs => (minI xs).map fun m => if m ≤ x then m else x
def D.items : D → Option (List D)
  | .lst xs => some xs
  | .tup xs => some xs
  | _ => none
def bF : BI → List D → Option D
  | .len, [.lst xs] => some (.int xs.length)
  | .len, [.rol xs] => some (.int xs.length)
  | .len, [.tup xs] => some (.int xs.length)
  | .len, [.str x] => if x.length ≤ SZ then some (.int x.length) else none
  | .len, [.dct _ ks _] => some (.int ks.length)
  | .abs, [.int i] => some (.int (if i < 0 then -i else i))
  | .int, [.int i] => some (.int i)
  | .int, [.bl b] => some (.int (if b then 1 else 0))
  | .str, [.int i] => if i.natAbs.log2 < 1920 then some (.str (toString i)) else none
  | .list, [.lst xs] => some (.lst xs)
  | .list, [.tup xs] => some (.lst xs)
  | .tuple, [.lst xs] => some (.tup xs)
  | .tuple, [.tup xs] => some (.tup xs)
  | .dict, [.dct t ks vs] => some (.dct t ks vs)
  | .sorted, [.lst xs] => (sortD xs).map .lst
  | .sorted, [.dct false ks _] => if ks.length < 64 then (sortD ks).map .lst else none
  | .sum, [.lst xs] => (D.ints xs).map fun ns => .int ns.sum
  | .any, [.lst xs] => (bools xs).map fun bs => .bl (bs.any id)
  | .all, [.lst xs] => (bools xs).map fun bs => .bl (bs.all id)
  | .max1, [.lst xs] => (D.ints xs).bind fun ns => (maxI ns).map .int
  | .min1, [.lst xs] => (D.ints xs).bind fun ns => (minI ns).map .int
  | .max2, [.int i, .int j] => some (.int (if j > i then j else i))
  | .min2, [.int i, .int j] => some (.int (if j < i then j else i))
  | .bool, [.bl b] => some (.bl b)
  | _, _ => none
/-- built-in classes for isinstance -/
inductive TY where | int | bool | str | list | tuple | dict | none | exc (c : Str)
  deriving DecidableEq

/-! ### what is walked -/
inductive IK where | seq | rng | enum | zip | rev
  deriving DecidableEq
def rngD (lo : Int) : Nat → List D
  | 0 => []
  | n + 1 => .int lo :: rngD (lo + 1) n
def enumD (k : Int) : List D → List D
  | [] => []
  | x :: xs => .tup [.int k, x] :: enumD (k + 1) xs
def zipD : List D → List D → List D
  | x :: xs, y :: ys => .tup [x, y] :: zipD xs ys
  | _, _ => []
def itF : IK → List D → Option (List D)
  | .seq, [.lst xs] => some xs
  | .seq, [.tup xs] => some xs
  | .seq, [.str x] => some (x.cps.toList.map fun c => .str ⟨#[c]⟩)
  | .rng, [.int j] => if B62 j then some (rngD 0 j.toNat) else none
  | .rng, [.int i, .int j] => if B62 i && B62 j then some (rngD i (j - i).toNat) else none
  | .rng, [.int i, .int j, .int c] => if B62 i && B62 j && decide (c = -1) then some ((rngD (j + 1) (i - j).toNat).reverse) else none
  | .enum, [.lst xs] => some (enumD 0 xs)
  | .enum, [.tup xs] => some (enumD 0 xs)
  | .enum, [.str x] => some (enumD 0 (x.cps.toList.map fun c => .str ⟨#[c]⟩))
  | .zip, [a, b] => match a.items, b.items with
    | some xs, some ys => some (zipD xs ys)
    | _, _ => none
  | .rev, [.lst xs] => some xs.reverse
  | _, _ => none

/-! ### methods -/
inductive ME where | join | split1 | get1 | get2 | index | find | upper | count
  deriving DecidableEq
def idxOf : List D → D → Nat → Option Nat
  | [], _, _ => none
  | y :: ys, x, k => if PyData.eqv y.toP x.toP then some k else idxOf ys x (k + 1)
def meF : ME → D → List D → Option D
  | .get1, .dct t ks vs, [k] => if keyD t k then some ((dGet ks vs k).getD .non) else none
  | .get2, .dct t ks vs, [k, d] => if keyD t k then some ((dGet ks vs k).getD d) else none
  | .index, .lst ys, [x] => if x.shp && (D.lst ys).shp then (idxOf ys x 0).map fun (k : Nat) => .int k else none
  | _, _, _ => none
/-- the receiver's kind -/
def meOk : ME → D → Bool
  | .index, .lst _ => true
  | .get1, .dct _ _ _ => true
  | .get2, .dct _ _ _ => true
  | .join, .str _ => true
  | .split1, .str _ => true
  | .find, .str _ => true
  | .upper, .str _ => true
  | .count, .str _ => true
  | _, _ => false
/-- methods that change what stands at a place: the new thing there, the value -/
inductive MU where | append | pop0 | pop1 | extend | insert | setdefault
  deriving DecidableEq
def muF : MU → D → List D → Option (D × D)
  | .append, .lst xs, [y] => if xs.length < SZ then some (.lst (xs ++ [y]), .non) else none
  | .pop0, .lst xs, [] => match xs.getLast? with
    | some y => some (.lst xs.dropLast, y)
    | none => none
  | .pop1, .lst xs, [.int i] => match L2.ixN xs.length i, L2.atI xs i with
    | some j, some y => some (.lst (xs.eraseIdx j), y)
    | _, _ => none
  | .extend, .lst xs, [.lst ys] => if xs.length + ys.length ≤ SZ then some (.lst (xs ++ ys), .non) else none
  | .insert, .lst xs, [.int i, y] => if 0 ≤ i ∧ i ≤ xs.length ∧ xs.length < SZ then some (.lst (xs.take i.toNat ++ y :: xs.drop i.toNat), .non) else none
  | .setdefault, .dct t ks vs, [k, d] => if keyD t k then (match dGet ks vs k with
    | some v => some (.dct t ks vs, v)
    | none => if ks.length < SZ then some (.dct t (dPut ks vs k d).1 (dPut ks vs k d).2, d) else none) else none
  | _, _, _ => none

/-! ### who owns what: fr: nobody changes it any more; ow o: this thing is the slot's own, its items as o says -/
inductive Ow where
  | fr
  | ow (o : Ow)
  deriving DecidableEq
abbrev Ows := List Ow

/-! ### the language -/
/-- a target: a name, a tuple of names -/
inductive T where
  | nm (i : Nat)
  | tp (is : List Nat)
inductive E where
  | v (i : Nat)
  | mv (i : Nat)
  | int (i : Int)
  | str (x : Str)
  | bl (b : Bool)
  | non
  | g (x : Str)
  | bin (o : BO) (a b : E)
  | neg (a : E)
  | not (a : E)
  | cmp (o : CO) (a b : E)
  | ch (o p : CO) (a b c : E)
  | and (es : List E)
  | or (es : List E)
  | ite (c a b : E)
  | tup (es : List E)
  | lst (es : List E)
  | dic (t : Bool) (ks vs : List E)
  | ln (i : Nat)
  | ix (a i : E)
  | sl (a : E) (lo hi : List E)
  | call (f : Str) (es : List E)
  | bi (b : BI) (es : List E)
  | isi (a : E) (ts : List TY)
  | me (m : ME) (o : E) (es : List E)
  | mu (m : MU) (i : Nat) (ps es : List E)
  | lc (elt : E) (t : T) (k : IK) (ia : List E) (c : List E)
  | fs (parts : List E)
inductive S where
  | set (i : Nat) (e : E)
  | tgt (is : List Nat) (e : E)
  | put (i : Nat) (ps : List E) (e : E)
  | aug (i : Nat) (o : BO) (e : E)
  | augp (i : Nat) (ps : List E) (o : BO) (e : E)
  | ex (e : E)
  | ifs (c : E) (a b : List S)
  | for_ (t : T) (k : IK) (ia : List E) (w : Option Nat) (body : List S)
  | while_ (c : E) (body : List S)
  | ret (e : E)
  | retN
  | raise (c : Str)
  | try_ (x : Ows) (body : List S) (h : S)
  | hd (cs : List Str) (n : Option Nat) (body : List S) (r : S)
  | hn
  | pass
  | brk
  | cont
  | weak (is : List Nat)

/-! ### what it does -/
inductive CR where
  | ok (r : D) (ls : List D)
  | ex (c : Str)
  | no
/-- the calls, the module's names, what own class of errors stands below what -/
structure Cs where
  cl : Str → List D → CR
  gl : Str → Option D
  sub : Str → Str → Bool
  isx : Str → Bool

def truthM (f : M D) : M Bool := M.bind f fun d => M.opt d.truth
def evs : List (M D × M Bool) → M (List D)
  | [] => M.ret []
  | p :: ps => M.bind p.1 fun d => M.bind (evs ps) fun ds => M.ret (d :: ds)
def getS (e : Env) (i : Nat) : Option D := (e[i]?).join
def setS (e : Env) (i : Nat) (d : D) : Env := e.set i (some d)
def unS (e : Env) (i : Nat) : Env := e.set i none
def varM (i : Nat) : M D := fun e => match getS e i with
  | some d => .ok d e
  | none => .no
def mvM (i : Nat) : M D := fun e => match getS e i with
  | some d => .ok d (unS e i)
  | none => .no
def op1 (f : D → Option D) (a : M D) : M D := M.bind a fun x => M.opt (f x)
def op2 (f : D → D → Option D) (a b : M D) : M D := M.bind a fun x => M.bind b fun y => M.opt (f x y)
def negD : D → Option D
  | .int i => some (.int (-i))
  | _ => none
def chM (o p : CO) (a b c : M D) : M D := M.bind a fun x => M.bind b fun y => M.bind (M.opt (cmpD o x y)) fun k =>
  if k = true then M.bind c fun z => M.opt ((cmpD p y z).map .bl) else M.ret (.bl false)
def andV : List (M D × M Bool) → M D
  | [] => fun _ => .no
  | [p] => p.1
  | p :: ps => M.bind p.1 fun d => match d with
    | .bl true => andV ps
    | .bl false => M.ret (.bl false)
    | _ => fun _ => .no
def orV : List (M D × M Bool) → M D
  | [] => fun _ => .no
  | [p] => p.1
  | p :: ps => M.bind p.1 fun d => match d with
    | .bl true => M.ret (.bl true)
    | .bl false => orV ps
    | _ => fun _ => .no
def andT : List (M D × M Bool) → M Bool
  | [] => fun _ => .no
  | [p] => p.2
  | p :: ps => M.bind p.2 fun b => if b = true then andT ps else M.ret false
def orT : List (M D × M Bool) → M Bool
  | [] => fun _ => .no
  | [p] => p.2
  | p :: ps => M.bind p.2 fun b => if b = true then M.ret true else orT ps
def partM : List (M D × M Bool) → M (Option Int)
  | [] => M.ret none
  | p :: _ => M.bind p.1 fun d => match d with
    | .int i => M.ret (some i)
    | _ => fun _ => .no
/-- the lent slots get what the callee left in them -/
def wb : List E → List D → Env → Env
  | .ln i :: es, d :: ds, e => wb es ds (setS e i d)
  | _ :: es, _ :: ds, e => wb es ds e
  | _, _, e => e
def unl : List E → Env → Env
  | .ln i :: es, e => unl es (unS e i)
  | _ :: es, e => unl es e
  | [], e => e
def callM (C : Cs) (f : Str) (es : List E) (ps : List (M D × M Bool)) : M D := fun e => match evs ps e with
  | .ok ds e1 => (match C.cl f ds with
    | .ok r ls => .ok r (wb es ls e1)
    | .ex c => .ex c (unl es e1)
    | .no => .no)
  | .ex c e1 => .ex c e1
  | .no => .no
def tyIs (C : Cs) : D → TY → Option Bool
  | .exc c, .exc x => some (C.sub c x)
  | .int _, .int => some true
  | .int _, .bool => some false
  | .bl _, .int => some true
  | .bl _, .bool => some true
  | .str _, .str => some true
  | .tup _, .tuple => some true
  | .lst _, .list => some true
  | .rol _, _ => none
  | .dct _ _ _, .dict => some true
  | .exc _, _ => none
  | _, .exc _ => none
  | _, .none => none
  | _, _ => some false
def tyAny (C : Cs) (d : D) : List TY → Option Bool
  | [] => some false
  | t :: ts => match tyIs C d t with
    | some true => some true
    | some false => tyAny C d ts
    | none => none
def getPM (i : Nat) (ps : List D) : M D := fun e => match (getS e i).bind fun d => getP d ps with
  | some d => .ok d e
  | none => .no
def setPM (i : Nat) (ps : List D) (y : D) : M Unit := fun e => match (getS e i).bind fun d => setP d ps y with
  | some d => .ok () (setS e i d)
  | none => .no
def muOk : MU → D → Bool
  | .setdefault, .dct _ _ _ => true
  | .setdefault, _ => false
  | _, .lst _ => true
  | _, _ => false
def muM (m : MU) (i : Nat) (ps es : List (M D × M Bool)) : M D := M.bind (evs ps) fun qs => M.bind (getPM i qs) fun d0 => if muOk m d0 = false then fun _ => .no else M.bind (evs es) fun ds => M.bind (getPM i qs) fun d =>
  match muF m d ds with
  | some (d', y) => M.bind (setPM i qs d') fun _ => M.ret y
  | none => fun _ => .no
def asg : T → D → Env → Option Env
  | .nm i, d, e => some (setS e i d)
  | .tp is, .tup ds, e => if is.length = ds.length then some ((is.zip ds).foldl (fun e p => setS e p.1 p.2) e) else none
  | .tp _, _, _ => none
def T.slots : T → List Nat
  | .nm i => [i]
  | .tp is => is
def wipeE (e : Env) : List Nat → Env
  | [] => e
  | i :: is => (wipeE e is).set i none
def lcL (elt : M D) (t : T) (c : M Bool) (e : Env) : List D → Option (List D)
  | [] => some []
  | d :: ds => match asg t d e with
    | none => none
    | some e1 => match c e1 with
      | .ok true e2 => (match elt e2 with
        | .ok y _ => (lcL elt t c e ds).map (y :: ·)
        | _ => none)
      | .ok false _ => lcL elt t c e ds
      | _ => none
def cM : List (M D × M Bool) → M Bool
  | [] => M.ret true
  | p :: _ => p.2
def lcF (elt : M D) (t : T) (fi : M (List D)) (c : M Bool) : M D := M.bind fi fun ds => fun e =>
  if ds.length ≤ SZ then (match lcL elt t c (wipeE e t.slots) ds with
    | some ys => .ok (.lst ys) (wipeE e t.slots)
    | none => .no) else .no
def lcM (elt : M D) (t : T) (k : IK) (ia : List (M D × M Bool)) (c : List (M D × M Bool)) : M D := lcF elt t (M.bind (evs ia) fun as => M.opt (itF k as)) (cM c)
def dicM (t : Bool) (ks vs : List (M D × M Bool)) : M D := match ks, vs with
  | [], [] => M.ret (.dct t [] [])
  | k :: ks, v :: vs => M.bind k.1 fun x => M.bind v.1 fun y => M.bind (dicM t ks vs) fun d => match d with
    | .dct t' a b => if keyD t x && !(a.any fun z => decide (z = x)) then M.ret (.dct t' (x :: a) (y :: b)) else fun _ => .no
    | _ => fun _ => .no
  | _, _ => fun _ => .no
def fsM : List (M D × M Bool) → M D
  | [] => M.ret (.str Str.empty)
  | p :: ps => M.bind p.1 fun d => M.bind (fsM ps) fun r => match d, r with
    | .str x, .str y => if x.length + y.length ≤ SZ then M.ret (.str (x ++ y)) else fun _ => .no
    | .int i, .str y => if i.natAbs.log2 < 1920 then M.ret (.str (Str.ofString (toString i) ++ y)) else fun _ => .no
    | _, _ => fun _ => .no
abbrev val (f : M D) : M D × M Bool := (f, truthM f)
def notT (p : M D × M Bool) : M D × M Bool := (M.bind (truthM p.1) fun b => M.ret (.bl !b), M.bind p.2 fun b => M.ret !b)

mutual
def den (C : Cs) : E → M D × M Bool
  | .v i => val (varM i)
  | .ln i => val (varM i)
  | .mv i => val (mvM i)
  | .int i => val (M.ret (.int i))
  | .str x => val (M.ret (.str x))
  | .bl b => val (M.ret (.bl b))
  | .non => val (M.ret .non)
  | .g x => val (M.opt (C.gl x))
  | .bin o a b => val (op2 (binD o) (den C a).1 (den C b).1)
  | .neg a => val (op1 negD (den C a).1)
  | .not a => notT (den C a)
  | .cmp o a b => val (op2 (fun x y => (cmpD o x y).map .bl) (den C a).1 (den C b).1)
  | .ch o p a b c => val (chM o p (den C a).1 (den C b).1 (den C c).1)
  | .and es => (andV (dens C es), andT (dens C es))
  | .or es => (orV (dens C es), orT (dens C es))
  | .ite c a b => val (M.bind (den C c).2 fun k => if k = true then (den C a).1 else (den C b).1)
  | .tup es => val (M.bind (evs (dens C es)) fun ds => M.ret (.tup ds))
  | .lst es => val (M.bind (evs (dens C es)) fun ds => M.ret (.lst ds))
  | .dic t ks vs => val (dicM t (dens C ks) (dens C vs))
  | .ix a i => val (op2 ixD (den C a).1 (den C i).1)
  | .sl a lo hi => val (M.bind (den C a).1 fun x => M.bind (partM (dens C lo)) fun l => M.bind (partM (dens C hi)) fun h => M.opt (slD x l h))
  | .call f es => val (callM C f es (dens C es))
  | .bi b es => val (M.bind (evs (dens C es)) fun ds => M.opt (bF b ds))
  | .isi a ts => val (M.bind (den C a).1 fun x => M.opt ((tyAny C x ts).map .bl))
  | .me m o es => val (M.bind (den C o).1 fun x => if meOk m x = true then M.bind (evs (dens C es)) fun ds => M.opt (meF m x ds) else fun _ => .no)
  | .mu m i ps es => val (muM m i (dens C ps) (dens C es))
  | .lc elt t k ia c => val (lcM (den C elt).1 t k (dens C ia) (dens C c))
  | .fs ps => val (fsM (dens C ps))
def dens (C : Cs) : List E → List (M D × M Bool)
  | [] => []
  | e :: es => den C e :: dens C es
end

inductive Fl where | nx | rt (d : D) | bk | ct
def seqM (f g : M Fl) : M Fl := M.bind f fun r => match r with
  | .nx => g
  | .rt d => M.ret (.rt d)
  | .bk => M.ret .bk
  | .ct => M.ret .ct
def forL (chk : Env → Bool) (t : T) (body : M Fl) : List D → M Fl
  | [] => fun e => if chk e = true then .ok .nx e else .no
  | d :: ds => fun e => if chk e = true then (match asg t d e with
      | none => .no
      | some e1 => match body e1 with
        | .ok .nx e2 => forL chk t body ds e2
        | .ok .ct e2 => forL chk t body ds e2
        | .ok .bk e2 => .ok .nx e2
        | .ok (.rt r) e2 => .ok (.rt r) e2
        | .ex c e2 => .ex c e2
        | .no => .no) else .no
def whileL (c : M Bool) (body : M Fl) : Nat → M Fl
  | 0 => fun _ => .no
  | n + 1 => fun e => match c e with
    | .ok true e1 => (match body e1 with
      | .ok .nx e2 => whileL c body n e2
      | .ok .ct e2 => whileL c body n e2
      | .ok .bk e2 => .ok .nx e2
      | .ok (.rt r) e2 => .ok (.rt r) e2
      | .ex x e2 => .ex x e2
      | .no => .no)
    | .ok false e1 => .ok .nx e1
    | .ex x e1 => .ex x e1
    | .no => .no
def FUEL : Nat := 1000000000
def chkOf (w : Option Nat) (as : List D) (e : Env) : Bool := match w with
  | none => true
  | some i => decide (getS e i = as.head?)
def forM (t : T) (k : IK) (ia : List (M D × M Bool)) (w : Option Nat) (body : M Fl) : M Fl := M.bind (evs ia) fun as => M.bind (M.opt (itF k as)) fun ds => forL (chkOf w as) t body ds
def putM (i : Nat) (qs : List D) (k : D) (y : D) : M Unit := M.bind (getPM i qs) fun d => M.bind (M.opt (putI d k y)) fun d' => setPM i qs d'
def unE : R Fl → Option Nat → R Fl
  | .ok r e, some i => .ok r (unS e i)
  | r, _ => r
def tryM (C : Cs) (body : M Fl) (h : Str → M Fl) : M Fl := fun e => match body e with
  | .ex c e1 => if C.isx c = true then h c e1 else .no
  | r => r
mutual
def dS (C : Cs) : S → M Fl
  | .set i e => M.bind (den C e).1 fun d => fun s => .ok .nx (setS s i d)
  | .tgt is e => M.bind (den C e).1 fun d => fun s => match asg (.tp is) d s with
    | some s' => .ok .nx s'
    | none => .no
  | .put i ps e => M.bind (den C e).1 fun y => M.bind (evs (dens C ps)) fun qs => match qs.getLast? with
    | none => fun _ => .no
    | some k => M.bind (putM i qs.dropLast k y) fun _ => M.ret .nx
  | .aug i o e => M.bind (varM i) fun x => M.bind (den C e).1 fun y => M.bind (M.opt (augD o x y)) fun z => fun s => .ok .nx (setS s i z)
  | .augp i ps o e => M.bind (evs (dens C ps)) fun qs => match qs.getLast? with
    | none => fun _ => .no
    | some k => M.bind (getPM i qs.dropLast) fun d => M.bind (M.opt (ixD d k)) fun x => M.bind (den C e).1 fun y => M.bind (M.opt (augD o x y)) fun z => M.bind (putM i qs.dropLast k z) fun _ => M.ret .nx
  | .ex e => M.bind (den C e).1 fun _ => M.ret .nx
  | .ifs c a b => M.bind (den C c).2 fun k => if k = true then dB C a else dB C b
  | .for_ t k ia w body => forM t k (dens C ia) w (dB C body)
  | .while_ c body => whileL (den C c).2 (dB C body) FUEL
  | .ret e => M.bind (den C e).1 fun d => M.ret (.rt d)
  | .retN => M.ret (.rt .non)
  | .raise c => fun e => .ex c e
  | .try_ _ body h => tryM C (dB C body) (dH C h)
  | .pass => M.ret .nx
  | .brk => M.ret .bk
  | .cont => M.ret .ct
  | .weak _ => M.ret .nx
  | .hd _ _ _ _ => fun _ => .no
  | .hn => fun _ => .no
def dB (C : Cs) : List S → M Fl
  | [] => M.ret .nx
  | s :: ss => seqM (dS C s) (dB C ss)
def dH (C : Cs) : S → Str → M Fl
  | .hd cs n body r => fun c e => if (cs.any fun x => C.sub c x) = true then (match (match n with
      | some i => if i < e.length then dB C body (setS e i (.exc c)) else .no
      | none => dB C body e) with
      | .ok f e1 => .ok f (match n with
        | some i => unS e1 i
        | none => e1)
      | _ => .no) else dH C r c e
  | .hn => fun c e => .ex c e
  | _ => fun _ _ => .no
end

/-! ### a program -/
structure Fn where
  name : Str
  np : Nat
  ns : Nat
  body : List S
/-- calls to the depth n -/
def call (fs : List Fn) (gl : Str → Option D) (sub : Str → Str → Bool) (isx : Str → Bool) : Nat → Str → List D → CR
  | 0, _, _ => .no
  | n + 1, f, ds => match fs.find? fun F => decide (F.name = f) with
    | none => .no
    | some F => if F.np = ds.length then (match dB ⟨call fs gl sub isx n, gl, sub, isx⟩ F.body (ds.map some ++ List.replicate (F.ns - F.np) none) with
      | .ok (.rt r) e => .ok r ((List.range F.np).map fun i => (getS e i).getD .non)
      | .ok .nx e => .ok .non ((List.range F.np).map fun i => (getS e i).getD .non)
      | .ok _ _ => .no
      | .ex c _ => .ex c
      | .no => .no) else .no
end Mp
/-! Mp2: how data lie in the abstract heap. -/
namespace Mp
open PySem PySem.Spec PyProof.Rows L2

/-- what may be changed at all -/
def mutO : HO → Bool
  | .lst _ => true
  | .dK _ => true
  | .dT _ => true
  | .ins _ _ _ => true
  | _ => false
abbrev AS := Addr → Prop
/-- the heap in which nothing is tracked -/
def H0 : Hp := fun _ => none
theorem sqL0 {K : PySem.W.Frag} {H : Hp} {a : Addr} {xs : List V} (h : SqL K H0 a xs) : SqL K H a xs := by
  rcases h with h | h
  · rcases h with h | ⟨o, h⟩ <;> cases h
  · exact .inr h
theorem sqT_mono {K : PySem.W.Frag} {H H' : Hp} {a : Addr} {xs : List V} (k : ∀ o, H a = some o → mutO o = false → H' a = some o) (h : SqT K H a xs) : SqT K H' a xs := by
  rcases h with h | h
  · rcases h with h | ⟨o, h⟩
    · exact .inl (.inl (k _ h rfl))
    · exact .inl (.inr ⟨o, k _ h rfl⟩)
  · exact .inr h

def kD : Key → D
  | .inl i => .int i
  | .inr x => .str x
theorem kD_inj {a b : Key} (h : kD a = kD b) : a = b := by
  cases a <;> cases b <;> simp [kD] at h <;> rw [h]

section
variable (K : PySem.W.Frag) (H : Hp) (Z : AS)
/-- a list that nobody changes -/
def FzL (a : Addr) (xs : List V) : Prop := Z a ∧ H a = some (.lst xs)
/-- a list that is only read: the script, a list of the module -/
def RdL (a : Addr) (xs : List V) : Prop := (∃ o, H a = some (.frz o (.lst xs))) ∨ SqL K H0 a xs
/-- a dict's keys -/
def KeyK (ks : List D) (kvs : List (Key × V)) : Prop := ks = kvs.map fun p => kD p.1
def KeyT (ks : List D) (kvs : List (List Key × V)) : Prop := ks = kvs.map fun p => D.tup (p.1.map kD)
/-- at a stands a dict with these keys, its values xs -/
def DcAt (a : Addr) (t : Bool) (ks : List D) (xs : List V) : Prop := ks.Nodup ∧
  ((t = false ∧ ∃ kvs, H a = some (.dK kvs) ∧ KeyK ks kvs ∧ xs = kvs.map (·.2)) ∨ (t = true ∧ ∃ kvs, H a = some (.dT kvs) ∧ KeyT ks kvs ∧ xs = kvs.map (·.2)))
mutual
/-- data that nobody changes -/
def Rep : D → V → Prop
  | .non, v => v = .non
  | .bl b, v => v = .bl b
  | .int i, v => v = .int i
  | .str x, v => v = .str x
  | .tup ds, v => ∃ a xs, v = .ref a ∧ SqT K H a xs ∧ Reps ds xs
  | .lst ds, v => ∃ a xs, v = .ref a ∧ FzL H Z a xs ∧ Reps ds xs
  | .rol ds, v => ∃ a xs, v = .ref a ∧ RdL K H a xs ∧ Reps ds xs
  | .dct t ks vs, v => ∃ a xs, v = .ref a ∧ Z a ∧ DcAt H a t ks xs ∧ Reps vs xs
  | .exc _, v => ∃ a, v = .ref a
def Reps : List D → List V → Prop
  | [], xs => xs = []
  | d :: ds, xs => ∃ x r, xs = x :: r ∧ Rep d x ∧ Reps ds r
end
/-- items with their places' footprints -/
structure Items (R : D → V → AS → Prop) (ds : List D) (xs : List V) (A : AS) (G : Nat → AS) : Prop where
  len : xs.length = ds.length
  at_ : ∀ (k : Nat) d x, ds[k]? = some d → xs[k]? = some x → R d x (G k)
  apart : ∀ (j k : Nat) b, G j b → G k b → j = k
  some_ : ∀ b, A b ↔ ∃ k, k < ds.length ∧ G k b
/-- data as an owner holds them: A, what may be changed of them -/
def RO : Ow → D → V → AS → Prop
  | .fr, d, v, A => Rep K H Z d v ∧ ∀ a, ¬ A a
  | .ow o, .lst ds, v, A => ∃ a xs B G, v = .ref a ∧ H a = some (.lst xs) ∧ Items (RO o) ds xs B G ∧ ¬ B a ∧ ∀ b, A b ↔ (b = a ∨ B b)
  | .ow o, .dct t ks vs, v, A => ∃ a xs B G, v = .ref a ∧ DcAt H a t ks xs ∧ Items (RO o) vs xs B G ∧ ¬ B a ∧ ∀ b, A b ↔ (b = a ∨ B b)
  | .ow _, d, v, A => Rep K H Z d v ∧ ∀ a, ¬ A a
end

section
variable {K : PySem.W.Frag} {H H' : Hp} {Z Z' : AS}
theorem RdL.sq {a : Addr} {xs : List V} (h : RdL K H a xs) : SqL K H a xs := by
  rcases h with ⟨o, h⟩ | h
  · exact .inl (.inr ⟨o, h⟩)
  · exact sqL0 h
theorem RdL.mono {a : Addr} {xs : List V} (k : ∀ a o, H a = some o → (Z a ∨ mutO o = false) → H' a = some o) (h : RdL K H a xs) : RdL K H' a xs := by
  rcases h with ⟨o, h⟩ | h
  · exact .inl ⟨o, k _ _ h (.inr rfl)⟩
  · exact .inr h
theorem FzL.mono {a : Addr} {xs : List V} (kz : ∀ a, Z a → Z' a) (k : ∀ a o, H a = some o → (Z a ∨ mutO o = false) → H' a = some o) (h : FzL H Z a xs) : FzL H' Z' a xs := ⟨kz _ h.1, k _ _ h.2 (.inl h.1)⟩
theorem DcAt.mono {a : Addr} {t : Bool} {ks : List D} {xs : List V} (k : ∀ o, H a = some o → H' a = some o) (h : DcAt H a t ks xs) : DcAt H' a t ks xs := by
  obtain ⟨nd, ⟨e, kvs, h1, h2, h3⟩ | ⟨e, kvs, h1, h2, h3⟩⟩ := h
  · exact ⟨nd, .inl ⟨e, kvs, k _ h1, h2, h3⟩⟩
  · exact ⟨nd, .inr ⟨e, kvs, k _ h1, h2, h3⟩⟩
mutual
theorem Rep.mono (kz : ∀ a, Z a → Z' a) (k : ∀ a o, H a = some o → (Z a ∨ mutO o = false) → H' a = some o) : ∀ {d : D} {v : V}, Rep K H Z d v → Rep K H' Z' d v
  | .non, _, h => h
  | .bl _, _, h => h
  | .int _, _, h => h
  | .str _, _, h => h
  | .exc _, _, h => h
  | .tup ds, v, h => by
    unfold Rep at h ⊢
    obtain ⟨a, xs, e, h1, h2⟩ := h
    exact ⟨a, xs, e, sqT_mono (fun o e m => k _ _ e (.inr m)) h1, Reps.mono kz k h2⟩
  | .lst ds, v, h => by
    unfold Rep at h ⊢
    obtain ⟨a, xs, e, h1, h2⟩ := h
    exact ⟨a, xs, e, h1.mono kz k, Reps.mono kz k h2⟩
  | .rol ds, v, h => by
    unfold Rep at h ⊢
    obtain ⟨a, xs, e, h1, h2⟩ := h
    exact ⟨a, xs, e, RdL.mono k h1, Reps.mono kz k h2⟩
  | .dct t ks vs, v, h => by
    unfold Rep at h ⊢
    obtain ⟨a, xs, e, z, h1, h2⟩ := h
    exact ⟨a, xs, e, kz _ z, h1.mono fun o q => k _ _ q (.inl z), Reps.mono kz k h2⟩
theorem Reps.mono (kz : ∀ a, Z a → Z' a) (k : ∀ a o, H a = some o → (Z a ∨ mutO o = false) → H' a = some o) : ∀ {ds : List D} {xs : List V}, Reps K H Z ds xs → Reps K H' Z' ds xs
  | [], _, h => h
  | d :: ds, xs, h => by
    unfold Reps at h ⊢
    obtain ⟨x, r, e, h1, h2⟩ := h
    exact ⟨x, r, e, Rep.mono kz k h1, Reps.mono kz k h2⟩
end
theorem Reps.len : ∀ {ds : List D} {xs : List V}, Reps K H Z ds xs → xs.length = ds.length
  | [], _, h => by unfold Reps at h; simp [h]
  | d :: ds, xs, h => by
    unfold Reps at h
    obtain ⟨x, r, rfl, _, h2⟩ := h
    simp [Reps.len h2]
theorem Reps.get : ∀ {ds : List D} {xs : List V} {k : Nat} {d : D}, Reps K H Z ds xs → ds[k]? = some d → ∃ x, xs[k]? = some x ∧ Rep K H Z d x
  | [], _, _, _, _, e => by simp at e
  | d :: ds, xs, 0, _, h, e => by
    unfold Reps at h
    obtain ⟨x, r, rfl, h1, _⟩ := h
    simp at e
    subst e
    exact ⟨x, by simp, h1⟩
  | d :: ds, xs, k + 1, _, h, e => by
    unfold Reps at h
    obtain ⟨x, r, rfl, _, h2⟩ := h
    simp at e ⊢
    exact Reps.get h2 e
theorem Reps.of : ∀ {ds : List D} {xs : List V}, xs.length = ds.length → (∀ (k : Nat) d x, ds[k]? = some d → xs[k]? = some x → Rep K H Z d x) → Reps K H Z ds xs
  | [], [], _, _ => by unfold Reps; rfl
  | [], _ :: _, h, _ => by simp at h
  | _ :: _, [], h, _ => by simp at h
  | d :: ds, x :: xs, h, g => by
    unfold Reps
    exact ⟨x, xs, rfl, g 0 d x rfl rfl, Reps.of (by simpa using h) fun k d' x' e1 e2 => g (k + 1) d' x' (by simpa using e1) (by simpa using e2)⟩
theorem RO.scal {o : Ow} {d : D} {v : V} {A : AS} (hd : ∀ ds, d ≠ .lst ds) (hd2 : ∀ t ks vs, d ≠ .dct t ks vs) : RO K H Z (.ow o) d v A ↔ (Rep K H Z d v ∧ ∀ a, ¬ A a) := by
  cases d <;> first | exact Iff.rfl | exact absurd rfl (hd _) | exact absurd rfl (hd2 _ _ _)
theorem DcAt.mut {a : Addr} {t : Bool} {ks : List D} {xs : List V} (h : DcAt H a t ks xs) : ∃ o, H a = some o ∧ mutO o = true := by
  obtain ⟨_, ⟨_, kvs, h1, _⟩ | ⟨_, kvs, h1, _⟩⟩ := h
  · exact ⟨_, h1, rfl⟩
  · exact ⟨_, h1, rfl⟩
/-- what an owner holds stays while it and what is frozen stay -/
theorem RO.keep (kz : ∀ a, Z a → Z' a) : ∀ {o : Ow} {d : D} {v : V} {A : AS}, (∀ a q, H a = some q → (Z a ∨ A a ∨ mutO q = false) → H' a = some q) → RO K H Z o d v A → RO K H' Z' o d v A
  | .fr, d, v, A, k, h => ⟨h.1.mono kz fun a q e z => k a q e (z.elim .inl fun m => .inr (.inr m)), h.2⟩
  | .ow o, d, v, A, k, h => by
    have sc : (Rep K H Z d v ∧ ∀ a, ¬ A a) → (Rep K H' Z' d v ∧ ∀ a, ¬ A a) := fun h => ⟨h.1.mono kz fun a q e z => k a q e (z.elim .inl fun m => .inr (.inr m)), h.2⟩
    have it : ∀ {ds : List D} {xs : List V} {B : AS} {G : Nat → AS}, (∀ b, B b → A b) → Items (RO K H Z o) ds xs B G → Items (RO K H' Z' o) ds xs B G := fun {ds xs B G} hB I =>
      ⟨I.len, fun j d x e1 e2 => RO.keep kz (fun a q e z => k a q e (by
        rcases z with z | z | z
        · exact .inl z
        · exact .inr (.inl (hB _ ((I.some_ a).mpr ⟨j, (List.getElem?_eq_some_iff.mp e1).1, z⟩)))
        · exact .inr (.inr z))) (I.at_ j d x e1 e2), I.apart, I.some_⟩
    cases d with
    | lst ds =>
      obtain ⟨a, xs, B, G, e, h1, I, nb, hA⟩ := h
      exact ⟨a, xs, B, G, e, k a _ h1 (.inr (.inl ((hA a).mpr (.inl rfl)))), it (fun b hb => (hA b).mpr (.inr hb)) I, nb, hA⟩
    | dct t ks vs =>
      obtain ⟨a, xs, B, G, e, h1, I, nb, hA⟩ := h
      exact ⟨a, xs, B, G, e, h1.mono fun q e => k a q e (.inr (.inl ((hA a).mpr (.inl rfl)))), it (fun b hb => (hA b).mpr (.inr hb)) I, nb, hA⟩
    | _ => exact sc h
/-- what is owned is there, and may be changed -/
theorem RO.there : ∀ {o : Ow} {d : D} {v : V} {A : AS}, RO K H Z o d v A → ∀ a, A a → ∃ q, H a = some q ∧ mutO q = true
  | .fr, d, v, A, h, a, z => absurd z (h.2 a)
  | .ow o, d, v, A, h, a, z => by
    have it : ∀ {ds : List D} {xs : List V} {B : AS} {G : Nat → AS}, Items (RO K H Z o) ds xs B G → B a → ∃ q, H a = some q ∧ mutO q = true := fun {ds xs B G} I hb => by
      obtain ⟨k, hk, g⟩ := (I.some_ a).mp hb
      obtain ⟨d, hd⟩ : ∃ d, ds[k]? = some d := ⟨_, List.getElem?_eq_getElem hk⟩
      obtain ⟨x, hx⟩ : ∃ x, xs[k]? = some x := ⟨_, List.getElem?_eq_getElem (by rw [I.len]; exact hk)⟩
      exact RO.there (I.at_ k d x hd hx) a g
    cases d with
    | lst ds =>
      obtain ⟨p, xs, B, G, e, h1, I, nb, hA⟩ := h
      rcases (hA a).mp z with rfl | hb
      · exact ⟨_, h1, rfl⟩
      · exact it I hb
    | dct t ks vs =>
      obtain ⟨p, xs, B, G, e, h1, I, nb, hA⟩ := h
      rcases (hA a).mp z with rfl | hb
      · exact h1.mut
      · exact it I hb
    | _ => exact absurd z (h.2 a)
/-- frozen: from now on nobody changes it -/
theorem RO.fz : ∀ {o : Ow} {d : D} {v : V} {A : AS}, RO K H Z o d v A → Rep K H (fun a => Z a ∨ A a) d v
  | .fr, d, v, A, h => h.1.mono (fun a z => .inl z) fun _ _ e _ => e
  | .ow o, d, v, A, h => by
    have it : ∀ {ds : List D} {xs : List V} {B : AS} {G : Nat → AS}, (∀ b, B b → A b) → Items (RO K H Z o) ds xs B G → Reps K H (fun a => Z a ∨ A a) ds xs := fun {ds xs B G} hB I =>
      Reps.of I.len fun k d x e1 e2 => (RO.fz (I.at_ k d x e1 e2)).mono (fun a z => z.elim .inl fun g => .inr (hB _ ((I.some_ a).mpr ⟨k, (List.getElem?_eq_some_iff.mp e1).1, g⟩))) fun _ _ e _ => e
    cases d with
    | lst ds =>
      obtain ⟨a, xs, B, G, e, h1, I, nb, hA⟩ := h
      unfold Rep
      exact ⟨a, xs, e, ⟨.inr ((hA a).mpr (.inl rfl)), h1⟩, it (fun b hb => (hA b).mpr (.inr hb)) I⟩
    | dct t ks vs =>
      obtain ⟨a, xs, B, G, e, h1, I, nb, hA⟩ := h
      unfold Rep
      exact ⟨a, xs, e, .inr ((hA a).mpr (.inl rfl)), h1, it (fun b hb => (hA b).mpr (.inr hb)) I⟩
    | _ => exact h.1.mono (fun a z => .inl z) fun _ _ e _ => e
end

/-! ### a state: what is frozen, the slots' footprints, the heap -/
structure Wd where
  Z : AS
  F : Nat → AS
  H : Hp
/-- from w to w': only what a slot owns may have changed -/
structure Ext (w w' : Wd) : Prop where
  z : ∀ a, w.Z a → w'.Z a
  fr : ∀ a o, w.H a = some o → (∀ i, ¬ w.F i a) → w'.H a = some o
  dm : ∀ a, w.H a ≠ none → w'.H a ≠ none
  nw : ∀ i a, w'.F i a → (∃ j, w.F j a) ∨ w.H a = none
  zn : ∀ a, w'.Z a → w.Z a ∨ (∃ j, w.F j a) ∨ w.H a = none
  zh : (∀ a, w.Z a → w.H a ≠ none) → ∀ a, w'.Z a → w'.H a ≠ none
theorem Ext.refl {w : Wd} : Ext w w := ⟨fun _ z => z, fun _ _ e _ => e, fun _ z => z, fun i _ z => .inl ⟨i, z⟩, fun _ z => .inl z, fun h => h⟩
theorem Ext.trans {u v w : Wd} (a : Ext u v) (b : Ext v w) : Ext u w where
  z := fun x h => b.z x (a.z x h)
  fr := fun x o e n => by
    have e1 := a.fr x o e n
    refine b.fr x o e1 fun i hi => ?_
    rcases a.nw i x hi with ⟨j, hj⟩ | hn
    · exact n j hj
    · rw [e] at hn; cases hn
  dm := fun x h => b.dm x (a.dm x h)
  nw := fun i x h => by
    rcases b.nw i x h with ⟨j, hj⟩ | hn
    · exact a.nw j x hj
    · by_cases q : u.H x = none
      · exact .inr q
      · exact absurd hn (a.dm x q)
  zn := fun x h => by
    rcases b.zn x h with hz | ⟨j, hj⟩ | hn
    · exact a.zn x hz
    · rcases a.nw j x hj with h' | h'
      · exact .inr (.inl h')
      · exact .inr (.inr h')
    · by_cases q : u.H x = none
      · exact .inr (.inr q)
      · exact absurd hn (a.dm x q)
  zh := fun h => b.zh (a.zh h)
abbrev owAt (ows : Ows) (i : Nat) : Ow := ows.getD i .fr
abbrev Pin := Nat → Option (V × Option D)
/-- the slots hold the data -/
structure SR (K : PySem.W.Frag) (pn : Pin) (ows : Ows) (env : Env) (σ : L2.St) (w : Wd) : Prop where
  len : σ.length = env.length
  at_ : ∀ i d, getS env i = some d → ∃ v, σ[i]? = some (some v) ∧ RO K w.H w.Z (owAt ows i) d v (w.F i)
  apart : ∀ i j a, w.F i a → w.F j a → i = j
  zf : ∀ i a, w.F i a → ¬ w.Z a
  fm : ∀ i a, w.F i a → ∃ o, w.H a = some o ∧ mutO o = true
  zt : ∀ a, w.Z a → w.H a ≠ none
  pin : ∀ i p, pn i = some p → σ[i]? = some (some p.1) ∧ ∀ d, p.2 = some d → ∀ d', getS env i = some d' → d' = d
/-- a value apart from all slots -/
structure Tmp (w w' : Wd) (A : AS) : Prop where
  z : ∀ a, A a → ¬ w'.Z a
  f : ∀ a i, A a → ¬ w'.F i a
  nw : ∀ a, A a → (∃ j, w.F j a) ∨ w.H a = none
theorem Tmp.nil {w w' : Wd} : Tmp w w' (fun _ => False) := ⟨fun _ h => h.elim, fun _ _ h => h.elim, fun _ h => h.elim⟩
end Mp
/-! Mp3: states, judgements. -/
namespace Mp
open PySem PySem.Spec PyProof.Rows L2

section
variable {K : PySem.W.Frag} {pn : Pin} {ows : Ows} {env : Env} {σ : L2.St} {w w' w1 w2 : Wd}
theorem getS_set {e : Env} {i j : Nat} {d d' : D} (h : getS (setS e i d) j = some d') : (j = i ∧ d' = d) ∨ (j ≠ i ∧ getS e j = some d') := by
  unfold getS setS at h
  by_cases q : i = j
  · subst q
    rw [List.getElem?_set] at h
    by_cases hl : i < e.length
    · simp [hl] at h; exact .inl ⟨rfl, h.symm⟩
    · simp [hl] at h
  · rw [List.getElem?_set_ne q] at h
    exact .inr ⟨fun z => q z.symm, h⟩
theorem getS_un {e : Env} {i j : Nat} {d' : D} (h : getS (unS e i) j = some d') : j ≠ i ∧ getS e j = some d' := by
  unfold getS unS at h
  by_cases q : i = j
  · subst q
    rw [List.getElem?_set] at h
    by_cases hl : i < e.length <;> simp [hl] at h
  · rw [List.getElem?_set_ne q] at h
    exact ⟨fun z => q z.symm, h⟩
theorem getS_lt {e : Env} {i : Nat} {d : D} (h : getS e i = some d) : i < e.length := by
  unfold getS at h
  rcases Nat.lt_or_ge i e.length with q | q
  · exact q
  · rw [List.getElem?_eq_none q] at h; simp at h
/-- a temp stays through an extension -/
theorem RO.ext {o : Ow} {d : D} {v : V} {A : AS} (s : SR K pn ows env σ w1) (hf : ∀ a i, A a → ¬ w1.F i a) (e : Ext w1 w2) (h : RO K w1.H w1.Z o d v A) : RO K w2.H w2.Z o d v A :=
  h.keep e.z fun a q ha z => e.fr a q ha fun i hi => by
    rcases z with z | z | z
    · exact s.zf i a hi z
    · exact hf a i z hi
    · obtain ⟨o', e1, m⟩ := s.fm i a hi
      rw [ha] at e1; cases e1
      rw [z] at m; cases m
theorem Rep.ext {d : D} {v : V} (s : SR K pn ows env σ w1) (e : Ext w1 w2) (h : Rep K w1.H w1.Z d v) : Rep K w2.H w2.Z d v :=
  (RO.ext (o := .fr) (A := fun _ => False) s (fun _ _ z => z.elim) e ⟨h, fun _ z => z⟩).1
theorem Reps.ext {d : List D} {v : List V} (s : SR K pn ows env σ w1) (e : Ext w1 w2) (h : Reps K w1.H w1.Z d v) : Reps K w2.H w2.Z d v :=
  h.mono e.z fun a q ha z => e.fr a q ha fun i hi => by
    rcases z with z | z
    · exact s.zf i a hi z
    · obtain ⟨o', e1, m⟩ := s.fm i a hi
      rw [ha] at e1; cases e1
      rw [z] at m; cases m
theorem Tmp.ext {A : AS} (s : SR K pn ows env σ w1) (t : Tmp w w1 A) (hA : ∀ a, A a → w1.H a ≠ none) (e0 : Ext w w1) (e : Ext w1 w2) : Tmp w w2 A where
  z := fun a h z => by
    rcases e.zn a z with q | ⟨j, q⟩ | q
    · exact t.z a h q
    · exact t.f a j h q
    · exact hA a h q
  f := fun a i h z => by
    rcases e.nw i a z with ⟨j, q⟩ | q
    · exact t.f a j h q
    · exact hA a h q
  nw := t.nw
theorem Tmp.pre {A : AS} (e : Ext w w1) (t : Tmp w1 w2 A) : Tmp w w2 A := ⟨t.z, t.f, fun a h => by
  rcases t.nw a h with ⟨j, q⟩ | q
  · exact e.nw j a q
  · by_cases n : w.H a = none
    · exact .inr n
    · exact absurd q (e.dm a n)⟩
/-- a slot's thing is frozen -/
def Wd.fz (w : Wd) (i : Nat) : Wd := ⟨fun a => w.Z a ∨ w.F i a, fun j a => j ≠ i ∧ w.F j a, w.H⟩
theorem Ext.fz (w : Wd) (i : Nat) (hF : ∀ a, w.F i a → w.H a ≠ none) : Ext w (w.fz i) where
  zh := fun h a z => z.elim (h a) (hF a)
  z := fun _ h => .inl h
  fr := fun _ _ e _ => e
  dm := fun _ h => h
  nw := fun j _ h => .inl ⟨j, h.2⟩
  zn := fun _ h => h.elim .inl fun q => .inr (.inl ⟨i, q⟩)
theorem owAt_set {i j : Nat} {o : Ow} (h : j ≠ i) : owAt (ows.set i o) j = owAt ows j := by
  unfold owAt
  simp only [List.getD_eq_getElem?_getD]
  rw [List.getElem?_set_ne (Ne.symm h)]
theorem owAt_self {i : Nat} : owAt (ows.set i .fr) i = .fr := by
  unfold owAt
  rw [List.getD_eq_getElem?_getD]
  by_cases h : i < ows.length
  · rw [List.getElem?_set_self h]; rfl
  · rw [List.getElem?_eq_none (by simp; omega)]; rfl
theorem owAt_self' {i : Nat} {o : Ow} (h : i < ows.length) : owAt (ows.set i o) i = o := by
  unfold owAt
  simp only [List.getD_eq_getElem?_getD]
  rw [List.getElem?_set_self h]
  rfl
theorem SR.fne {i : Nat} (s : SR K pn ows env σ w) (a : Addr) (h : w.F i a) : w.H a ≠ none := by
  obtain ⟨o, e, _⟩ := s.fm i a h
  rw [e]; simp
theorem SR.fz (s : SR K pn ows env σ w) (i : Nat) : SR K pn (ows.set i .fr) env σ (w.fz i) where
  len := s.len
  at_ := fun j d h => by
    obtain ⟨v, h1, h2⟩ := s.at_ j d h
    refine ⟨v, h1, ?_⟩
    by_cases q : j = i
    · subst q
      rw [owAt_self]
      exact ⟨h2.fz, fun a z => z.1 rfl⟩
    · rw [owAt_set q]
      have := h2.keep (H' := w.H) (Z' := (w.fz i).Z) (fun a z => .inl z) fun _ _ e _ => e
      refine cast ?_ this
      congr 1
      funext a
      exact propext ⟨fun z => ⟨q, z⟩, fun z => z.2⟩
  apart := fun j k a h1 h2 => s.apart j k a h1.2 h2.2
  zf := fun j a h z => by
    rcases z with z | z
    · exact s.zf j a h.2 z
    · exact h.1 (s.apart j i a h.2 z)
  fm := fun j a h => s.fm j a h.2
  zt := fun a z => by
    rcases z with z | z
    · exact s.zt a z
    · obtain ⟨o, e, _⟩ := s.fm i a z
      show w.H a ≠ none
      rw [e]; simp
  pin := s.pin
/-- several slots frozen -/
def fzAll (ows : Ows) : List Nat → Ows
  | [] => ows
  | i :: is => fzAll (ows.set i .fr) is
theorem SR.fzAll : ∀ (is : List Nat) {ows : Ows} {w : Wd}, SR K pn ows env σ w → ∃ w', Ext w w' ∧ w'.H = w.H ∧ SR K pn (fzAll ows is) env σ w'
  | [], _, w, s => ⟨w, Ext.refl, rfl, s⟩
  | i :: is, _, w, s => by
    obtain ⟨w', e, h, s'⟩ := SR.fzAll is (s.fz i)
    exact ⟨w', (Ext.fz w i s.fne).trans e, h, s'⟩
/-- weaker ownership: each as it was or frozen -/
def weakB : Nat → Ows → Ows → Bool
  | _, [], [] => true
  | i, a :: as, b :: bs => (decide (a = b) || decide (b = .fr)) && weakB (i + 1) as bs
  | _, _, _ => false
theorem SR.congr {ows' : Ows} (s : SR K pn ows env σ w) (h : ∀ i, owAt ows' i = owAt ows i) : SR K pn ows' env σ w :=
  ⟨s.len, fun i d e => by rw [h]; exact s.at_ i d e, s.apart, s.zf, s.fm, s.zt, s.pin⟩
theorem weak_at : ∀ {n : Nat} {a b : Ows}, weakB n a b = true → ∀ i, owAt b i = owAt a i ∨ owAt b i = .fr
  | _, [], [], _, i => .inl rfl
  | _, _ :: _, [], h, _ => by simp [weakB] at h
  | _, [], _ :: _, h, _ => by simp [weakB] at h
  | n, x :: xs, y :: ys, h, i => by
    simp [weakB] at h
    cases i with
    | zero => rcases h.1 with e | e
              · exact .inl (by simp [owAt, e])
              · exact .inr (by simp [owAt, e])
    | succ i => simpa [owAt] using weak_at (n := n + 1) (a := xs) (b := ys) h.2 i
theorem weak_len : ∀ {n : Nat} {a b : Ows}, weakB n a b = true → a.length = b.length
  | _, [], [], _ => rfl
  | _, _ :: _, [], h => by simp [weakB] at h
  | _, [], _ :: _, h => by simp [weakB] at h
  | n, x :: xs, y :: ys, h => by simp [weakB] at h; simp [weak_len (n := n + 1) h.2]
theorem fzAll_at : ∀ (is : List Nat) (ows : Ows) (i : Nat), owAt (fzAll ows is) i = if i ∈ is then .fr else owAt ows i
  | [], _, _ => by simp [Mp.fzAll]
  | j :: is, ows, i => by
    rw [Mp.fzAll, fzAll_at is]
    by_cases h : i ∈ is
    · rw [if_pos h, if_pos (List.mem_cons_of_mem _ h)]
    · by_cases q : i = j
      · subst q
        rw [if_neg h, owAt_self, if_pos List.mem_cons_self]
      · rw [if_neg h, owAt_set q, if_neg]
        intro m
        rcases List.mem_cons.mp m with e | e
        · exact q e
        · exact h e
theorem SR.weak {ows' : Ows} (s : SR K pn ows env σ w) (h : weakB 0 ows ows' = true) : ∃ w', Ext w w' ∧ w'.H = w.H ∧ SR K pn ows' env σ w' := by
  obtain ⟨w', e, eh, s'⟩ := s.fzAll ((List.range ows.length).filter fun i => decide (owAt ows' i = .fr))
  refine ⟨w', e, eh, s'.congr fun i => ?_⟩
  rw [fzAll_at]
  split
  · rename_i hm
    exact of_decide_eq_true (List.mem_filter.mp hm).2
  · rename_i hm
    rcases weak_at h i with q | q
    · exact q
    · by_cases hl : i < ows.length
      · exact absurd (List.mem_filter.mpr ⟨List.mem_range.mpr hl, decide_eq_true q⟩) hm
      · rw [q]
        unfold owAt
        rw [List.getD_eq_getElem?_getD, List.getElem?_eq_none (by omega)]
        rfl
/-- a slot is emptied, its thing taken out -/
def Wd.out (w : Wd) (i : Nat) : Wd := ⟨w.Z, fun j a => j ≠ i ∧ w.F j a, w.H⟩
theorem Ext.out (w : Wd) (i : Nat) : Ext w (w.out i) := ⟨fun _ h => h, fun _ _ e _ => e, fun _ h => h, fun j _ h => .inl ⟨j, h.2⟩, fun _ h => .inl h, fun h => h⟩
theorem SR.out {ows' : Ows} (s : SR K pn ows env σ w) (i : Nat) (ho : ∀ j, j ≠ i → owAt ows' j = owAt ows j) : SR K pn ows' (unS env i) σ (w.out i) where
  len := by rw [s.len]; unfold unS; simp
  at_ := fun j d h => by
    obtain ⟨q, h'⟩ := getS_un h
    obtain ⟨v, h1, h2⟩ := s.at_ j d h'
    refine ⟨v, h1, ?_⟩
    rw [ho j q]
    have e : (w.out i).F j = w.F j := by
      funext a
      exact propext ⟨fun z => z.2, fun z => ⟨q, z⟩⟩
    rw [e]
    exact h2
  apart := fun j k a h1 h2 => s.apart j k a h1.2 h2.2
  zf := fun j a h z => s.zf j a h.2 z
  fm := fun j a h => s.fm j a h.2
  zt := s.zt
  pin := fun j p h => ⟨(s.pin j p h).1, fun d hd d' hg => (s.pin j p h).2 d hd d' (getS_un hg).2⟩
/-- a temp is stored into a slot -/
def Wd.put (w : Wd) (i : Nat) (A : AS) : Wd := ⟨w.Z, fun j a => if j = i then A a else w.F j a, w.H⟩
theorem SR.put {o : Ow} {d : D} {v : V} {A : AS} {ows' : Ows} (s : SR K pn ows env σ w) (i : Nat) (hp : pn i = none) (ho : ∀ j, j ≠ i → owAt ows' j = owAt ows j) (hoi : owAt ows' i = o) (r : RO K w.H w.Z o d v A)
    (tz : ∀ a, A a → ¬ w.Z a) (tf : ∀ a j, A a → ¬ w.F j a) : SR K pn ows' (setS env i d) (σ.set i (some v)) (w.put i A) where
  len := by rw [List.length_set, s.len]; unfold setS; simp
  at_ := fun j d' h => by
    have hi := getS_lt h
    rcases getS_set h with ⟨rfl, rfl⟩ | ⟨q, h'⟩
    · refine ⟨v, List.getElem?_set_self (by rw [s.len]; simpa [setS] using hi), ?_⟩
      rw [hoi]
      have e : (w.put j A).F j = A := by funext a; simp [Wd.put]
      rw [e]
      exact r
    · obtain ⟨v', h1, h2⟩ := s.at_ j d' h'
      refine ⟨v', by rw [List.getElem?_set_ne (Ne.symm q)]; exact h1, ?_⟩
      rw [ho j q]
      have e : (w.put i A).F j = w.F j := by funext a; simp [Wd.put, q]
      rw [e]
      exact h2
  apart := fun j k a h1 h2 => by
    simp only [Wd.put] at h1 h2
    split at h1 <;> split at h2
    · omega
    · exact absurd h2 (tf a k h1)
    · exact absurd h1 (tf a j h2)
    · exact s.apart j k a h1 h2
  zf := fun j a h z => by
    simp only [Wd.put] at h
    split at h
    · exact tz a h z
    · exact s.zf j a h z
  fm := fun j a h => by
    simp only [Wd.put] at h
    split at h
    · exact r.there a h
    · exact s.fm j a h
  zt := s.zt
  pin := fun j v' h => by
    by_cases q : i = j
    · subst q; rw [hp] at h; cases h
    · rw [List.getElem?_set_ne q]
      refine ⟨(s.pin j v' h).1, fun d hd d' hg => (s.pin j v' h).2 d hd d' ?_⟩
      rcases getS_set hg with ⟨e, _⟩ | ⟨_, e⟩
      · exact absurd e.symm q
      · exact e
theorem Ext.put {A : AS} {i : Nat} (e : Ext w w1) (t : Tmp w w1 A) : Ext w (w1.put i A) where
  z := e.z
  fr := e.fr
  dm := e.dm
  nw := fun j a h => by
    simp only [Wd.put] at h
    split at h
    · exact t.nw a h
    · exact e.nw j a h
  zn := e.zn
  zh := e.zh
end

/-! ### judgements -/
structure Cc where
  K : PySem.W.Frag
  pn : Pin
  x : Ows
  r : Ows
  ro : Ow
  W : WX
/-- nothing that was has changed -/
def Quiet (w w' : Wd) : Prop := ∀ a q, w.H a = some q → w'.H a = some q
def exK (c : Cc) (σ : L2.St) (w : Wd) (n : Str) (env' : Env) : Prop := ∀ w', Ext w w' → SR c.K c.pn c.x env' σ w' → c.W (.ref (He.ga c.K n)) none σ w'.H
/-- an expression, its value to be kept -/
def tV (c : Cc) (f : M D) (ows ows' : Ows) (o : Ow) (qt : Bool) : TE := fun σ H Q => ∃ w env, w.H = H ∧ SR c.K c.pn ows env σ w ∧ match f env with
  | .ok d env' => ∀ w' v A, Ext w w' → SR c.K c.pn ows' env' σ w' → RO c.K w'.H w'.Z o d v A → Tmp w w' A → (qt = true → Quiet w w') → Q v w'.H
  | .ex n env' => exK c σ w n env'
  | .no => False
/-- an expression, its value to be looked at -/
def tR (c : Cc) (f : M D) (ows ows' : Ows) (o : Ow) (qt : Bool) : TE := fun σ H Q => ∃ w env, w.H = H ∧ SR c.K c.pn ows env σ w ∧ match f env with
  | .ok d env' => ∀ w' v A, Ext w w' → SR c.K c.pn ows' env' σ w' → RO c.K w'.H w'.Z o d v A → (qt = true → Quiet w w') → Q v w'.H
  | .ex n env' => exK c σ w n env'
  | .no => False
def tB_ (c : Cc) (f : M Bool) (ows ows' : Ows) (qt : Bool) : TT := fun σ H Q => ∃ w env, w.H = H ∧ SR c.K c.pn ows env σ w ∧ match f env with
  | .ok b env' => ∀ w', Ext w w' → SR c.K c.pn ows' env' σ w' → (qt = true → Quiet w w') → Q b w'.H
  | .ex n env' => exK c σ w n env'
  | .no => False
/-- a state behind; none: never reached -/
def SRq (K : PySem.W.Frag) (pn : Pin) (oo : Option Ows) (env : Env) (σ : L2.St) (w : Wd) : Prop := ∃ o, oo = some o ∧ SR K pn o env σ w
def tS (c : Cc) (f : M Fl) (ows : Ows) (onx obk oct : Option Ows) : TS := fun D σ H => ∃ w env, w.H = H ∧ SR c.K c.pn ows env σ w ∧ match f env with
  | .ok .nx env' => ∀ w' σ', Ext w w' → SRq c.K c.pn onx env' σ' w' → D.nx σ' w'.H
  | .ok .bk env' => ∀ w' σ', Ext w w' → SRq c.K c.pn obk env' σ' w' → D.bk σ' w'.H
  | .ok .ct env' => ∀ w' σ', Ext w w' → SRq c.K c.pn oct env' σ' w' → D.ct σ' w'.H
  | .ok (.rt d) env' => ∀ w' σ' v A, Ext w w' → SR c.K c.pn c.r env' σ' w' → RO c.K w'.H w'.Z c.ro d v A → Tmp w w' A → D.rt v w'.H
  | .ex n env' => ∀ w' σ', Ext w w' → SR c.K c.pn c.x env' σ' w' → c.W (.ref (He.ga c.K n)) none σ' w'.H
  | .no => False
theorem exK.mono {c : Cc} {σ : L2.St} {w w1 : Wd} {n : Str} {e : Env} (x : Ext w w1) (h : exK c σ w n e) : exK c σ w1 n e := fun w' e1 s => h w' (x.trans e1) s

theorem wPE {X : Cx} {e : Expr} {t t' : TE} (h : PE X e t) (k : ∀ σ H Q, t' σ H Q → t σ H Q) : PE X e t' := ⟨fun pins s σ H Q I q => h.run pins s σ H Q I (k σ H Q q)⟩
theorem wPT {X : Cx} {e : Expr} {t t' : TT} (h : PT X e t) (k : ∀ σ H Q, t' σ H Q → t σ H Q) : PT X e t' := ⟨fun pins s σ H Q I q => h.run pins s σ H Q I (k σ H Q q)⟩
theorem wPS {X : Cx} {e : Stmt} {t t' : TS} (h : PS X e t) (k : ∀ D σ H, t' D σ H → t D σ H) : PS X e t' := ⟨fun pins s σ H D I q => h.run pins s σ H D I (k D σ H q)⟩
theorem wPSs {X : Cx} {e : List Stmt} {t t' : TS} (h : PSs X e t) (k : ∀ D σ H, t' D σ H → t D σ H) : PSs X e t' := ⟨fun pins s σ H D I q => h.run pins s σ H D I (k D σ H q)⟩
end Mp
/-! Mp4: operators. -/
namespace Mp
open PySem PySem.Spec PyProof.Rows L2

/-- something new is laid, all else stays -/
structure Alloc (w w' : Wd) (A : AS) : Prop where
  z : w'.Z = w.Z
  f : w'.F = w.F
  h : ∀ a q, w.H a = some q → w'.H a = some q
  n : ∀ a, A a → w.H a = none
section
variable {K : PySem.W.Frag} {pn : Pin} {ows : Ows} {env : Env} {σ : L2.St} {w w' w0 : Wd} {A : AS}
theorem Alloc.refl : Alloc w w (fun _ => False) := ⟨rfl, rfl, fun _ _ e => e, fun _ h => h.elim⟩
theorem Alloc.ext (a : Alloc w w' A) : Ext w w' where
  z := fun _ h => by rw [a.z]; exact h
  fr := fun x o e _ => a.h x o e
  dm := fun x h => by
    cases e : w.H x with
    | none => exact absurd e h
    | some q => rw [a.h x q e]; simp
  nw := fun i x h => by rw [a.f] at h; exact .inl ⟨i, h⟩
  zn := fun x h => by rw [a.z] at h; exact .inl h
  zh := fun k x h => by
    rw [a.z] at h
    cases e : w.H x with
    | none => exact absurd e (k x h)
    | some q => rw [a.h x q e]; simp
theorem Alloc.keep {o : Ow} {d : D} {v : V} {B : AS} (a : Alloc w w' A) (h : RO K w.H w.Z o d v B) : RO K w'.H w'.Z o d v B := h.keep (fun x z => by rw [a.z]; exact z) fun x q e _ => a.h x q e
theorem Alloc.sr (a : Alloc w w' A) (s : SR K pn ows env σ w) : SR K pn ows env σ w' where
  len := s.len
  at_ := fun i d e => by
    obtain ⟨v, h1, h2⟩ := s.at_ i d e
    exact ⟨v, h1, by rw [a.f]; exact a.keep h2⟩
  apart := by rw [a.f]; exact s.apart
  zf := by rw [a.f, a.z]; exact s.zf
  fm := fun i x h => by
    rw [a.f] at h
    obtain ⟨o, e, m⟩ := s.fm i x h
    exact ⟨o, a.h x o e, m⟩
  zt := fun x h => by
    rw [a.z] at h
    cases e : w.H x with
    | none => exact absurd e (s.zt x h)
    | some q => rw [a.h x q e]; simp
  pin := s.pin
theorem Alloc.tmp (a : Alloc w w' A) (s : SR K pn ows env σ w) : Tmp w w' A where
  z := fun x h z => by
    rw [a.z] at z
    exact s.zt x z (a.n x h)
  f := fun x i h z => by
    rw [a.f] at z
    obtain ⟨o, e, _⟩ := s.fm i x z
    rw [a.n x h] at e; cases e
  nw := fun x h => .inr (a.n x h)
theorem Alloc.quiet (a : Alloc w w' A) : Quiet w w' := a.h
def Wd.upd (w : Wd) (p : Addr) (o : HO) : Wd := ⟨w.Z, w.F, L2.upd w.H p o⟩
theorem Alloc.new {p : Addr} {o : HO} (h : w.H p = none) : Alloc w (w.upd p o) (fun a => a = p) where
  z := rfl
  f := rfl
  h := fun a q e => by
    show L2.upd w.H p o a = some q
    rw [upd_ne (ne_of_none e h)]
    exact e
  n := fun a e => by rw [e]; exact h
theorem Alloc.new0 {p : Addr} {o : HO} (h : w.H p = none) : Alloc w (w.upd p o) (fun _ => False) := ⟨rfl, rfl, (Alloc.new h).h, fun _ z => z.elim⟩

theorem RO.rep {o : Ow} {d : D} {v : V} {H : Hp} {Z : AS} (h : RO K H Z o d v A) (h1 : ∀ ds, d ≠ .lst ds) (h2 : ∀ t ks vs, d ≠ .dct t ks vs) : Rep K H Z d v := by
  cases o with
  | fr => exact h.1
  | ow o => exact ((RO.scal h1 h2).mp h).1
theorem RO.of {o : Ow} {d : D} {v : V} {H : Hp} {Z : AS} (h : Rep K H Z d v) (h1 : ∀ ds, d ≠ .lst ds) (h2 : ∀ t ks vs, d ≠ .dct t ks vs) : RO K H Z o d v (fun _ => False) := by
  cases o with
  | fr => exact ⟨h, fun _ z => z⟩
  | ow o => exact (RO.scal h1 h2).mpr ⟨h, fun _ z => z⟩
section
variable {o : Ow} {v : V} {H : Hp} {Z : AS}
theorem RO.int {i : Int} (h : RO K H Z o (.int i) v A) : v = .int i := h.rep (fun _ q => by cases q) (fun _ _ _ q => by cases q)
theorem RO.bl {i : Bool} (h : RO K H Z o (.bl i) v A) : v = .bl i := h.rep (fun _ q => by cases q) (fun _ _ _ q => by cases q)
theorem RO.str {i : Str} (h : RO K H Z o (.str i) v A) : v = .str i := h.rep (fun _ q => by cases q) (fun _ _ _ q => by cases q)
theorem RO.non (h : RO K H Z o .non v A) : v = .non := h.rep (fun _ q => by cases q) (fun _ _ _ q => by cases q)
theorem RO.tup {ds : List D} (h : RO K H Z o (.tup ds) v A) : ∃ a xs, v = .ref a ∧ SqT K H a xs ∧ Reps K H Z ds xs := h.rep (fun _ q => by cases q) (fun _ _ _ q => by cases q)
theorem RO.rol {ds : List D} (h : RO K H Z o (.rol ds) v A) : ∃ a xs, v = .ref a ∧ RdL K H a xs ∧ Reps K H Z ds xs := h.rep (fun _ q => by cases q) (fun _ _ _ q => by cases q)
theorem RO.lst {ds : List D} (h : RO K H Z o (.lst ds) v A) : ∃ a xs, v = .ref a ∧ H a = some (.lst xs) ∧ xs.length = ds.length := by
  cases o with
  | fr =>
    obtain ⟨a, xs, e, h1, h2⟩ := (show ∃ a xs, v = V.ref a ∧ FzL H Z a xs ∧ Reps K H Z ds xs from h.1)
    exact ⟨a, xs, e, h1.2, h2.len⟩
  | ow o =>
    obtain ⟨a, xs, B, G, e, h1, I, _⟩ := h
    exact ⟨a, xs, e, h1, I.len⟩
end
theorem RO.mkint {o : Ow} {i : Int} {H : Hp} {Z : AS} : RO K H Z o (.int i) (.int i) (fun _ => False) := RO.of rfl (fun _ q => by cases q) (fun _ _ _ q => by cases q)
theorem RO.mkbl {o : Ow} {i : Bool} {H : Hp} {Z : AS} : RO K H Z o (.bl i) (.bl i) (fun _ => False) := RO.of rfl (fun _ q => by cases q) (fun _ _ _ q => by cases q)
theorem RO.mkstr {o : Ow} {i : Str} {H : Hp} {Z : AS} : RO K H Z o (.str i) (.str i) (fun _ => False) := RO.of rfl (fun _ q => by cases q) (fun _ _ _ q => by cases q)
theorem RO.mknon {o : Ow} {H : Hp} {Z : AS} : RO K H Z o .non .non (fun _ => False) := RO.of rfl (fun _ q => by cases q) (fun _ _ _ q => by cases q)
theorem RO.mktup {o : Ow} {H : Hp} {Z : AS} {ds : List D} {a : Addr} {xs : List V} (h : SqT K H a xs) (r : Reps K H Z ds xs) : RO K H Z o (.tup ds) (.ref a) (fun _ => False) := RO.of ⟨a, xs, rfl, h, r⟩ (fun _ q => by cases q) (fun _ _ _ q => by cases q)
/-- items at hand may be read as frozen data -/
def shal : Ow → Bool
  | .fr => true
  | .ow .fr => true
  | _ => false
theorem RO.lstR {o : Ow} {ds : List D} {v : V} {H : Hp} {Z : AS} (sh : shal o = true) (h : RO K H Z o (.lst ds) v A) : ∃ a xs, v = .ref a ∧ H a = some (.lst xs) ∧ Reps K H Z ds xs := by
  cases o with
  | fr =>
    obtain ⟨a, xs, e, h1, h2⟩ := (show ∃ a xs, v = V.ref a ∧ FzL H Z a xs ∧ Reps K H Z ds xs from h.1)
    exact ⟨a, xs, e, h1.2, h2⟩
  | ow o =>
    cases o with
    | fr =>
      obtain ⟨a, xs, B, G, e, h1, I, _⟩ := h
      exact ⟨a, xs, e, h1, Reps.of I.len fun k d x e1 e2 => (I.at_ k d x e1 e2).1⟩
    | ow o => cases sh
theorem Items.nil {R : D → V → AS → Prop} : Items R [] [] (fun _ => False) (fun _ _ => False) := ⟨rfl, fun _ _ _ e => by simp at e, fun _ _ _ h => h.elim, fun b => ⟨fun h => h.elim, fun ⟨k, h, _⟩ => by simp at h⟩⟩
theorem Items.frs {H : Hp} {Z : AS} {ds : List D} {xs : List V} (h : Reps K H Z ds xs) : Items (RO K H Z .fr) ds xs (fun _ => False) (fun _ _ => False) :=
  ⟨h.len, fun k d x e1 e2 => by
    obtain ⟨y, e3, r⟩ := h.get e1
    rw [e2] at e3; cases e3
    exact ⟨r, fun _ z => z⟩, fun _ _ _ z => z.elim, fun b => ⟨fun z => z.elim, fun ⟨_, _, z⟩ => z.elim⟩⟩
theorem RO.newl {p : Addr} {ds : List D} {xs : List V} (hp : w.H p = none) (r : Reps K w.H w.Z ds xs) : RO K (w.upd p (.lst xs)).H (w.upd p (.lst xs)).Z (.ow .fr) (.lst ds) (.ref p) (fun a => a = p) := by
  have a := Alloc.new (w := w) (o := .lst xs) hp
  have r' : Reps K (w.upd p (.lst xs)).H (w.upd p (.lst xs)).Z ds xs := r.mono (fun _ z => z) fun x q e _ => a.h x q e
  exact ⟨p, xs, fun _ => False, fun _ _ => False, rfl, upd_same, Items.frs r', fun z => z, fun b => ⟨.inl, fun z => z.elim id False.elim⟩⟩
theorem RO.newt {o : Ow} {p : Addr} {ds : List D} {xs : List V} (hp : w.H p = none) (r : Reps K w.H w.Z ds xs) : RO K (w.upd p (.tup xs)).H (w.upd p (.tup xs)).Z o (.tup ds) (.ref p) (fun _ => False) := by
  have a := Alloc.new (w := w) (o := .tup xs) hp
  have r' : Reps K (w.upd p (.tup xs)).H (w.upd p (.tup xs)).Z ds xs := r.mono (fun _ z => z) fun x q e _ => a.h x q e
  exact RO.mktup (SqT.of upd_same) r'
theorem Reps.append {H : Hp} {Z : AS} : ∀ {ds es : List D} {xs ys : List V}, Reps K H Z ds xs → Reps K H Z es ys → Reps K H Z (ds ++ es) (xs ++ ys)
  | [], _, _, _, h, g => by unfold Reps at h; subst h; exact g
  | d :: ds, es, xs, ys, h, g => by
    unfold Reps at h
    obtain ⟨x, r, rfl, h1, h2⟩ := h
    show Reps K H Z (d :: (ds ++ es)) (x :: (r ++ ys))
    unfold Reps
    exact ⟨x, _, rfl, h1, Reps.append h2 g⟩
theorem sz_eq : SZ = sizeLine := by rw [sizeLine_eq]; rfl
end

/-! ### two operands -/
/-- the rule r gives what g says -/
def Ok2 (K : PySem.W.Frag) (g : D → D → Option D) (o : Ow) (r : R2) (o1 o2 : Ow) : Prop := ∀ (w : Wd) (d1 d2 : D) (v1 v2 : V) (A1 A2 : AS) (d : D) (Q : VK), RO K w.H w.Z o1 d1 v1 A1 → RO K w.H w.Z o2 d2 v2 A2 → g d1 d2 = some d →
  (∀ w' v A, Alloc w w' A → RO K w'.H w'.Z o d v A → Q v w'.H) → r v1 v2 w.H Q
theorem ok2_imp {c : Cc} {fa fb : M D} {ows ows1 ows2 : Ows} {o o1 o2 : Ow} {q1 : Bool} {g : D → D → Option D} {r : R2} (k : Ok2 c.K g o r o1 o2) : ∀ σ H Q, tV c (op2 g fa fb) ows ows2 o q1 σ H Q → tOp r (tR c fa ows ows1 o1 q1) (tR c fb ows1 ows2 o2 true) σ H Q := by
  intro σ H Q ⟨w, env, hw, sr, h⟩
  refine ⟨w, env, hw, sr, ?_⟩
  unfold op2 M.bind at h
  cases e1 : fa env with
  | no => rw [e1] at h; exact h
  | ex n env1 => rw [e1] at h; exact h
  | ok d1 env1 =>
    rw [e1] at h
    intro w1 v1 A1 x1 s1 r1 z1
    refine ⟨w1, env1, rfl, s1, ?_⟩
    simp only at h
    cases e2 : fb env1 with
    | no => rw [e2] at h; exact h
    | ex n env2 => rw [e2] at h; exact exK.mono x1 h
    | ok d2 env2 =>
      rw [e2] at h
      intro w2 v2 A2 x2 s2 r2 z2
      have r1' : RO c.K w2.H w2.Z o1 d1 v1 A1 := r1.keep x2.z fun a q e _ => z2 rfl a q e
      simp only [M.opt] at h
      cases e3 : g d1 d2 with
      | none => rw [e3] at h; exact h.elim
      | some d =>
        rw [e3] at h
        refine k w2 d1 d2 v1 v2 A1 A2 d Q r1' r2 e3 fun w3 v A al ro => ?_
        exact h w3 v A ((x1.trans x2).trans al.ext) (al.sr s2) ro ((al.tmp s2).pre (x1.trans x2)) fun q => fun a b e => al.h a b (z2 rfl a b (z1 q a b e))
theorem pe_ok2 {X : Cx} {c : Cc} {a b pe : Expr} {fa fb : M D} {ows ows1 ows2 : Ows} {o o1 o2 : Ow} {q1 : Bool} {g : D → D → Option D} {r : R2} (ha : PE X a (tR c fa ows ows1 o1 q1)) (hb : PE X b (tR c fb ows1 ows2 o2 true))
    (hop : ∀ {ta tb : TE}, PE X a ta → PE X b tb → PE X pe (tOp r ta tb)) (k : Ok2 c.K g o r o1 o2) : PE X pe (tV c (op2 g fa fb) ows ows2 o q1) := wPE (hop ha hb) (ok2_imp k)
theorem Ok2.or1 {K : PySem.W.Frag} {g : D → D → Option D} {o o1 o2 : Ow} {r r' : R2} (h : ∀ (w : Wd) (d1 d2 : D) (v1 v2 : V) (A1 A2 : AS) (d : D) (Q : VK), RO K w.H w.Z o1 d1 v1 A1 → RO K w.H w.Z o2 d2 v2 A2 → g d1 d2 = some d →
    (∀ w' v A, Alloc w w' A → RO K w'.H w'.Z o d v A → Q v w'.H) → r v1 v2 w.H Q ∨ r' v1 v2 w.H Q) : Ok2 K g o (fun x y H Q => r x y H Q ∨ r' x y H Q) o1 o2 := h

section
variable {X : Cx} {o1 o2 : Ow}
/-- a value that hangs on nothing -/
theorem fin_int {K : PySem.W.Frag} {w : Wd} {o : Ow} {d : D} {i : Int} {Q : VK} (e : D.int i = d) (k : ∀ w' v A, Alloc w w' A → RO K w'.H w'.Z o d v A → Q v w'.H) : Q (.int i) w.H := by
  subst e; exact k w _ _ Alloc.refl RO.mkint
theorem fin_bl {K : PySem.W.Frag} {w : Wd} {o : Ow} {d : D} {i : Bool} {Q : VK} (e : D.bl i = d) (k : ∀ w' v A, Alloc w w' A → RO K w'.H w'.Z o d v A → Q v w'.H) : Q (.bl i) w.H := by
  subst e; exact k w _ _ Alloc.refl RO.mkbl
theorem fin_str {K : PySem.W.Frag} {w : Wd} {o : Ow} {d : D} {i : Str} {Q : VK} (e : D.str i = d) (k : ∀ w' v A, Alloc w w' A → RO K w'.H w'.Z o d v A → Q v w'.H) : Q (.str i) w.H := by
  subst e; exact k w _ _ Alloc.refl RO.mkstr

abbrev rAddS : R2 := fun x y H Q => ∃ i j, x = .str i ∧ y = .str j ∧ i.length + j.length ≤ sizeLine ∧ Q (.str (i ++ j)) H
abbrev rAddA (K : PySem.W.Frag) : R2 := fun x y H Q => rI0 (fun i j => .int (i + j)) x y H Q ∨ rAddS x y H Q ∨ rCat x y H Q ∨ rCatA K x y H Q
theorem op_addA : OpR X (binaryOp .Add) (rAddA X.K) := op_add.or (op_add_str.or (op_cat.or op_catA))
theorem ok_add {K : PySem.W.Frag} (s1 : shal o1 = true) (s2 : shal o2 = true) : Ok2 K (binD .add) (.ow .fr) (rAddA K) o1 o2 := by
  intro w d1 d2 v1 v2 A1 A2 d Q r1 r2 e k
  have e' : addD d1 d2 = some d := e
  unfold addD at e'
  split at e'
  · cases e'
    exact .inl ⟨_, _, r1.int, r2.int, fin_int rfl k⟩
  · split at e'
    · rename_i hl
      cases e'
      exact .inr (.inl ⟨_, _, r1.str, r2.str, by rw [← sz_eq]; exact hl, fin_str rfl k⟩)
    · cases e'
  · split at e'
    · rename_i hl
      cases e'
      obtain ⟨a, xs, rfl, h1, q1⟩ := r1.lstR s1
      obtain ⟨b, ys, rfl, h2, q2⟩ := r2.lstR s2
      refine .inr (.inr (.inl ⟨a, b, xs, ys, rfl, rfl, h1, h2, by rw [q1.len, q2.len, ← sz_eq]; exact hl, fun p hp => ?_⟩))
      exact k (w.upd p (.lst (xs ++ ys))) _ _ (Alloc.new hp) (RO.newl hp (q1.append q2))
    · cases e'
  · split at e'
    · rename_i hl
      cases e'
      obtain ⟨a, xs, rfl, h1, q1⟩ := r1.tup
      obtain ⟨b, ys, rfl, h2, q2⟩ := r2.tup
      refine .inr (.inr (.inr ⟨a, b, xs, ys, rfl, rfl, h1, h2, by rw [q1.len, q2.len, ← sz_eq]; exact hl, fun e => ?_, fun _ e => ?_, fun _ _ p hp => ?_⟩))
      · subst e
        have e2 := List.eq_nil_of_length_eq_zero (q1.len.symm.trans rfl)
        subst e2
        exact k w _ _ Alloc.refl (RO.mktup h2 q2)
      · subst e
        have e2 := List.eq_nil_of_length_eq_zero (q2.len.symm.trans rfl)
        subst e2
        rw [List.append_nil] at k
        exact k w _ _ Alloc.refl (RO.mktup h1 q1)
      · exact k (w.upd p (.tup (xs ++ ys))) _ _ (Alloc.new0 hp) (RO.newt hp (q1.append q2))
    · cases e'
  · cases e'

theorem ok_sub {K : PySem.W.Frag} : Ok2 K (binD .sub) (.ow .fr) (rI0 fun i j => .int (i - j)) o1 o2 := by
  intro w d1 d2 v1 v2 A1 A2 d Q r1 r2 e k
  cases d1 <;> cases d2 <;> simp only [binD, reduceCtorEq, Option.some.injEq] at e
  exact ⟨_, _, r1.int, r2.int, fin_int e k⟩
abbrev rRepT1 (K : PySem.W.Frag) : R2 := fun x y H Q => ∃ l xs, x = .ref l ∧ y = .int 1 ∧ SqT K H l xs ∧ Q x H
theorem tuple_mul1 (l : Addr) (items : Array Value) (n : Nat) (dd : Option Addr) (sl : Array (Option Value)) (u : Tok) :
    Meets (Builtin.«tuple.__mul__» ⟨[.ref l, .int 1 u], []⟩) (fun _ R s => s.heap.get? l = some { cls := .type "tuple", dict := dd, data := .seq items n, slots := sl } ∧
      R (.ok (.ret (Value.ref l))) s) :=
  .of_wp fun prog w A R s h => by
    obtain ⟨hp, g, d, tk, os⟩ := s
    obtain ⟨hl, h⟩ := h
    have f1 := AutoSeq1.idx_int
    wp_walk using AutoSeq1.wpAny_loadPart' hl
    repeat (first
      | (refine wpAny_ite_false (by decide) ?_; wp_walk using AutoSeq1.wpAny_loadPart' hl)
      | (refine wpAny_ite_true (by simp) ?_; wp_walk using AutoSeq1.wpAny_loadPart' hl))
    exact ⟨_, rfl, h⟩
theorem op_repT1 : OpR X (binaryOp .Mult) (rRepT1 X.K) := by
  intro pins s σ H x y v u Q I rx ry h
  obtain ⟨l, xs, rfl, rfl, hT, q⟩ := h
  cases rx
  obtain ⟨t, rfl⟩ := ry
  obtain ⟨its, r, ⟨⟨cls, dd, data, sl⟩, ho, hc, n, hd⟩, hs⟩ := I.tuple hT
  simp only at hc hd
  subst hc hd
  exact wpAny_binaryOp_repeat_ref (T := "tuple") (U := "int") (by decide) ⟨_, ho, rfl⟩ (fun s' => typeIs_int s' 1 t) noFill_tuple_mul F.fills_int_mul F.slot_int_rmul repeat_tuple F.slot_int_index.lookup
    (call_meets F.slot_int_rmul (typeIs_int s 1 t) F.entry_int_rmul (F.args_int_rmul_2 _ _) (int_rmul_tuple 1 t l its.toArray n dd sl)
      ⟨ho, rfl, ⟨_, ho, rfl⟩, call_meets F.slot_tuple_mul ⟨_, ho, rfl⟩ F.entry_tuple_mul (F.args_tuple_mul_2 _ _) (tuple_mul1 l its.toArray n dd sl t) ⟨ho, ⟨.ref l, H, I, rfl, q⟩⟩⟩)
abbrev rMulA (K : PySem.W.Frag) : R2 := fun x y H Q => rI CMul (fun i j => .int (i * j)) x y H Q ∨ rRep x y H Q ∨ rRepT1 K x y H Q
theorem op_mulA : OpR X (binaryOp .Mult) (rMulA X.K) := op_mul.or (op_rep.or op_repT1)
theorem w64_ok {i j : Int} (h : (W64 i || W64 j) = true) : CMul i j := by
  unfold W64 at h
  simp only [Bool.or_eq_true, decide_eq_true_eq] at h
  unfold CMul
  have e : (2 : Int) ^ 64 = 18446744073709551616 := by decide
  rw [e]
  rcases h with h | h
  · exact .inl ⟨by omega, by omega⟩
  · exact .inr ⟨by omega, by omega⟩
theorem Reps.rep {K : PySem.W.Frag} {H : Hp} {Z : AS} {ds : List D} {xs : List V} (h : Reps K H Z ds xs) : ∀ n : Nat, Reps K H Z (List.replicate n ds).flatten (List.replicate n xs).flatten
  | 0 => by simp [Reps]
  | n + 1 => by
    rw [List.replicate_succ, List.replicate_succ, List.flatten_cons, List.flatten_cons]
    exact h.append (Reps.rep h n)
theorem ok_mul {K : PySem.W.Frag} (s1 : shal o1 = true) : Ok2 K (binD .mul) (.ow .fr) (rMulA K) o1 o2 := by
  intro w d1 d2 v1 v2 A1 A2 d Q r1 r2 e k
  cases d1 <;> cases d2 <;> simp only [binD, reduceCtorEq] at e
  · split at e
    · rename_i hw
      cases e
      exact .inl ⟨_, _, r1.int, r2.int, w64_ok hw, fin_int rfl k⟩
    · cases e
  · split at e
    · rename_i xs i hw
      cases e
      subst hw
      obtain ⟨a, ys, rfl, h1, q1⟩ := r1.tup
      exact .inr (.inr ⟨a, ys, rfl, r2.int, h1, k w _ _ Alloc.refl (RO.mktup h1 q1)⟩)
    · cases e
  · split at e
    · rename_i xs i hw
      simp only [Bool.and_eq_true, decide_eq_true_eq, B62] at hw
      cases e
      obtain ⟨a, ys, rfl, h1, q1⟩ := r1.lstR s1
      refine .inr (.inl ⟨a, i, ys, rfl, r2.int, h1, by have := hw.1; omega, by have := hw.1; omega, by rw [q1.len, ← sz_eq]; exact hw.2, fun p hp => ?_⟩)
      exact k (w.upd p (.lst (List.replicate i.toNat ys).flatten)) _ _ (Alloc.new hp) (RO.newl hp (q1.rep _))
    · cases e
theorem ok_fdiv {K : PySem.W.Frag} : Ok2 K (binD .fdiv) (.ow .fr) (rI CDiv fun i j => .int (i / j)) o1 o2 := by
  intro w d1 d2 v1 v2 A1 A2 d Q r1 r2 e k
  cases d1 <;> cases d2 <;> simp only [binD, reduceCtorEq] at e
  split at e
  · rename_i hw
    cases e
    exact ⟨_, _, r1.int, r2.int, hw, fin_int rfl k⟩
  · cases e
theorem ok_mod {K : PySem.W.Frag} : Ok2 K (binD .mod) (.ow .fr) (rI (fun _ j => 0 < j) fun i j => .int (i % j)) o1 o2 := by
  intro w d1 d2 v1 v2 A1 A2 d Q r1 r2 e k
  cases d1 <;> cases d2 <;> simp only [binD, reduceCtorEq] at e
  split at e
  · rename_i hw
    cases e
    exact ⟨_, _, r1.int, r2.int, hw, fin_int rfl k⟩
  · cases e
theorem ok_pow {K : PySem.W.Frag} : Ok2 K (binD .pow) (.ow .fr) (rI CPow fun i j => .int (i ^ j.toNat)) o1 o2 := by
  intro w d1 d2 v1 v2 A1 A2 d Q r1 r2 e k
  cases d1 <;> cases d2 <;> simp only [binD, reduceCtorEq] at e
  split at e
  · rename_i hw
    cases e
    exact ⟨_, _, r1.int, r2.int, ⟨hw.1, by have := hw.2.1; omega, by have := hw.2.2; omega⟩, fin_int rfl k⟩
  · cases e

/-! ### comparisons -/
mutual
theorem Rep.dp {K : PySem.W.Frag} {H : Hp} {Z : AS} : ∀ {d : D} {v : V}, d.toP.canLay0 = true → Rep K H Z d v → Dp K H v d.toP
  | .non, _, _, h => by unfold Rep at h; subst h; exact .non
  | .bl b, _, _, h => by unfold Rep at h; subst h; exact .bl b
  | .int i, _, _, h => by unfold Rep at h; subst h; exact .int i
  | .str x, _, _, h => by unfold Rep at h; subst h; exact .str x
  | .tup ds, _, c, h => by
    unfold Rep at h
    obtain ⟨a, xs, rfl, h1, h2⟩ := h
    unfold D.toP at c ⊢
    exact .tup h1 (Reps.dp (by simpa [PyData.canLay0] using c) h2)
  | .lst ds, _, c, h => by
    unfold Rep at h
    obtain ⟨a, xs, rfl, h1, h2⟩ := h
    unfold D.toP at c ⊢
    exact .lst (SqL.of h1.2) (Reps.dp (by simpa [PyData.canLay0] using c) h2)
  | .rol ds, _, c, h => by simp [D.toP, PyData.canLay0] at c
  | .dct _ _ _, _, c, h => by simp [D.toP, PyData.canLay0] at c
  | .exc _, _, c, h => by simp [D.toP, PyData.canLay0] at c
theorem Reps.dp {K : PySem.W.Frag} {H : Hp} {Z : AS} : ∀ {ds : List D} {xs : List V}, PyData.canLayAll0 (D.toPs ds) = true → Reps K H Z ds xs → DpAll K H xs (D.toPs ds)
  | [], _, _, h => by unfold Reps at h; subst h; exact .nil
  | d :: ds, _, c, h => by
    unfold Reps at h
    obtain ⟨x, r, rfl, h1, h2⟩ := h
    unfold D.toPs at c ⊢
    simp only [PyData.canLayAll0, Bool.and_eq_true] at c
    exact .cons (Rep.dp c.1 h1) (Reps.dp c.2 h2)
end
theorem RO.dp {K : PySem.W.Frag} {H : Hp} {Z : AS} {o : Ow} {d : D} {v : V} {A : AS} (h : RO K H Z o d v A) (c : d.shp = true) : Dp K H v d.toP := h.fz.dp (SeqAt.canLay_of_shaped c)
theorem eqD_some {a b : D} {k : Bool} (h : eqD a b = some k) : a.shp = true ∧ b.shp = true ∧ k = PyData.eqv a.toP b.toP := by
  unfold eqD at h
  split at h
  · rename_i hs
    simp only [Bool.and_eq_true] at hs
    exact ⟨hs.1, hs.2, (Option.some.inj h).symm⟩
  · cases h
theorem map_bl {o : Option Bool} {d : D} (h : o.map D.bl = some d) : ∃ k, o = some k ∧ d = .bl k := by
  cases o with
  | none => cases h
  | some k => exact ⟨k, rfl, (Option.some.inj h).symm⟩
abbrev cmpM (o : CO) : D → D → Option D := fun x y => (cmpD o x y).map .bl
theorem ok_eq {K : PySem.W.Frag} : Ok2 K (cmpM .eq) (.ow .fr) (rEqD K) o1 o2 := by
  intro w d1 d2 v1 v2 A1 A2 d Q r1 r2 e k
  obtain ⟨b, e1, rfl⟩ := map_bl e
  obtain ⟨s1, s2, rfl⟩ := eqD_some (show eqD d1 d2 = some b from e1)
  exact ⟨_, _, r1.dp s1, r2.dp s2, s1, s2, fin_bl rfl k⟩
theorem ok_ne {K : PySem.W.Frag} : Ok2 K (cmpM .ne) (.ow .fr) (rNeD K) o1 o2 := by
  intro w d1 d2 v1 v2 A1 A2 d Q r1 r2 e k
  obtain ⟨b, e1, rfl⟩ := map_bl e
  obtain ⟨b', e2, rfl⟩ := Option.map_eq_some_iff.mp (show (eqD d1 d2).map (!·) = some b from e1)
  obtain ⟨s1, s2, rfl⟩ := eqD_some e2
  exact ⟨_, _, r1.dp s1, r2.dp s2, s1, s2, fin_bl rfl k⟩
theorem ints_reps {K : PySem.W.Frag} {H : Hp} {Z : AS} : ∀ {ds : List D} {xs : List V} {ns : List Int}, D.ints ds = some ns → Reps K H Z ds xs → xs = ns.map V.int ∧ ds = ns.map D.int
  | [], xs, ns, e, h => by
    unfold Reps at h
    subst h
    simp only [D.ints, Option.some.injEq] at e
    subst e
    exact ⟨rfl, rfl⟩
  | d :: ds, xs, ns, e, h => by
    unfold Reps at h
    obtain ⟨x, r, rfl, h1, h2⟩ := h
    cases d <;> simp only [D.ints, reduceCtorEq] at e
    obtain ⟨ms, e1, rfl⟩ := Option.map_eq_some_iff.mp e
    obtain ⟨q1, q2⟩ := ints_reps e1 h2
    unfold Rep at h1
    subst h1 q1 q2
    exact ⟨rfl, rfl⟩
theorem strs_reps {K : PySem.W.Frag} {H : Hp} {Z : AS} : ∀ {ds : List D} {xs : List V} {ns : List Str}, D.strs ds = some ns → Reps K H Z ds xs → xs = ns.map V.str ∧ ds = ns.map D.str
  | [], xs, ns, e, h => by
    unfold Reps at h
    subst h
    simp only [D.strs, Option.some.injEq] at e
    subst e
    exact ⟨rfl, rfl⟩
  | d :: ds, xs, ns, e, h => by
    unfold Reps at h
    obtain ⟨x, r, rfl, h1, h2⟩ := h
    cases d <;> simp only [D.strs, reduceCtorEq] at e
    obtain ⟨ms, e1, rfl⟩ := Option.map_eq_some_iff.mp e
    obtain ⟨q1, q2⟩ := strs_reps e1 h2
    unfold Rep at h1
    subst h1 q1 q2
    exact ⟨rfl, rfl⟩
/-- ints, texts, tuples of ints by an order -/
def rOrd (K : PySem.W.Frag) (f : Int → Int → Bool) (g : Str → Str → Bool) (h : List Int → List Int → Bool) : R2 := fun x y H Q =>
  (∃ i j, x = .int i ∧ y = .int j ∧ Q (.bl (f i j)) H) ∨ (∃ i j, x = .str i ∧ y = .str j ∧ Q (.bl (g i j)) H) ∨
  ∃ a b ns ms, x = .ref a ∧ y = .ref b ∧ SqT K H a (ns.map V.int) ∧ SqT K H b (ms.map V.int) ∧ Q (.bl (h ns ms)) H
theorem lex_at (ns ms : List Int) (r : Int → Int → Bool) (zz : Bool) (neg : Bool) (hr : ∀ x y : Int, x ≠ y → r x y = (neg ^^ decide (x < y))) (hz : zz = (neg ^^ decide (ns.length < ms.length))) :
    ∀ (k i : Nat), i + k = min ns.length ms.length → Ob.lexAt (fun j => decide (ns.getD j 0 = ms.getD j 0)) (fun j => r (ns.getD j 0) (ms.getD j 0)) zz i k = (neg ^^ HT.lexLt (ns.drop i) (ms.drop i))
  | 0, i, h => by
    rw [Ob.lexAt_zero, hz]
    congr 1
    by_cases q : ns.length ≤ i
    · rw [List.drop_of_length_le q]
      by_cases q2 : ms.length ≤ i
      · rw [List.drop_of_length_le q2, HT.lexLt_nil_nil, decide_eq_false (by omega)]
      · rw [List.drop_eq_getElem_cons (by omega : i < ms.length), HT.lexLt_nil_cons, decide_eq_true (by omega)]
    · rw [List.drop_eq_getElem_cons (by omega : i < ns.length), List.drop_of_length_le (by omega : ms.length ≤ i), HT.lexLt_cons_nil, decide_eq_false (by omega)]
  | k + 1, i, h => by
    have h1 : i < ns.length := by omega
    have h2 : i < ms.length := by omega
    rw [Ob.lexAt_succ, List.drop_eq_getElem_cons h1, List.drop_eq_getElem_cons h2, HT.lexLt_cons]
    have e1 : ns.getD i 0 = ns[i] := by simp [List.getD_eq_getElem?_getD, List.getElem?_eq_getElem h1]
    have e2 : ms.getD i 0 = ms[i] := by simp [List.getD_eq_getElem?_getD, List.getElem?_eq_getElem h2]
    rw [e1, e2]
    by_cases q : ns[i] = ms[i]
    · rw [if_pos q, decide_eq_true q, if_pos rfl]
      exact lex_at ns ms r zz neg hr hz k (i + 1) (by omega)
    · rw [if_neg q, decide_eq_false q, if_neg Bool.false_ne_true, hr _ _ q]
theorem tup_pairs {X : Cx} {pins : List (Addr × Obj)} {s : Shared} {σ : L2.St} {H : Hp} {a : Addr} {ns : List Int} (I : Inv X pins σ H s) (ha : SqT X.K H a (ns.map V.int)) :
    ∃ its : Array Value, s.heap.IsTuple a its ∧ its.size = ns.length ∧ ∀ j (h : j < its.size), ∃ t, its[j] = .int (ns.getD j 0) t := by
  obtain ⟨us, rv, tp, _⟩ := I.tuple ha
  have ia : IntsAre us ns := Vals.ints rv
  exact ⟨us.toArray, tp, by rw [List.size_toArray]; exact ia.length, fun j h => PyProof.Rows.IntsAre.int_at ia _ _ (by simp at h; simp [h])⟩
theorem eq_at {A : Around} {s : Shared} {x y : Int} {t u : Tok} : SeqAt.EqAt A s (.int x t) (.int y u) (decide (x = y)) := by
  have z : decide (x = y) = (x == y) := rfl
  rw [z]
  exact SeqAt.EqAt.int_int _ _ _ _
theorem xor_true {b : Bool} : (true ^^ b) = !b := by cases b <;> rfl
theorem xor_false {b : Bool} : (false ^^ b) = b := by cases b <;> rfl
/-- the four orders -/
theorem op_ord {X : Cx} {op : CmpOp} (neg : Bool) {f : Int → Int → Bool} {g : Str → Str → Bool} (hf : OpR X (compareOp op) (rI0 fun i j => .bl (f i j))) (hg : OpR X (compareOp op) (fun x y H Q => ∃ i j, x = .str i ∧ y = .str j ∧ Q (.bl (g i j)) H))
    (ht : ∀ (pins : List (Addr × Obj)) (s : Shared) (σ : L2.St) (H : Hp) (a b : Addr) (ns ms : List Int) (Q : Value → Shared → Prop), Inv X pins σ H s → SqT X.K H a (ns.map V.int) → SqT X.K H b (ms.map V.int) →
      Q (.bool (neg ^^ HT.lexLt ns ms)) s → wpAny (model X.prog X.w) X.A (compareOp op (.ref a) (.ref b)) Q X.xe s) :
    OpR X (compareOp op) (rOrd X.K f g fun ns ms => neg ^^ HT.lexLt ns ms) := by
  intro pins s σ H x y v u Q I rx ry h
  rcases h with h | h | ⟨a, b, ns, ms, rfl, rfl, ha, hb, q⟩
  · exact hf pins s σ H x y v u Q I rx ry h
  · exact hg pins s σ H x y v u Q I rx ry h
  · cases rx
    cases ry
    exact ht pins s σ H a b ns ms _ I ha hb ⟨.bl _, H, I, rfl, q⟩
theorem op_ltA (hu : X.A.units < cLine) : OpR X (compareOp .Lt) (rOrd X.K (fun i j => decide (i < j)) (fun i j => decide (i.cps.toList < j.cps.toList)) fun ns ms => false ^^ HT.lexLt ns ms) :=
  op_ord false op_lt op_lt_str fun pins s σ H a b ns ms Q I ha hb q => by
    obtain ⟨ia, ta, za, ga⟩ := tup_pairs I ha
    obtain ⟨ib, tb, zb, gb⟩ := tup_pairs I hb
    have RR := Ob.RcOp.tuples_lt (A := X.A) (s := s) (e := fun j => decide (ns.getD j 0 = ms.getD j 0)) (r := fun j => decide (ns.getD j 0 < ms.getD j 0)) ta tb hu (fun j p1 p2 => by
      obtain ⟨t, e1⟩ := ga j p1
      obtain ⟨t2, e2⟩ := gb j p2
      rw [e1, e2]; exact eq_at) (fun j p1 p2 _ => by
      obtain ⟨t, e1⟩ := ga j p1
      obtain ⟨t2, e2⟩ := gb j p2
      rw [e1, e2]; exact Ob.RcOp.lt_int _ _ _ _)
    refine RR X.prog X.w _ _ ?_
    rw [za, zb, lex_at ns ms (fun x y => decide (x < y)) _ false (fun x y _ => by rw [xor_false]) (by rw [xor_false]) _ 0 (by omega)]
    exact q
theorem lex_sw (ns ms : List Int) (r : Nat → Bool) (z : Bool) (i k : Nat) : Ob.lexAt (fun j => decide (ns.getD j 0 = ms.getD j 0)) r z i k = Ob.lexAt (fun j => decide (ms.getD j 0 = ns.getD j 0)) r z i k := by
  congr 1
  funext j
  exact decide_eq_decide.mpr ⟨Eq.symm, Eq.symm⟩
theorem op_geA (hu : X.A.units < cLine) : OpR X (compareOp .GtE) (rOrd X.K (fun i j => decide (j ≤ i)) (fun i j => !decide (i.cps.toList < j.cps.toList)) fun ns ms => true ^^ HT.lexLt ns ms) :=
  op_ord true op_ge op_ge_str fun pins s σ H a b ns ms Q I ha hb q => by
    obtain ⟨ia, ta, za, ga⟩ := tup_pairs I ha
    obtain ⟨ib, tb, zb, gb⟩ := tup_pairs I hb
    have RR := Ob.RcOp.tuples_ge (A := X.A) (s := s) (e := fun j => decide (ns.getD j 0 = ms.getD j 0)) (r := fun j => decide (ms.getD j 0 ≤ ns.getD j 0)) ta tb hu (fun j p1 p2 => by
      obtain ⟨t, e1⟩ := ga j p1
      obtain ⟨t2, e2⟩ := gb j p2
      rw [e1, e2]; exact eq_at) (fun j p1 p2 _ => by
      obtain ⟨t, e1⟩ := ga j p1
      obtain ⟨t2, e2⟩ := gb j p2
      rw [e1, e2]; exact Ob.RcOp.ge_int _ _ _ _)
    refine RR X.prog X.w _ _ ?_
    rw [za, zb, lex_at ns ms (fun x y => decide (y ≤ x)) _ true (fun x y _ => by
      rw [xor_true]
      by_cases q : x < y
      · rw [decide_eq_true q, decide_eq_false (by omega)]; rfl
      · rw [decide_eq_false q, decide_eq_true (by omega)]; rfl) (by
      rw [xor_true]
      by_cases q : ns.length < ms.length
      · rw [decide_eq_true q, decide_eq_false (by omega)]; rfl
      · rw [decide_eq_false q, decide_eq_true (by omega)]; rfl) _ 0 (by omega)]
    exact q
/-- .. the other way round -/
theorem op_ordS {op : CmpOp} (neg : Bool) {f : Int → Int → Bool} {g : Str → Str → Bool} (hf : OpR X (compareOp op) (rI0 fun i j => .bl (f i j))) (hg : OpR X (compareOp op) (fun x y H Q => ∃ i j, x = .str i ∧ y = .str j ∧ Q (.bl (g i j)) H))
    (ht : ∀ (pins : List (Addr × Obj)) (s : Shared) (σ : L2.St) (H : Hp) (a b : Addr) (ns ms : List Int) (Q : Value → Shared → Prop), Inv X pins σ H s → SqT X.K H a (ns.map V.int) → SqT X.K H b (ms.map V.int) →
      Q (.bool (neg ^^ HT.lexLt ms ns)) s → wpAny (model X.prog X.w) X.A (compareOp op (.ref a) (.ref b)) Q X.xe s) :
    OpR X (compareOp op) (rOrd X.K f g fun ns ms => neg ^^ HT.lexLt ms ns) := by
  intro pins s σ H x y v u Q I rx ry h
  rcases h with h | h | ⟨a, b, ns, ms, rfl, rfl, ha, hb, q⟩
  · exact hf pins s σ H x y v u Q I rx ry h
  · exact hg pins s σ H x y v u Q I rx ry h
  · cases rx
    cases ry
    exact ht pins s σ H a b ns ms _ I ha hb ⟨.bl _, H, I, rfl, q⟩
theorem op_gtA (hu : X.A.units < cLine) : OpR X (compareOp .Gt) (rOrd X.K (fun i j => decide (j < i)) (fun i j => decide (j.cps.toList < i.cps.toList)) fun ns ms => false ^^ HT.lexLt ms ns) :=
  op_ordS false op_gt op_gt_str fun pins s σ H a b ns ms Q I ha hb q => by
    obtain ⟨ia, ta, za, ga⟩ := tup_pairs I ha
    obtain ⟨ib, tb, zb, gb⟩ := tup_pairs I hb
    have RR := Ob.RcOp.tuples_gt (A := X.A) (s := s) (e := fun j => decide (ns.getD j 0 = ms.getD j 0)) (r := fun j => decide (ms.getD j 0 < ns.getD j 0)) ta tb hu (fun j p1 p2 => by
      obtain ⟨t, e1⟩ := ga j p1
      obtain ⟨t2, e2⟩ := gb j p2
      rw [e1, e2]; exact eq_at) (fun j p1 p2 _ => by
      obtain ⟨t, e1⟩ := ga j p1
      obtain ⟨t2, e2⟩ := gb j p2
      rw [e1, e2]; exact Ob.RcOp.gt_int _ _ _ _)
    refine RR X.prog X.w _ _ ?_
    rw [za, zb, lex_sw, lex_at ms ns (fun x y => decide (x < y)) _ false (fun x y _ => by rw [xor_false]) (by rw [xor_false]) _ 0 (by omega)]
    exact q
theorem op_leA (hu : X.A.units < cLine) : OpR X (compareOp .LtE) (rOrd X.K (fun i j => decide (i ≤ j)) (fun i j => !decide (j.cps.toList < i.cps.toList)) fun ns ms => true ^^ HT.lexLt ms ns) :=
  op_ordS true op_le op_le_str fun pins s σ H a b ns ms Q I ha hb q => by
    obtain ⟨ia, ta, za, ga⟩ := tup_pairs I ha
    obtain ⟨ib, tb, zb, gb⟩ := tup_pairs I hb
    have RR := Ob.RcOp.tuples_le (A := X.A) (s := s) (e := fun j => decide (ns.getD j 0 = ms.getD j 0)) (r := fun j => decide (ns.getD j 0 ≤ ms.getD j 0)) ta tb hu (fun j p1 p2 => by
      obtain ⟨t, e1⟩ := ga j p1
      obtain ⟨t2, e2⟩ := gb j p2
      rw [e1, e2]; exact eq_at) (fun j p1 p2 _ => by
      obtain ⟨t, e1⟩ := ga j p1
      obtain ⟨t2, e2⟩ := gb j p2
      rw [e1, e2]; exact Ob.RcOp.le_int _ _ _ _)
    refine RR X.prog X.w _ _ ?_
    rw [za, zb, lex_sw, lex_at ms ns (fun x y => decide (y ≤ x)) _ true (fun x y _ => by
      rw [xor_true]
      by_cases q : x < y
      · rw [decide_eq_true q, decide_eq_false (by omega)]; rfl
      · rw [decide_eq_false q, decide_eq_true (by omega)]; rfl) (by
      rw [xor_true]
      by_cases q : ms.length < ns.length
      · rw [decide_eq_true q, decide_eq_false (by omega)]; rfl
      · rw [decide_eq_false q, decide_eq_true (by omega)]; rfl) _ 0 (by omega)]
    exact q
theorem lt_cases {K : PySem.W.Frag} {w : Wd} {a b : D} {v1 v2 : V} {A1 A2 : AS} {k : Bool} (r1 : RO K w.H w.Z o1 a v1 A1) (r2 : RO K w.H w.Z o2 b v2 A2) (h : ltD a b = some k) :
    (∃ i j, v1 = .int i ∧ v2 = .int j ∧ k = decide (i < j)) ∨ (∃ i j, v1 = .str i ∧ v2 = .str j ∧ k = decide (i.cps.toList < j.cps.toList)) ∨
    ∃ p q ns ms, v1 = .ref p ∧ v2 = .ref q ∧ SqT K w.H p (ns.map V.int) ∧ SqT K w.H q (ms.map V.int) ∧ k = HT.lexLt ns ms := by
  unfold ltD at h
  split at h
  · exact .inl ⟨_, _, r1.int, r2.int, (Option.some.inj h).symm⟩
  · exact .inr (.inl ⟨_, _, r1.str, r2.str, (Option.some.inj h).symm⟩)
  · split at h
    · rename_i x y e1 e2
      obtain ⟨p, xs, e3, t1, q1⟩ := r1.tup
      obtain ⟨q, ys, e4, t2, q2⟩ := r2.tup
      obtain ⟨e5, _⟩ := ints_reps e1 q1
      obtain ⟨e6, _⟩ := ints_reps e2 q2
      subst e5 e6
      exact .inr (.inr ⟨p, q, x, y, e3, e4, t1, t2, (Option.some.inj h).symm⟩)
    · cases h
  · cases h
theorem not_lt_dec {i j : Int} : (!decide (j < i)) = decide (i ≤ j) := by
  by_cases q : j < i
  · rw [decide_eq_true q, decide_eq_false (by omega)]; rfl
  · rw [decide_eq_false q, decide_eq_true (by omega)]; rfl
theorem ok_lt {K : PySem.W.Frag} : Ok2 K (cmpM .lt) (.ow .fr) (rOrd K (fun i j => decide (i < j)) (fun i j => decide (i.cps.toList < j.cps.toList)) fun ns ms => false ^^ HT.lexLt ns ms) o1 o2 := by
  intro w d1 d2 v1 v2 A1 A2 d Q r1 r2 e k
  obtain ⟨b, e1, rfl⟩ := map_bl e
  rcases lt_cases r1 r2 (show ltD d1 d2 = some b from e1) with ⟨i, j, rfl, rfl, rfl⟩ | ⟨i, j, rfl, rfl, rfl⟩ | ⟨p, q, ns, ms, rfl, rfl, t1, t2, rfl⟩
  · exact .inl ⟨_, _, rfl, rfl, fin_bl rfl k⟩
  · exact .inr (.inl ⟨_, _, rfl, rfl, fin_bl rfl k⟩)
  · exact .inr (.inr ⟨_, _, _, _, rfl, rfl, t1, t2, fin_bl (congrArg D.bl xor_false) k⟩)
theorem ok_gt {K : PySem.W.Frag} : Ok2 K (cmpM .gt) (.ow .fr) (rOrd K (fun i j => decide (j < i)) (fun i j => decide (j.cps.toList < i.cps.toList)) fun ns ms => false ^^ HT.lexLt ms ns) o1 o2 := by
  intro w d1 d2 v1 v2 A1 A2 d Q r1 r2 e k
  obtain ⟨b, e1, rfl⟩ := map_bl e
  rcases lt_cases r2 r1 (show ltD d2 d1 = some b from e1) with ⟨i, j, rfl, rfl, rfl⟩ | ⟨i, j, rfl, rfl, rfl⟩ | ⟨p, q, ns, ms, rfl, rfl, t1, t2, rfl⟩
  · exact .inl ⟨_, _, rfl, rfl, fin_bl rfl k⟩
  · exact .inr (.inl ⟨_, _, rfl, rfl, fin_bl rfl k⟩)
  · exact .inr (.inr ⟨_, _, _, _, rfl, rfl, t2, t1, fin_bl (congrArg D.bl xor_false) k⟩)
theorem ok_le {K : PySem.W.Frag} : Ok2 K (cmpM .le) (.ow .fr) (rOrd K (fun i j => decide (i ≤ j)) (fun i j => !decide (j.cps.toList < i.cps.toList)) fun ns ms => true ^^ HT.lexLt ms ns) o1 o2 := by
  intro w d1 d2 v1 v2 A1 A2 d Q r1 r2 e k
  obtain ⟨b, e1, rfl⟩ := map_bl e
  obtain ⟨b', e2, rfl⟩ := Option.map_eq_some_iff.mp (show (ltD d2 d1).map (!·) = some b from e1)
  rcases lt_cases r2 r1 e2 with ⟨i, j, rfl, rfl, rfl⟩ | ⟨i, j, rfl, rfl, rfl⟩ | ⟨p, q, ns, ms, rfl, rfl, t1, t2, rfl⟩
  · exact .inl ⟨_, _, rfl, rfl, fin_bl (by rw [not_lt_dec]) k⟩
  · exact .inr (.inl ⟨_, _, rfl, rfl, fin_bl rfl k⟩)
  · exact .inr (.inr ⟨_, _, _, _, rfl, rfl, t2, t1, fin_bl (congrArg D.bl xor_true) k⟩)
theorem ok_ge {K : PySem.W.Frag} : Ok2 K (cmpM .ge) (.ow .fr) (rOrd K (fun i j => decide (j ≤ i)) (fun i j => !decide (i.cps.toList < j.cps.toList)) fun ns ms => true ^^ HT.lexLt ns ms) o1 o2 := by
  intro w d1 d2 v1 v2 A1 A2 d Q r1 r2 e k
  obtain ⟨b, e1, rfl⟩ := map_bl e
  obtain ⟨b', e2, rfl⟩ := Option.map_eq_some_iff.mp (show (ltD d1 d2).map (!·) = some b from e1)
  rcases lt_cases r1 r2 e2 with ⟨i, j, rfl, rfl, rfl⟩ | ⟨i, j, rfl, rfl, rfl⟩ | ⟨p, q, ns, ms, rfl, rfl, t1, t2, rfl⟩
  · exact .inl ⟨_, _, rfl, rfl, fin_bl (by rw [not_lt_dec]) k⟩
  · exact .inr (.inl ⟨_, _, rfl, rfl, fin_bl rfl k⟩)
  · exact .inr (.inr ⟨_, _, _, _, rfl, rfl, t1, t2, fin_bl (congrArg D.bl xor_true) k⟩)

abbrev rIsN : R2 := fun x y H Q => y = .non ∧ Q (.bl (decide (x = .non))) H
abbrev rNotN : R2 := fun x y H Q => y = .non ∧ Q (.bl (!decide (x = .non))) H
theorem non_iff {K : PySem.W.Frag} {H : Hp} {Z : AS} {o : Ow} {d : D} {v : V} {A : AS} (h : RO K H Z o d v A) : decide (v = .non) = decide (d = .non) := by
  cases d
  case non => rw [h.non]; rfl
  case bl => rw [h.bl]; rfl
  case int => rw [h.int]; rfl
  case str => rw [h.str]; rfl
  case tup => obtain ⟨a, xs, e, _⟩ := h.tup; rw [e]; rfl
  case lst => obtain ⟨a, xs, e, _⟩ := h.lst; rw [e]; rfl
  case rol => obtain ⟨a, xs, e, _⟩ := h.rol; rw [e]; rfl
  case dct =>
    obtain ⟨a, xs, e, _⟩ := (show ∃ a xs, v = V.ref a ∧ _ from h.fz)
    rw [e]; rfl
  case exc =>
    obtain ⟨a, e⟩ := (show ∃ a, v = V.ref a from h.fz)
    rw [e]; rfl
theorem ok_isn {K : PySem.W.Frag} : Ok2 K (cmpM .isn) (.ow .fr) rIsN o1 o2 := by
  intro w d1 d2 v1 v2 A1 A2 d Q r1 r2 e k
  obtain ⟨b, e1, rfl⟩ := map_bl e
  cases d2 <;> simp only [cmpD, reduceCtorEq, Option.some.injEq] at e1
  subst e1
  exact ⟨r2.non, by rw [non_iff r1]; exact fin_bl rfl k⟩
theorem ok_isnn {K : PySem.W.Frag} : Ok2 K (cmpM .isnn) (.ow .fr) rNotN o1 o2 := by
  intro w d1 d2 v1 v2 A1 A2 d Q r1 r2 e k
  obtain ⟨b, e1, rfl⟩ := map_bl e
  cases d2 <;> simp only [cmpD, reduceCtorEq, Option.some.injEq] at e1
  subst e1
  exact ⟨r2.non, by rw [non_iff r1]; exact fin_bl rfl k⟩

/-! ### subscripts -/
abbrev rIxA (K : PySem.W.Frag) : R2 := fun x y H Q => rIxL K x y H Q ∨ rIxT K x y H Q ∨ rIxS x y H Q
theorem ix_all : IxR X (rIxA X.K) := ix_list.or (ix_tup.or ix_str)
theorem atI_reps {K : PySem.W.Frag} {H : Hp} {Z : AS} {ds : List D} {xs : List V} {i : Int} {d : D} (r : Reps K H Z ds xs) (h : atI ds i = some d) : ∃ x, atI xs i = some x ∧ Rep K H Z d x := by
  unfold atI at h ⊢
  rw [r.len]
  cases e : ixN ds.length i with
  | none => rw [e] at h; cases h
  | some j =>
    rw [e] at h
    obtain ⟨x, h1, h2⟩ := r.get (k := j) h
    exact ⟨x, h1, h2⟩
theorem fin_rep {K : PySem.W.Frag} {w : Wd} {d : D} {x : V} {Q : VK} (r : Rep K w.H w.Z d x) (k : ∀ w' v A, Alloc w w' A → RO K w'.H w'.Z .fr d v A → Q v w'.H) : Q x w.H :=
  k w x _ Alloc.refl ⟨r, fun _ z => z⟩
theorem ok_ix {K : PySem.W.Frag} (s1 : shal o1 = true) : Ok2 K (fun x y => match x with
    | .dct _ _ _ => none
    | _ => ixD x y) .fr (rIxA K) o1 o2 := by
  intro w d1 d2 v1 v2 A1 A2 d Q r1 r2 e k
  cases d1 <;> simp only [reduceCtorEq] at e <;> cases d2 <;> simp only [ixD, reduceCtorEq] at e
  · split at e
    · rename_i hl
      obtain ⟨c, e1, rfl⟩ := Option.map_eq_some_iff.mp e
      exact .inr (.inr ⟨_, _, c, r1.str, r2.int, by rw [← sz_eq]; exact hl, e1, k w _ _ Alloc.refl RO.mkstr⟩)
    · cases e
  · obtain ⟨a, xs, rfl, h1, q1⟩ := r1.tup
    obtain ⟨x, e1, q⟩ := atI_reps q1 e
    exact .inr (.inl ⟨a, xs, _, x, rfl, r2.int, h1, e1, fin_rep q k⟩)
  · obtain ⟨a, xs, rfl, h1, q1⟩ := r1.lstR s1
    obtain ⟨x, e1, q⟩ := atI_reps q1 e
    exact .inl ⟨a, xs, _, x, rfl, r2.int, SqL.of h1, e1, fin_rep q k⟩
  · obtain ⟨a, xs, rfl, h1, q1⟩ := r1.rol
    obtain ⟨x, e1, q⟩ := atI_reps q1 e
    exact .inl ⟨a, xs, _, x, rfl, r2.int, h1.sq, e1, fin_rep q k⟩
end
end Mp
/-! Mp5: expressions. -/
namespace Mp
open PySem PySem.Spec PyProof.Rows L2

section
variable {X : Cx} {c : Cc} {f g : M D} {ows ows1 ows2 ows' : Ows} {o o1 o2 : Ow} {q q1 q2 : Bool} {e pe : Expr}
/-- looked at instead of kept -/
theorem look_of (h : PE X e (tV c f ows ows' o q)) : PE X e (tR c f ows ows' o q) := wPE h fun σ H Q ⟨w, env, hw, sr, z⟩ => ⟨w, env, hw, sr, by
  cases e1 : f env with
  | no => rw [e1] at z; exact z
  | ex n env1 => rw [e1] at z; exact z
  | ok d env1 => rw [e1] at z; exact fun w' v A x s r _ k => z w' v A x s r k⟩
/-- a temp is frozen -/
def Wd.frz (w : Wd) (A : AS) : Wd := ⟨fun a => w.Z a ∨ A a, w.F, w.H⟩
theorem frz_ext {w w' : Wd} {A : AS} (x : Ext w w') (t : Tmp w w' A) (ha : ∀ a, A a → w'.H a ≠ none) : Ext w (w'.frz A) :=
  ⟨fun a z => .inl (x.z a z), x.fr, x.dm, x.nw, fun a z => z.elim (x.zn a) fun z => .inr (t.nw a z), fun h a z => z.elim (x.zh h a) (ha a)⟩
theorem SR.frz {K : PySem.W.Frag} {pn : Pin} {env : Env} {σ : L2.St} {w : Wd} {A : AS} (s : SR K pn ows env σ w) (tf : ∀ a i, A a → ¬ w.F i a) (ta : ∀ a, A a → w.H a ≠ none) : SR K pn ows env σ (w.frz A) where
  len := s.len
  at_ := fun i d e => by
    obtain ⟨v, h1, h2⟩ := s.at_ i d e
    exact ⟨v, h1, h2.keep (H' := w.H) (Z' := (w.frz A).Z) (fun a z => .inl z) fun _ _ e _ => e⟩
  apart := s.apart
  zf := fun i a h z => z.elim (s.zf i a h) fun z => tf a i z h
  fm := s.fm
  zt := fun a z => z.elim (s.zt a) (ta a)
  pin := s.pin
theorem RO.ne {K : PySem.W.Frag} {H : Hp} {Z : AS} {d : D} {v : V} {A : AS} (h : RO K H Z o d v A) (a : Addr) (ha : A a) : H a ≠ none := by
  obtain ⟨q, e, _⟩ := h.there a ha
  rw [e]; simp
theorem keep_fr (h : PE X e (tV c f ows ows' o q)) : PE X e (tV c f ows ows' .fr q) := wPE h fun σ H Q ⟨w, env, hw, sr, z⟩ => ⟨w, env, hw, sr, by
  cases e1 : f env with
  | no => rw [e1] at z; exact z
  | ex n env1 => rw [e1] at z; exact z
  | ok d env1 =>
    rw [e1] at z
    intro w' v A x s r t k
    exact z (w'.frz A) v (fun _ => False) (frz_ext x t fun a ha => r.ne a ha) (s.frz (fun a i ha => t.f a i ha) fun a ha => r.ne a ha) ⟨r.fz, fun _ z => z⟩ Tmp.nil fun hq => k hq⟩

/-! ### names, constants -/
theorem pv_const {d : D} {t : TE} (h : PE X e t) (k : ∀ (w : Wd) (σ : L2.St) (Q : VK), (∀ w' v A, Alloc w w' A → RO c.K w'.H w'.Z o d v A → Q v w'.H) → t σ w.H Q) : PE X e (tV c (M.ret d) ows ows o true) :=
  wPE h fun σ H Q ⟨w, env, hw, sr, z⟩ => by
    subst hw
    exact k w σ Q fun w' v A al ro => z w' v A al.ext (al.sr sr) ro (al.tmp sr) fun _ => al.quiet
theorem pv_int {i : Int} {j : Nat} {pos : Pos} : PE X (.Constant (.int i) j pos) (tV c (M.ret (.int i)) ows ows o true) := pv_const pe_int fun w σ Q k => k w _ _ Alloc.refl RO.mkint
theorem pv_str {i : Str} {j : Nat} {pos : Pos} : PE X (.Constant (.str i) j pos) (tV c (M.ret (.str i)) ows ows o true) := pv_const pe_str fun w σ Q k => k w _ _ Alloc.refl RO.mkstr
theorem pv_bl {i : Bool} {j : Nat} {pos : Pos} : PE X (.Constant (.bool i) j pos) (tV c (M.ret (.bl i)) ows ows o true) := pv_const pe_bl fun w σ Q k => k w _ _ Alloc.refl RO.mkbl
theorem pv_non {j : Nat} {pos : Pos} : PE X (.Constant .none j pos) (tV c (M.ret .non) ows ows o true) := pv_const pe_non fun w σ Q k => k w _ _ Alloc.refl RO.mknon
theorem slot_at {K : PySem.W.Frag} {pn : Pin} {env : Env} {σ : L2.St} {w : Wd} {i : Nat} {d : D} (s : SR K pn ows env σ w) (h : getS env i = some d) : ∃ v, σ[i]? = some (some v) ∧ RO K w.H w.Z (owAt ows i) d v (w.F i) := s.at_ i d h
/-- a name, looked at -/
theorem pr_var {i : Nat} {x : Str} {pos : Pos} (hN : X.N[i]? = some x) (hv : Vis X.env.scope x) (hd : (x == ("__debug__" : Str)) = false) (hcd : (x == ("__classdict__" : Str)) = false) : PE X (.Name x pos) (tR c (varM i) ows ows (owAt ows i) true) :=
  wPE (pe_var hN hv hd hcd) fun σ H Q ⟨w, env, hw, sr, z⟩ => by
    unfold varM at z
    cases e1 : getS env i with
    | none => rw [e1] at z; exact z.elim
    | some d =>
      rw [e1] at z
      obtain ⟨v, h1, h2⟩ := sr.at_ i d e1
      subst hw
      exact ⟨v, h1, z w v _ Ext.refl sr h2 fun _ => fun _ _ e => e⟩
/-- a name, kept: frozen from now on -/
theorem pv_var {i : Nat} {x : Str} {pos : Pos} (hN : X.N[i]? = some x) (hv : Vis X.env.scope x) (hd : (x == ("__debug__" : Str)) = false) (hcd : (x == ("__classdict__" : Str)) = false) : PE X (.Name x pos) (tV c (varM i) ows (ows.set i .fr) .fr true) :=
  wPE (pe_var hN hv hd hcd) fun σ H Q ⟨w, env, hw, sr, z⟩ => by
    unfold varM at z
    cases e1 : getS env i with
    | none => rw [e1] at z; exact z.elim
    | some d =>
      rw [e1] at z
      obtain ⟨v, h1, h2⟩ := sr.at_ i d e1
      subst hw
      exact ⟨v, h1, z (w.fz i) v (fun _ => False) (Ext.fz w i sr.fne) (sr.fz i) ⟨h2.fz, fun _ z => z⟩ Tmp.nil fun _ => fun _ _ e => e⟩
/-- a name, its thing taken out -/
theorem pv_mv {i : Nat} {x : Str} {pos : Pos} (hN : X.N[i]? = some x) (hv : Vis X.env.scope x) (hd : (x == ("__debug__" : Str)) = false) (hcd : (x == ("__classdict__" : Str)) = false) : PE X (.Name x pos) (tV c (mvM i) ows (ows.set i .fr) (owAt ows i) true) :=
  wPE (pe_var hN hv hd hcd) fun σ H Q ⟨w, env, hw, sr, z⟩ => by
    unfold mvM at z
    cases e1 : getS env i with
    | none => rw [e1] at z; exact z.elim
    | some d =>
      rw [e1] at z
      obtain ⟨v, h1, h2⟩ := sr.at_ i d e1
      subst hw
      refine ⟨v, h1, z (w.out i) v (w.F i) (Ext.out w i) (sr.out i fun j hj => owAt_set hj) h2 ⟨fun a ha hz => sr.zf i a ha hz, fun a j ha hj => hj.1 (sr.apart j i a hj.2 ha), fun a ha => .inl ⟨i, ha⟩⟩ fun _ => fun _ _ e => e⟩
/-- a constant of the module -/
theorem pv_glob {x : Str} {d : D} {v : V} {u : Value} {pos : Pos} {gl : Str → Option D} (hg : Gl X x) (hm : X.mg x = some u) (r : RelV v u) (hx : gl x = some d) (hr : ∀ H Z, Rep c.K H Z d v) (hd : (x == ("__debug__" : Str)) = false) : PE X (.Name x pos) (tV c (M.opt (gl x)) ows ows .fr true) :=
  wPE (pe_glob hg hm r hd) fun σ H Q ⟨w, env, hw, sr, z⟩ => by
    rw [hx] at z
    subst hw
    exact z w v _ Ext.refl sr ⟨hr _ _, fun _ z => z⟩ Tmp.nil fun _ => fun _ _ e => e

/-! ### tests -/
theorem emp_of {α β : Type} {xs : List α} {ys : List β} (h : xs.length = ys.length) : xs.isEmpty = ys.isEmpty := by
  cases xs <;> cases ys <;> first | rfl | cases h
theorem truth_of {K : PySem.W.Frag} {H : Hp} {Z : AS} {d : D} {v : V} {A : AS} {b : Bool} (h : RO K H Z o d v A) (e : d.truth = some b) : TruV K v H b := by
  cases d with
  | non => cases e; rw [h.non]; exact rfl
  | bl => cases e; rw [h.bl]; exact rfl
  | int => cases e; rw [h.int]; exact rfl
  | str x =>
    have e' : (if x.length ≤ SZ then some ((x.length : Int) != 0) else none) = some b := e
    by_cases hl : x.length ≤ SZ
    · rw [if_pos hl] at e'
      cases e'
      rw [h.str]
      exact ⟨by rw [← sz_eq]; exact hl, rfl⟩
    · rw [if_neg hl] at e'
      cases e'
  | tup ds =>
    cases e
    obtain ⟨a, xs, rfl, h1, h2⟩ := h.tup
    exact .inr (.inl ⟨xs, h1, by rw [emp_of h2.len]⟩)
  | lst ds =>
    cases e
    obtain ⟨a, xs, rfl, h1, h2⟩ := h.lst
    exact .inl ⟨xs, SqL.of h1, by rw [emp_of h2]⟩
  | rol ds =>
    cases e
    obtain ⟨a, xs, rfl, h1, h2⟩ := h.rol
    exact .inl ⟨xs, h1.sq, by rw [emp_of h2.len]⟩
  | exc => cases e
  | dct t ks vs =>
    cases t with
    | true => cases e
    | false =>
      cases e
      obtain ⟨a, xs, rfl, _, h1, _⟩ := (show ∃ a xs, v = V.ref a ∧ _ ∧ DcAt H a false ks xs ∧ _ from h.fz)
      obtain ⟨_, ⟨_, kvs, e1, e2, _⟩ | ⟨e0, _⟩⟩ := h1
      · exact .inr (.inr ⟨kvs, e1, by rw [e2]; cases kvs <;> rfl⟩)
      · cases e0
/-- a value's truth as a test -/
theorem pt_look (h : PE X e (tR c f ows ows' o q)) (he : ∀ whole, isTrue e X.env whole = (do let v ← whole; standAt e.pos; holding [v] (truthy v))) (hK : X.K = c.K) : PT X e (tB_ c (truthM f) ows ows' q) := by
  refine wPT (pt_truth h he) fun σ H Q ⟨w, env, hw, sr, z⟩ => ⟨w, env, hw, sr, ?_⟩
  unfold truthM M.bind at z
  cases e1 : f env with
  | no => rw [e1] at z; exact z
  | ex n env1 => rw [e1] at z; exact z
  | ok d env1 =>
    rw [e1] at z
    intro w' v A x s r k
    simp only [M.opt] at z
    cases e2 : d.truth with
    | none => rw [e2] at z; exact z.elim
    | some b =>
      rw [e2] at z
      exact ⟨b, by rw [hK]; exact truth_of r e2, z w' x s k⟩
/-- a comparison as a test: its bool -/
theorem pt_bool {t : TE} (hb : PT X e (fun σ H Q => t σ H fun x H' => ∃ k, x = .bl k ∧ Q k H')) (k : ∀ σ H Q, tV c f ows ows' o q σ H Q → t σ H Q) (hf : ∀ env d env', f env = .ok d env' → ∃ b, d = .bl b) : PT X e (tB_ c (truthM f) ows ows' q) := by
  refine wPT hb fun σ H Q ⟨w, env, hw, sr, z⟩ => k σ H _ ⟨w, env, hw, sr, ?_⟩
  unfold truthM M.bind at z
  cases e1 : f env with
  | no => rw [e1] at z; exact z
  | ex n env1 => rw [e1] at z; exact z
  | ok d env1 =>
    rw [e1] at z
    obtain ⟨b, rfl⟩ := hf _ _ _ e1
    intro w' v A x s r t' k'
    exact ⟨b, r.bl, z w' x s k'⟩
/-- not -/
theorem pt_notM {fb : M Bool} {pos : Pos} (h : PT X e (tB_ c fb ows ows' q)) : PT X (.UnaryOp .Not e pos) (tB_ c (M.bind fb fun b => M.ret !b) ows ows' q) := by
  refine wPT (pt_not h) fun σ H Q ⟨w, env, hw, sr, z⟩ => ⟨w, env, hw, sr, ?_⟩
  unfold M.bind at z
  cases e1 : fb env with
  | no => rw [e1] at z; exact z
  | ex n env1 => rw [e1] at z; exact z
  | ok b env1 => rw [e1] at z; exact fun w' x s k => z w' x s k
theorem pv_notM {pos : Pos} (h : PE X e (tR c f ows ows' o1 q)) (hK : X.K = c.K) : PE X (.UnaryOp .Not e pos) (tV c (M.bind (truthM f) fun b => M.ret (.bl !b)) ows ows' o q) := by
  refine wPE (pe_notT h) fun σ H Q ⟨w, env, hw, sr, z⟩ => ⟨w, env, hw, sr, ?_⟩
  unfold truthM M.bind at z
  cases e1 : f env with
  | no => rw [e1] at z; exact z
  | ex n env1 => rw [e1] at z; exact z
  | ok d env1 =>
    rw [e1] at z
    intro w' v A x s r k
    simp only [M.opt] at z
    cases e2 : d.truth with
    | none => rw [e2] at z; exact z.elim
    | some b =>
      rw [e2] at z
      exact ⟨b, by rw [hK]; exact truth_of r e2, z w' _ _ x s RO.mkbl Tmp.nil k⟩
/-- a if t else b -/
theorem pv_ite {fb : M Bool} {a b : Expr} {fa g : M D} {pos : Pos} {qc qa qb : Bool} (hc : PT X e (tB_ c fb ows ows1 qc)) (ha : PE X a (tV c fa ows1 ows' o qa)) (hb : PE X b (tV c g ows1 ows' o qb)) :
    PE X (.IfExp e a b pos) (tV c (M.bind fb fun k => if k = true then fa else g) ows ows' o (qc && (qa && qb))) := by
  refine wPE (pe_ifExp hc ha hb) fun σ H Q ⟨w, env, hw, sr, z⟩ => ⟨w, env, hw, sr, ?_⟩
  unfold M.bind at z
  cases e1 : fb env with
  | no => rw [e1] at z; exact z
  | ex n env1 => rw [e1] at z; exact z
  | ok k env1 =>
    rw [e1] at z
    intro w1 x1 s1 k1
    have fin : ∀ {h : M D} {qh : Bool}, ((qc && (qa && qb)) = true → qc = true ∧ qh = true) → (match h env1 with
        | .ok d env' => ∀ w' v A, Ext w w' → SR c.K c.pn ows' env' σ w' → RO c.K w'.H w'.Z o d v A → Tmp w w' A → ((qc && (qa && qb)) = true → Quiet w w') → Q v w'.H
        | .ex n env' => exK c σ w n env'
        | .no => False) → tV c h ows1 ows' o qh σ w1.H Q := fun {h qh} hq z => ⟨w1, env1, rfl, s1, by
      cases e2 : h env1 with
      | no => rw [e2] at z; exact z
      | ex n env2 => rw [e2] at z; exact exK.mono x1 z
      | ok d env2 =>
        rw [e2] at z
        exact fun w2 v A x2 s2 r2 t2 k2 => z w2 v A (x1.trans x2) s2 r2 (t2.pre x1) fun h => fun a b e => k2 (hq h).2 a b (k1 (hq h).1 a b e)⟩
    cases k with
    | true => exact fin (fun h => by simp only [Bool.and_eq_true] at h; exact ⟨h.1, h.2.1⟩) z
    | false => exact fin (fun h => by simp only [Bool.and_eq_true] at h; exact ⟨h.1, h.2.2⟩) z

/-! ### and, or -/
theorem andB_cons {a : Expr} {fa : M Bool} {fr : M Bool} {qa qr : Bool} {rest : List Expr} {b : Expr} {pos : Pos} (ha : PT X a (tB_ c fa ows ows1 qa)) (hr : PW X (.BoolOp .And (b :: rest) pos) (tB_ c fr ows1 ows' qr)) (hwk : weakB 0 ows1 ows' = true) :
    PW X (.BoolOp .And (a :: b :: rest) pos) (tB_ c (M.bind fa fun k => if k = true then fr else M.ret false) ows ows' (qa && qr)) := by
  refine ⟨fun wh pins s σ H Q I hh => (pw_and ha hr).run wh pins s σ H Q I ?_⟩
  obtain ⟨w, env, hw, sr, z⟩ := hh
  refine ⟨w, env, hw, sr, ?_⟩
  unfold M.bind at z
  cases e1 : fa env with
  | no => rw [e1] at z; exact z
  | ex n env1 => rw [e1] at z; exact z
  | ok k env1 =>
    rw [e1] at z
    intro w1 x1 s1 k1
    cases k with
    | true =>
      rw [if_pos rfl]
      refine ⟨w1, env1, rfl, s1, ?_⟩
      simp only [if_true] at z
      cases e2 : fr env1 with
      | no => rw [e2] at z; exact z
      | ex n env2 => rw [e2] at z; exact exK.mono x1 z
      | ok d env2 =>
        rw [e2] at z
        exact fun w2 x2 s2 k2 => z w2 (x1.trans x2) s2 fun h => fun p r e => k2 (by simp only [Bool.and_eq_true] at h; exact h.2) p r (k1 (by simp only [Bool.and_eq_true] at h; exact h.1) p r e)
    | false =>
      rw [if_neg Bool.false_ne_true]
      obtain ⟨w2, x2, eh, s2⟩ := s1.weak hwk
      have := z w2 (x1.trans x2) s2 fun h => by
        intro p r e
        rw [eh]
        exact k1 (by simp only [Bool.and_eq_true] at h; exact h.1) p r e
      rw [eh] at this
      exact this
theorem orB_cons {a : Expr} {fa : M Bool} {fr : M Bool} {qa qr : Bool} {rest : List Expr} {b : Expr} {pos : Pos} (ha : PT X a (tB_ c fa ows ows1 qa)) (hr : PW X (.BoolOp .Or (b :: rest) pos) (tB_ c fr ows1 ows' qr)) (hwk : weakB 0 ows1 ows' = true) :
    PW X (.BoolOp .Or (a :: b :: rest) pos) (tB_ c (M.bind fa fun k => if k = true then M.ret true else fr) ows ows' (qa && qr)) := by
  refine ⟨fun wh pins s σ H Q I hh => (pw_or ha hr).run wh pins s σ H Q I ?_⟩
  obtain ⟨w, env, hw, sr, z⟩ := hh
  refine ⟨w, env, hw, sr, ?_⟩
  unfold M.bind at z
  cases e1 : fa env with
  | no => rw [e1] at z; exact z
  | ex n env1 => rw [e1] at z; exact z
  | ok k env1 =>
    rw [e1] at z
    intro w1 x1 s1 k1
    cases k with
    | true =>
      rw [if_pos rfl]
      obtain ⟨w2, x2, eh, s2⟩ := s1.weak hwk
      have := z w2 (x1.trans x2) s2 fun h => by
        intro p r e
        rw [eh]
        exact k1 (by simp only [Bool.and_eq_true] at h; exact h.1) p r e
      rw [eh] at this
      exact this
    | false =>
      rw [if_neg Bool.false_ne_true]
      refine ⟨w1, env1, rfl, s1, ?_⟩
      simp only [Bool.false_eq_true, if_false] at z
      cases e2 : fr env1 with
      | no => rw [e2] at z; exact z
      | ex n env2 => rw [e2] at z; exact exK.mono x1 z
      | ok d env2 =>
        rw [e2] at z
        exact fun w2 x2 s2 k2 => z w2 (x1.trans x2) s2 fun h => fun p r e => k2 (by simp only [Bool.and_eq_true] at h; exact h.2) p r (k1 (by simp only [Bool.and_eq_true] at h; exact h.1) p r e)
theorem andV_cons {a : Expr} {fa fr : M D} {oa : Ow} {qa qr : Bool} {rest : List Expr} {b : Expr} {pos : Pos} (ha : PE X a (tR c fa ows ows1 oa qa)) (hr : PE X (.BoolOp .And (b :: rest) pos) (tV c fr ows1 ows' o qr)) (hwk : weakB 0 ows1 ows' = true) :
    PE X (.BoolOp .And (a :: b :: rest) pos) (tV c (M.bind fa fun d => match d with
      | .bl true => fr
      | .bl false => M.ret (.bl false)
      | _ => fun _ => .no) ows ows' o (qa && qr)) := by
  refine wPE (pe_and ha hr) fun σ H Q ⟨w, env, hw, sr, z⟩ => ⟨w, env, hw, sr, ?_⟩
  unfold M.bind at z
  cases e1 : fa env with
  | no => rw [e1] at z; exact z
  | ex n env1 => rw [e1] at z; exact z
  | ok k env1 =>
    rw [e1] at z
    intro w1 v1 A1 x1 s1 r1 k1
    cases k with
    | bl kb =>
      refine ⟨kb, r1.bl, ?_⟩
      cases kb with
      | true =>
        rw [if_pos rfl]
        refine ⟨w1, env1, rfl, s1, ?_⟩
        simp only at z
        cases e2 : fr env1 with
        | no => rw [e2] at z; exact z
        | ex n env2 => rw [e2] at z; exact exK.mono x1 z
        | ok d env2 =>
          rw [e2] at z
          exact fun w2 v2 A2 x2 s2 r2 t2 k2 => z w2 v2 A2 (x1.trans x2) s2 r2 (t2.pre x1) fun h => fun p r e => k2 (by simp only [Bool.and_eq_true] at h; exact h.2) p r (k1 (by simp only [Bool.and_eq_true] at h; exact h.1) p r e)
      | false =>
        rw [if_neg Bool.false_ne_true]
        obtain ⟨w2, x2, eh, s2⟩ := s1.weak hwk
        have := z w2 _ _ (x1.trans x2) s2 RO.mkbl Tmp.nil fun h => by
          intro p r e
          rw [eh]
          exact k1 (by simp only [Bool.and_eq_true] at h; exact h.1) p r e
        rw [eh] at this
        exact this
    | _ => exact z.elim
theorem orV_cons {a : Expr} {fa fr : M D} {oa : Ow} {qa qr : Bool} {rest : List Expr} {b : Expr} {pos : Pos} (ha : PE X a (tR c fa ows ows1 oa qa)) (hr : PE X (.BoolOp .Or (b :: rest) pos) (tV c fr ows1 ows' o qr)) (hwk : weakB 0 ows1 ows' = true) :
    PE X (.BoolOp .Or (a :: b :: rest) pos) (tV c (M.bind fa fun d => match d with
      | .bl true => M.ret (.bl true)
      | .bl false => fr
      | _ => fun _ => .no) ows ows' o (qa && qr)) := by
  refine wPE (pe_or ha hr) fun σ H Q ⟨w, env, hw, sr, z⟩ => ⟨w, env, hw, sr, ?_⟩
  unfold M.bind at z
  cases e1 : fa env with
  | no => rw [e1] at z; exact z
  | ex n env1 => rw [e1] at z; exact z
  | ok k env1 =>
    rw [e1] at z
    intro w1 v1 A1 x1 s1 r1 k1
    cases k with
    | bl kb =>
      refine ⟨kb, r1.bl, ?_⟩
      cases kb with
      | false =>
        rw [if_neg Bool.false_ne_true]
        refine ⟨w1, env1, rfl, s1, ?_⟩
        simp only at z
        cases e2 : fr env1 with
        | no => rw [e2] at z; exact z
        | ex n env2 => rw [e2] at z; exact exK.mono x1 z
        | ok d env2 =>
          rw [e2] at z
          exact fun w2 v2 A2 x2 s2 r2 t2 k2 => z w2 v2 A2 (x1.trans x2) s2 r2 (t2.pre x1) fun h => fun p r e => k2 (by simp only [Bool.and_eq_true] at h; exact h.2) p r (k1 (by simp only [Bool.and_eq_true] at h; exact h.1) p r e)
      | true =>
        rw [if_pos rfl]
        obtain ⟨w2, x2, eh, s2⟩ := s1.weak hwk
        have := z w2 _ _ (x1.trans x2) s2 RO.mkbl Tmp.nil fun h => by
          intro p r e
          rw [eh]
          exact k1 (by simp only [Bool.and_eq_true] at h; exact h.1) p r e
        rw [eh] at this
        exact this
    | _ => exact z.elim

/-! ### lists of expressions -/
def tAV (c : Cc) (f : M (List D)) (ows ows' : Ows) (qt : Bool) : TA := fun σ H Q => ∃ w env, w.H = H ∧ SR c.K c.pn ows env σ w ∧ match f env with
  | .ok ds env' => ∀ w' vs, Ext w w' → SR c.K c.pn ows' env' σ w' → Reps c.K w'.H w'.Z ds vs → (qt = true → Quiet w w') → Q vs w'.H
  | .ex n env' => exK c σ w n env'
  | .no => False
/-- each looked at, os their owners -/
def ROR (K : PySem.W.Frag) (H : Hp) (Z : AS) : List Ow → List D → List V → Prop
  | [], [], [] => True
  | o :: os, d :: ds, v :: vs => (∃ A, RO K H Z o d v A) ∧ ROR K H Z os ds vs
  | _, _, _ => False
def tAR (c : Cc) (f : M (List D)) (ows ows' : Ows) (os : List Ow) (qt : Bool) : TA := fun σ H Q => ∃ w env, w.H = H ∧ SR c.K c.pn ows env σ w ∧ match f env with
  | .ok ds env' => ∀ w' vs, Ext w w' → SR c.K c.pn ows' env' σ w' → ROR c.K w'.H w'.Z os ds vs → (qt = true → Quiet w w') → Q vs w'.H
  | .ex n env' => exK c σ w n env'
  | .no => False
def noStar : Expr → Bool
  | .Starred _ _ => false
  | _ => true
theorem star_cons {e : Expr} {es : List Expr} {env : PySem.Env} (h : noStar e = true) : starEach (e :: es) env = (false, eval e env) :: starEach es env := by
  cases e <;> first | rfl | cases h
theorem star_any {es : List Expr} {env : PySem.Env} {pos : Pos} (h : es.all noStar = true) : (backTo pos (starEach es env)).any (·.1) = false := by
  induction es with
  | nil => rfl
  | cons e es ih =>
    simp only [List.all_cons, Bool.and_eq_true] at h
    rw [star_cons h.1]
    simp only [backTo, List.map_cons, List.any_cons, Bool.false_or]
    exact ih h.2
theorem wPA {X : Cx} {es : List Expr} {t t' : TA} (h : PA X es t) (k : ∀ σ H Q, t' σ H Q → t σ H Q) : PA X es t' := ⟨fun pos pins s σ H Q I q => h.run pos pins s σ H Q I (k σ H Q q)⟩
theorem av_nil : PA X [] (tAV c (M.ret []) ows ows true) := wPA pa_nil fun σ H Q ⟨w, env, hw, sr, z⟩ => by
  subst hw
  exact z w [] Ext.refl sr (by unfold Reps; rfl) fun _ => fun _ _ e => e
theorem av_cons {es : List Expr} {fs : M (List D)} (hs : noStar e = true) (h : PE X e (tV c f ows ows1 .fr q1)) (hr : PA X es (tAV c fs ows1 ows' q2)) : PA X (e :: es) (tAV c (M.bind f fun d => M.bind fs fun ds => M.ret (d :: ds)) ows ows' (q1 && q2)) := by
  refine wPA (pa_cons h hr (star_cons hs)) fun σ H Q ⟨w, env, hw, sr, z⟩ => ⟨w, env, hw, sr, ?_⟩
  unfold M.bind at z
  cases e1 : f env with
  | no => rw [e1] at z; exact z
  | ex n env1 => rw [e1] at z; exact z
  | ok d env1 =>
    rw [e1] at z
    intro w1 v1 A1 x1 s1 r1 t1 k1
    refine ⟨w1, env1, rfl, s1, ?_⟩
    simp only at z
    cases e2 : fs env1 with
    | no => rw [e2] at z; exact z
    | ex n env2 => rw [e2] at z; exact exK.mono x1 z
    | ok ds env2 =>
      rw [e2] at z
      intro w2 vs x2 s2 r2 k2
      have r1' : Rep c.K w2.H w2.Z d v1 := Rep.ext s1 x2 r1.1
      exact z w2 (v1 :: vs) (x1.trans x2) s2 (by unfold Reps; exact ⟨v1, vs, rfl, r1', r2⟩) fun h => fun p r e => k2 (by simp only [Bool.and_eq_true] at h; exact h.2) p r (k1 (by simp only [Bool.and_eq_true] at h; exact h.1) p r e)
theorem ar_nil : PA X [] (tAR c (M.ret []) ows ows [] true) := wPA pa_nil fun σ H Q ⟨w, env, hw, sr, z⟩ => by
  subst hw
  exact z w [] Ext.refl sr trivial fun _ => fun _ _ e => e
theorem ROR.keep {K : PySem.W.Frag} {H H' : Hp} {Z Z' : AS} (kz : ∀ a, Z a → Z' a) (k : ∀ a q, H a = some q → H' a = some q) : ∀ {os : List Ow} {ds : List D} {vs : List V}, ROR K H Z os ds vs → ROR K H' Z' os ds vs
  | [], [], [], _ => trivial
  | _ :: _, _ :: _, _ :: _, h => ⟨let ⟨A, r⟩ := h.1; ⟨A, r.keep kz fun a q e _ => k a q e⟩, ROR.keep kz k h.2⟩
  | [], _ :: _, _, h => h.elim
  | [], [], _ :: _, h => h.elim
  | _ :: _, [], _, h => h.elim
  | _ :: _, _ :: _, [], h => h.elim
/-- later ones must change nothing -/
theorem ar_cons {es : List Expr} {fs : M (List D)} {os : List Ow} (hs : noStar e = true) (h : PE X e (tR c f ows ows1 o q1)) (hr : PA X es (tAR c fs ows1 ows' os true)) : PA X (e :: es) (tAR c (M.bind f fun d => M.bind fs fun ds => M.ret (d :: ds)) ows ows' (o :: os) q1) := by
  refine wPA (pa_cons h hr (star_cons hs)) fun σ H Q ⟨w, env, hw, sr, z⟩ => ⟨w, env, hw, sr, ?_⟩
  unfold M.bind at z
  cases e1 : f env with
  | no => rw [e1] at z; exact z
  | ex n env1 => rw [e1] at z; exact z
  | ok d env1 =>
    rw [e1] at z
    intro w1 v1 A1 x1 s1 r1 k1
    refine ⟨w1, env1, rfl, s1, ?_⟩
    simp only at z
    cases e2 : fs env1 with
    | no => rw [e2] at z; exact z
    | ex n env2 => rw [e2] at z; exact exK.mono x1 z
    | ok ds env2 =>
      rw [e2] at z
      intro w2 vs x2 s2 r2 k2
      have kk := k2 rfl
      exact z w2 (v1 :: vs) (x1.trans x2) s2 ⟨⟨A1, r1.keep x2.z fun a q e _ => kk a q e⟩, r2⟩ fun h => fun p r e => kk p r (k1 h p r e)
/-- a tuple, a list of written items -/
theorem pv_tup {es : List Expr} {fs : M (List D)} {k : Nat} {pos : Pos} (hl : es.length ≤ 1000) (hfs : ∀ env ds env', fs env = .ok ds env' → ds.length = es.length) (h : PA X es (tAV c fs ows ows' q)) : PE X (.Tuple es k pos) (tV c (M.bind fs fun ds => M.ret (.tup ds)) ows ows' o q) := by
  refine wPE (pe_tup h) fun σ H Q ⟨w, env, hw, sr, z⟩ => ⟨w, env, hw, sr, ?_⟩
  unfold M.bind at z
  cases e1 : fs env with
  | no => rw [e1] at z; exact z
  | ex n env1 => rw [e1] at z; exact z
  | ok ds env1 =>
    rw [e1] at z
    intro w1 vs x1 s1 r1 k1
    refine ⟨by rw [r1.len, hfs _ _ _ e1, ← sz_eq]; unfold SZ; omega, fun p hp => ?_⟩
    have al : Alloc w1 (w1.upd p (.tup vs)) (fun _ => False) := Alloc.new0 hp
    exact z (w1.upd p (.tup vs)) _ _ (x1.trans al.ext) (al.sr s1) (RO.newt hp r1) Tmp.nil fun h => fun a b e => al.h a b (k1 h a b e)
theorem pv_lst {es : List Expr} {fs : M (List D)} {pos : Pos} (hl : es.length ≤ 1000) (hfs : ∀ env ds env', fs env = .ok ds env' → ds.length = es.length) (h : PA X es (tAV c fs ows ows' q)) : PE X (.List es pos) (tV c (M.bind fs fun ds => M.ret (.lst ds)) ows ows' (.ow .fr) q) := by
  refine wPE (pe_lst h) fun σ H Q ⟨w, env, hw, sr, z⟩ => ⟨w, env, hw, sr, ?_⟩
  unfold M.bind at z
  cases e1 : fs env with
  | no => rw [e1] at z; exact z
  | ex n env1 => rw [e1] at z; exact z
  | ok ds env1 =>
    rw [e1] at z
    intro w1 vs x1 s1 r1 k1
    refine ⟨by rw [r1.len, hfs _ _ _ e1, ← sz_eq]; unfold SZ; omega, fun p hp => ?_⟩
    have al : Alloc w1 (w1.upd p (.lst vs)) (fun a => a = p) := Alloc.new hp
    exact z (w1.upd p (.lst vs)) _ _ (x1.trans al.ext) (al.sr s1) (RO.newl hp r1) ((al.tmp s1).pre x1) fun h => fun a b e => al.h a b (k1 h a b e)
end
end Mp
/-! Mp6: built-in functions, slices, methods. -/
namespace Mp
open PySem PySem.Spec PyProof.Rows L2

section
variable {X : Cx} {c : Cc} {f g : M D} {ows ows1 ows2 ows' : Ows} {o o1 o2 : Ow} {q q1 q2 : Bool} {e pe : Expr}

/-! ### built-in functions -/
abbrev RC := List V → Hp → VK → Prop
def OkN (K : PySem.W.Frag) (g : List D → Option D) (o : Ow) (r : RC) (sh : Ow → Bool) : Prop := ∀ (w : Wd) (os : List Ow) (ds : List D) (vs : List V) (d : D) (Q : VK), os.all sh = true → ROR K w.H w.Z os ds vs → g ds = some d →
  (∀ w' v A, Alloc w w' A → RO K w'.H w'.Z o d v A → Q v w'.H) → r vs w.H Q
theorem pv_okN {es : List Expr} {fs : M (List D)} {os : List Ow} {g : List D → Option D} {r : RC} {sh : Ow → Bool} {pe : Expr} (hop : ∀ {t}, PA X es t → PE X pe (tCB r t)) (ha : PA X es (tAR c fs ows ows' os q)) (k : OkN c.K g o r sh) (hs : os.all sh = true) :
    PE X pe (tV c (M.bind fs fun ds => M.opt (g ds)) ows ows' o q) := by
  refine wPE (hop ha) fun σ H Q ⟨w, env, hw, sr, z⟩ => ⟨w, env, hw, sr, ?_⟩
  unfold M.bind at z
  cases e1 : fs env with
  | no => rw [e1] at z; exact z
  | ex n env1 => rw [e1] at z; exact z
  | ok ds env1 =>
    rw [e1] at z
    intro w1 vs x1 s1 r1 k1
    simp only [M.opt] at z
    cases e2 : g ds with
    | none => rw [e2] at z; exact z.elim
    | some d =>
      rw [e2] at z
      exact k w1 os ds vs d Q hs r1 e2 fun w2 v A al ro => z w2 v A (x1.trans al.ext) (al.sr s1) ro ((al.tmp s1).pre x1) fun h => fun a b e => al.h a b (k1 h a b e)
theorem ROR.one {K : PySem.W.Frag} {H : Hp} {Z : AS} {os : List Ow} {d : D} {vs : List V} (h : ROR K H Z os [d] vs) : ∃ o v A, os = [o] ∧ vs = [v] ∧ RO K H Z o d v A := by
  match os, vs, h with
  | [o], [v], h => obtain ⟨⟨A, r⟩, _⟩ := h; exact ⟨o, v, A, rfl, rfl, r⟩
  | [], _, h => exact h.elim
  | _ :: _, [], h => exact h.elim
  | [_], _ :: _ :: _, h => exact h.2.elim
  | _ :: _ :: _, [_], h => exact h.2.elim
  | _ :: _ :: _, _ :: _ :: _, h => exact h.2.elim
theorem ROR.two {K : PySem.W.Frag} {H : Hp} {Z : AS} {os : List Ow} {d d2 : D} {vs : List V} (h : ROR K H Z os [d, d2] vs) : ∃ o v A o2 v2 A2, os = [o, o2] ∧ vs = [v, v2] ∧ RO K H Z o d v A ∧ RO K H Z o2 d2 v2 A2 := by
  match os, vs, h with
  | o :: os, v :: vs, h =>
    obtain ⟨o2, v2, A2, rfl, rfl, h2⟩ := ROR.one h.2
    obtain ⟨⟨A, r⟩, _⟩ := h
    exact ⟨o, v, A, o2, v2, A2, rfl, rfl, r, h2⟩
  | [], _, h => exact h.elim
  | _ :: _, [], h => exact h.elim
/-- len: any owner -/
def anyO (_ : Ow) : Bool := true
abbrev rLenA (K : PySem.W.Frag) : RC := fun xs H Q => (∃ x n, xs = [x] ∧ LenV K x H n ∧ Q (.int n) H) ∨ (∃ a kvs, xs = [V.ref a] ∧ H a = some (.dK kvs) ∧ Q (.int kvs.length) H) ∨ rLenT xs H Q
theorem call_lenA : CallR X (.builtin "len") (rLenA X.K) := call_len.or (call_lenD.or call_len_dT)
theorem ok_len {K : PySem.W.Frag} : OkN K (bF .len) (.ow .fr) (rLenA K) anyO := by
  intro w os ds vs d Q _ rr e k
  match ds, e with
  | [.lst xs], e =>
    obtain ⟨o, v, A, rfl, rfl, r⟩ := rr.one
    cases e
    obtain ⟨a, ys, rfl, h1, h2⟩ := r.lst
    exact .inl ⟨_, ys.length, rfl, .inl ⟨ys, SqL.of h1, rfl⟩, fin_int (by rw [h2]) k⟩
  | [.rol xs], e =>
    obtain ⟨o, v, A, rfl, rfl, r⟩ := rr.one
    cases e
    obtain ⟨a, ys, rfl, h1, h2⟩ := r.rol
    exact .inl ⟨_, ys.length, rfl, .inl ⟨ys, h1.sq, rfl⟩, fin_int (by rw [h2.len]) k⟩
  | [.tup xs], e =>
    obtain ⟨o, v, A, rfl, rfl, r⟩ := rr.one
    cases e
    obtain ⟨a, ys, rfl, h1, h2⟩ := r.tup
    exact .inl ⟨_, ys.length, rfl, .inr ⟨ys, h1, rfl⟩, fin_int (by rw [h2.len]) k⟩
  | [.str x], e =>
    obtain ⟨o, v, A, rfl, rfl, r⟩ := rr.one
    have e' : (if x.length ≤ SZ then some (D.int x.length) else none) = some d := e
    by_cases hl : x.length ≤ SZ
    · rw [if_pos hl] at e'
      cases e'
      rw [r.str]
      exact .inl ⟨_, x.length, rfl, ⟨by rw [← sz_eq]; exact hl, rfl⟩, fin_int rfl k⟩
    · rw [if_neg hl] at e'; cases e'
  | [.dct t ks xs], e =>
    obtain ⟨o, v, A, rfl, rfl, r⟩ := rr.one
    cases e
    obtain ⟨a, ys, rfl, _, h1, _⟩ := (show ∃ a xs', v = V.ref a ∧ _ ∧ DcAt w.H a t ks xs' ∧ _ from r.fz)
    obtain ⟨_, ⟨_, kvs, e1, e2, _⟩ | ⟨_, kvs, e1, e2, _⟩⟩ := h1
    · exact .inr (.inl ⟨a, kvs, rfl, e1, fin_int (by rw [e2, List.length_map]) k⟩)
    · exact .inr (.inr ⟨a, kvs, rfl, e1, fin_int (by rw [e2, List.length_map]) k⟩)
theorem ok_abs {K : PySem.W.Frag} : OkN K (bF .abs) (.ow .fr) (fun xs H Q => ∃ i, xs = [.int i] ∧ Q (.int (if i < 0 then -i else i)) H) anyO := by
  intro w os ds vs d Q _ rr e k
  match ds, e with
  | [.int i], e =>
    obtain ⟨o, v, A, rfl, rfl, r⟩ := rr.one
    cases e
    exact ⟨i, by rw [r.int], fin_int rfl k⟩
theorem ok_int {K : PySem.W.Frag} : OkN K (bF .int) (.ow .fr) (fun xs H Q => (∃ i, xs = [.int i] ∧ Q (.int i) H) ∨ ∃ k, xs = [.bl k] ∧ Q (.int (if k then 1 else 0)) H) anyO := by
  intro w os ds vs d Q _ rr e k
  match ds, e with
  | [.int i], e =>
    obtain ⟨o, v, A, rfl, rfl, r⟩ := rr.one
    cases e
    exact .inl ⟨i, by rw [r.int], fin_int rfl k⟩
  | [.bl b], e =>
    obtain ⟨o, v, A, rfl, rfl, r⟩ := rr.one
    cases e
    exact .inr ⟨b, by rw [r.bl], fin_int rfl k⟩
theorem ok_bool {K : PySem.W.Frag} : OkN K (bF .bool) (.ow .fr) (fun xs H Q => (∃ i, xs = [.int i] ∧ Q (.bl (i != 0)) H) ∨ ∃ k, xs = [.bl k] ∧ Q (.bl k) H) anyO := by
  intro w os ds vs d Q _ rr e k
  match ds, e with
  | [.bl b], e =>
    obtain ⟨o, v, A, rfl, rfl, r⟩ := rr.one
    cases e
    exact .inr ⟨b, by rw [r.bl], fin_bl rfl k⟩
theorem ok_str {K : PySem.W.Frag} : OkN K (bF .str) (.ow .fr) (fun xs H Q => ∃ i, xs = [.int i] ∧ i.natAbs.log2 < 1920 ∧ Q (.str (toString i)) H) anyO := by
  intro w os ds vs d Q _ rr e k
  match ds, e with
  | [.int i], e =>
    obtain ⟨o, v, A, rfl, rfl, r⟩ := rr.one
    have e' : (if i.natAbs.log2 < 1920 then some (D.str (toString i)) else none) = some d := e
    by_cases hl : i.natAbs.log2 < 1920
    · rw [if_pos hl] at e'
      exact ⟨i, by rw [r.int], hl, fin_str (Option.some.inj e') k⟩
    · rw [if_neg hl] at e'; cases e'
theorem ok_max2 {K : PySem.W.Frag} : OkN K (bF .max2) (.ow .fr) (fun xs H Q => ∃ i j, xs = [.int i, .int j] ∧ Q (.int (if j > i then j else i)) H) anyO := by
  intro w os ds vs d Q _ rr e k
  match ds, e with
  | [.int i, .int j], e =>
    obtain ⟨o, v, A, o2, v2, A2, rfl, rfl, r, r2⟩ := rr.two
    cases e
    exact ⟨i, j, by rw [r.int, r2.int], fin_int rfl k⟩
theorem ok_min2 {K : PySem.W.Frag} : OkN K (bF .min2) (.ow .fr) (fun xs H Q => ∃ i j, xs = [.int i, .int j] ∧ Q (.int (if j < i then j else i)) H) anyO := by
  intro w os ds vs d Q _ rr e k
  match ds, e with
  | [.int i, .int j], e =>
    obtain ⟨o, v, A, o2, v2, A2, rfl, rfl, r, r2⟩ := rr.two
    cases e
    exact ⟨i, j, by rw [r.int, r2.int], fin_int rfl k⟩
abbrev rListA (K : PySem.W.Frag) : RC := fun xs H Q => ∃ p ys, xs = [.ref p] ∧ (SqL K H p ys ∨ SqT K H p ys) ∧ ∀ l, H l = none → Q (.ref l) (upd H l (.lst ys))
theorem ok_list {K : PySem.W.Frag} : OkN K (bF .list) (.ow .fr) (rListA K) shal := by
  intro w os ds vs d Q sh rr e k
  match ds, e with
  | [.lst xs], e =>
    obtain ⟨o, v, A, rfl, rfl, r⟩ := rr.one
    cases e
    obtain ⟨a, ys, rfl, h1, h2⟩ := r.lstR (by simpa using sh)
    exact ⟨a, ys, rfl, .inl (SqL.of h1), fun p hp => k (w.upd p (.lst ys)) _ _ (Alloc.new hp) (RO.newl hp h2)⟩
  | [.tup xs], e =>
    obtain ⟨o, v, A, rfl, rfl, r⟩ := rr.one
    cases e
    obtain ⟨a, ys, rfl, h1, h2⟩ := r.tup
    exact ⟨a, ys, rfl, .inr h1, fun p hp => k (w.upd p (.lst ys)) _ _ (Alloc.new hp) (RO.newl hp h2)⟩
abbrev rTupleA (K : PySem.W.Frag) : RC := fun xs H Q => ∃ p ys, xs = [.ref p] ∧ ((SqL K H p ys ∧ ∀ l, H l = none → Q (.ref l) (upd H l (.tup ys))) ∨ (SqT K H p ys ∧ Q (.ref p) H))
theorem ok_tuple {K : PySem.W.Frag} : OkN K (bF .tuple) .fr (rTupleA K) shal := by
  intro w os ds vs d Q sh rr e k
  match ds, e with
  | [.lst xs], e =>
    obtain ⟨o, v, A, rfl, rfl, r⟩ := rr.one
    cases e
    obtain ⟨a, ys, rfl, h1, h2⟩ := r.lstR (by simpa using sh)
    exact ⟨a, ys, rfl, .inl ⟨SqL.of h1, fun p hp => k (w.upd p (.tup ys)) _ _ (Alloc.new0 hp) (RO.newt hp h2)⟩⟩
  | [.tup xs], e =>
    obtain ⟨o, v, A, rfl, rfl, r⟩ := rr.one
    cases e
    obtain ⟨a, ys, rfl, h1, h2⟩ := r.tup
    exact ⟨a, ys, rfl, .inr ⟨h1, k w _ _ Alloc.refl (RO.mktup h1 h2)⟩⟩
theorem ok_sum {K : PySem.W.Frag} : OkN K (bF .sum) (.ow .fr) (rSum K) shal := by
  intro w os ds vs d Q sh rr e k
  match ds, e with
  | [.lst xs], e =>
    obtain ⟨o, v, A, rfl, rfl, r⟩ := rr.one
    obtain ⟨ns, e1, rfl⟩ := Option.map_eq_some_iff.mp (show (D.ints xs).map (fun ns => D.int ns.sum) = some d from e)
    obtain ⟨a, ys, rfl, h1, h2⟩ := r.lstR (by simpa using sh)
    obtain ⟨e2, _⟩ := ints_reps e1 h2
    subst e2
    exact ⟨a, ns, rfl, SqL.of h1, fin_int rfl k⟩
theorem bools_reps {K : PySem.W.Frag} {H : Hp} {Z : AS} : ∀ {ds : List D} {xs : List V} {ns : List Bool}, bools ds = some ns → Reps K H Z ds xs → xs = ns.map V.bl
  | [], xs, ns, e, h => by
    unfold Reps at h
    subst h
    simp only [bools, Option.some.injEq] at e
    subst e
    rfl
  | d :: ds, xs, ns, e, h => by
    unfold Reps at h
    obtain ⟨x, r, rfl, h1, h2⟩ := h
    cases d <;> simp only [bools, reduceCtorEq] at e
    obtain ⟨ms, e1, rfl⟩ := Option.map_eq_some_iff.mp e
    have q1 := bools_reps e1 h2
    unfold Rep at h1
    subst h1 q1
    rfl
theorem ok_any {K : PySem.W.Frag} : OkN K (bF .any) (.ow .fr) (rAny K) shal := by
  intro w os ds vs d Q sh rr e k
  match ds, e with
  | [.lst xs], e =>
    obtain ⟨o, v, A, rfl, rfl, r⟩ := rr.one
    obtain ⟨ns, e1, rfl⟩ := Option.map_eq_some_iff.mp (show (bools xs).map (fun bs => D.bl (bs.any id)) = some d from e)
    obtain ⟨a, ys, rfl, h1, h2⟩ := r.lstR (by simpa using sh)
    rw [bools_reps e1 h2] at h1
    exact ⟨a, ns, rfl, SqL.of h1, fin_bl rfl k⟩
theorem ok_all {K : PySem.W.Frag} : OkN K (bF .all) (.ow .fr) (rAll K) shal := by
  intro w os ds vs d Q sh rr e k
  match ds, e with
  | [.lst xs], e =>
    obtain ⟨o, v, A, rfl, rfl, r⟩ := rr.one
    obtain ⟨ns, e1, rfl⟩ := Option.map_eq_some_iff.mp (show (bools xs).map (fun bs => D.bl (bs.all id)) = some d from e)
    obtain ⟨a, ys, rfl, h1, h2⟩ := r.lstR (by simpa using sh)
    rw [bools_reps e1 h2] at h1
    exact ⟨a, ns, rfl, SqL.of h1, fin_bl rfl k⟩
theorem maxI_spec : ∀ {ns : List Int} {m : Int}, maxI ns = some m → 0 < ns.length ∧ ∀ y, (y ∈ ns ∧ ∀ z, z ∈ ns → z ≤ y) ↔ y = m
  | [], _, e => by cases e
  | [x], m, e => by
    cases e
    refine ⟨by simp, fun y => ⟨fun h => by simpa using h.1, fun h => by subst h; simp⟩⟩
  | x :: x2 :: xs, m, e => by
    obtain ⟨m', e1, rfl⟩ := Option.map_eq_some_iff.mp (show (maxI (x2 :: xs)).map (fun m => if x ≤ m then m else x) = some m from e)
    obtain ⟨_, h⟩ := maxI_spec e1
    obtain ⟨h1, h2⟩ := (h m').mpr rfl
    have key : (if x ≤ m' then m' else x) ∈ x :: x2 :: xs ∧ ∀ z, z ∈ x :: x2 :: xs → z ≤ (if x ≤ m' then m' else x) := by
      by_cases q : x ≤ m'
      · rw [if_pos q]
        refine ⟨List.mem_cons_of_mem _ h1, fun z hz => ?_⟩
        rcases List.mem_cons.mp hz with rfl | hz
        · exact q
        · exact h2 z hz
      · rw [if_neg q]
        refine ⟨List.mem_cons_self, fun z hz => ?_⟩
        rcases List.mem_cons.mp hz with rfl | hz
        · exact Int.le_refl _
        · have := h2 z hz; omega
    exact ⟨by simp, fun y => ⟨fun hy => Int.le_antisymm (key.2 y hy.1) (hy.2 _ key.1), fun hy => by rw [hy]; exact key⟩⟩
theorem minI_spec : ∀ {ns : List Int} {m : Int}, minI ns = some m → 0 < ns.length ∧ ∀ y, (y ∈ ns ∧ ∀ z, z ∈ ns → y ≤ z) ↔ y = m
  | [], _, e => by cases e
  | [x], m, e => by
    cases e
    refine ⟨by simp, fun y => ⟨fun h => by simpa using h.1, fun h => by subst h; simp⟩⟩
  | x :: x2 :: xs, m, e => by
    obtain ⟨m', e1, rfl⟩ := Option.map_eq_some_iff.mp (show (minI (x2 :: xs)).map (fun m => if m ≤ x then m else x) = some m from e)
    obtain ⟨_, h⟩ := minI_spec e1
    obtain ⟨h1, h2⟩ := (h m').mpr rfl
    have key : (if m' ≤ x then m' else x) ∈ x :: x2 :: xs ∧ ∀ z, z ∈ x :: x2 :: xs → (if m' ≤ x then m' else x) ≤ z := by
      by_cases q : m' ≤ x
      · rw [if_pos q]
        refine ⟨List.mem_cons_of_mem _ h1, fun z hz => ?_⟩
        rcases List.mem_cons.mp hz with rfl | hz
        · exact q
        · exact h2 z hz
      · rw [if_neg q]
        refine ⟨List.mem_cons_self, fun z hz => ?_⟩
        rcases List.mem_cons.mp hz with rfl | hz
        · exact Int.le_refl _
        · have := h2 z hz; omega
    exact ⟨by simp, fun y => ⟨fun hy => Int.le_antisymm (hy.2 _ key.1) (key.2 y hy.1), fun hy => by rw [hy]; exact key⟩⟩
theorem ok_max1 {K : PySem.W.Frag} : OkN K (bF .max1) (.ow .fr) (rMax K) shal := by
  intro w os ds vs d Q sh rr e k
  match ds, e with
  | [.lst xs], e =>
    obtain ⟨o, v, A, rfl, rfl, r⟩ := rr.one
    obtain ⟨ns, e1, e2⟩ := Option.bind_eq_some_iff.mp (show (D.ints xs).bind (fun ns => (maxI ns).map D.int) = some d from e)
    obtain ⟨m, e3, rfl⟩ := Option.map_eq_some_iff.mp e2
    obtain ⟨a, ys, rfl, h1, h2⟩ := r.lstR (by simpa using sh)
    obtain ⟨e4, _⟩ := ints_reps e1 h2
    subst e4
    obtain ⟨h3, h4⟩ := maxI_spec e3
    exact ⟨a, ns, rfl, SqL.of h1, h3, fun m' a1 a2 => fin_int (by rw [(h4 m').mp ⟨a1, a2⟩]) k⟩
theorem ok_min1 {K : PySem.W.Frag} : OkN K (bF .min1) (.ow .fr) (rMin K) shal := by
  intro w os ds vs d Q sh rr e k
  match ds, e with
  | [.lst xs], e =>
    obtain ⟨o, v, A, rfl, rfl, r⟩ := rr.one
    obtain ⟨ns, e1, e2⟩ := Option.bind_eq_some_iff.mp (show (D.ints xs).bind (fun ns => (minI ns).map D.int) = some d from e)
    obtain ⟨m, e3, rfl⟩ := Option.map_eq_some_iff.mp e2
    obtain ⟨a, ys, rfl, h1, h2⟩ := r.lstR (by simpa using sh)
    obtain ⟨e4, _⟩ := ints_reps e1 h2
    subst e4
    obtain ⟨h3, h4⟩ := minI_spec e3
    exact ⟨a, ns, rfl, SqL.of h1, h3, fun m' a1 a2 => fin_int (by rw [(h4 m').mp ⟨a1, a2⟩]) k⟩
end
end Mp
/-! Mp7: subscripts, slices, methods, calls. -/
namespace Mp
open PySem PySem.Spec PyProof.Rows L2

section
variable {X : Cx} {c : Cc} {f g : M D} {ows ows1 ows2 ows' : Ows} {o o1 o2 : Ow} {q q1 q2 : Bool} {e pe : Expr}
theorem PEor {X : Cx} {e : Expr} {t t' : TE} (h : PE X e t) (h' : PE X e t') : PE X e (fun σ H Q => t σ H Q ∨ t' σ H Q) := ⟨fun pins s σ H Q I z => z.elim (h.run pins s σ H Q I) (h'.run pins s σ H Q I)⟩
def noSl : Expr → Bool
  | .Slice _ _ _ _ => false
  | _ => true
theorem plainIx {b : Expr} (h : noSl b = true) : PlainIx b := by
  intro o i
  cases b <;> first | rfl | cases h
/-- a chain of two comparisons -/
theorem ch_imp {fa fb fd : M D} {oa ob od : Ow} {oc oc' : CO} {r r' : R2} (k1 : Ok2 c.K (cmpM oc) (.ow .fr) r oa ob) (k2 : Ok2 c.K (cmpM oc') (.ow .fr) r' ob od) :
    ∀ σ H Q, tV c (chM oc oc' fa fb fd) ows ows2 (.ow .fr) q σ H Q → tChain r r' (tR c fa ows ows1 oa q) (tR c fb ows1 ows2 ob true) (tR c fd ows2 ows2 od true) σ H Q := by
  intro σ H Q ⟨w, env, hw, sr, z⟩
  refine ⟨w, env, hw, sr, ?_⟩
  unfold chM M.bind at z
  cases e1 : fa env with
  | no => rw [e1] at z; exact z
  | ex n env1 => rw [e1] at z; exact z
  | ok d1 env1 =>
    rw [e1] at z
    intro w1 v1 A1 x1 s1 r1 kk1
    refine ⟨w1, env1, rfl, s1, ?_⟩
    simp only at z
    cases e2 : fb env1 with
    | no => rw [e2] at z; exact z
    | ex n env2 => rw [e2] at z; exact exK.mono x1 z
    | ok d2 env2 =>
      rw [e2] at z
      intro w2 v2 A2 x2 s2 r2 kk2
      have r1' : RO c.K w2.H w2.Z oa d1 v1 A1 := r1.keep x2.z fun a q e _ => kk2 rfl a q e
      simp only [M.opt] at z
      cases e3 : cmpD oc d1 d2 with
      | none => rw [e3] at z; exact z.elim
      | some kb =>
        rw [e3] at z
        simp only at z
        refine k1 w2 d1 d2 v1 v2 A1 A2 (.bl kb) _ r1' r2 (by show (cmpD oc d1 d2).map D.bl = _; rw [e3]; rfl) fun w3 v3 A3 al ro => ⟨kb, ro.bl, ?_⟩
        have x13 := (x1.trans x2).trans al.ext
        have q13 : q = true → Quiet w w3 := fun h => fun a b e => al.h a b (kk2 rfl a b (kk1 h a b e))
        cases kb with
        | true =>
          rw [if_pos rfl]
          simp only [if_true] at z
          refine ⟨w3, env2, rfl, al.sr s2, ?_⟩
          cases e4 : fd env2 with
          | no => rw [e4] at z; exact z
          | ex n env3 => rw [e4] at z; exact exK.mono x13 z
          | ok d3 env3 =>
            rw [e4] at z
            intro w4 v4 A4 x4 s4 r4 kk4
            simp only [M.opt] at z
            cases e5 : cmpM oc' d2 d3 with
            | none => rw [show (cmpD oc' d2 d3).map D.bl = none from e5] at z; exact z.elim
            | some dd =>
              rw [show (cmpD oc' d2 d3).map D.bl = some dd from e5] at z
              have r2' : RO c.K w4.H w4.Z ob d2 v2 A2 := (al.keep r2).keep x4.z fun a q e _ => kk4 rfl a q e
              refine k2 w4 d2 d3 v2 v4 A2 A4 dd _ r2' r4 e5 fun w5 v5 A5 al5 ro5 => ?_
              exact z w5 v5 A5 ((x13.trans x4).trans al5.ext) (al5.sr s4) ro5 ((al5.tmp s4).pre (x13.trans x4)) fun h => fun a b e => al5.h a b (kk4 rfl a b (q13 h a b e))
        | false =>
          rw [if_neg Bool.false_ne_true]
          simp only [Bool.false_eq_true, if_false] at z
          exact z w3 _ _ x13 (al.sr s2) RO.mkbl Tmp.nil q13

/-! ### subscripts -/
theorem pv_ix0 {a b : Expr} {fa fb : M D} {oa ob : Ow} {pos : Pos} (ha : PE X a (tR c fa ows ows1 oa q)) (hb : PE X b (tR c fb ows1 ows2 ob true)) (hs : noSl b = true) (sh : shal oa = true) (hK : X.K = c.K) :
    PE X (.Subscript a b pos) (tV c (op2 (fun x y => match x with
      | .dct _ _ _ => none
      | _ => ixD x y) fa fb) ows ows2 .fr q) :=
  pe_ok2 ha hb (fun h1 h2 => pe_ix (r := rIxA c.K) (by rw [← hK]; exact ix_all) h1 h2 (plainIx hs)) (ok_ix sh)

/-! ### slices -/
def tPO (c : Cc) (f : M (Option Int)) (ows ows' : Ows) : TO := fun σ H Q => ∃ w env, w.H = H ∧ SR c.K c.pn ows env σ w ∧ match f env with
  | .ok oi env' => ∀ w', Ext w w' → SR c.K c.pn ows' env' σ w' → Quiet w w' → Q oi w'.H
  | .ex n env' => exK c σ w n env'
  | .no => False
theorem wPO {e : Option Expr} {t t' : TO} (h : PO X e t) (k : ∀ σ H Q, t' σ H Q → t σ H Q) : PO X e t' := ⟨fun pins s σ H Q I z => h.run pins s σ H Q I (k σ H Q z)⟩
theorem po_no : PO X none (tPO c (M.ret none) ows ows) := wPO po_none fun σ H Q ⟨w, env, hw, sr, z⟩ => by
  subst hw
  exact z w Ext.refl sr fun _ _ e => e
theorem po_at {fs : M D × M Bool} (h : PE X e (tR c fs.1 ows ows' o true)) : PO X (some e) (tPO c (partM [fs]) ows ows') := by
  refine wPO (po_some h) fun σ H Q ⟨w, env, hw, sr, z⟩ => ⟨w, env, hw, sr, ?_⟩
  simp only [partM, M.bind] at z
  cases e1 : fs.1 env with
  | no => rw [e1] at z; exact z
  | ex n env1 => rw [e1] at z; exact z
  | ok d env1 =>
    rw [e1] at z
    intro w1 v A x s r k
    cases d with
    | int i => exact ⟨i, r.int, z w1 x s (k rfl)⟩
    | _ => exact z.elim
theorem cut_reps {K : PySem.W.Frag} {H : Hp} {Z : AS} : ∀ {ds : List D} {xs : List V}, Reps K H Z ds xs → ∀ n m : Nat, Reps K H Z ((ds.drop n).take m) ((xs.drop n).take m) := fun {ds xs} h n m =>
  Reps.of (by simp [h.len]) fun k d x e1 e2 => by
    rw [List.getElem?_take] at e1 e2
    split at e1
    · rename_i hk
      rw [if_pos hk] at e2
      rw [List.getElem?_drop] at e1 e2
      obtain ⟨y, e3, r⟩ := h.get e1
      rw [e2] at e3; cases e3
      exact r
    · cases e1
abbrev rSlAll (K : PySem.W.Frag) : V → Option Int → Option Int → Hp → VK → Prop := fun x lo hi H Q => rSlL K x lo hi H Q ∨ rSlA K x lo hi H Q ∨ rSlS x lo hi H Q
theorem pv_sl {lo hi : Option Expr} {fl fh : M (Option Int)} {pos p2 : Pos} (ha : PE X e (tR c f ows ows1 o q)) (hl : PO X lo (tPO c fl ows1 ows2)) (hh : PO X hi (tPO c fh ows2 ows')) (sh : shal o = true) (hK : X.K = c.K) :
    PE X (.Subscript e (.Slice lo hi none p2) pos) (tV c (M.bind f fun x => M.bind fl fun l => M.bind fh fun h => M.opt (slD x l h)) ows ows' (.ow .fr) q) := by
  refine wPE (pe_slice (r := rSlAll c.K) (by rw [← hK]; exact sl_list.or (sl_tupA.or sl_str)) ha hl hh) fun σ H Q ⟨w, env, hw, sr, z⟩ => ⟨w, env, hw, sr, ?_⟩
  unfold M.bind at z
  cases e1 : f env with
  | no => rw [e1] at z; exact z
  | ex n env1 => rw [e1] at z; exact z
  | ok d env1 =>
    rw [e1] at z
    intro w1 v1 A1 x1 s1 r1 k1
    refine ⟨w1, env1, rfl, s1, ?_⟩
    simp only at z
    cases e2 : fl env1 with
    | no => rw [e2] at z; exact z
    | ex n env2 => rw [e2] at z; exact exK.mono x1 z
    | ok l env2 =>
      rw [e2] at z
      intro w2 x2 s2 k2
      refine ⟨w2, env2, rfl, s2, ?_⟩
      simp only at z
      cases e3 : fh env2 with
      | no => rw [e3] at z; exact z
      | ex n env3 => rw [e3] at z; exact exK.mono (x1.trans x2) z
      | ok h env3 =>
        rw [e3] at z
        intro w3 x3 s3 k3
        simp only [M.opt] at z
        have r3 : RO c.K w3.H w3.Z o d v1 A1 := r1.keep (fun a h => x3.z a (x2.z a h)) fun a q e _ => k3 a q (k2 a q e)
        cases e4 : slD d l h with
        | none => rw [e4] at z; exact z.elim
        | some dd =>
          rw [e4] at z
          have fin : ∀ w4 v A, Alloc w3 w4 A → RO c.K w4.H w4.Z (.ow .fr) dd v A → Q v w4.H := fun w4 v A al ro =>
            z w4 v A (((x1.trans x2).trans x3).trans al.ext) (al.sr s3) ro ((al.tmp s3).pre ((x1.trans x2).trans x3)) fun h => fun a b e => al.h a b (k3 a b (k2 a b (k1 h a b e)))
          cases d with
          | lst ds =>
            cases e4
            obtain ⟨a, xs, rfl, h1, q1⟩ := r3.lstR sh
            refine .inl ⟨a, xs, rfl, SqL.of h1, fun p hp => fin (w3.upd p _) _ _ (Alloc.new hp) ?_⟩
            have q2 := cut_reps q1 (HT.sIx ds.length 0 l) (HT.sIx ds.length ds.length h - HT.sIx ds.length 0 l)
            rw [← q1.len] at q2
            have := RO.newl hp q2
            rw [q1.len] at this
            unfold cutV cutD
            rw [q1.len]
            exact this
          | tup ds =>
            cases e4
            obtain ⟨a, xs, rfl, h1, q1⟩ := r3.tup
            have q2 := cut_reps q1 (HT.sIx ds.length 0 l) (HT.sIx ds.length ds.length h - HT.sIx ds.length 0 l)
            refine .inr (.inl ⟨a, xs, rfl, h1, fun hq => ?_, fun _ p hp => fin (w3.upd p _) _ _ (Alloc.new0 hp) ?_⟩)
            · rw [q1.len] at hq
              have ec : cutD ds l h = ds := by
                unfold cutD
                rw [hq.1, hq.2]
                simp
              rw [ec] at fin
              exact fin w3 _ _ Alloc.refl (RO.mktup h1 q1)
            · have := RO.newt (o := .ow .fr) hp q2
              unfold cutV cutD
              rw [q1.len]
              exact this
          | str zz =>
            have e5 : (if zz.length ≤ SZ then some (D.str (cutS zz l h)) else none) = some dd := e4
            by_cases hl : zz.length ≤ SZ
            · rw [if_pos hl] at e5
              cases e5
              exact .inr (.inr ⟨zz, r3.str, by rw [← sz_eq]; exact hl, fin w3 _ _ Alloc.refl RO.mkstr⟩)
            · rw [if_neg hl] at e5; cases e5
          | _ => cases e4

/-! ### calls of one's own defs -/
/-- what the def called n promises: C says what the call does -/
def pinOf (po : Ows) (vs : List V) : Pin := fun i => if owAt po i = .fr then none else (vs[i]?).map fun v => (v, none)
/-- what is given back of the parameters: the lent ones -/
def lsOf (po : Ows) (ls : List D) : Env := (List.range ls.length).map fun i => if owAt po i = .fr then none else ls[i]?
def spOf (K : PySem.W.Frag) (cl : List D → CR) (po : Ows) (ro : Ow) (np : Nat) : Sp := fun vs H Q E => ∃ (w : Wd) (ds : List D), w.H = H ∧ vs.length = np ∧ ds.length = np ∧ SR K (pinOf po vs) po (ds.map some) (vs.map some) w ∧ match cl ds with
  | .ok r ls => ∀ w' v A, Ext w w' → ls.length = np → SR K (pinOf po vs) po (lsOf po ls) (vs.map some) w' → RO K w'.H w'.Z ro r v A → Tmp w w' A → Q v w'.H
  | .ex n => ∀ w', Ext w w' → E (.ref (He.ga K n)) none w'.H
  | .no => False

/-- the caller's state behind a call that was lent nothing -/
theorem SR.after {K : PySem.W.Frag} {pn : Pin} {env : Env} {σ : L2.St} {w w2 : Wd} (s : SR K pn ows env σ w) (x : Ext ⟨w.Z, fun _ _ => False, w.H⟩ w2) : SR K pn ows env σ ⟨w2.Z, w.F, w2.H⟩ ∧ Ext w ⟨w2.Z, w.F, w2.H⟩ ∧ (∀ a q, w.H a = some q → w2.H a = some q) := by
  have hk : ∀ a q, w.H a = some q → w2.H a = some q := fun a q e => x.fr a q e fun _ z => z
  refine ⟨⟨s.len, fun i d e => ?_, s.apart, fun i a h z => ?_, fun i a h => ?_, fun a z => ?_, s.pin⟩, ⟨x.z, fun a o e _ => hk a o e, x.dm, fun i a h => .inl ⟨i, h⟩, fun a z => ?_, x.zh⟩, hk⟩
  · obtain ⟨v, h1, h2⟩ := s.at_ i d e
    exact ⟨v, h1, h2.keep (H' := w2.H) (Z' := w2.Z) x.z fun a q e _ => hk a q e⟩
  · rcases x.zn a z with q | ⟨_, q⟩ | q
    · exact s.zf i a h q
    · exact q
    · obtain ⟨o, e, _⟩ := s.fm i a h
      exact absurd e (by rw [show w.H a = none from q]; simp)
  · obtain ⟨o, e, m⟩ := s.fm i a h
    exact ⟨o, hk a o e, m⟩
  · exact x.zh s.zt a z
  · rcases x.zn a z with q | ⟨_, q⟩ | q
    · exact .inl q
    · exact q.elim
    · exact .inr (.inr q)

def noLn : E → Bool
  | .ln _ => false
  | _ => true
theorem wb_none : ∀ {es : List E} {ls : List D} {e : Env}, es.all noLn = true → wb es ls e = e
  | [], _, _, _ => by cases ‹List D› <;> rfl
  | x :: es, [], e, _ => by cases x <;> rfl
  | x :: es, l :: ls, e, h => by
    simp only [List.all_cons, Bool.and_eq_true] at h
    have ih := wb_none (ls := ls) (e := e) h.2
    cases x <;> first | exact ih | (simp [noLn] at h)
theorem unl_none : ∀ {es : List E} {e : Env}, es.all noLn = true → unl es e = e
  | [], _, _ => rfl
  | x :: es, e, h => by
    simp only [List.all_cons, Bool.and_eq_true] at h
    have ih := unl_none (e := e) h.2
    cases x <;> first | exact ih | (simp [noLn] at h)
theorem getS_map {ds : List D} {i : Nat} {d : D} (h : getS (ds.map some) i = some d) : ds[i]? = some d := by
  unfold getS at h
  rw [List.getElem?_map] at h
  cases e : ds[i]? with
  | none => rw [e] at h; simp at h
  | some x => rw [e] at h; simpa using h
/-- frozen arguments, as the callee's slots -/
theorem sr_args {K : PySem.W.Frag} {Z : AS} {H : Hp} {ds : List D} {vs : List V} (h : Reps K H Z ds vs) (hz : ∀ a, Z a → H a ≠ none) : SR K (pinOf [] vs) [] (ds.map some) (vs.map some) ⟨Z, fun _ _ => False, H⟩ where
  len := by simp [h.len]
  at_ := fun i d e => by
    obtain ⟨x, h1, h2⟩ := h.get (getS_map e)
    exact ⟨x, by simp [h1], ⟨h2, fun _ z => z⟩⟩
  apart := fun _ _ _ z => z.elim
  zf := fun _ _ z => z.elim
  fm := fun _ _ z => z.elim
  zt := hz
  pin := fun i p e => by simp [pinOf, owAt] at e
theorem pv_call {C : Cs} {fn : Str} {Es : List E} {ps : List (M D × M Bool)} {fa : Addr} {fd : FuncData} {pnames : List Str} {ro : Ow} {np k : Nat} {e : Expr} {es : List Expr} {p pos : Pos}
    (F : FnOk X.prog X.w X.K X.mg X.base (L2.CX X.prog X.w) k fa fd pnames (spOf c.K (C.cl fn) [] ro np)) (hr : Room k X.A) (hg : Gl X fn) (hm : X.mg fn = some (.ref fa)) (hk : PySem.W.keepIn X.K (.ref fa) = true) (hb : Binds X.K fd pnames [])
    (tk : Takes X c.W) (hl : Es.all noLn = true) (hne : Es.length = np) (ha : PA X (e :: es) (tAV c (evs ps) ows ows' q)) (hps : ∀ env ds env', evs ps env = .ok ds env' → ds.length = Es.length) (hx : weakB 0 ows' c.x = true) (hst : (e :: es).all noStar = true) (hdb : (fn == ("__debug__" : Str)) = false) :
    PE X (.Call (.Name fn p) (e :: es) [] pos) (tV c (callM C fn Es ps) ows ows' ro q) := by
  simp only [List.all_cons, Bool.and_eq_true] at hst
  refine wPE (pe_callS F hr hg hm hk hb (fun σ => passAt tk σ) ha hdb (star_cons hst.1) (star_any hst.2)) fun σ H Q ⟨w, env, hw, sr, z⟩ => ⟨w, env, hw, sr, ?_⟩
  unfold callM at z
  cases e1 : evs ps env with
  | no => rw [e1] at z; exact z
  | ex n env1 => rw [e1] at z; exact z
  | ok ds env1 =>
    rw [e1] at z
    intro w1 vs x1 s1 r1 k1
    have hds := hps _ _ _ e1
    refine ⟨⟨w1.Z, fun _ _ => False, w1.H⟩, ds, rfl, by rw [r1.len, hds, hne], by rw [hds, hne], sr_args r1 s1.zt, ?_⟩
    simp only at z
    cases e2 : C.cl fn ds with
    | no => rw [e2] at z; exact z
    | ex n =>
      rw [e2] at z
      intro w2 x2
      obtain ⟨s2, xx, _⟩ := s1.after x2
      obtain ⟨w3, x3, eh, s3⟩ := s2.weak hx
      have := z w3 ((x1.trans xx).trans x3) (by rw [unl_none hl]; exact s3)
      rw [eh] at this
      exact this
    | ok r ls =>
      rw [e2] at z
      intro w2 v A x2 _ _ ro2 t2
      obtain ⟨s2, xx, hq⟩ := s1.after x2
      simp only at z
      rw [wb_none hl] at z
      refine z ⟨w2.Z, w1.F, w2.H⟩ v A (x1.trans xx) s2 ro2 ⟨t2.z, fun a i ha hf => ?_, fun a ha => ?_⟩ fun h => fun a b e => hq a b (k1 h a b e)
      · rcases t2.nw a ha with ⟨_, z⟩ | hn
        · exact z
        · exact s1.fne a hf hn
      · rcases t2.nw a ha with ⟨_, z⟩ | hn
        · exact z.elim
        · by_cases q : w.H a = none
          · exact .inr q
          · exact absurd hn (x1.dm a q)
end
end Mp
/-! Mp8: places in nested data. -/
namespace Mp
open PySem PySem.Spec PyProof.Rows L2

/-- from v along qs in the heap -/
def At (H : Hp) : V → List D → V → Prop
  | v, [], v1 => v1 = v
  | v, q :: r, v1 => ∃ a x, v = .ref a ∧ ((∃ xs i, q = .int i ∧ H a = some (.lst xs) ∧ atI xs i = some x) ∨ (∃ (t : Bool) (ks : List D) (xs : List V) (j : Nat), DcAt H a t ks xs ∧ ks[j]? = some q ∧ xs[j]? = some x)) ∧ At H x r v1
theorem At.mono {H H' : Hp} (k : ∀ a q, H a = some q → H' a = some q) : ∀ {qs : List D} {v v1 : V}, At H v qs v1 → At H' v qs v1
  | [], _, _, h => h
  | q :: r, v, v1, h => by
    obtain ⟨a, x, e, h1, h2⟩ := h
    refine ⟨a, x, e, ?_, At.mono k h2⟩
    rcases h1 with ⟨xs, i, e1, e2, e3⟩ | ⟨t, ks, xs, j, e1, e2, e3⟩
    · exact .inl ⟨xs, i, e1, k _ _ e2, e3⟩
    · exact .inr ⟨t, ks, xs, j, e1.mono fun o => k a o, e2, e3⟩
theorem kvs_inj {ks : List D} {xs ys : List V} {a b : List (Key × V)} (h1 : KeyK ks a) (h2 : xs = a.map (·.2)) (e : a = b) (h4 : ys = b.map (·.2)) : xs = ys := by subst e; rw [h2, h4]
theorem DcAt.det {H : Hp} {a : Addr} {t t' : Bool} {ks ks' : List D} {xs xs' : List V} (h : DcAt H a t ks xs) (h' : DcAt H a t' ks' xs') : t = t' ∧ ks = ks' ∧ xs = xs' := by
  obtain ⟨_, ⟨rfl, kvs, e1, e2, e3⟩ | ⟨rfl, kvs, e1, e2, e3⟩⟩ := h <;> obtain ⟨_, ⟨rfl, kvs', f1, f2, f3⟩ | ⟨rfl, kvs', f1, f2, f3⟩⟩ := h'
  · rw [e1] at f1; cases f1; exact ⟨rfl, by rw [e2, f2], by rw [e3, f3]⟩
  · rw [e1] at f1; cases f1
  · rw [e1] at f1; cases f1
  · rw [e1] at f1; cases f1; exact ⟨rfl, by rw [e2, f2], by rw [e3, f3]⟩
theorem nodup_at {α : Type} {ks : List α} (nd : ks.Nodup) {i j : Nat} {k : α} (h1 : ks[i]? = some k) (h2 : ks[j]? = some k) : i = j := by
  obtain ⟨a1, b1⟩ := List.getElem?_eq_some_iff.mp h1
  obtain ⟨a2, b2⟩ := List.getElem?_eq_some_iff.mp h2
  have pw := List.pairwise_iff_getElem.mp nd
  rcases Nat.lt_trichotomy i j with q | q | q
  · exact absurd (b1.trans b2.symm) (pw i j a1 a2 q)
  · exact q
  · exact absurd (b2.trans b1.symm) (pw j i a2 a1 q)
theorem At.det {H : Hp} : ∀ {qs : List D} {v v1 v2 : V}, At H v qs v1 → At H v qs v2 → v1 = v2
  | [], _, _, _, h, h' => by
    have h : _ = _ := h
    have h' : _ = _ := h'
    rw [h, h']
  | q :: r, v, v1, v2, h, h' => by
    obtain ⟨a, x, e, h1, h2⟩ := h
    obtain ⟨a', x', e', h1', h2'⟩ := h'
    rw [e] at e'; cases e'
    have : x = x' := by
      rcases h1 with ⟨xs, i, e1, e2, e3⟩ | ⟨t, ks, xs, j, e1, e2, e3⟩ <;> rcases h1' with ⟨xs', i', f1, f2, f3⟩ | ⟨t', ks', xs', j', f1, f2, f3⟩
      · rw [e1] at f1; cases f1; rw [e2] at f2; cases f2; rw [e3] at f3; exact Option.some.inj f3
      · obtain ⟨_, ⟨_, kvs, z, _⟩ | ⟨_, kvs, z, _⟩⟩ := f1 <;> (rw [e2] at z; cases z)
      · obtain ⟨_, ⟨_, kvs, z, _⟩ | ⟨_, kvs, z, _⟩⟩ := e1 <;> (rw [f2] at z; cases z)
      · obtain ⟨_, k1, k2⟩ := e1.det f1
        subst k1 k2
        have : j = j' := nodup_at e1.1 e2 f2
        subst this
        rw [e3] at f3
        exact Option.some.inj f3
    subst this
    exact h2.det h2'
theorem dGet_at : ∀ {ks vs : List D} {k d : D}, dGet ks vs k = some d → ∃ j, ks[j]? = some k ∧ vs[j]? = some d ∧ ∀ y, dPut ks vs k y = (ks, vs.set j y)
  | [], _, _, _, h => by simp [dGet] at h
  | _ :: _, [], _, _, h => by simp [dGet] at h
  | k0 :: ks, v0 :: vs, k, d, h => by
    unfold dGet at h
    by_cases e : k0 = k
    · rw [if_pos e] at h
      exact ⟨0, by simp [e], by simpa using h, fun y => by simp [dPut, e]⟩
    · rw [if_neg e] at h
      obtain ⟨j, h1, h2, h3⟩ := dGet_at h
      exact ⟨j + 1, by simpa using h1, by simpa using h2, fun y => by simp [dPut, e, h3]⟩
theorem atI_at {α : Type} {xs : List α} {i : Int} {x : α} (h : atI xs i = some x) : ∃ j, ixN xs.length i = some j ∧ xs[j]? = some x := by
  unfold atI at h
  obtain ⟨j, h1, h2⟩ := Option.bind_eq_some_iff.mp h
  exact ⟨j, h1, h2⟩
def oAt : Ow → Nat → Ow
  | o, 0 => o
  | .fr, _ + 1 => .fr
  | .ow o, n + 1 => oAt o n
theorem oAt0 {o : Ow} : oAt o 0 = o := by cases o <;> rfl
/-- the owner's for n steps, and there, too -/
def deepO : Ow → Nat → Bool
  | .fr, _ => false
  | .ow _, 0 => true
  | .ow o, n + 1 => deepO o n
section
variable {K : PySem.W.Frag} {H H' : Hp} {Z : AS}
theorem RO.iff {o : Ow} {d : D} {v : V} {A A' : AS} (h : RO K H Z o d v A) (e : ∀ a, A' a ↔ A a) : RO K H Z o d v A' := by
  have : A' = A := funext fun a => propext (e a)
  rw [this]; exact h
/-- one item is another one now -/
theorem Items.setAt {R R' : D → V → AS → Prop} {ds : List D} {xs : List V} {B : AS} {G : Nat → AS} {j : Nat} {d' : D} {x' : V} {A' : AS} (I : Items R ds xs B G) (hj : j < ds.length) (k : ∀ i d x, i ≠ j → ds[i]? = some d → xs[i]? = some x → R d x (G i) → R' d x (G i)) (r : R' d' x' A')
    (dis : ∀ i a, i ≠ j → i < ds.length → A' a → ¬ G i a) : Items R' (ds.set j d') (xs.set j x') (fun a => (B a ∧ ¬ G j a) ∨ A' a) (fun i a => if i = j then A' a else (i < ds.length ∧ G i a)) where
  len := by simp [I.len]
  at_ := fun i d x h1 h2 => by
    by_cases q : i = j
    · subst q
      rw [List.getElem?_set_self hj] at h1
      rw [List.getElem?_set_self (by rw [I.len]; exact hj)] at h2
      cases h1; cases h2
      have e : (fun a => if i = i then A' a else (i < ds.length ∧ G i a)) = A' := by funext a; simp
      rw [e]; exact r
    · rw [List.getElem?_set_ne (Ne.symm q)] at h1 h2
      have e : (fun a => if i = j then A' a else (i < ds.length ∧ G i a)) = G i := by
        funext a
        rw [if_neg q]
        exact propext ⟨fun h => h.2, fun h => ⟨(List.getElem?_eq_some_iff.mp h1).1, h⟩⟩
      rw [e]
      exact k i d x q h1 h2 (I.at_ i d x h1 h2)
  apart := fun i k a h1 h2 => by
    split at h1 <;> split at h2
    · omega
    · rename_i q1 q2; exact absurd h2.2 (dis k a q2 h2.1 h1)
    · rename_i q1 q2; exact absurd h1.2 (dis i a q1 h1.1 h2)
    · exact I.apart i k a h1.2 h2.2
  some_ := fun a => by
    rw [I.some_ a]
    constructor
    · rintro (⟨⟨i, hi, g⟩, n⟩ | h)
      · exact ⟨i, by rw [List.length_set]; exact hi, by rw [if_neg (fun (z : i = j) => n (by subst z; exact g))]; exact ⟨hi, g⟩⟩
      · exact ⟨j, by rw [List.length_set]; exact hj, by rw [if_pos rfl]; exact h⟩
    · rintro ⟨i, hi, g⟩
      split at g
      · exact .inr g
      · rename_i q
        exact .inl ⟨⟨i, g.1, g.2⟩, fun z => q (I.apart i j a g.2 z)⟩
theorem set_same {α : Type} {xs : List α} {j : Nat} {x : α} (h : xs[j]? = some x) : xs.set j x = xs := by
  obtain ⟨h1, h2⟩ := List.getElem?_eq_some_iff.mp h
  rw [← h2, List.set_getElem_self]
/-- at a place: what stands there, and what becomes of the whole if it changes -/
theorem RO.focus : ∀ {qs : List D} {o : Ow} {d d1 : D} {v : V} {A : AS}, RO K H Z o d v A → (∀ a, A a → ¬ Z a) → getP d qs = some d1 → deepO o qs.length = true →
    ∃ v1 A1, At H v qs v1 ∧ RO K H Z (oAt o qs.length) d1 v1 A1 ∧ (∀ a, A1 a → A a) ∧
      ∀ {H' : Hp} {d1' : D} {A1' : AS}, (∀ a q, ¬ A1 a → H a = some q → H' a = some q) → RO K H' Z (oAt o qs.length) d1' v1 A1' → (∀ a, A1' a → A a → A1 a) → ∃ d', setP d qs d1' = some d' ∧ RO K H' Z o d' v (fun a => (A a ∧ ¬ A1 a) ∨ A1' a)
  | [], o, d, d1, v, A, h, _, hg, hd => by
    cases (show some d = some d1 from by cases d <;> exact hg)
    refine ⟨v, A, rfl, by rw [List.length_nil, oAt0]; exact h, fun _ z => z, fun {H' d1' A1'} _ r _ => ?_⟩
    rw [List.length_nil, oAt0] at r
    exact ⟨d1', by cases d <;> rfl, r.iff fun a => ⟨fun (z : (A a ∧ ¬ A a) ∨ A1' a) => z.elim (fun z => absurd z.1 z.2) id, .inr⟩⟩
  | q :: r, .fr, d, d1, v, A, h, _, hg, hd => by cases hd
  | q :: r, .ow o, d, d1, v, A, h, hz, hg, hd => by
    have own : ∀ {ds : List D} {xs : List V} {B : AS} {G : Nat → AS} {j : Nat} {d2 : D} {a : Addr} {x : V}, Items (RO K H Z o) ds xs B G → ¬ B a → (∀ b, A b ↔ (b = a ∨ B b)) → ds[j]? = some d2 → xs[j]? = some x → getP d2 r = some d1 →
        ∃ v1 A1, At H x r v1 ∧ RO K H Z (oAt o r.length) d1 v1 A1 ∧ (∀ b, A1 b → A b) ∧ ¬ A1 a ∧
          ∀ {H' : Hp} {d1' : D} {A1' : AS}, (∀ a q, ¬ A1 a → H a = some q → H' a = some q) → RO K H' Z (oAt o r.length) d1' v1 A1' → (∀ a, A1' a → A a → A1 a) → ∃ d2', setP d2 r d1' = some d2' ∧
            ∃ B' G', Items (RO K H' Z o) (ds.set j d2') xs B' G' ∧ ¬ B' a ∧ ∀ b, ((A b ∧ ¬ A1 b) ∨ A1' b) ↔ (b = a ∨ B' b) := by
      intro ds xs B G j d2 a x I nb hA e1 e2 hg
      have hj := (List.getElem?_eq_some_iff.mp e1).1
      have gB : ∀ b, G j b → B b := fun b g => (I.some_ b).mpr ⟨j, hj, g⟩
      obtain ⟨v1, A1, a1, a2, a3, a4⟩ := RO.focus (I.at_ j d2 x e1 e2) (fun b g => hz b ((hA b).mpr (.inr (gB b g)))) hg hd
      have na : ¬ A1 a := fun z => nb (gB a (a3 a z))
      refine ⟨v1, A1, a1, a2, fun b z => (hA b).mpr (.inr (gB b (a3 b z))), na, fun {H' d1' A1'} kk rr dis => ?_⟩
      obtain ⟨d2', s1, s2⟩ := a4 kk rr fun b z g => dis b z ((hA b).mpr (.inr (gB b g)))
      refine ⟨d2', s1, (fun b => (B b ∧ ¬ G j b) ∨ ((G j b ∧ ¬ A1 b) ∨ A1' b)), _, (by
        have := I.setAt (R' := RO K H' Z o) (d' := d2') (x' := x) hj (fun i d x hi e1 e2 rx => rx.keep (fun _ z => z) fun b q e z => kk b q (fun z1 => by
          rcases z with z | z | z
          · exact hz b ((hA b).mpr (.inr (gB b (a3 b z1)))) z
          · exact hi (I.apart i j b z (a3 b z1))
          · obtain ⟨q', e', m⟩ := a2.there b z1
            rw [e] at e'; cases e'; rw [z] at m; cases m) e) s2 (fun i b hi hl z g => by
          rcases z with z | z
          · exact hi (I.apart i j b g z.1)
          · exact hi (I.apart i j b g (a3 b (dis b z ((hA b).mpr (.inr ((I.some_ b).mpr ⟨i, hl, g⟩)))))))
        rw [set_same e2] at this
        exact this), ?_, fun b => ?_⟩
      · rintro (z | z | z)
        · exact nb z.1
        · exact nb (gB a z.1)
        · exact na (dis a z ((hA a).mpr (.inl rfl)))
      · rw [hA b]
        constructor
        · rintro (⟨rfl | hb, n⟩ | z)
          · exact .inl rfl
          · by_cases g : G j b
            · exact .inr (.inr (.inl ⟨g, n⟩))
            · exact .inr (.inl ⟨hb, g⟩)
          · exact .inr (.inr (.inr z))
        · rintro (rfl | z | z | z)
          · exact .inl ⟨.inl rfl, na⟩
          · exact .inl ⟨.inr z.1, fun z1 => z.2 (a3 b z1)⟩
          · exact .inl ⟨.inr (gB b z.1), z.2⟩
          · exact .inr z
    cases d with
    | lst ds =>
      cases q with
      | int i =>
        obtain ⟨d2, g1, g2⟩ := Option.bind_eq_some_iff.mp (show (L2.atI ds i).bind (fun d => getP d r) = some d1 from hg)
        obtain ⟨a, xs, B, G, rfl, h1, I, nb, hA⟩ := h
        obtain ⟨j, j1, j2⟩ := atI_at g1
        have hj := (List.getElem?_eq_some_iff.mp j2).1
        obtain ⟨x, hx⟩ : ∃ x, xs[j]? = some x := ⟨_, List.getElem?_eq_getElem (by rw [I.len]; exact hj)⟩
        obtain ⟨v1, A1, a1, a2, a3, na, a4⟩ := own I nb hA j2 hx g2
        refine ⟨v1, A1, ⟨a, x, rfl, .inl ⟨xs, i, rfl, h1, by unfold atI; rw [I.len, j1]; exact hx⟩, a1⟩, a2, a3, fun {H' d1' A1'} kk rr dis => ?_⟩
        obtain ⟨d2', s1, B', G', I', nb', hA'⟩ := a4 kk rr dis
        refine ⟨.lst (ds.set j d2'), by simp only [setP, j1, g1, s1]; rfl, ⟨a, xs, B', G', rfl, kk a _ na h1, I', nb', hA'⟩⟩
      | _ => cases hg
    | dct t ks vs =>
      have hg' : (if keyD t q then (dGet ks vs q).bind fun d => getP d r else none) = some d1 := by simpa only [getP] using hg
      by_cases hk : keyD t q = true
      · rw [if_pos hk] at hg'
        obtain ⟨d2, g1, g2⟩ := Option.bind_eq_some_iff.mp hg'
        obtain ⟨a, xs, B, G, rfl, h1, I, nb, hA⟩ := h
        obtain ⟨j, j1, j2, j3⟩ := dGet_at g1
        have hj := (List.getElem?_eq_some_iff.mp j2).1
        obtain ⟨x, hx⟩ : ∃ x, xs[j]? = some x := ⟨_, List.getElem?_eq_getElem (by rw [I.len]; exact hj)⟩
        obtain ⟨v1, A1, a1, a2, a3, na, a4⟩ := own I nb hA j2 hx g2
        refine ⟨v1, A1, ⟨a, x, rfl, .inr ⟨t, ks, xs, j, h1, j1, hx⟩, a1⟩, a2, a3, fun {H' d1' A1'} kk rr dis => ?_⟩
        obtain ⟨d2', s1, B', G', I', nb', hA'⟩ := a4 kk rr dis
        refine ⟨.dct t ks (vs.set j d2'), by simp only [setP, hk, if_true, g1, s1, j3, Option.bind_some, Option.map_some], ⟨a, xs, B', G', rfl, h1.mono fun o e => kk a o na e, I', nb', hA'⟩⟩
      · rw [if_neg hk] at hg'; cases hg'
    | _ => simp [getP] at hg
end

section
variable {K : PySem.W.Frag} {pn : Pin} {ows : Ows} {env : Env} {σ : L2.St} {w w' w0 : Wd} {A : AS} {H' : Hp}
/-- the thing of a slot is another one now, in another heap -/
def Wd.slot (w : Wd) (i : Nat) (A : AS) (H' : Hp) : Wd := ⟨w.Z, fun j a => if j = i then A a else w.F j a, H'⟩
theorem SR.slot {i : Nat} {d : D} {v : V} {A' : AS} (s : SR K pn ows env σ w) (hσ : σ[i]? = some (some v)) (hk : ∀ a q, ¬ w.F i a → w.H a = some q → H' a = some q) (r : RO K H' w.Z (owAt ows i) d v A')
    (hz : ∀ a, A' a → ¬ w.Z a) (hf : ∀ a j, j ≠ i → A' a → ¬ w.F j a) (hp : ∀ p, pn i = some p → p.2 = none) : SR K pn ows (setS env i d) σ (w.slot i A' H') where
  len := by rw [s.len]; unfold setS; simp
  at_ := fun j d' h => by
    rcases getS_set h with ⟨rfl, rfl⟩ | ⟨q, h'⟩
    · refine ⟨v, hσ, ?_⟩
      have e : (w.slot j A' H').F j = A' := by funext a; simp [Wd.slot]
      rw [e]; exact r
    · obtain ⟨v', h1, h2⟩ := s.at_ j d' h'
      refine ⟨v', h1, ?_⟩
      have e : (w.slot i A' H').F j = w.F j := by funext a; simp [Wd.slot, q]
      rw [e]
      refine h2.keep (fun _ z => z) fun a qq e z => hk a qq ?_ e
      intro hi
      rcases z with z | z | z
      · exact s.zf i a hi z
      · exact q (s.apart j i a z hi)
      · obtain ⟨o', e1, m⟩ := s.fm i a hi
        rw [e] at e1; cases e1; rw [z] at m; cases m
  apart := fun j k a h1 h2 => by
    simp only [Wd.slot] at h1 h2
    split at h1 <;> split at h2
    · omega
    · rename_i e1 e2; exact absurd h2 (hf a k e2 h1)
    · rename_i e1 e2; exact absurd h1 (hf a j e1 h2)
    · exact s.apart j k a h1 h2
  zf := fun j a h z => by
    simp only [Wd.slot] at h
    split at h
    · exact hz a h z
    · exact s.zf j a h z
  fm := fun j a h => by
    simp only [Wd.slot] at h
    split at h
    · exact r.there a h
    · rename_i n
      obtain ⟨q, e, m⟩ := s.fm j a h
      exact ⟨q, hk a q (fun z => n (s.apart j i a h z)) e, m⟩
  zt := fun a z => by
    cases e : w.H a with
    | none => exact absurd e (s.zt a z)
    | some q =>
      show H' a ≠ none
      rw [hk a q (fun h => s.zf i a h z) e]; simp
  pin := fun j p h => by
    refine ⟨(s.pin j p h).1, fun d hd d' hg => ?_⟩
    rcases getS_set hg with ⟨rfl, _⟩ | ⟨_, e⟩
    · rw [hp p h] at hd; cases hd
    · exact (s.pin j p h).2 d hd d' e
theorem Ext.slot {i : Nat} {A' : AS} (e : Ext w0 w) (hk : ∀ a q, ¬ w.F i a → w.H a = some q → H' a = some q) (dm : ∀ a, w.H a ≠ none → H' a ≠ none) (hB : ∀ a, A' a → (∃ j, w0.F j a) ∨ w0.H a = none) : Ext w0 (w.slot i A' H') where
  z := e.z
  fr := fun a o e1 n => hk a o (fun z => by
    rcases e.nw i a z with ⟨j, q⟩ | q
    · exact n j q
    · rw [e1] at q; cases q) (e.fr a o e1 n)
  dm := fun a h => dm a (e.dm a h)
  nw := fun j a h => by
    simp only [Wd.slot] at h
    split at h
    · exact hB a h
    · exact e.nw j a h
  zn := e.zn
  zh := fun h a z => dm a (e.zh h a z)
end
end Mp
/-! Mp9: what changes a list; stores at a place. -/
namespace Mp
open PySem PySem.Spec PyProof.Rows L2

theorem setP_nil {d y : D} : setP d [] y = some y := by cases d <;> rfl
theorem getP_nil {d : D} : getP d [] = some d := by cases d <;> rfl
theorem getP_snoc : ∀ {qs : List D} {d d1 : D} {q : D}, getP d (qs ++ [q]) = some d1 → ∃ d0, getP d qs = some d0 ∧ getP d0 [q] = some d1
  | [], d, d1, q, h => ⟨d, getP_nil, h⟩
  | q0 :: r, d, d1, q, h => by
    cases d with
    | lst xs =>
      cases q0 with
      | int i =>
        obtain ⟨d2, g1, g2⟩ := Option.bind_eq_some_iff.mp (show (L2.atI xs i).bind (fun d => getP d (r ++ [q])) = some d1 from h)
        obtain ⟨d0, h1, h2⟩ := getP_snoc g2
        exact ⟨d0, show (L2.atI xs i).bind (fun d => getP d r) = some d0 by rw [g1]; exact h1, h2⟩
      | _ => simp [getP] at h
    | dct t ks vs =>
      rw [List.cons_append, getP] at h
      rw [getP]
      split at h
      · rename_i hk
        rw [if_pos hk]
        obtain ⟨d2, g1, g2⟩ := Option.bind_eq_some_iff.mp h
        obtain ⟨d0, h1, h2⟩ := getP_snoc g2
        exact ⟨d0, by rw [g1]; exact h1, h2⟩
      · cases h
    | _ => simp [getP] at h
theorem At.snoc {H : Hp} : ∀ {qs : List D} {v v1 v2 : V} {q : D}, At H v qs v1 → At H v1 [q] v2 → At H v (qs ++ [q]) v2
  | [], v, v1, v2, q, h, h' => by
    cases (show v1 = v from h)
    exact h'
  | q0 :: r, v, v1, v2, q, h, h' => by
    obtain ⟨a, x, e, h1, h2⟩ := h
    exact ⟨a, x, e, h1, At.snoc h2 h'⟩
theorem evs_snoc {a : List (M D × M Bool)} {p : M D × M Bool} : evs (a ++ [p]) = M.bind (evs a) fun ds => M.bind p.1 fun d => M.ret (ds ++ [d]) := by
  induction a with
  | nil =>
    funext e
    rfl
  | cons b a ih =>
    funext e
    simp only [List.cons_append, evs, M.bind, M.ret, ih]
    cases b.1 e with
    | no => rfl
    | ex => rfl
    | ok x e1 =>
      simp only
      cases evs a e1 with
      | no => rfl
      | ex => rfl
      | ok xs e2 =>
        simp only
        cases p.1 e2 <;> rfl

/-- it changes no slot -/
def Pure {α : Type} (f : M α) : Prop := ∀ e r e', f e = .ok r e' → e' = e
section
variable {X : Cx} {c : Cc} {f g : M D} {ows ows1 ows2 ows' : Ows} {o o1 o2 : Ow} {q q1 q2 : Bool} {e pe : Expr}
/-- the thing at a place, reached -/
def tPl (c : Cc) (i : Nat) (f : M (List D)) (ows : Ows) : TE := fun σ H Q => ∃ w env, w.H = H ∧ SR c.K c.pn ows env σ w ∧ match f env with
  | .ok qs env' => env' = env ∧ ∃ d d1, getS env i = some d ∧ getP d qs = some d1 ∧ ∀ w' v v1, Ext w w' → Quiet w w' → SR c.K c.pn ows env σ w' → σ[i]? = some (some v) → At w'.H v qs v1 → Q v1 w'.H
  | .ex n env' => exK c σ w n env'
  | .no => False
theorem pl_nil {i : Nat} {x : Str} {pos : Pos} (hN : X.N[i]? = some x) (hv : Vis X.env.scope x) (hd : (x == ("__debug__" : Str)) = false) (hcd : (x == ("__classdict__" : Str)) = false) : PE X (.Name x pos) (tPl c i (M.ret []) ows) :=
  wPE (pe_var hN hv hd hcd) fun σ H Q ⟨w, env, hw, sr, _, d, d1, e1, e2, z⟩ => by
    subst hw
    obtain ⟨v, h1, h2⟩ := sr.at_ i d e1
    exact ⟨v, h1, z w v v Ext.refl (fun _ _ e => e) sr h1 rfl⟩
theorem SR.place {K : PySem.W.Frag} {pn : Pin} {env : Env} {σ : L2.St} {w : Wd} {i : Nat} {d d1 : D} {qs : List D} (s : SR K pn ows env σ w) (e : getS env i = some d) (hg : getP d qs = some d1) (hd : deepO (owAt ows i) qs.length = true) :
    ∃ v v1 A1, σ[i]? = some (some v) ∧ At w.H v qs v1 ∧ RO K w.H w.Z (oAt (owAt ows i) qs.length) d1 v1 A1 ∧ (∀ a, A1 a → w.F i a) ∧
      ∀ {H' : Hp} {d1' : D} {A1' : AS}, (∀ a q, ¬ A1 a → w.H a = some q → H' a = some q) → RO K H' w.Z (oAt (owAt ows i) qs.length) d1' v1 A1' → (∀ a, A1' a → w.F i a → A1 a) → ∃ d', setP d qs d1' = some d' ∧ RO K H' w.Z (owAt ows i) d' v (fun a => (w.F i a ∧ ¬ A1 a) ∨ A1' a) := by
  obtain ⟨v, h1, h2⟩ := s.at_ i d e
  obtain ⟨v1, A1, a1, a2, a3, a4⟩ := h2.focus (fun a h => s.zf i a h) hg hd
  exact ⟨v, v1, A1, h1, a1, a2, a3, a4⟩
theorem oAt_snoc : ∀ {o : Ow} {n : Nat}, deepO o n = true → ∃ o', oAt o n = .ow o' ∧ oAt o (n + 1) = o'
  | .fr, _, h => by cases h
  | .ow o, 0, _ => ⟨o, rfl, by show oAt o 0 = o; exact oAt0⟩
  | .ow o, n + 1, h => oAt_snoc (o := o) (n := n) h
/-- a list's item -/
theorem at_item {K : PySem.W.Frag} {H : Hp} {Z : AS} {d0 d1 : D} {v0 : V} {A : AS} {i : Int} (r : RO K H Z (.ow o) d0 v0 A) (h : getP d0 [.int i] = some d1) (hl : ∀ t ks vs, d0 ≠ .dct t ks vs) : ∃ a xs x, v0 = .ref a ∧ H a = some (.lst xs) ∧ atI xs i = some x ∧ At H v0 [.int i] x := by
  cases d0 with
  | lst ds =>
    obtain ⟨a, xs, B, G, rfl, h1, I, _⟩ := r
    obtain ⟨d2, g1, _⟩ := Option.bind_eq_some_iff.mp (show (L2.atI ds i).bind (fun d => getP d []) = some d1 from h)
    obtain ⟨j, j1, j2⟩ := atI_at g1
    obtain ⟨x, hx⟩ : ∃ x, xs[j]? = some x := ⟨_, List.getElem?_eq_getElem (by rw [I.len]; exact (List.getElem?_eq_some_iff.mp j2).1)⟩
    have e : atI xs i = some x := by unfold atI; rw [I.len, j1]; exact hx
    exact ⟨a, xs, x, rfl, h1, e, ⟨a, x, rfl, .inl ⟨xs, i, rfl, h1, e⟩, rfl⟩⟩
  | dct => exact absurd rfl (hl _ _ _)
  | _ => simp [getP] at h

/-! ### the step of a change -/
theorem mut_step {K : PySem.W.Frag} {pn : Pin} {env : Env} {σ : L2.St} {w w0 : Wd} {i : Nat} {d d1 : D} {v v1 : V} {qs : List D} (s : SR K pn ows env σ w) (e : getS env i = some d) (hg : getP d qs = some d1) (hd : deepO (owAt ows i) qs.length = true) (hp : ∀ p, pn i = some p → p.2 = none)
    (x0 : Ext w0 w) (hσ : σ[i]? = some (some v)) (ha : At w.H v qs v1) :
    ∃ A1, RO K w.H w.Z (oAt (owAt ows i) qs.length) d1 v1 A1 ∧ (∀ a, A1 a → w.F i a) ∧
      ∀ {H' : Hp} {d1' : D} {A1' : AS}, (∀ a q, ¬ A1 a → w.H a = some q → H' a = some q) → (∀ a, w.H a ≠ none → H' a ≠ none) → RO K H' w.Z (oAt (owAt ows i) qs.length) d1' v1 A1' → (∀ a, A1' a → ¬ w.Z a) → (∀ a j, A1' a → w.F j a → A1 a) → (∀ a, A1' a → (∃ j, w0.F j a) ∨ w0.H a = none) →
        ∃ d', setP d qs d1' = some d' ∧ SR K pn ows (setS env i d') σ (w.slot i (fun a => (w.F i a ∧ ¬ A1 a) ∨ A1' a) H') ∧ Ext w0 (w.slot i (fun a => (w.F i a ∧ ¬ A1 a) ∨ A1' a) H') := by
  obtain ⟨v', v1', A1, h1, a1, a2, a3, a4⟩ := s.place e hg hd
  rw [hσ] at h1
  cases h1
  cases ha.det a1
  refine ⟨A1, a2, a3, fun {H' d1' A1'} kk dm rr hz hf hn => ?_⟩
  obtain ⟨d', s1, s2⟩ := a4 kk rr fun a h g => hf a i h g
  have hk : ∀ a q, ¬ w.F i a → w.H a = some q → H' a = some q := fun a q n e => kk a q (fun z => n (a3 a z)) e
  refine ⟨d', s1, s.slot hσ hk s2 (fun a z => ?_) (fun a j hj z g => ?_) hp, x0.slot hk dm fun a z => ?_⟩
  · rcases z with z | z
    · exact s.zf i a z.1
    · exact hz a z
  · rcases z with z | z
    · exact hj (s.apart j i a g z.1)
    · exact hj (s.apart j i a g (a3 a (hf a j z g)))
  · rcases z with z | z
    · exact x0.nw i a z.1
    · exact hn a z
theorem setPM_of {e : Env} {i : Nat} {qs : List D} {d y d' : D} (h1 : getS e i = some d) (h2 : setP d qs y = some d') : setPM i qs y e = .ok () (setS e i d') := by
  unfold setPM; rw [h1]; simp [h2]
theorem getPM_of {e : Env} {i : Nat} {qs : List D} {d d1 : D} (h1 : getS e i = some d) (h2 : getP d qs = some d1) : getPM i qs e = .ok d1 e := by
  unfold getPM; rw [h1]; simp [h2]
theorem getPM_inv {e : Env} {i : Nat} {qs : List D} : (∃ d d1, getS e i = some d ∧ getP d qs = some d1 ∧ getPM i qs e = .ok d1 e) ∨ getPM i qs e = .no := by
  unfold getPM
  cases h1 : getS e i with
  | none => exact .inr rfl
  | some d =>
    cases h2 : getP d qs with
    | none => exact .inr (by simp [h2])
    | some d1 => exact .inl ⟨d, d1, rfl, h2, by simp [h2]⟩
/-- the place of a method's receiver, typed -/
theorem ty_list {K : PySem.W.Frag} {H : Hp} {l : Addr} {xs : List V} (h : H l = some (.lst xs)) : tyV K "list" (.ref l) H := .inl ⟨rfl, _, SqL.of h⟩
theorem few1 {e : Expr} {env : PySem.Env} {cpos : Pos} (hs : noStar e = true) : ((backTo cpos (starEach [e] env)).all (fun x => !x.1) && (backToKw cpos (keywordEach [] env)).all (fun x => x.1.isSome)
      && decide (([e] : List Expr).length + ([] : List Keyword).length + (if ([] : List Keyword).isEmpty then 0 else 1) < 30)) = true := by
  rw [star_cons hs]; rfl
/-- no getattr of super() -/
def plainB : Expr → Bool
  | .Name _ _ => true
  | .Subscript _ _ _ => true
  | .List _ _ => true
  | .Constant _ _ _ => true
  | _ => false
theorem base_of {b : Expr} {name : Str} {env : PySem.Env} (h : plainB b = true) : attributeBase b name env (eval b env) = eval b env := by
  cases b <;> first | rfl | cases h
/-- one more item -/
theorem Items.snoc {R : D → V → AS → Prop} {ds : List D} {xs : List V} {B : AS} {G : Nat → AS} {d : D} {x : V} {A : AS} (I : Items R ds xs B G) (r : R d x A) (dis : ∀ a, A a → ¬ B a) :
    Items R (ds ++ [d]) (xs ++ [x]) (fun a => B a ∨ A a) (fun k a => if k = ds.length then A a else (k < ds.length ∧ G k a)) where
  len := by simp [I.len]
  at_ := fun k e y h1 h2 => by
    by_cases q : k < ds.length
    · rw [List.getElem?_append_left q] at h1
      rw [List.getElem?_append_left (by rw [I.len]; exact q)] at h2
      have e0 : (fun a => if k = ds.length then A a else (k < ds.length ∧ G k a)) = G k := by
        funext a
        rw [if_neg (by omega)]
        exact propext ⟨fun h => h.2, fun h => ⟨q, h⟩⟩
      rw [e0]
      exact I.at_ k e y h1 h2
    · rw [List.getElem?_append_right (by omega)] at h1
      rw [List.getElem?_append_right (by rw [I.len]; omega), I.len] at h2
      have hk : k = ds.length := by
        rcases Nat.lt_or_ge ds.length k with z | z
        · rw [List.getElem?_eq_none (by simp; omega)] at h1; cases h1
        · omega
      subst hk
      simp at h1 h2
      subst h1 h2
      have e0 : (fun a => if ds.length = ds.length then A a else (ds.length < ds.length ∧ G ds.length a)) = A := by funext a; simp
      rw [e0]
      exact r
  apart := fun j k b h1 h2 => by
    split at h1 <;> split at h2
    · omega
    · exact absurd ((I.some_ b).mpr ⟨k, h2⟩) (dis b h1)
    · exact absurd ((I.some_ b).mpr ⟨j, h1⟩) (dis b h2)
    · exact I.apart j k b h1.2 h2.2
  some_ := fun b => by
    rw [I.some_ b]
    constructor
    · rintro (⟨k, hk, g⟩ | h)
      · exact ⟨k, by rw [List.length_append]; omega, by rw [if_neg (by omega)]; exact ⟨hk, g⟩⟩
      · exact ⟨ds.length, by rw [List.length_append]; simp, by rw [if_pos rfl]; exact h⟩
    · rintro ⟨k, hk, g⟩
      split at g
      · exact .inr g
      · exact .inl ⟨k, g⟩
theorem Items.keep {K : PySem.W.Frag} {H H' : Hp} {Z Z' : AS} {o : Ow} {ds : List D} {xs : List V} {B : AS} {G : Nat → AS} (I : Items (RO K H Z o) ds xs B G) (kz : ∀ a, Z a → Z' a) (k : ∀ a q, H a = some q → (Z a ∨ B a ∨ mutO q = false) → H' a = some q) : Items (RO K H' Z' o) ds xs B G :=
  ⟨I.len, fun j d x e1 e2 => (I.at_ j d x e1 e2).keep kz fun a q e z => k a q e (by
    rcases z with z | z | z
    · exact .inl z
    · exact .inr (.inl ((I.some_ a).mpr ⟨j, (List.getElem?_eq_some_iff.mp e1).1, z⟩))
    · exact .inr (.inr z)), I.apart, I.some_⟩
/-- the list at a is written anew -/
theorem kp_upd {w : Wd} {a : Addr} {o' : HO} {A1 : AS} (ha : A1 a) : (∀ b q, ¬ A1 b → w.H b = some q → L2.upd w.H a o' b = some q) ∧ ∀ b, w.H b ≠ none → L2.upd w.H a o' b ≠ none :=
  ⟨fun b q n e => by rw [upd_ne (fun z => n (by subst z; exact ha))]; exact e, fun b n => by
    by_cases z : b = a
    · subst z; rw [upd_same]; simp
    · rw [upd_ne z]; exact n⟩
/-- before the arguments: the receiver is there -/
theorem mu_head {m : MU} {i : Nat} {ps es : List (M D × M Bool)} {env : Env} {P : R D → Prop} (z : P (muM m i ps es env)) (hno : ¬ P .no) : (∃ n e, evs ps env = .ex n e ∧ P (.ex n e)) ∨
    ∃ qs env0 d d1, evs ps env = .ok qs env0 ∧ getS env0 i = some d ∧ getP d qs = some d1 ∧ muOk m d1 = true ∧ P ((M.bind (evs es) fun ds => M.bind (getPM i qs) fun d => match muF m d ds with
      | some (d', y) => M.bind (setPM i qs d') fun _ => M.ret y
      | none => fun _ => .no) env0) := by
  unfold muM M.bind at z
  cases e0 : evs ps env with
  | no => rw [e0] at z; exact absurd z hno
  | ex n env0 => rw [e0] at z; exact .inl ⟨n, env0, rfl, z⟩
  | ok qs env0 =>
    rw [e0] at z
    simp only at z
    obtain ⟨d, d1, g1, g2, g3⟩ | g3 := getPM_inv (e := env0) (i := i) (qs := qs)
    · rw [g3] at z
      simp only at z
      by_cases hm : muOk m d1 = false
      · rw [if_pos hm] at z; exact absurd z hno
      · rw [if_neg hm] at z
        exact .inr ⟨qs, env0, d, d1, rfl, g1, g2, by simpa using hm, z⟩
    · rw [g3] at z; exact absurd z hno
/-- behind the arguments: the change -/
theorem mu_tail {m : MU} {i : Nat} {qs ds : List D} {env : Env} {P : R D → Prop} (z : P ((M.bind (getPM i qs) fun d => match muF m d ds with
      | some (d', y) => M.bind (setPM i qs d') fun _ => M.ret y
      | none => fun _ => .no) env)) (hno : ¬ P .no) : ∃ d d1 d1' y, getS env i = some d ∧ getP d qs = some d1 ∧ muF m d1 ds = some (d1', y) ∧ ∀ d', setP d qs d1' = some d' → P (.ok y (setS env i d')) := by
  unfold M.bind at z
  obtain ⟨d, d1, g1, g2, g3⟩ | g3 := getPM_inv (e := env) (i := i) (qs := qs)
  · rw [g3] at z
    simp only at z
    cases e : muF m d1 ds with
    | none => rw [e] at z; exact absurd z hno
    | some p =>
      rw [e] at z
      refine ⟨d, d1, p.1, p.2, g1, g2, e, fun d' h => ?_⟩
      simp only at z
      rw [setPM_of g1 h] at z
      exact z
  · rw [g3] at z; exact absurd z hno
theorem At.same {H H' : Hp} {v v1 : V} {qs : List D} {n : Nat} (h : At H v qs v1) (hn : qs.length = n) (k : n = 0 ∨ ∀ a q, H a = some q → H' a = some q) : At H' v qs v1 := by
  rcases k with k | k
  · subst k
    cases qs with
    | nil => exact h
    | cons => simp at hn
  · exact h.mono k
/-- x[..].append(e) -/
theorem pv_append {i : Nat} {b : Expr} {ps : List (M D × M Bool)} {fe : M D × M Bool} {apos cpos : Pos} {n : Nat} (hb : PE X b (tPl c i (evs ps) ows)) (hpb : plainB b = true) (hline : (apos.endLine == cpos.line) = true) (hpl : ∀ e r e', evs ps e = .ok r e' → r.length = n) (hpu : Pure (evs ps))
    (hs : noStar e = true) (he : PE X e (tV c fe.1 ows ows' (oAt (owAt ows i) (n + 1)) q)) (hd : deepO (owAt ows i) n = true) (ho' : owAt ows' i = owAt ows i) (hq : n = 0 ∨ q = true) (hp : ∀ p, c.pn i = some p → p.2 = none) :
    PE X (.Call (.Attribute b "append" apos) [e] [] cpos) (tV c (muM .append i ps [fe]) ows ows' .fr false) := by
  refine wPE (pe_bm PySem.F.plainAttrs_list PySem.F.slot_list_append PySem.F.type_list_append mt_append hb (pa_cons he pa_nil (star_cons hs)) (base_of hpb) (few1 hs) hline (star_cons hs) rfl) fun σ H Q ⟨w, env, hw, sr, z⟩ => ?_
  subst hw
  refine ⟨w, env, rfl, sr, ?_⟩
  rcases mu_head (P := fun r => match r with
    | .ok d env' => ∀ w' v A, Ext w w' → SR c.K c.pn ows' env' σ w' → RO c.K w'.H w'.Z .fr d v A → Tmp w w' A → (false = true → Quiet w w') → Q v w'.H
    | .ex n env' => exK c σ w n env'
    | .no => False) z (fun h => h) with ⟨m, e1, h1, h2⟩ | ⟨qs, env0, d, d1, h1, g1, g2, hm, z5⟩
  · rw [h1]; exact h2
  clear z
  rw [h1]
  have he0 := hpu _ _ _ h1
  subst he0
  refine ⟨rfl, d, d1, g1, g2, fun w1 v v1 x1 k1 s1 hσ at1 => ?_⟩
  have hqn := hpl _ _ _ h1
  subst hqn
  obtain ⟨o', eo, eo'⟩ := oAt_snoc hd
  obtain ⟨v', v1', A1, p1, p2, p3, _⟩ := s1.place g1 g2 hd
  rw [hσ] at p1
  cases p1
  cases at1.det p2
  rw [eo] at p3
  have hl : ∃ ds, d1 = .lst ds := by cases d1 <;> simp [muOk] at hm; exact ⟨_, rfl⟩
  obtain ⟨ds, rfl⟩ := hl
  obtain ⟨l, xs, rfl, hl1, _⟩ := p3.lst
  refine ⟨ty_list hl1, ?_⟩
  refine ⟨w1, env0, rfl, s1, ?_⟩
  have z := z5
  simp only [evs, M.bind, M.ret] at z
  cases e2 : fe.1 env0 with
  | no => rw [e2] at z; exact z
  | ex m env2 => rw [e2] at z; exact exK.mono x1 z
  | ok y env2 =>
    rw [e2] at z
    intro w2 vy Ay x2 s2 r2 t2 k2
    obtain ⟨d', d1', d1'', yy, q1, q2, q3, q4⟩ := mu_tail (P := fun r => match r with
      | .ok d env' => ∀ w' v A, Ext w w' → SR c.K c.pn ows' env' σ w' → RO c.K w'.H w'.Z .fr d v A → Tmp w w' A → (false = true → Quiet w w') → Q v w'.H
      | .ex n env' => exK c σ w n env'
      | .no => False) z (fun h => h)
    cases d1' <;> simp only [muF, reduceCtorEq] at q3
    rename_i ds2
    split at q3
    · rename_i hlen
      cases q3
      have hd2 : deepO (owAt ows' i) qs.length = true := by rw [ho']; exact hd
      obtain ⟨A2, r3, a3, a4⟩ := mut_step s2 q1 q2 hd2 hp (x1.trans x2) hσ (at1.same rfl (hq.imp id fun h => k2 h))
      rw [ho', eo] at r3
      obtain ⟨l', zs, B, G, el, hl2, I, nb, hA⟩ := r3
      cases el
      have hlF : A2 l := (hA l).mpr (.inl rfl)
      rw [eo'] at r2
      have kp := kp_upd (w := w2) (o' := .lst (zs ++ [vy])) (A1 := A2) hlF
      have ne : ∀ b q, w2.H b = some q → (w2.Z b ∨ B b ∨ mutO q = false) → L2.upd w2.H l (.lst (zs ++ [vy])) b = some q := fun b q e z => by
        rw [upd_ne]
        · exact e
        · rintro rfl
          rcases z with z | z | z
          · exact s2.zf i b (a3 b hlF) z
          · exact nb z
          · rw [hl2] at e; cases e; cases z
      have I' := (I.keep (Z' := w2.Z) (fun _ z => z) ne).snoc (d := y) (x := vy) (A := Ay) (r2.keep (fun _ z => z) fun b q e z => by
        rw [upd_ne]
        · exact e
        · rintro rfl
          rcases z with z | z | z
          · exact s2.zf i b (a3 b hlF) z
          · exact t2.f b i z (a3 b hlF)
          · rw [hl2] at e; cases e; cases z) (fun b h1 h2 => t2.f b i h1 (a3 b ((hA b).mpr (.inr h2))))
      obtain ⟨d3, f1, f2, f3⟩ := a4 (d1' := .lst (ds2 ++ [y])) (A1' := fun b => A2 b ∨ Ay b) kp.1 kp.2 (by
        rw [ho', eo]
        exact ⟨l, zs ++ [vy], _, _, rfl, upd_same, I', fun z => z.elim nb fun z => t2.f l i z (a3 l hlF), fun b => by show (A2 b ∨ Ay b) ↔ _; rw [hA b]; exact or_assoc⟩) (fun b z => z.elim (fun z => s2.zf i b (a3 b z)) fun z => t2.z b z)
        (fun b j z g => z.elim id fun z => absurd g (t2.f b j z)) fun b z => z.elim (fun z => (x1.trans x2).nw i b (a3 b z)) fun z => (t2.pre x1).nw b z
      refine ⟨l, zs, vy, rfl, rfl, hl2, by rw [I.len, ← sz_eq]; exact hlen, ?_⟩
      exact q4 d3 f1 _ _ _ f3 f2 RO.mknon Tmp.nil fun h => nomatch h
    · cases q3
end
end Mp
/-! Mp10: statements. -/
namespace Mp
open PySem PySem.Spec PyProof.Rows L2

/-- the weaker of both -/
def wk : Option Ows → Option Ows → Bool
  | none, _ => true
  | some a, some b => weakB 0 a b
  | some _, none => false
section
variable {K : PySem.W.Frag} {pn : Pin} {env : Env} {σ : L2.St} {w : Wd}
theorem SRq.weak {a b : Option Ows} (h : wk a b = true) (s : SRq K pn a env σ w) : ∃ w', Ext w w' ∧ w'.H = w.H ∧ SRq K pn b env σ w' := by
  obtain ⟨o, rfl, s⟩ := s
  cases b with
  | none => cases h
  | some b =>
    obtain ⟨w', e, eh, s'⟩ := s.weak h
    exact ⟨w', e, eh, b, rfl, s'⟩
end
section
variable {X : Cx} {c : Cc} {f : M D} {ows ows1 ows2 ows' : Ows} {o o1 o2 : Ow} {q q1 q2 : Bool} {e pe : Expr} {st : Stmt} {sts : List Stmt} {fs gs : M Fl} {onx obk oct onx' obk' oct' : Option Ows} {pos : Pos}
/-- what tS asks of an outcome -/
def tSz (c : Cc) (w : Wd) (σ : L2.St) (D : Ends) (onx obk oct : Option Ows) : R Fl → Prop
  | .ok .nx env' => ∀ w' σ', Ext w w' → SRq c.K c.pn onx env' σ' w' → D.nx σ' w'.H
  | .ok .bk env' => ∀ w' σ', Ext w w' → SRq c.K c.pn obk env' σ' w' → D.bk σ' w'.H
  | .ok .ct env' => ∀ w' σ', Ext w w' → SRq c.K c.pn oct env' σ' w' → D.ct σ' w'.H
  | .ok (.rt d) env' => ∀ w' σ' v A, Ext w w' → SR c.K c.pn c.r env' σ' w' → RO c.K w'.H w'.Z c.ro d v A → Tmp w w' A → D.rt v w'.H
  | .ex n env' => ∀ w' σ', Ext w w' → SR c.K c.pn c.x env' σ' w' → c.W (.ref (He.ga c.K n)) none σ' w'.H
  | .no => False
theorem tS_iff {D : Ends} {σ : L2.St} {H : Hp} : tS c fs ows onx obk oct D σ H ↔ ∃ w env, w.H = H ∧ SR c.K c.pn ows env σ w ∧ tSz c w σ D onx obk oct (fs env) := by
  unfold tS tSz
  constructor
  · rintro ⟨w, env, h1, h2, h3⟩
    refine ⟨w, env, h1, h2, ?_⟩
    cases e : fs env with
    | no => rw [e] at h3; exact h3
    | ex => rw [e] at h3; exact h3
    | ok r => cases r <;> (rw [e] at h3; exact h3)
  · rintro ⟨w, env, h1, h2, h3⟩
    refine ⟨w, env, h1, h2, ?_⟩
    cases e : fs env with
    | no => rw [e] at h3; exact h3
    | ex => rw [e] at h3; exact h3
    | ok r => cases r <;> (rw [e] at h3; exact h3)
/-- the outcome seen from an earlier state -/
theorem tSz.pre {D : Ends} {w w1 : Wd} {σ σ1 : L2.St} {r : R Fl} (x : Ext w w1) (h : tSz c w σ D onx obk oct r) : tSz c w1 σ1 D onx obk oct r := by
  cases r with
  | no => exact h
  | ex n e => exact fun w' σ' x' s => h w' σ' (x.trans x') s
  | ok r e =>
    cases r with
    | nx => exact fun w' σ' x' s => h w' σ' (x.trans x') s
    | bk => exact fun w' σ' x' s => h w' σ' (x.trans x') s
    | ct => exact fun w' σ' x' s => h w' σ' (x.trans x') s
    | rt d => exact fun w' σ' v A x' s ro t => h w' σ' v A (x.trans x') s ro (t.pre x)
/-- weaker states behind -/
theorem tSz.weak {D : Ends} {w : Wd} {σ : L2.St} {r : R Fl} (h1 : wk onx onx' = true) (h2 : wk obk obk' = true) (h3 : wk oct oct' = true) (h : tSz c w σ D onx' obk' oct' r) : tSz c w σ D onx obk oct r := by
  cases r with
  | no => exact h
  | ex n e => exact h
  | ok r e =>
    cases r with
    | nx =>
      intro w' σ' x s
      obtain ⟨w2, x2, eh, s2⟩ := s.weak h1
      have := h w2 σ' (x.trans x2) s2
      rw [eh] at this; exact this
    | bk =>
      intro w' σ' x s
      obtain ⟨w2, x2, eh, s2⟩ := s.weak h2
      have := h w2 σ' (x.trans x2) s2
      rw [eh] at this; exact this
    | ct =>
      intro w' σ' x s
      obtain ⟨w2, x2, eh, s2⟩ := s.weak h3
      have := h w2 σ' (x.trans x2) s2
      rw [eh] at this; exact this
    | rt d => exact h
theorem PS.weaken (h : PS X st (tS c fs ows onx obk oct)) (h1 : wk onx onx' = true) (h2 : wk obk obk' = true) (h3 : wk oct oct' = true) : PS X st (tS c fs ows onx' obk' oct') := wPS h fun D σ H z => by
  obtain ⟨w, env, a, b, z⟩ := tS_iff.mp z
  exact tS_iff.mpr ⟨w, env, a, b, z.weak h1 h2 h3⟩
theorem PSs.weaken (h : PSs X sts (tS c fs ows onx obk oct)) (h1 : wk onx onx' = true) (h2 : wk obk obk' = true) (h3 : wk oct oct' = true) : PSs X sts (tS c fs ows onx' obk' oct') := wPSs h fun D σ H z => by
  obtain ⟨w, env, a, b, z⟩ := tS_iff.mp z
  exact tS_iff.mpr ⟨w, env, a, b, z.weak h1 h2 h3⟩
/-- a weaker state ahead -/
theorem tS.ahead {D : Ends} {σ : L2.St} {H : Hp} (h : weakB 0 ows ows1 = true) (z : tS c fs ows onx obk oct D σ H) : tS c fs ows1 onx obk oct D σ H := by
  obtain ⟨w, env, a, b, z⟩ := tS_iff.mp z
  obtain ⟨w', x, eh, s⟩ := b.weak h
  exact tS_iff.mpr ⟨w', env, eh.trans a, s, z.pre x⟩
theorem PSs.ahead (h : PSs X sts (tS c fs ows1 onx obk oct)) (hw : weakB 0 ows ows1 = true) : PSs X sts (tS c fs ows onx obk oct) := wPSs h fun D σ H z => z.ahead hw

/-! ### blocks -/
theorem pss_nil' : PSs X [] (tS c (M.ret .nx) ows (some ows) none none) := wPSs pss_nil fun D σ H ⟨w, env, hw, sr, z⟩ => by
  subst hw
  exact z w σ Ext.refl ⟨_, rfl, sr⟩
theorem pss_cons' {onx1 : Ows} (h1 : PS X st (tS c fs ows (some onx1) obk oct)) (h2 : PSs X sts (tS c gs onx1 onx obk oct)) : PSs X (st :: sts) (tS c (seqM fs gs) ows onx obk oct) := wPSs (pss_cons h1 h2) fun D σ H z => by
  obtain ⟨w, env, hw, sr, z⟩ := tS_iff.mp z
  refine tS_iff.mpr ⟨w, env, hw, sr, ?_⟩
  unfold seqM M.bind at z
  cases e : fs env with
  | no => rw [e] at z; exact z
  | ex n e1 => rw [e] at z; exact z
  | ok r e1 =>
    rw [e] at z
    cases r with
    | nx =>
      rintro w1 σ1 x1 ⟨o1, h, s1⟩
      cases h
      exact tS_iff.mpr ⟨w1, e1, rfl, s1, z.pre x1⟩
    | bk => exact z
    | ct => exact z
    | rt d => exact z
/-- what stands behind a return is never reached -/
theorem pss_stop (h1 : PS X st (tS c fs ows none obk oct)) : PSs X (st :: sts) (tS c (seqM fs gs) ows none obk oct) := wPSs (pss_cons h1 (pss_never (sts := sts))) fun D σ H z => by
  obtain ⟨w, env, hw, sr, z⟩ := tS_iff.mp z
  refine tS_iff.mpr ⟨w, env, hw, sr, ?_⟩
  unfold seqM M.bind at z
  cases e : fs env with
  | no => rw [e] at z; exact z
  | ex n e1 => rw [e] at z; exact z
  | ok r e1 =>
    rw [e] at z
    cases r with
    | nx =>
      rintro w1 σ1 x1 ⟨o1, h, s1⟩
      cases h
    | bk => exact z
    | ct => exact z
    | rt d => exact z

/-! ### small statements -/
def noComp : Expr → Bool
  | .ListComp _ _ _ _ => false
  | .SetComp _ _ _ _ => false
  | .DictComp _ _ _ _ _ => false
  | _ => true
theorem swaps_no {e : Expr} {t : Option Expr} {n : Nat} {env : PySem.Env} (h : noComp e = true) : swapsWith e t n env = pure false := by
  cases e <;> first | rfl | cases h
theorem ps_setM {i : Nat} {x : Str} {px : Pos} (hN : X.N.Nodup) (hi : X.N[i]? = some x) (hx : Loc X.env.scope x) (hf : X.fn x = true ∨ X.env.scope.names.lookup x = some .local) (hp : c.pn i = none) (hl : i < ows'.length) (hc : noComp e = true) (he : PE X e (tV c f ows ows' o q)) :
    PS X (.Assign [.Name x px] e pos) (tS c (M.bind f fun d => fun s => .ok .nx (setS s i d)) ows (some (ows'.set i o)) none none) := by
  refine wPS (ps_set hN hi hx he (swaps_no hc) hf) fun D σ H ⟨w, env, hw, sr, z⟩ => ⟨w, env, hw, sr, ?_⟩
  unfold M.bind at z
  cases e1 : f env with
  | no => rw [e1] at z; exact z
  | ex n env1 => rw [e1] at z; exact fun w' x s => z w' σ x s
  | ok d env1 =>
    rw [e1] at z
    intro w1 v A x1 s1 r1 t1 k1
    exact z (w1.put i A) _ (Ext.put x1 t1) ⟨_, rfl, s1.put i hp (fun j hj => owAt_set hj) (owAt_self' hl) r1 t1.z t1.f⟩
theorem ps_exM (hc : noComp e = true) (he : PE X e (tR c f ows ows' o q)) : PS X (.Expr e pos) (tS c (M.bind f fun _ => M.ret .nx) ows (some ows') none none) := by
  refine wPS (ps_expr he (swaps_no hc)) fun D σ H ⟨w, env, hw, sr, z⟩ => ⟨w, env, hw, sr, ?_⟩
  unfold M.bind at z
  cases e1 : f env with
  | no => rw [e1] at z; exact z
  | ex n env1 => rw [e1] at z; exact fun w' x s => z w' σ x s
  | ok d env1 =>
    rw [e1] at z
    intro w1 v A x1 s1 r1 k1
    exact z w1 σ x1 ⟨_, rfl, s1⟩
theorem ps_passM : PS X (.Pass pos) (tS c (M.ret .nx) ows (some ows) none none) := wPS ps_pass fun D σ H ⟨w, env, hw, sr, z⟩ => by
  subst hw; exact z w σ Ext.refl ⟨_, rfl, sr⟩
theorem ps_brkM : PS X (.Break pos) (tS c (M.ret .bk) ows none (some ows) none) := wPS ps_break fun D σ H ⟨w, env, hw, sr, z⟩ => by
  subst hw; exact z w σ Ext.refl ⟨_, rfl, sr⟩
theorem ps_contM : PS X (.Continue pos) (tS c (M.ret .ct) ows none none (some ows)) := wPS ps_continue fun D σ H ⟨w, env, hw, sr, z⟩ => by
  subst hw; exact z w σ Ext.refl ⟨_, rfl, sr⟩
theorem ps_docM {x : Str} {j : Nat} {p2 : Pos} : PS X (.Expr (.Constant (.str x) j p2) pos) (tS c (M.ret .nx) ows (some ows) none none) := wPS ps_doc fun D σ H ⟨w, env, hw, sr, z⟩ => by
  subst hw; exact z w σ Ext.refl ⟨_, rfl, sr⟩
theorem ps_retM (hr : weakB 0 ows' c.r = true) (he : PE X e (tV c f ows ows' c.ro q)) : PS X (.Return (some e) pos) (tS c (M.bind f fun d => M.ret (.rt d)) ows none none none) := by
  refine wPS (ps_ret he) fun D σ H ⟨w, env, hw, sr, z⟩ => ⟨w, env, hw, sr, ?_⟩
  unfold M.bind at z
  cases e1 : f env with
  | no => rw [e1] at z; exact z
  | ex n env1 => rw [e1] at z; exact fun w' x s => z w' σ x s
  | ok d env1 =>
    rw [e1] at z
    intro w1 v A x1 s1 r1 t1 k1
    obtain ⟨w2, x2, eh, s2⟩ := s1.weak hr
    have := z w2 σ v A (x1.trans x2) s2 (RO.ext s1 t1.f x2 r1) (Tmp.ext s1 t1 (fun a ha => r1.ne a ha) x1 x2)
    rw [eh] at this
    exact this
theorem ps_retNM (hr : weakB 0 ows c.r = true) : PS X (.Return none pos) (tS c (M.ret (.rt .non)) ows none none none) := by
  refine wPS ps_retN fun D σ H ⟨w, env, hw, sr, z⟩ => ?_
  subst hw
  obtain ⟨w2, x2, eh, s2⟩ := sr.weak hr
  have := z w2 σ .non (fun _ => False) x2 s2 RO.mknon Tmp.nil
  rw [eh] at this
  exact this
theorem ps_ifsM {ce : Expr} {a b : List Stmt} {fc : M Bool} (hc : PT X ce (tB_ c fc ows ows1 q)) (ha : PSs X a (tS c fs ows1 onx obk oct)) (hb : PSs X b (tS c gs ows1 onx obk oct)) :
    PS X (.If ce a b pos) (tS c (M.bind fc fun k => if k = true then fs else gs) ows onx obk oct) := by
  refine wPS (ps_if hc ha hb) fun D σ H z => ?_
  obtain ⟨w, env, hw, sr, z⟩ := tS_iff.mp z
  refine ⟨w, env, hw, sr, ?_⟩
  unfold M.bind at z
  cases e1 : fc env with
  | no => rw [e1] at z; exact z
  | ex n env1 => rw [e1] at z; exact fun w' x s => z w' σ x s
  | ok k env1 =>
    rw [e1] at z
    intro w1 x1 s1 k1
    cases k with
    | true =>
      rw [if_pos rfl]
      exact tS_iff.mpr ⟨w1, env1, rfl, s1, z.pre x1⟩
    | false =>
      rw [if_neg Bool.false_ne_true]
      exact tS_iff.mpr ⟨w1, env1, rfl, s1, z.pre x1⟩

/-! ### targets -/
/-- the slots are nobody's own any more -/
def frs : Ows → List Nat → Ows
  | o, [] => o
  | o, i :: is => frs (o.set i .fr) is
/-- the same but at these slots -/
def Same (is : List Nat) (σ σ' : L2.St) : Prop := σ'.length = σ.length ∧ ∀ j, j ∉ is → σ'[j]? = σ[j]?
theorem Same.refl {is : List Nat} {σ : L2.St} : Same is σ σ := ⟨rfl, fun _ _ => rfl⟩
theorem Same.set {i : Nat} {is : List Nat} {σ σ' : L2.St} {v : Option V} (h : Same is (σ.set i v) σ') : Same (i :: is) σ σ' := ⟨by rw [h.1, List.length_set], fun j hj => by
  rw [List.mem_cons, not_or] at hj
  rw [h.2 j hj.2, List.getElem?_set_ne (Ne.symm hj.1)]⟩
def tgN (c : Cc) (is : List Nat) (ows : Ows) : TGs := fun vs σ H Q => ∃ w env ds, w.H = H ∧ SR c.K c.pn ows env σ w ∧ Reps c.K w.H w.Z ds vs ∧ is.length = ds.length ∧ ∀ w' σ', Ext w w' → SR c.K c.pn (frs ows is) ((is.zip ds).foldl (fun e p => setS e p.1 p.2) env) σ' w' → Same is σ σ' → w'.H = w.H → Q σ' w'.H
def vName : Expr → Option Str
  | .Name x _ => some x
  | _ => none
theorem vName_eq {e : Expr} {x : Str} (h : vName e = some x) : ∃ p, e = .Name x p := by
  unfold vName at h
  split at h
  · cases h; exact ⟨_, rfl⟩
  · cases h
/-- names that may be stored -/
def LocB (X : Cx) (lc : Str → Bool) : Prop := ∀ x, lc x = true → Loc X.env.scope x ∧ (X.fn x = true ∨ X.env.scope.names.lookup x = some .local)
/-- the names of a target -/
def nmsOk (N : List Str) (lc : Str → Bool) (pn : Nat → Bool) : List Nat → List Expr → Bool
  | [], [] => true
  | i :: is, e :: es => (match vName e with
    | some x => decide (N[i]? = some x) && lc x && !pn i
    | none => false) && nmsOk N lc pn is es
  | _, _ => false
theorem SR.bind {K : PySem.W.Frag} {pn : Pin} {env : Env} {σ : L2.St} {w : Wd} {i : Nat} {d : D} {v : V} (s : SR K pn ows env σ w) (r : Rep K w.H w.Z d v) (hp : pn i = none) : SR K pn (ows.set i .fr) (setS env i d) (σ.set i (some v)) (w.put i fun _ => False) :=
  s.put (o := .fr) i hp (fun j hj => owAt_set hj) owAt_self ⟨r, fun _ z => z⟩ (fun _ z => z.elim) (fun _ _ z => z.elim)
theorem Ext.bind {w : Wd} {i : Nat} : Ext w (w.put i fun _ => False) := Ext.refl.put Tmp.nil
theorem pgs_nms {lc : Str → Bool} {pn : Nat → Bool} (hlc : LocB X lc) (hN : X.N.Nodup) (hpn : ∀ i, pn i = false → c.pn i = none) : ∀ {is : List Nat} {es : List Expr} {ows : Ows}, nmsOk X.N lc pn is es = true → PGs X es (tgN c is ows)
  | [], [], ows, _ => ⟨fun pins s σ H vs us Q I r ⟨w, env, ds, hw, sr, rp, hl, z⟩ => pgs_nil.run pins s σ H vs us Q I r (by
      have : ds = [] := List.eq_nil_of_length_eq_zero hl.symm
      subst this
      unfold Reps at rp
      subst hw
      exact ⟨rp, z w σ Ext.refl sr Same.refl rfl⟩)⟩
  | i :: is, e :: es, ows, h => by
    simp only [nmsOk, Bool.and_eq_true] at h
    obtain ⟨h0, h4⟩ := h
    cases hv : vName e with
    | none => rw [hv] at h0; cases h0
    | some x =>
      rw [hv] at h0
      simp only [Bool.and_eq_true, decide_eq_true_eq, Bool.not_eq_true'] at h0
      obtain ⟨⟨h1, h2⟩, h3⟩ := h0
      obtain ⟨px, rfl⟩ := vName_eq hv
      have ih := pgs_nms hlc hN hpn (ows := ows.set i .fr) h4
      refine ⟨fun pins s σ H vs us Q I r ⟨w, env, ds, hw, sr, rp, hl, z⟩ => (pgs_cons (pg_name hN h1 (hlc _ h2).1 (hlc _ h2).2) ih).run pins s σ H vs us Q I r ?_⟩
      cases ds with
      | nil => simp at hl
      | cons d ds =>
        unfold Reps at rp
        obtain ⟨v, vr, rfl, r1, r2⟩ := rp
        subst hw
        refine ⟨v, vr, rfl, w.put i (fun _ => False), setS env i d, ds, rfl, sr.bind r1 (hpn i h3), Reps.mono (fun _ z => z) (fun _ _ e _ => e) r2, by simpa using hl, fun w' σ' x s' sm hh => ?_⟩
        exact z w' σ' (Ext.bind.trans x) s' sm.set hh
  | [], _ :: _, _, h => by simp [nmsOk] at h
  | i :: is, [], _, h => by simp [nmsOk] at h
/-- a target gets frozen data -/
def tgT (c : Cc) (t : T) (ows : Ows) : TG := fun v σ H Q => ∃ w env d, w.H = H ∧ SR c.K c.pn ows env σ w ∧ Rep c.K w.H w.Z d v ∧ match asg t d env with
  | some env' => ∀ w' σ', Ext w w' → SR c.K c.pn (frs ows t.slots) env' σ' w' → Same t.slots σ σ' → w'.H = w.H → Q σ' w'.H
  | none => False
theorem assignEach_len {es : List Expr} {env : PySem.Env} : (assignEach es env).length = es.length := by
  induction es with
  | nil => rfl
  | cons e es ih => cases e <;> simp only [assignEach, List.length_cons, ih]
theorem nms_len {N : List Str} {lc : Str → Bool} {pn : Nat → Bool} : ∀ {is : List Nat} {es : List Expr}, nmsOk N lc pn is es = true → is.length = es.length
  | [], [], _ => rfl
  | i :: is, e :: es, h => by
    simp only [nmsOk, Bool.and_eq_true] at h
    simp [nms_len h.2]
  | [], _ :: _, h => by simp [nmsOk] at h
  | _ :: _, [], h => by simp [nmsOk] at h
theorem nms_star {N : List Str} {lc : Str → Bool} {pn : Nat → Bool} {env : PySem.Env} : ∀ {is : List Nat} {es : List Expr}, nmsOk N lc pn is es = true → (assignEach es env).findIdx? (·.1) = none
  | [], [], _ => rfl
  | i :: is, e :: es, h => by
    simp only [nmsOk, Bool.and_eq_true] at h
    obtain ⟨h0, h4⟩ := h
    cases hv : vName e with
    | none => rw [hv] at h0; cases h0
    | some x =>
      obtain ⟨px, rfl⟩ := vName_eq hv
      show ((false, assign (.Name x px) env) :: assignEach es env).findIdx? (·.1) = none
      rw [List.findIdx?_cons]
      simp [nms_star h4]
  | [], _ :: _, h => by simp [nmsOk] at h
  | _ :: _, [], h => by simp [nmsOk] at h
def vTup : Expr → Option (List Expr)
  | .Tuple es _ _ => some es
  | _ => none
theorem vTup_eq {e : Expr} {x : List Expr} (h : vTup e = some x) : ∃ k p, e = .Tuple x k p := by
  unfold vTup at h
  split at h
  · cases h; exact ⟨_, _, rfl⟩
  · cases h
/-- the target of the text is this one -/
def tgOk (N : List Str) (lc : Str → Bool) (pn : Nat → Bool) : T → Expr → Bool
  | .nm i, e => nmsOk N lc pn [i] [e]
  | .tp is, e => match vTup e with
    | some es => nmsOk N lc pn is es
    | none => false
theorem pg_tg {lc : Str → Bool} {pn : Nat → Bool} (hlc : LocB X lc) (hc : X.calm = true) (hK : X.K = c.K) (hN : X.N.Nodup) (hpn : ∀ i, pn i = false → c.pn i = none) {t : T} {e : Expr} {ows : Ows} (h : tgOk X.N lc pn t e = true) : PG X e (tgT c t ows) := by
  cases t with
  | nm i =>
    simp only [tgOk, nmsOk, Bool.and_eq_true] at h
    obtain ⟨h0, h4⟩ := h
    cases hv : vName e with
    | none => rw [hv] at h0; cases h0
    | some x =>
      rw [hv] at h0
      simp only [Bool.and_eq_true, decide_eq_true_eq, Bool.not_eq_true'] at h0
      obtain ⟨⟨h1, h2⟩, h3⟩ := h0
      obtain ⟨px, rfl⟩ := vName_eq hv
      refine ⟨fun pins s σ H v u Q I r ⟨w, env, d, hw, sr, rp, z⟩ => (pg_name hN h1 (hlc _ h2).1 (hlc _ h2).2).run pins s σ H v u Q I r ?_⟩
      subst hw
      exact z (w.put i fun _ => False) _ Ext.bind (sr.bind rp (hpn i h3)) (Same.set Same.refl) rfl
  | tp is =>
    simp only [tgOk] at h
    cases hv : vTup e with
    | none => rw [hv] at h; cases h
    | some es =>
      rw [hv] at h
      obtain ⟨k, p, rfl⟩ := vTup_eq hv
      refine ⟨fun pins s σ H v u Q I r ⟨w, env, d, hw, sr, rp, z⟩ => (pg_tup hc (pgs_nms (c := c) hlc hN hpn (ows := ows) h) (assignEach_len) (nms_star h)).run pins s σ H v u Q I r ?_⟩
      cases d with
      | tup ds =>
        unfold Rep at rp
        obtain ⟨a, xs, rfl, h1, h2⟩ := rp
        simp only [asg] at z
        by_cases hl : is.length = ds.length
        · rw [if_pos hl] at z
          refine ⟨a, xs, rfl, ?_, ?_, w, env, ds, hw, sr, h2, hl, z⟩
          · rw [hK, ← hw]; exact h1
          · rw [h2.len, ← hl, nms_len h]
        · rw [if_neg hl] at z; exact z.elim
      | _ => exact z.elim

/-! ### while -/
theorem ps_whileM {ce : Expr} {body : List Stmt} {fc : M Bool} {oh : Ows} (hp : PassesOwn (model X.prog X.w) X.A X.env X.xe) (hc : PT X ce (tB_ c fc oh ows1 q)) (hb : PSs X body (tS c fs ows1 onx obk oct)) (h0 : weakB 0 ows oh = true) (h1 : wk onx (some oh) = true) (h2 : wk oct (some oh) = true)
    {oj : Ows} (h3 : weakB 0 ows1 oj = true) (h4 : wk obk (some oj) = true) : PS X (.While ce body [] pos) (tS c (whileL fc fs FUEL) ows (some oj) none none) := by
  refine wPS (ps_while hp hc hb) fun D σ H z => ?_
  obtain ⟨w, env, hw, sr, z2⟩ := tS_iff.mp (z.ahead h0)
  clear z
  subst hw
  refine ⟨fun m σ' H' => ∃ w' env', w'.H = H' ∧ SR c.K c.pn oh env' σ' w' ∧ tSz c w' σ' D (some oj) none none (whileL fc fs m env'), ⟨FUEL, w, env, rfl, sr, z2⟩, ?_⟩
  rintro m σ1 H1 ⟨w1, env1, rfl, s1, z1⟩
  cases m with
  | zero => exact z1.elim
  | succ m =>
    refine ⟨w1, env1, rfl, s1, ?_⟩
    unfold whileL at z1
    cases e1 : fc env1 with
    | no => rw [e1] at z1; exact z1
    | ex n env2 => rw [e1] at z1; exact fun w' x s => z1 w' σ1 x s
    | ok k env2 =>
      rw [e1] at z1
      intro w2 x2 s2 k2
      cases k with
      | false =>
        rw [if_neg Bool.false_ne_true]
        obtain ⟨w3, x3, eh, s3⟩ := s2.weak h3
        have := z1 w3 σ1 (x2.trans x3) ⟨_, rfl, s3⟩
        rw [eh] at this; exact this
      | true =>
        rw [if_pos rfl]
        simp only at z1
        refine ⟨fun σ' H' => ∃ w' env', w'.H = H' ∧ SR c.K c.pn oh env' σ' w' ∧ tSz c w' σ' D (some oj) none none (whileL fc fs m env'), fun σ' H' hh => ⟨m, Nat.lt_succ_self m, hh⟩, ?_⟩
        refine tS_iff.mpr ⟨w2, env2, rfl, s2, ?_⟩
        cases e2 : fs env2 with
        | no => rw [e2] at z1; exact z1
        | ex n env3 => rw [e2] at z1; exact fun w' σ' x s => z1 w' σ' (x2.trans x) s
        | ok r env3 =>
          rw [e2] at z1
          cases r with
          | nx =>
            intro w3 σ3 x3 s3
            obtain ⟨w4, x4, eh, o4, h, s4⟩ := s3.weak h1
            cases h
            exact ⟨w4, env3, eh, s4, z1.pre ((x2.trans x3).trans x4)⟩
          | ct =>
            intro w3 σ3 x3 s3
            obtain ⟨w4, x4, eh, o4, h, s4⟩ := s3.weak h2
            cases h
            exact ⟨w4, env3, eh, s4, z1.pre ((x2.trans x3).trans x4)⟩
          | bk =>
            intro w3 σ3 x3 s3
            obtain ⟨w4, x4, eh, s4⟩ := s3.weak h4
            have := z1 w4 σ3 ((x2.trans x3).trans x4) s4
            rw [eh] at this; exact this
          | rt d => exact fun w' σ' v A x s ro t => z1 w' σ' v A (x2.trans x) s ro (t.pre x2)

/-! ### for -/
/-- the iterator yields these -/
def Src (c : Cc) (J : It) (ds : List D) (w0 : Wd) : Prop := ∀ (w : Wd) (ows : Ows) (env : Env) (σ : L2.St), Ext w0 w → SR c.K c.pn ows env σ w → ∀ k : Nat,
  (∀ d, ds[k]? = some d → J.go k w.H ∧ ∀ x H', J.yld k w.H x H' → ∃ w', w'.H = H' ∧ Alloc w w' (fun _ => False) ∧ Rep c.K w'.H w'.Z d x) ∧ (ds.length ≤ k → J.stop k w.H)
def tI (c : Cc) (f : M (List D)) (ows ows' : Ows) (qt : Bool) : TI := fun σ H R => ∃ w env, w.H = H ∧ SR c.K c.pn ows env σ w ∧ match f env with
  | .ok ds env' => ∀ w' J, Ext w w' → SR c.K c.pn ows' env' σ w' → Src c J ds w' → (qt = true → Quiet w w') → R J w'.H
  | .ex n env' => exK c σ w n env'
  | .no => False
theorem wPI {X : Cx} {tg e : Expr} {t t' : TI} (h : PI X tg e t) (k : ∀ σ H Q, t' σ H Q → t σ H Q) : PI X tg e t' := ⟨fun pins s σ H Q I q => h.run pins s σ H Q I (k σ H Q q)⟩
theorem ps_forM {t : T} {tg it : Expr} {body : List Stmt} {fi : M (List D)} {oh : Ows} (hp : PassesOwn (model X.prog X.w) X.A X.env X.xe) (hcm : X.calm = true) {qi : Bool} (hi : PI X tg it (tI c fi ows ows1 qi)) (hg : PG X tg (tgT c t oh)) (hb : PSs X body (tS c fs (frs oh t.slots) onx obk oct)) (hs : ∀ x, foldedSetIterable it X.env x = pure x)
    (h0 : weakB 0 ows1 oh = true) (h1 : wk onx (some oh) = true) (h2 : wk oct (some oh) = true) {oj : Ows} (h3 : weakB 0 oh oj = true) (h4 : wk obk (some oj) = true) :
    PS X (.For tg it body [] pos) (tS c (M.bind fi fun ds => forL (fun _ => true) t fs ds) ows (some oj) none none) := by
  refine wPS (ps_for hp hcm hi hg hb hs) fun D σ H z => ?_
  obtain ⟨w, env, hw, sr, z⟩ := tS_iff.mp z
  refine ⟨w, env, hw, sr, ?_⟩
  unfold M.bind at z
  cases e1 : fi env with
  | no => rw [e1] at z; exact z
  | ex n env1 => rw [e1] at z; exact fun w' x s => z w' σ x s
  | ok ds env1 =>
    rw [e1] at z
    intro w1 J x1 s1 src _
    obtain ⟨w2, x2, eh, s2⟩ := s1.weak h0
    rw [← eh]
    have z2 := z.pre (σ1 := σ) (x1.trans x2)
    refine ⟨fun i m σ' H' => m = ds.length - i ∧ i ≤ ds.length ∧ ∃ w' env', w'.H = H' ∧ Ext w1 w' ∧ SR c.K c.pn oh env' σ' w' ∧ tSz c w' σ' D (some oj) none none (forL (fun _ => true) t fs (ds.drop i) env'), ⟨_, rfl, Nat.zero_le _, w2, env1, rfl, x2, s2, z2⟩, ?_⟩
    rintro i m σ3 H3 ⟨rfl, hi3, w3, env3, rfl, x3, s3, z3⟩
    obtain ⟨sg, ss⟩ := src w3 oh env3 σ3 x3 s3 i
    by_cases hlt : i < ds.length
    · have hd : ds[i]? = some ds[i] := List.getElem?_eq_getElem hlt
      obtain ⟨g1, g2⟩ := sg _ hd
      refine .inr ⟨g1, fun σ' H' => ∃ w' env', w'.H = H' ∧ Ext w1 w' ∧ SR c.K c.pn oh env' σ' w' ∧ tSz c w' σ' D (some oj) none none (forL (fun _ => true) t fs (ds.drop (i + 1)) env'), fun σ' H' hh => ⟨ds.length - (i + 1), by omega, rfl, hlt, hh⟩, fun x H' y => ?_⟩
      obtain ⟨w4, rfl, al, rp⟩ := g2 x H' y
      rw [List.drop_eq_getElem_cons hlt] at z3
      simp only [forL, if_true] at z3
      refine ⟨w4, env3, ds[i], rfl, al.sr s3, rp, ?_⟩
      cases e2 : asg t ds[i] env3 with
      | none => rw [e2] at z3; exact z3
      | some env4 =>
        rw [e2] at z3
        simp only at z3 ⊢
        intro w5 σ5 x5 s5 _ _
        have x35 := al.ext.trans x5
        refine tS_iff.mpr ⟨w5, env4, rfl, s5, ?_⟩
        cases e3 : fs env4 with
        | no => rw [e3] at z3; exact z3
        | ex n env5 => rw [e3] at z3; exact fun w' σ' x s => z3 w' σ' (x35.trans x) s
        | ok r env5 =>
          rw [e3] at z3
          cases r with
          | nx =>
            intro w6 σ6 x6 s6
            obtain ⟨w7, x7, eh7, o7, h, s7⟩ := s6.weak h1
            cases h
            exact ⟨w7, env5, eh7, ((x3.trans x35).trans x6).trans x7, s7, z3.pre ((x35.trans x6).trans x7)⟩
          | ct =>
            intro w6 σ6 x6 s6
            obtain ⟨w7, x7, eh7, o7, h, s7⟩ := s6.weak h2
            cases h
            exact ⟨w7, env5, eh7, ((x3.trans x35).trans x6).trans x7, s7, z3.pre ((x35.trans x6).trans x7)⟩
          | bk =>
            intro w6 σ6 x6 s6
            obtain ⟨w7, x7, eh7, s7⟩ := s6.weak h4
            have := z3 w7 σ6 ((x35.trans x6).trans x7) s7
            rw [eh7] at this; exact this
          | rt d => exact fun w' σ' v A x s ro t => z3 w' σ' v A (x35.trans x) s ro (t.pre x35)
    · have e : i = ds.length := by omega
      subst e
      rw [List.drop_length] at z3
      simp only [forL, if_true] at z3
      refine .inl ⟨ss (Nat.le_refl _), ?_⟩
      obtain ⟨w7, x7, eh7, s7⟩ := s3.weak h3
      have := z3 w7 σ3 x7 ⟨_, rfl, s7⟩
      rw [eh7] at this; exact this
end
end Mp
/-! Mp11: what loops walk. -/
namespace Mp
open PySem PySem.Spec PyProof.Rows L2
section
variable {X : Cx} {c : Cc} {f : M D} {fs : M (List D)} {ows ows1 ows2 ows' : Ows} {o : Ow} {q : Bool} {e tg : Expr} {pos : Pos}
theorem PIor {X : Cx} {tg e : Expr} {t t' : TI} (h : PI X tg e t) (h' : PI X tg e t') : PI X tg e (fun σ H Q => t σ H Q ∨ t' σ H Q) := ⟨fun pins s σ H Q I z => z.elim (h.run pins s σ H Q I) (h'.run pins s σ H Q I)⟩
theorem Src.still {c : Cc} {J : It} {ds : List D} {w0 : Wd} (h : ∀ (w : Wd), (∀ {d : D} {v : V}, Rep c.K w0.H w0.Z d v → Rep c.K w.H w.Z d v) → ∀ k : Nat, (∀ d, ds[k]? = some d → J.go k w.H ∧ ∀ x H', J.yld k w.H x H' → H' = w.H ∧ Rep c.K w.H w.Z d x) ∧ (ds.length ≤ k → J.stop k w.H))
    {ows0 : Ows} {env0 : Env} {σ0 : L2.St} (s0 : SR c.K c.pn ows0 env0 σ0 w0) : Src c J ds w0 := fun w ows env σ x s k => by
  obtain ⟨h1, h2⟩ := h w (fun r => Rep.ext s0 x r) k
  refine ⟨fun d e => ⟨(h1 d e).1, fun v H' y => ?_⟩, h2⟩
  obtain ⟨e1, e2⟩ := (h1 d e).2 v H' y
  exact ⟨w, e1.symm, Alloc.refl, e2⟩
/-- a list nobody changes -/
theorem src_lst {ds : List D} {a : Addr} {w0 : Wd} (r : Rep c.K w0.H w0.Z (.lst ds) (.ref a)) {ows0 : Ows} {env0 : Env} {σ0 : L2.St} (s0 : SR c.K c.pn ows0 env0 σ0 w0) : Src c (Itl c.K a) ds w0 := Src.still (fun w kp k => by
  have r' := kp r
  unfold Rep at r'
  obtain ⟨a', xs, e, h1, h2⟩ := r'
  cases e
  have hq : SqL c.K w.H a xs := SqL.of h1.2
  refine ⟨fun d e => ?_, fun hk => ⟨xs, hq, by rw [h2.len]; exact hk⟩⟩
  obtain ⟨x, e1, r1⟩ := h2.get e
  refine ⟨⟨xs, x, hq, e1⟩, fun v H' y => ?_⟩
  obtain ⟨rfl, y⟩ := y
  have := y xs hq
  rw [e1] at this; cases this
  exact ⟨rfl, r1⟩) s0
theorem src_rol {ds : List D} {a : Addr} {w0 : Wd} (r : Rep c.K w0.H w0.Z (.rol ds) (.ref a)) {ows0 : Ows} {env0 : Env} {σ0 : L2.St} (s0 : SR c.K c.pn ows0 env0 σ0 w0) : Src c (Itl c.K a) ds w0 := Src.still (fun w kp k => by
  have r' := kp r
  unfold Rep at r'
  obtain ⟨a', xs, e, h1, h2⟩ := r'
  cases e
  refine ⟨fun d e => ?_, fun hk => ⟨xs, h1.sq, by rw [h2.len]; exact hk⟩⟩
  obtain ⟨x, e1, r1⟩ := h2.get e
  refine ⟨⟨xs, x, h1.sq, e1⟩, fun v H' y => ?_⟩
  obtain ⟨rfl, y⟩ := y
  have := y xs h1.sq
  rw [e1] at this; cases this
  exact ⟨rfl, r1⟩) s0
theorem src_tup {ds : List D} {a : Addr} {w0 : Wd} (r : Rep c.K w0.H w0.Z (.tup ds) (.ref a)) {ows0 : Ows} {env0 : Env} {σ0 : L2.St} (s0 : SR c.K c.pn ows0 env0 σ0 w0) : Src c (Itt c.K a) ds w0 := Src.still (fun w kp k => by
  have r' := kp r
  unfold Rep at r'
  obtain ⟨a', xs, e, h1, h2⟩ := r'
  cases e
  refine ⟨fun d e => ?_, fun hk => ⟨xs, h1, by rw [h2.len]; exact hk⟩⟩
  obtain ⟨x, e1, r1⟩ := h2.get e
  refine ⟨⟨xs, x, h1, e1⟩, fun v H' y => ?_⟩
  obtain ⟨rfl, y⟩ := y
  have := y xs h1
  rw [e1] at this; cases this
  exact ⟨rfl, r1⟩) s0
theorem src_str {x : Str} {w0 : Wd} {ows0 : Ows} {env0 : Env} {σ0 : L2.St} (s0 : SR c.K c.pn ows0 env0 σ0 w0) : Src c (Its x) (x.cps.toList.map fun c => .str ⟨#[c]⟩) w0 := Src.still (fun w kp k => by
  refine ⟨fun d e => ?_, fun hk => by
    show x.cps.size ≤ k
    simpa using hk⟩
  rw [List.getElem?_map] at e
  obtain ⟨p, e1, rfl⟩ := Option.map_eq_some_iff.mp e
  have e2 : x.cps[k]? = some p := by rw [← Array.getElem?_toList]; exact e1
  refine ⟨?_, fun v H' y => ?_⟩
  · obtain ⟨h, _⟩ := Array.getElem?_eq_some_iff.mp e2
    exact h
  · obtain ⟨rfl, c', e3, rfl⟩ := y
    rw [e2] at e3; cases e3
    exact ⟨rfl, rfl⟩) s0
theorem rngD_at : ∀ {lo : Int} {n k : Nat}, (rngD lo n)[k]? = if k < n then some (.int (lo + k)) else none
  | lo, 0, k => by simp [rngD]
  | lo, n + 1, 0 => by simp [rngD]
  | lo, n + 1, k + 1 => by
    rw [rngD, List.getElem?_cons_succ, rngD_at]
    by_cases h : k < n
    · rw [if_pos h, if_pos (by omega)]
      congr 2
      omega
    · rw [if_neg h, if_neg (by omega)]
theorem rngD_len : ∀ {lo : Int} {n : Nat}, (rngD lo n).length = n
  | lo, 0 => rfl
  | lo, n + 1 => by rw [rngD, List.length_cons, rngD_len]
theorem src_rng {lo : Int} {n : Nat} {w0 : Wd} {ows0 : Ows} {env0 : Env} {σ0 : L2.St} (s0 : SR c.K c.pn ows0 env0 σ0 w0) : Src c (Itr lo n) (rngD lo n) w0 := Src.still (fun w kp k => by
  refine ⟨fun d e => ?_, fun hk => by rw [rngD_len] at hk; exact hk⟩
  rw [rngD_at] at e
  split at e
  · rename_i hk
    cases e
    refine ⟨hk, fun v H' y => ?_⟩
    obtain ⟨rfl, rfl⟩ := y
    exact ⟨rfl, rfl⟩
  · cases e) s0
theorem src_rngD {lo : Int} {n : Nat} {w0 : Wd} {ows0 : Ows} {env0 : Env} {σ0 : L2.St} (s0 : SR c.K c.pn ows0 env0 σ0 w0) : Src c (Itc (lo + n) (-1) n) ((rngD (lo + 1) n).reverse) w0 := Src.still (fun w kp k => by
  refine ⟨fun d e => ?_, fun hk => by rw [List.length_reverse, rngD_len] at hk; exact hk⟩
  have hk : k < n := by
    have := (List.getElem?_eq_some_iff.mp e).1
    rw [List.length_reverse, rngD_len] at this
    exact this
  rw [List.getElem?_reverse (by rw [rngD_len]; exact hk), rngD_len, rngD_at, if_pos (by omega)] at e
  cases e
  refine ⟨hk, fun v H' y => ?_⟩
  obtain ⟨rfl, rfl⟩ := y
  refine ⟨rfl, ?_⟩
  unfold Rep
  congr 1
  omega) s0

/-! ### the forms -/
/-- a value walked -/
theorem pi_seq (hK : X.K = c.K) (h : PE X e (tV c f ows ows' .fr q)) : PI X tg e (tI c (M.bind f fun d => M.opt (itF .seq [d])) ows ows' q) := by
  refine wPI (PIor (pi_list h) (PIor (pi_tup h) (pi_str h))) fun σ H R ⟨w, env, hw, sr, z⟩ => ?_
  unfold M.bind at z
  have mk : ∀ {Q : VK}, (match f env with
      | .ok d env' => ∀ w' v A, Ext w w' → SR c.K c.pn ows' env' σ w' → RO c.K w'.H w'.Z .fr d v A → Tmp w w' A → (q = true → Quiet w w') → Q v w'.H
      | .ex n env' => exK c σ w n env'
      | .no => False) → tV c f ows ows' .fr q σ H Q := fun z => ⟨w, env, hw, sr, z⟩
  cases e1 : f env with
  | no => rw [e1] at z; exact z.elim
  | ex n env1 => rw [e1] at z; exact .inl (mk (by rw [e1]; exact z))
  | ok d env1 =>
    rw [e1] at z
    cases d with
    | lst ds =>
      refine .inl (mk ?_)
      rw [e1]
      intro w1 v A x1 s1 r1 _ k1
      obtain ⟨a, xs, rfl, h1, h2⟩ := r1.lst
      exact ⟨a, rfl, ⟨xs, SqL.of h1⟩, by rw [hK]; exact z w1 _ x1 s1 (src_lst r1.1 s1) k1⟩
    | tup ds =>
      refine .inr (.inl (mk ?_))
      rw [e1]
      intro w1 v A x1 s1 r1 _ k1
      obtain ⟨a, xs, rfl, h1, h2⟩ := r1.tup
      exact ⟨a, rfl, ⟨xs, by rw [hK]; exact h1⟩, by rw [hK]; exact z w1 _ x1 s1 (src_tup r1.1 s1) k1⟩
    | str x =>
      refine .inr (.inr (mk ?_))
      rw [e1]
      intro w1 v A x1 s1 r1 _ k1
      exact ⟨x, r1.str, z w1 _ x1 s1 (src_str s1) k1⟩
    | _ => exact z.elim
theorem ROR.three {K : PySem.W.Frag} {H : Hp} {Z : AS} {os : List Ow} {d d2 d3 : D} {vs : List V} (h : ROR K H Z os [d, d2, d3] vs) : ∃ o v A o2 v2 A2 o3 v3 A3, os = [o, o2, o3] ∧ vs = [v, v2, v3] ∧ RO K H Z o d v A ∧ RO K H Z o2 d2 v2 A2 ∧ RO K H Z o3 d3 v3 A3 := by
  match os, vs, h with
  | o :: os, v :: vs, h =>
    obtain ⟨o2, v2, A2, o3, v3, A3, rfl, rfl, h2, h3⟩ := ROR.two h.2
    obtain ⟨⟨A, r⟩, _⟩ := h
    exact ⟨o, v, A, o2, v2, A2, o3, v3, A3, rfl, rfl, r, h2, h3⟩
  | [], _, h => exact h.elim
  | _ :: _, [], h => exact h.elim
theorem b62 {i : Int} (h : B62 i = true) : -(2 ^ 62) ≤ i ∧ i < 2 ^ 62 := by
  unfold B62 at h
  simp only [decide_eq_true_eq] at h
  exact ⟨by omega, by omega⟩
theorem pi_rng1 {a : Expr} {p : Pos} {os : List Ow} (hg : Gl X "range") (hm : X.mg "range" = none) (ha : PA X [a] (tAR c fs ows ows' os q)) (hs : noStar a = true) (hl : ∀ env ds env', fs env = .ok ds env' → ds.length = 1) :
    PI X tg (.Call (.Name "range" p) [a] [] pos) (tI c (M.bind fs fun ds => M.opt (itF .rng ds)) ows ows' q) := by
  refine wPI (pi_range1 hg hm ha (star_cons hs)) fun σ H R ⟨w, env, hw, sr, z⟩ => ⟨w, env, hw, sr, ?_⟩
  unfold M.bind at z
  cases e1 : fs env with
  | no => rw [e1] at z; exact z.elim
  | ex n env1 => rw [e1] at z; exact z
  | ok ds env1 =>
    rw [e1] at z
    intro w1 vs x1 s1 r1 k1
    have h1 := hl _ _ _ e1
    match ds, h1 with
    | [d], _ =>
      obtain ⟨o, v, A, rfl, rfl, r⟩ := r1.one
      cases d with
      | int j =>
        simp only [M.opt, itF] at z
        by_cases hb : B62 j = true
        · rw [if_pos hb] at z
          have := b62 hb
          exact ⟨j, by rw [r.int], this.1, this.2, z w1 _ x1 s1 (src_rng s1) k1⟩
        · rw [if_neg hb] at z; exact z.elim
      | _ => exact z.elim
theorem pi_rng2 {a b : Expr} {p : Pos} {os : List Ow} (hg : Gl X "range") (hm : X.mg "range" = none) (ha : PA X [a, b] (tAR c fs ows ows' os q)) (hs : noStar a = true) (hs2 : noStar b = true) (hl : ∀ env ds env', fs env = .ok ds env' → ds.length = 2) :
    PI X tg (.Call (.Name "range" p) [a, b] [] pos) (tI c (M.bind fs fun ds => M.opt (itF .rng ds)) ows ows' q) := by
  refine wPI (pi_range2 hg hm ha (by rw [star_cons hs, star_cons hs2]; rfl) (by rw [star_cons hs2]; rfl)) fun σ H R ⟨w, env, hw, sr, z⟩ => ⟨w, env, hw, sr, ?_⟩
  unfold M.bind at z
  cases e1 : fs env with
  | no => rw [e1] at z; exact z.elim
  | ex n env1 => rw [e1] at z; exact z
  | ok ds env1 =>
    rw [e1] at z
    intro w1 vs x1 s1 r1 k1
    have h1 := hl _ _ _ e1
    match ds, h1 with
    | [d, d2], _ =>
      obtain ⟨o, v, A, o2, v2, A2, rfl, rfl, r, r2⟩ := r1.two
      cases d with
      | int i =>
        cases d2 with
        | int j =>
          simp only [M.opt, itF] at z
          by_cases hb : (B62 i && B62 j) = true
          · rw [if_pos hb] at z
            simp only [Bool.and_eq_true] at hb
            have h1 := b62 hb.1
            have h2 := b62 hb.2
            exact ⟨i, j, by rw [r.int, r2.int], ⟨h1.1, h1.2, h2.1, h2.2⟩, z w1 _ x1 s1 (src_rng s1) k1⟩
          · rw [if_neg hb] at z; exact z.elim
        | _ => exact z.elim
      | _ => exact z.elim
theorem pi_rng3 {a b d : Expr} {p : Pos} {os : List Ow} (hg : Gl X "range") (hm : X.mg "range" = none) (ha : PA X [a, b, d] (tAR c fs ows ows' os q)) (hs : noStar a = true) (hs2 : noStar b = true) (hs3 : noStar d = true) (hl : ∀ env ds env', fs env = .ok ds env' → ds.length = 3) :
    PI X tg (.Call (.Name "range" p) [a, b, d] [] pos) (tI c (M.bind fs fun ds => M.opt (itF .rng ds)) ows ows' q) := by
  refine wPI (pi_range3 hg hm ha (star_cons hs) (by rw [star_cons hs2, star_cons hs3]; rfl)) fun σ H R ⟨w, env, hw, sr, z⟩ => ⟨w, env, hw, sr, ?_⟩
  unfold M.bind at z
  cases e1 : fs env with
  | no => rw [e1] at z; exact z.elim
  | ex n env1 => rw [e1] at z; exact z
  | ok ds env1 =>
    rw [e1] at z
    intro w1 vs x1 s1 r1 k1
    have h1 := hl _ _ _ e1
    match ds, h1 with
    | [d, d2, d3], _ =>
      obtain ⟨o, v, A, o2, v2, A2, o3, v3, A3, rfl, rfl, r, r2, r3⟩ := r1.three
      cases d with
      | int i =>
        cases d2 with
        | int j =>
          cases d3 with
          | int k =>
            simp only [M.opt, itF] at z
            by_cases hb : (B62 i && B62 j && decide (k = -1)) = true
            · rw [if_pos hb] at z
              simp only [Bool.and_eq_true, decide_eq_true_eq] at hb
              have h1 := b62 hb.1.1
              have h2 := b62 hb.1.2
              rw [hb.2] at r3
              refine ⟨i, j, -1, (i - j).toNat, by rw [r.int, r2.int, r3.int], RgC.neg h1.1 h1.2 h2.1 h2.2, z w1 _ x1 s1 ?_ k1⟩
              by_cases hij : j ≤ i
              · have e := src_rngD (c := c) (lo := j) (n := (i - j).toNat) s1
                have e2 : j + ((i - j).toNat : Int) = i := by omega
                rw [e2] at e
                exact e
              · have e0 : (i - j).toNat = 0 := by omega
                rw [e0]
                exact Src.still (fun w kp k => ⟨fun d e => by simp [rngD] at e, fun _ => Nat.zero_le _⟩) s1
            · rw [if_neg hb] at z; exact z.elim
          | _ => exact z.elim
        | _ => exact z.elim
      | _ => exact z.elim
end
end Mp
/-! Mp12: operators by their table; in; isinstance; tests. -/
namespace Mp
open PySem PySem.Spec PyProof.Rows L2

def opB : BO → Operator
  | .add => .Add
  | .sub => .Sub
  | .mul => .Mult
  | .fdiv => .FloorDiv
  | .mod => .Mod
  | .pow => .Pow
def opC : CO → CmpOp
  | .eq => .Eq
  | .ne => .NotEq
  | .lt => .Lt
  | .le => .LtE
  | .gt => .Gt
  | .ge => .GtE
  | .isn => .Is
  | .isnn => .IsNot
  | .in_ => .In
  | .nin => .NotIn
section
variable {X : Cx} {c : Cc} {f g fa fb fd : M D} {ows ows1 ows2 ows' : Ows} {o o1 o2 oa ob od : Ow} {q q1 q2 : Bool} {e pe a b d : Expr} {pos : Pos}
theorem pv_bin {k : BO} (hK : X.K = c.K) (ha : PE X a (tR c fa ows ows1 o1 q)) (hb : PE X b (tR c fb ows1 ows2 o2 true)) (s1 : shal o1 = true) (s2 : shal o2 = true) : PE X (.BinOp a (opB k) b pos) (tV c (op2 (binD k) fa fb) ows ows2 (.ow .fr) q) := by
  cases k with
  | add => exact pe_ok2 ha hb (fun h1 h2 => pe_op (r := rAddA c.K) (by rw [← hK]; exact op_addA) h1 h2) (ok_add s1 s2)
  | sub => exact pe_ok2 ha hb (fun h1 h2 => pe_op op_sub h1 h2) ok_sub
  | mul => exact pe_ok2 ha hb (fun h1 h2 => pe_op (r := rMulA c.K) (by rw [← hK]; exact op_mulA) h1 h2) (ok_mul s1)
  | fdiv => exact pe_ok2 ha hb (fun h1 h2 => pe_op op_fdiv h1 h2) ok_fdiv
  | mod => exact pe_ok2 ha hb (fun h1 h2 => pe_op op_mod h1 h2) ok_mod
  | pow => exact pe_ok2 ha hb (fun h1 h2 => pe_op op_pow h1 h2) ok_pow
theorem toPs_any {p : PyData → Bool} : ∀ {ys : List D}, (D.toPs ys).any p = ys.any fun y => p y.toP
  | [] => rfl
  | y :: ys => by simp only [D.toPs, List.any_cons, toPs_any]
theorem valV_at {κ : Type} [DecidableEq κ] : ∀ {kvs : List (κ × V)} {k : κ} {x : V} {j : Nat}, (kvs.map (·.1)).Nodup → kvs[j]? = some (k, x) → valV kvs k = some x
  | [], _, _, _, _, h => by simp at h
  | p :: r, k, x, 0, _, h => by
    simp at h
    subst h
    exact valV_pos rfl
  | p :: r, k, x, j + 1, nd, h => by
    simp at h
    rw [List.map_cons, List.nodup_cons] at nd
    have hm : k ∈ r.map (·.1) := List.mem_map.mpr ⟨(k, x), List.mem_of_getElem? h, rfl⟩
    have ne : p.1 ≠ k := fun e => nd.1 (e ▸ hm)
    have ih := valV_at nd.2 h
    unfold valV at ih ⊢
    rw [List.find?_cons, decide_eq_false ne]
    exact ih
theorem valV_no {κ : Type} [DecidableEq κ] {kvs : List (κ × V)} {k : κ} (h : ∀ p, p ∈ kvs → p.1 ≠ k) : valV kvs k = none := by
  unfold valV
  rw [List.find?_eq_none.mpr fun p hp => by simpa using h p hp]
  rfl
theorem kd_of {k : D} (h : keyD false k = true) : ∃ key : Key, k = kD key ∧ ∀ (K : PySem.W.Frag) (H : Hp) (Z : AS) (o : Ow) (v : V) (A : AS), RO K H Z o k v A → v = kV key := by
  cases k <;> first | cases h | skip
  · exact ⟨.inl _, rfl, fun _ _ _ _ _ _ r => r.int⟩
  · exact ⟨.inr _, rfl, fun _ _ _ _ _ _ r => r.str⟩
theorem nodup_kd {kvs : List (Key × V)} (h : (kvs.map fun p => kD p.1).Nodup) : (kvs.map (·.1)).Nodup := by
  rw [List.Nodup, List.pairwise_map] at h ⊢
  exact h.imp fun h e => h (by rw [e])
/-- a key looked up -/
theorem dk_get {H : Hp} {a : Addr} {ks : List D} {xs : List V} {key : Key} (h : DcAt H a false ks xs) : ∃ kvs, H a = some (.dK kvs) ∧ xs.length = ks.length ∧ (∀ (j : Nat) (x : V), ks[j]? = some (kD key) → xs[j]? = some x → valV kvs key = some x) ∧ ((∀ j : Nat, ks[j]? ≠ some (kD key)) → valV kvs key = none) := by
  obtain ⟨nd, ⟨_, kvs, h1, h2, h3⟩ | ⟨e, _⟩⟩ := h
  · refine ⟨kvs, h1, by rw [h2, h3]; simp, fun j x e1 e2 => ?_, fun hn => valV_no fun p hp e => ?_⟩
    · have hk : KeyK ks kvs := h2
      unfold KeyK at hk
      subst hk h3
      rw [List.getElem?_map] at e1 e2
      obtain ⟨p, e3, e4⟩ := Option.map_eq_some_iff.mp e1
      rw [e3] at e2
      cases e2
      have := kD_inj e4
      subst this
      exact valV_at (nodup_kd nd) e3
    · obtain ⟨j, hj⟩ := List.mem_iff_getElem?.mp hp
      refine hn j ?_
      have hk : KeyK ks kvs := h2
      unfold KeyK at hk
      rw [hk, List.getElem?_map, hj, ← e]
      rfl
  · cases e
theorem dGet_no : ∀ {ks vs : List D} {k : D}, vs.length = ks.length → dGet ks vs k = none → ∀ j : Nat, ks[j]? ≠ some k
  | [], _, _, _, _, j => by simp
  | _ :: _, [], _, h, _, _ => by simp at h
  | k0 :: ks, v0 :: vs, k, h, e, j => by
    unfold dGet at e
    split at e
    · cases e
    · rename_i ne
      cases j with
      | zero => simpa using ne
      | succ j =>
        rw [List.getElem?_cons_succ]
        exact dGet_no (by simpa using h) e j
abbrev rDIn : R2 := fun x y H Q => ∃ a o, y = .ref a ∧ DGet H a x o ∧ Q (.bl o.isSome) H
abbrev rDNin : R2 := fun x y H Q => ∃ a o, y = .ref a ∧ DGet H a x o ∧ Q (.bl (!o.isSome)) H
theorem op_dIn (hu : X.A.units + 1 < cLine) : OpR X (compareOp .In) rDIn := by
  intro pins s σ H x y v u Q I rx ry h
  obtain ⟨a, o, rfl, g, q⟩ := h
  cases ry
  exact d_in hu I g rx fun s3 I3 => ⟨.bl o.isSome, H, I3, rfl, q⟩
theorem op_dNin (hu : X.A.units + 1 < cLine) : OpR X (compareOp .NotIn) rDNin := by
  intro pins s σ H x y v u Q I rx ry h
  obtain ⟨a, o, rfl, g, q⟩ := h
  cases ry
  exact d_notIn hu I g rx fun s3 I3 => ⟨.bl (!o.isSome), H, I3, rfl, q⟩
abbrev rInA (K : PySem.W.Frag) : R2 := fun x y H Q => rInD K x y H Q ∨ (∃ i j, x = .str i ∧ y = .str j ∧ Q (.bl (!(Builtin.Str.occurrences j i 0 j.length 1).isEmpty)) H) ∨ rIn K false x y H Q ∨ rDIn x y H Q
abbrev rNinA (K : PySem.W.Frag) : R2 := fun x y H Q => rNotInD K x y H Q ∨ (∃ i j, x = .str i ∧ y = .str j ∧ Q (.bl (!(!(Builtin.Str.occurrences j i 0 j.length 1).isEmpty))) H) ∨ rIn K true x y H Q ∨ rDNin x y H Q
theorem plain_rep {K : PySem.W.Frag} {H : Hp} {Z : AS} {x y : D} {v u : V} (hx : x.plain = true) (hy : y.plain = true) (r1 : Rep K H Z x v) (r2 : Rep K H Z y u) : flatV v = true ∧ flatV u = true ∧ eqV u v = eqF y x := by
  cases x <;> first | (cases hx; done) | skip
  all_goals (cases y <;> first | (cases hy; done) | skip)
  all_goals (unfold Rep at r1 r2; subst r1 r2; exact ⟨rfl, rfl, rfl⟩)
theorem plain_all {K : PySem.W.Frag} {H : Hp} {Z : AS} {x : D} {v : V} (hx : x.plain = true) (r1 : Rep K H Z x v) : ∀ {ys : List D} {us : List V}, ys.all D.plain = true → Reps K H Z ys us → us.all flatV = true ∧ (us.any fun u => eqV u v) = ys.any fun y => eqF y x
  | [], _, _, h => by unfold Reps at h; subst h; exact ⟨rfl, rfl⟩
  | y :: ys, us, hy, h => by
    unfold Reps at h
    obtain ⟨u, r, rfl, h1, h2⟩ := h
    simp only [List.all_cons, Bool.and_eq_true] at hy
    obtain ⟨a1, a2⟩ := plain_all hx r1 hy.2 h2
    obtain ⟨b1, b2, b3⟩ := plain_rep hx hy.1 r1 h1
    simp only [List.all_cons, List.any_cons, a1, a2, b2, b3, Bool.and_self, and_self]
theorem flat_plain {x : D} {K : PySem.W.Frag} {H : Hp} {Z : AS} {v : V} (hx : x.plain = true) (r : Rep K H Z x v) : flatV v = true := (plain_rep hx hx r r).1
theorem RO.plain {K : PySem.W.Frag} {H : Hp} {Z : AS} {x : D} {v : V} {A : AS} (r : RO K H Z o x v A) (hx : x.plain = true) : Rep K H Z x v := r.rep (fun ds e => by subst e; cases hx) (fun _ _ _ e => by subst e; cases hx)
theorem in_cases {K : PySem.W.Frag} {w : Wd} {x y : D} {v1 v2 : V} {A1 A2 : AS} {k : Bool} (r1 : RO K w.H w.Z o1 x v1 A1) (r2 : RO K w.H w.Z o2 y v2 A2) (e : inD x y = some k) :
    (∃ d ds, Dp K w.H v1 d ∧ Dp K w.H v2 (.list ds) ∧ SeqAt.shaped d = true ∧ SeqAt.shaped (.list ds) = true ∧ k = (ds.any fun z => PyData.eqv z d)) ∨ (∃ i j, v1 = .str i ∧ v2 = .str j ∧ k = !(Builtin.Str.occurrences j i 0 j.length 1).isEmpty) ∨
    (∃ p xs, v2 = .ref p ∧ SqT K w.H p xs ∧ flatV v1 = true ∧ xs.all flatV = true ∧ k = inV v1 xs) ∨ (∃ a o, v2 = .ref a ∧ DGet w.H a v1 o ∧ k = o.isSome) := by
  cases y with
  | str j =>
    cases x <;> simp only [inD, reduceCtorEq, Option.some.injEq] at e
    exact .inr (.inl ⟨_, _, r1.str, r2.str, e.symm⟩)
  | lst ys =>
    simp only [inD] at e
    split at e
    · rename_i hs
      simp only [Bool.and_eq_true] at hs
      have := r2.dp hs.2
      refine .inl ⟨x.toP, D.toPs ys, r1.dp hs.1, this, hs.1, hs.2, ?_⟩
      rw [toPs_any]
      exact (Option.some.inj e).symm
    · cases e
  | tup ys =>
    simp only [inD] at e
    split at e
    · rename_i hs
      simp only [Bool.and_eq_true] at hs
      obtain ⟨a, xs, rfl, h1, h2⟩ := r2.tup
      obtain ⟨b1, b2⟩ := plain_all hs.1 (r1.plain hs.1) hs.2 h2
      exact .inr (.inr (.inl ⟨a, xs, rfl, h1, flat_plain hs.1 (r1.plain hs.1), b1, by unfold inV; rw [b2]; exact (Option.some.inj e).symm⟩))
    · cases e
  | dct t ks vs =>
    cases t with
    | true => cases e
    | false =>
      simp only [inD] at e
      split at e
      · rename_i hk
        obtain ⟨key, rfl, hv⟩ := kd_of hk
        have hv1 := hv _ _ _ _ _ _ r1
        subst hv1
        obtain ⟨a, xs, rfl, _, h1, _⟩ := (show ∃ a xs', v2 = V.ref a ∧ _ ∧ DcAt w.H a false ks xs' ∧ _ from r2.fz)
        obtain ⟨kvs, e1, hl, g1, g2⟩ := dk_get (key := key) h1
        refine .inr (.inr (.inr ⟨a, valV kvs key, rfl, DGet.k e1, ?_⟩))
        rw [← Option.some.inj e]
        by_cases hm : kD key ∈ ks
        · obtain ⟨j, hj⟩ := List.mem_iff_getElem?.mp hm
          obtain ⟨y, hy⟩ : ∃ y, xs[j]? = some y := ⟨_, List.getElem?_eq_getElem (by rw [hl]; exact (List.getElem?_eq_some_iff.mp hj).1)⟩
          rw [g1 j y hj hy]
          simp only [List.any_eq_true, decide_eq_true_eq, Option.isSome_some]
          exact ⟨_, hm, rfl⟩
        · rw [g2 fun j hj => hm (List.mem_of_getElem? hj)]
          simp only [Option.isSome_none, List.any_eq_false, decide_eq_true_eq]
          exact fun z hz e => hm (e ▸ hz)
      · cases e
  | _ => cases e
theorem ok_in {K : PySem.W.Frag} : Ok2 K (cmpM .in_) (.ow .fr) (rInA K) o1 o2 := by
  intro w d1 d2 v1 v2 A1 A2 d Q r1 r2 e k
  obtain ⟨b, e1, rfl⟩ := map_bl e
  rcases in_cases r1 r2 (show inD d1 d2 = some b from e1) with ⟨p, ps, h1, h2, h3, h4, rfl⟩ | ⟨i, j, rfl, rfl, rfl⟩ | ⟨p, xs, rfl, h1, h2, h3, rfl⟩ | ⟨a, oo, rfl, g, rfl⟩
  · exact .inl ⟨p, ps, h1, h2, h3, h4, fin_bl rfl k⟩
  · exact .inr (.inl ⟨i, j, rfl, rfl, fin_bl rfl k⟩)
  · exact .inr (.inr (.inl ⟨p, xs, rfl, .inr h1, h2, h3, fin_bl rfl k⟩))
  · exact .inr (.inr (.inr ⟨a, oo, rfl, g, fin_bl rfl k⟩))
theorem ok_nin {K : PySem.W.Frag} : Ok2 K (cmpM .nin) (.ow .fr) (rNinA K) o1 o2 := by
  intro w d1 d2 v1 v2 A1 A2 d Q r1 r2 e k
  obtain ⟨b, e1, rfl⟩ := map_bl e
  obtain ⟨b', e2, rfl⟩ := Option.map_eq_some_iff.mp (show (inD d1 d2).map (!·) = some b from e1)
  rcases in_cases r1 r2 e2 with ⟨p, ps, h1, h2, h3, h4, rfl⟩ | ⟨i, j, rfl, rfl, rfl⟩ | ⟨p, xs, rfl, h1, h2, h3, rfl⟩ | ⟨a, oo, rfl, g, rfl⟩
  · exact .inl ⟨p, ps, h1, h2, h3, h4, fin_bl rfl k⟩
  · exact .inr (.inl ⟨i, j, rfl, rfl, fin_bl rfl k⟩)
  · exact .inr (.inr (.inl ⟨p, xs, rfl, .inr h1, h2, h3, fin_bl rfl k⟩))
  · exact .inr (.inr (.inr ⟨a, oo, rfl, g, fin_bl rfl k⟩))
/-- each comparison has its rule -/
theorem cmp_rule (hK : X.K = c.K) (hu : X.A.units + 66 < cLine) (k : CO) : ∃ r : R2, OpR X (compareOp (opC k)) r ∧ ∀ o1 o2, Ok2 c.K (cmpM k) (.ow .fr) r o1 o2 := by
  cases k with
  | eq => exact ⟨rEqD c.K, by rw [← hK]; exact op_eqD (by omega), fun _ _ => ok_eq⟩
  | ne => exact ⟨rNeD c.K, by rw [← hK]; exact op_neD (by omega), fun _ _ => ok_ne⟩
  | lt => exact ⟨_, op_ltA (by omega), fun _ _ => by rw [hK]; exact ok_lt⟩
  | le => exact ⟨_, op_leA (by omega), fun _ _ => by rw [hK]; exact ok_le⟩
  | gt => exact ⟨_, op_gtA (by omega), fun _ _ => by rw [hK]; exact ok_gt⟩
  | ge => exact ⟨_, op_geA (by omega), fun _ _ => by rw [hK]; exact ok_ge⟩
  | isn => exact ⟨_, op_isN, fun _ _ => ok_isn⟩
  | isnn => exact ⟨_, op_notN, fun _ _ => ok_isnn⟩
  | in_ => exact ⟨rInA c.K, by rw [← hK]; exact (op_inD (by omega)).or (op_in_str.or (op_in_seq.or (op_dIn (X := X) (by omega)))), fun _ _ => ok_in⟩
  | nin => exact ⟨rNinA c.K, by rw [← hK]; exact (op_notInD (by omega)).or (op_notin_str.or (op_notIn_seq.or (op_dNin (X := X) (by omega)))), fun _ _ => ok_nin⟩
end
end Mp
/-! Mp13: subscripts with dicts; isinstance; built-in functions by name; tests. -/
namespace Mp
open PySem PySem.Spec PyProof.Rows L2
section
variable {X : Cx} {c : Cc} {f g fa fb fd : M D} {ows ows1 ows2 ows' : Ows} {o o1 o2 oa ob od : Ow} {q q1 q2 : Bool} {e pe a b d : Expr} {pos : Pos}
/-! ### subscripts -/
abbrev rIxDc : R2 := fun x y H Q => ∃ a v, x = .ref a ∧ DGet H a y (some v) ∧ Q v H
theorem ix_dict (hu : X.A.units + 1 < cLine) : IxR X rIxDc := by
  intro value slice pins s σ H x y v u Q I rx ry h hs
  obtain ⟨a, r, rfl, g, q⟩ := h
  cases rx
  exact tail_any (dict_typeIs I g) PySem.F.slot_dict_getitem.lookup (d_getItem hu I g ry fun w' s' I' rw' => ⟨r, H, I', rw', q⟩) hs
abbrev rIxB (K : PySem.W.Frag) : R2 := fun x y H Q => rIxA K x y H Q ∨ rIxDc x y H Q
theorem RO.dctR {K : PySem.W.Frag} {H : Hp} {Z : AS} {t : Bool} {ks vs : List D} {v : V} {A : AS} (sh : shal o = true) (h : RO K H Z o (.dct t ks vs) v A) : ∃ a xs, v = .ref a ∧ DcAt H a t ks xs ∧ Reps K H Z vs xs := by
  cases o with
  | fr =>
    obtain ⟨a, xs, e, _, h1, h2⟩ := (show ∃ a xs, v = V.ref a ∧ _ ∧ DcAt H a t ks xs ∧ Reps K H Z vs xs from h.1)
    exact ⟨a, xs, e, h1, h2⟩
  | ow o =>
    cases o with
    | fr =>
      obtain ⟨a, xs, B, G, e, h1, I, _⟩ := h
      exact ⟨a, xs, e, h1, Reps.of I.len fun k d x e1 e2 => (I.at_ k d x e1 e2).1⟩
    | ow o => cases sh
theorem ok_ixB {K : PySem.W.Frag} (s1 : shal o1 = true) : Ok2 K ixD .fr (rIxB K) o1 o2 := by
  intro w d1 d2 v1 v2 A1 A2 d Q r1 r2 e k
  cases d1 with
  | dct t ks vs =>
    cases t with
    | true => cases e
    | false =>
      simp only [ixD] at e
      split at e
      · rename_i hk
        obtain ⟨key, rfl, hv⟩ := kd_of hk
        have hv1 := hv _ _ _ _ _ _ r2
        subst hv1
        obtain ⟨a, xs, rfl, h1, h2⟩ := r1.dctR s1
        obtain ⟨kvs, e1, hl, g1, _⟩ := dk_get (key := key) h1
        obtain ⟨j, j1, j2, _⟩ := dGet_at e
        obtain ⟨x, e2, rx⟩ := h2.get j2
        refine .inr ⟨a, x, rfl, ?_, fin_rep rx k⟩
        have := g1 j x j1 e2
        rw [← this]
        exact DGet.k e1
      · cases e
  | _ => exact .inl (ok_ix s1 w _ d2 v1 v2 A1 A2 d Q r1 r2 e k)
theorem pv_ix (hu : X.A.units + 1 < cLine) (ha : PE X a (tR c fa ows ows1 oa q)) (hb : PE X b (tR c fb ows1 ows2 ob true)) (hs : noSl b = true) (sh : shal oa = true) (hK : X.K = c.K) : PE X (.Subscript a b pos) (tV c (op2 ixD fa fb) ows ows2 .fr q) :=
  pe_ok2 ha hb (fun h1 h2 => pe_ix (r := rIxB c.K) (by rw [← hK]; exact ix_all.or (ix_dict hu)) h1 h2 (plainIx hs)) (ok_ixB sh)

/-! ### isinstance, one built-in class -/
def tyN : TY → String
  | .int => "int"
  | .bool => "bool"
  | .str => "str"
  | .list => "list"
  | .tuple => "tuple"
  | .dict => "dict"
  | _ => ""
def dN : D → String
  | .non => "NoneType"
  | .bl _ => "bool"
  | .int _ => "int"
  | .str _ => "str"
  | .tup _ => "tuple"
  | .lst _ => "list"
  | .dct _ _ _ => "dict"
  | _ => ""
def tyPl : TY → Bool
  | .exc _ => false
  | .none => false
  | _ => true
theorem kit_tab {C : Cs} {x : D} {t : TY} {r : Bool} (ht : tyPl t = true) (h : tyIs C x t = some r) : kitB (dN x) (tyN t) = some r ∧ (∀ xs, x ≠ .rol xs) ∧ ∀ n, x ≠ .exc n := by
  cases t <;> first | (cases ht; done) | skip
  all_goals (cases x <;> first | (cases h; done) | skip)
  all_goals (refine ⟨?_, fun _ e => (nomatch e), fun _ e => (nomatch e)⟩; cases h; simp only [dN, tyN]; decide +kernel)
theorem tyx_of {K : PySem.W.Frag} {w : Wd} {x : D} {v : V} {A : AS} (r : RO K w.H w.Z o x v A) (h1 : ∀ xs, x ≠ .rol xs) (h2 : ∀ n, x ≠ .exc n) : TyX K w.H v (.type (dN x)) := by
  cases x with
  | non => rw [r.non]; exact .base .non
  | bl => rw [r.bl]; exact .base (.bl _)
  | int => rw [r.int]; exact .base (.int _)
  | str => rw [r.str]; exact .base (.str _)
  | tup xs =>
    obtain ⟨a, ys, rfl, h, _⟩ := r.tup
    rcases h with (h | ⟨_, h⟩) | ⟨o, _, _, h1, h2, _⟩
    · exact .base (.tup h)
    · exact .fTuple h
    · exact .kTuple h1 h2
  | lst xs =>
    obtain ⟨a, ys, rfl, h, _⟩ := r.lst
    exact .base (.lst h)
  | rol xs => exact absurd rfl (h1 xs)
  | dct t ks vs =>
    obtain ⟨a, xs, rfl, _, h1, _⟩ := (show ∃ a xs', v = V.ref a ∧ _ ∧ DcAt w.H a t ks xs' ∧ _ from r.fz)
    obtain ⟨_, ⟨_, kvs, e1, _⟩ | ⟨_, kvs, e1, _⟩⟩ := h1
    · exact .base (.dK e1)
    · exact .base (.dT e1)
  | exc n => exact absurd rfl (h2 n)
def nmS (x : String) : Str := Str.ofString x
theorem boot_ty {t : TY} (h : tyPl t = true) : bootBuiltins (nmS (tyN t)) = some (.type (tyN t)) := by
  cases t <;> first | (cases h; done) | decide +kernel
theorem pv_isi {C : Cs} {t : TY} {p p2 : Pos} (ht : tyPl t = true) (hg : Gl X "isinstance") (hm : X.mg "isinstance" = none) (hg2 : Gl X (nmS (tyN t))) (hm2 : X.mg (nmS (tyN t)) = none) (hK : X.K = c.K) (hs : noStar a = true) (ha : PE X a (tR c fa ows ows' o q)) :
    PE X (.Call (.Name "isinstance" p) [a, .Name (nmS (tyN t)) p2] [] pos) (tV c (M.bind fa fun x => M.opt ((tyAny C x [t]).map .bl)) ows ows' (.ow .fr) q) := by
  have hn : nmS (tyN t) ≠ "__name__" := by cases t <;> first | (cases ht; done) | decide +kernel
  have hd : (nmS (tyN t) == ("__debug__" : Str)) = false := by cases t <;> first | (cases ht; done) | decide +kernel
  refine wPE (pe_callB call_isi hg hm PyProof.Rows.boot_isinstance (pa_cons ha (pa_cons (pe_bltn hg2 hm2 (boot_ty ht) (v := .ty (tyN t)) rfl hn hd) pa_nil (by rfl)) (star_cons hs)) (by decide) (by decide) (star_cons hs) (by rfl)) fun σ H Q ⟨w, env, hw, sr, z⟩ => ⟨w, env, hw, sr, ?_⟩
  unfold M.bind at z
  cases e1 : fa env with
  | no => rw [e1] at z; exact z
  | ex n env1 => rw [e1] at z; exact z
  | ok x env1 =>
    rw [e1] at z
    intro w1 v A x1 s1 r1 k1
    simp only [tyAny] at z
    cases e2 : tyIs C x t with
    | none => rw [e2] at z; exact z.elim
    | some r =>
      obtain ⟨h1, h2, h3⟩ := kit_tab ht e2
      have z' : ∀ w' v A, Ext w w' → SR c.K c.pn ows' env1 σ w' → RO c.K w'.H w'.Z (.ow .fr) (.bl r) v A → Tmp w w' A → (q = true → Quiet w w') → Q v w'.H := by
        rw [e2] at z
        cases r <;> exact z
      refine ⟨v, .ty (tyN t), _, _, r, rfl, .ty _, by rw [hK]; exact tyx_of r1 h2 h3, kit_ty h1, z' w1 _ _ x1 s1 RO.mkbl Tmp.nil k1⟩

/-! ### built-in functions by name -/
def biN : BI → Str
  | .len => "len"
  | .abs => "abs"
  | .int => "int"
  | .str => "str"
  | .list => "list"
  | .tuple => "tuple"
  | .dict => "dict"
  | .sorted => "sorted"
  | .sum => "sum"
  | .any => "any"
  | .all => "all"
  | .max1 => "max"
  | .min1 => "min"
  | .max2 => "max"
  | .min2 => "min"
  | .bool => "bool"
def biO : BI → Ow
  | .tuple => .fr
  | _ => .ow .fr
def biOk : BI → Bool
  | .dict => false
  | .sorted => false
  | _ => true
def biCalm : BI → Bool
  | .max2 => true
  | .min2 => true
  | .max1 => true
  | .min1 => true
  | .sum => true
  | .any => true
  | .all => true
  | _ => false
theorem pv_bi {k : BI} {e : Expr} {es : List Expr} {fs : M (List D)} {os : List Ow} {p : Pos} (hk : biOk k = true) (hc : biCalm k = true → X.calm = true) (hK : X.K = c.K) (hg : Gl X (biN k)) (hm : X.mg (biN k) = none) (hst : (e :: es).all noStar = true) (ha : PA X (e :: es) (tAR c fs ows ows' os q)) (hs : os.all shal = true) :
    PE X (.Call (.Name (biN k) p) (e :: es) [] pos) (tV c (M.bind fs fun ds => M.opt (bF k ds)) ows ows' (biO k) q) := by
  simp only [List.all_cons, Bool.and_eq_true] at hst
  have h1 := star_cons (es := es) (env := X.env) hst.1
  have h2 := star_any (es := es) (env := X.env) (pos := pos) hst.2
  have sh2 : os.all anyO = true := List.all_eq_true.mpr fun _ _ => rfl
  cases k with
  | len => exact pv_okN (r := rLenA c.K) (fun h => pe_callB (by rw [← hK]; exact call_lenA) hg hm boot_len h (by decide) (by decide) h1 h2) ha ok_len sh2
  | abs => exact pv_okN (fun h => pe_callB call_abs hg hm boot_abs h (by decide) (by decide) h1 h2) ha ok_abs sh2
  | int => exact pv_okN (fun h => pe_callTy call_int1 hg hm PyProof.Rows.boot_int h (by decide) (by decide) h1 h2) ha ok_int sh2
  | bool => exact pv_okN (fun h => pe_callTy call_bool1 hg hm PyProof.Rows.boot_bool h (by decide) (by decide) h1 h2) ha ok_bool sh2
  | str => exact pv_okN (fun h => pe_callTy call_str_int hg hm PyProof.Rows.boot_str h (by decide) (by decide) h1 h2) ha ok_str sh2
  | list => exact pv_okN (r := rListA c.K) (fun h => pe_callTy (by rw [← hK]; exact call_list_of) hg hm PyProof.Rows.boot_list h (by decide) (by decide) h1 h2) ha ok_list hs
  | tuple => exact pv_okN (r := rTupleA c.K) (fun h => pe_callTy (by rw [← hK]; exact call_tuple_of) hg hm PyProof.Rows.boot_tuple h (by decide) (by decide) h1 h2) ha ok_tuple hs
  | dict => cases hk
  | sorted => cases hk
  | sum => exact pv_okN (r := rSum c.K) (fun h => pe_callB (by rw [← hK]; exact cr_sum (hc rfl)) hg hm PyProof.Rows.boot_sum h (by decide) (by decide) h1 h2) ha ok_sum hs
  | any => exact pv_okN (r := rAny c.K) (fun h => pe_callB (by rw [← hK]; exact cr_any (hc rfl)) hg hm PyProof.Rows.boot_any h (by decide) (by decide) h1 h2) ha ok_any hs
  | all => exact pv_okN (r := rAll c.K) (fun h => pe_callB (by rw [← hK]; exact cr_all (hc rfl)) hg hm PyProof.Rows.boot_all h (by decide) (by decide) h1 h2) ha ok_all hs
  | max1 => exact pv_okN (r := rMax c.K) (fun h => pe_callB (by rw [← hK]; exact cr_max (hc rfl)) hg hm PyProof.Rows.boot_max h (by decide) (by decide) h1 h2) ha ok_max1 hs
  | min1 => exact pv_okN (r := rMin c.K) (fun h => pe_callB (by rw [← hK]; exact cr_min (hc rfl)) hg hm PyProof.Rows.boot_min h (by decide) (by decide) h1 h2) ha ok_min1 hs
  | max2 => exact pv_okN (fun h => pe_callB (call_max2 (hc rfl)) hg hm PyProof.Rows.boot_max h (by decide) (by decide) h1 h2) ha ok_max2 sh2
  | min2 => exact pv_okN (fun h => pe_callB (call_min2 (hc rfl)) hg hm PyProof.Rows.boot_min h (by decide) (by decide) h1 h2) ha ok_min2 sh2

/-! ### l.index(x) -/
theorem toPs_get : ∀ {ys : List D} {j : Nat}, (D.toPs ys)[j]? = (ys[j]?).map D.toP
  | [], j => by simp [D.toPs]
  | y :: ys, 0 => by simp [D.toPs]
  | y :: ys, j + 1 => by simp only [D.toPs, List.getElem?_cons_succ]; exact toPs_get
theorem idxOf_at : ∀ {ys : List D} {x : D} {k0 k : Nat}, idxOf ys x k0 = some k → ∃ j z, k = k0 + j ∧ ys[j]? = some z ∧ PyData.eqv z.toP x.toP = true ∧ ∀ (m : Nat) (z' : D), m < j → ys[m]? = some z' → PyData.eqv z'.toP x.toP = false
  | [], _, _, _, h => by cases h
  | y :: ys, x, k0, k, h => by
    unfold idxOf at h
    split at h
    · rename_i hy
      cases h
      exact ⟨0, y, rfl, rfl, hy, fun m z' hm => absurd hm (Nat.not_lt_zero m)⟩
    · rename_i hy
      obtain ⟨j, z, e1, e2, e3, e4⟩ := idxOf_at h
      refine ⟨j + 1, z, by omega, by simpa using e2, e3, fun m z' hm e => ?_⟩
      cases m with
      | zero =>
        simp at e
        subst e
        simpa using hy
      | succ m => exact e4 m z' (by omega) (by simpa using e)
theorem pv_index {b e : Expr} {fb fe : M D} {apos cpos : Pos} (hu : X.A.units + 65 < cLine) (hK : X.K = c.K) (hpb : plainB b = true) (hline : (apos.endLine == cpos.line) = true) (hs : noStar e = true) (hb : PE X b (tR c fb ows ows1 oa q)) (he : PE X e (tR c fe ows1 ows2 ob true)) :
    PE X (.Call (.Attribute b "index" apos) [e] [] cpos) (tV c (M.bind fb fun x => if meOk .index x = true then M.bind (M.bind fe fun d => M.bind (M.ret []) fun ds => M.ret (d :: ds)) fun ds => M.opt (meF .index x ds) else fun _ => .no) ows ows2 (.ow .fr) q) := by
  refine wPE (pe_bm PySem.F.plainAttrs_list PySem.F.slot_list_index PySem.F.type_list_index (r := rIndexD c.K) (by rw [← hK]; exact mt_indexD hu) hb (pa_cons he pa_nil (star_cons hs)) (base_of hpb) (few1 hs) hline (star_cons hs) rfl) fun σ H Q ⟨w, env, hw, sr, z⟩ => ⟨w, env, hw, sr, ?_⟩
  unfold M.bind at z
  cases e1 : fb env with
  | no => rw [e1] at z; exact z
  | ex n env1 => rw [e1] at z; exact z
  | ok l env1 =>
    rw [e1] at z
    intro w1 v1 A1 x1 s1 r1 k1
    simp only at z
    by_cases hm : meOk .index l = true
    · rw [if_pos hm] at z
      have hl : ∃ ys, l = .lst ys := by cases l <;> simp [meOk] at hm; exact ⟨_, rfl⟩
      obtain ⟨ys, rfl⟩ := hl
      obtain ⟨a, us, rfl, hl1, _⟩ := r1.lst
      refine ⟨by rw [hK]; exact .inl ⟨rfl, us, SqL.of hl1⟩, w1, env1, rfl, s1, ?_⟩
      cases e2 : fe env1 with
      | no => rw [e2] at z; exact z
      | ex n env2 => rw [e2] at z; exact exK.mono x1 z
      | ok d env2 =>
        rw [e2] at z
        intro w2 v2 A2 x2 s2 r2 k2
        have r1' : RO c.K w2.H w2.Z oa (.lst ys) (.ref a) A1 := r1.keep x2.z fun a q e _ => k2 rfl a q e
        simp only [M.ret, M.opt] at z
        have em : meF .index (.lst ys) [d] = if d.shp && (D.lst ys).shp then (idxOf ys d 0).map fun (k : Nat) => D.int k else none := rfl
        by_cases hsh : (d.shp && (D.lst ys).shp) = true
        · rw [em, if_pos hsh] at z
          simp only [Bool.and_eq_true] at hsh
          cases ei : idxOf ys d 0 with
          | none => rw [ei] at z; exact z.elim
          | some k =>
            rw [ei] at z
            obtain ⟨j, zz, rfl, g1, g2, g3⟩ := idxOf_at ei
            refine ⟨a, v2, d.toP, D.toPs ys, j, zz.toP, rfl, rfl, r1'.dp hsh.2, r2.dp hsh.1, hsh.2, hsh.1, by rw [toPs_get, g1]; rfl, g2, fun m z' hm e => ?_, ?_⟩
            · rw [toPs_get] at e
              obtain ⟨y', e1, rfl⟩ := Option.map_eq_some_iff.mp e
              exact g3 m y' hm e1
            · rw [Nat.zero_add] at z
              exact z w2 _ _ (x1.trans x2) s2 RO.mkint Tmp.nil fun h => fun a b e => k2 rfl a b (k1 h a b e)
        · rw [em, if_neg hsh] at z; exact z.elim
    · rw [if_neg hm] at z; exact z.elim
/-! ### tests -/
theorem pt_ok2 {op : CmpOp} {k : CO} {r : R2} (ho : OpR X (compareOp op) r) (k2 : Ok2 c.K (cmpM k) (.ow .fr) r oa ob) (ha : PE X a (tR c fa ows ows1 oa q)) (hb : PE X b (tR c fb ows1 ows2 ob true)) (hm : behindInMarks op b = false) :
    PT X (.Compare a [op] [b] pos) (tB_ c (truthM (op2 (cmpM k) fa fb)) ows ows2 q) := by
  refine pt_bool (pt_cmpR ho ha hb hm) (ok2_imp k2) fun env d env' e => ?_
  unfold op2 M.bind at e
  cases e1 : fa env with
  | no => rw [e1] at e; cases e
  | ex => rw [e1] at e; cases e
  | ok x env1 =>
    rw [e1] at e
    simp only at e
    cases e2 : fb env1 with
    | no => rw [e2] at e; cases e
    | ex => rw [e2] at e; cases e
    | ok y env2 =>
      rw [e2] at e
      simp only [M.opt, cmpM] at e
      cases e3 : cmpD k x y with
      | none => rw [e3] at e; cases e
      | some r => rw [e3] at e; cases e; exact ⟨r, rfl⟩
theorem chM_bl {oc oc' : CO} {env env' : Env} {d : D} (e : chM oc oc' fa fb fd env = .ok d env') : ∃ b, d = .bl b := by
  unfold chM M.bind at e
  cases e1 : fa env with
  | no => rw [e1] at e; cases e
  | ex => rw [e1] at e; cases e
  | ok x env1 =>
    rw [e1] at e
    simp only at e
    cases e2 : fb env1 with
    | no => rw [e2] at e; cases e
    | ex => rw [e2] at e; cases e
    | ok y env2 =>
      rw [e2] at e
      simp only [M.opt] at e
      cases e3 : cmpD oc x y with
      | none => rw [e3] at e; cases e
      | some r =>
        rw [e3] at e
        cases r with
        | false => cases e; exact ⟨false, rfl⟩
        | true =>
          simp only [if_true] at e
          cases e4 : fd env2 with
          | no => rw [e4] at e; cases e
          | ex => rw [e4] at e; cases e
          | ok z env3 =>
            rw [e4] at e
            simp only at e
            cases e5 : cmpD oc' y z with
            | none => rw [e5] at e; cases e
            | some r => rw [e5] at e; cases e; exact ⟨r, rfl⟩
/-- no mark behind in -/
def noSet : Expr → Bool
  | .Set _ _ _ => false
  | _ => true
theorem noMarks {op : CmpOp} {b : Expr} (h : noSet b = true) : behindInMarks op b = false := by
  cases b <;> first | rfl | cases h
/-- no own rule as a test -/
def plainT : Expr → Bool
  | .UnaryOp _ _ _ => false
  | .BoolOp _ _ _ => false
  | .IfExp _ _ _ _ => false
  | .Compare _ _ _ _ => false
  | _ => true
theorem plainT_ok {e : Expr} {env : PySem.Env} (h : plainT e = true) : ∀ whole, isTrue e env whole = (do let v ← whole; standAt e.pos; holding [v] (truthy v)) := by
  intro whole
  cases e <;> first | rfl | cases h
end
end Mp
/-! Mp14: the checker of expressions. -/
namespace Mp
open PySem PySem.Spec PyProof.Rows L2

/-! ### views -/
def vBin : Expr → Option (Expr × Operator × Expr)
  | .BinOp a k b _ => some (a, k, b)
  | _ => none
theorem vBin_eq {e : Expr} {r : Expr × Operator × Expr} (h : vBin e = some r) : ∃ p, e = .BinOp r.1 r.2.1 r.2.2 p := by
  unfold vBin at h
  split at h
  · cases h; exact ⟨_, rfl⟩
  · cases h
def vUn : Expr → Option (UnaryOp × Expr)
  | .UnaryOp k a _ => some (k, a)
  | _ => none
theorem vUn_eq {e : Expr} {r : UnaryOp × Expr} (h : vUn e = some r) : ∃ p, e = .UnaryOp r.1 r.2 p := by
  unfold vUn at h
  split at h
  · cases h; exact ⟨_, rfl⟩
  · cases h
def vCmp : Expr → Option (Expr × CmpOp × Expr)
  | .Compare a [k] [b] _ => some (a, k, b)
  | _ => none
theorem vCmp_eq {e : Expr} {r : Expr × CmpOp × Expr} (h : vCmp e = some r) : ∃ p, e = .Compare r.1 [r.2.1] [r.2.2] p := by
  unfold vCmp at h
  split at h
  · cases h; exact ⟨_, rfl⟩
  · cases h
def vCh : Expr → Option (Expr × CmpOp × CmpOp × Expr × Expr)
  | .Compare a [k, l] [b, d] _ => some (a, k, l, b, d)
  | _ => none
theorem vCh_eq {e : Expr} {r : Expr × CmpOp × CmpOp × Expr × Expr} (h : vCh e = some r) : ∃ p, e = .Compare r.1 [r.2.1, r.2.2.1] [r.2.2.2.1, r.2.2.2.2] p := by
  unfold vCh at h
  split at h
  · cases h; exact ⟨_, rfl⟩
  · cases h
def vBool : Expr → Option (BoolOp × List Expr)
  | .BoolOp k es _ => some (k, es)
  | _ => none
theorem vBool_eq {e : Expr} {r : BoolOp × List Expr} (h : vBool e = some r) : ∃ p, e = .BoolOp r.1 r.2 p := by
  unfold vBool at h
  split at h
  · cases h; exact ⟨_, rfl⟩
  · cases h
def vIf : Expr → Option (Expr × Expr × Expr)
  | .IfExp c a b _ => some (c, a, b)
  | _ => none
theorem vIf_eq {e : Expr} {r : Expr × Expr × Expr} (h : vIf e = some r) : ∃ p, e = .IfExp r.1 r.2.1 r.2.2 p := by
  unfold vIf at h
  split at h
  · cases h; exact ⟨_, rfl⟩
  · cases h
def vLst : Expr → Option (List Expr)
  | .List es _ => some es
  | _ => none
theorem vLst_eq {e : Expr} {r : List Expr} (h : vLst e = some r) : ∃ p, e = .List r p := by
  unfold vLst at h
  split at h
  · cases h; exact ⟨_, rfl⟩
  · cases h
def vSub : Expr → Option (Expr × Expr)
  | .Subscript a b _ => some (a, b)
  | _ => none
theorem vSub_eq {e : Expr} {r : Expr × Expr} (h : vSub e = some r) : ∃ p, e = .Subscript r.1 r.2 p := by
  unfold vSub at h
  split at h
  · cases h; exact ⟨_, rfl⟩
  · cases h
def vSl : Expr → Option (Expr × Option Expr × Option Expr)
  | .Subscript a (.Slice lo hi none _) _ => some (a, lo, hi)
  | _ => none
theorem vSl_eq {e : Expr} {r : Expr × Option Expr × Option Expr} (h : vSl e = some r) : ∃ p p2, e = .Subscript r.1 (.Slice r.2.1 r.2.2 none p2) p := by
  unfold vSl at h
  split at h
  · cases h; exact ⟨_, _, rfl⟩
  · cases h
/-- f(e, ..) -/
def vCall : Expr → Option (Str × Expr × List Expr)
  | .Call (.Name f _) (e :: es) [] _ => some (f, e, es)
  | _ => none
theorem vCall_eq {e : Expr} {r : Str × Expr × List Expr} (h : vCall e = some r) : ∃ p p2, e = .Call (.Name r.1 p) (r.2.1 :: r.2.2) [] p2 := by
  unfold vCall at h
  split at h
  · cases h; exact ⟨_, _, rfl⟩
  · cases h
/-- o.m(e) -/
def vM1 : Expr → Option (Expr × Str × Pos × Expr × Pos)
  | .Call (.Attribute b m ap) [e] [] cp => some (b, m, ap, e, cp)
  | _ => none
theorem vM1_eq {e : Expr} {r : Expr × Str × Pos × Expr × Pos} (h : vM1 e = some r) : e = .Call (.Attribute r.1 r.2.1 r.2.2.1) [r.2.2.2.1] [] r.2.2.2.2 := by
  unfold vM1 at h
  split at h
  · cases h; rfl
  · cases h
def vConst : Expr → Option Const
  | .Constant k _ _ => some k
  | _ => none
theorem vConst_eq {e : Expr} {r : Const} (h : vConst e = some r) : ∃ j p, e = .Constant r j p := by
  unfold vConst at h
  split at h
  · cases h; exact ⟨_, _, rfl⟩
  · cases h

/-! ### more rules -/
section
variable {X : Cx} {c : Cc} {f g fa fb fd : M D} {ows ows1 ows2 ows' ows'' : Ows} {o o1 o2 oa ob od : Ow} {q q1 q2 : Bool} {e pe a b d : Expr} {pos : Pos}
theorem pv_weak (h : PE X e (tV c f ows ows' o q)) (hw : weakB 0 ows' ows'' = true) : PE X e (tV c f ows ows'' o q) := wPE h fun σ H Q ⟨w, env, hw', sr, z⟩ => ⟨w, env, hw', sr, by
  cases e1 : f env with
  | no => rw [e1] at z; exact z
  | ex n env1 => rw [e1] at z; exact z
  | ok d env1 =>
    rw [e1] at z
    intro w1 v A x1 s1 r1 t1 k1
    obtain ⟨w2, x2, eh, s2⟩ := s1.weak hw
    have := z w2 v A (x1.trans x2) s2 (RO.ext s1 t1.f x2 r1) (Tmp.ext s1 t1 (fun a ha => r1.ne a ha) x1 x2) fun h => by
      intro a b e
      rw [eh]
      exact k1 h a b e
    rw [eh] at this
    exact this⟩
/-- a value that hangs on nothing, looked at, may be kept -/
theorem look_fr (h : PE X e (tR c f ows ows' .fr q)) : PE X e (tV c f ows ows' .fr q) := wPE h fun σ H Q ⟨w, env, hw', sr, z⟩ => ⟨w, env, hw', sr, by
  cases e1 : f env with
  | no => rw [e1] at z; exact z
  | ex n env1 => rw [e1] at z; exact z
  | ok d env1 =>
    rw [e1] at z
    intro w1 v A x1 s1 r1 k1
    exact z w1 v A x1 s1 r1 ⟨fun a ha => absurd ha (r1.2 a), fun a i ha => absurd ha (r1.2 a), fun a ha => absurd ha (r1.2 a)⟩ k1⟩
theorem pv_neg (ha : PE X a (tR c fa ows ows' o1 q)) : PE X (.UnaryOp .USub a pos) (tV c (op1 negD fa) ows ows' (.ow .fr) q) := by
  refine wPE (pe_un un_neg ha) fun σ H Q ⟨w, env, hw, sr, z⟩ => ⟨w, env, hw, sr, ?_⟩
  unfold op1 M.bind at z
  cases e1 : fa env with
  | no => rw [e1] at z; exact z
  | ex n env1 => rw [e1] at z; exact z
  | ok d env1 =>
    rw [e1] at z
    intro w1 v A x1 s1 r1 k1
    cases d with
    | int i => exact ⟨i, r1.int, z w1 _ _ x1 s1 RO.mkint Tmp.nil k1⟩
    | _ => exact z.elim
theorem pv_cmp {k : CO} (hK : X.K = c.K) (hu : X.A.units + 66 < cLine) (ha : PE X a (tR c fa ows ows1 oa q)) (hb : PE X b (tR c fb ows1 ows2 ob true)) (hm : noSet b = true) : PE X (.Compare a [opC k] [b] pos) (tV c (op2 (cmpM k) fa fb) ows ows2 (.ow .fr) q) := by
  obtain ⟨r, h1, h2⟩ := cmp_rule hK hu k
  exact (pe_ok2 ha hb (fun p1 p2 => pe_cmpR h1 p1 p2 (noMarks hm)) (h2 oa ob))
theorem pt_cmp' {k : CO} (hK : X.K = c.K) (hu : X.A.units + 66 < cLine) (ha : PE X a (tR c fa ows ows1 oa q)) (hb : PE X b (tR c fb ows1 ows2 ob true)) (hm : noSet b = true) : PT X (.Compare a [opC k] [b] pos) (tB_ c (truthM (op2 (cmpM k) fa fb)) ows ows2 q) := by
  obtain ⟨r, h1, h2⟩ := cmp_rule hK hu k
  exact pt_ok2 h1 (h2 oa ob) ha hb (noMarks hm)
theorem lastM {op op' : CmpOp} {b d : Expr} (h : noSet d = true) : lastMarks [op, op'] [b, d] = false := by
  show lastMarks [op'] [d] = false
  show behindInMarks op' d = false
  exact noMarks h
theorem pv_ch' {k l : CO} (hK : X.K = c.K) (hu : X.A.units + 66 < cLine) (ha : PE X a (tR c fa ows ows1 oa q)) (hb : PE X b (tR c fb ows1 ows2 ob true)) (hd : PE X d (tR c fd ows2 ows2 od true)) (hm : noSet d = true) : PE X (.Compare a [opC k, opC l] [b, d] pos) (tV c (chM k l fa fb fd) ows ows2 (.ow .fr) q) := by
  obtain ⟨r, h1, h2⟩ := cmp_rule hK hu k
  obtain ⟨r', h1', h2'⟩ := cmp_rule hK hu l
  exact (wPE (pe_chain h1 h1' ha hb hd (lastM hm)) (ch_imp (h2 oa ob) (h2' ob od)))
theorem pt_ch' {k l : CO} (hK : X.K = c.K) (hu : X.A.units + 66 < cLine) (ha : PE X a (tR c fa ows ows1 oa q)) (hb : PE X b (tR c fb ows1 ows2 ob true)) (hd : PE X d (tR c fd ows2 ows2 od true)) (hm : noSet d = true) : PT X (.Compare a [opC k, opC l] [b, d] pos) (tB_ c (truthM (chM k l fa fb fd)) ows ows2 q) := by
  obtain ⟨r, h1, h2⟩ := cmp_rule hK hu k
  obtain ⟨r', h1', h2'⟩ := cmp_rule hK hu l
  exact pt_bool (pt_chain h1 h1' ha hb hd (lastM hm)) (ch_imp (h2 oa ob) (h2' ob od)) fun env d env' e => chM_bl e
end

/-! ### what the checker knows -/
structure Sg where
  N : List Str
  sc : Scope
  pins : List Nat
  pinw : List Nat
  calm : Bool
  calls : Bool
  tr : Bool
  fnl : Str → Bool
  gl : Str → Bool
  fn : Str → Option (Nat × Ow)
  exc : Str → Bool
  es : Option Nat
  x : Ows
  r : Ows
  ro : Ow
def Sg.vis (S : Sg) (x : Str) : Bool := match S.sc.names.lookup x with
  | some .local => true
  | some .cell => true
  | some .free => true
  | _ => false
def Sg.glo (S : Sg) (x : Str) : Bool := match S.sc.names.lookup x with
  | some .globalImplicit => true
  | _ => false
def Sg.loc (S : Sg) (x : Str) : Bool := match S.sc.names.lookup x with
  | some .local => true
  | some .cell => S.fnl x
  | _ => false
def noDbg (x : Str) : Bool := !(x == ("__debug__" : Str)) && !(x == ("__classdict__" : Str))
/-- built-in names that are the program's nowhere -/
def bltNames : List Str := ["len", "abs", "int", "str", "list", "tuple", "dict", "sorted", "sum", "any", "all", "max", "min", "bool", "isinstance", "range", "enumerate", "zip", "reversed", "set", "ValueError"]
structure GOk (X : Cx) (c : Cc) (C : Cs) (S : Sg) : Prop where
  N : X.N = S.N
  sc : X.env.scope = S.sc
  K : X.K = c.K
  nd : X.N.Nodup
  hu : X.A.units + 66 < cLine
  calm : S.calm = true → X.calm = true
  pas : S.calm = true → PassesOwn (model X.prog X.w) X.A X.env X.xe
  tkc : S.calls = true → S.calm = true
  blt : ∀ x, x ∈ bltNames → X.mg x = none
  gl : ∀ x, S.gl x = true → ∃ d v u, X.mg x = some u ∧ L2.RelV v u ∧ C.gl x = some d ∧ ∀ H Z, Rep c.K H Z d v
  fn : S.calls = true → Takes X c.W ∧ ∀ f np ro, S.fn f = some (np, ro) → ∃ k fa fd pnames, FnOk X.prog X.w X.K X.mg X.base (L2.CX X.prog X.w) k fa fd pnames (spOf c.K (C.cl f) [] ro np) ∧ Room k X.A ∧ X.mg f = some (.ref fa) ∧ PySem.W.keepIn X.K (.ref fa) = true ∧ Binds X.K fd pnames []
  exc : ∀ x, S.exc x = true → X.mg x = some (.ref (He.ga c.K x)) ∧ PySem.W.keepIn X.K (.ref (He.ga c.K x)) = true ∧ Raises X (.ref (He.ga c.K x)) ∧ ∃ B newId initId bmB, ExcBaseFacts B newId initId bmB ∧ PySem.W.excIn X.K (He.ga c.K x) bmB newId = true
  exm : ∀ x y, S.exc x = true → S.exc y = true → PySem.W.exmOne X.K (.ref (He.ga c.K x)) (.ref (He.ga c.K y)) = some (C.sub x y)
  exx : ∀ x, C.isx x = true → S.exc x = true
  kx : ∀ x y, S.exc x = true → S.exc y = true → PySem.W.kitOne X.K (.ref (He.ga c.K x)) (.ref (He.ga c.K y)) = some (C.sub x y)
  kv : ∀ x, S.exc x = true → PySem.W.kitOne X.K (.ref (He.ga c.K x)) (.type "ValueError") = some (C.sub x "ValueError")
  ec : ∀ x, S.exc x = true → ExcC X.K (He.ga c.K x)
  fnl : ∀ x, S.fnl x = true → X.fn x = true
  kd : X.env.scope.kind = .function
  stk : S.tr = true → X.stack = X.env :: X.outer ∧ X.env.frame = some X.env.locals
  es : ∀ i, S.es = some i → ∃ a n, S.exc n = true ∧ c.pn i = some (.ref a, some (.exc n)) ∧ CallR X (.builtin "isinstance") (rIsE X.K (He.ga c.K n) a)
  x : c.x = S.x
  r : c.r = S.r
  ro : c.ro = S.ro
  pn : ∀ i, i ∉ S.pins → c.pn i = none
  pw : ∀ i, i ∉ S.pinw → ∀ p, c.pn i = some p → p.2 = none
section
variable {X : Cx} {c : Cc} {C : Cs} {S : Sg}
theorem GOk.vis (G : GOk X c C S) {x : Str} (h : S.vis x = true) : Vis X.env.scope x := by
  unfold Vis
  rw [G.sc]
  unfold Sg.vis at h
  split at h
  · rename_i e; exact .inl e
  · rename_i e; exact .inr (.inl e)
  · rename_i e; exact .inr (.inr e)
  · cases h
theorem GOk.loc (G : GOk X c C S) : LocB X S.loc := fun x h => by
  unfold L2.Loc
  rw [G.sc]
  unfold Sg.loc at h
  split at h
  · rename_i e; exact ⟨.inl e, .inr e⟩
  · rename_i e; exact ⟨.inr e, .inl (G.fnl x h)⟩
  · cases h
theorem GOk.glo (G : GOk X c C S) {x : Str} (h : S.glo x = true) : Gl X x := by
  show X.env.scope.names.lookup x = some .globalImplicit
  rw [G.sc]
  unfold Sg.glo at h
  split at h
  · rename_i e; exact e
  · cases h
end
end Mp
/-! Mp15: the checker of expressions, and that it is right. -/
namespace Mp
open PySem PySem.Spec PyProof.Rows L2

abbrev VR := Option (Ows × Ow × Bool)
abbrev TR := Option (Ows × Bool)
structure Ck where
  v : Expr → Ows → VR
  r : Expr → Ows → VR
  t : Expr → Ows → TR
instance : Inhabited Ck := ⟨⟨fun _ _ => none, fun _ _ => none, fun _ _ => none⟩⟩
def CkOk (S : Sg) (C : Cs) (k : Ck) (p : M D × M Bool) : Prop := ∀ (X : Cx) (c : Cc), GOk X c C S →
  (∀ pe ows r, k.v pe ows = some r → PE X pe (tV c p.1 ows r.1 r.2.1 r.2.2)) ∧ (∀ pe ows r, k.r pe ows = some r → PE X pe (tR c p.1 ows r.1 r.2.1 r.2.2)) ∧ (∀ pe ows r, k.t pe ows = some r → PT X pe (tB_ c p.2 ows r.1 r.2))
/-- lists of these -/
def CksOk (S : Sg) (C : Cs) : List Ck → List (M D × M Bool) → Prop
  | [], [] => True
  | k :: ks, p :: ps => CkOk S C k p ∧ CksOk S C ks ps
  | _, _ => False
/-- the truth of a looked-at value -/
def mkT (r : Expr → Ows → VR) : Expr → Ows → TR := fun pe ows => if plainT pe = true then (match r pe ows with
  | some x => some (x.1, x.2.2)
  | none => none) else none
def mkV (v : Expr → Ows → VR) : Ck := ⟨v, v, mkT v⟩
section
variable {S : Sg} {C : Cs} {f : M D}
theorem mkT_ok {r : Expr → Ows → VR} {X : Cx} {c : Cc} (G : GOk X c C S) (h : ∀ pe ows x, r pe ows = some x → PE X pe (tR c f ows x.1 x.2.1 x.2.2)) : ∀ pe ows x, mkT r pe ows = some x → PT X pe (tB_ c (truthM f) ows x.1 x.2) := by
  intro pe ows x e
  unfold mkT at e
  split at e
  · rename_i hp
    split at e
    · rename_i y ey
      cases e
      exact pt_look (h pe ows y ey) (plainT_ok hp) G.K
    · cases e
  · cases e
theorem mkV_ok {v : Expr → Ows → VR} (h : ∀ X c, GOk X c C S → ∀ pe ows x, v pe ows = some x → PE X pe (tV c f ows x.1 x.2.1 x.2.2)) : CkOk S C (mkV v) (val f) := fun X c G =>
  ⟨h X c G, fun pe ows x e => look_of (h X c G pe ows x e), mkT_ok G fun pe ows x e => look_of (h X c G pe ows x e)⟩
end

/-! ### lists -/
/-- kept, frozen -/
def ckAV : List Ck → List Expr → Ows → Option (Ows × Bool)
  | [], [], ows => some (ows, true)
  | k :: ks, e :: es, ows => if noStar e = true then (match k.v e ows with
    | some a => (match ckAV ks es a.1 with
      | some b => some (b.1, a.2.2 && b.2)
      | none => none)
    | none => none) else none
  | _, _, _ => none
/-- looked at; the later ones change nothing -/
def ckAR : List Ck → List Expr → Ows → Option (Ows × List Ow × Bool)
  | [], [], ows => some (ows, [], true)
  | k :: ks, e :: es, ows => if noStar e = true then (match k.r e ows with
    | some a => (match ckAR ks es a.1 with
      | some b => if b.2.2 = true then some (b.1, a.2.1 :: b.2.1, a.2.2) else none
      | none => none)
    | none => none) else none
  | _, _, _ => none
section
variable {S : Sg} {C : Cs} {X : Cx} {c : Cc}
theorem ckAV_ok (G : GOk X c C S) : ∀ {ks : List Ck} {ps : List (M D × M Bool)} {es : List Expr} {ows : Ows} {r : Ows × Bool}, CksOk S C ks ps → ckAV ks es ows = some r → PA X es (tAV c (evs ps) ows r.1 r.2) ∧ es.all noStar = true ∧ es.length = ps.length
  | [], [], [], ows, r, _, h => by cases h; exact ⟨av_nil, rfl, rfl⟩
  | k :: ks, p :: ps, e :: es, ows, r, hk, h => by
    unfold ckAV at h
    split at h
    · rename_i hs
      split at h
      · rename_i a ea
        split at h
        · rename_i b eb
          cases h
          obtain ⟨i1, i2, i3⟩ := ckAV_ok G hk.2 eb
          exact ⟨av_cons hs (keep_fr ((hk.1 X c G).1 e ows a ea)) i1, by simp [hs, i2], by simp [i3]⟩
        · cases h
      · cases h
    · cases h
  | [], _ :: _, _, _, _, hk, _ => hk.elim
  | _ :: _, [], _, _, _, hk, _ => hk.elim
  | [], [], _ :: _, _, _, _, h => by cases h
  | _ :: _, _ :: _, [], _, _, _, h => by cases h
theorem ckAR_ok (G : GOk X c C S) : ∀ {ks : List Ck} {ps : List (M D × M Bool)} {es : List Expr} {ows : Ows} {r : Ows × List Ow × Bool}, CksOk S C ks ps → ckAR ks es ows = some r → PA X es (tAR c (evs ps) ows r.1 r.2.1 r.2.2) ∧ es.all noStar = true ∧ es.length = ps.length
  | [], [], [], ows, r, _, h => by cases h; exact ⟨ar_nil, rfl, rfl⟩
  | k :: ks, p :: ps, e :: es, ows, r, hk, h => by
    unfold ckAR at h
    split at h
    · rename_i hs
      split at h
      · rename_i a ea
        split at h
        · rename_i b eb
          split at h
          · rename_i hq
            cases h
            obtain ⟨i1, i2, i3⟩ := ckAR_ok G hk.2 eb
            rw [hq] at i1
            exact ⟨ar_cons hs ((hk.1 X c G).2.1 e ows a ea) i1, by simp [hs, i2], by simp [i3]⟩
          · cases h
        · cases h
      · cases h
    · cases h
  | [], _ :: _, _, _, _, hk, _ => hk.elim
  | _ :: _, [], _, _, _, hk, _ => hk.elim
  | [], [], _ :: _, _, _, _, h => by cases h
  | _ :: _, _ :: _, [], _, _, _, h => by cases h
theorem evs_len : ∀ {ps : List (M D × M Bool)} {env env' : Env} {ds : List D}, evs ps env = .ok ds env' → ds.length = ps.length
  | [], _, _, _, h => by cases h; rfl
  | p :: ps, env, env', ds, h => by
    unfold evs M.bind at h
    cases e1 : p.1 env with
    | no => rw [e1] at h; cases h
    | ex => rw [e1] at h; cases h
    | ok d env1 =>
      rw [e1] at h
      simp only at h
      cases e2 : evs ps env1 with
      | no => rw [e2] at h; cases h
      | ex => rw [e2] at h; cases h
      | ok ds2 env2 =>
        rw [e2] at h
        cases h
        simp [evs_len e2]

/-! ### and, or -/
def ckBT : List Ck → List Expr → Ows → TR
  | [k], [e], ows => k.t e ows
  | k :: ks, e :: es, ows => match k.t e ows with
    | some a => (match ckBT ks es a.1 with
      | some b => if weakB 0 a.1 b.1 = true then some (b.1, a.2 && b.2) else none
      | none => none)
    | none => none
  | _, _, _ => none
def ckBV : List Ck → List Expr → Ows → VR
  | [k], [e], ows => k.v e ows
  | k :: ks, e :: es, ows => match k.r e ows with
    | some a => (match ckBV ks es a.1 with
      | some b => if weakB 0 a.1 b.1 = true then some (b.1, b.2.1, a.2.2 && b.2.2) else none
      | none => none)
    | none => none
  | _, _, _ => none
theorem andT_ok (G : GOk X c C S) : ∀ {ks : List Ck} {ps : List (M D × M Bool)} {es : List Expr} {ows : Ows} {r : Ows × Bool} {pos : Pos}, CksOk S C ks ps → ckBT ks es ows = some r → PW X (.BoolOp .And es pos) (tB_ c (andT ps) ows r.1 r.2)
  | [k], [p], [e], ows, r, pos, hk, h => pw_and1 ((hk.1 X c G).2.2 e ows r h)
  | k :: k2 :: ks, p :: p2 :: ps, e :: e2 :: es, ows, r, pos, hk, h => by
    unfold ckBT at h
    split at h
    · rename_i a ea
      split at h
      · rename_i b eb
        split at h
        · rename_i he
          cases h
          exact andB_cons ((hk.1 X c G).2.2 e ows a ea) (andT_ok (pos := pos) G hk.2 eb) he
        · cases h
      · cases h
    · cases h
  | [], [], _, _, _, _, _, h => by cases h
  | [_], [_], [], _, _, _, _, h => by cases h
  | [_], [_], _ :: _ :: _, _, _, _, _, h => by
    unfold ckBT at h
    split at h
    · simp [ckBT] at h
    · cases h
  | _ :: _ :: _, _ :: _ :: _, [], _, _, _, _, h => by cases h
  | _ :: _ :: _, _ :: _ :: _, [_], _, _, _, _, h => by
    unfold ckBT at h
    split at h
    · simp [ckBT] at h
    · cases h
  | [], _ :: _, _, _, _, _, hk, _ => hk.elim
  | _ :: _, [], _, _, _, _, hk, _ => hk.elim
  | [_], _ :: _ :: _, _, _, _, _, hk, _ => hk.2.elim
  | _ :: _ :: _, [_], _, _, _, _, hk, _ => hk.2.elim
theorem orT_ok (G : GOk X c C S) : ∀ {ks : List Ck} {ps : List (M D × M Bool)} {es : List Expr} {ows : Ows} {r : Ows × Bool} {pos : Pos}, CksOk S C ks ps → ckBT ks es ows = some r → PW X (.BoolOp .Or es pos) (tB_ c (orT ps) ows r.1 r.2)
  | [k], [p], [e], ows, r, pos, hk, h => pw_or1 ((hk.1 X c G).2.2 e ows r h)
  | k :: k2 :: ks, p :: p2 :: ps, e :: e2 :: es, ows, r, pos, hk, h => by
    unfold ckBT at h
    split at h
    · rename_i a ea
      split at h
      · rename_i b eb
        split at h
        · rename_i he
          cases h
          exact orB_cons ((hk.1 X c G).2.2 e ows a ea) (orT_ok (pos := pos) G hk.2 eb) he
        · cases h
      · cases h
    · cases h
  | [], [], _, _, _, _, _, h => by cases h
  | [_], [_], [], _, _, _, _, h => by cases h
  | [_], [_], _ :: _ :: _, _, _, _, _, h => by
    unfold ckBT at h
    split at h
    · simp [ckBT] at h
    · cases h
  | _ :: _ :: _, _ :: _ :: _, [], _, _, _, _, h => by cases h
  | _ :: _ :: _, _ :: _ :: _, [_], _, _, _, _, h => by
    unfold ckBT at h
    split at h
    · simp [ckBT] at h
    · cases h
  | [], _ :: _, _, _, _, _, hk, _ => hk.elim
  | _ :: _, [], _, _, _, _, hk, _ => hk.elim
  | [_], _ :: _ :: _, _, _, _, _, hk, _ => hk.2.elim
  | _ :: _ :: _, [_], _, _, _, _, hk, _ => hk.2.elim
theorem andV_ok (G : GOk X c C S) : ∀ {ks : List Ck} {ps : List (M D × M Bool)} {es : List Expr} {ows : Ows} {r : Ows × Ow × Bool} {pos : Pos}, CksOk S C ks ps → ckBV ks es ows = some r → PE X (.BoolOp .And es pos) (tV c (andV ps) ows r.1 r.2.1 r.2.2)
  | [k], [p], [e], ows, r, pos, hk, h => pe_one ((hk.1 X c G).1 e ows r h)
  | k :: k2 :: ks, p :: p2 :: ps, e :: e2 :: es, ows, r, pos, hk, h => by
    unfold ckBV at h
    split at h
    · rename_i a ea
      split at h
      · rename_i b eb
        split at h
        · rename_i he
          cases h
          exact andV_cons ((hk.1 X c G).2.1 e ows a ea) (andV_ok (pos := pos) G hk.2 eb) he
        · cases h
      · cases h
    · cases h
  | [], [], _, _, _, _, _, h => by cases h
  | [_], [_], [], _, _, _, _, h => by cases h
  | [_], [_], _ :: _ :: _, _, _, _, _, h => by
    unfold ckBV at h
    split at h
    · simp [ckBV] at h
    · cases h
  | _ :: _ :: _, _ :: _ :: _, [], _, _, _, _, h => by cases h
  | _ :: _ :: _, _ :: _ :: _, [_], _, _, _, _, h => by
    unfold ckBV at h
    split at h
    · simp [ckBV] at h
    · cases h
  | [], _ :: _, _, _, _, _, hk, _ => hk.elim
  | _ :: _, [], _, _, _, _, hk, _ => hk.elim
  | [_], _ :: _ :: _, _, _, _, _, hk, _ => hk.2.elim
  | _ :: _ :: _, [_], _, _, _, _, hk, _ => hk.2.elim
theorem orV_ok (G : GOk X c C S) : ∀ {ks : List Ck} {ps : List (M D × M Bool)} {es : List Expr} {ows : Ows} {r : Ows × Ow × Bool} {pos : Pos}, CksOk S C ks ps → ckBV ks es ows = some r → PE X (.BoolOp .Or es pos) (tV c (orV ps) ows r.1 r.2.1 r.2.2)
  | [k], [p], [e], ows, r, pos, hk, h => pe_one ((hk.1 X c G).1 e ows r h)
  | k :: k2 :: ks, p :: p2 :: ps, e :: e2 :: es, ows, r, pos, hk, h => by
    unfold ckBV at h
    split at h
    · rename_i a ea
      split at h
      · rename_i b eb
        split at h
        · rename_i he
          cases h
          exact orV_cons ((hk.1 X c G).2.1 e ows a ea) (orV_ok (pos := pos) G hk.2 eb) he
        · cases h
      · cases h
    · cases h
  | [], [], _, _, _, _, _, h => by cases h
  | [_], [_], [], _, _, _, _, h => by cases h
  | [_], [_], _ :: _ :: _, _, _, _, _, h => by
    unfold ckBV at h
    split at h
    · simp [ckBV] at h
    · cases h
  | _ :: _ :: _, _ :: _ :: _, [], _, _, _, _, h => by cases h
  | _ :: _ :: _, _ :: _ :: _, [_], _, _, _, _, h => by
    unfold ckBV at h
    split at h
    · simp [ckBV] at h
    · cases h
  | [], _ :: _, _, _, _, _, hk, _ => hk.elim
  | _ :: _, [], _, _, _, _, hk, _ => hk.elim
  | [_], _ :: _ :: _, _, _, _, _, hk, _ => hk.2.elim
  | _ :: _ :: _, [_], _, _, _, _, hk, _ => hk.2.elim
end
end Mp
/-! Mq1: enumerate of a tuple, of a text. -/
namespace Mp
open PySem PySem.Spec PyProof.Rows L2

theorem meets_enumT (l : Addr) (items : Array Value) :
    Meets (Builtin.«enumerate.__new__» ⟨[.type "enumerate", .ref l], []⟩) (fun _ R s => s.heap.IsTuple l items ∧
      R (.ok (.ret (.ref (s.heap.push { cls := .type "tuple_iterator", data := .fields #[.ref l, .int 0 0] }).objs.size)))
        { s with heap := (s.heap.push { cls := .type "tuple_iterator", data := .fields #[.ref l, .int 0 0] }).push { cls := .type "enumerate", data := .fields #[.none, .bool false, .ref s.heap.objs.size, rawInt 0, .none, .none] } }) :=
  .of_wp fun prog w A R s h => by
    obtain ⟨hp, g, d, tk, os⟩ := s; obtain ⟨h1, h⟩ := h
    have hsub := sub_enumerate
    have q1 : ∀ {A' : Around} {E : Value → Shared → Prop} {Q : Value → Shared → Prop}, Q (.ref hp.objs.size) ⟨hp.push { cls := .type "tuple_iterator", data := .fields #[.ref l, .int 0 0] }, g, d, tk, os⟩ → wpAny (model prog w) A' (pyIter (.ref l)) Q E ⟨hp, g, d, tk, os⟩ :=
      fun q => (begins_tuple l items).iter prog w _ _ ⟨hp, g, d, tk, os⟩ _ h1 q
    wp_walk using q1
    refine wpAny_stack_any fun st => wpAny_pure ?_
    split
    · rename_i c _ _ _ _ _
      cases (c == Value.type "enumerate")
      · wp_walk using q1
        exact ⟨_, rfl, h⟩
      · wp_walk using q1
        exact ⟨_, rfl, h⟩
    · wp_walk using q1
      exact ⟨_, rfl, h⟩
section
variable {prog : Program} {w : World} {A : Around} {E : Value → Shared → Prop} {s : Shared}
theorem call_enumT {l : Addr} {items : Array Value} {Q : Value → Shared → Prop} (hL : s.heap.IsTuple l items)
    (h : ∀ h', IsEnum h' (s.heap.objs.size + 1) s.heap.objs.size 0 .none → h'.IsTupleIter s.heap.objs.size l 0 → h'.objs.size = s.heap.objs.size + 2 →
      (∀ b o, s.heap.get? b = some o → h'.get? b = some o) → Q (.ref (s.heap.objs.size + 1)) { s with heap := h' }) :
    wpAny (model prog w) A (PySem.call (.type "enumerate") [.ref l]) Q E s := by
  refine callType_new F.called_enumerate (by decide) (F.typeCall_enumerate_1 _) (F.newCall_enumerate_1 _) (fun obj => F.args_object_init_2 obj _) F.entry_enumerate_new
    (meets_enumT l items) ⟨hL, ?_⟩
  have hz : (s.heap.push { cls := .type "tuple_iterator", data := .fields #[.ref l, .int 0 0] }).objs.size = s.heap.objs.size + 1 := Heap.size_push ..
  show _ ∧ _
  rw [hz]
  have he : IsEnum ((s.heap.push { cls := .type "tuple_iterator", data := .fields #[.ref l, .int 0 0] }).push
      { cls := .type "enumerate", data := .fields #[.none, .bool false, .ref s.heap.objs.size, rawInt 0, .none, .none] }) (s.heap.objs.size + 1) s.heap.objs.size 0 .none := by
    have := Heap.get?_push_size (s.heap.push { cls := .type "tuple_iterator", data := .fields #[.ref l, .int 0 0] })
      (o := { cls := .type "enumerate", data := .fields #[.none, .bool false, .ref s.heap.objs.size, rawInt 0, .none, .none] }) rfl
    rw [hz] at this; exact this
  refine ⟨⟨_, he, rfl⟩, h _ he ⟨_, Heap.get?_push_of_some _ (Heap.get?_push_size _ rfl), rfl, rfl⟩ (by rw [Heap.size_push, hz]) fun b o x => Heap.get?_push_of_some _ (Heap.get?_push_of_some _ x)⟩
end

theorem enum_endN {prog : Program} {w : World} {A : Around} {E : Value → Shared → Prop} {s : Shared} {e it : Addr} {i : Int} {old : Value} {Q : Option Value → Shared → Prop}
    (D : ∀ (Q : Value → Shared → Prop) (E : Value → Shared → Prop), (∀ h' e, Heap.ExtBut it s.heap h' → (∃ o, h'.get? e = some o ∧ o.cls = .type "StopIteration") → E (.ref e) { s with heap := h' }) → wpAny (model prog w) A.in1 (Builtin.SmallTypes.nextOf (.ref it)) Q E s) (he : IsEnum s.heap e it i old)
    (hQ : ∀ h', Heap.ExtBut it s.heap h' → Q none { s with heap := h' }) : wpAny (model prog w) A (pyNext (.ref e)) Q E s := by
  have hT : s.TypeIs (.ref e) "enumerate" := ⟨_, he, rfl⟩
  unfold pyNext
  refine wpAny_bind (wpAny_attempt (wpAny_callSpecial?_slot (name := Str.ofString "__next__") hT F.slot_enumerate_next
    (wpAny_call_entry F.slot_enumerate_next hT F.entry_enumerate_next ?_ (F.args_enumerate_next_1 _))))
  show wpAny _ _ (field (.ref e) 2 >>= _) _ _ _
  refine wpAny_bind (wpAny_field he rfl (x := .ref it) rfl ?_)
  refine wpAny_bind (D _ _ fun h' x he' hx' => ?_)
  obtain ⟨o, ho, hc⟩ := hx'
  refine wpAny_bind (wpAny_isInstance (T := "StopIteration") (b := true) ⟨o, ho, hc⟩ isSubtype_stop ?_)
  exact wpAny_pure (hQ _ he')

/-- a source drawn: its items' values at a state -/
def IteD (go : Nat → Hp → Prop) (it : Nat → Hp → V → Prop) (st : Nat → Hp → Prop) : It :=
  ⟨go, fun i H v H' => ∃ T x, v = .ref T ∧ H T = none ∧ H' = upd H T (.tup [.int (i : Nat), x]) ∧ it i H x, st⟩
def IteT (K : PySem.W.Frag) (a : Addr) : It := IteD (fun i H => ∃ (xs : List V) (x : V), SqT K H a xs ∧ xs[i]? = some x) (fun i H x => ∀ xs, SqT K H a xs → xs[i]? = some x) (fun i H => ∃ xs : List V, SqT K H a xs ∧ xs.length ≤ i)
def IteS (x : Str) : It := IteD (fun i _ => i < x.cps.size) (fun i _ v => ∃ c, x.cps[i]? = some c ∧ v = .str ⟨#[c]⟩) (fun i _ => x.cps.size ≤ i)
/-- a turn of enumerate over what is drawn -/
theorem turn_enumD {P : Program} {w : World} {K : PySem.W.Frag} {elts : List Expr} {kk : Nat} {tpos : Pos} {e it : Addr} {go : Nat → Hp → Prop} {itv : Nat → Hp → V → Prop} {stp : Nat → Hp → Prop} {St : Nat → Heap → Prop}
    (obj : ∀ i h, St i h → ∃ o, h.get? it = some o ∧ ∀ v, o.data ≠ .cell v)
    (keep : ∀ i h h', St i h → (∀ o, h.get? it = some o → h'.get? it = some o) → St i h')
    (item : ∀ (X : Cx), X.prog = P → X.w = w → X.K = K → X.calm = true → ∀ (i : Nat) (pins : List (Addr × Obj)) (s : Shared) (σ : L2.St) (H : Hp), Inv X pins σ H s → St i s.heap → go i H →
      ∃ (fp : List Addr) (n : Nat) (Pv : Nat → Value → Prop) (SD : Nat → Heap → Prop), Draws P w X.A.in1 it fp n Pv SD ∧ SD i s.heap ∧ i < n ∧ (∀ b, b ∈ fp → b ≠ it → ∃ o : Obj, s.heap.get? b = some o ∧ o.cls ≠ .type "enumerate") ∧ (∀ h, SD (i + 1) h → St (i + 1) h) ∧ ∀ u, Pv i u → ∃ x, RelV x u ∧ itv i H x)
    (done : ∀ (X : Cx), X.prog = P → X.w = w → X.K = K → X.calm = true → ∀ (i : Nat) (pins : List (Addr × Obj)) (s : Shared) (σ : L2.St) (H : Hp), Inv X pins σ H s → St i s.heap → stp i H →
      ∀ (Q : Value → Shared → Prop) (E : Value → Shared → Prop), (∀ h' e, Heap.ExtBut it s.heap h' → (∃ o, h'.get? e = some o ∧ o.cls = .type "StopIteration") → E (.ref e) { s with heap := h' }) → wpAny (model P w) X.A.in1 (Builtin.SmallTypes.nextOf (.ref it)) Q E s) :
    Turn P w K (.Tuple elts kk tpos) (IteD go itv stp) [e, it] e (fun i h => (∃ old, IsEnum h e it ((i : Nat) : Int) old) ∧ St i h ∧ e ≠ it) where
  mem := by simp
  obj := fun i h st b hb => by
    obtain ⟨⟨old, he⟩, hs, _⟩ := st
    have e' : b = e ∨ b = it := by simpa using hb
    rcases e' with z | z
    · rw [z]; exact ⟨_, he, fun v q => nomatch q⟩
    · rw [z]; exact obj i h hs
  keep := fun i h h' st k => let ⟨⟨old, he⟩, hi, hne⟩ := st; ⟨⟨old, k e (by simp) _ he⟩, keep i h h' hi fun o q => k it (by simp) o q, hne⟩
  item := by
    intro X hP hw hK hc i pins s σ H E I hf st hg
    obtain ⟨⟨old, he⟩, hs, hne⟩ := st
    obtain ⟨fp, n, Pv, SD, D, hsd, hlt, hfp, hst', hval⟩ := item X hP hw hK hc i pins s σ H I hs hg
    subst hP hw hK
    have hel : e < s.heap.objs.size := Heap.lt_size he
    have hil : it < s.heap.objs.size := by obtain ⟨_, q, _⟩ := obj _ _ hs; exact Heap.lt_size q
    have hef : e ∉ fp := fun z => by
      obtain ⟨o, h1, h2⟩ := hfp e z hne
      rw [he] at h1
      cases h1
      exact h2 rfl
    refine wpAny_pyNext_enum_itemD D he hsd hlt hne hef fun u h' tk hu ho hit' hT hsz hk => ?_
    obtain ⟨x, ru, hx⟩ := hval u hu
    refine ⟨_, rfl, wpAny_letOwnedTupleGo_enum (s := { s with heap := h', toks := tk + 1 }) ho fun h'' he' sb => ?_⟩
    have hT2 : h''.get? s.heap.objs.size = some { cls := .type "tuple", data := .seq #[.int i tk, u] } := (sb.2 _ (Nat.ne_of_gt hel)).trans hT
    have new : ObjOk X.prog X.w (upd H s.heap.objs.size (.tup [.int (i : Nat), x])) h'' s.heap.objs.size (.tup [.int (i : Nat), x]) :=
      ⟨by show 2 ≤ sizeLine; decide, [.int i tk, u], .cons ⟨_, rfl⟩ (.cons ru .nil), ⟨_, hT2, rfl, _, rfl⟩⟩
    have I1 : Inv X pins σ (upd H s.heap.objs.size (.tup [.int (i : Nat), x])) { s with heap := h'', toks := tk + 1 } :=
      I.turnedNew (ch := [e, it]) (fun b ob hb q => (sb.2 b (fun z => hb (by simp [z]))).trans (hk b ob (fun z => hb (by simp [z])) (fun z => hb (by simp [z])) q)) hf (Nat.le_refl _) new
    refine ⟨.ref s.heap.objs.size, _, I1, rfl, ⟨_, x, rfl, I.hok.fresh (Nat.le_refl _), rfl, hx⟩, ⟨⟨u, ?_⟩, keep _ _ _ (hst' _ hit') fun o q => (sb.2 it (Ne.symm hne)).trans q, hne⟩, fun b hb => ?_⟩
    · have e1 : ((i + 1 : Nat) : Int) = (i : Int) + 1 := by omega
      rw [e1]; exact he'
    · have hb' : b < s.heap.objs.size := by
        have e' : b = e ∨ b = it := by simpa using hb
        rcases e' with z | z
        · rw [z]; exact hel
        · rw [z]; exact hil
      rw [upd_ne (Nat.ne_of_lt hb')]
      exact (hf b hb).1
  done := by
    intro X hP hw hK hc i pins s σ H E I hf st hg
    obtain ⟨⟨old, he⟩, hs, hne⟩ := st
    have D := done X hP hw hK hc i pins s σ H I hs hg
    subst hP hw hK
    obtain ⟨f0, f1, f2, f3, f4, f5⟩ := hf it (by simp)
    exact enum_endN D he fun h' eb => ⟨rfl, I.turned (t' := s.toks) (fun b o hb q => eb b o hb q) f0 f1 f3 f4 f5⟩
  self := fun A i s Q E st h => let ⟨⟨_, he⟩, _⟩ := st; wpAny_pyIter_enum he h
theorem turn_enumT {P : Program} {w : World} {K : PySem.W.Frag} {elts : List Expr} {kk : Nat} {tpos : Pos} (a e it : Addr) :
    Turn P w K (.Tuple elts kk tpos) (IteT K a) [e, it] e (fun i h => (∃ old, IsEnum h e it ((i : Nat) : Int) old) ∧ (h.IsTupleIter it a i ∧ a ≠ it) ∧ e ≠ it) :=
  turn_enumD (St := fun i h => h.IsTupleIter it a i ∧ a ≠ it) (fun i h st => by obtain ⟨⟨o, ho, hc, hd⟩, _⟩ := st; exact ⟨o, ho, fun v q => by rw [hd] at q; cases q⟩)
    (fun i h h' st k => ⟨st.1.at k, st.2⟩)
    (fun X hP hw hK hc i pins s σ H I st hg => by
      subst hP hw hK
      obtain ⟨xs, x, hq, hx⟩ := hg
      obtain ⟨its, rv, p, hz⟩ := I.tuple hq
      have p' : s.heap.IsTuple a its.toArray := p
      have hl := rv.length
      refine ⟨_, _, _, _, Draws.tuple (by simpa using I.ok.hd hc) it a st.2 its.toArray, ⟨st.1, p'⟩, ?_, fun b hb hn => ?_, fun h q => ⟨q.1, st.2⟩, fun u hu => ?_⟩
      · have := (List.getElem?_eq_some_iff.mp hx).1
        simp; omega
      · simp only [List.mem_cons, List.not_mem_nil, or_false] at hb
        rcases hb with z | z
        · exact absurd z hn
        · subst z
          obtain ⟨o, ho, hcl, _⟩ := p'
          exact ⟨o, ho, by rw [hcl]; decide⟩
      · obtain ⟨u', hu', ru⟩ := rv.get hx
        have e1 : u = u' := by
          have : its[i]? = some u := by simpa using hu
          rw [hu'] at this; cases this; rfl
        subst e1
        exact ⟨x, ru, fun ys hy => by rw [I.tuple_inj hy hq]; exact hx⟩)
    (fun X hP hw hK hc i pins s σ H I st hg => by
      subst hP hw hK
      obtain ⟨xs, hq, hx⟩ := hg
      obtain ⟨its, rv, p, hz⟩ := I.tuple hq
      have p' : s.heap.IsTuple a its.toArray := p
      have hl := rv.length
      exact fun Q E hE => wpAny_nextOf_tuple_end (by simpa using I.ok.hd hc) st.1 p' (by simp; omega) hE)
theorem turn_enumS {P : Program} {w : World} {K : PySem.W.Frag} {elts : List Expr} {kk : Nat} {tpos : Pos} (x : Str) (t : Tok) (e it : Addr) :
    Turn P w K (.Tuple elts kk tpos) (IteS x) [e, it] e (fun i h => (∃ old, IsEnum h e it ((i : Nat) : Int) old) ∧ h.IsStrIter it (strIterType x) x t i ∧ e ≠ it) :=
  turn_enumD (St := fun i h => h.IsStrIter it (strIterType x) x t i) (fun i h st => by obtain ⟨o, ho, hc, hd⟩ := st; exact ⟨o, ho, fun v q => by rw [hd] at q; cases q⟩)
    (fun i h h' st k => let ⟨o, ho, r⟩ := st; ⟨o, k o ho, r⟩)
    (fun X hP hw hK hc i pins s σ H I st hg => by
      subst hP hw hK
      have go : ∀ {ty : String}, strIterType x = ty → Draws X.prog X.w X.A.in1 it [it] x.cps.size (fun i v => ∃ c u, x.cps[i]? = some c ∧ v = .str ⟨#[c]⟩ u) (fun i h => h.IsStrIter it ty x t i) → ∃ (fp : List Addr) (n : Nat) (Pv : Nat → Value → Prop) (SD : Nat → Heap → Prop), Draws X.prog X.w X.A.in1 it fp n Pv SD ∧ SD i s.heap ∧ i < n ∧ (∀ b, b ∈ fp → b ≠ it → ∃ o : Obj, s.heap.get? b = some o ∧ o.cls ≠ .type "enumerate") ∧ (∀ h, SD (i + 1) h → h.IsStrIter it (strIterType x) x t (i + 1)) ∧ ∀ u, Pv i u → ∃ v, RelV v u ∧ ∃ c, x.cps[i]? = some c ∧ v = .str ⟨#[c]⟩ := fun {ty} ety D => by
        refine ⟨_, _, _, _, D, by rw [ety] at st; exact st, hg, fun b hb hn => ?_, fun h q => by rw [ety]; exact q, fun u hu => ?_⟩
        · simp only [List.mem_cons, List.not_mem_nil, or_false] at hb
          exact absurd hb hn
        · obtain ⟨c, u', h1, rfl⟩ := hu
          exact ⟨.str ⟨#[c]⟩, ⟨u', rfl⟩, c, h1, rfl⟩
      cases ha : x.cps.all (· < 128)
      · exact go (by simp [strIterType, ha]) (Draws.strWide (by simpa using I.ok.hd hc) it x t)
      · exact go (by simp [strIterType, ha]) (Draws.strAscii (by simpa using I.ok.hd hc) it x t))
    (fun X hP hw hK hc i pins s σ H I st hg => by
      subst hP hw hK
      intro Q E hE
      have hn : x.cps[i]? = none := by
        have : x.cps.size ≤ i := hg
        simp; omega
      cases ha : x.cps.all (· < 128)
      · exact wpAny_nextOf_wide_end (by simpa using I.ok.hd hc) (by simpa [strIterType, ha] using st) hn hE
      · exact wpAny_nextOf_ascii_end (by simpa using I.ok.hd hc) (by simpa [strIterType, ha] using st) hn hE)
def iEnumA (K : PySem.W.Frag) (ta : TA) : TI := fun σ H R => ta σ H fun vs H1 => (∃ a xs, vs = [.ref a] ∧ SqL K H1 a xs ∧ R (Ite K a) H1) ∨ (∃ a xs, vs = [.ref a] ∧ SqT K H1 a xs ∧ R (IteT K a) H1) ∨ ∃ x, vs = [.str x] ∧ R (IteS x) H1
theorem pi_enumA {X : Cx} {e : Expr} {ta : TA} {p pos tpos : Pos} {elts : List Expr} {kk : Nat} (hg : Gl X "enumerate") (hm : X.mg "enumerate" = none) (ha : PA X [e] ta) (hs : starEach [e] X.env = [(false, eval e X.env)] := by rfl) :
    PI X (.Tuple elts kk tpos) (.Call (.Name "enumerate" p) [e] [] pos) (iEnumA X.K ta) := by
  refine ⟨fun pins s σ H R I h => ?_⟩
  refine Call_ (ld_blt I hg hm boot_enumerate (PyProof.Rows.callWith_type1 (thn (ha.run pos pins s σ H _ I h) fun us s1 ⟨vs, H1, I1, r1, q1⟩ => ?_) hs rfl))
  have fr : ∀ b, b ∈ [s1.heap.objs.size + 1, s1.heap.objs.size] → FpOk X pins H1 b := fun b hb => by
    have e' : b = s1.heap.objs.size + 1 ∨ b = s1.heap.objs.size := by simpa using hb
    have hle : s1.heap.objs.size ≤ b := by
      rcases e' with z | z
      · rw [z]; exact Nat.le_add_right _ _
      · rw [z]; exact Nat.le_refl _
    exact I1.fpOk hle (I1.hok.fresh hle)
  rcases q1 with ⟨a, xs, ex, hq, q⟩ | ⟨a, xs, ex, hq, q⟩ | ⟨x, ex, q⟩
  · subst ex
    cases r1 with
    | cons r rr =>
      cases rr
      cases r
      obtain ⟨its, rv, p', hz⟩ := I1.list hq
      refine call_enumerate_list p'.isList fun h' he hit hsz hk => wpAny_pyIter_enum he ?_
      have I2 : Inv X pins σ H1 { s1 with heap := h' } := I1.kept (t' := s1.toks) hk
      exact ⟨s1.heap.objs.size + 1, [s1.heap.objs.size + 1, s1.heap.objs.size], _, _, H1, rfl, I2, turn_enum a (s1.heap.objs.size + 1) s1.heap.objs.size, ⟨⟨.none, he⟩, hit, Nat.succ_ne_self _⟩, fr, q⟩
  · subst ex
    cases r1 with
    | cons r rr =>
      cases rr
      cases r
      obtain ⟨its, rv, p', hz⟩ := I1.tuple hq
      have p2 : s1.heap.IsTuple a its.toArray := p'
      have hal : a ≠ s1.heap.objs.size := by
        obtain ⟨o, ho, _⟩ := p2
        exact Nat.ne_of_lt (Heap.lt_size ho)
      refine call_enumT p2 fun h' he hit hsz hk => wpAny_pyIter_enum he ?_
      have I2 : Inv X pins σ H1 { s1 with heap := h' } := I1.kept (t' := s1.toks) hk
      exact ⟨s1.heap.objs.size + 1, [s1.heap.objs.size + 1, s1.heap.objs.size], _, _, H1, rfl, I2, turn_enumT a (s1.heap.objs.size + 1) s1.heap.objs.size, ⟨⟨.none, he⟩, ⟨hit, hal⟩, Nat.succ_ne_self _⟩, fr, q⟩
  · subst ex
    cases r1 with
    | cons r rr =>
      cases rr
      obtain ⟨t, rfl⟩ := r
      refine call_enumerate_str fun h' he hit hsz hk => wpAny_pyIter_enum he ?_
      have I2 : Inv X pins σ H1 { s1 with heap := h' } := I1.kept (t' := s1.toks) hk
      exact ⟨s1.heap.objs.size + 1, [s1.heap.objs.size + 1, s1.heap.objs.size], _, _, H1, rfl, I2, turn_enumS x t (s1.heap.objs.size + 1) s1.heap.objs.size, ⟨⟨.none, he⟩, hit, Nat.succ_ne_self _⟩, fr, q⟩
end Mp
/-! Mq2: what enumerate walks. -/
namespace Mp
open PySem PySem.Spec PyProof.Rows L2
section
variable {X : Cx} {c : Cc} {f g : M D} {fs : M (List D)} {ows ows1 ows2 ows' : Ows} {o o1 o2 : Ow} {q q1 q2 : Bool} {e pe tg : Expr} {pos : Pos}
theorem enumD_at : ∀ {xs : List D} {k : Int} {j : Nat}, (enumD k xs)[j]? = (xs[j]?).map fun x => .tup [.int (k + j), x]
  | [], k, j => by simp [enumD]
  | x :: xs, k, 0 => by simp [enumD]
  | x :: xs, k, j + 1 => by
    simp only [enumD, List.getElem?_cons_succ]
    rw [enumD_at]
    congr 1
    funext y
    rw [show k + 1 + (j : Int) = k + ((j + 1 : Nat) : Int) by omega]
theorem enumD_len : ∀ {xs : List D} {k : Int}, (enumD k xs).length = xs.length
  | [], _ => rfl
  | x :: xs, k => by simp [enumD, enumD_len]
/-- a source of pairs: each a new tuple -/
theorem src_pairs {J : It} {ds : List D} {w0 : Wd} (h : ∀ (w : Wd), (∀ {d : D} {v : V}, Rep c.K w0.H w0.Z d v → Rep c.K w.H w.Z d v) → ∀ k : Nat,
      (∀ d, ds[k]? = some d → J.go k w.H ∧ ∀ x H', J.yld k w.H x H' → ∃ T u, x = .ref T ∧ w.H T = none ∧ H' = upd w.H T (.tup [.int (k : Nat), u]) ∧ Rep c.K w.H w.Z d u) ∧ (ds.length ≤ k → J.stop k w.H))
    {ows0 : Ows} {env0 : Env} {σ0 : L2.St} (s0 : SR c.K c.pn ows0 env0 σ0 w0) : Src c J (enumD 0 ds) w0 := by
  intro w ows env σ x s k
  have kp : ∀ {d : D} {v : V}, Rep c.K w0.H w0.Z d v → Rep c.K w.H w.Z d v := fun r => Rep.ext s0 x r
  obtain ⟨h1, h2⟩ := h w kp k
  refine ⟨fun d hd => ?_, fun hl => h2 (by rw [enumD_len] at hl; exact hl)⟩
  rw [enumD_at] at hd
  cases e1 : ds[k]? with
  | none => rw [e1] at hd; cases hd
  | some d1 =>
    rw [e1] at hd
    cases hd
    obtain ⟨g1, g2⟩ := h1 d1 e1
    refine ⟨g1, fun v H' y => ?_⟩
    obtain ⟨T, u, rfl, hT, rfl, ru⟩ := g2 v H' y
    have al : Alloc w (w.upd T (.tup [.int (k : Nat), u])) (fun _ => False) := Alloc.new0 hT
    refine ⟨w.upd T (.tup [.int (k : Nat), u]), rfl, al, ?_⟩
    unfold Rep
    refine ⟨T, [.int (k : Nat), u], rfl, SqT.of upd_same, ?_⟩
    unfold Reps
    refine ⟨_, _, rfl, by unfold Rep; rw [Int.zero_add], ?_⟩
    unfold Reps
    refine ⟨_, _, rfl, ?_, by unfold Reps; rfl⟩
    exact ru.mono (fun _ z => z) fun a q e _ => al.h a q e
theorem src_enumL {ds : List D} {a : Addr} {w0 : Wd} (r : Rep c.K w0.H w0.Z (.lst ds) (.ref a)) {ows0 : Ows} {env0 : Env} {σ0 : L2.St} (s0 : SR c.K c.pn ows0 env0 σ0 w0) : Src c (Ite c.K a) (enumD 0 ds) w0 := src_pairs (fun w kp k => by
  obtain ⟨a', xs, e, h1, h2⟩ := (show ∃ a' xs, V.ref a = .ref a' ∧ FzL w.H w.Z a' xs ∧ Reps c.K w.H w.Z ds xs from by have := kp r; unfold Rep at this; exact this)
  cases e
  refine ⟨fun d hd => ?_, fun hl => ⟨xs, SqL.of h1.2, by rw [h2.len]; exact hl⟩⟩
  obtain ⟨x, hx, rx⟩ := h2.get hd
  refine ⟨⟨xs, x, SqL.of h1.2, hx⟩, fun v H' ⟨T, u, e1, e2, e3, e4⟩ => ⟨T, u, e1, e2, e3, ?_⟩⟩
  have := e4 xs (SqL.of h1.2)
  rw [hx] at this; cases this; exact rx) s0
theorem src_enumT {ds : List D} {a : Addr} {w0 : Wd} (r : Rep c.K w0.H w0.Z (.tup ds) (.ref a)) {ows0 : Ows} {env0 : Env} {σ0 : L2.St} (s0 : SR c.K c.pn ows0 env0 σ0 w0) : Src c (IteT c.K a) (enumD 0 ds) w0 := src_pairs (fun w kp k => by
  obtain ⟨a', xs, e, h1, h2⟩ := (show ∃ a' xs, V.ref a = .ref a' ∧ SqT c.K w.H a' xs ∧ Reps c.K w.H w.Z ds xs from by have := kp r; unfold Rep at this; exact this)
  cases e
  refine ⟨fun d hd => ?_, fun hl => ⟨xs, h1, by rw [h2.len]; exact hl⟩⟩
  obtain ⟨x, hx, rx⟩ := h2.get hd
  refine ⟨⟨xs, x, h1, hx⟩, fun v H' ⟨T, u, e1, e2, e3, e4⟩ => ⟨T, u, e1, e2, e3, ?_⟩⟩
  have := e4 xs h1
  rw [hx] at this; cases this; exact rx) s0
theorem src_enumS {x : Str} {w0 : Wd} {ows0 : Ows} {env0 : Env} {σ0 : L2.St} (s0 : SR c.K c.pn ows0 env0 σ0 w0) : Src c (IteS x) (enumD 0 (x.cps.toList.map fun c => .str ⟨#[c]⟩)) w0 := src_pairs (fun w kp k => by
  refine ⟨fun d hd => ?_, fun hl => by
    show x.cps.size ≤ k
    simpa using hl⟩
  rw [List.getElem?_map] at hd
  cases e : x.cps.toList[k]? with
  | none => rw [e] at hd; cases hd
  | some ch =>
    rw [e] at hd
    cases hd
    have e' : x.cps[k]? = some ch := by simpa using e
    refine ⟨(Array.getElem?_eq_some_iff.mp e').1, fun v H' ⟨T, u, e1, e2, e3, c', e4, e5⟩ => ⟨T, u, e1, e2, e3, ?_⟩⟩
    rw [e'] at e4
    cases e4
    rw [e5]
    unfold Rep
    rfl) s0
theorem pi_enumM {a : Expr} {p tpos : Pos} {elts : List Expr} {kk : Nat} {fs1 : M D × M Bool} (hK : X.K = c.K) (hg : Gl X "enumerate") (hm : X.mg "enumerate" = none) (ha : PE X a (tV c fs1.1 ows ows' .fr q)) (hs : noStar a = true) :
    PI X (.Tuple elts kk tpos) (.Call (.Name "enumerate" p) [a] [] pos) (tI c (M.bind (evs [fs1]) fun ds => M.opt (itF .enum ds)) ows ows' q) := by
  refine wPI (pi_enumA hg hm (pa_cons ha pa_nil (star_cons hs)) (star_cons hs)) fun σ H R ⟨w, env, hw, sr, z⟩ => ⟨w, env, hw, sr, ?_⟩
  unfold M.bind at z
  simp only [evs, M.bind, M.ret] at z
  cases e1 : fs1.1 env with
  | no => rw [e1] at z; exact z.elim
  | ex n env1 => rw [e1] at z; exact z
  | ok d env1 =>
    rw [e1] at z
    intro w1 v A x1 s1 r1 t1 k1
    show (∃ a xs, [v] = [V.ref a] ∧ SqL X.K w1.H a xs ∧ R (Ite X.K a) w1.H) ∨ (∃ a xs, [v] = [V.ref a] ∧ SqT X.K w1.H a xs ∧ R (IteT X.K a) w1.H) ∨ ∃ x, [v] = [V.str x] ∧ R (IteS x) w1.H
    rw [hK]
    cases d with
    | lst ds =>
      obtain ⟨a, xs, rfl, h1, h2⟩ := r1.lst
      exact .inl ⟨a, xs, rfl, SqL.of h1, z w1 _ x1 s1 (src_enumL r1.1 s1) k1⟩
    | tup ds =>
      obtain ⟨a, xs, rfl, h1, h2⟩ := r1.tup
      exact .inr (.inl ⟨a, xs, rfl, h1, z w1 _ x1 s1 (src_enumT r1.1 s1) k1⟩)
    | str x => exact .inr (.inr ⟨x, by rw [r1.str], z w1 _ x1 s1 (src_enumS s1) k1⟩)
    | _ => exact z.elim
end
end Mp
/-! Mq3: list comprehensions. -/
namespace Mp
open PySem PySem.Spec PyProof.Rows L2

section
variable {K : PySem.W.Frag} {pn : Pin} {ows ows' : Ows} {env env' : Env} {σ σ' : L2.St} {w w' : Wd}
def Wd.outs (w : Wd) : List Nat → Wd
  | [] => w
  | i :: is => (w.outs is).out i
theorem outs_H : ∀ {is : List Nat}, (w.outs is).H = w.H
  | [] => rfl
  | i :: is => outs_H (is := is)
theorem outs_Z : ∀ {is : List Nat}, (w.outs is).Z = w.Z
  | [] => rfl
  | i :: is => outs_Z (is := is)
theorem outs_F : ∀ {is : List Nat} {j : Nat} {a : Addr}, (w.outs is).F j a ↔ (j ∉ is ∧ w.F j a)
  | [], j, a => by simp [Wd.outs]
  | i :: is, j, a => by
    show (j ≠ i ∧ (w.outs is).F j a) ↔ _
    rw [outs_F (is := is), List.mem_cons, not_or, and_assoc]
theorem Ext.outs (w : Wd) : ∀ is : List Nat, Ext w (w.outs is)
  | [] => Ext.refl
  | i :: is => (Ext.outs w is).trans (Ext.out _ i)
theorem SR.outs (s : SR K pn ows env σ w) : ∀ is : List Nat, SR K pn ows (wipeE env is) σ (w.outs is)
  | [] => s
  | i :: is => (SR.outs s is).out i (fun _ _ => rfl)
theorem getS_wipe : ∀ {is : List Nat} {i : Nat} {d : D}, getS (wipeE env is) i = some d → i ∉ is ∧ getS env i = some d
  | [], i, d, h => ⟨by simp, h⟩
  | j :: is, i, d, h => by
    obtain ⟨h1, h2⟩ := getS_un (show getS (unS (wipeE env is) j) i = some d from h)
    obtain ⟨h3, h4⟩ := getS_wipe h2
    exact ⟨by rw [List.mem_cons, not_or]; exact ⟨h1, h3⟩, h4⟩
theorem getS_wipe' : ∀ {is : List Nat} {i : Nat}, i ∉ is → getS (wipeE env is) i = getS env i
  | [], i, _ => rfl
  | j :: is, i, h => by
    rw [List.mem_cons, not_or] at h
    rw [← getS_wipe' h.2]
    show getS ((wipeE env is).set j none) i = _
    unfold getS
    rw [List.getElem?_set_ne (Ne.symm h.1)]
theorem wipeE_len : ∀ {is : List Nat}, (wipeE env is).length = env.length
  | [] => rfl
  | i :: is => by show ((wipeE env is).set i none).length = _; rw [List.length_set, wipeE_len]
theorem wipe_ne : ∀ {vs : List Nat} {i : Nat}, i ∉ vs → (wipe σ vs)[i]? = σ[i]?
  | [], _, _ => rfl
  | v :: vs, i, h => by
    rw [List.mem_cons, not_or] at h
    unfold wipe
    rw [List.getElem?_set_ne (Ne.symm h.1), wipe_ne h.2]
theorem wipe_in : ∀ {vs : List Nat} {i : Nat}, i ∈ vs → i < σ.length → (wipe σ vs)[i]? = some none
  | [], _, h, _ => by cases h
  | v :: vs, i, h, hl => by
    unfold wipe
    by_cases e : v = i
    · subst e
      rw [List.getElem?_set_self (by rw [wipe_length]; exact hl)]
    · rw [List.getElem?_set_ne e]
      exact wipe_in ((List.mem_cons.mp h).resolve_left (fun z => e z.symm)) hl
theorem wipe_same {vs : List Nat} (h : Same vs (wipe σ vs) σ') : wipe σ' vs = wipe σ vs := by
  have hl : σ'.length = σ.length := by rw [h.1, wipe_length]
  apply List.ext_getElem?
  intro i
  by_cases hi : i ∈ vs
  · by_cases hl2 : i < σ.length
    · rw [wipe_in hi hl2, wipe_in hi (by rw [hl]; exact hl2)]
    · rw [List.getElem?_eq_none (by rw [wipe_length, hl]; omega), List.getElem?_eq_none (by rw [wipe_length]; omega)]
  · rw [wipe_ne hi, h.2 i hi]
/-- into the block -/
theorem SR.wiped {is : List Nat} (s : SR K pn ows (wipeE env is) σ w) (hp : ∀ i, i ∈ is → pn i = none) : SR K pn ows (wipeE env is) (wipe σ is) w where
  len := by rw [wipe_length]; exact s.len
  at_ := fun i d h => by
    obtain ⟨v, h1, h2⟩ := s.at_ i d h
    exact ⟨v, by rw [wipe_ne (getS_wipe h).1]; exact h1, h2⟩
  apart := s.apart
  zf := s.zf
  fm := s.fm
  zt := s.zt
  pin := fun i p h => by
    have hi : i ∉ is := fun z => by rw [hp i z] at h; cases h
    rw [wipe_ne hi]
    exact s.pin i p h
/-- out of the block -/
theorem SR.unblk {is : List Nat} {env4 : Env} {σ2 : L2.St} (s0 : SR K pn ows (wipeE env is) σ w) (s : SR K pn ows' env4 σ2 w') (hp : ∀ i, i ∈ is → pn i = none) (hw : wipe σ2 is = wipe σ is) (he : ∀ i d, getS (wipeE env is) i = some d → getS env4 i = some d) : SR K pn ows' (wipeE env is) σ (w'.outs is) where
  len := s0.len
  at_ := fun i d h => by
    have hi := (getS_wipe h).1
    obtain ⟨v, h1, h2⟩ := s.at_ i d (he i d h)
    refine ⟨v, by rw [← wipe_ne hi, ← hw, wipe_ne hi]; exact h1, ?_⟩
    have e : (w'.outs is).F i = w'.F i := by
      funext a
      exact propext ⟨fun z => (outs_F.mp z).2, fun z => outs_F.mpr ⟨hi, z⟩⟩
    rw [outs_H, outs_Z, e]
    exact h2
  apart := fun i j a h1 h2 => s.apart i j a (outs_F.mp h1).2 (outs_F.mp h2).2
  zf := fun i a h z => s.zf i a (outs_F.mp h).2 (by rw [outs_Z] at z; exact z)
  fm := fun i a h => by rw [outs_H]; exact s.fm i a (outs_F.mp h).2
  zt := fun a z => by rw [outs_H]; rw [outs_Z] at z; exact s.zt a z
  pin := s0.pin
theorem asg_ne {t : T} {d : D} (h : asg t d env = some env') : ∀ i, i ∉ t.slots → getS env' i = getS env i := by
  cases t with
  | nm j =>
    cases h
    intro i hi
    have : i ≠ j := by simpa [T.slots] using hi
    unfold getS setS
    rw [List.getElem?_set_ne (Ne.symm this)]
  | tp is =>
    cases d <;> simp only [asg, reduceCtorEq] at h
    split at h
    · rename_i ds hl
      cases h
      intro i hi
      have hi' : i ∉ is := hi
      clear hl hi
      induction is generalizing ds env with
      | nil => rfl
      | cons j js ih =>
        cases ds with
        | nil => rfl
        | cons d ds =>
          rw [List.mem_cons, not_or] at hi'
          simp only [List.zip_cons_cons, List.foldl_cons]
          rw [ih (ds := ds) (env := setS env j d) hi'.2]
          unfold getS setS
          rw [List.getElem?_set_ne (Ne.symm hi'.1)]
    · cases h
/-- a temp's own list is written -/
theorem SR.updT {p : Addr} {o o' : HO} (s : SR K pn ows env σ w) (hz : ¬ w.Z p) (hf : ∀ j, ¬ w.F j p) (hh : w.H p = some o) (hm : mutO o = true) : SR K pn ows env σ (w.upd p o') := by
  have k : ∀ a q, a ≠ p → w.H a = some q → (w.upd p o').H a = some q := fun a q n e => by show L2.upd w.H p o' a = _; rw [upd_ne n]; exact e
  refine ⟨s.len, fun i d h => ?_, s.apart, s.zf, fun i a h => ?_, fun a z => ?_, s.pin⟩
  · obtain ⟨v, h1, h2⟩ := s.at_ i d h
    refine ⟨v, h1, h2.keep (fun _ z => z) fun a q e z => k a q (fun ea => ?_) e⟩
    subst ea
    rcases z with z | z | z
    · exact hz z
    · exact hf i z
    · rw [hh] at e; cases e; rw [hm] at z; cases z
  · obtain ⟨q, e, m⟩ := s.fm i a h
    exact ⟨q, k a q (fun ea => hf i (by rw [← ea]; exact h)) e, m⟩
  · have := s.zt a z
    by_cases ea : a = p
    · subst ea; exact absurd z hz
    · show L2.upd w.H p o' a ≠ none
      rw [upd_ne ea]; exact this
theorem Ext.updT {w0 : Wd} {p : Addr} {o' : HO} (e : Ext w0 w) (hn : w0.H p = none) : Ext w0 (w.upd p o') where
  z := e.z
  fr := fun a o h n => by
    show L2.upd w.H p o' a = _
    rw [upd_ne (fun ea => by subst ea; rw [hn] at h; cases h)]
    exact e.fr a o h n
  dm := fun a h => by
    show L2.upd w.H p o' a ≠ none
    by_cases ea : a = p
    · subst ea; rw [upd_same]; simp
    · rw [upd_ne ea]; exact e.dm a h
  nw := e.nw
  zn := e.zn
  zh := fun h a z => by
    show L2.upd w.H p o' a ≠ none
    by_cases ea : a = p
    · subst ea; rw [upd_same]; simp
    · rw [upd_ne ea]; exact e.zh h a z
end

section
variable {X : Cx} {c : Cc} {ows ows1 oh ow2 ow3 : Ows} {o : Ow} {qi qc qe : Bool}
/-- the block's own -/
def Cc.blk (c : Cc) : Cc := { c with W := fun _ _ _ _ => False }
theorem lc_imp {t : T} {fi : M (List D)} {fe : M D} {fc : M Bool} (hpe : Pure fe) (hpc : Pure fc) (hp : ∀ i, i ∈ t.slots → c.pn i = none) (h0 : weakB 0 ows1 oh = true) (h2 : weakB 0 ow2 oh = true) (h3 : weakB 0 ow3 oh = true) :
    ∀ σ H Q, tV c (lcF fe t fi fc) ows oh (.ow o) (qi && (qc && qe)) σ H Q → tLc (tI c fi ows ows1 qi) (tgT c.blk t oh) (tB_ c.blk fc (frs oh t.slots) ow2 qc) (tV c.blk fe ow2 ow3 o qe) t.slots σ H Q := by
  intro σ H Q ⟨w, env, hw, sr, z⟩
  refine ⟨w, env, hw, sr, ?_⟩
  unfold lcF M.bind at z
  cases e1 : fi env with
  | no => rw [e1] at z; exact z.elim
  | ex n env1 => rw [e1] at z; exact z
  | ok ds env1 =>
    rw [e1] at z
    intro w1 J x1 s1 src k1 D hD
    simp only at z
    by_cases hl : ds.length ≤ SZ
    · rw [if_pos hl] at z
      cases e2 : lcL fe t fc (wipeE env1 t.slots) ds with
      | none => rw [e2] at z; exact z.elim
      | some ys =>
        rw [e2] at z
        simp only at z
        obtain ⟨w2, x2, eh, s2⟩ := s1.weak h0
        have s3 := s2.outs t.slots
        have x3 : Ext w1 (w2.outs t.slots) := x2.trans (Ext.outs _ _)
        have h3H : (w2.outs t.slots).H = w1.H := by rw [outs_H, eh]
        generalize hw3 : w2.outs t.slots = w3 at s3 x3 h3H
        have hD3 : w3.H D = none := by rw [h3H]; exact hD
        have al := Alloc.new (o := .lst []) hD3
        refine ⟨fun i m H => m = ds.length - i ∧ i ≤ ds.length ∧ ∃ w' acc done rest B G, w'.H = H ∧ Ext w3 w' ∧ ((qi && (qc && qe)) = true → Quiet w1 w') ∧ SR c.K c.pn oh (wipeE env1 t.slots) σ w' ∧ w'.H D = some (.lst acc) ∧
          Items (RO c.K w'.H w'.Z o) done acc B G ∧ ¬ B D ∧ Tmp w3 w' (fun a => a = D ∨ B a) ∧ done.length ≤ i ∧ lcL fe t fc (wipeE env1 t.slots) (ds.drop i) = some rest ∧ ys = done ++ rest, ⟨ds.length, by simp, Nat.zero_le _, w3.upd D (.lst []), [], [], ys, _, _, by rw [← h3H]; rfl, al.ext, fun _ a q e => al.h a q (by rw [h3H]; exact e), al.sr s3, upd_same, Items.nil, fun z => z, ?_, Nat.le_refl _, by rw [List.drop_zero]; exact e2, rfl⟩, ?_⟩
        · have tm := al.tmp s3
          exact ⟨fun a h => tm.z a (h.elim id False.elim), fun a i h => tm.f a i (h.elim id False.elim), fun a h => tm.nw a (h.elim id False.elim)⟩
        rintro i m H' ⟨rfl, hi, w4, acc, done, rest, B, G, rfl, x4, k4, s4, hDw, I, nb, tm, hdl, hrest, hys⟩
        obtain ⟨sg, ss⟩ := src w4 oh _ σ (x3.trans x4) s4 i
        by_cases hlt : i < ds.length
        · have hd : ds[i]? = some ds[i] := List.getElem?_eq_getElem hlt
          obtain ⟨g1, g2⟩ := sg _ hd
          refine .inr ⟨g1, fun H' => ∃ w' acc done rest B G, w'.H = H' ∧ Ext w3 w' ∧ ((qi && (qc && qe)) = true → Quiet w1 w') ∧ SR c.K c.pn oh (wipeE env1 t.slots) σ w' ∧ w'.H D = some (.lst acc) ∧
          Items (RO c.K w'.H w'.Z o) done acc B G ∧ ¬ B D ∧ Tmp w3 w' (fun a => a = D ∨ B a) ∧ done.length ≤ i + 1 ∧ lcL fe t fc (wipeE env1 t.slots) (ds.drop (i + 1)) = some rest ∧ ys = done ++ rest, fun H' hh => ⟨ds.length - (i + 1), by omega, rfl, hlt, hh⟩, fun x H' y => ?_⟩
          obtain ⟨w5, rfl, al5, rp⟩ := g2 x H' y
          rw [List.drop_eq_getElem_cons hlt] at hrest
          have s5 := (al5.sr s4).wiped hp
          have x45 := al5.ext
          simp only [lcL] at hrest
          cases ea : asg t ds[i] (wipeE env1 t.slots) with
          | none => rw [ea] at hrest; cases hrest
          | some env5 =>
            rw [ea] at hrest
            simp only at hrest
            refine ⟨w5, _, ds[i], rfl, s5, rp, ?_⟩
            rw [ea]
            intro w6 σ6 x6 s6 sm6 h6
            have hw6 : wipe σ6 t.slots = wipe σ t.slots := wipe_same sm6
            refine ⟨hw6, w6, env5, rfl, s6, ?_⟩
            have he5 : ∀ j d, getS (wipeE env1 t.slots) j = some d → getS env5 j = some d := fun j d h => by rw [asg_ne ea j (getS_wipe h).1]; exact h
            have x46 := x45.trans x6
            -- what stays of the list so far
            have stay : ∀ {w7 : Wd}, Ext w4 w7 → ∀ a q, w4.H a = some q → (w4.Z a ∨ (a = D ∨ B a) ∨ mutO q = false) → w7.H a = some q := fun {w7} x a q e zz => x.fr a q e fun j hj => by
              rcases zz with zz | zz | zz
              · exact s4.zf j a hj zz
              · exact tm.f a j zz hj
              · obtain ⟨q', e', m⟩ := s4.fm j a hj
                rw [e] at e'; cases e'; rw [zz] at m; cases m
            have tmx : ∀ {w7 : Wd}, Ext w4 w7 → Tmp w3 w7 (fun a => a = D ∨ B a) := fun {w7} x => Tmp.ext s4 tm (fun a h => by
              rcases h with rfl | h
              · rw [hDw]; simp
              · obtain ⟨k, hk, g⟩ := (I.some_ a).mp h
                obtain ⟨d, hd⟩ : ∃ d, done[k]? = some d := ⟨_, List.getElem?_eq_getElem hk⟩
                obtain ⟨y, hy⟩ : ∃ y, acc[k]? = some y := ⟨_, List.getElem?_eq_getElem (by rw [I.len]; exact hk)⟩
                exact (I.at_ k d y hd hy).ne a g) x4 x
            cases e6 : fc env5 with
            | no => rw [e6] at hrest; cases hrest
            | ex n e7 => rw [e6] at hrest; cases hrest
            | ok b env6 =>
              have := hpc _ _ _ e6
              subst this
              rw [e6] at hrest
              intro w7 x7 s7 k7
              have x47 := x46.trans x7
              cases b with
              | false =>
                rw [if_neg Bool.false_ne_true]
                simp only at hrest
                obtain ⟨w8, x8, eh8, s8⟩ := s7.weak h2
                have s9 := s4.unblk s8 hp hw6 he5
                have x49 : Ext w4 (w8.outs t.slots) := (x47.trans x8).trans (Ext.outs _ _)
                have tm9 := tmx x49
                refine ⟨w8.outs t.slots, acc, done, rest, B, G, by rw [outs_H, eh8], x4.trans x49, fun hq a q e => ?_, s9, stay x49 D _ hDw (.inr (.inl (.inl rfl))), I.keep x49.z fun a q e zz => stay x49 a q e (by rcases zz with zz | zz | zz; exact .inl zz; exact .inr (.inl (.inr zz)); exact .inr (.inr zz)), nb, tm9, by omega, hrest, hys⟩
                have hq' := hq
                simp only [Bool.and_eq_true] at hq'
                rw [outs_H, eh8]
                refine k7 hq'.2.1 a q ?_
                rw [h6]
                exact al5.h a q (k4 hq a q e)
              | true =>
                rw [if_pos rfl]
                simp only at hrest
                refine ⟨w7, env6, rfl, s7, ?_⟩
                cases e7 : fe env6 with
                | no => rw [e7] at hrest; cases hrest
                | ex n e8 => rw [e7] at hrest; cases hrest
                | ok y env7 =>
                  have := hpe _ _ _ e7
                  subst this
                  rw [e7] at hrest
                  obtain ⟨rest', hr1, hr2⟩ := Option.map_eq_some_iff.mp hrest
                  intro w8 v A8 x8 s8 r8 t8 k8
                  have x48 := x47.trans x8
                  have hD8 : w8.H D = some (.lst acc) := stay x48 D _ hDw (.inr (.inl (.inl rfl)))
                  refine ⟨acc, hD8, by rw [I.len, ← sz_eq]; omega, ?_⟩
                  obtain ⟨w9, x9, eh9, s9⟩ := s8.weak h3
                  have x49 : Ext w4 (w9.outs t.slots) := (x48.trans x9).trans (Ext.outs _ _)
                  have s10 := s4.unblk s9 hp hw6 he5
                  have tm10 := tmx x49
                  have hH10 : (w9.outs t.slots).H = w8.H := by rw [outs_H, eh9]
                  -- the new item's footprint
                  have x89 : Ext w8 (w9.outs t.slots) := x9.trans (Ext.outs _ _)
                  have r10 : RO c.K (w9.outs t.slots).H (w9.outs t.slots).Z o y v A8 := RO.ext s8 t8.f x89 r8
                  have t10 : Tmp w7 (w9.outs t.slots) A8 := Tmp.ext s8 t8 (fun a ha => r8.ne a ha) x8 x89
                  have t10' : Tmp w3 (w9.outs t.slots) A8 := t10.pre (x4.trans x47)
                  have dis : ∀ a, A8 a → ¬ (a = D ∨ B a) := fun a ha hb => by
                    have hne : w4.H a ≠ none := by
                      rcases hb with rfl | hb
                      · rw [hDw]; simp
                      · obtain ⟨k, hk, g⟩ := (I.some_ a).mp hb
                        obtain ⟨d, hd⟩ : ∃ d, done[k]? = some d := ⟨_, List.getElem?_eq_getElem hk⟩
                        obtain ⟨y', hy⟩ : ∃ y, acc[k]? = some y := ⟨_, List.getElem?_eq_getElem (by rw [I.len]; exact hk)⟩
                        exact (I.at_ k d y' hd hy).ne a g
                    rcases t8.nw a ha with ⟨j, hj⟩ | hn
                    · rcases x47.nw j a hj with ⟨j', hj'⟩ | hn
                      · exact tm.f a j' hb hj'
                      · exact hne hn
                    · exact x47.dm a hne hn
                  generalize hw10 : w9.outs t.slots = w10 at s10 x49 tm10 hH10 r10 t10' x89
                  have hD10 : w10.H D = some (.lst acc) := by rw [hH10]; exact hD8
                  have hzD : ¬ w10.Z D := tm10.z D (.inl rfl)
                  have hfD : ∀ j, ¬ w10.F j D := fun j => tm10.f D j (.inl rfl)
                  have s11 := s10.updT (o' := .lst (acc ++ [v])) hzD hfD hD10 rfl
                  have I10 := I.keep x49.z fun a q e zz => stay x49 a q e (by rcases zz with zz | zz | zz; exact .inl zz; exact .inr (.inl (.inr zz)); exact .inr (.inr zz))
                  have kD : ∀ (A : AS), ¬ A D → ∀ a q, w10.H a = some q → (w10.Z a ∨ A a ∨ mutO q = false) → (w10.upd D (.lst (acc ++ [v]))).H a = some q := fun A hA a q e zz => by
                    show L2.upd w10.H D _ a = _
                    rw [upd_ne]
                    · exact e
                    · rintro rfl
                      rcases zz with zz | zz | zz
                      · exact hzD zz
                      · exact hA zz
                      · rw [hD10] at e; cases e; cases zz
                  have nA : ¬ A8 D := fun h => dis D h (.inl rfl)
                  have I11 := (I10.keep (Z' := w10.Z) (fun _ z => z) (kD B nb)).snoc (d := y) (x := v) (A := A8) (r10.keep (fun _ z => z) (kD A8 nA)) (fun a ha hb => dis a ha (.inr hb))
                  refine ⟨w10.upd D (.lst (acc ++ [v])), acc ++ [v], done ++ [y], rest', _, _, by rw [← hH10]; rfl, (x4.trans x49).updT hD3, fun hq a q e => ?_, s11, upd_same, I11, fun h => h.elim nb nA, ⟨fun a h => ?_, fun a j h => ?_, fun a h => ?_⟩, by rw [List.length_append]; simp; omega, hr1, by rw [hys, ← hr2]; simp⟩
                  · have hq' := hq
                    simp only [Bool.and_eq_true] at hq'
                    show L2.upd w10.H D _ a = _
                    rw [upd_ne (fun ea => by subst ea; rw [hD] at e; cases e), hH10]
                    refine k8 hq'.2.2 a q (k7 hq'.2.1 a q ?_)
                    rw [h6]
                    exact al5.h a q (k4 hq a q e)
                  · rcases h with rfl | h | h
                    · exact hzD
                    · exact tm10.z a (.inr h)
                    · exact t10'.z a h
                  · rcases h with rfl | h | h
                    · exact hfD j
                    · exact tm10.f a j (.inr h)
                    · exact t10'.f a j h
                  · rcases h with rfl | h | h
                    · exact tm10.nw a (.inl rfl)
                    · exact tm10.nw a (.inr h)
                    · exact t10'.nw a h
        · have e : i = ds.length := by omega
          subst e
          rw [List.drop_length] at hrest
          cases hrest
          rw [List.append_nil] at hys
          subst hys
          exact .inl ⟨ss (Nat.le_refl _), z w4 (.ref D) (fun a => a = D ∨ B a) ((x1.trans x3).trans x4) s4 ⟨D, acc, B, G, rfl, hDw, I, nb, fun b => Iff.rfl⟩ (tm.pre (x1.trans x3)) fun hq a q e => k4 hq a q (k1 (by simp only [Bool.and_eq_true] at hq; exact hq.1) a q e)⟩
    · rw [if_neg hl] at z; exact z.elim
end
end Mp
/-! Mq4: what is walked; comprehensions, checked. -/
namespace Mp
open PySem PySem.Spec PyProof.Rows L2
section
variable {S : Sg} {C : Cs} {X : Cx} {c : Cc}
/-- what is walked -/
def ckI (S : Sg) (k : IK) (ks : List Ck) (tg it : Expr) (ows : Ows) : Option (Ows × Bool) := match k with
  | .seq => (match ks with
    | [a] => (match a.v it ows with
      | some x => some (x.1, x.2.2)
      | none => none)
    | _ => none)
  | .rng => (match vCall it with
    | some e => if (decide (e.1 = ("range" : Str)) && S.glo "range") = true then (match ckAR ks (e.2.1 :: e.2.2) ows with
      | some x => if decide (e.2.2.length ≤ 2) = true then some (x.1, x.2.2) else none
      | none => none) else none
    | none => none)
  | .enum => (match vCall it, ks with
    | some e, [a] => if (decide (e.1 = ("enumerate" : Str)) && (S.glo "enumerate" && (noStar e.2.1 && (e.2.2.isEmpty && (vTup tg).isSome)))) = true then (match a.v e.2.1 ows with
      | some x => some (x.1, x.2.2)
      | none => none) else none
    | _, _ => none)
  | _ => none
def noSet' : Expr → Bool
  | .Set _ _ _ => false
  | _ => true
theorem folded_no {it : Expr} {env : PySem.Env} (h : noSet' it = true) : ∀ x, foldedSetIterable it env x = pure x := by
  intro x
  cases it <;> first | rfl | cases h
theorem ckI_ok (G : GOk X c C S) {k : IK} {ks : List Ck} {ps : List (M D × M Bool)} {it tg : Expr} {ows : Ows} {r : Ows × Bool} (hs : CksOk S C ks ps) (h : ckI S k ks tg it ows = some r) : PI X tg it (tI c (M.bind (evs ps) fun as => M.opt (itF k as)) ows r.1 r.2) := by
  unfold ckI at h
  split at h
  · split at h
    · rename_i a
      split at h
      · rename_i x ex
        cases h
        match ps, hs with
        | [p], hs =>
          have e : (M.bind (evs [p]) fun as => M.opt (itF .seq as)) = M.bind p.1 fun d => M.opt (itF .seq [d]) := by
            funext env
            simp only [evs, M.bind, M.ret]
            cases p.1 env <;> rfl
          rw [e]
          exact pi_seq G.K (keep_fr ((hs.1 X c G).1 _ _ x ex))
        | [], hs => exact hs.elim
        | _ :: _ :: _, hs => exact hs.2.elim
      · cases h
    · cases h
  · split at h
    · rename_i e he
      split at h
      · rename_i hn
        split at h
        · rename_i x ex
          split at h
          · rename_i hl
            cases h
            simp only [Bool.and_eq_true, decide_eq_true_eq] at hn hl
            obtain ⟨p1, p2, rfl⟩ := vCall_eq he
            obtain ⟨i1, i2, i3⟩ := ckAR_ok G hs ex
            rw [hn.1]
            have hm : X.mg "range" = none := G.blt _ (by decide +kernel)
            obtain ⟨f, a, es⟩ := e
            simp only at i1 i2 i3 hl ⊢
            simp only [List.all_cons, Bool.and_eq_true] at i2
            match es, i1, i2, i3, hl with
            | [], i1, i2, i3, _ => exact pi_rng1 (G.glo hn.2) hm i1 i2.1 (fun env ds env' e => by rw [evs_len e, ← i3]; rfl)
            | [b], i1, i2, i3, _ =>
              simp only [List.all_cons, List.all_nil, Bool.and_true] at i2
              exact pi_rng2 (G.glo hn.2) hm i1 i2.1 i2.2 (fun env ds env' e => by rw [evs_len e, ← i3]; rfl)
            | [b, d], i1, i2, i3, _ =>
              simp only [List.all_cons, List.all_nil, Bool.and_true, Bool.and_eq_true] at i2
              exact pi_rng3 (G.glo hn.2) hm i1 i2.1 i2.2.1 i2.2.2 (fun env ds env' e => by rw [evs_len e, ← i3]; rfl)
            | _ :: _ :: _ :: _, _, _, _, hl => simp at hl
          · cases h
        · cases h
      · cases h
    · cases h
  · split at h
    · rename_i e a he
      split at h
      · rename_i hn
        split at h
        · rename_i x ex
          cases h
          simp only [Bool.and_eq_true, decide_eq_true_eq] at hn
          obtain ⟨h1, h2, h3, h4, h5⟩ := hn
          obtain ⟨p1, p2, rfl⟩ := vCall_eq he
          obtain ⟨es, het⟩ := Option.isSome_iff_exists.mp h5
          obtain ⟨kk, tp, rfl⟩ := vTup_eq het
          obtain ⟨f, b, rs⟩ := e
          simp only at h1 h3 h4 ex ⊢
          have h4' : rs = [] := by cases rs with | nil => rfl | cons => cases h4
          subst h4' h1
          match ps, hs with
          | [p], hs => exact pi_enumM G.K (G.glo h2) (G.blt _ (by decide +kernel)) (keep_fr ((hs.1 X c G).1 _ _ x ex)) h3
          | [], hs => exact hs.elim
          | _ :: _ :: _, hs => exact hs.2.elim
        · cases h
      · cases h
    · cases h
  · cases h

end

/-! ### what changes no slot -/
def PureP (p : M D × M Bool) : Prop := Pure p.1 ∧ Pure p.2
section
variable {α β : Type}
theorem Pure.bind {f : M α} {g : α → M β} (hf : Pure f) (hg : ∀ a, Pure (g a)) : Pure (M.bind f g) := fun e r e' h => by
  unfold M.bind at h
  cases e1 : f e with
  | no => rw [e1] at h; cases h
  | ex => rw [e1] at h; cases h
  | ok a e2 =>
    rw [e1] at h
    have := hf _ _ _ e1
    subst this
    exact hg a _ _ _ h
theorem Pure.ret {a : α} : Pure (M.ret a) := fun e r e' h => by cases h; rfl
theorem Pure.opt {a : Option α} : Pure (M.opt a) := fun e r e' h => by
  unfold M.opt at h
  cases a <;> cases h
  rfl
theorem Pure.no : Pure (fun _ => (R.no : R α)) := fun e r e' h => by cases h
theorem Pure.var {i : Nat} : Pure (varM i) := fun e r e' h => by
  unfold varM at h
  split at h <;> cases h
  rfl
theorem Pure.truth {f : M D} (h : Pure f) : Pure (truthM f) := h.bind fun _ => .opt
theorem PureP.val {f : M D} (h : Pure f) : PureP (val f) := ⟨h, h.truth⟩
theorem Pure.evs : ∀ {ps : List (M D × M Bool)}, (∀ p, p ∈ ps → PureP p) → Pure (evs ps)
  | [], _ => .ret
  | p :: ps, h => (h p List.mem_cons_self).1.bind fun _ => (Pure.evs fun q hq => h q (List.mem_cons_of_mem _ hq)).bind fun _ => .ret
theorem Pure.andT : ∀ {ps : List (M D × M Bool)}, (∀ p, p ∈ ps → PureP p) → Pure (Mp.andT ps)
  | [], _ => .no
  | [p], h => (h p List.mem_cons_self).2
  | p :: p2 :: ps, h => (h p List.mem_cons_self).2.bind fun b => by
    split
    · exact Pure.andT fun q hq => h q (List.mem_cons_of_mem _ hq)
    · exact .ret
theorem Pure.orT : ∀ {ps : List (M D × M Bool)}, (∀ p, p ∈ ps → PureP p) → Pure (Mp.orT ps)
  | [], _ => .no
  | [p], h => (h p List.mem_cons_self).2
  | p :: p2 :: ps, h => (h p List.mem_cons_self).2.bind fun b => by
    split
    · exact .ret
    · exact Pure.orT fun q hq => h q (List.mem_cons_of_mem _ hq)
theorem Pure.andV : ∀ {ps : List (M D × M Bool)}, (∀ p, p ∈ ps → PureP p) → Pure (Mp.andV ps)
  | [], _ => .no
  | [p], h => (h p List.mem_cons_self).1
  | p :: p2 :: ps, h => (h p List.mem_cons_self).1.bind fun b => by
    split
    · exact Pure.andV fun q hq => h q (List.mem_cons_of_mem _ hq)
    · exact .ret
    · exact .no
theorem Pure.orV : ∀ {ps : List (M D × M Bool)}, (∀ p, p ∈ ps → PureP p) → Pure (Mp.orV ps)
  | [], _ => .no
  | [p], h => (h p List.mem_cons_self).1
  | p :: p2 :: ps, h => (h p List.mem_cons_self).1.bind fun b => by
    split
    · exact .ret
    · exact Pure.orV fun q hq => h q (List.mem_cons_of_mem _ hq)
    · exact .no
theorem Pure.part {ps : List (M D × M Bool)} (h : ∀ p, p ∈ ps → PureP p) : Pure (partM ps) := by
  cases ps with
  | nil => exact .ret
  | cons p ps => exact (h p List.mem_cons_self).1.bind fun d => by split; exact .ret; exact .no
theorem Pure.call {C : Cs} {f : Str} {es : List E} {ps : List (M D × M Bool)} (hl : es.all noLn = true) (h : ∀ p, p ∈ ps → PureP p) : Pure (callM C f es ps) := fun e r e' hh => by
  unfold callM at hh
  cases e1 : Mp.evs ps e with
  | no => rw [e1] at hh; cases hh
  | ex => rw [e1] at hh; cases hh
  | ok ds e2 =>
    rw [e1] at hh
    have := Pure.evs h _ _ _ e1
    subst this
    simp only at hh
    cases e3 : C.cl f ds with
    | no => rw [e3] at hh; cases hh
    | ex => rw [e3] at hh; cases hh
    | ok r ls => rw [e3] at hh; simp only at hh; rw [wb_none hl] at hh; cases hh; rfl
end
mutual
def pureE : E → Bool
  | .v _ => true
  | .ln _ => true
  | .mv _ => false
  | .int _ => true
  | .str _ => true
  | .bl _ => true
  | .non => true
  | .g _ => true
  | .bin _ a b => pureE a && pureE b
  | .neg a => pureE a
  | .not a => pureE a
  | .cmp _ a b => pureE a && pureE b
  | .ch _ _ a b d => pureE a && (pureE b && pureE d)
  | .and es => pureEs es
  | .or es => pureEs es
  | .ite k a b => pureE k && (pureE a && pureE b)
  | .tup es => pureEs es
  | .lst es => pureEs es
  | .dic _ _ _ => false
  | .ix a i => pureE a && pureE i
  | .sl a lo hi => pureE a && (pureEs lo && pureEs hi)
  | .call _ es => es.all noLn && pureEs es
  | .bi _ es => pureEs es
  | .isi a _ => pureE a
  | .me _ o es => pureE o && pureEs es
  | .mu _ _ _ _ => false
  | .lc _ _ _ _ _ => false
  | .fs _ => false
def pureEs : List E → Bool
  | [] => true
  | e :: es => pureE e && pureEs es
end
mutual
theorem pureE_ok (C : Cs) : ∀ {e : E}, pureE e = true → PureP (den C e)
  | .v _, _ => by simp only [den]; exact .val .var
  | .ln _, _ => by simp only [den]; exact .val .var
  | .mv _, h => by cases h
  | .int _, _ => by simp only [den]; exact .val .ret
  | .str _, _ => by simp only [den]; exact .val .ret
  | .bl _, _ => by simp only [den]; exact .val .ret
  | .non, _ => by simp only [den]; exact .val .ret
  | .g _, _ => by simp only [den]; exact .val .opt
  | .bin _ a b, h => by
    simp only [pureE, Bool.and_eq_true] at h
    simp only [den]
    exact .val ((pureE_ok C h.1).1.bind fun _ => (pureE_ok C h.2).1.bind fun _ => .opt)
  | .neg a, h => by simp only [pureE] at h; simp only [den]; exact .val ((pureE_ok C h).1.bind fun _ => .opt)
  | .not a, h => by
    simp only [pureE] at h
    simp only [den]
    exact ⟨(pureE_ok C h).1.truth.bind fun _ => .ret, (pureE_ok C h).2.bind fun _ => .ret⟩
  | .cmp _ a b, h => by
    simp only [pureE, Bool.and_eq_true] at h
    simp only [den]
    exact .val ((pureE_ok C h.1).1.bind fun _ => (pureE_ok C h.2).1.bind fun _ => .opt)
  | .ch _ _ a b d, h => by
    simp only [pureE, Bool.and_eq_true] at h
    simp only [den]
    exact .val ((pureE_ok C h.1).1.bind fun _ => (pureE_ok C h.2.1).1.bind fun _ => Pure.opt.bind fun k => by
      split
      · exact (pureE_ok C h.2.2).1.bind fun _ => .opt
      · exact .ret)
  | .and es, h => by simp only [pureE] at h; simp only [den]; exact ⟨.andV (pureEs_ok C h), .andT (pureEs_ok C h)⟩
  | .or es, h => by simp only [pureE] at h; simp only [den]; exact ⟨.orV (pureEs_ok C h), .orT (pureEs_ok C h)⟩
  | .ite k a b, h => by
    simp only [pureE, Bool.and_eq_true] at h
    simp only [den]
    exact .val ((pureE_ok C h.1).2.bind fun _ => by split; exact (pureE_ok C h.2.1).1; exact (pureE_ok C h.2.2).1)
  | .tup es, h => by simp only [pureE] at h; simp only [den]; exact .val ((Pure.evs (pureEs_ok C h)).bind fun _ => .ret)
  | .lst es, h => by simp only [pureE] at h; simp only [den]; exact .val ((Pure.evs (pureEs_ok C h)).bind fun _ => .ret)
  | .dic _ _ _, h => by cases h
  | .ix a i, h => by
    simp only [pureE, Bool.and_eq_true] at h
    simp only [den]
    exact .val ((pureE_ok C h.1).1.bind fun _ => (pureE_ok C h.2).1.bind fun _ => .opt)
  | .sl a lo hi, h => by
    simp only [pureE, Bool.and_eq_true] at h
    simp only [den]
    exact .val ((pureE_ok C h.1).1.bind fun _ => (Pure.part (pureEs_ok C h.2.1)).bind fun _ => (Pure.part (pureEs_ok C h.2.2)).bind fun _ => .opt)
  | .call _ es, h => by
    simp only [pureE, Bool.and_eq_true] at h
    simp only [den]
    exact .val (.call h.1 (pureEs_ok C h.2))
  | .bi _ es, h => by simp only [pureE] at h; simp only [den]; exact .val ((Pure.evs (pureEs_ok C h)).bind fun _ => .opt)
  | .isi a _, h => by simp only [pureE] at h; simp only [den]; exact .val ((pureE_ok C h).1.bind fun _ => .opt)
  | .me _ o es, h => by
    simp only [pureE, Bool.and_eq_true] at h
    simp only [den]
    exact .val ((pureE_ok C h.1).1.bind fun _ => by
      split
      · exact (Pure.evs (pureEs_ok C h.2)).bind fun _ => .opt
      · exact .no)
  | .mu _ _ _ _, h => by cases h
  | .lc _ _ _ _ _, h => by cases h
  | .fs _, h => by cases h
theorem pureEs_ok (C : Cs) : ∀ {es : List E}, pureEs es = true → ∀ p, p ∈ dens C es → PureP p
  | [], _, p, hp => by simp only [dens] at hp; cases hp
  | e :: es, h, p, hp => by
    simp only [pureEs, Bool.and_eq_true] at h
    simp only [dens, List.mem_cons] at hp
    rcases hp with rfl | hp
    · exact pureE_ok C h.1
    · exact pureEs_ok C h.2 p hp
end
end Mp
/-! Mq5: comprehensions, checked. -/
namespace Mp
open PySem PySem.Spec PyProof.Rows L2

def Sg.blk (S : Sg) (sc : Scope) : Sg := { S with sc := L2.relS sc S.sc, es := none, tr := false, fnl := fun _ => false }
section
variable {S : Sg} {C : Cs} {X : Cx} {c : Cc}
theorem GOk.blk (G : GOk X c C S) {sc : Scope} (hkd : sc.kind = .function) {s : Shared} {H : Hp} {a : Addr} {cl : List (Str × Addr)} {fp : List Addr} : GOk (X.blk s H sc (compEnvC sc cl a X.env) fp) c.blk C (S.blk sc) where
  N := G.N
  sc := by
    show L2.relS sc X.env.scope = L2.relS sc S.sc
    rw [G.sc]
  K := G.K
  nd := G.nd
  hu := G.hu
  calm := G.calm
  pas := fun _ => PassesOwn.never
  tkc := G.tkc
  blt := G.blt
  gl := G.gl
  fn := fun h => ⟨takes0, (G.fn h).2⟩
  exc := G.exc
  exm := G.exm
  exx := G.exx
  kx := G.kx
  kv := G.kv
  ec := G.ec
  fnl := fun x h => by cases h
  kd := hkd
  stk := fun h => by cases h
  es := fun i h => by cases h
  x := G.x
  r := G.r
  ro := G.ro
  pn := G.pn
  pw := G.pw
theorem wPTs {ifs : List Expr} {t t' : TT} (h : PTs X ifs t) (k : ∀ σ H Q, t' σ H Q → t σ H Q) : PTs X ifs t' := ⟨fun pins s σ H Q I z => h.run pins s σ H Q I (k σ H Q z)⟩
end

def joinO : Ows → Ows → Ows
  | a :: as, b :: bs => (if a = b then a else .fr) :: joinO as bs
  | _, _ => []
def vLc : Expr → Option (Expr × Expr × Expr × List Expr × Scope)
  | .ListComp elt [⟨tg, iter, ifs, 0⟩] sc _ => some (elt, tg, iter, ifs, sc)
  | _ => none
theorem vLc_eq {e : Expr} {r : Expr × Expr × Expr × List Expr × Scope} (h : vLc e = some r) : ∃ p, e = .ListComp r.1 [⟨r.2.1, r.2.2.1, r.2.2.2.1, 0⟩] r.2.2.2.2 p := by
  unfold vLc at h
  split at h
  · cases h; exact ⟨_, rfl⟩
  · cases h
def ownOf (N : List Str) (is : List Nat) : List (Str × Nat) := is.map fun i => ((N[i]?).getD "", i)
theorem own_snd {N : List Str} {is : List Nat} : (ownOf N is).map (·.2) = is := by
  unfold ownOf
  rw [List.map_map]
  have : ((fun x : Str × Nat => x.2) ∘ fun i => ((N[i]?).getD "", i)) = id := rfl
  rw [this, List.map_id]
/-- the test of a comprehension -/
def ckTst (ks : List Ck) (ifs : List Expr) (ows : Ows) : TR := match ks, ifs with
  | [], [] => some (ows, true)
  | [k], [e] => k.t e ows
  | _, _ => none
/-- a turn: behind the test, behind the item; its owner; quiet -/
def lcTurn (kt : List Ck) (ke : Ck) (ifs : List Expr) (elt : Expr) (keep : Bool) (ows : Ows) : Option (Ows × Ows × Ow × Bool × Bool) := match ckTst kt ifs ows with
  | some x => (match ke.v elt x.1 with
    | some y => some (x.1, y.1, (if keep = true then y.2.1 else .fr), x.2, y.2.2)
    | none => none)
  | none => none
def fixC (f : Ows → Option (Ows × Ows × Ow × Bool × Bool)) : Nat → Ows → Option (Ows × Ows × Ows × Ow × Bool × Bool)
  | 0, _ => none
  | n + 1, h => match f h with
    | some r => if (weakB 0 r.1 h && weakB 0 r.2.1 h) = true then some (h, r) else fixC f n (joinO h (joinO r.1 r.2.1))
    | none => none
theorem fixC_ok {f : Ows → Option (Ows × Ows × Ow × Bool × Bool)} : ∀ {n : Nat} {h : Ows} {r : Ows × Ows × Ows × Ow × Bool × Bool}, fixC f n h = some r → f r.1 = some r.2 ∧ weakB 0 r.2.1 r.1 = true ∧ weakB 0 r.2.2.1 r.1 = true
  | 0, _, _, e => by cases e
  | n + 1, h, r, e => by
    unfold fixC at e
    split at e
    · rename_i x ex
      split at e
      · rename_i hw
        cases e
        simp only [Bool.and_eq_true] at hw
        exact ⟨ex, hw.1, hw.2⟩
      · exact fixC_ok e
    · cases e
/-- what a comprehension needs: its head, its result's owner, quiet -/
def lcX (S : Sg) (t : T) (k : IK) (ks : List Ck) (fe : Sg → Ck) (fc : Sg → List Ck) (pu keep : Bool) (pe : Expr) (ows : Ows) : Option (Ows × Ow × Bool) := match vLc pe with
  | some e => if (pu && (S.calm && (noSet' e.2.2.1 && (L2.blkC S.N S.sc e.2.2.2.2 (ownOf S.N t.slots) && (tgOk S.N (S.blk e.2.2.2.2).loc (fun i => S.pins.contains i) t e.2.1 && t.slots.all fun i => !S.pins.contains i))))) = true then
      (match ckI S k ks e.2.1 e.2.2.1 ows with
      | some i1 => (match fixC (fun h => lcTurn (fc (S.blk e.2.2.2.2)) (fe (S.blk e.2.2.2.2)) e.2.2.2.1 e.1 keep (frs h t.slots)) 8 i1.1 with
        | some r => if weakB 0 i1.1 r.1 = true then some (r.1, .ow r.2.2.2.1, i1.2 && (r.2.2.2.2.1 && r.2.2.2.2.2)) else none
        | none => none)
      | none => none) else none
  | none => none
section
variable {S : Sg} {C : Cs} {X : Cx} {c : Cc}
theorem ckTst_ok (G : GOk X c C S) {ks : List Ck} {ps : List (M D × M Bool)} {ifs : List Expr} {ows : Ows} {r : Ows × Bool} (hs : CksOk S C ks ps) (h : ckTst ks ifs ows = some r) : PTs X ifs (tB_ c (cM ps) ows r.1 r.2) := by
  unfold ckTst at h
  split at h
  · cases h
    match ps, hs with
    | [], _ =>
      refine wPTs pts_nil fun σ H Q ⟨w, env, hw, sr, z⟩ => ?_
      subst hw
      exact z w Ext.refl sr fun _ => fun _ _ e => e
    | _ :: _, hs => exact hs.elim
  · match ps, hs with
    | [p], hs => exact pts_one ((hs.1 X c G).2.2 _ _ _ h)
    | [], hs => exact hs.elim
    | _ :: _ :: _, hs => exact hs.2.elim
  · cases h
/-- the parts of a comprehension -/
theorem lcX_ok (G : GOk X c C S) {t : T} {k : IK} {ks : List Ck} {ps pc : List (M D × M Bool)} {fe : Sg → Ck} {fc : Sg → List Ck} {pe' : M D × M Bool} {pu keep : Bool} (hs : CksOk S C ks ps) (he : ∀ S', CkOk S' C (fe S') pe') (hc : ∀ S', CksOk S' C (fc S') pc) (hpu : pu = true → Pure pe'.1 ∧ Pure (cM pc))
    {pe : Expr} {ows : Ows} {r : Ows × Ow × Bool} (h : lcX S t k ks fe fc pu keep pe ows = some r) :
    ∃ elt tg iter ifs sc pos te wi tt, pe = .ListComp elt [⟨tg, iter, ifs, 0⟩] sc pos ∧ X.calm = true ∧ PI X tg iter wi ∧ BlkOk X.N X.env.scope sc (ownOf S.N t.slots) ∧
      (∃ g, (∀ (s : Shared) (H : Hp) (a : Addr) (cl : List (Str × Addr)) (fp : List Addr), PG (X.blk s H sc (compEnvC sc cl a X.env) fp) tg g) ∧ (∀ (s : Shared) (H : Hp) (a : Addr) (cl : List (Str × Addr)) (fp : List Addr), PTs (X.blk s H sc (compEnvC sc cl a X.env) fp) ifs tt) ∧
      (∀ (s : Shared) (H : Hp) (a : Addr) (cl : List (Str × Addr)) (fp : List Addr), PE (X.blk s H sc (compEnvC sc cl a X.env) fp) elt te) ∧ (∀ x, foldedSetIterable iter X.env x = pure x) ∧
      ∀ σ H Q, tV c (lcM pe'.1 t k ps pc) ows r.1 r.2.1 r.2.2 σ H Q → tLc wi g tt te ((ownOf S.N t.slots).map (·.2)) σ H Q) := by
  unfold lcX at h
  split at h
  · rename_i e hv
    split at h
    · rename_i hn
      split at h
      · rename_i i1 ei
        split at h
        · rename_i rr er
          split at h
          · rename_i hw
            cases h
            simp only [Bool.and_eq_true, List.all_eq_true, Bool.not_eq_true'] at hn
            obtain ⟨n1, n2, n3, n4, n5, n6⟩ := hn
            obtain ⟨pos, rfl⟩ := vLc_eq hv
            obtain ⟨f1, f2, f3⟩ := fixC_ok er
            unfold lcTurn at f1
            split at f1
            · rename_i x ex
              split at f1
              · rename_i y ey
                have e2 := Option.some.inj f1
                obtain ⟨pu1, pu2⟩ := hpu n1
                have hkd : e.2.2.2.2.kind = .function := (blkOk_by n4).kind
                have hp : ∀ i, i ∈ t.slots → c.pn i = none := fun i hi => G.pn i (by simpa using n6 i hi)
                have hel : ∀ (s : Shared) (H : Hp) (a : Addr) (cl : List (Str × Addr)) (fp : List Addr), PE (X.blk s H e.2.2.2.2 (compEnvC e.2.2.2.2 cl a X.env) fp) e.1 (tV c.blk pe'.1 rr.2.1 rr.2.2.1 rr.2.2.2.1 rr.2.2.2.2.2) := fun s H a cl fp => by
                  rw [← e2]
                  simp only
                  have hq := (he (S.blk e.2.2.2.2) _ _ (G.blk hkd (s := s) (H := H) (a := a) (cl := cl) (fp := fp))).1 _ _ y ey
                  split
                  · exact hq
                  · exact keep_fr hq
                have hts : ∀ (s : Shared) (H : Hp) (a : Addr) (cl : List (Str × Addr)) (fp : List Addr), PTs (X.blk s H e.2.2.2.2 (compEnvC e.2.2.2.2 cl a X.env) fp) e.2.2.2.1 (tB_ c.blk (cM pc) (frs rr.1 t.slots) rr.2.1 rr.2.2.2.2.1) := fun s H a cl fp => by
                  rw [← e2]
                  exact ckTst_ok (G.blk hkd (s := s) (H := H) (a := a) (cl := cl) (fp := fp)) (hc _) ex
                refine ⟨e.1, e.2.1, e.2.2.1, e.2.2.2.1, e.2.2.2.2, pos, _, _, _, rfl, G.calm n2, ckI_ok G hs ei, by rw [G.N, G.sc]; exact blkOk_by n4, tgT c.blk t rr.1, fun s H a cl fp => ?_, hts, hel, folded_no n3, ?_⟩
                · have GB := G.blk hkd (s := s) (H := H) (a := a) (cl := cl) (fp := fp)
                  exact pg_tg (pn := fun i => S.pins.contains i) GB.loc (G.calm n2) G.K G.nd (fun i h => G.pn i (by simpa using h)) (by rw [GB.N]; exact n5)
                · rw [own_snd]
                  exact lc_imp pu1 pu2 hp hw f2 f3
              · cases f1
            · cases f1
          · cases h
        · cases h
      · cases h
    · cases h
  · cases h
def ckLc (S : Sg) (t : T) (k : IK) (ks : List Ck) (fe : Sg → Ck) (fc : Sg → List Ck) (pu keep : Bool) : Ck := mkV fun pe ows => lcX S t k ks fe fc pu keep pe ows
theorem ckLc_ok {t : T} {k : IK} {ks : List Ck} {ps pc : List (M D × M Bool)} {fe : Sg → Ck} {fc : Sg → List Ck} {pe' : M D × M Bool} {pu keep : Bool} (hs : CksOk S C ks ps) (he : ∀ S', CkOk S' C (fe S') pe') (hc : ∀ S', CksOk S' C (fc S') pc) (hpu : pu = true → Pure pe'.1 ∧ Pure (cM pc)) :
    CkOk S C (ckLc S t k ks fe fc pu keep) (val (lcM pe'.1 t k ps pc)) := mkV_ok fun X c G pe ows r h => by
  obtain ⟨elt, tg, iter, ifs, sc, pos, te, wi, tt, rfl, h1, h2, h3, g, h4, h5, h6, h7, h8⟩ := lcX_ok G hs he hc hpu h
  exact wPE (pe_lc h1 G.nd h2 h3 h4 h5 h6 h7) h8
/-- items that are kept as their owner's -/
def ownE : E → Bool
  | .lst _ => true
  | .bi .list _ => true
  | .lc _ _ _ _ _ => true
  | _ => false
theorem pure_cM {C : Cs} {cs : List E} (h : pureEs cs = true) : Pure (cM (dens C cs)) := by
  cases cs with
  | nil => simp only [dens]; exact .ret
  | cons e es =>
    simp only [pureEs, Bool.and_eq_true] at h
    simp only [dens]
    exact (pureE_ok C h.1).2
end
end Mp
/-! Mq8: sorted of ints; d.get; written dicts. -/
namespace Mp
open PySem PySem.Spec PyProof.Rows L2

/-! ### the one arrangement -/
theorem insI_perm (x : Int) : ∀ xs : List Int, (insI x xs).Perm (x :: xs)
  | [] => .refl _
  | y :: ys => by
    unfold insI
    split
    · exact .refl _
    · exact ((insI_perm x ys).cons y).trans (.swap x y ys)
theorem sortI_perm : ∀ xs : List Int, (sortI xs).Perm xs
  | [] => .refl _
  | x :: xs => by
    unfold sortI
    exact (insI_perm x (sortI xs)).trans ((sortI_perm xs).cons x)
theorem insI_sorted (x : Int) : ∀ {xs : List Int}, xs.Pairwise (· ≤ ·) → (insI x xs).Pairwise (· ≤ ·)
  | [], _ => by simp [insI]
  | y :: ys, h => by
    unfold insI
    split
    · rename_i hle
      rw [List.pairwise_cons]
      refine ⟨fun z hz => ?_, h⟩
      rcases List.mem_cons.mp hz with rfl | hz
      · exact hle
      · exact Int.le_trans hle ((List.pairwise_cons.mp h).1 z hz)
    · rename_i hle
      have h' := List.pairwise_cons.mp h
      rw [List.pairwise_cons]
      refine ⟨fun z hz => ?_, insI_sorted x h'.2⟩
      rcases List.mem_cons.mp ((insI_perm x ys).mem_iff.mp hz) with rfl | hz
      · omega
      · exact h'.1 z hz
theorem sortI_sorted : ∀ xs : List Int, (sortI xs).Pairwise (· ≤ ·)
  | [] => .nil
  | x :: xs => insI_sorted x (sortI_sorted xs)
theorem sortI_only {ns ns' : List Int} (h1 : ns'.Perm ns) (h2 : ns'.Pairwise (· ≤ ·)) : ns' = sortI ns :=
  List.Perm.eq_of_pairwise (le := (· ≤ ·)) (fun a b _ _ h h' => Int.le_antisymm h h') h2 (sortI_sorted ns) (h1.trans (sortI_perm ns).symm)
section
variable {X : Cx} {c : Cc} {f g : M D} {ows ows1 ows2 ows3 ows' : Ows} {o oa ok : Ow} {q : Bool} {b e1 e2 e pe : Expr} {pos : Pos}
abbrev rSortA (K : PySem.W.Frag) : RC := fun xs H Q => rSortedI K xs H Q ∨ (∃ (a : Addr) (kvs : List (Key × V)) (ks : List Int), xs = [.ref a] ∧ Rd H a (.dK kvs) ∧ kvs.map (·.1) = ks.map Sum.inl ∧ ks.length < 64 ∧
    ∀ (ys : List Int) (p : Addr), ys.Perm ks → ys.Pairwise (· ≤ ·) → H p = none → Q (.ref p) (upd H p (.lst (ys.map V.int))))
theorem reps_ints {K : PySem.W.Frag} {H : Hp} {Z : AS} : ∀ {ns : List Int}, Reps K H Z (ns.map D.int) (ns.map V.int)
  | [] => by unfold Reps; rfl
  | n :: ns => by
    show Reps K H Z (D.int n :: ns.map D.int) (V.int n :: ns.map V.int)
    unfold Reps
    exact ⟨_, _, rfl, by unfold Rep; rfl, reps_ints⟩
theorem kD_ints : ∀ {kvs : List (Key × V)} {ks : List Int}, D.ints (kvs.map fun p => kD p.1) = some ks → kvs.map (·.1) = ks.map Sum.inl
  | [], ks, h => by cases h; rfl
  | (k, v) :: kvs, ks, h => by
    cases k with
    | inr x => simp [D.ints, kD] at h
    | inl i =>
      simp only [List.map_cons, kD, D.ints] at h
      obtain ⟨r, h1, rfl⟩ := Option.map_eq_some_iff.mp h
      simp [kD_ints h1]
theorem ok_sorted {K : PySem.W.Frag} : OkN K (bF .sorted) (.ow .fr) (rSortA K) shal := by
  intro w os ds vs d Q sh rr e k
  match ds, e with
  | [.lst xs], e =>
    obtain ⟨o, v, A, rfl, rfl, r⟩ := rr.one
    obtain ⟨ys, e1, rfl⟩ := Option.map_eq_some_iff.mp (show (sortD xs).map D.lst = some d from e)
    obtain ⟨ns, e2, rfl⟩ := Option.map_eq_some_iff.mp (show (D.ints xs).map (fun ns => (sortI ns).map D.int) = some ys from e1)
    obtain ⟨a, us, rfl, h1, h2⟩ := r.lstR (by simpa using sh)
    obtain ⟨rfl, _⟩ := ints_reps e2 h2
    refine .inl ⟨a, ns, rfl, SqL.of h1, fun ns' p hp hs hn => ?_⟩
    rw [sortI_only hp hs]
    exact k (w.upd p (.lst ((sortI ns).map V.int))) _ _ (Alloc.new hn) (RO.newl hn reps_ints)
  | [.dct false ks us], e =>
    obtain ⟨o, v, A, rfl, rfl, r⟩ := rr.one
    have e' : (if ks.length < 64 then (sortD ks).map D.lst else none) = some d := e
    by_cases h64 : ks.length < 64
    · rw [if_pos h64] at e'
      obtain ⟨ys, e1, rfl⟩ := Option.map_eq_some_iff.mp e'
      obtain ⟨ns, e2, rfl⟩ := Option.map_eq_some_iff.mp (show (D.ints ks).map (fun ns => (sortI ns).map D.int) = some ys from e1)
      obtain ⟨a, xs, rfl, h1, _⟩ := r.dctR (by simpa using sh)
      obtain ⟨_, ⟨_, kvs, g1, g2, _⟩ | ⟨z, _⟩⟩ := h1
      · rw [g2] at e2
        have hk := kD_ints e2
        have hlen : ns.length = ks.length := by
          have := congrArg List.length hk
          rw [List.length_map, List.length_map] at this
          rw [g2, List.length_map, this]
        refine .inr ⟨a, kvs, ns, rfl, .inl g1, hk, by omega, fun ys p hp hs hn => ?_⟩
        rw [sortI_only hp hs]
        exact k (w.upd p (.lst ((sortI ns).map V.int))) _ _ (Alloc.new hn) (RO.newl hn reps_ints)
      · cases z
    · rw [if_neg h64] at e'; cases e'
theorem pv_sorted {os : List Ow} {fs : M (List D)} {p : Pos} (hc : X.calm = true) (hK : X.K = c.K) (hg : Gl X "sorted") (hm : X.mg "sorted" = none) (hst : noStar e = true) (ha : PA X [e] (tAR c fs ows ows' os q)) (hs : os.all shal = true) :
    PE X (.Call (.Name "sorted" p) [e] [] pos) (tV c (M.bind fs fun ds => M.opt (bF .sorted ds)) ows ows' (.ow .fr) q) :=
  pv_okN (r := rSortA c.K) (fun h => pe_callB (by rw [← hK]; exact cr_sortedI.or (call_sortedDI hc)) hg hm PyProof.Rows.boot_sorted h (by decide) (by decide) (star_cons hst) (star_any (es := []) rfl)) ha ok_sorted hs

/-! ### {} -/
theorem pv_dic0 : PE X (.Dict [] [] pos) (tV c (M.ret (.dct false [] [])) ows ows (.ow .fr) true) := by
  refine wPE pe_dnewK fun σ H Q ⟨w, env, hw, sr, z⟩ => ?_
  subst hw
  intro p hp
  have al : Alloc w (w.upd p (.dK [])) (fun a => a = p) := Alloc.new hp
  refine z (w.upd p (.dK [])) _ _ al.ext (al.sr sr) ?_ (al.tmp sr) fun _ => al.quiet
  exact ⟨p, [], _, _, rfl, ⟨.nil, .inl ⟨rfl, [], upd_same, rfl, rfl⟩⟩, Items.nil, fun z => z, fun b => by simp⟩

/-! ### d.get(k, x) -/
theorem dctD {K : PySem.W.Frag} {H : Hp} {a : Addr} {t : Bool} {ks : List D} {xs : List V} (h : DcAt H a t ks xs) : IsD H a := by
  obtain ⟨_, ⟨_, kvs, e, _⟩ | ⟨_, kvs, e, _⟩⟩ := h
  · exact .inl ⟨kvs, .inl e⟩
  · exact .inr ⟨kvs, .inl e⟩
theorem pv_get2 {p1 p2 : M D × M Bool} {fb : M D} {apos cpos : Pos} (hu : X.A.units + 1 < cLine) (hpb : plainB b = true) (hline : (apos.endLine == cpos.line) = true) (hs1 : noStar e1 = true) (hs2 : noStar e2 = true) (hb : PE X b (tR c fb ows ows1 oa q)) (h1 : PE X e1 (tR c p1.1 ows1 ows2 ok true)) (h2 : PE X e2 (tV c p2.1 ows2 ows3 .fr true)) (sh : shal oa = true) :
    PE X (.Call (.Attribute b "get" apos) [e1, e2] [] cpos) (tV c (M.bind fb fun x => if meOk .get2 x = true then M.bind (evs [p1, p2]) fun ds => M.opt (meF .get2 x ds) else fun _ => .no) ows ows3 .fr q) := by
  refine wPE (pe_dget2 hu hb h1 h2 ⟨base_of hpb, by rw [star_cons hs1, star_cons hs2]; rfl, hline, by rw [star_cons hs1, star_cons hs2]; rfl⟩) fun σ H Q ⟨w, env, hw, sr, z⟩ => ⟨w, env, hw, sr, ?_⟩
  unfold M.bind at z
  cases e1 : fb env with
  | no => rw [e1] at z; exact z
  | ex n env1 => rw [e1] at z; exact z
  | ok l env1 =>
    rw [e1] at z
    intro w1 v1 A1 x1 s1 r1 k1
    simp only at z
    by_cases hm : meOk .get2 l = true
    · rw [if_pos hm] at z
      have hl : ∃ t ks vs, l = .dct t ks vs := by cases l <;> simp [meOk] at hm; exact ⟨_, _, _, rfl⟩
      obtain ⟨t, ks, vs, rfl⟩ := hl
      obtain ⟨a, xs, rfl, hd, hr⟩ := r1.dctR sh
      refine ⟨a, rfl, dctD (K := c.K) hd, w1, env1, rfl, s1, ?_⟩
      simp only [evs, M.bind, M.ret] at z
      cases e2 : p1.1 env1 with
      | no => rw [e2] at z; exact z
      | ex n env2 => rw [e2] at z; exact exK.mono x1 z
      | ok dk env2 =>
        rw [e2] at z
        intro w2 vk Ak x2 s2 rk k2
        simp only at z
        refine ⟨w2, env2, rfl, s2, ?_⟩
        cases e3 : p2.1 env2 with
        | no => rw [e3] at z; exact z
        | ex n env3 => rw [e3] at z; exact exK.mono (x1.trans x2) z
        | ok dd env3 =>
          rw [e3] at z
          intro w3 vd Ad x3 s3 rd td k3
          have r1' : RO c.K w3.H w3.Z oa (.dct t ks vs) (.ref a) A1 := r1.keep (fun b h => x3.z b (x2.z b h)) fun b q e _ => k3 rfl b q (k2 rfl b q e)
          have rk' : RO c.K w3.H w3.Z ok dk vk Ak := rk.keep x3.z fun b q e _ => k3 rfl b q e
          obtain ⟨a', xs', ea, hd', hr'⟩ := r1'.dctR sh
          cases ea
          have em : meF .get2 (.dct t ks vs) [dk, dd] = if keyD t dk then some ((dGet ks vs dk).getD dd) else none := rfl
          simp only [M.opt] at z
          by_cases hk : keyD t dk = true
          · rw [em, if_pos hk] at z
            cases t with
            | true => cases hk
            | false =>
              obtain ⟨key, rfl, hv⟩ := kd_of hk
              cases hv _ _ _ _ _ _ rk'
              obtain ⟨kvs, g1, g2, g3, g4⟩ := dk_get (key := key) hd'
              refine ⟨valV kvs key, DGet.k g1, ?_⟩
              have qq : q = true → Quiet w w3 := fun h => fun a b e => k3 rfl a b (k2 rfl a b (k1 h a b e))
              cases eg : dGet ks vs (kD key) with
              | none =>
                have hn := dGet_no (by rw [← hr'.len, g2]) eg
                rw [g4 hn]
                rw [eg] at z
                exact z w3 vd (fun _ => False) ((x1.trans x2).trans x3) s3 ⟨rd.1, fun _ z => z⟩ Tmp.nil qq
              | some d =>
                obtain ⟨j, j1, j2, _⟩ := dGet_at eg
                obtain ⟨x, ex, rx⟩ := hr'.get j2
                rw [g3 j x j1 ex]
                rw [eg] at z
                exact z w3 x (fun _ => False) ((x1.trans x2).trans x3) s3 ⟨rx, fun _ z => z⟩ Tmp.nil qq
          · rw [em, if_neg hk] at z; exact z.elim
    · rw [if_neg hm] at z; exact z.elim
end

/-! ### checked -/
def vM2 : Expr → Option (Expr × Str × Pos × Expr × Expr × Pos)
  | .Call (.Attribute b m ap) [e, f] [] cp => some (b, m, ap, e, f, cp)
  | _ => none
theorem vM2_eq {e : Expr} {r : Expr × Str × Pos × Expr × Expr × Pos} (h : vM2 e = some r) : e = .Call (.Attribute r.1 r.2.1 r.2.2.1) [r.2.2.2.1, r.2.2.2.2.1] [] r.2.2.2.2.2 := by
  unfold vM2 at h
  split at h
  · cases h; rfl
  · cases h
def isDict0 : Expr → Bool
  | .Dict [] [] _ => true
  | _ => false
section
variable {S : Sg} {C : Cs} {X : Cx} {c : Cc}
def ckSorted (S : Sg) (ks : List Ck) : Ck := mkV fun pe ows => match vCall pe with
  | some e => if (decide (e.1 = ("sorted" : Str)) && (S.glo "sorted" && (S.calm && (e.2.2.isEmpty && noStar e.2.1)))) = true then (match ckAR ks [e.2.1] ows with
    | some x => if x.2.1.all shal = true then some (x.1, .ow .fr, x.2.2) else none
    | none => none) else none
  | none => none
theorem ckSorted_ok {ks : List Ck} {ps : List (M D × M Bool)} (hs : CksOk S C ks ps) : CkOk S C (ckSorted S ks) (val (M.bind (evs ps) fun ds => M.opt (bF .sorted ds))) := mkV_ok fun X c G pe ows r h => by
  split at h
  · rename_i e he
    split at h
    · rename_i hk
      split at h
      · rename_i x ex
        split at h
        · rename_i hw
          cases h
          simp only [Bool.and_eq_true, decide_eq_true_eq] at hk
          obtain ⟨h1, h2, h3, h4, h5⟩ := hk
          obtain ⟨p1, p2, rfl⟩ := vCall_eq he
          obtain ⟨i1, i2, i3⟩ := ckAR_ok G hs ex
          obtain ⟨f, b, rs⟩ := e
          have h4' : rs = [] := by cases rs with | nil => rfl | cons => cases h4
          subst h4' h1
          exact pv_sorted (G.calm h3) G.K (G.glo h2) (G.blt _ (by decide +kernel)) h5 i1 hw
        · cases h
      · cases h
    · cases h
  · cases h
def ckDic0 : Ck := mkV fun pe ows => if isDict0 pe = true then some (ows, .ow .fr, true) else none
theorem ckDic0_ok : CkOk S C ckDic0 (val (dicM false [] [])) := mkV_ok fun X c G pe ows r h => by
  split at h
  · rename_i hd
    cases h
    unfold isDict0 at hd
    split at hd
    · exact pv_dic0
    · cases hd
  · cases h
def ckGet2 (S : Sg) (a k1 k2 : Ck) : Ck := mkV fun pe ows => match vM2 pe with
  | some e => if (decide (e.2.1 = ("get" : Str)) && (plainB e.1 && ((e.2.2.1.endLine == e.2.2.2.2.2.line) && (noStar e.2.2.2.1 && noStar e.2.2.2.2.1)))) = true then (match a.r e.1 ows with
    | some x => (match k1.r e.2.2.2.1 x.1 with
      | some y => (match k2.v e.2.2.2.2.1 y.1 with
        | some z => if (y.2.2 && (z.2.2 && shal x.2.1)) = true then some (z.1, .fr, x.2.2) else none
        | none => none)
      | none => none)
    | none => none) else none
  | none => none
theorem ckGet2_ok {a k1 k2 : Ck} {p p1 p2 : M D × M Bool} (ha : CkOk S C a p) (h1 : CkOk S C k1 p1) (h2 : CkOk S C k2 p2) : CkOk S C (ckGet2 S a k1 k2) (val (M.bind p.1 fun x => if meOk .get2 x = true then M.bind (evs [p1, p2]) fun ds => M.opt (meF .get2 x ds) else fun _ => .no)) := mkV_ok fun X c G pe ows r h => by
  split at h
  · rename_i e he
    split at h
    · rename_i hn
      split at h
      · rename_i x ex
        split at h
        · rename_i y ey
          split at h
          · rename_i z ez
            split at h
            · rename_i hq
              cases h
              simp only [Bool.and_eq_true, decide_eq_true_eq] at hn hq
              obtain ⟨n1, n2, n3, n4, n5⟩ := hn
              have := vM2_eq he
              subst this
              rw [n1]
              have hv1 := (h1 X c G).2.1 _ _ y ey
              rw [hq.1] at hv1
              have hv2 := keep_fr ((h2 X c G).1 _ _ z ez)
              rw [hq.2.1] at hv2
              exact pv_get2 (by have := G.hu; omega) n2 n3 n4 n5 ((ha X c G).2.1 _ _ x ex) hv1 hv2 hq.2.2
            · cases h
          · cases h
        · cases h
      · cases h
    · cases h
  · cases h
end
end Mp
/-! Mp16: the checker, construct by construct. -/
namespace Mp
open PySem PySem.Spec PyProof.Rows L2

theorem noDbg1 {x : Str} (h : noDbg x = true) : (x == ("__debug__" : Str)) = false := by
  unfold noDbg at h
  simp only [Bool.and_eq_true, Bool.not_eq_true'] at h
  exact h.1
theorem noDbg2 {x : Str} (h : noDbg x = true) : (x == ("__classdict__" : Str)) = false := by
  unfold noDbg at h
  simp only [Bool.and_eq_true, Bool.not_eq_true'] at h
  exact h.2
def nmOk (S : Sg) (i : Nat) (pe : Expr) : Bool := match vName pe with
  | some x => decide (S.N[i]? = some x) && (S.vis x && noDbg x)
  | none => false
def noCk : Ck := ⟨fun _ _ => none, fun _ _ => none, fun _ _ => none⟩
theorem noCk_ok {S : Sg} {C : Cs} {p : M D × M Bool} : CkOk S C noCk p := fun _ _ _ => ⟨fun _ _ _ h => (nomatch h), fun _ _ _ h => (nomatch h), fun _ _ _ h => (nomatch h)⟩
section
variable {S : Sg} {C : Cs} {X : Cx} {c : Cc}
theorem nmOk_eq (G : GOk X c C S) {i : Nat} {pe : Expr} (h : nmOk S i pe = true) : ∃ x p, pe = .Name x p ∧ X.N[i]? = some x ∧ Vis X.env.scope x ∧ (x == ("__debug__" : Str)) = false ∧ (x == ("__classdict__" : Str)) = false := by
  unfold nmOk at h
  split at h
  · rename_i x e
    obtain ⟨p, rfl⟩ := vName_eq e
    simp only [Bool.and_eq_true, decide_eq_true_eq] at h
    exact ⟨x, p, rfl, by rw [G.N]; exact h.1, G.vis h.2.1, noDbg1 h.2.2, noDbg2 h.2.2⟩
  · cases h
def ckVar (S : Sg) (i : Nat) : Ck := ⟨fun pe ows => if nmOk S i pe = true then some (ows.set i .fr, .fr, true) else none, fun pe ows => if nmOk S i pe = true then some (ows, owAt ows i, true) else none, mkT fun pe ows => if nmOk S i pe = true then some (ows, owAt ows i, true) else none⟩
theorem ckVar_ok {i : Nat} : CkOk S C (ckVar S i) (val (varM i)) := fun X c G => by
  have hr : ∀ pe ows r, (ckVar S i).r pe ows = some r → PE X pe (tR c (varM i) ows r.1 r.2.1 r.2.2) := fun pe ows r h => by
    simp only [ckVar] at h
    split at h
    · rename_i hn
      cases h
      obtain ⟨x, p, rfl, h1, h2, h3, h4⟩ := nmOk_eq G hn
      exact pr_var h1 h2 h3 h4
    · cases h
  refine ⟨fun pe ows r h => ?_, hr, mkT_ok G hr⟩
  simp only [ckVar] at h
  split at h
  · rename_i hn
    cases h
    obtain ⟨x, p, rfl, h1, h2, h3, h4⟩ := nmOk_eq G hn
    exact pv_var h1 h2 h3 h4
  · cases h
def ckMv (S : Sg) (i : Nat) : Ck := mkV fun pe ows => if nmOk S i pe = true then some (ows.set i .fr, owAt ows i, true) else none
theorem ckMv_ok {i : Nat} : CkOk S C (ckMv S i) (val (mvM i)) := mkV_ok fun X c G pe ows r h => by
  split at h
  · rename_i hn
    cases h
    obtain ⟨x, p, rfl, h1, h2, h3, h4⟩ := nmOk_eq G hn
    exact pv_mv h1 h2 h3 h4
  · cases h
def ckK (k : Const) : Ck := mkV fun pe ows => if decide (vConst pe = some k) = true then some (ows, .ow .fr, true) else none
theorem ckInt_ok {i : Int} : CkOk S C (ckK (.int i)) (val (M.ret (.int i))) := mkV_ok fun X c G pe ows r h => by
  split at h
  · rename_i hn
    cases h
    obtain ⟨j, p, rfl⟩ := vConst_eq (of_decide_eq_true hn)
    exact pv_int
  · cases h
theorem ckStr_ok {i : Str} : CkOk S C (ckK (.str i)) (val (M.ret (.str i))) := mkV_ok fun X c G pe ows r h => by
  split at h
  · rename_i hn
    cases h
    obtain ⟨j, p, rfl⟩ := vConst_eq (of_decide_eq_true hn)
    exact pv_str
  · cases h
theorem ckBl_ok {i : Bool} : CkOk S C (ckK (.bool i)) (val (M.ret (.bl i))) := mkV_ok fun X c G pe ows r h => by
  split at h
  · rename_i hn
    cases h
    obtain ⟨j, p, rfl⟩ := vConst_eq (of_decide_eq_true hn)
    exact pv_bl
  · cases h
theorem ckNon_ok : CkOk S C (ckK .none) (val (M.ret .non)) := mkV_ok fun X c G pe ows r h => by
  split at h
  · rename_i hn
    cases h
    obtain ⟨j, p, rfl⟩ := vConst_eq (of_decide_eq_true hn)
    exact pv_non
  · cases h
def ckG (S : Sg) (x : Str) : Ck := mkV fun pe ows => if (decide (vName pe = some x) && (S.gl x && (S.glo x && noDbg x))) = true then some (ows, .fr, true) else none
theorem ckG_ok {x : Str} : CkOk S C (ckG S x) (val (M.opt (C.gl x))) := mkV_ok fun X c G pe ows r h => by
  split at h
  · rename_i hn
    cases h
    simp only [Bool.and_eq_true, decide_eq_true_eq] at hn
    obtain ⟨p, rfl⟩ := vName_eq hn.1
    obtain ⟨d, v, u, h1, h2, h3, h4⟩ := G.gl x hn.2.1
    exact pv_glob (G.glo hn.2.2.1) h1 h2 h3 h4 (noDbg1 hn.2.2.2)
  · cases h
def ckBin (k : BO) (a b : Ck) : Ck := mkV fun pe ows => match vBin pe with
  | some e => if decide (e.2.1 = opB k) = true then (match a.r e.1 ows with
    | some x => (match b.r e.2.2 x.1 with
      | some y => if (y.2.2 && (shal x.2.1 && shal y.2.1)) = true then some (y.1, .ow .fr, x.2.2) else none
      | none => none)
    | none => none) else none
  | none => none
theorem ckBin_ok {k : BO} {a b : Ck} {p q : M D × M Bool} (ha : CkOk S C a p) (hb : CkOk S C b q) : CkOk S C (ckBin k a b) (val (op2 (binD k) p.1 q.1)) := mkV_ok fun X c G pe ows r h => by
  split at h
  · rename_i e he
    split at h
    · rename_i hk
      split at h
      · rename_i x ex
        split at h
        · rename_i y ey
          split at h
          · rename_i hs
            cases h
            simp only [Bool.and_eq_true] at hs
            obtain ⟨pos, rfl⟩ := vBin_eq he
            rw [of_decide_eq_true hk]
            have h2 := (hb X c G).2.1 _ _ y ey
            rw [hs.1] at h2
            exact pv_bin G.K ((ha X c G).2.1 _ _ x ex) h2 hs.2.1 hs.2.2
          · cases h
        · cases h
      · cases h
    · cases h
  · cases h
def ckNeg (a : Ck) : Ck := mkV fun pe ows => match vUn pe with
  | some e => if decide (e.1 = .USub) = true then (match a.r e.2 ows with
    | some x => some (x.1, .ow .fr, x.2.2)
    | none => none) else none
  | none => none
theorem ckNeg_ok {a : Ck} {p : M D × M Bool} (ha : CkOk S C a p) : CkOk S C (ckNeg a) (val (op1 negD p.1)) := mkV_ok fun X c G pe ows r h => by
  split at h
  · rename_i e he
    split at h
    · rename_i hk
      split at h
      · rename_i x ex
        cases h
        obtain ⟨pos, rfl⟩ := vUn_eq he
        rw [of_decide_eq_true hk]
        exact pv_neg ((ha X c G).2.1 _ _ x ex)
      · cases h
    · cases h
  · cases h
def vNot (pe : Expr) : Option Expr := match vUn pe with
  | some e => if decide (e.1 = .Not) = true then some e.2 else none
  | none => none
theorem vNot_eq {pe e : Expr} (h : vNot pe = some e) : ∃ p, pe = .UnaryOp .Not e p := by
  unfold vNot at h
  split at h
  · rename_i r he
    split at h
    · rename_i hk
      cases h
      obtain ⟨pos, rfl⟩ := vUn_eq he
      rw [of_decide_eq_true hk]
      exact ⟨_, rfl⟩
    · cases h
  · cases h
def ckNotV (a : Ck) : Expr → Ows → VR := fun pe ows => match vNot pe with
  | some e => (match a.r e ows with
    | some x => some (x.1, .ow .fr, x.2.2)
    | none => none)
  | none => none
def ckNot (a : Ck) : Ck := ⟨ckNotV a, ckNotV a, fun pe ows => match vNot pe with
  | some e => a.t e ows
  | none => none⟩
theorem ckNot_ok {a : Ck} {p : M D × M Bool} (ha : CkOk S C a (p.1, p.2)) : CkOk S C (ckNot a) (notT p) := fun X c G => by
  have hv : ∀ pe ows r, ckNotV a pe ows = some r → PE X pe (tV c (notT p).1 ows r.1 r.2.1 r.2.2) := fun pe ows r h => by
    unfold ckNotV at h
    split at h
    · rename_i e he
      split at h
      · rename_i x ex
        cases h
        obtain ⟨pos, rfl⟩ := vNot_eq he
        exact pv_notM ((ha X c G).2.1 _ _ x ex) G.K
      · cases h
    · cases h
  refine ⟨hv, fun pe ows r h => look_of (hv pe ows r h), fun pe ows r h => ?_⟩
  simp only [ckNot] at h
  split at h
  · rename_i e he
    obtain ⟨pos, rfl⟩ := vNot_eq he
    exact pt_notM ((ha X c G).2.2 _ _ _ h)
  · cases h
/-- both sides of a comparison -/
def ckCmpX {α : Type} (k : CO) (a b : Ck) (fin : Ows → Bool → α) : Expr → Ows → Option α := fun pe ows => match vCmp pe with
  | some e => if (decide (e.2.1 = opC k) && noSet e.2.2) = true then (match a.r e.1 ows with
    | some x => (match b.r e.2.2 x.1 with
      | some y => if y.2.2 = true then some (fin y.1 x.2.2) else none
      | none => none)
    | none => none) else none
  | none => none
theorem ckCmpX_ok {α : Type} {k : CO} {a b : Ck} {p q : M D × M Bool} {fin : Ows → Bool → α} (ha : CkOk S C a p) (hb : CkOk S C b q) (G : GOk X c C S) {pe : Expr} {ows : Ows} {r : α} (h : ckCmpX k a b fin pe ows = some r) :
    ∃ e1 e2 pos ows1 ows2 oa ob qa, pe = .Compare e1 [opC k] [e2] pos ∧ noSet e2 = true ∧ PE X e1 (tR c p.1 ows ows1 oa qa) ∧ PE X e2 (tR c q.1 ows1 ows2 ob true) ∧ r = fin ows2 qa := by
  unfold ckCmpX at h
  split at h
  · rename_i e he
    split at h
    · rename_i hk
      split at h
      · rename_i x ex
        split at h
        · rename_i y ey
          split at h
          · rename_i hq
            cases h
            simp only [Bool.and_eq_true, decide_eq_true_eq] at hk
            obtain ⟨pos, rfl⟩ := vCmp_eq he
            rw [hk.1]
            have h2 := (hb X c G).2.1 _ _ y ey
            rw [hq] at h2
            exact ⟨_, _, _, _, _, _, _, _, rfl, hk.2, (ha X c G).2.1 _ _ _ ex, h2, rfl⟩
          · cases h
        · cases h
      · cases h
    · cases h
  · cases h
def ckCmp (k : CO) (a b : Ck) : Ck := ⟨ckCmpX k a b fun o q => (o, .ow .fr, q), ckCmpX k a b fun o q => (o, .ow .fr, q), ckCmpX k a b fun o q => (o, q)⟩
theorem ckCmp_ok {k : CO} {a b : Ck} {p q : M D × M Bool} (ha : CkOk S C a p) (hb : CkOk S C b q) : CkOk S C (ckCmp k a b) (val (op2 (fun x y => (cmpD k x y).map .bl) p.1 q.1)) := fun X c G => by
  have hv : ∀ pe ows r, (ckCmp k a b).v pe ows = some r → PE X pe (tV c (op2 (cmpM k) p.1 q.1) ows r.1 r.2.1 r.2.2) := fun pe ows r h => by
    obtain ⟨e1, e2, pos, ows1, ows2, oa, ob, qa, rfl, h1, h2, h3, rfl⟩ := ckCmpX_ok ha hb G (show ckCmpX k a b (fun o q => (o, Ow.ow Ow.fr, q)) pe ows = some r from h)
    exact pv_cmp G.K G.hu h2 h3 h1
  refine ⟨hv, fun pe ows r h => look_of (hv pe ows r h), fun pe ows r h => ?_⟩
  obtain ⟨e1, e2, pos, ows1, ows2, oa, ob, qa, rfl, h1, h2, h3, rfl⟩ := ckCmpX_ok ha hb G (show ckCmpX k a b (fun o q => (o, q)) pe ows = some r from h)
  exact pt_cmp' G.K G.hu h2 h3 h1
def ckChX {α : Type} (k l : CO) (a b d : Ck) (fin : Ows → Bool → α) : Expr → Ows → Option α := fun pe ows => match vCh pe with
  | some e => if (decide (e.2.1 = opC k) && (decide (e.2.2.1 = opC l) && noSet e.2.2.2.2)) = true then (match a.r e.1 ows with
    | some x => (match b.r e.2.2.2.1 x.1 with
      | some y => (match d.r e.2.2.2.2 y.1 with
        | some z => if (y.2.2 && (z.2.2 && decide (z.1 = y.1))) = true then some (fin y.1 x.2.2) else none
        | none => none)
      | none => none)
    | none => none) else none
  | none => none
theorem ckChX_ok {α : Type} {k l : CO} {a b d : Ck} {p q s : M D × M Bool} {fin : Ows → Bool → α} (ha : CkOk S C a p) (hb : CkOk S C b q) (hd : CkOk S C d s) (G : GOk X c C S) {pe : Expr} {ows : Ows} {r : α} (h : ckChX k l a b d fin pe ows = some r) :
    ∃ e1 e2 e3 pos ows1 ows2 oa ob od qa, pe = .Compare e1 [opC k, opC l] [e2, e3] pos ∧ noSet e3 = true ∧ PE X e1 (tR c p.1 ows ows1 oa qa) ∧ PE X e2 (tR c q.1 ows1 ows2 ob true) ∧ PE X e3 (tR c s.1 ows2 ows2 od true) ∧ r = fin ows2 qa := by
  unfold ckChX at h
  split at h
  · rename_i e he
    split at h
    · rename_i hk
      split at h
      · rename_i x ex
        split at h
        · rename_i y ey
          split at h
          · rename_i z ez
            split at h
            · rename_i hq
              cases h
              simp only [Bool.and_eq_true, decide_eq_true_eq] at hk hq
              obtain ⟨pos, rfl⟩ := vCh_eq he
              rw [hk.1, hk.2.1]
              have h2 := (hb X c G).2.1 _ _ y ey
              rw [hq.1] at h2
              have h3 := (hd X c G).2.1 _ _ z ez
              rw [hq.2.1, hq.2.2] at h3
              exact ⟨_, _, _, _, _, _, _, _, _, _, rfl, hk.2.2, (ha X c G).2.1 _ _ _ ex, h2, h3, rfl⟩
            · cases h
          · cases h
        · cases h
      · cases h
    · cases h
  · cases h
def ckCh (k l : CO) (a b d : Ck) : Ck := ⟨ckChX k l a b d fun o q => (o, .ow .fr, q), ckChX k l a b d fun o q => (o, .ow .fr, q), ckChX k l a b d fun o q => (o, q)⟩
theorem ckCh_ok {k l : CO} {a b d : Ck} {p q s : M D × M Bool} (ha : CkOk S C a p) (hb : CkOk S C b q) (hd : CkOk S C d s) : CkOk S C (ckCh k l a b d) (val (chM k l p.1 q.1 s.1)) := fun X c G => by
  have hv : ∀ pe ows r, (ckCh k l a b d).v pe ows = some r → PE X pe (tV c (chM k l p.1 q.1 s.1) ows r.1 r.2.1 r.2.2) := fun pe ows r h => by
    obtain ⟨e1, e2, e3, pos, ows1, ows2, oa, ob, od, qa, rfl, h1, h2, h3, h4, rfl⟩ := ckChX_ok ha hb hd G (show ckChX k l a b d (fun o q => (o, Ow.ow Ow.fr, q)) pe ows = some r from h)
    exact pv_ch' G.K G.hu h2 h3 h4 h1
  refine ⟨hv, fun pe ows r h => look_of (hv pe ows r h), fun pe ows r h => ?_⟩
  obtain ⟨e1, e2, e3, pos, ows1, ows2, oa, ob, od, qa, rfl, h1, h2, h3, h4, rfl⟩ := ckChX_ok ha hb hd G (show ckChX k l a b d (fun o q => (o, q)) pe ows = some r from h)
  exact pt_ch' G.K G.hu h2 h3 h4 h1
def ckAnd (ks : List Ck) : Ck :=
  let v : Expr → Ows → VR := fun pe ows => match vBool pe with
    | some e => if decide (e.1 = .And) = true then ckBV ks e.2 ows else none
    | none => none
  ⟨v, v, fun pe ows => match vBool pe with
    | some e => if decide (e.1 = .And) = true then ckBT ks e.2 ows else none
    | none => none⟩
theorem ckAnd_ok {ks : List Ck} {ps : List (M D × M Bool)} (h : CksOk S C ks ps) : CkOk S C (ckAnd ks) (andV ps, andT ps) := fun X c G => by
  have hv : ∀ pe ows r, (ckAnd ks).v pe ows = some r → PE X pe (tV c (andV ps) ows r.1 r.2.1 r.2.2) := fun pe ows r hh => by
    simp only [ckAnd] at hh
    split at hh
    · rename_i e he
      split at hh
      · rename_i hk
        obtain ⟨pos, rfl⟩ := vBool_eq he
        rw [of_decide_eq_true hk]
        exact andV_ok G h hh
      · cases hh
    · cases hh
  refine ⟨hv, fun pe ows r hh => look_of (hv pe ows r hh), fun pe ows r hh => ?_⟩
  simp only [ckAnd] at hh
  split at hh
  · rename_i e he
    split at hh
    · rename_i hk
      obtain ⟨pos, rfl⟩ := vBool_eq he
      rw [of_decide_eq_true hk]
      exact (andT_ok G h hh).pt
    · cases hh
  · cases hh
def ckOr (ks : List Ck) : Ck :=
  let v : Expr → Ows → VR := fun pe ows => match vBool pe with
    | some e => if decide (e.1 = .Or) = true then ckBV ks e.2 ows else none
    | none => none
  ⟨v, v, fun pe ows => match vBool pe with
    | some e => if decide (e.1 = .Or) = true then ckBT ks e.2 ows else none
    | none => none⟩
theorem ckOr_ok {ks : List Ck} {ps : List (M D × M Bool)} (h : CksOk S C ks ps) : CkOk S C (ckOr ks) (orV ps, orT ps) := fun X c G => by
  have hv : ∀ pe ows r, (ckOr ks).v pe ows = some r → PE X pe (tV c (orV ps) ows r.1 r.2.1 r.2.2) := fun pe ows r hh => by
    simp only [ckOr] at hh
    split at hh
    · rename_i e he
      split at hh
      · rename_i hk
        obtain ⟨pos, rfl⟩ := vBool_eq he
        rw [of_decide_eq_true hk]
        exact orV_ok G h hh
      · cases hh
    · cases hh
  refine ⟨hv, fun pe ows r hh => look_of (hv pe ows r hh), fun pe ows r hh => ?_⟩
  simp only [ckOr] at hh
  split at hh
  · rename_i e he
    split at hh
    · rename_i hk
      obtain ⟨pos, rfl⟩ := vBool_eq he
      rw [of_decide_eq_true hk]
      exact (orT_ok G h hh).pt
    · cases hh
  · cases hh
def ckIte (k a b : Ck) : Ck := mkV fun pe ows => match vIf pe with
  | some e => (match k.t e.1 ows with
    | some z => (match a.v e.2.1 z.1, b.v e.2.2 z.1 with
      | some x, some y => if (weakB 0 x.1 (joinO x.1 y.1) && weakB 0 y.1 (joinO x.1 y.1)) = true then (if decide (x.2.1 = y.2.1) = true then some (joinO x.1 y.1, x.2.1, z.2 && (x.2.2 && y.2.2)) else some (joinO x.1 y.1, .fr, z.2 && (x.2.2 && y.2.2))) else none
      | _, _ => none)
    | none => none)
  | none => none
theorem ckIte_ok {k a b : Ck} {s p q : M D × M Bool} (hk : CkOk S C k s) (ha : CkOk S C a p) (hb : CkOk S C b q) : CkOk S C (ckIte k a b) (val (M.bind s.2 fun k => if k = true then p.1 else q.1)) := mkV_ok fun X c G pe ows r h => by
  split at h
  · rename_i e he
    split at h
    · rename_i z ez
      split at h
      · rename_i x y ex ey
        split at h
        · rename_i hw
          simp only [Bool.and_eq_true] at hw
          obtain ⟨pos, rfl⟩ := vIf_eq he
          have h1 := pv_weak ((ha X c G).1 _ _ x ex) hw.1
          have h2 := pv_weak ((hb X c G).1 _ _ y ey) hw.2
          split at h
          · rename_i ho
            cases h
            rw [← of_decide_eq_true ho] at h2
            exact pv_ite ((hk X c G).2.2 _ _ z ez) h1 h2
          · cases h
            exact pv_ite ((hk X c G).2.2 _ _ z ez) (keep_fr h1) (keep_fr h2)
        · cases h
      · cases h
    · cases h
  · cases h
def ckTup (ks : List Ck) : Ck := mkV fun pe ows => match vTup pe with
  | some es => if decide (es.length ≤ 1000) = true then (match ckAV ks es ows with
    | some x => some (x.1, .ow .fr, x.2)
    | none => none) else none
  | none => none
theorem ckTup_ok {ks : List Ck} {ps : List (M D × M Bool)} (hs : CksOk S C ks ps) : CkOk S C (ckTup ks) (val (M.bind (evs ps) fun ds => M.ret (.tup ds))) := mkV_ok fun X c G pe ows r h => by
  split at h
  · rename_i es he
    split at h
    · rename_i hl
      split at h
      · rename_i x ex
        cases h
        obtain ⟨j, pos, rfl⟩ := vTup_eq he
        obtain ⟨i1, i2, i3⟩ := ckAV_ok G hs ex
        exact pv_tup (of_decide_eq_true hl) (fun env ds env' e => by rw [evs_len e, i3]) i1
      · cases h
    · cases h
  · cases h
def ckLst (ks : List Ck) : Ck := mkV fun pe ows => match vLst pe with
  | some es => if decide (es.length ≤ 1000) = true then (match ckAV ks es ows with
    | some x => some (x.1, .ow .fr, x.2)
    | none => none) else none
  | none => none
theorem ckLst_ok {ks : List Ck} {ps : List (M D × M Bool)} (hs : CksOk S C ks ps) : CkOk S C (ckLst ks) (val (M.bind (evs ps) fun ds => M.ret (.lst ds))) := mkV_ok fun X c G pe ows r h => by
  split at h
  · rename_i es he
    split at h
    · rename_i hl
      split at h
      · rename_i x ex
        cases h
        obtain ⟨pos, rfl⟩ := vLst_eq he
        obtain ⟨i1, i2, i3⟩ := ckAV_ok G hs ex
        exact pv_lst (of_decide_eq_true hl) (fun env ds env' e => by rw [evs_len e, i3]) i1
      · cases h
    · cases h
  · cases h
def ckIx (a b : Ck) : Ck := mkV fun pe ows => match vSub pe with
  | some e => if noSl e.2 = true then (match a.r e.1 ows with
    | some x => (match b.r e.2 x.1 with
      | some y => if (y.2.2 && shal x.2.1) = true then some (y.1, .fr, x.2.2) else none
      | none => none)
    | none => none) else none
  | none => none
theorem ckIx_ok {a b : Ck} {p q : M D × M Bool} (ha : CkOk S C a p) (hb : CkOk S C b q) : CkOk S C (ckIx a b) (val (op2 ixD p.1 q.1)) := mkV_ok fun X c G pe ows r h => by
  split at h
  · rename_i e he
    split at h
    · rename_i hk
      split at h
      · rename_i x ex
        split at h
        · rename_i y ey
          split at h
          · rename_i hs
            cases h
            simp only [Bool.and_eq_true] at hs
            obtain ⟨pos, rfl⟩ := vSub_eq he
            have h2 := (hb X c G).2.1 _ _ y ey
            rw [hs.1] at h2
            exact pv_ix (by have := G.hu; omega) ((ha X c G).2.1 _ _ x ex) h2 hk hs.2 G.K
          · cases h
        · cases h
      · cases h
    · cases h
  · cases h
def ckPart : List Ck → Option Expr → Ows → Option Ows
  | [], none, ows => some ows
  | [k], some e, ows => match k.r e ows with
    | some x => if x.2.2 = true then some x.1 else none
    | none => none
  | _, _, _ => none
theorem ckPart_ok (G : GOk X c C S) {ks : List Ck} {ps : List (M D × M Bool)} {e : Option Expr} {ows r : Ows} (hs : CksOk S C ks ps) (h : ckPart ks e ows = some r) : PO X e (tPO c (partM ps) ows r) := by
  unfold ckPart at h
  split at h
  · cases h
    cases ps with
    | nil => exact po_no
    | cons => exact hs.elim
  · rename_i k e
    split at h
    · rename_i x ex
      split at h
      · rename_i hq
        cases h
        cases ps with
        | nil => exact hs.elim
        | cons p ps =>
          cases ps with
          | cons => exact hs.2.elim
          | nil =>
            have h1 := (hs.1 X c G).2.1 _ _ x ex
            rw [hq] at h1
            exact po_at h1
      · cases h
    · cases h
  · cases h
def ckSl (a : Ck) (lo hi : List Ck) : Ck := mkV fun pe ows => match vSl pe with
  | some e => (match a.r e.1 ows with
    | some x => (match ckPart lo e.2.1 x.1 with
      | some y => (match ckPart hi e.2.2 y with
        | some z => if shal x.2.1 = true then some (z, .ow .fr, x.2.2) else none
        | none => none)
      | none => none)
    | none => none)
  | none => none
theorem ckSl_ok {a : Ck} {lo hi : List Ck} {p : M D × M Bool} {pl ph : List (M D × M Bool)} (ha : CkOk S C a p) (hl : CksOk S C lo pl) (hh : CksOk S C hi ph) :
    CkOk S C (ckSl a lo hi) (val (M.bind p.1 fun x => M.bind (partM pl) fun l => M.bind (partM ph) fun h => M.opt (slD x l h))) := mkV_ok fun X c G pe ows r h => by
  split at h
  · rename_i e he
    split at h
    · rename_i x ex
      split at h
      · rename_i y ey
        split at h
        · rename_i z ez
          split at h
          · rename_i hs
            cases h
            obtain ⟨p1, p2, rfl⟩ := vSl_eq he
            exact pv_sl ((ha X c G).2.1 _ _ x ex) (ckPart_ok G hl ey) (ckPart_ok G hh ez) hs G.K
          · cases h
        · cases h
      · cases h
    · cases h
  · cases h
def ckCall (S : Sg) (f : Str) (Es : List E) (ks : List Ck) : Ck := mkV fun pe ows => match vCall pe, S.fn f with
  | some e, some s => if (decide (e.1 = f) && (S.calls && (S.glo f && (noDbg f && (Es.all noLn && decide (Es.length = s.1)))))) = true then (match ckAV ks (e.2.1 :: e.2.2) ows with
    | some x => if weakB 0 x.1 S.x = true then some (x.1, s.2, x.2) else none
    | none => none) else none
  | _, _ => none
theorem ckCall_ok {f : Str} {Es : List E} {ks : List Ck} {ps : List (M D × M Bool)} (hs : CksOk S C ks ps) (hl : ps.length = Es.length) : CkOk S C (ckCall S f Es ks) (val (callM C f Es ps)) := mkV_ok fun X c G pe ows r h => by
  split at h
  · rename_i e s he hf
    split at h
    · rename_i hk
      split at h
      · rename_i x ex
        split at h
        · rename_i hw
          cases h
          simp only [Bool.and_eq_true, decide_eq_true_eq] at hk
          obtain ⟨h1, h2, h3, h4, h5, h6⟩ := hk
          obtain ⟨p1, p2, rfl⟩ := vCall_eq he
          obtain ⟨i1, i2, i3⟩ := ckAV_ok G hs ex
          obtain ⟨tk, fns⟩ := G.fn h2
          obtain ⟨k, fa, fd, pn, F, hr, hm, hkp, hb⟩ := fns f s.1 s.2 hf
          rw [h1]
          exact pv_call F hr (G.glo h3) hm hkp hb tk h5 h6 i1 (fun env ds env' e => by rw [evs_len e, hl]) (by rw [G.x]; exact hw) i2 (noDbg1 h4)
        · cases h
      · cases h
    · cases h
  · cases h
theorem biN_mem : ∀ k : BI, biN k ∈ bltNames := by intro k; cases k <;> decide +kernel
def ckBi (S : Sg) (k : BI) (ks : List Ck) : Ck := mkV fun pe ows => match vCall pe with
  | some e => if (decide (e.1 = biN k) && (biOk k && (S.glo (biN k) && (!biCalm k || S.calm)))) = true then (match ckAR ks (e.2.1 :: e.2.2) ows with
    | some x => if x.2.1.all shal = true then some (x.1, biO k, x.2.2) else none
    | none => none) else none
  | none => none
theorem ckBi_ok {k : BI} {ks : List Ck} {ps : List (M D × M Bool)} (hs : CksOk S C ks ps) : CkOk S C (ckBi S k ks) (val (M.bind (evs ps) fun ds => M.opt (bF k ds))) := mkV_ok fun X c G pe ows r h => by
  split at h
  · rename_i e he
    split at h
    · rename_i hk
      split at h
      · rename_i x ex
        split at h
        · rename_i hw
          cases h
          simp only [Bool.and_eq_true, decide_eq_true_eq, Bool.or_eq_true, Bool.not_eq_true'] at hk
          obtain ⟨h1, h2, h3, h4⟩ := hk
          obtain ⟨p1, p2, rfl⟩ := vCall_eq he
          obtain ⟨i1, i2, i3⟩ := ckAR_ok G hs ex
          rw [h1]
          exact pv_bi h2 (fun hb => G.calm (h4.elim (fun z => by rw [hb] at z; cases z) id)) G.K (G.glo h3) (G.blt _ (biN_mem k)) i2 i1 hw
        · cases h
      · cases h
    · cases h
  · cases h
def vIsi (pe : Expr) : Option (Expr × Str) := match vCall pe with
  | some (f, a, [b]) => if decide (f = ("isinstance" : Str)) = true then (match vName b with
    | some x => some (a, x)
    | none => none) else none
  | _ => none
theorem vIsi_eq {pe : Expr} {r : Expr × Str} (h : vIsi pe = some r) : ∃ p p2 pos, pe = .Call (.Name "isinstance" p) [r.1, .Name r.2 p2] [] pos := by
  unfold vIsi at h
  split at h
  · rename_i f a b he
    split at h
    · rename_i hf
      split at h
      · rename_i x hx
        cases h
        obtain ⟨p, p2, rfl⟩ := vCall_eq he
        obtain ⟨p3, rfl⟩ := vName_eq hx
        simp only at hf ⊢
        rw [of_decide_eq_true hf]
        exact ⟨_, _, _, rfl⟩
      · cases h
    · cases h
  · cases h
theorem tyN_mem {t : TY} (h : tyPl t = true) : nmS (tyN t) ∈ bltNames := by cases t <;> first | (cases h; done) | decide +kernel
def ckIsi (S : Sg) (a : Ck) (ts : List TY) : Ck := mkV fun pe ows => match vIsi pe, ts with
  | some e, [t] => if (tyPl t && (decide (e.2 = nmS (tyN t)) && (S.glo "isinstance" && (S.glo (nmS (tyN t)) && noStar e.1)))) = true then (match a.r e.1 ows with
    | some x => some (x.1, .ow .fr, x.2.2)
    | none => none) else none
  | _, _ => none
theorem ckIsi_ok {a : Ck} {ts : List TY} {p : M D × M Bool} (ha : CkOk S C a p) : CkOk S C (ckIsi S a ts) (val (M.bind p.1 fun x => M.opt ((tyAny C x ts).map .bl))) := mkV_ok fun X c G pe ows r h => by
  split at h
  · rename_i e t he
    split at h
    · rename_i hk
      split at h
      · rename_i x ex
        cases h
        simp only [Bool.and_eq_true, decide_eq_true_eq] at hk
        obtain ⟨h1, h2, h3, h4, h5⟩ := hk
        obtain ⟨p1, p2, p3, rfl⟩ := vIsi_eq he
        rw [h2]
        exact pv_isi h1 (G.glo h3) (G.blt _ (by decide +kernel)) (G.glo h4) (G.blt _ (tyN_mem h1)) G.K h5 ((ha X c G).2.1 _ _ x ex)
      · cases h
    · cases h
  · cases h
/-- isinstance(e, X), e the error that the suite holds -/
theorem pv_isE {i : Nat} {x y : Str} {p1 p2 p3 pos : Pos} {V' : V} {u : Value} {ows : Ows} {a : Addr} {n : Str} (hN : X.N[i]? = some x) (hv : Vis X.env.scope x) (hd : (x == ("__debug__" : Str)) = false) (hcd : (x == ("__classdict__" : Str)) = false)
    (hg : Gl X "isinstance") (hm : X.mg "isinstance" = none) (hy : ∀ {pos : Pos}, PE X (.Name y pos) (tC V')) (hu : ∀ w, L2.RelV V' w → w = u) (hp : c.pn i = some (.ref a, some (.exc n))) (hc : CallR X (.builtin "isinstance") (rIsE X.K (He.ga c.K n) a)) (hk : PySem.W.kitOne X.K (.ref (He.ga c.K n)) u = some (C.sub n y)) :
    PE X (.Call (.Name "isinstance" p1) [.Name x p2, .Name y p3] [] pos) (tV c (M.bind (varM i) fun x => M.opt ((tyAny C x [.exc y]).map .bl)) ows ows (.ow .fr) true) := by
  refine wPE (pe_callB hc hg hm PyProof.Rows.boot_isinstance (pa_cons (pe_var hN hv hd hcd) (pa_cons hy pa_nil (by rfl)) (by rfl)) (by decide) (by decide) (by rfl) (by rfl)) fun σ H Q ⟨w, env, hw, sr, z⟩ => ?_
  subst hw
  unfold M.bind varM at z
  cases e1 : getS env i with
  | none => rw [e1] at z; exact z.elim
  | some d =>
    rw [e1] at z
    obtain ⟨h1, h2⟩ := sr.pin i _ hp
    have hd' := h2 _ rfl d e1
    subst hd'
    have z' : ∀ w' v A, Ext w w' → SR c.K c.pn ows env σ w' → RO c.K w'.H w'.Z (.ow .fr) (.bl (C.sub n y)) v A → Tmp w w' A → (true = true → Quiet w w') → Q v w'.H := by
      have hz : tyAny C (.exc n) [.exc y] = some (C.sub n y) := by
        simp only [tyAny, tyIs]
        cases C.sub n y <;> rfl
      dsimp only at z
      rw [hz] at z
      exact z
    exact ⟨_, h1, V', u, _, rfl, hu, hk, z' w _ _ Ext.refl sr RO.mkbl Tmp.nil fun _ _ _ e => e⟩
def ckIsE (S : Sg) (i : Nat) (y : Str) : Ck := mkV fun pe ows => match vIsi pe with
  | some e => if (decide (S.es = some i) && (nmOk S i e.1 && (decide (e.2 = y) && (S.glo "isinstance" && (S.glo y && (noDbg y && (S.exc y || decide (y = ("ValueError" : Str))))))))) = true then some (ows, .ow .fr, true) else none
  | none => none
theorem ckIsE_ok {i : Nat} {y : Str} : CkOk S C (ckIsE S i y) (val (M.bind (varM i) fun x => M.opt ((tyAny C x [.exc y]).map .bl))) := mkV_ok fun X c G pe ows r h => by
  split at h
  · rename_i e he
    split at h
    · rename_i hk
      cases h
      simp only [Bool.and_eq_true, decide_eq_true_eq, Bool.or_eq_true] at hk
      obtain ⟨h1, h2, h3, h4, h5, h6, h7⟩ := hk
      obtain ⟨p1, p2, p3, rfl⟩ := vIsi_eq he
      obtain ⟨x', p', hx, n1, n2, n3, n4⟩ := nmOk_eq G h2
      obtain ⟨a, n, hn, hp, hc⟩ := G.es i h1
      rw [hx, h3]
      by_cases hy : S.exc y = true
      · exact pv_isE n1 n2 n3 n4 (G.glo h4) (G.blt _ (by decide +kernel)) (fun {pos} => pe_glob (G.glo h5) (G.exc y hy).1 (v := .ref (He.ga c.K y)) rfl (noDbg1 h6)) (fun w r => r) hp hc (G.kx n y hn hy)
      · have hy' : y = "ValueError" := h7.resolve_left hy
        subst hy'
        exact pv_isE n1 n2 n3 n4 (G.glo h4) (G.blt _ (by decide +kernel)) (fun {pos} => pe_bltn (G.glo h5) (G.blt _ (by decide +kernel)) (u := .type "ValueError") (by decide +kernel) (v := .ty "ValueError") rfl (by decide +kernel) (by decide +kernel)) (fun w r => r) hp hc (G.kv n hn)
    · cases h
  · cases h
/-- l.index(x) -/
def ckIndex (S : Sg) (a k : Ck) : Ck := mkV fun pe ows => match vM1 pe with
  | some e => if (decide (e.2.1 = ("index" : Str)) && (plainB e.1 && ((e.2.2.1.endLine == e.2.2.2.2.line) && noStar e.2.2.2.1))) = true then (match a.r e.1 ows with
    | some x => (match k.r e.2.2.2.1 x.1 with
      | some y => if y.2.2 = true then some (y.1, .ow .fr, x.2.2) else none
      | none => none)
    | none => none) else none
  | none => none
theorem ckIndex_ok {a k : Ck} {p q : M D × M Bool} (ha : CkOk S C a p) (hk : CkOk S C k q) : CkOk S C (ckIndex S a k) (val (M.bind p.1 fun x => if meOk .index x = true then M.bind (evs [q]) fun ds => M.opt (meF .index x ds) else fun _ => .no)) := mkV_ok fun X c G pe ows r h => by
  split at h
  · rename_i e he
    split at h
    · rename_i hn
      split at h
      · rename_i x ex
        split at h
        · rename_i y ey
          split at h
          · rename_i hq
            cases h
            simp only [Bool.and_eq_true, decide_eq_true_eq] at hn
            obtain ⟨h1, h2, h3, h4⟩ := hn
            have := vM1_eq he
            subst this
            rw [h1]
            have hv := (hk X c G).2.1 _ _ y ey
            rw [hq] at hv
            exact pv_index (by have := G.hu; omega) G.K h2 h3 h4 ((ha X c G).2.1 _ _ x ex) hv
          · cases h
        · cases h
      · cases h
    · cases h
  · cases h
/-- x.append(e) -/
def ckApp (S : Sg) (i : Nat) (k : Ck) : Ck := mkV fun pe ows => match vM1 pe with
  | some e => if (nmOk S i e.1 && (decide (e.2.1 = ("append" : Str)) && ((e.2.2.1.endLine == e.2.2.2.2.line) && (noStar e.2.2.2.1 && !S.pinw.contains i)))) = true then (match owAt ows i, k.v e.2.2.2.1 ows with
    | .ow o, some x => if decide (owAt x.1 i = .ow o) = true then (if (decide (x.2.1 = o) || decide (o = .fr)) = true then some (x.1, .fr, false) else none) else none
    | _, _ => none) else none
  | none => none
theorem ckApp_ok {i : Nat} {k : Ck} {p : M D × M Bool} (hk : CkOk S C k p) : CkOk S C (ckApp S i k) (val (muM .append i [] [p])) := mkV_ok fun X c G pe ows r h => by
  split at h
  · rename_i e he
    split at h
    · rename_i hn
      split at h
      · rename_i o x ho ex
        split at h
        · rename_i ho'
          split at h
          · rename_i hoo
            cases h
            simp only [Bool.and_eq_true, decide_eq_true_eq, Bool.not_eq_true'] at hn
            obtain ⟨h1, h2, h3, h4, h5⟩ := hn
            have := vM1_eq he
            subst this
            obtain ⟨x', p', hx, n1, n2, n3, n4⟩ := nmOk_eq G h1
            rw [h2]
            have hv := (hk X c G).1 _ _ x ex
            have hv' : PE X e.2.2.2.1 (tV c p.1 ows x.1 o x.2.2) := by
              simp only [Bool.or_eq_true, decide_eq_true_eq] at hoo
              rcases hoo with q | q
              · rw [← q]; exact hv
              · rw [q]; exact keep_fr hv
            rw [hx]
            exact pv_append (n := 0) (ps := []) (i := i) (pl_nil n1 n2 n3 n4) rfl h3 (fun e r e' h => by cases h; rfl) (fun e r e' h => by cases h; rfl) h4 (by rw [ho]; show PE X _ (tV c p.1 ows x.1 (oAt o 0) _); rw [oAt0]; exact hv') (by rw [ho]; rfl) (by rw [of_decide_eq_true ho', ho]) (.inl rfl) (G.pw i (by simpa using h5))
          · cases h
        · cases h
      · cases h
    · cases h
  · cases h
end

mutual
def ck : Sg → E → Ck
  | S, .v i => ckVar S i
  | S, .ln _ => noCk
  | S, .mv i => ckMv S i
  | S, .int i => ckK (.int i)
  | S, .str x => ckK (.str x)
  | S, .bl b => ckK (.bool b)
  | S, .non => ckK .none
  | S, .g x => ckG S x
  | S, .bin k a b => ckBin k (ck S a) (ck S b)
  | S, .neg a => ckNeg (ck S a)
  | S, .not a => ckNot (ck S a)
  | S, .cmp k a b => ckCmp k (ck S a) (ck S b)
  | S, .ch k l a b d => ckCh k l (ck S a) (ck S b) (ck S d)
  | S, .and es => ckAnd (cks S es)
  | S, .or es => ckOr (cks S es)
  | S, .ite k a b => ckIte (ck S k) (ck S a) (ck S b)
  | S, .tup es => ckTup (cks S es)
  | S, .lst es => ckLst (cks S es)
  | S, .dic t ks vs => match t, ks, vs with
    | false, [], [] => ckDic0
    | _, _, _ => noCk
  | S, .ix a i => ckIx (ck S a) (ck S i)
  | S, .sl a lo hi => ckSl (ck S a) (cks S lo) (cks S hi)
  | S, .call f es => ckCall S f es (cks S es)
  | S, .bi k es => match k with
    | .sorted => ckSorted S (cks S es)
    | k => ckBi S k (cks S es)
  | S, .isi a ts => match a, ts with
    | .v i, [.exc y] => ckIsE S i y
    | _, _ => ckIsi S (ck S a) ts
  | S, .me m o es => match m, cks S es with
    | .index, [k] => ckIndex S (ck S o) k
    | .get2, [k1, k2] => ckGet2 S (ck S o) k1 k2
    | _, _ => noCk
  | S, .mu m i ps es => match m, ps, cks S es with
    | .append, [], [k] => ckApp S i k
    | _, _, _ => noCk
  | S, .lc elt t k ia cs => ckLc S t k (cks S ia) (fun S' => ck S' elt) (fun S' => cks S' cs) (pureE elt && pureEs cs) (ownE elt)
  | S, .fs _ => noCk
def cks : Sg → List E → List Ck
  | _, [] => []
  | S, e :: es => ck S e :: cks S es
end
theorem dens_len {C : Cs} : ∀ {es : List E}, (dens C es).length = es.length
  | [] => rfl
  | e :: es => by simp [dens, dens_len]
mutual
theorem ck_ok (C : Cs) : ∀ (S : Sg) (e : E), CkOk S C (ck S e) (den C e)
  | S, .v i => by simp only [ck, den]; exact ckVar_ok
  | S, .ln _ => by simp only [ck, den]; exact noCk_ok
  | S, .mv i => by simp only [ck, den]; exact ckMv_ok
  | S, .int i => by simp only [ck, den]; exact ckInt_ok
  | S, .str x => by simp only [ck, den]; exact ckStr_ok
  | S, .bl b => by simp only [ck, den]; exact ckBl_ok
  | S, .non => by simp only [ck, den]; exact ckNon_ok
  | S, .g x => by simp only [ck, den]; exact ckG_ok
  | S, .bin k a b => by simp only [ck, den]; exact ckBin_ok (ck_ok C S a) (ck_ok C S b)
  | S, .neg a => by simp only [ck, den]; exact ckNeg_ok (ck_ok C S a)
  | S, .not a => by simp only [ck, den]; exact ckNot_ok (ck_ok C S a)
  | S, .cmp k a b => by simp only [ck, den]; exact ckCmp_ok (ck_ok C S a) (ck_ok C S b)
  | S, .ch k l a b d => by simp only [ck, den]; exact ckCh_ok (ck_ok C S a) (ck_ok C S b) (ck_ok C S d)
  | S, .and es => by simp only [ck, den]; exact ckAnd_ok (cks_ok C S es)
  | S, .or es => by simp only [ck, den]; exact ckOr_ok (cks_ok C S es)
  | S, .ite k a b => by simp only [ck, den]; exact ckIte_ok (ck_ok C S k) (ck_ok C S a) (ck_ok C S b)
  | S, .tup es => by simp only [ck, den]; exact ckTup_ok (cks_ok C S es)
  | S, .lst es => by simp only [ck, den]; exact ckLst_ok (cks_ok C S es)
  | S, .dic t ks vs => by
    simp only [ck, den]
    split
    · simp only [dens]; exact ckDic0_ok
    · exact noCk_ok
  | S, .ix a i => by simp only [ck, den]; exact ckIx_ok (ck_ok C S a) (ck_ok C S i)
  | S, .sl a lo hi => by simp only [ck, den]; exact ckSl_ok (ck_ok C S a) (cks_ok C S lo) (cks_ok C S hi)
  | S, .call f es => by simp only [ck, den]; exact ckCall_ok (cks_ok C S es) dens_len
  | S, .bi k es => by
    simp only [ck, den]
    split
    · exact ckSorted_ok (cks_ok C S es)
    · exact ckBi_ok (cks_ok C S es)
  | S, .isi a ts => by
    have h := ck_ok C S a
    simp only [ck, den]
    split
    · simp only [den]; exact ckIsE_ok
    · exact ckIsi_ok h
  | S, .me m o es => by
    have h := cks_ok C S es
    have h0 := ck_ok C S o
    simp only [ck, den]
    split
    · rename_i k e
      rw [e] at h
      match hd : dens C es, h with
      | [p], h => exact ckIndex_ok h0 h.1
      | [], h => exact h.elim
      | _ :: _ :: _, h => exact h.2.elim
    · rename_i k1 k2 e
      rw [e] at h
      match hd : dens C es, h with
      | [p1, p2], h => exact ckGet2_ok h0 h.1 h.2.1
      | [], h => exact h.elim
      | [_], h => exact h.2.elim
      | _ :: _ :: _ :: _, h => exact h.2.2.elim
    · exact noCk_ok
  | S, .mu m i ps es => by
    have h := cks_ok C S es
    simp only [ck, den]
    split
    · rename_i k e
      rw [e] at h
      match hd : dens C es, h with
      | [p], h => simp only [dens]; exact ckApp_ok h.1
      | [], h => exact h.elim
      | _ :: _ :: _, h => exact h.2.elim
    · exact noCk_ok
  | S, .lc elt t k ia cs => by
    simp only [ck, den]
    exact ckLc_ok (cks_ok C S ia) (fun S' => ck_ok C S' elt) (fun S' => cks_ok C S' cs) fun h => by
      simp only [Bool.and_eq_true] at h
      exact ⟨(pureE_ok C h.1).1, pure_cM h.2⟩
  | S, .fs _ => by simp only [ck, den]; exact noCk_ok
theorem cks_ok (C : Cs) : ∀ (S : Sg) (es : List E), CksOk S C (cks S es) (dens C es)
  | S, [] => by simp only [cks, dens]; trivial
  | S, e :: es => by simp only [cks, dens]; exact ⟨ck_ok C S e, cks_ok C S es⟩
end
end Mp
/-! Mq6: stores at places. -/
namespace Mp
open PySem PySem.Spec PyProof.Rows L2

/-! ### dicts written -/
theorem dPut_new : ∀ {ks vs : List D} {k y : D}, vs.length = ks.length → (∀ j : Nat, ks[j]? ≠ some k) → dPut ks vs k y = (ks ++ [k], vs ++ [y])
  | [], [], k, y, _, _ => rfl
  | [], _ :: _, _, _, h, _ => by simp at h
  | _ :: _, [], _, _, h, _ => by simp at h
  | k0 :: ks, v0 :: vs, k, y, h, n => by
    have e : k0 ≠ k := fun e => n 0 (by simp [e])
    have ih := dPut_new (ks := ks) (vs := vs) (k := k) (y := y) (by simpa using h) fun j e => n (j + 1) (by simpa using e)
    simp [dPut, e, ih]
theorem dk_put {H : Hp} {a : Addr} {ks vs : List D} {xs : List V} {key : Key} (h : DcAt H a false ks xs) (hl : vs.length = ks.length) (y : D) (vy : V) : ∃ kvs, H a = some (.dK kvs) ∧ kvs.length = ks.length ∧ ∀ {H' : Hp}, H' a = some (.dK (putK kvs key vy)) →
    ((∃ j, ks[j]? = some (kD key) ∧ dPut ks vs (kD key) y = (ks, vs.set j y) ∧ DcAt H' a false ks (xs.set j vy)) ∨ ((∀ j : Nat, ks[j]? ≠ some (kD key)) ∧ dPut ks vs (kD key) y = (ks ++ [kD key], vs ++ [y]) ∧ DcAt H' a false (ks ++ [kD key]) (xs ++ [vy]))) := by
  obtain ⟨nd, ⟨_, kvs, e1, e2, e3⟩ | ⟨z, _⟩⟩ := h
  · refine ⟨kvs, e1, by rw [e2, List.length_map], fun {H'} hH => ?_⟩
    by_cases hex : ∃ j : Nat, ks[j]? = some (kD key)
    · obtain ⟨j, hj⟩ := hex
      refine .inl ⟨j, hj, ?_, nd, .inl ⟨rfl, putK kvs key vy, hH, ?_, ?_⟩⟩
      · have hg : ∃ d, dGet ks vs (kD key) = some d := by
          cases e : dGet ks vs (kD key) with
          | none => exact absurd hj (dGet_no hl e j)
          | some d => exact ⟨d, rfl⟩
        obtain ⟨d, hg⟩ := hg
        obtain ⟨j', h1, _, h3⟩ := dGet_at hg
        have : j' = j := nodup_at nd h1 hj
        subst this
        exact h3 y
      · have hany : (kvs.any fun kv => decide (kv.1 = key)) = true := by
          have hj' := hj
          rw [e2, List.getElem?_map] at hj'
          obtain ⟨kv, hkv, hk⟩ := Option.map_eq_some_iff.mp hj'
          exact List.any_eq_true.mpr ⟨kv, List.mem_of_getElem? hkv, by simpa using kD_inj hk⟩
        unfold KeyK putK
        rw [if_pos hany, List.map_map, e2]
        apply List.map_congr_left
        intro kv _
        show kD kv.1 = kD (if kv.1 = key then (kv.1, vy) else kv).1
        split <;> rfl
      · have hj' := hj
        rw [e2, List.getElem?_map] at hj'
        obtain ⟨kv, hkv, hk⟩ := Option.map_eq_some_iff.mp hj'
        have hany : (kvs.any fun kv => decide (kv.1 = key)) = true := List.any_eq_true.mpr ⟨kv, List.mem_of_getElem? hkv, by simpa using kD_inj hk⟩
        unfold putK
        rw [if_pos hany, List.map_map, e3]
        apply List.ext_getElem?
        intro m
        rw [List.getElem?_map, List.getElem?_set]
        by_cases hm : j = m
        · subst hm
          rw [if_pos rfl, hkv]
          have hlt := (List.getElem?_eq_some_iff.mp hkv).1
          rw [if_pos (by rw [List.length_map]; exact hlt)]
          simp [kD_inj hk]
        · rw [if_neg hm, List.getElem?_map]
          cases e : kvs[m]? with
          | none => rfl
          | some kv2 =>
            have hne : kv2.1 ≠ key := fun z => hm (nodup_at nd hj (by rw [e2, List.getElem?_map, e]; simp [z]))
            simp [hne]
    · have hex' : ∀ j : Nat, ks[j]? ≠ some (kD key) := fun j e => hex ⟨j, e⟩
      have hany : (kvs.any fun kv => decide (kv.1 = key)) = false := by
        rw [List.any_eq_false]
        intro kv hkv hd
        obtain ⟨j, hj⟩ := List.getElem?_of_mem hkv
        exact hex' j (by rw [e2, List.getElem?_map, hj]; simp at hd; simp [hd])
      refine .inr ⟨hex', dPut_new hl hex', ?_, .inl ⟨rfl, putK kvs key vy, hH, ?_, ?_⟩⟩
      · rw [List.nodup_append]
        refine ⟨nd, by simp, fun a ha b hb => ?_⟩
        simp only [List.mem_cons, List.not_mem_nil, or_false] at hb
        subst hb
        rintro rfl
        obtain ⟨j, hj⟩ := List.getElem?_of_mem ha
        exact hex' j hj
      · unfold KeyK putK
        rw [hany, if_neg (by simp), e2]
        simp
      · unfold putK
        rw [hany, if_neg (by simp), e3]
        simp
  · cases z
/-! ### what raises nothing -/
def NoEx {α : Type} (f : M α) : Prop := ∀ e n e', f e ≠ .ex n e'
theorem NoEx.bind {α β : Type} {f : M α} {g : α → M β} (hf : NoEx f) (hg : ∀ a, NoEx (g a)) : NoEx (M.bind f g) := fun e n e' h => by
  unfold M.bind at h
  cases e1 : f e with
  | no => rw [e1] at h; cases h
  | ex m e2 => exact hf _ _ _ e1
  | ok a e2 => rw [e1] at h; exact hg a _ _ _ h
theorem NoEx.ret {α : Type} {a : α} : NoEx (M.ret a) := fun _ _ _ h => by cases h
theorem NoEx.opt {α : Type} {a : Option α} : NoEx (M.opt a) := fun _ _ _ h => by
  unfold M.opt at h
  cases a <;> cases h
theorem NoEx.var {i : Nat} : NoEx (varM i) := fun _ _ _ h => by
  unfold varM at h
  split at h <;> cases h
theorem NoEx.evs : ∀ {ps : List (M D × M Bool)}, (∀ p, p ∈ ps → NoEx p.1) → NoEx (evs ps)
  | [], _ => .ret
  | p :: ps, h => (h p List.mem_cons_self).bind fun _ => (NoEx.evs fun q hq => h q (List.mem_cons_of_mem _ hq)).bind fun _ => .ret
mutual
/-- simple: it changes nothing, raises nothing -/
def simE : E → Bool
  | .v _ => true
  | .int _ => true
  | .str _ => true
  | .bl _ => true
  | .g _ => true
  | .bin _ a b => simE a && simE b
  | .neg a => simE a
  | .tup es => simEs es
  | .ix a i => simE a && simE i
  | .bi _ es => simEs es
  | _ => false
def simEs : List E → Bool
  | [] => true
  | e :: es => simE e && simEs es
end
mutual
theorem simE_ok (C : Cs) : ∀ {e : E}, simE e = true → Pure (den C e).1 ∧ NoEx (den C e).1
  | .v _, _ => by simp only [den]; exact ⟨.var, .var⟩
  | .int _, _ => by simp only [den]; exact ⟨.ret, .ret⟩
  | .str _, _ => by simp only [den]; exact ⟨.ret, .ret⟩
  | .bl _, _ => by simp only [den]; exact ⟨.ret, .ret⟩
  | .g _, _ => by simp only [den]; exact ⟨.opt, .opt⟩
  | .bin _ a b, h => by
    simp only [simE, Bool.and_eq_true] at h
    simp only [den]
    exact ⟨(simE_ok C h.1).1.bind fun _ => (simE_ok C h.2).1.bind fun _ => .opt, (simE_ok C h.1).2.bind fun _ => (simE_ok C h.2).2.bind fun _ => .opt⟩
  | .neg a, h => by
    simp only [simE] at h
    simp only [den]
    exact ⟨(simE_ok C h).1.bind fun _ => .opt, (simE_ok C h).2.bind fun _ => .opt⟩
  | .tup es, h => by
    simp only [simE] at h
    simp only [den]
    exact ⟨(simEs_ok C h).1.bind fun _ => .ret, (simEs_ok C h).2.bind fun _ => .ret⟩
  | .ix a i, h => by
    simp only [simE, Bool.and_eq_true] at h
    simp only [den]
    exact ⟨(simE_ok C h.1).1.bind fun _ => (simE_ok C h.2).1.bind fun _ => .opt, (simE_ok C h.1).2.bind fun _ => (simE_ok C h.2).2.bind fun _ => .opt⟩
  | .bi _ es, h => by
    simp only [simE] at h
    simp only [den]
    exact ⟨(simEs_ok C h).1.bind fun _ => .opt, (simEs_ok C h).2.bind fun _ => .opt⟩
theorem simEs_ok (C : Cs) : ∀ {es : List E}, simEs es = true → Pure (evs (dens C es)) ∧ NoEx (evs (dens C es))
  | [], _ => by simp only [dens]; exact ⟨.ret, .ret⟩
  | e :: es, h => by
    simp only [simEs, Bool.and_eq_true] at h
    simp only [dens]
    exact ⟨(simE_ok C h.1).1.bind fun _ => (simEs_ok C h.2).1.bind fun _ => .ret, (simE_ok C h.1).2.bind fun _ => (simEs_ok C h.2).2.bind fun _ => .ret⟩
end
/-- a key's place -/
theorem at_key {K : PySem.W.Frag} {H : Hp} {Z : AS} {ks vs : List D} {k d1 : D} {v0 vk : V} {A Ak : AS} {o ok : Ow} (r : RO K H Z (.ow o) (.dct false ks vs) v0 A) (h : getP (.dct false ks vs) [k] = some d1) (rk : RO K H Z ok k vk Ak) :
    ∃ a x, v0 = .ref a ∧ DGet H a vk (some x) ∧ At H v0 [k] x := by
  rw [getP] at h
  split at h
  · rename_i hk
    obtain ⟨d2, g1, _⟩ := Option.bind_eq_some_iff.mp h
    obtain ⟨a, xs, B, G, rfl, h1, I, _⟩ := r
    obtain ⟨key, rfl, hv⟩ := kd_of hk
    cases hv _ _ _ _ _ _ rk
    obtain ⟨j, j1, j2, _⟩ := dGet_at g1
    obtain ⟨x, hx⟩ : ∃ x, xs[j]? = some x := ⟨_, List.getElem?_eq_getElem (by rw [I.len]; exact (List.getElem?_eq_some_iff.mp j2).1)⟩
    obtain ⟨kvs, e1, hl, gg, _⟩ := dk_get (key := key) h1
    refine ⟨a, x, rfl, ?_, ⟨a, x, rfl, .inr ⟨false, ks, xs, j, h1, j1, hx⟩, rfl⟩⟩
    rw [← gg j x j1 hx]
    exact DGet.k e1
  · cases h

section
variable {X : Cx} {c : Cc} {f g : M D} {ows ows1 ows2 ows' : Ows} {o ok : Ow} {q : Bool} {b idx e : Expr} {pos p1 : Pos}
theorem evs_snoc1 {ps : List (M D × M Bool)} {p : M D × M Bool} {env : Env} (hpu : Pure (evs ps)) : evs (ps ++ [p]) env = match evs ps env with
    | .ok ds _ => (match p.1 env with
      | .ok d e2 => .ok (ds ++ [d]) e2
      | .ex n e2 => .ex n e2
      | .no => .no)
    | .ex n e => .ex n e
    | .no => .no := by
  rw [evs_snoc]
  unfold M.bind
  cases e1 : evs ps env with
  | no => rfl
  | ex => rfl
  | ok ds e2 =>
    have := hpu _ _ _ e1
    subst this
    simp only
    cases p.1 e2 <;> rfl
/-- one step further -/
theorem pl_ix {i n : Nat} {ps : List (M D × M Bool)} {fk : M D × M Bool} (hu : X.A.units + 1 < cLine) (hK : X.K = c.K) (hb : PE X b (tPl c i (evs ps) ows)) (hpl : ∀ e r e', evs ps e = .ok r e' → r.length = n) (hpu : Pure (evs ps)) (hpk : Pure fk.1) (hnx : NoEx fk.1) (hs : noSl idx = true)
    (hk : PE X idx (tR c fk.1 ows ows ok true)) (hd : deepO (owAt ows i) n = true) : PE X (.Subscript b idx pos) (tPl c i (evs (ps ++ [fk])) ows) := by
  refine wPE (pe_ix (r := fun x y H Q => rIxL c.K x y H Q ∨ rIxDc x y H Q) (by rw [← hK]; exact ix_list.or (ix_dict hu)) hb hk (plainIx hs)) fun σ H Q ⟨w, env, hw, sr, z⟩ => ⟨w, env, hw, sr, ?_⟩
  rw [evs_snoc1 hpu] at z
  cases e1 : evs ps env with
  | no => rw [e1] at z; exact z.elim
  | ex n env1 => rw [e1] at z; exact z
  | ok qs env1 =>
    have := hpu _ _ _ e1
    subst this
    rw [e1] at z
    simp only at z
    cases e2 : fk.1 env1 with
    | no => rw [e2] at z; exact z.elim
    | ex m env2 => exact absurd e2 (hnx _ _ _)
    | ok dk env2 =>
      have := hpk _ _ _ e2
      subst this
      rw [e2] at z
      simp only at z
      obtain ⟨_, d, d1, g1, g2, z⟩ := z
      obtain ⟨d0, g3, g4⟩ := getP_snoc g2
      refine ⟨rfl, d, d0, g1, g3, fun w1 v v0 x1 k1 s1 hσ at1 => ?_⟩
      refine ⟨w1, env2, rfl, s1, ?_⟩
      rw [e2]
      intro w2 vk Ak x2 s2 rk k2
      have hqn := hpl _ _ _ e1
      subst hqn
      obtain ⟨o', eo, eo'⟩ := oAt_snoc hd
      obtain ⟨v', v1', A1, p1, p2, p3, _⟩ := s2.place g1 g3 hd
      rw [hσ] at p1
      cases p1
      cases (at1.mono (k2 rfl)).det p2
      rw [eo] at p3
      have fin : ∀ {x : V}, At w2.H v0 [dk] x → Q x w2.H := fun {x} ha => z w2 v x (x1.trans x2) (fun a q e => k2 rfl a q (k1 a q e)) s2 hσ ((at1.mono (k2 rfl)).snoc ha)
      cases d0 with
      | lst ds =>
        cases dk with
        | int j =>
          obtain ⟨a, xs, x, rfl, h1, h2, h3⟩ := at_item p3 g4 (fun _ _ _ h => by cases h)
          exact .inl ⟨a, xs, j, x, rfl, rk.int, SqL.of h1, h2, fin h3⟩
        | _ => simp [getP] at g4
      | dct t ks vs =>
        cases t with
        | true => simp [getP, keyD] at g4
        | false =>
          obtain ⟨a, x, rfl, h1, h2⟩ := at_key p3 g4 rk
          exact .inr ⟨a, x, rfl, h1, fin h2⟩
      | _ => simp [getP] at g4

/-! ### stores -/
theorem M.bind_ok {α β : Type} {f : M α} {g : α → M β} {e e' : Env} {a : α} (h : f e = .ok a e') : M.bind f g e = g a e' := by unfold M.bind; rw [h]
theorem M.bind_ex {α β : Type} {f : M α} {g : α → M β} {e e' : Env} {n : Str} (h : f e = .ex n e') : M.bind f g e = .ex n e' := by unfold M.bind; rw [h]
theorem M.bind_no {α β : Type} {f : M α} {g : α → M β} {e : Env} (h : f e = .no) : M.bind f g e = .no := by unfold M.bind; rw [h]
abbrev rSetA : TSet := fun o i v H Q => rSetL o i v H Q ∨ rSetD o i v H Q
theorem set_A (hu : X.A.units + 1 < cLine) : PSet X rSetA := by
  intro pins s σ H o i v ov iv u Q I ro ri rv h
  rcases h with h | h
  · exact set_list pins s σ H o i v ov iv u Q I ro ri rv h
  · exact set_dict hu pins s σ H o i v ov iv u Q I ro ri rv h
theorem putM_inv {i : Nat} {qs : List D} {k y : D} {env : Env} {d d1 : D} {P : R Fl → Prop} (g1 : getS env i = some d) (g2 : getP d qs = some d1) (z : P (M.bind (putM i qs k y) (fun _ => M.ret .nx) env)) (hno : ¬ P .no) :
    ∃ d1', putI d1 k y = some d1' ∧ ∀ d', setP d qs d1' = some d' → P (.ok .nx (setS env i d')) := by
  unfold putM at z
  simp only [M.bind, getPM_of g1 g2] at z
  cases e : putI d1 k y with
  | none => rw [e] at z; exact absurd z hno
  | some d1' =>
    rw [e] at z
    refine ⟨d1', rfl, fun d' h => ?_⟩
    simp only [M.opt, setPM_of g1 h, M.ret] at z
    exact z
/-- what is stored at a place: the heap, the state behind -/
theorem put_step {i : Nat} {qs : List D} {dk y d d1 d1' : D} {env : Env} {σ : L2.St} {w w0 : Wd} {v v0 vk vy : V} {Ay Ak : AS} {ok : Ow} (s : SR c.K c.pn ows env σ w) (x0 : Ext w0 w) (g1 : getS env i = some d) (g2 : getP d qs = some d1) (hd : deepO (owAt ows i) qs.length = true) (hp : ∀ p, c.pn i = some p → p.2 = none)
    (hσ : σ[i]? = some (some v)) (ha : At w.H v qs v0) (rk : RO c.K w.H w.Z ok dk vk Ak) (ry : RO c.K w.H w.Z (oAt (owAt ows i) (qs.length + 1)) y vy Ay) (ty : Tmp w0 w Ay) (hput : putI d1 dk y = some d1') :
    ∃ d' H', setP d qs d1' = some d' ∧ (∀ Q : Hp → Prop, Q H' → rSetA v0 vk vy w.H Q) ∧ ∃ w', w'.H = H' ∧ SR c.K c.pn ows (setS env i d') σ w' ∧ Ext w0 w' := by
  obtain ⟨o', eo, eo'⟩ := oAt_snoc hd
  rw [eo'] at ry
  obtain ⟨A1, r1, hA1, step⟩ := mut_step s g1 g2 hd hp x0 hσ ha
  rw [eo] at r1
  -- the footprint behind
  have hz : ∀ {B' : AS} {a : Addr}, A1 a → (∀ b, B' b → A1 b ∨ Ay b) → (∀ b, (b = a ∨ B' b) → ¬ w.Z b) := fun {B' a} h h2 b hb => by
    rcases hb with rfl | hb
    · exact s.zf i b (hA1 b h)
    · rcases h2 b hb with h | h
      · exact s.zf i b (hA1 b h)
      · exact ty.z b h
  have hf : ∀ {B' : AS} {a : Addr}, A1 a → (∀ b, B' b → A1 b ∨ Ay b) → (∀ b j, (b = a ∨ B' b) → w.F j b → A1 b) := fun {B' a} h h2 b j hb hj => by
    rcases hb with rfl | hb
    · exact h
    · rcases h2 b hb with h | h
      · exact h
      · exact absurd hj (ty.f b j h)
  have hn : ∀ {B' : AS} {a : Addr}, A1 a → (∀ b, B' b → A1 b ∨ Ay b) → (∀ b, (b = a ∨ B' b) → (∃ j, w0.F j b) ∨ w0.H b = none) := fun {B' a} h h2 b hb => by
    rcases hb with rfl | hb
    · exact x0.nw i b (hA1 b h)
    · rcases h2 b hb with h | h
      · exact x0.nw i b (hA1 b h)
      · exact ty.nw b h
  -- data under the written thing stay
  have st : ∀ {a : Addr} {q0 q' : HO} {A : AS}, w.H a = some q0 → mutO q0 = true → A1 a → ¬ A a → ∀ b q, w.H b = some q → (w.Z b ∨ A b ∨ mutO q = false) → L2.upd w.H a q' b = some q := fun {a q0 q' A} e m h1 h2 b q eb zz => by
    rw [upd_ne]
    · exact eb
    · rintro rfl
      rcases zz with zz | zz | zz
      · exact s.zf i b (hA1 b h1) zz
      · exact h2 zz
      · rw [e] at eb; cases eb; rw [m] at zz; cases zz
  have nAy : ∀ {b : Addr}, A1 b → ¬ Ay b := fun {b} h h2 => ty.f b i h2 (hA1 b h)
  cases d1 with
  | lst ds =>
    cases dk with
    | int j =>
      obtain ⟨jj, hj, rfl⟩ := Option.map_eq_some_iff.mp (show (ixN ds.length j).map (fun j => D.lst (ds.set j y)) = some d1' from hput)
      obtain ⟨l, zs, B, G, rfl, hl, I, nb, hA⟩ := r1
      have hA1l : A1 l := (hA l).mpr (.inl rfl)
      have hjl : jj < ds.length := by
        unfold ixN at hj
        split at hj
        · split at hj
          · cases hj; omega
          · cases hj
        · split at hj
          · cases hj; omega
          · cases hj
      have gB : ∀ b, G jj b → B b := fun b g => (I.some_ b).mpr ⟨jj, hjl, g⟩
      have I' := I.setAt (R' := RO c.K (L2.upd w.H l (.lst (zs.set jj vy))) w.Z o') (d' := y) (x' := vy) hjl (fun k d x hk e1 e2 rx => rx.keep (fun _ z => z) (st (q0 := .lst zs) hl rfl hA1l fun g => nb ((I.some_ l).mpr ⟨k, (List.getElem?_eq_some_iff.mp e1).1, g⟩)))
        (ry.keep (fun _ z => z) (st (q0 := .lst zs) hl rfl hA1l (nAy hA1l))) (fun k a hk hkl h1 h2 => nAy ((hA a).mpr (.inr ((I.some_ a).mpr ⟨k, hkl, h2⟩))) h1)
      have hB' : ∀ b, ((B b ∧ ¬ G jj b) ∨ Ay b) → A1 b ∨ Ay b := fun b h => h.imp (fun h => (hA b).mpr (.inr h.1)) id
      obtain ⟨d', s1, s2, s3⟩ := step (H' := L2.upd w.H l (.lst (zs.set jj vy))) (d1' := .lst (ds.set jj y)) (A1' := fun a => a = l ∨ ((B a ∧ ¬ G jj a) ∨ Ay a)) (kp_upd (w := w) (A1 := A1) hA1l).1 (kp_upd (w := w) (A1 := A1) hA1l).2
        (by rw [eo]; exact ⟨l, _, _, _, rfl, upd_same, I', fun h => h.elim (fun h => nb h.1) (nAy hA1l), fun b => Iff.rfl⟩) (hz hA1l hB') (hf hA1l hB') (hn hA1l hB')
      exact ⟨d', _, s1, fun Q q => .inl ⟨l, zs, j, jj, rfl, rk.int, hl, by rw [I.len]; exact hj, q⟩, _, rfl, s2, s3⟩
    | _ => simp [putI] at hput
  | dct t ks vs =>
    cases t with
    | true => simp [putI, keyD] at hput
    | false =>
      simp only [putI] at hput
      split at hput
      · rename_i hkk
        cases hput
        simp only [Bool.and_eq_true, decide_eq_true_eq] at hkk
        obtain ⟨key, rfl, hv⟩ := kd_of hkk.1
        cases hv _ _ _ _ _ _ rk
        obtain ⟨a, xs, B, G, rfl, hl, I, nb, hA⟩ := r1
        have hA1l : A1 a := (hA a).mpr (.inl rfl)
        have hvl : vs.length = ks.length := by
          rw [← I.len]
          obtain ⟨_, ⟨_, kvs, _, e2, e3⟩ | ⟨z, _⟩⟩ := hl
          · rw [e2, e3]; simp
          · cases z
        obtain ⟨kvs, e1, e2, e3⟩ := dk_put (key := key) hl hvl y vy
        have hset : ∀ Q : Hp → Prop, Q (L2.upd w.H a (.dK (putK kvs key vy))) → rSetA (.ref a) (kV key) vy w.H Q := fun Q q => .inr ⟨a, _, rfl, DPut.k e1 (by rw [e2, ← sz_eq]; exact hkk.2), q⟩
        rcases e3 (H' := L2.upd w.H a (.dK (putK kvs key vy))) upd_same with ⟨j, hj, hdp, hdc⟩ | ⟨hj, hdp, hdc⟩
        · have hjl : j < vs.length := by rw [hvl]; exact (List.getElem?_eq_some_iff.mp hj).1
          have I' := I.setAt (R' := RO c.K (L2.upd w.H a (.dK (putK kvs key vy))) w.Z o') (d' := y) (x' := vy) hjl (fun k d x hk e1' e2' rx => rx.keep (fun _ z => z) (st (q0 := .dK kvs) e1 rfl hA1l fun g => nb ((I.some_ a).mpr ⟨k, (List.getElem?_eq_some_iff.mp e1').1, g⟩)))
            (ry.keep (fun _ z => z) (st (q0 := .dK kvs) e1 rfl hA1l (nAy hA1l))) (fun k b hk hkl h1 h2 => nAy ((hA b).mpr (.inr ((I.some_ b).mpr ⟨k, hkl, h2⟩))) h1)
          have hB' : ∀ b, ((B b ∧ ¬ G j b) ∨ Ay b) → A1 b ∨ Ay b := fun b h => h.imp (fun h => (hA b).mpr (.inr h.1)) id
          rw [hdp]
          obtain ⟨d', s1, s2, s3⟩ := step (H' := L2.upd w.H a (.dK (putK kvs key vy))) (d1' := .dct false ks (vs.set j y)) (A1' := fun b => b = a ∨ ((B b ∧ ¬ G j b) ∨ Ay b)) (kp_upd (w := w) (A1 := A1) hA1l).1 (kp_upd (w := w) (A1 := A1) hA1l).2
            (by rw [eo]; exact ⟨a, _, _, _, rfl, hdc, I', fun h => h.elim (fun h => nb h.1) (nAy hA1l), fun b => Iff.rfl⟩) (hz hA1l hB') (hf hA1l hB') (hn hA1l hB')
          exact ⟨d', _, s1, hset, _, rfl, s2, s3⟩
        · have I' := (I.keep (H' := L2.upd w.H a (.dK (putK kvs key vy))) (Z' := w.Z) (fun _ z => z) (st (q0 := .dK kvs) e1 rfl hA1l nb)).snoc (d := y) (x := vy) (A := Ay) (ry.keep (fun _ z => z) (st (q0 := .dK kvs) e1 rfl hA1l (nAy hA1l))) (fun b h1 h2 => nAy ((hA b).mpr (.inr h2)) h1)
          have hB' : ∀ b, (B b ∨ Ay b) → A1 b ∨ Ay b := fun b h => h.imp (fun h => (hA b).mpr (.inr h)) id
          rw [hdp]
          obtain ⟨d', s1, s2, s3⟩ := step (H' := L2.upd w.H a (.dK (putK kvs key vy))) (d1' := .dct false (ks ++ [kD key]) (vs ++ [y])) (A1' := fun b => b = a ∨ (B b ∨ Ay b)) (kp_upd (w := w) (A1 := A1) hA1l).1 (kp_upd (w := w) (A1 := A1) hA1l).2
            (by rw [eo]; exact ⟨a, _, _, _, rfl, hdc, I', fun h => h.elim nb (nAy hA1l), fun b => Iff.rfl⟩) (hz hA1l hB') (hf hA1l hB') (hn hA1l hB')
          exact ⟨d', _, s1, hset, _, rfl, s2, s3⟩
      · cases hput
  | _ => simp [putI] at hput
theorem assign_sub {o i : Expr} {pos : Pos} {env : PySem.Env} (h : noSl i = true) (v : Value) : assign (.Subscript o i pos) env v = (do
      let ov ← holding [v] (eval o env)
      let iv ← holding [v, ov] (eval i env)
      standAt pos
      holding [v, ov, iv] (setItem ov iv v)
      release [v, ov, iv] []) := by
  cases i <;> first | rfl | cases h
theorem ps_putM {i n : Nat} {ps : List (M D × M Bool)} {fk fe : M D × M Bool} (hu : X.A.units + 1 < cLine) (hb : PE X b (tPl c i (evs ps) ows1)) (hpl : ∀ e r e', evs ps e = .ok r e' → r.length = n) (hpu : Pure (evs ps)) (hpk : Pure fk.1) (hnx : NoEx fk.1) (hs : noSl idx = true)
    (he : PE X e (tV c fe.1 ows ows1 (oAt (owAt ows1 i) (n + 1)) q)) (hk : PE X idx (tR c fk.1 ows1 ows1 ok true)) (hd : deepO (owAt ows1 i) n = true) (hp : ∀ p, c.pn i = some p → p.2 = none) :
    PS X (.Assign [.Subscript b idx p1] e pos) (tS c (M.bind fe.1 fun y => M.bind (evs (ps ++ [fk])) fun qs => match qs.getLast? with
      | none => fun _ => .no
      | some k => M.bind (putM i qs.dropLast k y) fun _ => M.ret .nx) ows (some ows1) none none) := by
  refine wPS (ps_asg he (pg_sub hb hk (set_A hu) (assign_sub hs)) (by cases e <;> rfl)) fun D σ H z0 => ?_
  obtain ⟨w, env, hw, sr, z⟩ := tS_iff.mp z0
  clear z0
  subst hw
  refine ⟨w, env, rfl, sr, ?_⟩
  cases e1 : fe.1 env with
  | no => rw [M.bind_no e1] at z; exact z
  | ex m env1 => rw [M.bind_ex e1] at z; exact fun w' x s => z w' σ x s
  | ok y env1 =>
    rw [M.bind_ok e1] at z
    intro w1 vy Ay x1 s1 r1 t1 _
    refine ⟨w1, env1, rfl, s1, ?_⟩
    have es := evs_snoc1 (p := fk) (env := env1) hpu
    cases e2 : evs ps env1 with
    | no =>
      rw [e2] at es
      rw [M.bind_no es] at z; exact z
    | ex m env2 =>
      rw [e2] at es
      rw [M.bind_ex es] at z
      exact fun w' x s => z w' σ (x1.trans x) s
    | ok qs env2 =>
      have := hpu _ _ _ e2
      subst this
      rw [e2] at es
      simp only at es
      cases e3 : fk.1 env2 with
      | no =>
        rw [e3] at es
        rw [M.bind_no es] at z; exact z.elim
      | ex m env3 => exact absurd e3 (hnx _ _ _)
      | ok dk env3 =>
        have := hpk _ _ _ e3
        subst this
        rw [e3] at es
        rw [M.bind_ok es] at z
        simp only [List.getLast?_append, List.getLast?_singleton, Option.some_or, List.dropLast_concat] at z
        obtain ⟨d, d1, g1, g2, _⟩ | g3 := getPM_inv (e := env3) (i := i) (qs := qs)
        · obtain ⟨d1', h1, h2⟩ := putM_inv (P := tSz c w σ D (some ows1) none none) g1 g2 z (fun h => h)
          refine ⟨rfl, d, d1, g1, g2, fun w2 v v0 x2 k2 s2 hσ at2 => ?_⟩
          refine ⟨w2, env3, rfl, s2, ?_⟩
          rw [e3]
          intro w3 vk Ak x3 s3 rk k3
          have hqn := hpl _ _ _ e2
          subst hqn
          have r3 := RO.ext s1 t1.f (x2.trans x3) r1
          have t3 := Tmp.ext s1 t1 (fun a ha => r1.ne a ha) x1 (x2.trans x3)
          obtain ⟨d', H', f1, f2, w4, rfl, f3, f4⟩ := put_step s3 ((x1.trans x2).trans x3) g1 g2 hd hp hσ (at2.mono (k3 rfl)) rk r3 t3 h1
          exact f2 _ (h2 d' f1 w4 σ f4 ⟨_, rfl, f3⟩)
        · unfold putM at z
          simp only [M.bind, g3] at z
          exact z.elim
end
end Mp
/-! Mq7: x += e, x[..] += e; stores, checked. -/
namespace Mp
open PySem PySem.Spec PyProof.Rows L2

theorem get_list {X : Cx} : PGet X (rIxL X.K) := by
  intro pins s σ H x y v u Q I rx ry h
  obtain ⟨p, xs, i, z, rfl, rfl, hq, he, q⟩ := h
  cases rx
  obtain ⟨t, rfl⟩ := ry
  obtain ⟨its, r, pl, hz⟩ := I.list hq
  obtain ⟨j, h1, h2, h3, h4, h5⟩ := atI_get he
  obtain ⟨w, ew, rw'⟩ := r.get h2
  have hl := r.length
  have hn := line63
  have fin : EP X pins σ Q w s := ⟨z, H, I, rw', q⟩
  by_cases h0 : 0 ≤ i
  · have hj : i.toNat = j := by
      rw [seqIndex_of h0 h5] at h1
      exact Option.some.inj h1
    exact wpAny_getItem_list pl.isList h0 (by omega) (by rw [hj]; simpa using ew) fin
  · have hj : (i + (its.toArray.size : Int)).toNat = j := by
      rw [seqIndex_neg (by omega) h4] at h1
      rw [List.size_toArray, ← hl]
      exact Option.some.inj h1
    exact wpAny_getItem_list_neg pl.isList (by omega) (by rw [List.size_toArray] <;> omega) (by omega) (by rw [hj]; simpa using ew) fin
abbrev rGetA (K : PySem.W.Frag) : V → V → Hp → VK → Prop := fun x y H Q => rIxL K x y H Q ∨ rIxDc x y H Q
theorem get_A {X : Cx} (hu : X.A.units + 1 < cLine) : PGet X (rGetA X.K) := by
  intro pins s σ H x y v u Q I rx ry h
  rcases h with h | ⟨a, r, rfl, g, q⟩
  · exact get_list pins s σ H x y v u Q I rx ry h
  · cases rx
    exact d_getItem hu I g ry fun w' s' I' rw' => ⟨r, H, I', rw', q⟩
def augOp : BO → Option Operator
  | .add => some .Add
  | .sub => some .Sub
  | _ => none
abbrev ipA (k : BO) : TIp := fun x y H Q => ∃ i j z, x = .int i ∧ y = .int j ∧ augD k (.int i) (.int j) = some (.int z) ∧ Q (.int z) H
theorem ip_A {X : Cx} {k : BO} {op : Operator} (h : augOp k = some op) : PIp X op (ipA k) := by
  intro pins s σ H x y v u Q I r1 r2 ⟨i, j, z, e1, e2, e3, q⟩
  cases k <;> simp only [augOp, reduceCtorEq, Option.some.injEq] at h
  · subst h
    cases e3
    exact ip_add pins s σ H x y v u Q I r1 r2 ⟨i, j, e1, e2, q⟩
  · subst h
    cases e3
    exact ip_sub pins s σ H x y v u Q I r1 r2 ⟨i, j, e1, e2, q⟩
theorem augD_int {k : BO} {x y z : D} (h : augD k x y = some z) {op : Operator} (ho : augOp k = some op) : ∃ i j r, x = .int i ∧ y = .int j ∧ z = .int r := by
  cases x <;> cases y <;> simp only [augD, reduceCtorEq] at h
  cases k <;> simp only [augOp, reduceCtorEq] at ho
  · cases h; exact ⟨_, _, _, rfl, rfl, rfl⟩
  · cases h; exact ⟨_, _, _, rfl, rfl, rfl⟩
section
variable {X : Cx} {c : Cc} {f g : M D} {ows ows1 ows2 ows' : Ows} {o ok oe : Ow} {q : Bool} {b idx e : Expr} {pos p1 : Pos}
/-- x += e -/
theorem ps_augM {i : Nat} {x : Str} {px : Pos} {k : BO} {op : Operator} {fe : M D} (hN : X.N.Nodup) (hi : X.N[i]? = some x) (hx : Loc X.env.scope x) (hf : X.fn x = true ∨ X.env.scope.names.lookup x = some .local) (hp : c.pn i = none) (hl : i < ows1.length) (ho : augOp k = some op) (hpu : Pure fe) (he : PE X e (tR c fe ows ows1 oe q)) :
    PS X (.AugAssign (.Name x px) op e pos) (tS c (M.bind (varM i) fun x => M.bind fe fun y => M.bind (M.opt (augD k x y)) fun z => fun s => .ok .nx (setS s i z)) ows (some (ows1.set i (.ow .fr))) none none) := by
  refine wPS (ps_aug hN hi hx he (ip_A ho) hf) fun D σ H z0 => ?_
  obtain ⟨w, env, hw, sr, z⟩ := tS_iff.mp z0
  clear z0
  subst hw
  cases e1 : getS env i with
  | none => rw [M.bind_no (show varM i env = .no by unfold varM; rw [e1])] at z; exact z.elim
  | some d =>
    rw [M.bind_ok (show varM i env = .ok d env by unfold varM; rw [e1])] at z
    obtain ⟨v, h1, h2⟩ := sr.at_ i d e1
    refine ⟨v, h1, w, env, rfl, sr, ?_⟩
    cases e2 : fe env with
    | no => rw [M.bind_no e2] at z; exact z
    | ex n env1 => rw [M.bind_ex e2] at z; exact fun w' x s => z w' σ x s
    | ok y env1 =>
      have := hpu _ _ _ e2
      subst this
      rw [M.bind_ok e2] at z
      intro w1 vy Ay x1 s1 r1 k1
      cases e3 : augD k d y with
      | none => rw [e3] at z; exact z.elim
      | some zz =>
        rw [e3] at z
        obtain ⟨a, b, r, rfl, rfl, rfl⟩ := augD_int e3 ho
        have hv : v = .int a := h2.int
        subst hv
        exact ⟨a, b, r, rfl, r1.int, e3, z (w1.put i fun _ => False) _ (Ext.put x1 Tmp.nil) ⟨_, rfl, s1.put i hp (fun j hj => owAt_set hj) (owAt_self' hl) RO.mkint (fun _ h => h.elim) (fun _ _ h => h.elim)⟩⟩
theorem augStore_no {i : Expr} (h : noSl i = true) : ∀ ov iv new, augStore i ov iv new = (do holding [new, ov, iv] (setItem ov iv new); release [new, ov, iv] []; pure .next) := by
  intros
  cases i <;> first | rfl | cases h
/-- x[..] += e -/
theorem ps_augPM {i n : Nat} {ps : List (M D × M Bool)} {fk fe : M D × M Bool} {k : BO} {op : Operator} (hu : X.A.units + 1 < cLine) (hK : X.K = c.K) (ho : augOp k = some op) (hb : PE X b (tPl c i (evs ps) ows)) (hpl : ∀ e r e', evs ps e = .ok r e' → r.length = n) (hpu : Pure (evs ps)) (hpk : Pure fk.1) (hnx : NoEx fk.1) (hpe : Pure fe.1) (hne : NoEx fe.1) (hs : noSl idx = true)
    (he : PE X e (tR c fe.1 ows ows oe true)) (hk : PE X idx (tR c fk.1 ows ows ok true)) (hd : deepO (owAt ows i) n = true) (hp : ∀ p, c.pn i = some p → p.2 = none) :
    PS X (.AugAssign (.Subscript b idx p1) op e pos) (tS c (M.bind (evs (ps ++ [fk])) fun qs => match qs.getLast? with
      | none => fun _ => .no
      | some kk => M.bind (getPM i qs.dropLast) fun d => M.bind (M.opt (ixD d kk)) fun x => M.bind fe.1 fun y => M.bind (M.opt (augD k x y)) fun z => M.bind (putM i qs.dropLast kk z) fun _ => M.ret .nx) ows (some ows) none none) := by
  refine wPS (ps_augS hb hk (get_A hu) he (ip_A ho) (set_A hu) (augStore_no hs)) fun D σ H z0 => ?_
  obtain ⟨w, env, hw, sr, z⟩ := tS_iff.mp z0
  clear z0
  subst hw
  refine ⟨w, env, rfl, sr, ?_⟩
  have es := evs_snoc1 (p := fk) (env := env) hpu
  cases e2 : evs ps env with
  | no =>
    rw [e2] at es
    rw [M.bind_no es] at z; exact z
  | ex m env2 =>
    rw [e2] at es
    rw [M.bind_ex es] at z
    exact fun w' x s => z w' σ x s
  | ok qs env2 =>
    have := hpu _ _ _ e2
    subst this
    rw [e2] at es
    simp only at es
    cases e3 : fk.1 env2 with
    | no =>
      rw [e3] at es
      rw [M.bind_no es] at z; exact z.elim
    | ex m env3 => exact absurd e3 (hnx _ _ _)
    | ok dk env3 =>
      have := hpk _ _ _ e3
      subst this
      rw [e3] at es
      rw [M.bind_ok es] at z
      simp only [List.getLast?_append, List.getLast?_singleton, Option.some_or, List.dropLast_concat] at z
      obtain ⟨d, d1, g1, g2, g3⟩ | g3 := getPM_inv (e := env3) (i := i) (qs := qs)
      · rw [M.bind_ok g3] at z
        cases e4 : ixD d1 dk with
        | none => rw [e4] at z; exact z.elim
        | some x =>
          rw [e4, M.bind_ok (show M.opt (some x) env3 = .ok x env3 from rfl)] at z
          cases e5 : fe.1 env3 with
          | no => rw [M.bind_no e5] at z; exact z.elim
          | ex m env4 => exact absurd e5 (hne _ _ _)
          | ok y env4 =>
            have := hpe _ _ _ e5
            subst this
            rw [M.bind_ok e5] at z
            cases e6 : augD k x y with
            | none => rw [e6] at z; exact z.elim
            | some zz =>
              rw [e6, M.bind_ok (show M.opt (some zz) env4 = .ok zz env4 from rfl)] at z
              obtain ⟨ia, ib, ir, rfl, rfl, rfl⟩ := augD_int e6 ho
              obtain ⟨d1', h1, h2⟩ := putM_inv (P := tSz c w σ D (some ows) none none) g1 g2 z (fun h => h)
              refine ⟨rfl, d, d1, g1, g2, fun w2 v v0 x2 k2 s2 hσ at2 => ?_⟩
              refine ⟨w2, env4, rfl, s2, ?_⟩
              rw [e3]
              intro w3 vk Ak x3 s3 rk k3
              have hqn := hpl _ _ _ e2
              subst hqn
              have at3 := at2.mono (k3 rfl)
              obtain ⟨o', eo, eo'⟩ := oAt_snoc hd
              -- what stands there
              have get : ∀ {Q : VK}, Q (.int ia) w3.H → rGetA X.K v0 vk w3.H Q := fun {Q} hQ => by
                obtain ⟨v', v1', A1, p1, p2, p3, _⟩ := s3.place g1 g2 hd
                rw [hσ] at p1
                cases p1
                cases at3.det p2
                rw [eo] at p3
                cases d1 with
                | lst ds =>
                  cases dk with
                  | int j =>
                    obtain ⟨a, xs, B, G, rfl, hl, I, _⟩ := p3
                    obtain ⟨jj, j1, j2⟩ := atI_at (show atI ds j = some (.int ia) from e4)
                    obtain ⟨xx, hx⟩ : ∃ xx, xs[jj]? = some xx := ⟨_, List.getElem?_eq_getElem (by rw [I.len]; exact (List.getElem?_eq_some_iff.mp j2).1)⟩
                    have hxx := (I.at_ jj _ xx j2 hx).int
                    subst hxx
                    exact .inl ⟨a, xs, j, .int ia, rfl, rk.int, SqL.of hl, by unfold atI; rw [I.len, j1]; exact hx, hQ⟩
                  | _ => cases e4
                | dct t ks vs =>
                  cases t with
                  | true => cases e4
                  | false =>
                    simp only [ixD] at e4
                    split at e4
                    · rename_i hk2
                      obtain ⟨key, rfl, hv⟩ := kd_of hk2
                      cases hv _ _ _ _ _ _ rk
                      obtain ⟨a, xs, B, G, rfl, hl, I, _⟩ := p3
                      obtain ⟨j, j1, j2, _⟩ := dGet_at e4
                      obtain ⟨xx, hx⟩ : ∃ xx, xs[j]? = some xx := ⟨_, List.getElem?_eq_getElem (by rw [I.len]; exact (List.getElem?_eq_some_iff.mp j2).1)⟩
                      have hxx := (I.at_ j _ xx j2 hx).int
                      subst hxx
                      obtain ⟨kvs, e1, hl', gg, _⟩ := dk_get (key := key) hl
                      refine .inr ⟨a, .int ia, rfl, ?_, hQ⟩
                      rw [← gg j _ j1 hx]
                      exact DGet.k e1
                    · cases e4
                | _ => simp [putI] at h1
              refine get ⟨w3, env4, rfl, s3, ?_⟩
              rw [e5]
              intro w4 vy Ay x4 s4 ry k4
              have rk4 : RO c.K w4.H w4.Z ok dk vk Ak := rk.keep x4.z fun a q e _ => k4 rfl a q e
              obtain ⟨d', H', f1, f2, w5, rfl, f3, f4⟩ := put_step (y := .int ir) (Ay := fun _ => False) s4 ((x2.trans x3).trans x4) g1 g2 hd hp hσ (at3.mono (k4 rfl)) rk4 RO.mkint Tmp.nil h1
              exact ⟨ia, ib, ir, rfl, ry.int, e6, f2 _ (h2 d' f1 w5 σ f4 ⟨_, rfl, f3⟩)⟩
      · unfold M.bind at z
        rw [g3] at z
        exact z.elim
end

/-! ### checked -/
def vAugS : Stmt → Option (Expr × Operator × Expr)
  | .AugAssign t k e _ => some (t, k, e)
  | _ => none
theorem vAugS_eq {s : Stmt} {r : Expr × Operator × Expr} (h : vAugS s = some r) : ∃ p, s = .AugAssign r.1 r.2.1 r.2.2 p := by
  unfold vAugS at h
  split at h
  · cases h; exact ⟨_, rfl⟩
  · cases h
def vAsgS : Stmt → Option (Expr × Expr)
  | .Assign [t] e _ => some (t, e)
  | _ => none
theorem vAsgS_eq {s : Stmt} {r : Expr × Expr} (h : vAsgS s = some r) : ∃ p, s = .Assign [r.1] r.2 p := by
  unfold vAsgS at h
  split at h
  · cases h; exact ⟨_, rfl⟩
  · cases h
/-- a step of a place: looked at, nothing changed -/
def stepOk (E1 : E) (k : Ck) (idx : Expr) (ows : Ows) : Bool := simE E1 && (noSl idx && (match k.r idx ows with
  | some x => x.2.2 && decide (x.1 = ows)
  | none => false))
/-- the thing that holds the place -/
def plOk (S : Sg) (i : Nat) : List E → List Ck → Expr → Ows → Bool
  | [], [], b, _ => nmOk S i b
  | [E1], [k], b, ows => (match vSub b with
    | some s => nmOk S i s.1 && (stepOk E1 k s.2 ows && deepO (owAt ows i) 0)
    | none => false)
  | _, _, _, _ => false
section
variable {S : Sg} {C : Cs} {X : Cx} {c : Cc}
theorem stepOk_ok (G : GOk X c C S) {E1 : E} {k : Ck} {idx : Expr} {ows : Ows} (hk : CkOk S C k (den C E1)) (h : stepOk E1 k idx ows = true) : Pure (den C E1).1 ∧ NoEx (den C E1).1 ∧ noSl idx = true ∧ ∃ ok, PE X idx (tR c (den C E1).1 ows ows ok true) := by
  unfold stepOk at h
  simp only [Bool.and_eq_true] at h
  obtain ⟨h1, h2, h3⟩ := h
  split at h3
  · rename_i x ex
    simp only [Bool.and_eq_true, decide_eq_true_eq] at h3
    have := (hk X c G).2.1 _ _ x ex
    rw [h3.1, h3.2] at this
    exact ⟨(simE_ok C h1).1, (simE_ok C h1).2, h2, _, this⟩
  · cases h3
theorem plOk_ok (G : GOk X c C S) {i : Nat} : ∀ {Es : List E} {ks : List Ck} {b : Expr} {ows : Ows}, CksOk S C ks (dens C Es) → plOk S i Es ks b ows = true → PE X b (tPl c i (evs (dens C Es)) ows) ∧ Pure (evs (dens C Es)) ∧ ∀ e r e', evs (dens C Es) e = .ok r e' → r.length = Es.length
  | [], [], b, ows, _, h => by
    obtain ⟨x, p, rfl, n1, n2, n3, n4⟩ := nmOk_eq G (show nmOk S i b = true from h)
    simp only [dens]
    exact ⟨pl_nil n1 n2 n3 n4, .ret, fun e r e' h => by cases h; rfl⟩
  | [E1], [k], b, ows, hs, h => by
    simp only [plOk] at h
    split at h
    · rename_i s hv
      simp only [Bool.and_eq_true] at h
      obtain ⟨h1, h2, h3⟩ := h
      obtain ⟨p, rfl⟩ := vSub_eq hv
      obtain ⟨x, p', e1, n1, n2, n3, n4⟩ := nmOk_eq G h1
      simp only [dens] at hs ⊢
      obtain ⟨g1, g2, g3, ok, g4⟩ := stepOk_ok G hs.1 h2
      rw [e1]
      refine ⟨pl_ix (n := 0) (ps := []) (by have := G.hu; omega) G.K (pl_nil n1 n2 n3 n4) (fun e r e' h => by cases h; rfl) .ret g1 g2 g3 g4 h3, g1.bind fun _ => Pure.ret.bind fun _ => .ret, fun e r e' h => ?_⟩
      rw [evs_len h]; rfl
    · cases h
  | [], _ :: _, _, _, _, h => by cases h
  | _ :: _, [], _, _, hs, _ => by simp only [dens] at hs; exact hs.elim
  | _ :: _ :: _, [_], _, _, hs, _ => by simp only [dens] at hs; exact hs.2.elim
  | _ :: _ :: _, _ :: _ :: _, _, _, _, h => by cases h
  | [_], _ :: _ :: _, _, _, hs, _ => by simp only [dens] at hs; exact hs.2.elim
def csPut (S : Sg) (i : Nat) (Es : List E) (ks : List Ck) (El : E) (kl : Ck) (k : Ck) : Stmt → Ows → Option Ows := fun st ows => match vAsgS st with
  | some a => (match vSub a.1, k.v a.2 ows with
    | some s, some x => if (plOk S i Es ks s.1 x.1 && (stepOk El kl s.2 x.1 && (deepO (owAt x.1 i) Es.length && ((decide (x.2.1 = oAt (owAt x.1 i) (Es.length + 1)) || decide (oAt (owAt x.1 i) (Es.length + 1) = .fr)) && !S.pinw.contains i)))) = true then some x.1 else none
    | _, _ => none)
  | none => none
theorem dens_app {C : Cs} : ∀ {a b : List E}, dens C (a ++ b) = dens C a ++ dens C b
  | [], b => by simp [dens]
  | e :: a, b => by simp [dens, dens_app]
theorem csPut_ok (G : GOk X c C S) {i : Nat} {Es : List E} {ks : List Ck} {El : E} {kl k : Ck} {p : M D × M Bool} (hs : CksOk S C ks (dens C Es)) (hl : CkOk S C kl (den C El)) (hk : CkOk S C k p) {st : Stmt} {ows r : Ows} (h : csPut S i Es ks El kl k st ows = some r) :
    PS X st (tS c (M.bind p.1 fun y => M.bind (evs (dens C (Es ++ [El]))) fun qs => match qs.getLast? with
      | none => fun _ => .no
      | some k => M.bind (putM i qs.dropLast k y) fun _ => M.ret .nx) ows (some r) none none) := by
  unfold csPut at h
  split at h
  · rename_i a ha
    split at h
    · rename_i s x hv ex
      split at h
      · rename_i hn
        cases h
        simp only [Bool.and_eq_true, Bool.or_eq_true, decide_eq_true_eq, Bool.not_eq_true'] at hn
        obtain ⟨n1, n2, n3, n4, n5⟩ := hn
        obtain ⟨pos, rfl⟩ := vAsgS_eq ha
        obtain ⟨p2, e1⟩ := vSub_eq hv
        obtain ⟨q1, q2, q3⟩ := plOk_ok G hs n1
        obtain ⟨g1, g2, g3, ok, g4⟩ := stepOk_ok G hl n2
        rw [e1, dens_app]
        have hv := (hk X c G).1 _ _ x ex
        have hv' : PE X a.2 (tV c p.1 ows x.1 (oAt (owAt x.1 i) (Es.length + 1)) x.2.2) := by
          rcases n4 with z | z
          · rw [← z]; exact hv
          · rw [z]; exact keep_fr hv
        simp only [dens]
        exact ps_putM (n := Es.length) (by have := G.hu; omega) q1 q3 q2 g1 g2 g3 hv' g4 n3 (G.pw i (by simpa using n5))
      · cases h
    · cases h
  · cases h
def csAugP (S : Sg) (i : Nat) (Es : List E) (ks : List Ck) (El : E) (kl : Ck) (k0 : BO) (Ee : E) (k : Ck) : Stmt → Ows → Option Ows := fun st ows => match vAugS st with
  | some a => (match vSub a.1 with
    | some s => if (plOk S i Es ks s.1 ows && (stepOk El kl s.2 ows && (deepO (owAt ows i) Es.length && (stepOk Ee k a.2.2 ows && (decide (augOp k0 = some a.2.1) && !S.pinw.contains i))))) = true then some ows else none
    | none => none)
  | none => none
theorem csAugP_ok (G : GOk X c C S) {i : Nat} {Es : List E} {ks : List Ck} {El Ee : E} {kl k : Ck} {k0 : BO} (hs : CksOk S C ks (dens C Es)) (hl : CkOk S C kl (den C El)) (hk : CkOk S C k (den C Ee)) {st : Stmt} {ows r : Ows} (h : csAugP S i Es ks El kl k0 Ee k st ows = some r) :
    PS X st (tS c (M.bind (evs (dens C (Es ++ [El]))) fun qs => match qs.getLast? with
      | none => fun _ => .no
      | some kk => M.bind (getPM i qs.dropLast) fun d => M.bind (M.opt (ixD d kk)) fun x => M.bind (den C Ee).1 fun y => M.bind (M.opt (augD k0 x y)) fun z => M.bind (putM i qs.dropLast kk z) fun _ => M.ret .nx) ows (some r) none none) := by
  unfold csAugP at h
  split at h
  · rename_i a ha
    split at h
    · rename_i s hv
      split at h
      · rename_i hn
        cases h
        simp only [Bool.and_eq_true, decide_eq_true_eq, Bool.not_eq_true'] at hn
        obtain ⟨n1, n2, n3, n4, n5, n6⟩ := hn
        obtain ⟨pos, rfl⟩ := vAugS_eq ha
        obtain ⟨p2, e1⟩ := vSub_eq hv
        obtain ⟨q1, q2, q3⟩ := plOk_ok G hs n1
        obtain ⟨g1, g2, g3, ok, g4⟩ := stepOk_ok G hl n2
        obtain ⟨f1, f2, f3, oe, f4⟩ := stepOk_ok G hk n4
        rw [e1, dens_app]
        simp only [dens]
        exact ps_augPM (n := Es.length) (by have := G.hu; omega) G.K n5 q1 q3 q2 g1 g2 f1 f2 g3 f4 g4 n3 (G.pw i (by simpa using n6))
      · cases h
    · cases h
  · cases h
def nmLoc (S : Sg) (i : Nat) (e : Expr) : Bool := match vName e with
  | some x => decide (S.N[i]? = some x) && (S.loc x && !S.pins.contains i)
  | none => false
def csAug (S : Sg) (i : Nat) (k0 : BO) (Ee : E) (k : Ck) : Stmt → Ows → Option Ows := fun st ows => match vAugS st with
  | some a => (match k.r a.2.2 ows with
    | some x => if (nmLoc S i a.1 && (pureE Ee && (decide (augOp k0 = some a.2.1) && decide (i < x.1.length)))) = true then some (x.1.set i (.ow .fr)) else none
    | none => none)
  | none => none
theorem csAug_ok (G : GOk X c C S) {i : Nat} {Ee : E} {k : Ck} {k0 : BO} (hk : CkOk S C k (den C Ee)) {st : Stmt} {ows r : Ows} (h : csAug S i k0 Ee k st ows = some r) :
    PS X st (tS c (M.bind (varM i) fun x => M.bind (den C Ee).1 fun y => M.bind (M.opt (augD k0 x y)) fun z => fun s => .ok .nx (setS s i z)) ows (some r) none none) := by
  unfold csAug at h
  split at h
  · rename_i a ha
    split at h
    · rename_i x ex
      split at h
      · rename_i hn
        cases h
        simp only [Bool.and_eq_true, decide_eq_true_eq] at hn
        obtain ⟨n1, n2, n3, n4⟩ := hn
        obtain ⟨pos, rfl⟩ := vAugS_eq ha
        unfold nmLoc at n1
        split at n1
        · rename_i y ey
          simp only [Bool.and_eq_true, decide_eq_true_eq, Bool.not_eq_true'] at n1
          obtain ⟨p, e1⟩ := vName_eq ey
          rw [e1]
          have hl := G.loc y n1.2.1
          exact ps_augM G.nd (by rw [G.N]; exact n1.1) hl.1 hl.2 (G.pn i (by simpa using n1.2.2)) n4 n3 (pureE_ok C n2).1 ((hk X c G).2.1 _ _ x ex)
        · cases n1
      · cases h
    · cases h
  · cases h
end
end Mp
/-! Mp17: the checker of statements. -/
namespace Mp
open PySem PySem.Spec PyProof.Rows L2

structure SF where
  nx : Option Ows
  bk : Option Ows
  ct : Option Ows
abbrev SC := Stmt → Ows → Option SF
abbrev BC := List Stmt → Ows → Option SF
def SCOk (S : Sg) (C : Cs) (k : SC) (f : M Fl) : Prop := ∀ (X : Cx) (c : Cc), GOk X c C S → ∀ st ows r, k st ows = some r → PS X st (tS c f ows r.nx r.bk r.ct)
def BCOk (S : Sg) (C : Cs) (k : BC) (f : M Fl) : Prop := ∀ (X : Cx) (c : Cc), GOk X c C S → ∀ st ows r, k st ows = some r → PSs X st (tS c f ows r.nx r.bk r.ct)
def noSC : SC := fun _ _ => none
def joinQ : Option Ows → Option Ows → Option Ows
  | none, b => b
  | some a, none => some a
  | some a, some b => some (joinO a b)

/-! ### views -/
def vAsg : Stmt → Option (Expr × Expr)
  | .Assign [t] e _ => some (t, e)
  | _ => none
theorem vAsg_eq {s : Stmt} {r : Expr × Expr} (h : vAsg s = some r) : ∃ p, s = .Assign [r.1] r.2 p := by
  unfold vAsg at h
  split at h
  · cases h; exact ⟨_, rfl⟩
  · cases h
def vExp : Stmt → Option Expr
  | .Expr e _ => some e
  | _ => none
theorem vExp_eq {s : Stmt} {r : Expr} (h : vExp s = some r) : ∃ p, s = .Expr r p := by
  unfold vExp at h
  split at h
  · cases h; exact ⟨_, rfl⟩
  · cases h
def vIfS : Stmt → Option (Expr × List Stmt × List Stmt)
  | .If c a b _ => some (c, a, b)
  | _ => none
theorem vIfS_eq {s : Stmt} {r : Expr × List Stmt × List Stmt} (h : vIfS s = some r) : ∃ p, s = .If r.1 r.2.1 r.2.2 p := by
  unfold vIfS at h
  split at h
  · cases h; exact ⟨_, rfl⟩
  · cases h
def vFor : Stmt → Option (Expr × Expr × List Stmt)
  | .For t i b [] _ => some (t, i, b)
  | _ => none
theorem vFor_eq {s : Stmt} {r : Expr × Expr × List Stmt} (h : vFor s = some r) : ∃ p, s = .For r.1 r.2.1 r.2.2 [] p := by
  unfold vFor at h
  split at h
  · cases h; exact ⟨_, rfl⟩
  · cases h
def vWh : Stmt → Option (Expr × List Stmt)
  | .While c b [] _ => some (c, b)
  | _ => none
theorem vWh_eq {s : Stmt} {r : Expr × List Stmt} (h : vWh s = some r) : ∃ p, s = .While r.1 r.2 [] p := by
  unfold vWh at h
  split at h
  · cases h; exact ⟨_, rfl⟩
  · cases h
def vRet : Stmt → Option (Option Expr)
  | .Return e _ => some e
  | _ => none
theorem vRet_eq {s : Stmt} {r : Option Expr} (h : vRet s = some r) : ∃ p, s = .Return r p := by
  unfold vRet at h
  split at h
  · cases h; exact ⟨_, rfl⟩
  · cases h
def vAug : Stmt → Option (Expr × Operator × Expr)
  | .AugAssign t k e _ => some (t, k, e)
  | _ => none
theorem vAug_eq {s : Stmt} {r : Expr × Operator × Expr} (h : vAug s = some r) : ∃ p, s = .AugAssign r.1 r.2.1 r.2.2 p := by
  unfold vAug at h
  split at h
  · cases h; exact ⟨_, rfl⟩
  · cases h
/-- raise X('..') -/
def vRaise : Stmt → Option Str
  | .Raise (some (.Call (.Name x _) [.Constant (.str _) _ _] [] _)) none _ => some x
  | _ => none
theorem vRaise_eq {s : Stmt} {x : Str} (h : vRaise s = some x) : ∃ p m j p2 p3 p4, s = .Raise (some (.Call (.Name x p) [.Constant (.str m) j p2] [] p3)) none p4 := by
  unfold vRaise at h
  split at h
  · cases h; exact ⟨_, _, _, _, _, _, rfl⟩
  · cases h
def isPass : Stmt → Bool
  | .Pass _ => true
  | _ => false
def isBrk : Stmt → Bool
  | .Break _ => true
  | _ => false
def isCont : Stmt → Bool
  | .Continue _ => true
  | _ => false

section
variable {S : Sg} {C : Cs} {X : Cx} {c : Cc}
/-! ### small statements -/
def locOk (S : Sg) (i : Nat) (e : Expr) : Bool := match vName e with
  | some x => decide (S.N[i]? = some x) && (S.loc x && !S.pins.contains i)
  | none => false
theorem locOk_eq (G : GOk X c C S) {i : Nat} {pe : Expr} (h : locOk S i pe = true) : ∃ x p, pe = .Name x p ∧ X.N[i]? = some x ∧ (L2.Loc X.env.scope x ∧ (X.fn x = true ∨ X.env.scope.names.lookup x = some .local)) ∧ c.pn i = none := by
  unfold locOk at h
  split at h
  · rename_i x e
    obtain ⟨p, rfl⟩ := vName_eq e
    simp only [Bool.and_eq_true, decide_eq_true_eq, Bool.not_eq_true'] at h
    exact ⟨x, p, rfl, by rw [G.N]; exact h.1, G.loc x h.2.1, G.pn i (by simpa using h.2.2)⟩
  · cases h
/-- the value is stored after its block has ended -/
def noSw (S : Sg) (t e : Expr) : Bool := match e with
  | .ListComp _ _ _ _ => (match vName t with
    | some x => decide (S.sc.names.lookup x = some .cell)
    | none => false)
  | _ => noComp e
theorem noSw_ok (G : GOk X c C S) {x : Str} {p : Pos} {e : Expr} {n : Nat} (h : noSw S (.Name x p) e = true) : swapsWith e (some (.Name x p)) n X.env = pure false := by
  unfold noSw at h
  split at h
  · simp only [vName, decide_eq_true_eq] at h
    have hk : (X.env.kindOf x == some .local) = false := by
      have : X.env.kindOf x = some .cell := by
        show X.env.scope.names.lookup x = _
        rw [G.sc]; exact h
      rw [this]; rfl
    unfold swapsWith
    simp only [hk, Bool.and_false, Bool.false_and]
    first | done | rfl
  · exact swaps_no h
theorem ps_setW {f : M D} {i : Nat} {x : Str} {px pos : Pos} {e : Expr} {ows ows' : Ows} {o : Ow} {q : Bool} {te : TE} (hs : PS X (.Assign [.Name x px] e pos) (tAsg te (gName i))) (hp : c.pn i = none) (hl : i < ows'.length) (k : ∀ σ H Q, tV c f ows ows' o q σ H Q → te σ H Q) :
    PS X (.Assign [.Name x px] e pos) (tS c (M.bind f fun d => fun s => .ok .nx (setS s i d)) ows (some (ows'.set i o)) none none) := by
  refine wPS hs fun D σ H ⟨w, env, hw, sr, z⟩ => k σ H _ ⟨w, env, hw, sr, ?_⟩
  unfold M.bind at z
  cases e1 : f env with
  | no => rw [e1] at z; exact z
  | ex n env1 => rw [e1] at z; exact fun w' x s => z w' σ x s
  | ok d env1 =>
    rw [e1] at z
    intro w1 v A x1 s1 r1 t1 k1
    exact z (w1.put i A) _ (Ext.put x1 t1) ⟨_, rfl, s1.put i hp (fun j hj => owAt_set hj) (owAt_self' hl) r1 t1.z t1.f⟩
def csSet (S : Sg) (i : Nat) (k : Ck) : SC := fun st ows => match vAsg st with
  | some a => if (locOk S i a.1 && noSw S a.1 a.2) = true then (match k.v a.2 ows with
    | some x => if decide (i < x.1.length) = true then some ⟨some (x.1.set i x.2.1), none, none⟩ else none
    | none => none) else none
  | none => none
theorem csSet_ok {i : Nat} {k : Ck} {p : M D × M Bool} (hk : CkOk S C k p) : SCOk S C (csSet S i k) (M.bind p.1 fun d => fun s => .ok .nx (setS s i d)) := fun X c G st ows r h => by
  unfold csSet at h
  split at h
  · rename_i a ha
    split at h
    · rename_i hn
      split at h
      · rename_i x ex
        split at h
        · rename_i hl
          cases h
          simp only [Bool.and_eq_true] at hn
          obtain ⟨pos, rfl⟩ := vAsg_eq ha
          obtain ⟨y, p', e1, h1, h2, h3⟩ := locOk_eq G hn.1
          have hsw := hn.2
          rw [e1] at hsw ⊢
          exact ps_setW (ps_set G.nd h1 h2.1 ((hk X c G).1 _ _ x ex) (noSw_ok G hsw) h2.2) h3 (of_decide_eq_true hl) fun _ _ _ z => z
        · cases h
      · cases h
    · cases h
  · cases h
/-- x = [..], x a local: stored within the block -/
def swT (S : Sg) (t e : Expr) : Bool := match vName t, e with
  | some x, .ListComp _ _ sc pos => decide (S.sc.names.lookup x = some .local) && ((t.pos.line == pos.line) && !(sc.names.any fun (n, k) => n == x && (k == .local || k == .cell)))
  | _, _ => false
def csSetLc (S : Sg) (i : Nat) (t : T) (k : IK) (ks : List Ck) (fe : Sg → Ck) (fc : Sg → List Ck) (pu keep : Bool) : SC := fun st ows => match vAsg st with
  | some a => if (locOk S i a.1 && swT S a.1 a.2) = true then (match lcX S t k ks fe fc pu keep a.2 ows with
    | some x => if decide (i < x.1.length) = true then some ⟨some (x.1.set i x.2.1), none, none⟩ else none
    | none => none) else csSet S i (ckLc S t k ks fe fc pu keep) st ows
  | none => none
theorem csSetLc_ok {i : Nat} {t : T} {k : IK} {ks : List Ck} {ps pc : List (M D × M Bool)} {fe : Sg → Ck} {fc : Sg → List Ck} {pe' : M D × M Bool} {pu keep : Bool} (hs : CksOk S C ks ps) (he : ∀ S', CkOk S' C (fe S') pe') (hc : ∀ S', CksOk S' C (fc S') pc) (hpu : pu = true → Pure pe'.1 ∧ Pure (cM pc)) :
    SCOk S C (csSetLc S i t k ks fe fc pu keep) (M.bind (lcM pe'.1 t k ps pc) fun d => fun s => .ok .nx (setS s i d)) := fun X c G st ows r h => by
  unfold csSetLc at h
  split at h
  · rename_i a ha
    split at h
    · rename_i hn
      split at h
      · rename_i x ex
        split at h
        · rename_i hl
          cases h
          simp only [Bool.and_eq_true] at hn
          obtain ⟨pos, rfl⟩ := vAsg_eq ha
          obtain ⟨y, p', e1, h1, h2, h3⟩ := locOk_eq G hn.1
          obtain ⟨elt, tg, iter, ifs, sc, pos2, te, wi, tt, e2, g1, g2, g3, g, g4, g5, g6, g7, g8⟩ := lcX_ok G hs he hc hpu ex
          have hsw := hn.2
          rw [e1, e2] at hsw
          rw [e1, e2]
          simp only [swT, vName, Bool.and_eq_true, decide_eq_true_eq, Bool.not_eq_true'] at hsw
          obtain ⟨w1, w2, w3⟩ := hsw
          have hk : X.env.scope.kind = .function := G.kd
          exact ps_setW (ps_setLc g1 G.nd h1 (by rw [G.sc]; exact w1) (sw_true hk (by rw [G.sc]; exact w1) w2 w3) g2 g3 g4 g5 g6 g7) h3 (of_decide_eq_true hl) g8
        · cases h
      · cases h
    · exact csSet_ok (ckLc_ok hs he hc hpu) X c G st ows r (by unfold csSet; rw [ha]; rename_i hn; exact (by simpa [csSet, ha] using h))
  · cases h
def noTup : Expr → Bool
  | .Tuple _ _ _ => false
  | _ => true
theorem swaps_tup {es : List Expr} {k : Nat} {p : Pos} {e : Expr} {n : Nat} {env : PySem.Env} : swapsWithSole [.Tuple es k p] e n env = pure false := by
  cases e <;> rfl
theorem swapped_no {es : List Expr} {k : Nat} {p : Pos} {e : Expr} {env : PySem.Env} (h : noTup e = true) : swappedStores [.Tuple es k p] e env = pure none := by
  cases e <;> first | rfl | cases h
theorem ps_tgtM {is : List Nat} {es : List Expr} {k : Nat} {p pos : Pos} {e : Expr} {f : M D} {ows ows1 : Ows} {q : Bool} (hK : X.K = c.K) {lc : Str → Bool} {pn : Nat → Bool} (hlc : LocB X lc) (hc : X.calm = true) (hN : X.N.Nodup) (hpn : ∀ i, pn i = false → c.pn i = none) (hn : nmsOk X.N lc pn is es = true) (hs : noTup e = true) (he : PE X e (tV c f ows ows1 .fr q)) :
    PS X (.Assign [.Tuple es k p] e pos) (tS c (M.bind f fun d => fun s => match asg (.tp is) d s with
      | some s' => .ok .nx s'
      | none => .no) ows (some (frs ows1 is)) none none) := by
  have hg : PG X (.Tuple es k p) (tgT c (.tp is) ows1) := pg_tg hlc hc hK hN hpn (by simpa [tgOk, vTup] using hn)
  refine wPS (ps_asg he hg swaps_tup (swapped_no hs) (by rfl)) fun D σ H ⟨w, env, hw, sr, z⟩ => ⟨w, env, hw, sr, ?_⟩
  unfold M.bind at z
  cases e1 : f env with
  | no => rw [e1] at z; exact z
  | ex n env1 => rw [e1] at z; exact fun w' x s => z w' σ x s
  | ok d env1 =>
    rw [e1] at z
    intro w1 v A x1 s1 r1 t1 k1
    refine ⟨w1, env1, d, rfl, s1, r1.1, ?_⟩
    simp only at z
    cases e2 : asg (.tp is) d env1 with
    | none => rw [e2] at z; exact z
    | some env2 =>
      rw [e2] at z
      exact fun w' σ' x s _ _ => z w' σ' (x1.trans x) ⟨_, rfl, s⟩
def csTgt (S : Sg) (is : List Nat) (k : Ck) : SC := fun st ows => match vAsg st with
  | some a => (match vTup a.1 with
    | some es => if (nmsOk S.N S.loc (fun i => S.pins.contains i) is es && (noTup a.2 && S.calm)) = true then (match k.v a.2 ows with
      | some x => some ⟨some (frs x.1 is), none, none⟩
      | none => none) else none
    | none => none)
  | none => none
theorem csTgt_ok {is : List Nat} {k : Ck} {p : M D × M Bool} (hk : CkOk S C k p) : SCOk S C (csTgt S is k) (M.bind p.1 fun d => fun s => match asg (.tp is) d s with
      | some s' => .ok .nx s'
      | none => .no) := fun X c G st ows r h => by
  unfold csTgt at h
  split at h
  · rename_i a ha
    split at h
    · rename_i es he
      split at h
      · rename_i hn
        split at h
        · rename_i x ex
          cases h
          simp only [Bool.and_eq_true] at hn
          obtain ⟨pos, rfl⟩ := vAsg_eq ha
          obtain ⟨j, p', e1⟩ := vTup_eq he
          rw [e1]
          exact ps_tgtM G.K G.loc (pn := fun i => S.pins.contains i) (G.calm hn.2.2) G.nd (fun i h => G.pn i (by simpa using h)) (by rw [G.N]; exact hn.1) hn.2.1 (keep_fr ((hk X c G).1 _ _ x ex))
        · cases h
      · cases h
    · cases h
  · cases h
def csEx (k : Ck) : SC := fun st ows => match vExp st with
  | some e => if noComp e = true then (match k.r e ows with
    | some x => some ⟨some x.1, none, none⟩
    | none => none) else none
  | none => none
theorem csEx_ok {k : Ck} {p : M D × M Bool} (hk : CkOk S C k p) : SCOk S C (csEx k) (M.bind p.1 fun _ => M.ret .nx) := fun X c G st ows r h => by
  unfold csEx at h
  split at h
  · rename_i e he
    split at h
    · rename_i hn
      split at h
      · rename_i x ex
        cases h
        obtain ⟨pos, rfl⟩ := vExp_eq he
        exact ps_exM hn ((hk X c G).2.1 _ _ x ex)
      · cases h
    · cases h
  · cases h
def csRet (S : Sg) (k : Ck) : SC := fun st ows => match vRet st with
  | some (some e) => (match k.v e ows with
    | some x => if (weakB 0 x.1 S.r && (decide (x.2.1 = S.ro) || decide (S.ro = .fr))) = true then some ⟨none, none, none⟩ else none
    | none => none)
  | _ => none
theorem csRet_ok {k : Ck} {p : M D × M Bool} (hk : CkOk S C k p) : SCOk S C (csRet S k) (M.bind p.1 fun d => M.ret (.rt d)) := fun X c G st ows r h => by
  unfold csRet at h
  split at h
  · rename_i e he
    split at h
    · rename_i x ex
      split at h
      · rename_i hw
        cases h
        simp only [Bool.and_eq_true, Bool.or_eq_true, decide_eq_true_eq] at hw
        obtain ⟨pos, rfl⟩ := vRet_eq he
        have hv := (hk X c G).1 _ _ x ex
        refine ps_retM (by rw [G.r]; exact hw.1) (q := x.2.2) ?_
        rw [G.ro]
        rcases hw.2 with q | q
        · rw [← q]; exact hv
        · rw [q]; exact keep_fr hv
      · cases h
    · cases h
  · cases h
def csRetN (S : Sg) : SC := fun st ows => match vRet st with
  | some none => if weakB 0 ows S.r = true then some ⟨none, none, none⟩ else none
  | _ => none
theorem csRetN_ok : SCOk S C (csRetN S) (M.ret (.rt .non)) := fun X c G st ows r h => by
  unfold csRetN at h
  split at h
  · rename_i he
    split at h
    · rename_i hw
      cases h
      obtain ⟨pos, rfl⟩ := vRet_eq he
      exact ps_retNM (by rw [G.r]; exact hw)
    · cases h
  · cases h
def csPass : SC := fun st ows => if isPass st = true then some ⟨some ows, none, none⟩ else none
theorem csPass_ok : SCOk S C csPass (M.ret .nx) := fun X c G st ows r h => by
  unfold csPass at h
  split at h
  · cases h
    cases st <;> first | exact ps_passM | (rename_i hp; cases hp)
  · cases h
def csBrk : SC := fun st ows => if isBrk st = true then some ⟨none, some ows, none⟩ else none
theorem csBrk_ok : SCOk S C csBrk (M.ret .bk) := fun X c G st ows r h => by
  unfold csBrk at h
  split at h
  · cases h
    cases st <;> first | exact ps_brkM | (rename_i hp; cases hp)
  · cases h
def csCont : SC := fun st ows => if isCont st = true then some ⟨none, none, some ows⟩ else none
theorem csCont_ok : SCOk S C csCont (M.ret .ct) := fun X c G st ows r h => by
  unfold csCont at h
  split at h
  · cases h
    cases st <;> first | exact ps_contM | (rename_i hp; cases hp)
  · cases h
/-- raise -/
def csRaise (S : Sg) (n : Str) : SC := fun st ows => match vRaise st with
  | some x => if (decide (x = n) && (S.exc n && (S.glo n && (noDbg n && (S.calls && weakB 0 ows S.x))))) = true then some ⟨none, none, none⟩ else none
  | none => none
theorem csRaise_ok {n : Str} : SCOk S C (csRaise S n) (fun e => .ex n e) := fun X c G st ows r h => by
  unfold csRaise at h
  split at h
  · rename_i x hx
    split at h
    · rename_i hn
      cases h
      simp only [Bool.and_eq_true, decide_eq_true_eq] at hn
      obtain ⟨rfl, h1, h2, h3, h4, h5⟩ := hn
      obtain ⟨p, m, j, p2, p3, p4, rfl⟩ := vRaise_eq hx
      obtain ⟨hm, hkp, hr, B, nw, ini, bm, F, hex⟩ := G.exc x h1
      refine wPS (ps_raise (G.calm (G.tkc h4)) (G.fn h4).1 (pmk_own F hex hm hkp hr (G.glo h2) (noDbg1 h3))) fun D σ H ⟨w, env, hw, sr, z⟩ => ?_
      subst hw
      obtain ⟨w', x', eh, s'⟩ := sr.weak (show weakB 0 ows c.x = true by rw [G.x]; exact h5)
      have := z w' σ x' s'
      rw [eh] at this
      exact this
    · cases h
  · cases h

/-! ### blocks -/
def bcNil : BC := fun sts ows => match sts with
  | [] => some ⟨some ows, none, none⟩
  | _ => none
theorem bcNil_ok : BCOk S C bcNil (M.ret .nx) := fun X c G sts ows r h => by
  unfold bcNil at h
  split at h
  · cases h; exact pss_nil'
  · cases h
def isDoc : Stmt → Bool
  | .Expr (.Constant (.str _) _ _) _ => true
  | _ => false
def bcCons (k : SC) (ks : BC) : BC := fun sts ows => match sts with
  | st :: rest => (match k st ows with
    | some a => (match a.nx with
      | some o => (match ks rest o with
        | some b => if (wk a.bk (joinQ a.bk b.bk) && (wk b.bk (joinQ a.bk b.bk) && (wk a.ct (joinQ a.ct b.ct) && wk b.ct (joinQ a.ct b.ct)))) = true then some ⟨b.nx, joinQ a.bk b.bk, joinQ a.ct b.ct⟩ else none
        | none => none)
      | none => some ⟨none, a.bk, a.ct⟩)
    | none => none)
  | [] => none
theorem wk_refl : ∀ {a : Option Ows}, wk a a = true
  | none => rfl
  | some a => by
    show weakB 0 a a = true
    suffices h : ∀ (n : Nat) (a : Ows), weakB n a a = true from h 0 a
    intro n a
    induction a generalizing n with
    | nil => rfl
    | cons x xs ih => simp [weakB, ih]
theorem bcCons_ok {k : SC} {ks : BC} {f g : M Fl} (h1 : SCOk S C k f) (h2 : BCOk S C ks g) : BCOk S C (bcCons k ks) (seqM f g) := fun X c G sts ows r h => by
  unfold bcCons at h
  split at h
  · rename_i st rest
    split at h
    · rename_i a ea
      have p1 := h1 X c G st ows a ea
      split at h
      · rename_i o eo
        rw [eo] at p1
        split at h
        · rename_i b eb
          split at h
          · rename_i hw
            cases h
            simp only [Bool.and_eq_true] at hw
            exact pss_cons' (PS.weaken p1 wk_refl hw.1 hw.2.2.1) (PSs.weaken (h2 X c G rest o b eb) wk_refl hw.2.1 hw.2.2.2)
          · cases h
        · cases h
      · rename_i eo
        cases h
        rw [eo] at p1
        exact pss_stop p1
    · cases h
  · cases h
def csIf (k : Ck) (a b : BC) : SC := fun st ows => match vIfS st with
  | some e => (match k.t e.1 ows with
    | some z => (match a e.2.1 z.1, b e.2.2 z.1 with
      | some x, some y => if (wk x.nx (joinQ x.nx y.nx) && (wk y.nx (joinQ x.nx y.nx) && (wk x.bk (joinQ x.bk y.bk) && (wk y.bk (joinQ x.bk y.bk) && (wk x.ct (joinQ x.ct y.ct) && wk y.ct (joinQ x.ct y.ct)))))) = true then
          some ⟨joinQ x.nx y.nx, joinQ x.bk y.bk, joinQ x.ct y.ct⟩ else none
      | _, _ => none)
    | none => none)
  | none => none
theorem csIf_ok {k : Ck} {a b : BC} {p : M D × M Bool} {f g : M Fl} (hk : CkOk S C k p) (ha : BCOk S C a f) (hb : BCOk S C b g) : SCOk S C (csIf k a b) (M.bind p.2 fun k => if k = true then f else g) := fun X c G st ows r h => by
  unfold csIf at h
  split at h
  · rename_i e he
    split at h
    · rename_i z ez
      split at h
      · rename_i x y ex ey
        split at h
        · rename_i hw
          cases h
          simp only [Bool.and_eq_true] at hw
          obtain ⟨w1, w2, w3, w4, w5, w6⟩ := hw
          obtain ⟨pos, rfl⟩ := vIfS_eq he
          exact ps_ifsM ((hk X c G).2.2 _ _ z ez) (PSs.weaken (ha X c G _ _ x ex) w1 w3 w5) (PSs.weaken (hb X c G _ _ y ey) w2 w4 w6)
        · cases h
      · cases h
    · cases h
  · cases h

/-! ### loops -/
/-- a head that the body keeps -/
def fixL (body : Ows → Option SF) : Nat → Ows → Option (Ows × SF)
  | 0, _ => none
  | n + 1, h => match body h with
    | some f => if (wk f.nx (some h) && wk f.ct (some h)) = true then some (h, f) else (match joinQ (some h) (joinQ f.nx f.ct) with
      | some h' => fixL body n h'
      | none => none)
    | none => none
theorem fixL_ok {body : Ows → Option SF} : ∀ {n : Nat} {h : Ows} {r : Ows × SF}, fixL body n h = some r → body r.1 = some r.2 ∧ wk r.2.nx (some r.1) = true ∧ wk r.2.ct (some r.1) = true
  | 0, _, _, e => by cases e
  | n + 1, h, r, e => by
    unfold fixL at e
    split at e
    · rename_i f ef
      split at e
      · rename_i hw
        cases e
        simp only [Bool.and_eq_true] at hw
        exact ⟨ef, hw.1, hw.2⟩
      · split at e
        · exact fixL_ok e
        · cases e
    · cases e
theorem forM_none {t : T} {k : IK} {ia : List (M D × M Bool)} {body : M Fl} : forM t k ia none body = M.bind (M.bind (evs ia) fun as => M.opt (itF k as)) fun ds => forL (fun _ => true) t body ds := by
  funext e
  unfold forM M.bind
  cases evs ia e with
  | no => rfl
  | ex => rfl
  | ok as e1 => rfl
def csFor (S : Sg) (t : T) (k : IK) (ks : List Ck) (w : Option Nat) (b : BC) : SC := fun st ows => match vFor st, w with
  | some e, none => if (noSet' e.2.1 && (S.calm && tgOk S.N S.loc (fun i => S.pins.contains i) t e.1)) = true then (match ckI S k ks e.1 e.2.1 ows with
    | some ows1 => (match fixL (fun h => b e.2.2 (frs h t.slots)) 8 ows1.1 with
      | some r => (match joinQ (some r.1) r.2.bk with
        | some oj => if (weakB 0 ows1.1 r.1 && (weakB 0 r.1 oj && wk r.2.bk (some oj))) = true then some ⟨some oj, none, none⟩ else none
        | none => none)
      | none => none)
    | none => none) else none
  | _, _ => none
theorem csFor_ok {t : T} {k : IK} {ks : List Ck} {ps : List (M D × M Bool)} {w : Option Nat} {b : BC} {f : M Fl} (hs : CksOk S C ks ps) (hb : BCOk S C b f) : SCOk S C (csFor S t k ks w b) (forM t k ps w f) := fun X c G st ows r h => by
  unfold csFor at h
  split at h
  · rename_i e he
    split at h
    · rename_i hn
      split at h
      · rename_i ows1 e1
        split at h
        · rename_i rr er
          split at h
          · rename_i oj ej
            split at h
            · rename_i hw
              cases h
              simp only [Bool.and_eq_true] at hn hw
              obtain ⟨pos, rfl⟩ := vFor_eq he
              obtain ⟨f1, f2, f3⟩ := fixL_ok er
              rw [forM_none]
              exact ps_forM (G.pas hn.2.1) (G.calm hn.2.1) (ckI_ok G hs e1) (pg_tg (pn := fun i => S.pins.contains i) G.loc (G.calm hn.2.1) G.K G.nd (fun i h => G.pn i (by simpa using h)) (by rw [G.N]; exact hn.2.2)) (hb X c G _ _ _ f1) (folded_no hn.1) hw.1 f2 f3 hw.2.1 hw.2.2
            · cases h
          · cases h
        · cases h
      · cases h
    · cases h
  · cases h
def csWh (S : Sg) (k : Ck) (b : BC) : SC := fun st ows => match vWh st with
  | some e => if S.calm = true then (match fixL (fun h => match k.t e.1 h with
      | some x => b e.2 x.1
      | none => none) 8 ows with
    | some r => (match k.t e.1 r.1 with
      | some x => (match joinQ (some x.1) r.2.bk with
        | some oj => if (weakB 0 ows r.1 && (weakB 0 x.1 oj && wk r.2.bk (some oj))) = true then some ⟨some oj, none, none⟩ else none
        | none => none)
      | none => none)
    | none => none) else none
  | none => none
theorem csWh_ok {k : Ck} {p : M D × M Bool} {b : BC} {f : M Fl} (hk : CkOk S C k p) (hb : BCOk S C b f) : SCOk S C (csWh S k b) (whileL p.2 f FUEL) := fun X c G st ows r h => by
  unfold csWh at h
  split at h
  · rename_i e he
    split at h
    · rename_i hn
      split at h
      · rename_i rr er
        split at h
        · rename_i x ex
          split at h
          · rename_i oj ej
            split at h
            · rename_i hw
              cases h
              simp only [Bool.and_eq_true] at hw
              obtain ⟨pos, rfl⟩ := vWh_eq he
              obtain ⟨f1, f2, f3⟩ := fixL_ok er
              rw [ex] at f1
              exact ps_whileM (G.pas hn) ((hk X c G).2.2 _ _ x ex) (hb X c G _ _ _ f1) hw.1 f2 f3 hw.2.1 hw.2.2
            · cases h
          · cases h
        · cases h
      · cases h
    · cases h
  · cases h
end
end Mp
/-! Mp18: try. -/
namespace Mp
open PySem PySem.Spec PyProof.Rows L2

section
variable {K : PySem.W.Frag} {pn : Pin} {ows : Ows} {env : Env} {σ : L2.St} {w : Wd}
/-- the slot of the error gets its pin -/
def pinE (pn : Pin) (i : Nat) (a : Addr) (n : Str) : Pin := fun j => if j = i then some (.ref a, some (.exc n)) else pn j
theorem SR.err {i : Nat} {a : Addr} {n : Str} (s : SR K pn ows env σ w) (hi : i < env.length) (hp : pn i = none) : SR K (pinE pn i a n) (ows.set i .fr) (setS env i (.exc n)) (σ.set i (some (.ref a))) (w.put i fun _ => False) := by
  have s1 : SR K pn (ows.set i .fr) (setS env i (.exc n)) (σ.set i (some (.ref a))) (w.put i fun _ => False) := s.bind (d := .exc n) (v := .ref a) ⟨a, rfl⟩ hp
  refine ⟨s1.len, s1.at_, s1.apart, s1.zf, s1.fm, s1.zt, fun j p h => ?_⟩
  unfold pinE at h
  split at h
  · rename_i e
    subst e
    cases h
    refine ⟨List.getElem?_set_self (by rw [s.len]; exact hi), fun d hd d' hg => ?_⟩
    cases hd
    rcases getS_set hg with ⟨_, e⟩ | ⟨e, _⟩
    · exact e
    · exact absurd rfl e
  · exact s1.pin j p h
theorem SR.unerr {i : Nat} {a : Addr} {n : Str} (s : SR K (pinE pn i a n) ows env σ w) (hp : pn i = none) : SR K pn ows (unS env i) (σ.set i none) (w.out i) := by
  have s1 := s.out i (ows' := ows) (fun _ _ => rfl)
  refine ⟨by rw [List.length_set]; exact s1.len, fun j d h => ?_, s1.apart, s1.zf, s1.fm, s1.zt, fun j p h => ?_⟩
  · obtain ⟨v, h1, h2⟩ := s1.at_ j d h
    exact ⟨v, by rw [List.getElem?_set_ne (Ne.symm (getS_un h).1)]; exact h1, h2⟩
  · have hj : j ≠ i := fun e => by subst e; rw [hp] at h; cases h
    have := s1.pin j p (by unfold pinE; rw [if_neg hj]; exact h)
    exact ⟨by rw [List.getElem?_set_ne (Ne.symm hj)]; exact this.1, this.2⟩
end
section
variable {S : Sg} {C : Cs} {X : Cx} {c : Cc}
/-- the try's body -/
def Cc.body (c : Cc) (W : WX) (xo : Ows) : Cc := { c with W := W, x := xo }
def Sg.body (S : Sg) (xo : Ows) : Sg := { S with x := xo, es := none }
theorem GOk.body (G : GOk X c C S) {xo : Ows} {W : WX} {pn : List (Addr × Obj)} {xe : Value → Shared → Prop} (tk : Takes (X.tr pn xe) W) (hp : PassesOwn (model X.prog X.w) X.A X.env xe) : GOk (X.tr pn xe) (c.body W xo) C (S.body xo) where
  N := G.N
  sc := G.sc
  K := G.K
  nd := G.nd
  hu := G.hu
  calm := G.calm
  pas := fun _ => hp
  tkc := G.tkc
  blt := G.blt
  gl := G.gl
  fn := fun h => ⟨tk, (G.fn h).2⟩
  exc := G.exc
  exm := G.exm
  exx := G.exx
  kx := G.kx
  kv := G.kv
  ec := G.ec
  fnl := G.fnl
  kd := G.kd
  stk := G.stk
  es := fun j h => by cases h
  x := rfl
  r := G.r
  ro := G.ro
  pn := G.pn
  pw := G.pw
/-- the suite behind except X as e -/
def Cc.suiteE (c : Cc) (i : Nat) (a : Addr) (n : Str) : Cc := { c with W := fun _ _ _ _ => False, pn := pinE c.pn i a n }
def Sg.suiteE (S : Sg) (i : Nat) : Sg := { S with calm := false, calls := false, tr := false, pins := i :: S.pins, pinw := i :: S.pinw, es := some i }
theorem GOk.suiteE (G : GOk X c C S) {i : Nat} {a : Addr} {n : Str} {oe : Obj} {pn : List (Addr × Obj)} (hn : S.exc n = true) (hz : Zc (.ref (He.ga c.K n)) none oe) (hf : ∃ vs, oe.data = .fields vs) : GOk (X.suite a ((a, oe) :: pn)) (c.suiteE i a n) C (S.suiteE i) where
  N := G.N
  sc := G.sc
  K := G.K
  nd := G.nd
  hu := G.hu
  calm := fun h => by cases h
  pas := fun h => by cases h
  tkc := fun h => by cases h
  blt := G.blt
  gl := G.gl
  fn := fun h => by cases h
  exc := G.exc
  exm := G.exm
  exx := G.exx
  kx := G.kx
  kv := G.kv
  ec := G.ec
  fnl := G.fnl
  kd := G.kd
  stk := fun h => by cases h
  es := fun j h => by
    cases h
    refine ⟨a, n, hn, by show pinE c.pn i a n i = _; unfold pinE; rw [if_pos rfl], ?_⟩
    have := G.ec n hn
    exact call_isE this hz hf
  x := G.x
  r := G.r
  ro := G.ro
  pn := fun j h => by
    have h' : j ∉ i :: S.pins := h
    simp only [List.mem_cons, not_or] at h'
    show pinE c.pn i a n j = none
    unfold pinE
    rw [if_neg h'.1]
    exact G.pn j h'.2
  pw := fun j h p hp => by
    have h' : j ∉ i :: S.pinw := h
    simp only [List.mem_cons, not_or] at h'
    have hp' : pinE c.pn i a n j = some p := hp
    unfold pinE at hp'
    rw [if_neg h'.1] at hp'
    exact G.pw j h'.2 p hp'
/-- the suite behind except X -/
def Cc.suiteN (c : Cc) : Cc := { c with W := fun _ _ _ _ => False }
def Sg.suiteN (S : Sg) : Sg := { S with calm := false, calls := false, tr := false, es := none }
theorem GOk.suiteN (G : GOk X c C S) {a : Addr} {pn : List (Addr × Obj)} : GOk (X.suite a pn) c.suiteN C S.suiteN where
  N := G.N
  sc := G.sc
  K := G.K
  nd := G.nd
  hu := G.hu
  calm := fun h => by cases h
  pas := fun h => by cases h
  tkc := fun h => by cases h
  blt := G.blt
  gl := G.gl
  fn := fun h => by cases h
  exc := G.exc
  exm := G.exm
  exx := G.exx
  kx := G.kx
  kv := G.kv
  ec := G.ec
  fnl := G.fnl
  kd := G.kd
  stk := fun h => by cases h
  es := fun j h => by cases h
  x := G.x
  r := G.r
  ro := G.ro
  pn := G.pn
  pw := G.pw

/-! ### the rules -/
theorem ps_tryAs {i : Nat} {x n : Str} {body suite : List Stmt} {b₀ : Stmt} {np pos pos' : Pos} {fb fh : M Fl} {ows xo : Ows} {onx obk oct : Option Ows} (G : GOk X c C S) (hcl : S.calls = true) (htr : S.tr = true) (hi : X.N[i]? = some n) (hln : X.env.scope.names.lookup n = some .local) (hpn : c.pn i = none) (hx : S.exc x = true) (hg : Gl X x) (hd : (x == ("__debug__" : Str)) = false)
    (hb : ∀ (W : WX) (pn : List (Addr × Obj)) (xe : Value → Shared → Prop), Takes (X.tr pn xe) W → PassesOwn (model X.prog X.w) X.A X.env xe → PSs (X.tr pn xe) body (tS (c.body W xo) fb ows onx obk oct))
    (hsu : ∀ (a : Addr) (m : Str) (oe : Obj) (pn : List (Addr × Obj)), S.exc m = true → Zc (.ref (He.ga c.K m)) none oe → (∃ vs, oe.data = .fields vs) → PSs (X.suite a ((a, oe) :: pn)) (b₀ :: suite) (tS (c.suiteE i a m) fh (xo.set i .fr) onx obk oct)) (hw : weakB 0 xo c.x = true) :
    PS X (.Try body [.ExceptHandler (some (.Name x np)) (some n) (b₀ :: suite) pos'] [] [] pos) (tS c (tryM C fb fun m e => if C.sub m x = true then (match (if i < e.length then fh (setS e i (.exc m)) else .no) with
      | .ok f e1 => .ok f (unS e1 i)
      | _ => .no) else .ex m e) ows onx obk oct) := by
  obtain ⟨tk, _⟩ := G.fn hcl
  obtain ⟨s1, s2⟩ := G.stk htr
  let ts : Addr → Value → Option Addr → TS := fun a cls d D σ H => ∃ m, S.exc m = true ∧ cls = .ref (He.ga c.K m) ∧ d = none ∧ tS (c.suiteE i a m) fh (xo.set i .fr) onx obk oct D σ H
  refine wPS (ps_try_as (ts := ts) s1 s2 G.nd hi hln ⟨hg, hd, .inl (G.exc x hx).1⟩ tk hb (fun a oe cls d pn hz hf => ⟨fun pins s σ H D I ⟨m, hm, hcls, hdn, h⟩ => by
    subst hcls hdn
    exact (hsu a m oe pn hm hz hf).run pins s σ H D I h⟩)) fun D σ H z => ?_
  obtain ⟨w, env, hw', sr, z⟩ := tS_iff.mp z
  refine tS_iff.mpr ⟨w, env, hw', sr, ?_⟩
  unfold tryM at z
  cases e1 : fb env with
  | no => rw [e1] at z; exact z
  | ok r env1 => rw [e1] at z; cases r <;> exact z
  | ex m env1 =>
    rw [e1] at z
    simp only at z
    by_cases hm : C.isx m = true
    · rw [if_pos hm] at z
      intro w1 σ1 x1 sr1
      refine ⟨C.sub m x, G.exm m x (G.exx m hm) hx, fun hb' a ha => ?_, fun hb' => ?_⟩
      · rw [if_pos hb'] at z
        by_cases hi2 : i < env1.length
        · rw [if_pos hi2] at z
          refine ⟨m, G.exx m hm, rfl, rfl, tS_iff.mpr ⟨w1.put i fun _ => False, setS env1 i (.exc m), rfl, sr1.err hi2 hpn, ?_⟩⟩
          cases e2 : fh (setS env1 i (.exc m)) with
          | no => rw [e2] at z; exact z
          | ex m2 e3 => rw [e2] at z; exact z.elim
          | ok f e3 =>
            rw [e2] at z
            have ext : ∀ {w2}, Ext (w1.put i fun _ => False) w2 → Ext w (w2.out i) := fun x2 => ((x1.trans Ext.bind).trans x2).trans (Ext.out _ i)
            cases f with
            | nx =>
              rintro w2 σ2 x2 ⟨o2, ho, s2⟩
              exact z (w2.out i) (σ2.set i none) (ext x2) ⟨o2, ho, s2.unerr hpn⟩
            | bk =>
              rintro w2 σ2 x2 ⟨o2, ho, s2⟩
              exact z (w2.out i) (σ2.set i none) (ext x2) ⟨o2, ho, s2.unerr hpn⟩
            | ct =>
              rintro w2 σ2 x2 ⟨o2, ho, s2⟩
              exact z (w2.out i) (σ2.set i none) (ext x2) ⟨o2, ho, s2.unerr hpn⟩
            | rt d =>
              intro w2 σ2 v A x2 s2 ro t
              exact z (w2.out i) (σ2.set i none) v A (ext x2) (s2.unerr hpn) ro ⟨t.z, fun a j ha h => t.f a j ha h.2, (t.pre (x1.trans Ext.bind)).nw⟩
        · rw [if_neg hi2] at z; exact z.elim
      · rw [if_neg (by rw [hb']; exact Bool.false_ne_true)] at z
        obtain ⟨w2, x2, eh, s2⟩ := sr1.weak hw
        have := z w2 σ1 (x1.trans x2) s2
        rw [eh] at this
        exact this
    · rw [if_neg hm] at z; exact z.elim
theorem ps_tryNo {x : Str} {body suite : List Stmt} {b₀ : Stmt} {np pos pos' : Pos} {fb fh : M Fl} {ows xo : Ows} {onx obk oct : Option Ows} (G : GOk X c C S) (hcl : S.calls = true) (htr : S.tr = true) (hx : S.exc x = true) (hg : Gl X x) (hd : (x == ("__debug__" : Str)) = false)
    (hb : ∀ (W : WX) (pn : List (Addr × Obj)) (xe : Value → Shared → Prop), Takes (X.tr pn xe) W → PassesOwn (model X.prog X.w) X.A X.env xe → PSs (X.tr pn xe) body (tS (c.body W xo) fb ows onx obk oct))
    (hsu : ∀ (a : Addr) (pn : List (Addr × Obj)), PSs (X.suite a pn) (b₀ :: suite) (tS c.suiteN fh xo onx obk oct)) (hw : weakB 0 xo c.x = true) :
    PS X (.Try body [.ExceptHandler (some (.Name x np)) none (b₀ :: suite) pos'] [] [] pos) (tS c (tryM C fb fun m e => if C.sub m x = true then (match fh e with
      | .ok f e1 => .ok f e1
      | _ => .no) else .ex m e) ows onx obk oct) := by
  obtain ⟨tk, _⟩ := G.fn hcl
  obtain ⟨s1, s2⟩ := G.stk htr
  let ts : Addr → Value → Option Addr → TS := fun a cls d => tS c.suiteN fh xo onx obk oct
  refine wPS (ps_try_only (ts := ts) s1 s2 ⟨hg, hd, .inl (G.exc x hx).1⟩ tk hb (fun a oe cls d pn hz hf => hsu a ((a, oe) :: pn))) fun D σ H z => ?_
  obtain ⟨w, env, hw', sr, z⟩ := tS_iff.mp z
  refine tS_iff.mpr ⟨w, env, hw', sr, ?_⟩
  unfold tryM at z
  cases e1 : fb env with
  | no => rw [e1] at z; exact z
  | ok r env1 => rw [e1] at z; cases r <;> exact z
  | ex m env1 =>
    rw [e1] at z
    simp only at z
    by_cases hm : C.isx m = true
    · rw [if_pos hm] at z
      intro w1 σ1 x1 sr1
      refine ⟨C.sub m x, G.exm m x (G.exx m hm) hx, fun hb' a ha => ?_, fun hb' => ?_⟩
      · rw [if_pos hb'] at z
        refine tS_iff.mpr ⟨w1, env1, rfl, sr1, ?_⟩
        cases e2 : fh env1 with
        | no => rw [e2] at z; exact z
        | ex m2 e3 => rw [e2] at z; exact z.elim
        | ok f e3 =>
          rw [e2] at z
          exact tSz.pre (c := c.suiteN) (σ := σ) x1 (by cases f <;> exact z)
      · rw [if_neg (by rw [hb']; exact Bool.false_ne_true)] at z
        obtain ⟨w2, x2, eh, s2⟩ := sr1.weak hw
        have := z w2 σ1 (x1.trans x2) s2
        rw [eh] at this
        exact this
    · rw [if_neg hm] at z; exact z.elim

/-! ### the checker -/
/-- one except clause: its class, its name -/
def vTry : Stmt → Option (List Stmt × Str × Option Str × Stmt × List Stmt)
  | .Try b [.ExceptHandler (some (.Name x _)) n (s :: ss) _] [] [] _ => some (b, x, n, s, ss)
  | _ => none
theorem vTry_eq {s : Stmt} {r : List Stmt × Str × Option Str × Stmt × List Stmt} (h : vTry s = some r) : ∃ np p' p, s = .Try r.1 [.ExceptHandler (some (.Name r.2.1 np)) r.2.2.1 (r.2.2.2.1 :: r.2.2.2.2) p'] [] [] p := by
  unfold vTry at h
  split at h
  · cases h; exact ⟨_, _, _, rfl⟩
  · cases h
/-- the body's and the suite's states behind -/
def meet (a b : SF) : Option SF := if (wk a.nx (joinQ a.nx b.nx) && (wk b.nx (joinQ a.nx b.nx) && (wk a.bk (joinQ a.bk b.bk) && (wk b.bk (joinQ a.bk b.bk) && (wk a.ct (joinQ a.ct b.ct) && wk b.ct (joinQ a.ct b.ct)))))) = true then
  some ⟨joinQ a.nx b.nx, joinQ a.bk b.bk, joinQ a.ct b.ct⟩ else none
theorem meet_ok {a b r : SF} (h : meet a b = some r) : (wk a.nx r.nx = true ∧ wk a.bk r.bk = true ∧ wk a.ct r.ct = true) ∧ (wk b.nx r.nx = true ∧ wk b.bk r.bk = true ∧ wk b.ct r.ct = true) := by
  unfold meet at h
  split at h
  · rename_i hw
    cases h
    simp only [Bool.and_eq_true] at hw
    obtain ⟨w1, w2, w3, w4, w5, w6⟩ := hw
    exact ⟨⟨w1, w3, w5⟩, ⟨w2, w4, w6⟩⟩
  · cases h
def csTry (S : Sg) (xo : Ows) (cs : List Str) (n : Option Nat) (kb : BC) (ks : BC) : SC := fun st ows => match vTry st, cs with
  | some t, [x] => if (decide (t.2.1 = x) && ((S.calls && S.tr) && (S.exc x && (S.glo x && (noDbg x && weakB 0 xo S.x))))) = true then (match n, t.2.2.1 with
    | some i, some y => if (decide (S.N[i]? = some y) && (decide (S.sc.names.lookup y = some .local) && !S.pins.contains i)) = true then (match kb t.1 ows, ks (t.2.2.2.1 :: t.2.2.2.2) (xo.set i .fr) with
      | some a, some b => meet a b
      | _, _ => none) else none
    | none, none => (match kb t.1 ows, ks (t.2.2.2.1 :: t.2.2.2.2) xo with
      | some a, some b => meet a b
      | _, _ => none)
    | _, _ => none) else none
  | _, _ => none
theorem csTry_ok {xo : Ows} {cs : List Str} {n : Option Nat} {kb ks : BC} {fb fh : M Fl} (hb : BCOk (S.body xo) C kb fb) (hs : match n with
    | some i => BCOk (S.suiteE i) C ks fh
    | none => BCOk S.suiteN C ks fh) : SCOk S C (csTry S xo cs n kb ks) (tryM C fb fun c e => if (cs.any fun x => C.sub c x) = true then (match (match n with
      | some i => if i < e.length then fh (setS e i (.exc c)) else .no
      | none => fh e) with
      | .ok f e1 => .ok f (match n with
        | some i => unS e1 i
        | none => e1)
      | _ => .no) else .ex c e) := fun X c G st ows r h => by
  unfold csTry at h
  split at h
  · rename_i t x ht
    split at h
    · rename_i hn
      simp only [Bool.and_eq_true, decide_eq_true_eq] at hn
      obtain ⟨h1, h2, h3, h4, h5, h6⟩ := hn
      obtain ⟨np, p', p, rfl⟩ := vTry_eq ht
      have e0 : ∀ m, ([x].any fun x => C.sub m x) = C.sub m x := fun m => by simp
      have hw : weakB 0 xo c.x = true := by rw [G.x]; exact h6
      split at h
      · rename_i i y hy
        split at h
        · rename_i hk
          simp only [Bool.and_eq_true, decide_eq_true_eq, Bool.not_eq_true'] at hk
          split at h
          · rename_i a b ea eb
            obtain ⟨⟨m1, m2, m3⟩, m4, m5, m6⟩ := meet_ok h
            have hpn := G.pn i (by simpa using hk.2.2)
            rw [h1, hy]
            simp only [e0]
            exact ps_tryAs G h2.1 h2.2 (by rw [G.N]; exact hk.1) (by rw [G.sc]; exact hk.2.1) hpn h3 (G.glo h4) (noDbg1 h5) (fun W pn xe tk hp => PSs.weaken (hb _ _ (G.body tk hp) _ _ a ea) m1 m2 m3)
              (fun a' m oe pn hm hz hf => PSs.weaken (hs _ _ (G.suiteE hm hz hf) _ _ b eb) m4 m5 m6) hw
          · cases h
        · cases h
      · rename_i hy
        split at h
        · rename_i a b ea eb
          obtain ⟨⟨m1, m2, m3⟩, m4, m5, m6⟩ := meet_ok h
          rw [h1, hy]
          simp only [e0]
          exact ps_tryNo G h2.1 h2.2 h3 (G.glo h4) (noDbg1 h5) (fun W pn xe tk hp => PSs.weaken (hb _ _ (G.body tk hp) _ _ a ea) m1 m2 m3)
            (fun a' pn => PSs.weaken (hs _ _ G.suiteN _ _ b eb) m4 m5 m6) hw
        · cases h
      · cases h
    · cases h
  · cases h
end

/-- only on to what stands behind -/
def nxSC (f : Stmt → Ows → Option Ows) : SC := fun st ows => match f st ows with
  | some o => some ⟨some o, none, none⟩
  | none => none
theorem nxSC_ok {S : Sg} {C : Cs} {f : Stmt → Ows → Option Ows} {g : M Fl} (h : ∀ (X : Cx) (c : Cc), GOk X c C S → ∀ st ows r, f st ows = some r → PS X st (tS c g ows (some r) none none)) : SCOk S C (nxSC f) g := fun X c G st ows r hh => by
  unfold nxSC at hh
  split at hh
  · rename_i o ho
    cases hh
    exact h X c G st ows o ho
  · cases hh
mutual
def cS (S : Sg) : Mp.S → SC
  | .set i e => (match e with
    | .lc elt t k ia cs => csSetLc S i t k (cks S ia) (fun S' => ck S' elt) (fun S' => cks S' cs) (pureE elt && pureEs cs) (ownE elt)
    | e => csSet S i (ck S e))
  | .tgt is e => csTgt S is (ck S e)
  | .put i ps e => (match ps with
    | [E1] => nxSC (csPut S i [] [] E1 (ck S E1) (ck S e))
    | [E0, E1] => nxSC (csPut S i [E0] [ck S E0] E1 (ck S E1) (ck S e))
    | _ => noSC)
  | .aug i k e => nxSC (csAug S i k e (ck S e))
  | .augp i ps k e => (match ps with
    | [E1] => nxSC (csAugP S i [] [] E1 (ck S E1) k e (ck S e))
    | [E0, E1] => nxSC (csAugP S i [E0] [ck S E0] E1 (ck S E1) k e (ck S e))
    | _ => noSC)
  | .ex e => csEx (ck S e)
  | .ifs k a b => csIf (ck S k) (cB S a) (cB S b)
  | .for_ t k ia w body => csFor S t k (cks S ia) w (cB S body)
  | .while_ k body => csWh S (ck S k) (cB S body)
  | .ret e => csRet S (ck S e)
  | .retN => csRetN S
  | .raise n => csRaise S n
  | .try_ xo body h => match h with
    | .hd cs n hb .hn => csTry S xo cs n (cB (S.body xo) body) (cB (match n with
      | some i => S.suiteE i
      | none => S.suiteN) hb)
    | _ => noSC
  | .hd _ _ _ _ => noSC
  | .hn => noSC
  | .pass => csPass
  | .brk => csBrk
  | .cont => csCont
  | .weak _ => noSC
def cB (S : Sg) : List Mp.S → BC
  | [] => bcNil
  | s :: ss => bcCons (cS S s) (cB S ss)
end
theorem noSC_ok {S : Sg} {C : Cs} {f : M Fl} : SCOk S C noSC f := fun _ _ _ _ _ _ h => nomatch h
mutual
theorem cS_ok (C : Cs) : ∀ (S : Sg) (s : Mp.S), SCOk S C (cS S s) (dS C s)
  | S, .set i e => by
    by_cases hl : ∃ elt t k ia cs, e = .lc elt t k ia cs
    · obtain ⟨elt, t, k, ia, cs, rfl⟩ := hl
      simp only [cS, dS, den]
      exact csSetLc_ok (cks_ok C S ia) (fun S' => ck_ok C S' elt) (fun S' => cks_ok C S' cs) fun h => by
        simp only [Bool.and_eq_true] at h
        exact ⟨(pureE_ok C h.1).1, pure_cM h.2⟩
    · have : cS S (.set i e) = csSet S i (ck S e) := by
        cases e <;> first | rfl | exact absurd ⟨_, _, _, _, _, rfl⟩ hl
      rw [this]
      simp only [dS]
      exact csSet_ok (ck_ok C S e)
  | S, .tgt is e => by simp only [cS, dS]; exact csTgt_ok (ck_ok C S e)
  | S, .put i ps e => by
    simp only [cS, dS]
    split
    · exact nxSC_ok fun X c G st ows r h => csPut_ok (Es := []) G (by simp only [dens]; trivial) (ck_ok C S _) (ck_ok C S e) h
    · exact nxSC_ok fun X c G st ows r h => csPut_ok (Es := [_]) G (by simp only [dens]; exact ⟨ck_ok C S _, trivial⟩) (ck_ok C S _) (ck_ok C S e) h
    · exact noSC_ok
  | S, .aug i k e => by simp only [cS, dS]; exact nxSC_ok fun X c G st ows r h => csAug_ok G (ck_ok C S e) h
  | S, .augp i ps k e => by
    simp only [cS, dS]
    split
    · exact nxSC_ok fun X c G st ows r h => csAugP_ok (Es := []) G (by simp only [dens]; trivial) (ck_ok C S _) (ck_ok C S e) h
    · exact nxSC_ok fun X c G st ows r h => csAugP_ok (Es := [_]) G (by simp only [dens]; exact ⟨ck_ok C S _, trivial⟩) (ck_ok C S _) (ck_ok C S e) h
    · exact noSC_ok
  | S, .ex e => by simp only [cS, dS]; exact csEx_ok (ck_ok C S e)
  | S, .ifs k a b => by simp only [cS, dS]; exact csIf_ok (ck_ok C S k) (cB_ok C S a) (cB_ok C S b)
  | S, .for_ t k ia w body => by simp only [cS, dS]; exact csFor_ok (cks_ok C S ia) (cB_ok C S body)
  | S, .while_ k body => by simp only [cS, dS]; exact csWh_ok (ck_ok C S k) (cB_ok C S body)
  | S, .ret e => by simp only [cS, dS]; exact csRet_ok (ck_ok C S e)
  | S, .retN => by simp only [cS, dS]; exact csRetN_ok
  | S, .raise n => by simp only [cS, dS]; exact csRaise_ok
  | S, .try_ xo body (.hd cs n hb r) => by
    cases r with
    | hn =>
      simp only [cS, dS]
      have := csTry_ok (S := S) (xo := xo) (cs := cs) (n := n) (cB_ok C (S.body xo) body) (ks := cB (match n with
        | some i => S.suiteE i
        | none => S.suiteN) hb) (fh := dB C hb) (by
          cases n with
          | some i => exact cB_ok C (S.suiteE i) hb
          | none => exact cB_ok C S.suiteN hb)
      refine cast (congrArg (SCOk S C _) ?_) this
      congr 1
      funext m e
      simp only [dH]
      cases n <;> rfl
    | _ => simp only [cS]; exact noSC_ok
  | S, .try_ xo body .hn => by simp only [cS]; exact noSC_ok
  | S, .try_ xo body (.set _ _) => by simp only [cS]; exact noSC_ok
  | S, .try_ xo body (.tgt _ _) => by simp only [cS]; exact noSC_ok
  | S, .try_ xo body (.put _ _ _) => by simp only [cS]; exact noSC_ok
  | S, .try_ xo body (.aug _ _ _) => by simp only [cS]; exact noSC_ok
  | S, .try_ xo body (.augp _ _ _ _) => by simp only [cS]; exact noSC_ok
  | S, .try_ xo body (.ex _) => by simp only [cS]; exact noSC_ok
  | S, .try_ xo body (.ifs _ _ _) => by simp only [cS]; exact noSC_ok
  | S, .try_ xo body (.for_ _ _ _ _ _) => by simp only [cS]; exact noSC_ok
  | S, .try_ xo body (.while_ _ _) => by simp only [cS]; exact noSC_ok
  | S, .try_ xo body (.ret _) => by simp only [cS]; exact noSC_ok
  | S, .try_ xo body (.retN) => by simp only [cS]; exact noSC_ok
  | S, .try_ xo body (.raise _) => by simp only [cS]; exact noSC_ok
  | S, .try_ xo body (.try_ _ _ _) => by simp only [cS]; exact noSC_ok
  | S, .try_ xo body (.pass) => by simp only [cS]; exact noSC_ok
  | S, .try_ xo body (.brk) => by simp only [cS]; exact noSC_ok
  | S, .try_ xo body (.cont) => by simp only [cS]; exact noSC_ok
  | S, .try_ xo body (.weak _) => by simp only [cS]; exact noSC_ok
  | S, .hd _ _ _ _ => by simp only [cS]; exact noSC_ok
  | S, .hn => by simp only [cS]; exact noSC_ok
  | S, .pass => by simp only [cS, dS]; exact csPass_ok
  | S, .brk => by simp only [cS, dS]; exact csBrk_ok
  | S, .cont => by simp only [cS, dS]; exact csCont_ok
  | S, .weak _ => by simp only [cS]; exact noSC_ok
theorem cB_ok (C : Cs) : ∀ (S : Sg) (ss : List Mp.S), BCOk S C (cB S ss) (dB C ss)
  | S, [] => by simp only [cB, dB]; exact bcNil_ok
  | S, s :: ss => by simp only [cB, dB]; exact bcCons_ok (cS_ok C S s) (cB_ok C S ss)
end
end Mp
/-! Mp19: a program, its defs, the law. -/
namespace Mp
open PySem PySem.Spec PyProof.Rows L2

/-- a def: as it stands in the text, its slots, its parameters, what it gives, what it says -/
structure Fd where
  d : He.DefD
  N : List Str
  ps : List Str
  ro : Ow
  body : List Mp.S
def Fd.fn (F : Fd) : Fn := ⟨F.d.name, F.ps.length, F.N.length, F.body⟩
/-- a program: its defs, constants, errors, which stands below which -/
structure Pg where
  fs : List Fd
  cs : List (Str × D)
  ex : List Str
  sub : List (Str × Str)
def Pg.subB (P : Pg) (x y : Str) : Bool := P.sub.any fun p => decide (p = (x, y))
def Pg.isx (P : Pg) (x : Str) : Bool := P.ex.any fun y => decide (y = x)
def Pg.gl (P : Pg) (x : Str) : Option D := P.cs.lookup x
def Pg.find (P : Pg) (f : Str) : Option Fd := P.fs.find? fun F => decide (F.d.name = f)
def Pg.call (P : Pg) (n : Nat) (f : Str) (ds : List D) : CR := Mp.call (P.fs.map Fd.fn) P.gl P.subB P.isx n f ds
def Pg.cs_ (P : Pg) (n : Nat) : Cs := ⟨P.call n, P.gl, P.subB, P.isx⟩
def allFr (n : Nat) : Ows := List.replicate n .fr
def Pg.sg (P : Pg) (F : Fd) : Sg where
  N := F.N
  sc := F.d.scope
  pins := []
  pinw := []
  calm := true
  calls := true
  tr := true
  fnl := fun _ => true
  gl := fun x => (P.gl x).isSome
  fn := fun f => (P.find f).map fun G => (G.ps.length, G.ro)
  exc := P.isx
  es := none
  x := allFr F.N.length
  r := allFr F.N.length
  ro := F.ro
def scB (N ps : List Str) (sc : Scope) : Bool := decide (sc.kind = .function) && (!sc.isCoroutine && (!sc.isGenerator && (decide N.Nodup && (decide (N.take ps.length = ps) && (ps.all (fun x => decide (sc.names.lookup x = some .local) || decide (sc.names.lookup x = some .cell)) && sc.names.all fun y => decide (y.2 ≠ .free))))))
theorem scB_ok {N ps : List Str} {sc : Scope} (h : scB N ps sc = true) : FnScope N ps sc := by
  unfold scB at h
  simp only [Bool.and_eq_true, decide_eq_true_eq, Bool.not_eq_true', List.all_eq_true] at h
  obtain ⟨h1, h2, h3, h4, h5, h6, h7⟩ := h
  exact ⟨h1, h2, h3, h4, h5, fun x hx => by simpa using h6 x hx, h7⟩
/-- the def says what its text says -/
def Fd.ok (P : Pg) (F : Fd) : Bool := scB F.N F.ps F.d.scope && (match cB (P.sg F) F.body F.d.body (allFr F.N.length) with
  | some r => wk r.nx (some (allFr F.N.length))
  | none => false)
def Pg.ok (P : Pg) : Bool := P.fs.all fun F => F.ok P && (decide (F.d.dfl.length = 0) && decide (F.d.kwd.length = 0))

/-! ### what the module must hold -/
def cstB (K : PySem.W.Frag) (p : Str × D) : Bool := match p.2 with
  | .int i => (He.Fa.int p.1 i).ok K
  | .str z => (He.Fa.str p.1 z).ok K
  | _ => false
def okE (K : PySem.W.Frag) (C : Addr) (x : Str) (v : Option (Option Value)) : Bool := decide (PySem.W.findIn K (.ref C) x = v)
def excB (K : PySem.W.Frag) (x : Str) : Bool := (He.Fa.glo x).ok K && ((He.Fa.exc x).ok K &&
  (okE K (He.ga K x) "__getattribute__" (some (some (.builtin "BaseException.__getattribute__"))) && (okE K (He.ga K x) "__getattr__" (some none) && (PySem.W.hasDictIn K (He.ga K x) && (okE K (He.ga K x) "__class__" (some (some (.builtin "object.__class__"))) &&
    (decide (PySem.W.specialIn K (.builtin "object.__class__") "__get__" = some (some (.builtin "getset_descriptor.__get__"))) && (decide (PySem.W.takesIn K (.builtin "object.__class__") = some true) && decide (PySem.W.mroIn K (He.ga K x) (.type "object") = some true))))))))
def Pg.factB (P : Pg) (K : PySem.W.Frag) : Bool := (P.fs.all fun F => (He.Fa.glo F.d.name).ok K && decide (F.d.at_ = (F.d.name, none))) && (bltNames.all (fun x => (He.Fa.free x).ok K) && (P.cs.all (cstB K) && (P.ex.all (excB K) &&
  P.ex.all fun x => decide (PySem.W.kitOne K (.ref (He.ga K x)) (.type "ValueError") = some (P.subB x "ValueError")) && P.ex.all fun y => decide (PySem.W.exmOne K (.ref (He.ga K x)) (.ref (He.ga K y)) = some (P.subB x y)) && decide (PySem.W.kitOne K (.ref (He.ga K x)) (.ref (He.ga K y)) = some (P.subB x y)))))
section
variable {P : Pg} {Pr : Program} {w : World} {K : PySem.W.Frag} {mg : Str → Option Value}
theorem isx_mem {x : Str} (h : P.isx x = true) : x ∈ P.ex := by
  unfold Pg.isx at h
  simp only [List.any_eq_true, decide_eq_true_eq] at h
  obtain ⟨y, hy, rfl⟩ := h
  exact hy
structure PgOk (P : Pg) (K : PySem.W.Frag) (mg : Str → Option Value) : Prop where
  fn : ∀ F ∈ P.fs, (∃ fd, FunD K F.d.name F.d.qual F.d.params F.d.body F.d.scope (F.d.dvs K) (F.d.kws K) (He.ga K F.d.name) fd ∧ Binds K fd F.ps []) ∧ mg F.d.name = some (.ref (He.ga K F.d.name))
  blt : ∀ x ∈ bltNames, mg x = none
  cs : ∀ x d, P.gl x = some d → ∃ v u, mg x = some u ∧ L2.RelV v u ∧ ∀ H Z, Rep K H Z d v
  ex : ∀ x, P.isx x = true → excB K x = true ∧ mg x = some (.ref (He.ga K x))
  exm : ∀ x y, P.isx x = true → P.isx y = true → PySem.W.exmOne K (.ref (He.ga K x)) (.ref (He.ga K y)) = some (P.subB x y)
  kx : ∀ x y, P.isx x = true → P.isx y = true → PySem.W.kitOne K (.ref (He.ga K x)) (.ref (He.ga K y)) = some (P.subB x y)
  kv : ∀ x, P.isx x = true → PySem.W.kitOne K (.ref (He.ga K x)) (.type "ValueError") = some (P.subB x "ValueError")
theorem find_mem {f : Str} {F : Fd} (h : P.find f = some F) : F ∈ P.fs ∧ F.d.name = f := by
  unfold Pg.find at h
  exact ⟨List.mem_of_find?_eq_some h, by simpa using List.find?_some h⟩
theorem find_fn {f : Str} : ((P.fs.map Fd.fn).find? fun G => decide (G.name = f)) = (P.find f).map Fd.fn := by
  unfold Pg.find
  rw [List.find?_map]
  rfl
theorem excC_of {x : Str} (h : excB K x = true) : ExcC K (He.ga K x) := by
  unfold excB okE at h
  simp only [Bool.and_eq_true, decide_eq_true_eq] at h
  obtain ⟨h0, h1, h2, h3, h4, h5, h6, h7, h8⟩ := h
  have := He.exc_ok h1
  exact ⟨h2, h3, this.2.2.1, h4, h5, h6, h7, h8⟩
/-- the context of a def's body -/
theorem gok_body (O : PgOk P K mg) {n : Nat} {F : Fd} (hF : F ∈ P.fs) (hs : scB F.N F.ps F.d.scope = true)
    (ih : ∀ {base : Heap}, ∀ G ∈ P.fs, ∃ fd, FnOk Pr w K mg base (L2.CX Pr w) n (He.ga K G.d.name) fd G.ps (spOf K (P.call n G.d.name) [] G.ro G.ps.length) ∧ PySem.W.keepIn K (.ref (He.ga K G.d.name)) = true ∧ Binds K fd G.ps [])
    {base : Heap} {f : Addr} {cdv : Value} {A : Around} {outer : List PySem.Env} {s : Shared} {H : Hp} {E : XK} (hr : Room n (A.deeper (envOfC F.d.qual F.d.scope s.heap.objs.size f cdv))) :
    GOk (cxOf (L2.CX Pr w) Pr w K mg base F.N F.d.qual F.d.scope f cdv A outer s H E) ⟨K, fun _ => none, allFr F.N.length, allFr F.N.length, F.ro, fun cls d _ H => E cls d H⟩ (P.cs_ n) (P.sg F) where
  N := rfl
  sc := rfl
  K := rfl
  nd := (scB_ok hs).nd
  hu := by
    have h := hr.un
    show (A.deeper (envOfC F.d.qual F.d.scope s.heap.objs.size f cdv)).units + 66 < cLine
    omega
  calm := fun _ => rfl
  pas := fun _ => passes_of rfl
  tkc := fun _ => rfl
  blt := O.blt
  gl := fun x h => by
    obtain ⟨d, hd⟩ := Option.isSome_iff_exists.mp (show (P.gl x).isSome = true from h)
    obtain ⟨v, u, h1, h2, h3⟩ := O.cs x d hd
    exact ⟨d, v, u, h1, h2, hd, h3⟩
  fn := fun _ => ⟨takes_of rfl rfl rfl rfl, fun g np ro h => by
    obtain ⟨G, hG, e⟩ := Option.map_eq_some_iff.mp (show (P.find g).map (fun G => (G.ps.length, G.ro)) = some (np, ro) from h)
    cases e
    obtain ⟨hm, rfl⟩ := find_mem hG
    obtain ⟨fd, h1, h2, h3⟩ := ih (base := base) G hm
    exact ⟨n, _, fd, G.ps, h1, hr, (O.fn G hm).2, h2, h3⟩⟩
  exc := fun x h => by
    obtain ⟨h1, h2⟩ := O.ex x h
    have h3 : (He.Fa.exc x).ok K = true := by
      unfold excB at h1
      simp only [Bool.and_eq_true] at h1
      exact h1.2.1
    obtain ⟨e1, e2, e3, e4⟩ := He.exc_ok h3
    exact ⟨h2, e2, raises_own e3 e4, _, _, _, _, PySem.F.excBase_ValueError, e1⟩
  exm := O.exm
  exx := fun x h => h
  kx := O.kx
  kv := O.kv
  ec := fun x h => excC_of (O.ex x h).1
  fnl := fun _ _ => rfl
  kd := (scB_ok hs).kind
  stk := fun _ => ⟨rfl, rfl⟩
  es := fun i h => by cases h
  x := rfl
  r := rfl
  ro := rfl
  pn := fun _ _ => rfl
  pw := fun _ _ p h => by cases h

theorem getS_app {ds : List D} {m i : Nat} {d : D} (h : getS (ds.map some ++ List.replicate m none) i = some d) : ds[i]? = some d := by
  unfold getS at h
  by_cases hi : i < ds.length
  · rw [List.getElem?_append_left (by simpa using hi), List.getElem?_map] at h
    cases e : ds[i]? with
    | none => rw [e] at h; simp at h
    | some x => rw [e] at h; simpa using h
  · rw [List.getElem?_append_right (by simpa using hi), List.getElem?_replicate] at h
    split at h <;> simp at h
theorem owAt_fr {n i : Nat} : owAt (allFr n) i = .fr := by
  unfold owAt allFr
  rw [List.getD_eq_getElem?_getD, List.getElem?_replicate]
  split <;> rfl
/-- the slots at a def's start -/
theorem SR.start {w : Wd} {ds : List D} {vs : List V} {N : List Str} {m : Nat} (s : SR K (pinOf [] vs) [] (ds.map some) (vs.map some) w) (hl : ds.length = vs.length) : SR K (fun _ => none) (allFr m) (ds.map some ++ List.replicate (N.length - ds.length) none) (L2.start N vs) w where
  len := by unfold L2.start; simp [hl]
  at_ := fun i d h => by
    have e := getS_app h
    obtain ⟨v, h1, h2⟩ := s.at_ i d (by unfold getS; rw [List.getElem?_map, e]; rfl)
    refine ⟨v, ?_, by rw [owAt_fr]; exact h2⟩
    unfold L2.start
    have hi : i < vs.length := by rw [← hl]; exact (List.getElem?_eq_some_iff.mp e).1
    rw [List.getElem?_append_left (by simpa using hi)]
    exact h1
  apart := s.apart
  zf := s.zf
  fm := s.fm
  zt := s.zt
  pin := fun _ _ h => by cases h
/-- what is given back: nothing was lent -/
theorem SR.back {pn : Pin} {ows : Ows} {env : Env} {σ : L2.St} {w : Wd} {ls : List D} {vs : List V} (s : SR K pn ows env σ w) (hl : ls.length = vs.length) : SR K (pinOf [] vs) [] (lsOf [] ls) (vs.map some) w where
  len := by unfold lsOf; simp [hl]
  at_ := fun i d h => by
    unfold getS lsOf at h
    rw [List.getElem?_map] at h
    cases e : (List.range ls.length)[i]? with
    | none => rw [e] at h; simp at h
    | some j => rw [e] at h; simp [owAt] at h
  apart := s.apart
  zf := s.zf
  fm := s.fm
  zt := s.zt
  pin := fun i p e => by simp [pinOf, owAt] at e
theorem call_succ {n : Nat} {F : Fd} {ds : List D} (h : P.find F.d.name = some F) (hl : F.ps.length = ds.length) : P.call (n + 1) F.d.name ds = (match dB (P.cs_ n) F.body (ds.map some ++ List.replicate (F.N.length - F.ps.length) none) with
      | .ok (.rt r) e => .ok r ((List.range F.ps.length).map fun i => (getS e i).getD .non)
      | .ok .nx e => .ok .non ((List.range F.ps.length).map fun i => (getS e i).getD .non)
      | .ok _ _ => .no
      | .ex c _ => .ex c
      | .no => .no) := by
  unfold Pg.call
  rw [Mp.call, find_fn, h]
  simp only [Option.map_some]
  show (if F.ps.length = ds.length then _ else _) = _
  rw [if_pos hl]
  rfl
theorem prog_ok (O : PgOk P K mg) (hok : P.ok = true) (hnd : ∀ F ∈ P.fs, P.find F.d.name = some F) : ∀ (n : Nat) {base : Heap}, ∀ F ∈ P.fs, ∀ {fd : FuncData}, FunD K F.d.name F.d.qual F.d.params F.d.body F.d.scope (F.d.dvs K) (F.d.kws K) (He.ga K F.d.name) fd → FnOk Pr w K mg base (L2.CX Pr w) n (He.ga K F.d.name) fd F.ps (spOf K (P.call n F.d.name) [] F.ro F.ps.length)
  | 0, base, F, hF, fd, FD => by
    refine ⟨fun vs H Q E h => ?_, fun A outer s H args us vs Q E _ _ _ _ h => ?_⟩
    · obtain ⟨w, ds, _, h1, _⟩ := h
      exact h1
    · obtain ⟨w, ds, _, _, _, _, z⟩ := h
      exact z.elim
  | n + 1, base, F, hF, fd, FD => by
    have hFo : F.ok P = true := by
      have := List.all_eq_true.mp hok F hF
      simp only [Bool.and_eq_true] at this
      exact this.1
    unfold Fd.ok at hFo
    simp only [Bool.and_eq_true] at hFo
    obtain ⟨hs, hc⟩ := hFo
    cases er : cB (P.sg F) F.body F.d.body (allFr F.N.length) with
    | none => rw [er] at hc; cases hc
    | some r =>
      rw [er] at hc
      refine FD.ok (scB_ok hs) (fun vs H Q E h => ?_) fun cdv A outer s H vs Q E hr h => ?_
      · obtain ⟨w, ds, _, h1, _⟩ := h
        exact h1
      · have G := gok_body (Pr := Pr) (w := w) O hF hs (fun {base} G hG => by
          obtain ⟨⟨fd', FD', hb'⟩, _⟩ := O.fn G hG
          exact ⟨fd', prog_ok O hok hnd n (base := base) G hG FD', FD'.kp, hb'⟩) (base := base) (f := He.ga K F.d.name) (cdv := cdv) (A := A) (outer := outer) (s := s) (H := H) (E := E) hr
        refine ⟨_, cB_ok (P.cs_ n) (P.sg F) F.body _ _ G F.d.body (allFr F.N.length) r er, ?_⟩
        obtain ⟨w0, ds, hw, l1, l2, sr, z⟩ := h
        rw [call_succ (hnd F hF) l2.symm] at z
        refine tS_iff.mpr ⟨w0, ds.map some ++ List.replicate (F.N.length - F.ps.length) none, hw, ?_, ?_⟩
        · have := sr.start (N := F.N) (m := F.N.length) (by rw [l1, l2])
          rw [l2] at this
          exact this
        · cases e1 : dB (P.cs_ n) F.body (ds.map some ++ List.replicate (F.N.length - F.ps.length) none) with
          | no => rw [e1] at z; exact z
          | ex m e2 => rw [e1] at z; exact fun w' σ' x s => z w' x
          | ok fl e2 =>
            rw [e1] at z
            have hlen : ((List.range F.ps.length).map fun i => (getS e2 i).getD .non).length = vs.length := by simp [l1]
            cases fl with
            | bk => exact z.elim
            | ct => exact z.elim
            | nx =>
              rintro w' σ' x ⟨o, ho, s'⟩
              exact z w' .non (fun _ => False) x (by simp) (s'.back hlen) RO.mknon Tmp.nil
            | rt d =>
              intro w' σ' v A' x s' ro t
              exact z w' v A' x (by simp) (s'.back hlen) ro t
end
end Mp
/-! Mp20: the end of a law. -/
namespace Mp
open PySem PySem.Spec PyProof.Rows L2
/-- a def's parameters are plain: each takes one value -/
def BindOk (F : Fd) : Prop := ∀ (kV doc pm : Value) (an : Option Addr) (cdv ct : Value) (us : List Value), us.length = F.ps.length →
  bindArgs (PySem.W.fnOf F.d.name F.d.qual F.d.params F.d.body F.d.scope .none kV doc pm an cdv ct) ⟨us, []⟩ = pure (F.ps.zip us)
section
variable {P : Pg} {w : World} {K : PySem.W.Frag} {mg : Str → Option Value} {h : Heap}
theorem lookup_mem {α β : Type} [BEq α] [LawfulBEq α] : ∀ {l : List (α × β)} {a : α} {b : β}, l.lookup a = some b → (a, b) ∈ l
  | [], _, _, h => by cases h
  | (x, y) :: l, a, b, h => by
    rw [List.lookup_cons] at h
    split at h
    · rename_i e
      cases h
      have := eq_of_beq e
      subst this
      exact List.mem_cons_self
    · exact List.mem_cons_of_mem _ (lookup_mem h)
theorem funD_of (c : He.SaysX [] (P.fs.map Fd.d) [] [] P.factB w h K) (hok : P.ok = true) {F : Fd} (hF : F ∈ P.fs) : ∃ fd, FunD K F.d.name F.d.qual F.d.params F.d.body F.d.scope [] [] (He.ga K F.d.name) fd ∧ F.d.dvs K = [] ∧ F.d.kws K = [] := by
  obtain ⟨fd, FD⟩ := He.SaysD.defs (He.SaysT.d c.t) (List.mem_map.mpr ⟨F, hF, rfl⟩)
  have hm := c.more
  unfold Pg.factB at hm
  simp only [Bool.and_eq_true, List.all_eq_true, decide_eq_true_eq] at hm
  have hat := (hm.1 F hF).2
  have hp := List.all_eq_true.mp hok F hF
  simp only [Bool.and_eq_true, decide_eq_true_eq] at hp
  have h1 : F.d.dvs K = [] := by
    unfold He.DefD.dvs
    rw [List.eq_nil_of_length_eq_zero hp.2.1]; rfl
  have h2 : F.d.kws K = [] := by
    unfold He.DefD.kws
    rw [List.eq_nil_of_length_eq_zero hp.2.2]; rfl
  rw [h1, h2, hat] at FD
  exact ⟨fd, FD, h1, h2⟩
theorem pgOk_of (X : K.In h) (G : h.Ns mainGlobals mg) (c : He.SaysX [] (P.fs.map Fd.d) [] [] P.factB w h K) (hok : P.ok = true) (hb : ∀ F ∈ P.fs, BindOk F) : PgOk P K mg := by
  have hm := c.more
  unfold Pg.factB at hm
  simp only [Bool.and_eq_true, List.all_eq_true, decide_eq_true_eq] at hm
  obtain ⟨m1, m2, m3, m4, m5⟩ := hm
  refine ⟨fun F hF => ?_, fun x hx => He.free_ok X G (m2 x hx), fun x d hd => ?_, fun x hx => ?_, fun x y hx hy => ((m5 x (isx_mem hx)).2 y (isx_mem hy)).1, fun x y hx hy => ((m5 x (isx_mem hx)).2 y (isx_mem hy)).2, fun x hx => (m5 x (isx_mem hx)).1⟩
  · obtain ⟨fd, FD, h1, h2⟩ := funD_of c hok hF
    exact ⟨⟨fd, by rw [h1, h2]; exact FD, FD.bindsN (hb F hF)⟩, He.glo_ok X G (m1 F hF).1⟩
  · have := m3 (x, d) (lookup_mem hd)
    unfold cstB at this
    split at this
    · rename_i i e
      obtain ⟨t, h1⟩ := He.int_ok X G this
      cases (show d = .int i from e)
      exact ⟨.int i, _, h1, ⟨t, rfl⟩, fun _ _ => rfl⟩
    · rename_i z e
      obtain ⟨t, h1⟩ := He.str_ok X G this
      cases (show d = .str z from e)
      exact ⟨.str z, _, h1, ⟨t, rfl⟩, fun _ _ => rfl⟩
    · cases this
  · have h1 := m4 x (isx_mem hx)
    refine ⟨h1, He.glo_ok X G ?_⟩
    unfold excB at h1
    simp only [Bool.and_eq_true] at h1
    exact h1.1
theorem findB_ok (h : (P.fs.all fun F => match P.find F.d.name with
    | some G => decide (G.d.name = F.d.name) && decide (G.N = F.N)
    | none => false) = true) : True := trivial
/-- names once each -/
theorem find_of : ∀ {fs : List Fd}, (fs.map fun F => F.d.name).Nodup → ∀ F ∈ fs, (fs.find? fun G => decide (G.d.name = F.d.name)) = some F
  | [], _, F, h => by cases h
  | G :: fs, nd, F, h => by
    rw [List.map_cons, List.nodup_cons] at nd
    rcases List.mem_cons.mp h with rfl | h
    · rw [List.find?_cons, decide_eq_true rfl]
    · have ne : G.d.name ≠ F.d.name := fun e => nd.1 (e ▸ List.mem_map.mpr ⟨F, h, rfl⟩)
      rw [List.find?_cons, decide_eq_false ne]
      exact find_of nd.2 F h
end
/-- the script, as the law gets it -/
theorem rol_of {K : PySem.W.Frag} {H : Hp} {a : Addr} {ns : List Int} (hO : Only H) (hS : SqL K H a (ns.map V.int)) (Z : AS) : Rep K H Z (.rol (ns.map D.int)) (.ref a) := by
  refine ⟨a, ns.map V.int, rfl, ?_, ?_⟩
  · rcases hS with (h | ⟨o, h⟩) | h
    · rcases hO a with z | ⟨o, xs, z⟩
      · rw [h] at z; cases z
      · rw [h] at z; cases z
    · exact .inl ⟨o, h⟩
    · exact .inr (.inr h)
  · exact Reps.of (by simp) fun k d x e1 e2 => by
      rw [List.getElem?_map] at e1 e2
      cases e : ns[k]? with
      | none => rw [e] at e1; cases e1
      | some i =>
        rw [e] at e1 e2
        cases e1; cases e2
        rfl
/-- a law whose def the program P says -/
theorem law_end {l : PySem.W.OpenLaw} {n k : Nat} {q : Program} {loose : List Str} {XP : (Str → Option Value) → Heap → Prop} {d : DefRec} {P : Pg} {L : Fd} {x : Str} (hn : l.most = some n) (hn2 : n ≤ sizeLine) (hdf : d.params.defaults = []) (hr : Room k callerA)
    (hname : d.name = L.d.name) (hL : L ∈ P.fs) (hps : L.ps = [x]) (hok : P.ok = true) (hnd : (P.fs.map fun F => F.d.name).Nodup) (hb : ∀ F ∈ P.fs, BindOk F)
    (law : ∀ ns : List Int, ns.length ≤ n → ∃ ls, P.call k L.d.name [.rol (ns.map D.int)] = .ok (.bl true) ls) :
    PySem.W.WalkO q loose XP (fun w h => ∃ K : PySem.W.Frag, K.In h ∧ He.SaysX [] (P.fs.map Fd.d) [] [] P.factB w h K) l.row.toRowW d [] (fun f vs => PySem.call f vs) := by
  refine Att.attach_call hn hdf fun w s₀ s₁ mg mb fa o pm cd doc a vs ns G Y ho hd hcd hmg hobj hints hlen hg => ?_
  obtain ⟨K, KX, c⟩ := Y
  have O := pgOk_of KX G.T.g c hok hb
  obtain ⟨fd, FD, h1, h2⟩ := funD_of c hok hL
  have efa : fa = He.ga K L.d.name := by
    have h1 := (O.fn L hL).2
    rw [← hname, hmg] at h1
    cases h1
    rw [hname]
  subst efa
  have hnd' : ∀ F ∈ P.fs, P.find F.d.name = some F := find_of hnd
  obtain ⟨ls, hlaw⟩ := law ns hlen
  have bA := FunD.bindsA (ps := L.ps) FD (hb L hL)
  refine law_call (fd := fd) (CX := L2.CX l.prog w) (x := x) (sp := spOf K (P.call k L.d.name) [] L.ro L.ps.length) KX G.T.g G.T.b G.T.builtins G.T.nolimit hg hobj hints (Nat.le_trans hlen hn2) hr (fun base _ _ => ?_) (fun s v => ?_) (fun H hO hS => ?_) fun H e s' z => ?_
  · have := prog_ok (Pr := l.prog) (w := w) O hok hnd' k (base := base) L hL (fd := fd) (by rw [h1, h2]; exact FD)
    rw [hps] at this ⊢
    exact this
  · have := bA s [v] (by rw [hps]; rfl)
    rw [hps] at this
    exact this
  · refine ⟨⟨fun _ => False, fun _ _ => False, H⟩, [.rol (ns.map D.int)], rfl, by rw [hps]; rfl, by rw [hps]; rfl, ?_, ?_⟩
    · have rr : Reps K H (fun _ => False) [.rol (ns.map D.int)] [.ref a] := by
        unfold Reps
        exact ⟨.ref a, [], rfl, rol_of hO hS _, by unfold Reps; rfl⟩
      exact sr_args rr fun _ z => z.elim
    · rw [hlaw]
      intro w' v A x1 hl s ro t
      exact ro.bl
  · obtain ⟨_, _, _, _, _, _, _, _, _, _, _, _, z⟩ := z
    exact z
end Mp
/-! Mp21: words for the plain law. -/
namespace Mp
open PySem

theorem chkOf_none {as : List D} : chkOf none as = fun _ => true := rfl
theorem getS0 {o : Option D} {e : Env} : getS (o :: e) 0 = o := by simp [getS]
theorem getSs {o : Option D} {e : Env} {i : Nat} : getS (o :: e) (i + 1) = getS e i := by simp [getS]
theorem setS0 {o : Option D} {e : Env} {d : D} : setS (o :: e) 0 d = some d :: e := by simp [setS]
theorem setSs {o : Option D} {e : Env} {i : Nat} {d : D} : setS (o :: e) (i + 1) d = o :: setS e i d := by simp [setS]
theorem for_inv {t : T} {body : M Fl} (I : Nat → Env → Prop) : ∀ (ds : List D) (k : Nat) (e : Env), I k e → (∀ j d e, ds[j]? = some d → I (k + j) e → ∃ e1, asg t d e = some e1 ∧ ∃ e2, (body e1 = .ok .nx e2 ∨ body e1 = .ok .ct e2) ∧ I (k + j + 1) e2) →
    ∃ e', forL (fun _ => true) t body ds e = .ok .nx e' ∧ I (k + ds.length) e'
  | [], k, e, h, _ => ⟨e, by simp [forL], h⟩
  | d :: ds, k, e, h, st => by
    obtain ⟨e1, a1, e2, b1, h2⟩ := st 0 d e rfl h
    obtain ⟨e', f1, f2⟩ := for_inv I ds (k + 1) e2 h2 fun j d' e0 hj hi => by
      have := st (j + 1) d' e0 (by simpa using hj) (by rw [show k + (j + 1) = k + 1 + j by omega]; exact hi)
      rw [show k + (j + 1) + 1 = k + 1 + j + 1 by omega] at this
      exact this
    refine ⟨e', ?_, by rw [List.length_cons, show k + (ds.length + 1) = k + 1 + ds.length by omega]; exact f2⟩
    simp only [forL, if_true, a1]
    rcases b1 with b | b <;> rw [b] <;> exact f1
/-- the invariant as a family of environments -/
theorem for_env {α : Type} {t : T} {body : M Fl} (env : Nat → α → Env) (P : Nat → α → Prop) (ds : List D) (a0 : α) (h0 : P 0 a0) (st : ∀ j d a, ds[j]? = some d → P j a → ∃ e1, asg t d (env j a) = some e1 ∧ ∃ a', (body e1 = .ok .nx (env (j + 1) a') ∨ body e1 = .ok .ct (env (j + 1) a')) ∧ P (j + 1) a') :
    ∃ a', forL (fun _ => true) t body ds (env 0 a0) = .ok .nx (env ds.length a') ∧ P ds.length a' := by
  obtain ⟨e', f1, a', rfl, h⟩ := for_inv (fun k e => ∃ a, e = env k a ∧ P k a) ds 0 (env 0 a0) ⟨a0, rfl, h0⟩ fun j d e hj ⟨a, he, hp⟩ => by
    subst he
    simp only [Nat.zero_add] at hp ⊢
    obtain ⟨e1, x1, a', x2, x3⟩ := st j d a hj hp
    exact ⟨e1, x1, _, x2, a', rfl, x3⟩
  rw [Nat.zero_add] at f1 h
  exact ⟨a', f1, h⟩
theorem rngD_get {lo : Int} {n j : Nat} {d : D} (h : (rngD lo n)[j]? = some d) : j < n ∧ d = .int (lo + j) := by
  rw [rngD_at] at h
  split at h
  · cases h; exact ⟨‹_›, rfl⟩
  · cases h
theorem atI_nat {α : Type} {xs : List α} {j : Nat} (h : j < xs.length) : L2.atI xs (j : Int) = some xs[j] := by
  unfold L2.atI L2.ixN
  rw [if_pos (by omega), if_pos (by omega)]
  simp [h]
theorem atI_map {ns : List Int} {j : Nat} (h : j < ns.length) : L2.atI (ns.map D.int) (j : Int) = some (.int ns[j]) := by
  rw [atI_nat (by simpa using h)]
  simp
theorem dB_nil {C : Cs} {e : Mp.Env} : dB C [] e = .ok .nx e := by simp [dB, M.ret]
theorem dB_cons {C : Cs} {s : Mp.S} {ss : List Mp.S} {e e1 : Mp.Env} {r : R Fl} (h1 : dS C s e = .ok .nx e1) (h2 : dB C ss e1 = r) : dB C (s :: ss) e = r := by
  simp only [dB, seqM, M.bind, h1, h2]
theorem dB_ret {C : Cs} {s : Mp.S} {ss : List Mp.S} {e e1 : Mp.Env} {d : D} (h1 : dS C s e = .ok (.rt d) e1) : dB C (s :: ss) e = .ok (.rt d) e1 := by
  simp only [dB, seqM, M.bind, h1, M.ret]
theorem dS_set {C : Cs} {i : Nat} {x : E} {e e1 : Mp.Env} {d : D} (h : (den C x).1 e = .ok d e1) : dS C (.set i x) e = .ok .nx (setS e1 i d) := by
  simp only [dS, M.bind, h]
theorem dS_ret {C : Cs} {x : E} {e e1 : Mp.Env} {d : D} (h : (den C x).1 e = .ok d e1) : dS C (.ret x) e = .ok (.rt d) e1 := by
  simp only [dS, M.bind, h, M.ret]
theorem dS_if {C : Cs} {k : E} {a b : List Mp.S} {e e1 : Mp.Env} {t : Bool} (h : (den C k).2 e = .ok t e1) : dS C (.ifs k a b) e = if t = true then dB C a e1 else dB C b e1 := by
  simp only [dS, M.bind, h]
  cases t <;> rfl
theorem dS_for {C : Cs} {t : T} {k : IK} {ia : List E} {body : List Mp.S} {e e1 : Mp.Env} {as ds : List D} (h : evs (dens C ia) e = .ok as e1) (h2 : itF k as = some ds) : dS C (.for_ t k ia none body) e = forL (fun _ => true) t (dB C body) ds e1 := by
  simp only [dS, Mp.forM, M.bind, h, h2, M.opt, chkOf_none]
/-- a call whose body returns -/
theorem call_rt {P : Pg} {n : Nat} {F : Fd} {ds : List D} {r : D} {e : Mp.Env} (hf : P.find F.d.name = some F) (hl : F.ps.length = ds.length) (h : dB (P.cs_ n) F.body (ds.map some ++ List.replicate (F.N.length - F.ps.length) none) = .ok (.rt r) e) : ∃ ls, P.call (n + 1) F.d.name ds = .ok r ls := by
  rw [call_succ hf hl, h]
  exact ⟨_, rfl⟩
end Mp
/-! Num: the numbers that the laws draw from the script. -/
namespace Lw
open PySem Mp
def b__law_numbers : List Mp.S := [
  .set 2 (.lst []),
  .for_ (.nm 3) .rng [.bi .len [.v 0]] none [
    .set 4 (.bi .abs [.bi .int [.ix (.v 0) (.v 3)]]),
    .ifs (.cmp .ge (.v 4) (.bin .pow (.int 10) (.int 18))) [
      .for_ (.nm 5) .rng [.int 60] none [
        .ifs (.and [.cmp .gt (.v 4) (.int 0), .cmp .lt (.bi .len [.v 2]) (.v 1)]) [
          .ex (.mu .append 2 [] [.bin .mod (.v 4) (.int 10007)]),
          .set 4 (.bin .fdiv (.v 4) (.int 10007))] []]] [
      .ifs (.cmp .lt (.bi .len [.v 2]) (.v 1)) [
        .set 6 (.bin .mod (.bi .int [.bin .add (.bin .add (.bin .mul (.v 4) (.int 48271)) (.bin .mul (.v 3) (.int 69621))) (.int 11)]) (.int 2147483647)),
        .ex (.mu .append 2 [] [.bin .fdiv (.bin .mod (.bi .int [.bin .add (.bin .add (.bin .mul (.v 6) (.int 16807)) (.bin .mul (.int 7) (.v 3))) (.int 3)]) (.int 2147483647)) (.int 3)])] []]],
  .set 7 (.bi .len [.v 2]),
  .set 8 (.bin .add (.int 5381) (.bi .len [.v 0])),
  .for_ (.nm 3) .rng [.bi .max2 [.int 0, .bin .sub (.v 1) (.v 7)]] none [
    .ifs (.cmp .gt (.v 7) (.int 0)) [
      .set 8 (.bin .add (.v 8) (.ix (.v 2) (.bin .mod (.v 3) (.v 7))))] [],
    .set 8 (.bin .mod (.bi .int [.bin .add (.bin .mul (.v 8) (.int 48271)) (.v 3)]) (.int 2147483647)),
    .ex (.mu .append 2 [] [.bin .fdiv (.v 8) (.int 7)])],
  .ret (.sl (.v 2) [] [.v 1])]

def body60 : List Mp.S := [
        .ifs (.and [.cmp .gt (.v 4) (.int 0), .cmp .lt (.bi .len [.v 2]) (.v 1)]) [
          .ex (.mu .append 2 [] [.bin .mod (.v 4) (.int 10007)]),
          .set 4 (.bin .fdiv (.v 4) (.int 10007))] []]
theorem b60 {C : Cs} {s : Option D} {m : Nat} {xs : List Int} {cell : Int} {o3 o5 : Option D} {r : Mp.Env} (hx : xs.length ≤ m) (hm : m ≤ 100000) : ∃ (ys : List Int) (c : Int), ys.length ≤ m ∧ dB C body60 (s :: some (.int m) :: some (.lst (xs.map .int)) :: o3 :: some (.int cell) :: o5 :: r) = .ok .nx (s :: some (.int m) :: some (.lst (ys.map .int)) :: o3 :: some (.int c) :: o5 :: r) := by
  have hs : xs.length < SZ := by unfold SZ; omega
  by_cases h1 : 0 < cell
  · by_cases h2 : (xs.length : Int) < m
    · refine ⟨xs ++ [cell % 10007], cell / 10007, by simp; omega, ?_⟩
      have h3 : xs.length < m := by omega
      simp [body60, dB, dS, seqM, M.bind, M.ret, den, dens, val, evs, op2, varM, truthM, andT, getS, M.opt, bF, cmpD, ltD, D.truth, h1, h2, h3, muM, getPM, setPM, muOk, muF, getP, setP, binD, setS, hs]
    · have h3 : ¬ xs.length < m := by omega
      refine ⟨xs, cell, hx, ?_⟩
      simp [body60, dB, dS, seqM, M.bind, M.ret, den, dens, val, evs, op2, varM, truthM, andT, getS, M.opt, bF, cmpD, ltD, D.truth, h1, h2, h3]
  · refine ⟨xs, cell, hx, ?_⟩
    simp [body60, dB, dS, seqM, M.bind, M.ret, den, dens, val, evs, op2, varM, truthM, andT, getS, M.opt, bF, cmpD, ltD, D.truth, h1]
def bodyA : List Mp.S := [
    .set 4 (.bi .abs [.bi .int [.ix (.v 0) (.v 3)]]),
    .ifs (.cmp .ge (.v 4) (.bin .pow (.int 10) (.int 18))) [
      .for_ (.nm 5) .rng [.int 60] none body60] [
      .ifs (.cmp .lt (.bi .len [.v 2]) (.v 1)) [
        .set 6 (.bin .mod (.bi .int [.bin .add (.bin .add (.bin .mul (.v 4) (.int 48271)) (.bin .mul (.v 3) (.int 69621))) (.int 11)]) (.int 2147483647)),
        .ex (.mu .append 2 [] [.bin .fdiv (.bin .mod (.bi .int [.bin .add (.bin .add (.bin .mul (.v 6) (.int 16807)) (.bin .mul (.int 7) (.v 3))) (.int 3)]) (.int 2147483647)) (.int 3)])] []]]
def bodyB : List Mp.S := [
    .ifs (.cmp .gt (.v 7) (.int 0)) [
      .set 8 (.bin .add (.v 8) (.ix (.v 2) (.bin .mod (.v 3) (.v 7))))] [],
    .set 8 (.bin .mod (.bi .int [.bin .add (.bin .mul (.v 8) (.int 48271)) (.v 3)]) (.int 2147483647)),
    .ex (.mu .append 2 [] [.bin .fdiv (.v 8) (.int 7)])]
theorem loop60 {C : Cs} {s : Option D} {m : Nat} {xs : List Int} {cell : Int} {o3 o5 : Option D} {r : Mp.Env} (hx : xs.length ≤ m) (hm : m ≤ 100000) : ∃ (ys : List Int) (c : Int) (o5' : Option D), ys.length ≤ m ∧ dS C (.for_ (.nm 5) .rng [.int 60] none body60) (s :: some (.int m) :: some (.lst (xs.map .int)) :: o3 :: some (.int cell) :: o5 :: r) = .ok .nx (s :: some (.int m) :: some (.lst (ys.map .int)) :: o3 :: some (.int c) :: o5' :: r) := by
  obtain ⟨e', f1, ys, c, o5', rfl, h⟩ := for_inv (t := .nm 5) (body := dB C body60) (fun _ e => ∃ (ys : List Int) (c : Int) (o5' : Option D), e = (s :: some (.int m) :: some (.lst (ys.map .int)) :: o3 :: some (.int c) :: o5' :: r) ∧ ys.length ≤ m) (rngD 0 60) 0 _ ⟨xs, cell, o5, rfl, hx⟩ fun j d e hj ⟨ys, c, o5', he, hy⟩ => by
    subst he
    obtain ⟨zs, c', hz, e2⟩ := b60 (C := C) (s := s) (o3 := o3) (o5 := some d) (r := r) (cell := c) hy hm
    exact ⟨_, rfl, _, .inl e2, zs, c', some d, rfl, hz⟩
  refine ⟨ys, c, o5', h, ?_⟩
  have : dS C (.for_ (.nm 5) .rng [.int 60] none body60) (s :: some (.int m) :: some (.lst (xs.map .int)) :: o3 :: some (.int cell) :: o5 :: r) = forL (fun _ => true) (.nm 5) (dB C body60) (rngD 0 60) (s :: some (.int m) :: some (.lst (xs.map .int)) :: o3 :: some (.int cell) :: o5 :: r) := by
    simp [dS, Mp.forM, dens, den, val, evs, M.bind, M.ret, M.opt, itF, B62, chkOf_none]
  rw [this]
  exact f1
theorem bA0 {C : Cs} {ns : List Int} {m : Nat} {xs : List Int} {j : Nat} {o4 o5 o6 : Option D} {r : Mp.Env} (hj : j < ns.length) : dS C (.set 4 (.bi .abs [.bi .int [.ix (.v 0) (.v 3)]])) (some (.rol (ns.map .int)) :: some (.int m) :: some (.lst (xs.map .int)) :: some (.int j) :: o4 :: o5 :: o6 :: r) = .ok .nx (some (.rol (ns.map .int)) :: some (.int m) :: some (.lst (xs.map .int)) :: some (.int j) :: some (.int (if ns[j] < 0 then -ns[j] else ns[j])) :: o5 :: o6 :: r) := by
  have hat := atI_map hj
  simp [dS, M.bind, M.ret, den, dens, val, evs, op2, varM, getS, M.opt, ixD, hat, bF, setS]
def elseA : List Mp.S := [
      .ifs (.cmp .lt (.bi .len [.v 2]) (.v 1)) [
        .set 6 (.bin .mod (.bi .int [.bin .add (.bin .add (.bin .mul (.v 4) (.int 48271)) (.bin .mul (.v 3) (.int 69621))) (.int 11)]) (.int 2147483647)),
        .ex (.mu .append 2 [] [.bin .fdiv (.bin .mod (.bi .int [.bin .add (.bin .add (.bin .mul (.v 6) (.int 16807)) (.bin .mul (.int 7) (.v 3))) (.int 3)]) (.int 2147483647)) (.int 3)])] []]
theorem mulc {a b : Int} (h : W64 b = true) : binD .mul (.int a) (.int b) = some (.int (a * b)) := by
  simp [binD, h]
theorem mulc' {a b : Int} (h : W64 a = true) : binD .mul (.int a) (.int b) = some (.int (a * b)) := by
  simp [binD, h]
theorem addI {a b : Int} : binD .add (.int a) (.int b) = some (.int (a + b)) := rfl
theorem modI {a b : Int} (h : 0 < b) : binD .mod (.int a) (.int b) = some (.int (a % b)) := by simp [binD, h]
theorem divI {a b : Int} (h : 0 < b) (h' : b < 1073741824) : binD .fdiv (.int a) (.int b) = some (.int (a / b)) := by simp [binD, h, h']
def e6 : E := .bin .mod (.bi .int [.bin .add (.bin .add (.bin .mul (.v 4) (.int 48271)) (.bin .mul (.v 3) (.int 69621))) (.int 11)]) (.int 2147483647)
def e7 : E := .bin .fdiv (.bin .mod (.bi .int [.bin .add (.bin .add (.bin .mul (.v 6) (.int 16807)) (.bin .mul (.int 7) (.v 3))) (.int 3)]) (.int 2147483647)) (.int 3)
theorem e6_ok {C : Cs} {e : Mp.Env} {a b : Int} (h3 : getS e 3 = some (.int a)) (h4 : getS e 4 = some (.int b)) : ∃ v : Int, (den C e6).1 e = .ok (.int v) e := by
  have m1 : ∀ a : Int, binD .mul (.int a) (.int 48271) = some (.int (a * 48271)) := fun a => mulc (by simp [W64])
  have m2 : ∀ a : Int, binD .mul (.int a) (.int 69621) = some (.int (a * 69621)) := fun a => mulc (by simp [W64])
  have d1 : ∀ a : Int, binD .mod (.int a) (.int 2147483647) = some (.int (a % 2147483647)) := fun a => modI (by omega)
  refine ⟨(b * 48271 + a * 69621 + 11) % 2147483647, ?_⟩
  simp only [e6, den, dens, val, evs, op2, varM, M.bind, M.ret, M.opt, h3, h4, m1, m2, d1, addI, bF]
theorem e7_ok {C : Cs} {e : Mp.Env} {a b : Int} (h3 : getS e 3 = some (.int a)) (h4 : getS e 6 = some (.int b)) : ∃ v : Int, (den C e7).1 e = .ok (.int v) e := by
  have m3 : ∀ a : Int, binD .mul (.int a) (.int 16807) = some (.int (a * 16807)) := fun a => mulc (by simp [W64])
  have m4 : ∀ a : Int, binD .mul (.int 7) (.int a) = some (.int (7 * a)) := fun a => mulc' (by simp [W64])
  have d1 : ∀ a : Int, binD .mod (.int a) (.int 2147483647) = some (.int (a % 2147483647)) := fun a => modI (by omega)
  have d2 : ∀ a : Int, binD .fdiv (.int a) (.int 3) = some (.int (a / 3)) := fun a => divI (by omega) (by omega)
  refine ⟨((b * 16807 + 7 * a + 3) % 2147483647) / 3, ?_⟩
  simp only [e7, den, dens, val, evs, op2, varM, M.bind, M.ret, M.opt, h3, h4, m3, m4, d1, d2, addI, bF]
/-- x.append(e), x a slot -/
theorem app_ok {C : Cs} {i : Nat} {e : E} {s s' : Mp.Env} {v : D} {xs : List D} (h : (den C e).1 s = .ok v s') (hs : getS s' i = some (.lst xs)) (h0 : getS s i = some (.lst xs)) (hl : xs.length < SZ) : dS C (.ex (.mu .append i [] [e])) s = .ok .nx (setS s' i (.lst (xs ++ [v]))) := by
  simp [dS, den, dens, val, muM, evs, M.bind, M.ret, getPM, h0, getP, muOk, h, hs, muF, hl, setPM, setP]
theorem bA1 {C : Cs} {s : Option D} {m : Nat} {xs : List Int} {j : Nat} {cell : Int} {o5 o6 : Option D} {r : Mp.Env} (hx : xs.length ≤ m) (hm : m ≤ 100000) : ∃ (ys : List Int) (p6 : Option D), ys.length ≤ m ∧ dB C elseA (s :: some (.int m) :: some (.lst (xs.map .int)) :: some (.int j) :: some (.int cell) :: o5 :: o6 :: r) = .ok .nx (s :: some (.int m) :: some (.lst (ys.map .int)) :: some (.int j) :: some (.int cell) :: o5 :: p6 :: r) := by
  have hs : (xs.map D.int).length < SZ := by rw [List.length_map]; unfold SZ; omega
  have ht : (den C (.cmp .lt (.bi .len [.v 2]) (.v 1))).2 (s :: some (.int m) :: some (.lst (xs.map .int)) :: some (.int j) :: some (.int cell) :: o5 :: o6 :: r) = .ok (decide (xs.length < m)) (s :: some (.int m) :: some (.lst (xs.map .int)) :: some (.int j) :: some (.int cell) :: o5 :: o6 :: r) := by
    simp [den, dens, val, truthM, op2, varM, evs, M.bind, M.ret, M.opt, getS, bF, cmpD, ltD, D.truth]
  obtain ⟨v6, h6⟩ := e6_ok (C := C) (e := s :: some (.int m) :: some (.lst (xs.map .int)) :: some (.int j) :: some (.int cell) :: o5 :: o6 :: r) (a := j) (b := cell) rfl rfl
  obtain ⟨v7, h7⟩ := e7_ok (C := C) (e := s :: some (.int m) :: some (.lst (xs.map .int)) :: some (.int j) :: some (.int cell) :: o5 :: some (.int v6) :: r) (a := j) (b := v6) rfl rfl
  have ha := app_ok (i := 2) h7 (xs := xs.map .int) rfl rfl hs
  have hset : dS C (.set 6 e6) (s :: some (.int m) :: some (.lst (xs.map .int)) :: some (.int j) :: some (.int cell) :: o5 :: o6 :: r) = .ok .nx (s :: some (.int m) :: some (.lst (xs.map .int)) :: some (.int j) :: some (.int cell) :: o5 :: some (.int v6) :: r) := by
    rw [dS]
    unfold M.bind
    rw [h6]
    rfl
  by_cases h2 : xs.length < m
  · refine ⟨xs ++ [v7], some (.int v6), by simp; omega, ?_⟩
    show dB C [.ifs (.cmp .lt (.bi .len [.v 2]) (.v 1)) [.set 6 e6, .ex (.mu .append 2 [] [e7])] []] _ = _
    rw [dB, dS]
    unfold seqM M.bind
    rw [ht, decide_eq_true h2]
    simp only [if_true, dB, seqM, M.bind, hset, ha, M.ret]
    simp [setS]
  · refine ⟨xs, o6, hx, ?_⟩
    show dB C [.ifs (.cmp .lt (.bi .len [.v 2]) (.v 1)) [.set 6 e6, .ex (.mu .append 2 [] [e7])] []] _ = _
    rw [dB, dS]
    unfold seqM M.bind
    rw [ht, decide_eq_false h2]
    rfl
theorem bAif {C : Cs} {s : Option D} {e : Mp.Env} {cell : Int} (hc : getS e 4 = some (.int cell)) : dS C (.ifs (.cmp .ge (.v 4) (.bin .pow (.int 10) (.int 18))) [.for_ (.nm 5) .rng [.int 60] none body60] elseA) e = if cell < 1000000000000000000 then dB C elseA e else dB C [.for_ (.nm 5) .rng [.int 60] none body60] e := by
  have hb : binD .pow (.int 10) (.int 18) = some (.int 1000000000000000000) := rfl
  have h1 : (den C (.cmp .ge (.v 4) (.bin .pow (.int 10) (.int 18)))).2 e = .ok (!decide (cell < 1000000000000000000)) e := by
    simp only [den, val, truthM, op2, varM, M.bind, M.ret, M.opt, hc, hb, cmpD, ltD, D.truth, Option.map_some]
  rw [dS]
  unfold M.bind
  rw [h1]
  by_cases h : cell < 1000000000000000000
  · rw [if_pos h, decide_eq_true h]; rfl
  · rw [if_neg h, decide_eq_false h]; rfl
theorem bA {C : Cs} {ns : List Int} {m : Nat} {xs : List Int} {j : Nat} {o4 o5 o6 : Option D} {r : Mp.Env} (hj : j < ns.length) (hx : xs.length ≤ m) (hm : m ≤ 100000) : ∃ (ys : List Int) (p4 p5 p6 : Option D), ys.length ≤ m ∧ dB C bodyA (some (.rol (ns.map .int)) :: some (.int m) :: some (.lst (xs.map .int)) :: some (.int j) :: o4 :: o5 :: o6 :: r) = .ok .nx (some (.rol (ns.map .int)) :: some (.int m) :: some (.lst (ys.map .int)) :: some (.int j) :: p4 :: p5 :: p6 :: r) := by
  have h0 := bA0 (C := C) (m := m) (xs := xs) (o4 := o4) (o5 := o5) (o6 := o6) (r := r) hj
  generalize (if ns[j] < 0 then -ns[j] else ns[j]) = cell at h0
  have hif := bAif (C := C) (s := none) (e := some (.rol (ns.map .int)) :: some (.int m) :: some (.lst (xs.map .int)) :: some (.int j) :: some (.int cell) :: o5 :: o6 :: r) (cell := cell) rfl
  by_cases h1 : cell < 1000000000000000000
  · rw [if_pos h1] at hif
    obtain ⟨ys, p6, hy, e2⟩ := bA1 (C := C) (s := some (.rol (ns.map .int))) (j := j) (cell := cell) (o5 := o5) (o6 := o6) (r := r) hx hm
    exact ⟨ys, some (.int cell), o5, p6, hy, dB_cons h0 (dB_cons (hif.trans e2) dB_nil)⟩
  · rw [if_neg h1] at hif
    obtain ⟨ys, c, o5', hy, e2⟩ := loop60 (C := C) (s := some (.rol (ns.map .int))) (o3 := some (.int j)) (o5 := o5) (r := o6 :: r) (cell := cell) hx hm
    exact ⟨ys, some (.int c), o5', o6, hy, dB_cons h0 (dB_cons (hif.trans (dB_cons e2 dB_nil)) dB_nil)⟩
theorem loopA {C : Cs} {ns : List Int} {m : Nat} {o3 o4 o5 o6 : Option D} {r : Mp.Env} (hm : m ≤ 100000) (hn : ns.length ≤ 100000) : ∃ (ys : List Int) (p3 p4 p5 p6 : Option D), ys.length ≤ m ∧ dS C (.for_ (.nm 3) .rng [.bi .len [.v 0]] none bodyA) (some (.rol (ns.map .int)) :: some (.int m) :: some (.lst []) :: o3 :: o4 :: o5 :: o6 :: r) = .ok .nx (some (.rol (ns.map .int)) :: some (.int m) :: some (.lst (ys.map .int)) :: p3 :: p4 :: p5 :: p6 :: r) := by
  obtain ⟨e', f1, ys, p3, p4, p5, p6, rfl, h⟩ := for_inv (t := .nm 3) (body := dB C bodyA) (fun _ e => ∃ (ys : List Int) (p3 p4 p5 p6 : Option D), e = (some (.rol (ns.map .int)) :: some (.int m) :: some (.lst (ys.map .int)) :: p3 :: p4 :: p5 :: p6 :: r) ∧ ys.length ≤ m) (rngD 0 ns.length) 0 (some (.rol (ns.map .int)) :: some (.int m) :: some (.lst []) :: o3 :: o4 :: o5 :: o6 :: r) ⟨[], o3, o4, o5, o6, rfl, Nat.zero_le _⟩ fun j d e hj ⟨ys, p3, p4, p5, p6, he, hy⟩ => by
    subst he
    obtain ⟨hj1, rfl⟩ := rngD_get hj
    obtain ⟨zs, q4, q5, q6, hz, e2⟩ := bA (C := C) (ns := ns) (o4 := p4) (o5 := p5) (o6 := p6) (r := r) hj1 hy hm
    rw [Int.zero_add]
    exact ⟨_, rfl, _, .inl e2, zs, _, q4, q5, q6, rfl, hz⟩
  refine ⟨ys, p3, p4, p5, p6, h, ?_⟩
  rw [dS_for (as := [.int ns.length]) (ds := rngD 0 ns.length) (e1 := some (.rol (ns.map .int)) :: some (.int m) :: some (.lst []) :: o3 :: o4 :: o5 :: o6 :: r)]
  · exact f1
  · simp [dens, den, val, evs, varM, M.bind, M.ret, M.opt, getS, bF]
  · have hb : B62 ns.length = true := by unfold B62; simp; omega
    simp [itF, hb]
theorem bB {C : Cs} {s : Option D} {m : Nat} {xs : List Int} {j base : Nat} {last : Int} {o4 o5 o6 : Option D} (hb : base ≤ xs.length) (hx : xs.length < SZ) : ∃ (v l : Int), dB C bodyB (s :: some (.int m) :: some (.lst (xs.map .int)) :: some (.int j) :: o4 :: o5 :: o6 :: some (.int base) :: some (.int last) :: []) = .ok .nx (s :: some (.int m) :: some (.lst ((xs ++ [v]).map .int)) :: some (.int j) :: o4 :: o5 :: o6 :: some (.int base) :: some (.int l) :: []) := by
  have hs : (xs.map D.int).length < SZ := by rw [List.length_map]; exact hx
  have m1 : ∀ a : Int, binD .mul (.int a) (.int 48271) = some (.int (a * 48271)) := fun a => mulc (by simp [W64])
  have d1 : ∀ a : Int, binD .mod (.int a) (.int 2147483647) = some (.int (a % 2147483647)) := fun a => modI (by omega)
  have d2 : ∀ a : Int, binD .fdiv (.int a) (.int 7) = some (.int (a / 7)) := fun a => divI (by omega) (by omega)
  have h1 : ∃ l1 : Int, dS C (.ifs (.cmp .gt (.v 7) (.int 0)) [.set 8 (.bin .add (.v 8) (.ix (.v 2) (.bin .mod (.v 3) (.v 7))))] []) (s :: some (.int m) :: some (.lst (xs.map .int)) :: some (.int j) :: o4 :: o5 :: o6 :: some (.int base) :: some (.int last) :: []) = .ok .nx (s :: some (.int m) :: some (.lst (xs.map .int)) :: some (.int j) :: o4 :: o5 :: o6 :: some (.int base) :: some (.int l1) :: []) := by
    have ht : (den C (.cmp .gt (.v 7) (.int 0))).2 (s :: some (.int m) :: some (.lst (xs.map .int)) :: some (.int j) :: o4 :: o5 :: o6 :: some (.int base) :: some (.int last) :: []) = .ok (decide (0 < base)) (s :: some (.int m) :: some (.lst (xs.map .int)) :: some (.int j) :: o4 :: o5 :: o6 :: some (.int base) :: some (.int last) :: []) := by
      simp [den, val, truthM, op2, varM, M.bind, M.ret, M.opt, getS, cmpD, ltD, D.truth]
    rw [dS_if ht]
    by_cases h : 0 < base
    · rw [decide_eq_true h, if_pos rfl]
      have hlt : j % base < xs.length := Nat.lt_of_lt_of_le (Nat.mod_lt _ h) hb
      have ea : L2.atI (xs.map D.int) ((j : Int) % (base : Int)) = some (.int xs[j % base]) := by
        rw [← Int.natCast_emod]
        exact atI_map hlt
      have em : binD .mod (.int j) (.int base) = some (.int ((j : Int) % base)) := modI (by omega)
      exact ⟨last + xs[j % base], dB_cons (dS_set (d := .int (last + xs[j % base])) (e1 := s :: some (.int m) :: some (.lst (xs.map .int)) :: some (.int j) :: o4 :: o5 :: o6 :: some (.int base) :: some (.int last) :: []) (by
        simp [den, val, op2, varM, M.bind, M.opt, getS, em, ixD, ea, addI])) dB_nil⟩
    · rw [decide_eq_false h]
      exact ⟨last, by rw [if_neg Bool.false_ne_true]; exact dB_nil⟩
  obtain ⟨l1, h1⟩ := h1
  have g8 : ∀ l : Int, getS (s :: some (.int m) :: some (.lst (xs.map .int)) :: some (.int j) :: o4 :: o5 :: o6 :: some (.int base) :: some (.int l) :: []) 8 = some (.int l) := fun _ => rfl
  have g3 : ∀ l : Int, getS (s :: some (.int m) :: some (.lst (xs.map .int)) :: some (.int j) :: o4 :: o5 :: o6 :: some (.int base) :: some (.int l) :: []) 3 = some (.int j) := fun _ => rfl
  have h2 : dS C (.set 8 (.bin .mod (.bi .int [.bin .add (.bin .mul (.v 8) (.int 48271)) (.v 3)]) (.int 2147483647))) (s :: some (.int m) :: some (.lst (xs.map .int)) :: some (.int j) :: o4 :: o5 :: o6 :: some (.int base) :: some (.int l1) :: []) = .ok .nx (s :: some (.int m) :: some (.lst (xs.map .int)) :: some (.int j) :: o4 :: o5 :: o6 :: some (.int base) :: some (.int ((l1 * 48271 + j) % 2147483647)) :: []) :=
    dS_set (d := .int ((l1 * 48271 + j) % 2147483647)) (e1 := s :: some (.int m) :: some (.lst (xs.map .int)) :: some (.int j) :: o4 :: o5 :: o6 :: some (.int base) :: some (.int l1) :: []) (by
      simp only [den, dens, val, evs, op2, varM, M.bind, M.ret, M.opt, getSs, getS0, m1, d1, addI, bF, g8 l1, g3 l1])
  generalize (l1 * 48271 + (j : Int)) % 2147483647 = l2 at h2
  have h3 := app_ok (C := C) (i := 2) (e := .bin .fdiv (.v 8) (.int 7)) (s := s :: some (.int m) :: some (.lst (xs.map .int)) :: some (.int j) :: o4 :: o5 :: o6 :: some (.int base) :: some (.int l2) :: []) (s' := s :: some (.int m) :: some (.lst (xs.map .int)) :: some (.int j) :: o4 :: o5 :: o6 :: some (.int base) :: some (.int l2) :: []) (v := .int (l2 / 7)) (xs := xs.map .int) (by
      simp only [den, val, op2, varM, M.bind, M.ret, M.opt, d2, g8 l2]) rfl rfl hs
  refine ⟨l2 / 7, l2, dB_cons h1 (dB_cons h2 (dB_cons (h3.trans ?_) dB_nil))⟩
  simp [setS]
theorem loopB {C : Cs} {s : Option D} {m : Nat} {xs : List Int} {last : Int} {o3 o4 o5 o6 : Option D} (hx : xs.length ≤ m) (hm : m ≤ 100000) : ∃ (ys : List Int) (p3 : Option D) (l : Int), ys.length = m ∧ dS C (.for_ (.nm 3) .rng [.bi .max2 [.int 0, .bin .sub (.v 1) (.v 7)]] none bodyB) (s :: some (.int m) :: some (.lst (xs.map .int)) :: o3 :: o4 :: o5 :: o6 :: some (.int xs.length) :: some (.int last) :: []) = .ok .nx (s :: some (.int m) :: some (.lst (ys.map .int)) :: p3 :: o4 :: o5 :: o6 :: some (.int xs.length) :: some (.int l) :: []) := by
  obtain ⟨e', f1, ys, p3, l, rfl, h⟩ := for_inv (t := .nm 3) (body := dB C bodyB) (fun k e => ∃ (ys : List Int) (p3 : Option D) (l : Int), e = (s :: some (.int m) :: some (.lst (ys.map .int)) :: p3 :: o4 :: o5 :: o6 :: some (.int xs.length) :: some (.int l) :: []) ∧ ys.length = xs.length + k) (rngD 0 (m - xs.length)) 0 (s :: some (.int m) :: some (.lst (xs.map .int)) :: o3 :: o4 :: o5 :: o6 :: some (.int xs.length) :: some (.int last) :: []) ⟨xs, o3, last, rfl, rfl⟩ fun j d e hj ⟨ys, p3, l, he, hy⟩ => by
    subst he
    obtain ⟨hj1, rfl⟩ := rngD_get hj
    obtain ⟨v, l', e2⟩ := bB (C := C) (s := s) (m := m) (xs := ys) (j := j) (base := xs.length) (last := l) (o4 := o4) (o5 := o5) (o6 := o6) (by omega) (by unfold SZ; omega)
    rw [Int.zero_add]
    exact ⟨_, rfl, _, .inl e2, ys ++ [v], _, l', rfl, by simp; omega⟩
  rw [rngD_len] at h
  refine ⟨ys, p3, l, by omega, ?_⟩
  rw [dS_for (as := [.int ((m - xs.length : Nat) : Int)]) (ds := rngD 0 (m - xs.length)) (e1 := s :: some (.int m) :: some (.lst (xs.map .int)) :: o3 :: o4 :: o5 :: o6 :: some (.int xs.length) :: some (.int last) :: [])]
  · exact f1
  · have e0 : (if (m : Int) - (xs.length : Int) > 0 then (m : Int) - (xs.length : Int) else 0) = ((m - xs.length : Nat) : Int) := by split <;> omega
    have g1 : getS (s :: some (.int m) :: some (.lst (xs.map .int)) :: o3 :: o4 :: o5 :: o6 :: some (.int xs.length) :: some (.int last) :: []) 1 = some (.int m) := rfl
    have g7 : getS (s :: some (.int m) :: some (.lst (xs.map .int)) :: o3 :: o4 :: o5 :: o6 :: some (.int xs.length) :: some (.int last) :: []) 7 = some (.int xs.length) := rfl
    simp only [dens, den, val, evs, op2, varM, M.bind, M.ret, M.opt, g1, g7, bF, binD, e0]
  · have hb : B62 ((m - xs.length : Nat) : Int) = true := by unfold B62; simp; omega
    simp only [itF, hb, if_true, Int.toNat_natCast]
theorem numbers_body {C : Cs} {ns : List Int} {m : Nat} (hm : m ≤ 100000) (hn : ns.length ≤ 100000) : ∃ (xs : List Int) (e : Mp.Env), xs.length = m ∧ dB C b__law_numbers (some (.rol (ns.map .int)) :: some (.int m) :: List.replicate 7 none) = .ok (.rt (.lst (xs.map .int))) e := by
  obtain ⟨ys, p3, p4, p5, p6, hy, hA⟩ := loopA (C := C) (ns := ns) (o3 := none) (o4 := none) (o5 := none) (o6 := none) (r := [none, none]) hm hn
  obtain ⟨zs, q3, l, hz, hB⟩ := loopB (C := C) (s := some (.rol (ns.map .int))) (xs := ys) (last := 5381 + ns.length) (o3 := p3) (o4 := p4) (o5 := p5) (o6 := p6) hy hm
  refine ⟨zs, _, hz, dB_cons (dS_set (d := .lst []) (e1 := some (.rol (ns.map .int)) :: some (.int m) :: List.replicate 7 none) rfl) (dB_cons hA (dB_cons (dS_set (d := .int ys.length) (e1 := some (.rol (ns.map .int)) :: some (.int m) :: some (.lst (ys.map .int)) :: p3 :: p4 :: p5 :: p6 :: [none, none]) ?_) (dB_cons (dS_set (d := .int (5381 + ns.length)) (e1 := some (.rol (ns.map .int)) :: some (.int m) :: some (.lst (ys.map .int)) :: p3 :: p4 :: p5 :: p6 :: [some (.int ys.length), none]) ?_) (dB_cons hB (dB_ret (dS_ret (d := .lst (zs.map .int)) (e1 := some (.rol (ns.map .int)) :: some (.int m) :: some (.lst (zs.map .int)) :: q3 :: p4 :: p5 :: p6 :: some (.int ys.length) :: some (.int l) :: []) ?_))))))⟩
  · simp [den, dens, val, evs, varM, M.bind, M.ret, M.opt, getS, bF]
  · simp [den, dens, val, evs, op2, varM, M.bind, M.ret, M.opt, getS, setS, bF, addI]
  · have hc : cutD (zs.map D.int) none (some (m : Int)) = zs.map D.int := by
      unfold cutD
      have h1 : HT.sIx (zs.map D.int).length 0 none = 0 := rfl
      have h2 : HT.sIx (zs.map D.int).length (zs.map D.int).length (some (m : Int)) = m := by
        rw [HT.sIx_nat, List.length_map, hz, Nat.min_self]
      rw [h1, h2]
      rw [List.drop_zero, Nat.sub_zero]
      exact List.take_of_length_le (by rw [List.length_map, hz]; exact Nat.le_refl m)
    have g2 : getS (some (.rol (ns.map .int)) :: some (.int m) :: some (.lst (zs.map .int)) :: q3 :: p4 :: p5 :: p6 :: some (.int ys.length) :: some (.int l) :: []) 2 = some (.lst (zs.map .int)) := rfl
    have g1 : getS (some (.rol (ns.map .int)) :: some (.int m) :: some (.lst (zs.map .int)) :: q3 :: p4 :: p5 :: p6 :: some (.int ys.length) :: some (.int l) :: []) 1 = some (.int m) := rfl
    simp only [den, dens, val, partM, varM, M.bind, M.ret, M.opt, g1, g2, slD, hc]
end Lw
/-! Pl1: words for plain laws. -/
namespace Lw
open PySem Mp
theorem eqI {a b : Int} : eqD (.int a) (.int b) = some (decide (a = b)) := by
  have h : PyData.eqv (.int a) (.int b) = decide (a = b) := by
    unfold PyData.eqv
    rfl
  unfold eqD
  rw [if_pos (by rfl)]
  simp only [D.toP, h]
theorem eqB {a b : Bool} : eqD (.bl a) (.bl b) = some (decide (a = b)) := by
  unfold eqD
  rw [if_pos (by rfl)]
  cases a <;> cases b <;> rfl
abbrev tI (xs : List Int) : D := .tup (xs.map .int)
abbrev lI (xs : List Int) : D := .lst (xs.map .int)
theorem bools_map : ∀ {bs : List Bool}, bools (bs.map .bl) = some bs
  | [] => rfl
  | b :: bs => by simp [bools, bools_map]
theorem ints_map : ∀ {ns : List Int}, D.ints (ns.map .int) = some ns
  | [] => rfl
  | n :: ns => by simp [D.ints, ints_map]
theorem ltI {a b : Int} : ltD (.int a) (.int b) = some (decide (a < b)) := rfl
theorem subI {a b : Int} : binD .sub (.int a) (.int b) = some (.int (a - b)) := rfl
theorem addT {a b : List D} (h : a.length + b.length ≤ SZ) : binD .add (.tup a) (.tup b) = some (.tup (a ++ b)) := if_pos h
theorem addL {a b : List D} (h : a.length + b.length ≤ SZ) : binD .add (.lst a) (.lst b) = some (.lst (a ++ b)) := if_pos h
theorem negI {a : Int} : negD (.int a) = some (.int (-a)) := rfl
theorem lenL {xs : List D} : bF .len [.lst xs] = some (.int xs.length) := rfl
theorem lenR {xs : List D} : bF .len [.rol xs] = some (.int xs.length) := rfl
theorem lenT {xs : List D} : bF .len [.tup xs] = some (.int xs.length) := rfl
theorem absI {i : Int} : bF .abs [.int i] = some (.int (if i < 0 then -i else i)) := rfl
theorem intI {i : Int} : bF .int [.int i] = some (.int i) := rfl
theorem intB {b : Bool} : bF .int [.bl b] = some (.int (if b then 1 else 0)) := rfl
theorem lstL {xs : List D} : bF .list [.lst xs] = some (.lst xs) := rfl
theorem lstT {xs : List D} : bF .list [.tup xs] = some (.lst xs) := rfl
theorem tupL {xs : List D} : bF .tuple [.lst xs] = some (.tup xs) := rfl
theorem tupT {xs : List D} : bF .tuple [.tup xs] = some (.tup xs) := rfl
theorem allB {bs : List Bool} : bF .all [.lst (bs.map .bl)] = some (.bl (bs.all id)) := by
  show (bools (bs.map .bl)).map _ = _
  rw [bools_map]; rfl
theorem sumI {ns : List Int} : bF .sum [.lst (ns.map .int)] = some (.int ns.sum) := by
  show (D.ints (ns.map .int)).map _ = _
  rw [ints_map]; rfl
theorem ixT {xs : List D} {i : Int} : ixD (.tup xs) (.int i) = L2.atI xs i := rfl
theorem ixL {xs : List D} {i : Int} : ixD (.lst xs) (.int i) = L2.atI xs i := rfl
theorem ixR {xs : List D} {i : Int} : ixD (.rol xs) (.int i) = L2.atI xs i := rfl
theorem truB {b : Bool} : D.truth (.bl b) = some b := rfl
theorem truI {i : Int} : D.truth (.int i) = some (i != 0) := rfl
theorem at0 {α : Type} {x : α} {xs : List α} : L2.atI (x :: xs) 0 = some x := by
  have := atI_nat (xs := x :: xs) (j := 0) (by simp)
  exact this
theorem at1 {α : Type} {x y : α} {xs : List α} : L2.atI (x :: y :: xs) 1 = some y := atI_nat (xs := x :: y :: xs) (j := 1) (by simp)
theorem at2 {α : Type} {x y z : α} {xs : List α} : L2.atI (x :: y :: z :: xs) 2 = some z := atI_nat (xs := x :: y :: z :: xs) (j := 2) (by simp)
theorem SZ_big : SZ = 16777216 := rfl
/-! ### one construct each -/
theorem ev_bin {C : Cs} {o : BO} {a b : E} {x y z : D} {e e1 e2 : Mp.Env} (ha : (den C a).1 e = .ok x e1) (hb : (den C b).1 e1 = .ok y e2) (hz : binD o x y = some z) : (den C (.bin o a b)).1 e = .ok z e2 := by
  simp only [den, val, op2, M.bind, ha, hb, hz, M.opt]
theorem ev_bi1 {C : Cs} {k : BI} {a : E} {x z : D} {e e1 : Mp.Env} (ha : (den C a).1 e = .ok x e1) (hz : bF k [x] = some z) : (den C (.bi k [a])).1 e = .ok z e1 := by
  simp only [den, dens, val, evs, M.bind, ha, M.ret, hz, M.opt]
theorem ev_ix {C : Cs} {a b : E} {x y z : D} {e e1 e2 : Mp.Env} (ha : (den C a).1 e = .ok x e1) (hb : (den C b).1 e1 = .ok y e2) (hz : ixD x y = some z) : (den C (.ix a b)).1 e = .ok z e2 := by
  simp only [den, val, op2, M.bind, ha, hb, hz, M.opt]
theorem ev_cmp {C : Cs} {o : CO} {a b : E} {x y : D} {k : Bool} {e e1 e2 : Mp.Env} (ha : (den C a).1 e = .ok x e1) (hb : (den C b).1 e1 = .ok y e2) (hz : cmpD o x y = some k) : (den C (.cmp o a b)).1 e = .ok (.bl k) e2 ∧ (den C (.cmp o a b)).2 e = .ok k e2 := by
  constructor
  · simp only [den, val, op2, M.bind, ha, hb, hz, M.opt, Option.map_some]
  · simp only [den, val, op2, truthM, M.bind, ha, hb, hz, M.opt, Option.map_some, truB]
theorem ev_v {C : Cs} {i : Nat} {d : D} {e : Mp.Env} (h : getS e i = some d) : (den C (.v i)).1 e = .ok d e := by
  simp only [den, val, varM, h]
theorem ev_int {C : Cs} {i : Int} {e : Mp.Env} : (den C (.int i)).1 e = .ok (.int i) e := by simp only [den, val, M.ret]
theorem ev_str {C : Cs} {x : Str} {e : Mp.Env} : (den C (.str x)).1 e = .ok (.str x) e := by simp only [den, val, M.ret]
theorem ev_bl {C : Cs} {b : Bool} {e : Mp.Env} : (den C (.bl b)).1 e = .ok (.bl b) e := by simp only [den, val, M.ret]
theorem ev_neg {C : Cs} {a : E} {i : Int} {e e1 : Mp.Env} (ha : (den C a).1 e = .ok (.int i) e1) : (den C (.neg a)).1 e = .ok (.int (-i)) e1 := by
  simp only [den, val, op1, M.bind, ha, negI, M.opt]
theorem evs_nil {C : Cs} {e : Mp.Env} : evs (dens C []) e = .ok [] e := by simp only [dens, evs, M.ret]
theorem evs_cons {C : Cs} {a : E} {as : List E} {d : D} {ds : List D} {e e1 e2 : Mp.Env} (h : (den C a).1 e = .ok d e1) (h' : evs (dens C as) e1 = .ok ds e2) : evs (dens C (a :: as)) e = .ok (d :: ds) e2 := by
  simp only [dens, evs, M.bind, h, h', M.ret]
theorem ev_tup {C : Cs} {as : List E} {ds : List D} {e e1 : Mp.Env} (h : evs (dens C as) e = .ok ds e1) : (den C (.tup as)).1 e = .ok (.tup ds) e1 := by
  simp only [den, val, M.bind, h, M.ret]
theorem ev_lst {C : Cs} {as : List E} {ds : List D} {e e1 : Mp.Env} (h : evs (dens C as) e = .ok ds e1) : (den C (.lst as)).1 e = .ok (.lst ds) e1 := by
  simp only [den, val, M.bind, h, M.ret]
/-- a call, nothing lent -/
theorem ev_call {C : Cs} {f : Str} {es : List E} {e e1 : Mp.Env} {ds : List D} {r : D} {ls : List D} (h : evs (dens C es) e = .ok ds e1) (hl : es.all noLn = true) (hc : C.cl f ds = .ok r ls) : (den C (.call f es)).1 e = .ok r e1 := by
  simp only [den, val, callM, h, hc]
  rw [wb_none hl]
theorem ev_callx {C : Cs} {f : Str} {es : List E} {e e1 : Mp.Env} {ds : List D} {c : Str} (h : evs (dens C es) e = .ok ds e1) (hl : es.all noLn = true) (hc : C.cl f ds = .ex c) : (den C (.call f es)).1 e = .ex c e1 := by
  simp only [den, val, callM, h, hc]
  rw [unl_none hl]
theorem valT {C : Cs} {x : E} {f : M D} (h : den C x = val f) : (den C x).2 = truthM (den C x).1 := by rw [h]
theorem tr_bl {f : M D} {b : Bool} {e e1 : Mp.Env} (h : f e = .ok (.bl b) e1) : truthM f e = .ok b e1 := by
  simp only [truthM, M.bind, h, M.opt, truB]
/-- x[i] = v -/
theorem dS_put1 {C : Cs} {i : Nat} {k x : E} {e e1 e2 : Mp.Env} {y kk d d' : D} (h : (den C x).1 e = .ok y e1) (hk : (den C k).1 e1 = .ok kk e2) (hd : getS e2 i = some d) (hp : putI d kk y = some d') : dS C (.put i [k] x) e = .ok .nx (setS e2 i d') := by
  simp only [dS, M.bind, h, dens, evs, hk, M.ret, List.getLast?_singleton, List.dropLast_singleton, putM, getPM, hd, Option.bind_some, getP_nil, hp, M.opt, setPM, setP_nil]
/-- x[i] += v -/
theorem dS_augp1 {C : Cs} {i : Nat} {k x : E} {o : BO} {e e1 e2 : Mp.Env} {y kk d v z d' : D} (hk : (den C k).1 e = .ok kk e1) (hd : getS e1 i = some d) (hx : ixD d kk = some v) (h : (den C x).1 e1 = .ok y e2) (hd2 : getS e2 i = some d) (ha : augD o v y = some z) (hp : putI d kk z = some d') : dS C (.augp i [k] o x) e = .ok .nx (setS e2 i d') := by
  simp only [dS, M.bind, h, dens, evs, hk, M.ret, List.getLast?_singleton, List.dropLast_singleton, putM, getPM, hd, hd2, Option.bind_some, getP_nil, hp, M.opt, setPM, setP_nil, hx, ha]
/-- x.append(v) -/
theorem dS_app {C : Cs} {i : Nat} {x : E} {e e1 : Mp.Env} {y : D} {xs : List D} (h0 : getS e i = some (.lst xs)) (h : (den C x).1 e = .ok y e1) (h1 : getS e1 i = some (.lst xs)) (hl : xs.length < SZ) : dS C (.ex (.mu .append i [] [x])) e = .ok .nx (setS e1 i (.lst (xs ++ [y]))) := by
  simp only [dS, den, dens, val, muM, M.bind, evs, M.ret, getPM, h0, Option.bind_some, getP_nil, muOk, h, h1, muF, if_pos hl, setPM, setP_nil, Bool.true_eq_false, if_false]
theorem not2 {C : Cs} {x : E} {b : Bool} {e e1 : Mp.Env} (h : (den C x).2 e = .ok b e1) : (den C (.not x)).2 e = .ok (!b) e1 := by
  simp only [den, notT, M.bind, h, M.ret]
theorem or2 {C : Cs} {x y : E} {b d : Bool} {e e1 e2 : Mp.Env} (h : (den C x).2 e = .ok b e1) (h' : b = false → (den C y).2 e1 = .ok d e2) : ∃ e3, (den C (.or [x, y])).2 e = .ok (b || d) e3 ∧ (e3 = e1 ∨ e3 = e2) := by
  simp only [den, dens, orT, M.bind, h, M.ret]
  cases b with
  | true => exact ⟨e1, rfl, .inl rfl⟩
  | false => exact ⟨e2, by simpa using h' rfl, .inr rfl⟩
/-- tests that hang on nothing -/
def EvT (C : Cs) (e : Mp.Env) : List E → List Bool → Prop
  | [], [] => True
  | x :: xs, b :: bs => (den C x).2 e = .ok b e ∧ EvT C e xs bs
  | _, _ => False
theorem EvT.nil {C : Cs} {e : Mp.Env} : EvT C e [] [] := trivial
theorem EvT.cons {C : Cs} {e : Mp.Env} {x : E} {xs : List E} {b : Bool} {bs : List Bool} (h : (den C x).2 e = .ok b e) (h' : EvT C e xs bs) : EvT C e (x :: xs) (b :: bs) := ⟨h, h'⟩
theorem or_t {C : Cs} {x y : E} {ys : List E} {e e1 : Mp.Env} (h : (den C x).2 e = .ok true e1) : (den C (.or (x :: y :: ys))).2 e = .ok true e1 := by
  simp only [den, dens, orT, M.bind, h, if_true, M.ret]
theorem or_f {C : Cs} {x y : E} {ys : List E} {e e1 : Mp.Env} (h : (den C x).2 e = .ok false e1) : (den C (.or (x :: y :: ys))).2 e = (den C (.or (y :: ys))).2 e1 := by
  simp only [den, dens, orT, M.bind, h, Bool.false_eq_true, if_false]
theorem and_f {C : Cs} {x y : E} {ys : List E} {e e1 : Mp.Env} (h : (den C x).2 e = .ok false e1) : (den C (.and (x :: y :: ys))).2 e = .ok false e1 := by
  simp only [den, dens, andT, M.bind, h, Bool.false_eq_true, if_false, M.ret]
theorem and_t {C : Cs} {x y : E} {ys : List E} {e e1 : Mp.Env} (h : (den C x).2 e = .ok true e1) : (den C (.and (x :: y :: ys))).2 e = (den C (.and (y :: ys))).2 e1 := by
  simp only [den, dens, andT, M.bind, h, if_true]
theorem or1 {C : Cs} {x : E} : (den C (.or [x])).2 = (den C x).2 := by simp only [den, dens, orT]
theorem and1 {C : Cs} {x : E} : (den C (.and [x])).2 = (den C x).2 := by simp only [den, dens, andT]
theorem orP {C : Cs} {e : Mp.Env} : ∀ {xs : List E} {bs : List Bool}, xs ≠ [] → EvT C e xs bs → (den C (.or xs)).2 e = .ok (bs.any id) e := by
  intro xs bs hn h
  rw [den]
  show orT (dens C xs) e = _
  induction xs generalizing bs with
  | nil => exact absurd rfl hn
  | cons x xs ih =>
    cases bs with
    | nil => exact h.elim
    | cons b bs =>
      obtain ⟨h1, h2⟩ := h
      cases xs with
      | nil =>
        cases bs with
        | nil => simpa [dens, orT] using h1
        | cons => exact h2.elim
      | cons y ys =>
        simp only [dens, orT, M.bind, h1]
        cases b with
        | true => rfl
        | false => simpa [dens] using ih (by simp) h2
theorem andP {C : Cs} {e : Mp.Env} : ∀ {xs : List E} {bs : List Bool}, xs ≠ [] → EvT C e xs bs → (den C (.and xs)).2 e = .ok (bs.all id) e := by
  intro xs bs hn h
  rw [den]
  show andT (dens C xs) e = _
  induction xs generalizing bs with
  | nil => exact absurd rfl hn
  | cons x xs ih =>
    cases bs with
    | nil => exact h.elim
    | cons b bs =>
      obtain ⟨h1, h2⟩ := h
      cases xs with
      | nil =>
        cases bs with
        | nil => simpa [dens, andT] using h1
        | cons => exact h2.elim
      | cons y ys =>
        simp only [dens, andT, M.bind, h1]
        cases b with
        | false => rfl
        | true => simpa [dens] using ih (by simp) h2
theorem dS_ex {C : Cs} {x : E} {e e1 : Mp.Env} {d : D} (h : (den C x).1 e = .ok d e1) : dS C (.ex x) e = .ok .nx e1 := by
  simp only [dS, M.bind, h, M.ret]
theorem raise1 {C : Cs} {c : Str} {e : Mp.Env} : dB C [.raise c] e = .ex c e := by simp only [dB, dS, seqM, M.bind]
theorem if_t {C : Cs} {k : E} {a b : List Mp.S} {e e1 : Mp.Env} {r : R Fl} (h : (den C k).2 e = .ok true e1) (h2 : dB C a e1 = r) : dS C (.ifs k a b) e = r := (dS_if h).trans (by rw [if_pos rfl]; exact h2)
theorem if_f {C : Cs} {k : E} {a b : List Mp.S} {e e1 : Mp.Env} {r : R Fl} (h : (den C k).2 e = .ok false e1) (h2 : dB C b e1 = r) : dS C (.ifs k a b) e = r := (dS_if h).trans (by rw [if_neg Bool.false_ne_true]; exact h2)
theorem dB_cex {C : Cs} {s : Mp.S} {ss : List Mp.S} {e e1 : Mp.Env} {c : Str} (h1 : dS C s e = .ex c e1) : dB C (s :: ss) e = .ex c e1 := by
  simp only [dB, seqM, M.bind, h1]
theorem dS_tgt {C : Cs} {is : List Nat} {x : E} {e e1 e2 : Mp.Env} {d : D} (h : (den C x).1 e = .ok d e1) (h2 : asg (.tp is) d e1 = some e2) : dS C (.tgt is x) e = .ok .nx e2 := by
  simp only [dS, M.bind, h, h2]
theorem call_nx {P : Pg} {n : Nat} {F : Fd} {ds : List D} {e : Mp.Env} (hf : P.find F.d.name = some F) (hl : F.ps.length = ds.length) (h : dB (P.cs_ n) F.body (ds.map some ++ List.replicate (F.N.length - F.ps.length) none) = .ok .nx e) : ∃ ls, P.call (n + 1) F.d.name ds = .ok .non ls := by
  rw [call_succ hf hl, h]
  exact ⟨_, rfl⟩
theorem call_ex {P : Pg} {n : Nat} {F : Fd} {ds : List D} {e : Mp.Env} {c : Str} (hf : P.find F.d.name = some F) (hl : F.ps.length = ds.length) (h : dB (P.cs_ n) F.body (ds.map some ++ List.replicate (F.N.length - F.ps.length) none) = .ex c e) : P.call (n + 1) F.d.name ds = .ex c := by
  rw [call_succ hf hl, h]
/-- a comprehension without a test -/
theorem lcL_map {elt : M D} {t : T} {e : Mp.Env} {g : D → D} : ∀ {ds : List D}, (∀ d, d ∈ ds → ∃ e1, asg t d e = some e1 ∧ ∃ e2, elt e1 = .ok (g d) e2) → lcL elt t (M.ret true) e ds = some (ds.map g)
  | [], _ => rfl
  | d :: ds, h => by
    obtain ⟨e1, h1, e2, h2⟩ := h d List.mem_cons_self
    simp only [lcL, h1, M.ret, h2, lcL_map (ds := ds) fun d hd => h d (List.mem_cons_of_mem _ hd), Option.map_some, List.map_cons]
/-- .. with one -/
theorem lcL_flt {elt : M D} {c : M Bool} {t : T} {e : Mp.Env} {g : D → D} {p : D → Bool} : ∀ {ds : List D}, (∀ d, d ∈ ds → ∃ e1, asg t d e = some e1 ∧ ∃ e2, c e1 = .ok (p d) e2 ∧ (p d = true → ∃ e3, elt e2 = .ok (g d) e3)) → lcL elt t c e ds = some ((ds.filter p).map g)
  | [], _ => rfl
  | d :: ds, h => by
    obtain ⟨e1, h1, e2, h2, h3⟩ := h d List.mem_cons_self
    have ih := lcL_flt (ds := ds) fun d hd => h d (List.mem_cons_of_mem _ hd)
    cases hp : p d with
    | true =>
      obtain ⟨e3, h4⟩ := h3 hp
      rw [hp] at h2
      simp only [lcL, h1, h2, h4, ih, Option.map_some, List.filter_cons, hp, if_true, List.map_cons]
    | false =>
      rw [hp] at h2
      simp only [lcL, h1, h2, ih, List.filter_cons, hp, Bool.false_eq_true, if_false]
/-- what a comprehension gives -/
theorem lc_val {C : Cs} {elt : E} {t : T} {k : IK} {ia : List E} {c : List E} {e e1 : Mp.Env} {as ds ys : List D} (h1 : evs (dens C ia) e = .ok as e1) (h2 : itF k as = some ds) (h3 : ds.length ≤ SZ) (h4 : lcL (den C elt).1 t (cM (dens C c)) (wipeE e1 t.slots) ds = some ys) :
    (den C (.lc elt t k ia c)).1 e = .ok (.lst ys) (wipeE e1 t.slots) := by
  simp only [den, val, lcM, lcF, M.bind, h1, M.opt, h2, if_pos h3, h4]
end Lw
/-! Pl2: ints: ranges, sums, written lists and dicts. -/
namespace Lw
open PySem Mp
def rngI (s : Int) : Nat → List Int
  | 0 => []
  | n + 1 => s :: rngI (s + 1) n
theorem rngI_mem : ∀ {n : Nat} {s x : Int}, x ∈ rngI s n ↔ s ≤ x ∧ x < s + n
  | 0, s, x => by simp [rngI] <;> omega
  | n + 1, s, x => by
    simp only [rngI, List.mem_cons, rngI_mem (n := n)]
    omega
theorem rngI_nodup : ∀ {n : Nat} {s : Int}, (rngI s n).Nodup
  | 0, _ => List.nodup_nil
  | n + 1, s => by
    rw [rngI, List.nodup_cons]
    exact ⟨fun h => by have := rngI_mem.mp h; omega, rngI_nodup⟩
theorem rngI_len : ∀ {n : Nat} {s : Int}, (rngI s n).length = n
  | 0, _ => rfl
  | n + 1, s => by simp [rngI, rngI_len]
theorem rngD_int : ∀ {n : Nat} {s : Int}, rngD s n = (rngI s n).map .int
  | 0, _ => rfl
  | n + 1, s => by simp [rngD, rngI, rngD_int]
theorem perm_sum {α : Type} {g : α → Int} {a b : List α} (h : a.Perm b) : (a.map g).sum = (b.map g).sum := by
  induction h with
  | nil => rfl
  | cons x _ ih => simp [ih]
  | swap x y l => simp; omega
  | trans _ _ h1 h2 => exact h1.trans h2
theorem keys_perm {ks : List Int} {n : Nat} (nd : ks.Nodup) (h : ∀ k ∈ ks, 0 ≤ k ∧ k < n) : ks.Perm ((rngI 0 n).filter fun x => decide (x ∈ ks)) := by
  rw [List.perm_ext_iff_of_nodup nd (rngI_nodup.filter _)]
  intro a
  rw [List.mem_filter, rngI_mem]
  constructor
  · intro ha
    have := h a ha
    exact ⟨⟨this.1, by omega⟩, decide_eq_true ha⟩
  · intro ha
    exact of_decide_eq_true ha.2
theorem keys_len {ks : List Int} {n : Nat} (nd : ks.Nodup) (h : ∀ k ∈ ks, 0 ≤ k ∧ k < n) : ks.length ≤ n := by
  rw [(keys_perm nd h).length_eq]
  exact Nat.le_trans (List.length_filter_le _ _) (by rw [rngI_len]; exact Nat.le_refl _)
theorem filter_sum {g : Int → Int} {p : Int → Bool} : ∀ {xs : List Int}, (∀ x ∈ xs, p x = false → g x = 0) → ((xs.filter p).map g).sum = (xs.map g).sum
  | [], _ => rfl
  | x :: xs, h => by
    have ih := filter_sum (xs := xs) fun y hy => h y (List.mem_cons_of_mem _ hy)
    rw [List.filter_cons]
    cases hp : p x with
    | true => simp [ih]
    | false => simp [ih, h x List.mem_cons_self hp]
/-- over the keys, or over all -/
theorem sum_keys {ks : List Int} {n : Nat} {g : Int → Int} (nd : ks.Nodup) (h : ∀ k ∈ ks, 0 ≤ k ∧ k < n) (z : ∀ x : Int, 0 ≤ x → x < n → x ∉ ks → g x = 0) : (ks.map g).sum = ((rngI 0 n).map g).sum := by
  rw [perm_sum (keys_perm nd h), filter_sum]
  intro x hx hp
  have := rngI_mem.mp hx
  exact z x this.1 (by omega) (by simpa using hp)
/-! ### lists of ints by place -/
def getI (v : List Int) (x : Int) : Int := (v[x.toNat]?).getD 0
theorem getI_at {v : List Int} {x : Int} (h0 : 0 ≤ x) (h1 : x < v.length) : L2.atI (v.map D.int) x = some (.int (getI v x)) := by
  obtain ⟨k, rfl⟩ := Int.eq_ofNat_of_zero_le h0
  have hk : k < v.length := by omega
  rw [atI_map hk]
  unfold getI
  simp [hk]
def setI (v : List Int) (x y : Int) : List Int := v.set x.toNat y
theorem setI_len {v : List Int} {x y : Int} : (setI v x y).length = v.length := by simp [setI]
theorem getI_set {v : List Int} {x y z : Int} (h0 : 0 ≤ x) (h1 : x < v.length) (hz : 0 ≤ z) : getI (setI v x y) z = if z = x then y else getI v z := by
  unfold getI setI
  rw [List.getElem?_set]
  by_cases h : z = x
  · subst h
    rw [if_pos rfl, if_pos rfl, if_pos (by omega)]
    rfl
  · rw [if_neg h, if_neg (by omega)]
theorem ixN_nat {n : Nat} {x : Int} (h0 : 0 ≤ x) (h1 : x < n) : L2.ixN n x = some x.toNat := by
  unfold L2.ixN
  rw [if_pos h0, if_pos (by omega)]
/-- xs[k] = y -/
theorem putL {v : List Int} {x y : Int} (h0 : 0 ≤ x) (h1 : x < v.length) : putI (.lst (v.map .int)) (.int x) (.int y) = some (.lst ((setI v x y).map .int)) := by
  show (L2.ixN (v.map D.int).length x).map _ = _
  rw [List.length_map, ixN_nat h0 h1, Option.map_some, setI, List.map_set]
/-! ### dicts of ints -/
abbrev Ps := List (Int × Int)
def dD (ps : Ps) : D := .dct false (ps.map fun p => .int p.1) (ps.map fun p => .int p.2)
def keysP (ps : Ps) : List Int := ps.map (·.1)
def lk : Ps → Int → Int
  | [], _ => 0
  | p :: r, x => if p.1 = x then p.2 else lk r x
def putA : Ps → Int → Int → Ps
  | [], x, y => [(x, y)]
  | p :: r, x, y => if p.1 = x then (p.1, y) :: r else p :: putA r x y
theorem dPut_ps : ∀ {ps : Ps} {x y : Int}, dPut (ps.map fun p => .int p.1) (ps.map fun p => .int p.2) (.int x) (.int y) = ((putA ps x y).map (fun p => D.int p.1), (putA ps x y).map (fun p => D.int p.2))
  | [], x, y => rfl
  | p :: r, x, y => by
    simp only [List.map_cons, dPut, putA]
    by_cases h : p.1 = x
    · rw [if_pos (by rw [h]), if_pos h]; simp
    · rw [if_neg (fun e => h (by cases e; rfl)), if_neg h, dPut_ps]; simp
theorem dGet_ps : ∀ {ps : Ps} {x : Int}, (dGet (ps.map fun p => .int p.1) (ps.map fun p => .int p.2) (.int x)).getD (.int 0) = .int (lk ps x)
  | [], x => rfl
  | p :: r, x => by
    simp only [List.map_cons, dGet, lk]
    by_cases h : p.1 = x
    · rw [if_pos (by rw [h]), if_pos h]; rfl
    · rw [if_neg (fun e => h (by cases e; rfl)), if_neg h, dGet_ps]
theorem dGet_key : ∀ {ps : Ps} {x : Int}, x ∈ keysP ps → dGet (ps.map fun p => .int p.1) (ps.map fun p => .int p.2) (.int x) = some (.int (lk ps x))
  | [], x, h => by cases h
  | p :: r, x, h => by
    simp only [List.map_cons, dGet, lk]
    by_cases e : p.1 = x
    · rw [if_pos (by rw [e]), if_pos e]
    · rw [if_neg (fun z => e (by cases z; rfl)), if_neg e]
      exact dGet_key ((List.mem_cons.mp h).resolve_left (fun z => e z.symm))
theorem lk_put : ∀ {ps : Ps} {t y x : Int}, lk (putA ps t y) x = if x = t then y else lk ps x
  | [], t, y, x => by
    simp only [putA, lk]
    by_cases h : t = x
    · simp [h]
    · rw [if_neg h, if_neg (fun z => h z.symm)]
  | p :: r, t, y, x => by
    simp only [putA]
    by_cases h : p.1 = t
    · rw [if_pos h]
      simp only [lk]
      by_cases hx : p.1 = x
      · rw [if_pos hx, if_pos (by omega)]
      · rw [if_neg hx, if_neg (by omega), if_neg hx]
    · rw [if_neg h]
      simp only [lk, lk_put (ps := r)]
      by_cases hx : p.1 = x
      · rw [if_pos hx, if_neg (by omega), if_pos hx]
      · rw [if_neg hx, if_neg hx]
theorem keys_put : ∀ {ps : Ps} {t y x : Int}, x ∈ keysP (putA ps t y) ↔ x ∈ keysP ps ∨ x = t
  | [], t, y, x => by simp [putA, keysP]
  | p :: r, t, y, x => by
    simp only [putA]
    by_cases h : p.1 = t
    · rw [if_pos h]
      simp only [keysP, List.map_cons, List.mem_cons]
      constructor
      · exact fun z => .inl z
      · rintro (z | z)
        · exact z
        · exact .inl (by omega)
    · rw [if_neg h]
      have ih := keys_put (ps := r) (t := t) (y := y) (x := x)
      unfold keysP at ih ⊢
      simp only [List.map_cons, List.mem_cons, ih]
      exact or_assoc.symm
theorem keys_nodup : ∀ {ps : Ps} {t y : Int}, (keysP ps).Nodup → (keysP (putA ps t y)).Nodup
  | [], t, y, _ => by simp [putA, keysP]
  | p :: r, t, y, nd => by
    have nd' := List.nodup_cons.mp (show (p.1 :: keysP r).Nodup from nd)
    simp only [putA]
    by_cases h : p.1 = t
    · rw [if_pos h]; exact nd
    · rw [if_neg h]
      show (p.1 :: keysP (putA r t y)).Nodup
      rw [List.nodup_cons]
      refine ⟨fun z => ?_, keys_nodup nd'.2⟩
      rcases keys_put.mp z with z | z
      · exact nd'.1 z
      · exact h z
theorem putA_len : ∀ {ps : Ps} {t y : Int}, (putA ps t y).length ≤ ps.length + 1
  | [], t, y => by simp [putA]
  | p :: r, t, y => by
    simp only [putA]
    split
    · simp
    · have := putA_len (ps := r) (t := t) (y := y)
      simp; omega
theorem putD {ps : Ps} {x y : Int} (h : ps.length < SZ) : putI (dD ps) (.int x) (.int y) = some (dD (putA ps x y)) := by
  show (if keyD false (.int x) && decide ((ps.map fun p => D.int p.1).length < SZ) then _ else _) = _
  rw [if_pos (by simp [keyD, D.flat, h]), dPut_ps]
  rfl
theorem ixDi {ps : Ps} {x : Int} (h : x ∈ keysP ps) : ixD (dD ps) (.int x) = some (.int (lk ps x)) := by
  show (if keyD false (.int x) then dGet (ps.map fun p => .int p.1) (ps.map fun p => .int p.2) (.int x) else none) = _
  rw [if_pos (by rfl), dGet_key h]
theorem lk_no : ∀ {ps : Ps} {x : Int}, x ∉ keysP ps → lk ps x = 0
  | [], _, _ => rfl
  | p :: r, x, h => by
    unfold keysP at h
    rw [List.map_cons, List.mem_cons, not_or] at h
    simp only [lk, if_neg (fun z => h.1 (Eq.symm z))]
    exact lk_no h.2
theorem get2I {ps : Ps} {x : Int} : meF .get2 (dD ps) [.int x, .int 0] = some (.int (lk ps x)) := by
  show (if keyD false (.int x) then some ((dGet (ps.map fun p => .int p.1) (ps.map fun p => .int p.2) (.int x)).getD (.int 0)) else none) = _
  rw [if_pos (by rfl), dGet_ps]
theorem sortedD {ps : Ps} (h : ps.length < 64) : bF .sorted [dD ps] = some (lI (sortI (keysP ps))) := by
  show (if (ps.map fun p => D.int p.1).length < 64 then (sortD (ps.map fun p => D.int p.1)).map D.lst else none) = _
  rw [if_pos (by simpa using h)]
  have e : (ps.map fun p => D.int p.1) = (keysP ps).map .int := by unfold keysP; rw [List.map_map]; rfl
  rw [e]
  unfold sortD
  rw [ints_map]
  rfl
end Lw
namespace Lw
open PySem PySem.Spec PyProof.Rows L2 Mp
def top (i : Nat) : Stmt := PySem.Challenge.pw_doppelganger_k26_machines_checked.main.body.getD i (.Pass ⟨0, 0, 0, 0⟩)
def dfn (x : Str) (i : Nat) : He.DefD := ⟨(x, none), x, x, defArgs (top i), defBody (top i), defScope (top i), [], []⟩
def b_check_machine : List Mp.S := [
  .ifs (.cmp .ne (.bi .len [.v 0]) (.int 3)) [
    .raise "NotAllowed"] [],
  .tgt [1, 2, 3] (.v 0),
  .set 4 (.bi .len [.v 2]),
  .ifs (.or [.cmp .lt (.v 1) (.int 0), .cmp .gt (.v 1) (.g "MAX_SIGNS"), .cmp .gt (.v 4) (.g "MAX_MACHINE"), .cmp .ne (.bi .len [.v 3]) (.v 4)]) [
    .raise "NotAllowed"] [],
  .for_ (.nm 5) .seq [.v 2] none [
    .ifs (.or [.cmp .ne (.bi .len [.v 5]) (.v 1), .not (.bi .all [.lc (.ch .le .lt (.neg (.int 1)) (.v 6) (.v 4)) (.nm 6) .seq [.v 5] []])]) [
      .raise "NotAllowed"] []]]
def f_check_machine : Fd := ⟨dfn "check_machine" 9, ["machine", "letters", "moves", "accepting", "states", "row", "state"], ["machine"], .fr, b_check_machine⟩
def b_accepts : List Mp.S := [
  .tgt [2, 3, 4] (.v 0),
  .ifs (.cmp .eq (.bi .len [.v 3]) (.int 0)) [
    .ret (.bl false)] [],
  .set 5 (.int 0),
  .for_ (.nm 6) .seq [.v 1] none [
    .ifs (.or [.cmp .lt (.v 6) (.int 0), .cmp .ge (.v 6) (.v 2), .cmp .lt (.ix (.ix (.v 3) (.v 5)) (.v 6)) (.int 0)]) [
      .ret (.bl false)] [],
    .set 5 (.ix (.ix (.v 3) (.v 5)) (.v 6))],
  .ret (.ix (.v 4) (.v 5))]
def f_accepts : Fd := ⟨dfn "accepts" 10, ["machine", "word", "letters", "moves", "accepting", "state", "letter"], ["machine", "word"], .fr, b_accepts⟩
def b_count_words : List Mp.S := [
  .ifs (.or [.cmp .lt (.v 1) (.int 0), .cmp .gt (.v 1) (.g "MAX_COUNT")]) [
    .raise "NotAllowed"] [],
  .set 2 (.bin .mul (.lst [.int 0]) (.bi .len [.ix (.v 0) (.int 1)])),
  .ifs (.cmp .gt (.bi .len [.v 2]) (.int 0)) [
    .put 2 [.int 0] (.int 1)] [],
  .for_ (.nm 3) .rng [.v 1] none [
    .set 4 (.bin .mul (.lst [.int 0]) (.bi .len [.v 2])),
    .for_ (.tp [5, 6]) .enum [.ix (.v 0) (.int 1)] none [
      .for_ (.nm 7) .seq [.v 6] none [
        .ifs (.cmp .ge (.v 7) (.int 0)) [
          .augp 4 [.v 7] .add (.ix (.v 2) (.v 5))] []]],
    .set 2 (.v 4)],
  .ret (.bi .sum [.lc (.ix (.v 2) (.v 5)) (.nm 5) .rng [.bi .len [.v 2]] [.ix (.ix (.v 0) (.int 2)) (.v 5)]])]
def f_count_words : Fd := ⟨dfn "count_words" 11, ["machine", "length", "counts", "_", "after", "state", "row", "target"], ["machine", "length"], .fr, b_count_words⟩
def f__law_numbers : Fd := ⟨dfn "_law_numbers" 13, ["_law_script", "_law_many", "_law_numbers_here", "_law_k", "_law_cell", "_law_j", "_law_mixed", "_law_base", "_law_last"], ["_law_script", "_law_many"], .fr, b__law_numbers⟩
def b__law_machine : List Mp.S := [
  .set 5 (.lst []),
  .set 6 (.lst []),
  .for_ (.nm 7) .rng [.v 3] none [
    .set 8 (.lst []),
    .for_ (.nm 9) .rng [.v 2] none [
      .set 10 (.ix (.v 0) (.bin .mod (.bi .int [.bin .add (.bin .add (.v 1) (.bin .mul (.v 7) (.v 2))) (.v 9)]) (.bi .len [.v 0]))),
      .set 11 (.bin .mod (.bin .fdiv (.v 10) (.int 7)) (.v 3)),
      .ifs (.cmp .lt (.bin .mod (.v 10) (.int 5)) (.v 4)) [
        .set 11 (.neg (.int 1))] [],
      .ex (.mu .append 8 [] [.v 11])],
    .ex (.mu .append 5 [] [.bi .tuple [.v 8]]),
    .ex (.mu .append 6 [] [.cmp .eq (.bin .mod (.bin .fdiv (.ix (.v 0) (.bin .mod (.bi .int [.bin .add (.bin .add (.v 1) (.int 131)) (.v 7)]) (.bi .len [.v 0]))) (.int 3)) (.int 3)) (.int 0)])],
  .ret (.tup [.v 2, .bi .tuple [.v 5], .bi .tuple [.v 6]])]
def f__law_machine : Fd := ⟨dfn "_law_machine" 14, ["_law_numbers_here", "_law_at", "_law_letters", "_law_states", "_law_gaps", "_law_moves", "_law_accepting", "_law_state", "_law_row", "_law_letter", "_law_number", "_law_target"], ["_law_numbers_here", "_law_at", "_law_letters", "_law_states", "_law_gaps"], .fr, b__law_machine⟩
def b__law_refused : List Mp.S := [
  .try_ (Mp.allFr 2) [
    .ex (.call "check_machine" [.v 0])] (.hd ["DoppelError"] (some 1) [
    .ret (.and [.isi (.v 1) [.exc "NotAllowed"], .isi (.v 1) [.exc "ValueError"], .not (.isi (.v 1) [.exc "TooLarge"])])] .hn),
  .ret (.bl false)]
def f__law_refused : Fd := ⟨dfn "_law_refused" 15, ["_law_machine_here", "e"], ["_law_machine_here"], .fr, b__law_refused⟩
def b__law_bad : List Mp.S := [
  .tgt [2, 3, 4] (.v 0),
  .set 5 (.lst [.tup [.neg (.int 1), .tup [], .tup []], .tup [.int 201, .tup [], .tup []], .tup [.v 2, .v 3, .bin .add (.v 4) (.tup [.bl true])], .tup [.v 2, .bin .add (.v 3) (.bin .mul (.tup [.tup []]) (.int 1)), .v 4]]),
  .ex (.mu .append 5 [] [.tup [.int 1, .bi .tuple [.lc (.tup [.int 0]) (.nm 7) .rng [.int 401] []], .bi .tuple [.lc (.bl false) (.nm 7) .rng [.int 401] []]]]),
  .ifs (.and [.cmp .gt (.bi .len [.v 3]) (.int 0), .cmp .gt (.v 2) (.int 0)]) [
    .set 6 (.ix (.v 3) (.bin .sub (.bi .len [.v 3]) (.int 1))),
    .ex (.mu .append 5 [] [.tup [.v 2, .bin .add (.sl (.v 3) [] [.neg (.int 1)]) (.tup [.sl (.v 6) [] [.neg (.int 1)]]), .v 4]]),
    .ex (.mu .append 5 [] [.tup [.v 2, .bin .add (.sl (.v 3) [] [.neg (.int 1)]) (.tup [.bin .add (.v 6) (.tup [.int 0])]), .v 4]]),
    .ex (.mu .append 5 [] [.tup [.v 2, .bin .add (.sl (.v 3) [] [.neg (.int 1)]) (.tup [.bin .add (.tup [.bi .len [.v 3]]) (.sl (.v 6) [.int 1] [])]), .v 4]]),
    .ex (.mu .append 5 [] [.tup [.v 2, .bin .add (.sl (.v 3) [] [.neg (.int 1)]) (.tup [.bin .add (.tup [.neg (.int 2)]) (.sl (.v 6) [.int 1] [])]), .v 4]])] [],
  .ret (.ix (.v 5) (.bin .mod (.v 1) (.bi .len [.v 5])))]
def f__law_bad : Fd := ⟨dfn "_law_bad" 16, ["_law_machine_here", "_law_number", "_law_letters", "_law_moves", "_law_accepting", "_law_rows", "_law_row", "_law_k"], ["_law_machine_here", "_law_number"], .fr, b__law_bad⟩
def b__law_accepts : List Mp.S := [
  .set 2 (.int 0),
  .ifs (.cmp .eq (.bi .len [.ix (.v 0) (.int 1)]) (.int 0)) [
    .ret (.bl false)] [],
  .for_ (.nm 3) .seq [.v 1] none [
    .ifs (.or [.cmp .lt (.v 3) (.int 0), .cmp .ge (.v 3) (.ix (.v 0) (.int 0))]) [
      .ret (.bl false)] [],
    .set 2 (.ix (.ix (.ix (.v 0) (.int 1)) (.v 2)) (.v 3)),
    .ifs (.cmp .lt (.v 2) (.int 0)) [
      .ret (.bl false)] []],
  .ret (.ix (.ix (.v 0) (.int 2)) (.v 2))]
def f__law_accepts : Fd := ⟨dfn "_law_accepts" 17, ["_law_machine_here", "_law_word", "_law_state", "_law_letter"], ["_law_machine_here", "_law_word"], .fr, b__law_accepts⟩
def b__law_count : List Mp.S := [
  .set 2 (.dic false [] []),
  .ifs (.cmp .gt (.bi .len [.ix (.v 0) (.int 1)]) (.int 0)) [
    .put 2 [.int 0] (.int 1)] [],
  .for_ (.nm 3) .rng [.v 1] none [
    .set 4 (.dic false [] []),
    .for_ (.nm 5) .seq [.bi .sorted [.v 2]] none [
      .for_ (.nm 6) .seq [.ix (.ix (.v 0) (.int 1)) (.v 5)] none [
        .ifs (.cmp .ge (.v 6) (.int 0)) [
          .put 4 [.v 6] (.bin .add (.me .get2 (.v 4) [.v 6, .int 0]) (.ix (.v 2) (.v 5)))] []]],
    .set 2 (.v 4)],
  .ret (.bi .sum [.lc (.ix (.v 2) (.v 5)) (.nm 5) .seq [.bi .sorted [.v 2]] [.ix (.ix (.v 0) (.int 2)) (.v 5)]])]
def f__law_count : Fd := ⟨dfn "_law_count" 18, ["_law_machine_here", "_law_length", "_law_ways", "_law_k", "_law_after", "_law_state", "_law_target"], ["_law_machine_here", "_law_length"], .fr, b__law_count⟩
def b__law_lengths : List Mp.S := [
  .set 1 (.int 0),
  .for_ (.nm 2) .seq [.lst [.neg (.int 1), .int 101, .int 1000]] none [
    .try_ (Mp.allFr 3) [
      .ex (.call "count_words" [.v 0, .v 2])] (.hd ["NotAllowed"] none [
      .set 1 (.bin .add (.v 1) (.int 1))] .hn)],
  .ret (.cmp .eq (.v 1) (.int 3))]
def f__law_lengths : Fd := ⟨dfn "_law_lengths" 19, ["_law_machine_here", "_law_count_here", "_law_length"], ["_law_machine_here"], .fr, b__law_lengths⟩
def b_law : List Mp.S := [
  .set 1 (.call "_law_numbers" [.v 0, .int 200]),
  .set 2 (.call "_law_machine" [.v 1, .int 20, .bin .mod (.ix (.v 1) (.int 0)) (.int 7), .bin .mod (.ix (.v 1) (.int 1)) (.int 10), .bin .mod (.ix (.v 1) (.int 2)) (.int 4)]),
  .ifs (.cmp .eq (.bin .mod (.ix (.v 1) (.int 3)) (.int 12)) (.int 0)) [
    .set 2 (.call "_law_machine" [.v 1, .int 20, .int 1, .bin .add (.int 399) (.bin .mod (.ix (.v 1) (.int 1)) (.int 2)), .int 0])] [],
  .ifs (.cmp .eq (.bin .mod (.ix (.v 1) (.int 3)) (.int 12)) (.int 1)) [
    .set 2 (.call "_law_machine" [.v 1, .int 20, .bin .add (.int 199) (.bin .mod (.ix (.v 1) (.int 1)) (.int 2)), .int 2, .int 1])] [],
  .ifs (.or [.cmp .isnn (.call "check_machine" [.v 2]) (.non), .not (.call "_law_refused" [.call "_law_bad" [.v 2, .ix (.v 1) (.int 4)]])]) [
    .ret (.bl false)] [],
  .for_ (.nm 3) .rng [.int 6] none [
    .set 4 (.lc (.bin .mod (.bin .fdiv (.ix (.v 1) (.bin .add (.int 5) (.v 3))) (.bin .add (.int 1) (.v 7))) (.bin .add (.ix (.v 2) (.int 0)) (.int 1))) (.nm 7) .rng [.bin .mod (.ix (.v 1) (.bin .add (.int 5) (.v 3))) (.int 13)] []),
    .ifs (.cmp .eq (.bin .mod (.bin .fdiv (.ix (.v 1) (.bin .add (.int 5) (.v 3))) (.int 13)) (.int 6)) (.int 0)) [
      .set 4 (.bin .add (.v 4) (.lst [.neg (.int 1)]))] [],
    .set 5 (.call "accepts" [.v 2, .bi .list [.v 4]]),
    .ifs (.or [.not (.isi (.v 5) [.bool]), .cmp .ne (.v 5) (.call "_law_accepts" [.v 2, .v 4])]) [
      .ret (.bl false)] []],
  .set 6 (.ix (.lst [.bin .mod (.ix (.v 1) (.int 11)) (.int 9), .bin .mod (.ix (.v 1) (.int 11)) (.int 101)]) (.bi .int [.and [.cmp .eq (.bin .mod (.bin .fdiv (.ix (.v 1) (.int 11)) (.int 101)) (.int 5)) (.int 0), .cmp .lt (.bi .len [.ix (.v 2) (.int 1)]) (.int 20)]])),
  .set 5 (.call "count_words" [.v 2, .v 6]),
  .ifs (.or [.isi (.v 5) [.bool], .cmp .ne (.v 5) (.call "_law_count" [.v 2, .v 6]), .not (.call "_law_lengths" [.v 2])]) [
    .ret (.bl false)] [],
  .ret (.cmp .eq (.lst [.g "MAX_SIGNS", .g "MAX_MACHINE", .g "MAX_PAIRS", .g "MAX_COUNT"]) (.lst [.int 200, .int 400, .int 4000, .int 100]))]
def f_law : Fd := ⟨dfn "law" 20, ["_law_script", "_law_numbers_here", "_law_machine_here", "_law_k", "_law_word", "_law_told", "_law_length", "_law_j"], ["_law_script"], .fr, b_law⟩
def P : Pg := ⟨[f_check_machine, f_accepts, f_count_words, f__law_numbers, f__law_machine, f__law_refused, f__law_bad, f__law_accepts, f__law_count, f__law_lengths, f_law], [("MAX_SIGNS", .int 200), ("MAX_MACHINE", .int 400), ("MAX_PAIRS", .int 4000), ("MAX_COUNT", .int 100)], ["DoppelError", "NotAllowed", "TooLarge"], [("DoppelError", "DoppelError"), ("DoppelError", "ValueError"), ("NotAllowed", "NotAllowed"), ("NotAllowed", "DoppelError"), ("NotAllowed", "ValueError"), ("TooLarge", "TooLarge"), ("TooLarge", "DoppelError"), ("TooLarge", "ValueError")]⟩
theorem bd_check_machine : BindOk f_check_machine := fun _ _ _ _ _ _ us hl => match us, hl with | [_], _ => rfl
theorem bd_accepts : BindOk f_accepts := fun _ _ _ _ _ _ us hl => match us, hl with | [_, _], _ => rfl
theorem bd_count_words : BindOk f_count_words := fun _ _ _ _ _ _ us hl => match us, hl with | [_, _], _ => rfl
theorem bd__law_numbers : BindOk f__law_numbers := fun _ _ _ _ _ _ us hl => match us, hl with | [_, _], _ => rfl
theorem bd__law_machine : BindOk f__law_machine := fun _ _ _ _ _ _ us hl => match us, hl with | [_, _, _, _, _], _ => rfl
theorem bd__law_refused : BindOk f__law_refused := fun _ _ _ _ _ _ us hl => match us, hl with | [_], _ => rfl
theorem bd__law_bad : BindOk f__law_bad := fun _ _ _ _ _ _ us hl => match us, hl with | [_, _], _ => rfl
theorem bd__law_accepts : BindOk f__law_accepts := fun _ _ _ _ _ _ us hl => match us, hl with | [_, _], _ => rfl
theorem bd__law_count : BindOk f__law_count := fun _ _ _ _ _ _ us hl => match us, hl with | [_, _], _ => rfl
theorem bd__law_lengths : BindOk f__law_lengths := fun _ _ _ _ _ _ us hl => match us, hl with | [_], _ => rfl
theorem bd_law : BindOk f_law := fun _ _ _ _ _ _ us hl => match us, hl with | [_], _ => rfl
theorem bds : ∀ F ∈ P.fs, BindOk F := by
  intro F hF
  simp only [P, List.mem_cons, List.not_mem_nil, or_false] at hF
  rcases hF with rfl | rfl | rfl | rfl | rfl | rfl | rfl | rfl | rfl | rfl | rfl
  · exact bd_check_machine
  · exact bd_accepts
  · exact bd_count_words
  · exact bd__law_numbers
  · exact bd__law_machine
  · exact bd__law_refused
  · exact bd__law_bad
  · exact bd__law_accepts
  · exact bd__law_count
  · exact bd__law_lengths
  · exact bd_law
end Lw
namespace Lw
open PySem Mp
def mD (L : Int) (rows : List (List Int)) (acc : List Bool) : D := .tup [.int L, .tup (rows.map tI), .tup (acc.map .bl)]
def goodR (L : Int) (n : Nat) (r : List Int) : Bool := decide ((r.length : Int) = L) && r.all fun s => decide (-1 ≤ s ∧ s < n)
def chkB (L : Int) (rows : List (List Int)) (acc : List Bool) : Bool := decide (0 ≤ L ∧ L ≤ 200 ∧ rows.length ≤ 400 ∧ acc.length = rows.length) && rows.all (goodR L rows.length)
def ckBody : List Mp.S := [
    .ifs (.or [.cmp .ne (.bi .len [.v 5]) (.v 1), .not (.bi .all [.lc (.ch .le .lt (.neg (.int 1)) (.v 6) (.v 4)) (.nm 6) .seq [.v 5] []])]) [
      .raise "NotAllowed"] []]
theorem gl_signs {n : Nat} : (P.cs_ n).gl "MAX_SIGNS" = some (.int 200) := by rfl
theorem gl_machine {n : Nat} : (P.cs_ n).gl "MAX_MACHINE" = some (.int 400) := by rfl
theorem gl_count {n : Nat} : (P.cs_ n).gl "MAX_COUNT" = some (.int 100) := by rfl
theorem ck_elt {C : Cs} {a b c d e : Option D} {n s : Int} {r : Mp.Env} : (den C (.ch .le .lt (.neg (.int 1)) (.v 6) (.v 4))).1 (a :: b :: c :: d :: some (.int n) :: e :: some (.int s) :: r) = .ok (.bl (decide (-1 ≤ s ∧ s < n))) (a :: b :: c :: d :: some (.int n) :: e :: some (.int s) :: r) := by
  simp only [dB, dS, seqM, M.bind, M.ret, M.opt, den, dens, val, evs, op1, op2, varM, truthM, andT, orT, andV, orV, notT, negI, getS0, getSs, setS0, setSs, cmpD, ltI, truB, truI, addI, subI, lenL, lenT, lenR, intI, intB, lstL, lstT, tupL, tupT, ixT, ixL, ixR, at0, at1, at2, partM, slD, asg, muM, getPM, setPM, muOk, muF, getP, setP, chM, eqI, eqB, Option.map_some, Option.bind_some, if_true, Bool.false_eq_true, if_false, putM, augD]
  by_cases h : s < -1
  · rw [decide_eq_true h, decide_eq_false (show ¬ (-1 ≤ s ∧ s < n) by omega)]; rfl
  · rw [decide_eq_false h]
    simp only [dB, dS, seqM, M.bind, M.ret, M.opt, den, dens, val, evs, op1, op2, varM, truthM, andT, orT, andV, orV, notT, negI, getS0, getSs, setS0, setSs, cmpD, ltI, truB, truI, addI, subI, lenL, lenT, lenR, intI, intB, lstL, lstT, tupL, tupT, ixT, ixL, ixR, at0, at1, at2, partM, slD, asg, muM, getPM, setPM, muOk, muF, getP, setP, chM, eqI, eqB, Option.map_some, Option.bind_some, if_true, Bool.false_eq_true, if_false, putM, augD, Bool.not_false]
    have h' : -1 ≤ s := by omega
    simp [h']
theorem ck_all {C : Cs} {a b c d o6 : Option D} {n : Int} {r : List Int} (hr : r.length ≤ SZ) : (den C (.not (.bi .all [.lc (.ch .le .lt (.neg (.int 1)) (.v 6) (.v 4)) (.nm 6) .seq [.v 5] []]))).2 [a, b, c, d, some (.int n), some (tI r), o6] = .ok (!(r.all fun s => decide (-1 ≤ s ∧ s < n))) [a, b, c, d, some (.int n), some (tI r), none] := by
  have hl := lc_val (C := C) (elt := .ch .le .lt (.neg (.int 1)) (.v 6) (.v 4)) (t := .nm 6) (k := .seq) (ia := [.v 5]) (c := []) (e := [a, b, c, d, some (.int n), some (tI r), o6]) (e1 := [a, b, c, d, some (.int n), some (tI r), o6]) (as := [tI r]) (ds := r.map .int)
    (ys := (r.map fun s => decide (-1 ≤ s ∧ s < n)).map .bl) (by simp only [dB, dS, seqM, M.bind, M.ret, M.opt, den, dens, val, evs, op1, op2, varM, truthM, andT, orT, andV, orV, notT, negI, getS0, getSs, setS0, setSs, cmpD, ltI, truB, truI, addI, subI, lenL, lenT, lenR, intI, intB, lstL, lstT, tupL, tupT, ixT, ixL, ixR, at0, at1, at2, partM, slD, asg, muM, getPM, setPM, muOk, muF, getP, setP, chM, eqI, eqB, Option.map_some, Option.bind_some, if_true, Bool.false_eq_true, if_false, putM, augD]) rfl (by simpa using hr) (by
      rw [show cM (dens C []) = M.ret true from rfl]
      rw [lcL_map (g := fun d => match d with | .int s => .bl (decide (-1 ≤ s ∧ s < n)) | d => d)]
      · simp only [List.map_map]; rfl
      · intro d hd
        obtain ⟨s, _, rfl⟩ := List.mem_map.mp hd
        exact ⟨_, rfl, _, ck_elt (r := [])⟩)
  have e1 : wipeE [a, b, c, d, some (.int n), some (tI r), o6] (T.nm 6).slots = [a, b, c, d, some (.int n), some (tI r), none] := rfl
  rw [e1] at hl
  have h2 : (den C (.bi .all [.lc (.ch .le .lt (.neg (.int 1)) (.v 6) (.v 4)) (.nm 6) .seq [.v 5] []])).1 [a, b, c, d, some (.int n), some (tI r), o6] = .ok (.bl (r.all fun s => decide (-1 ≤ s ∧ s < n))) [a, b, c, d, some (.int n), some (tI r), none] := by
    rw [den]
    simp only [val, dens, evs, M.bind, hl, M.ret, M.opt, bF, bools_map, Option.map_some, List.all_map]
    rfl
  have h3 : ∀ x : E, ∀ b e e1, (den C x).1 e = .ok (.bl b) e1 → (den C x).2 e = .ok b e1 → (den C (.not x)).2 e = .ok (!b) e1 := fun x b e e1 _ h => by
    simp only [den, notT, M.bind, h, M.ret]
  refine h3 _ _ _ _ h2 ?_
  have h4 : (den C (.bi .all [.lc (.ch .le .lt (.neg (.int 1)) (.v 6) (.v 4)) (.nm 6) .seq [.v 5] []])).2 = truthM (den C (.bi .all [.lc (.ch .le .lt (.neg (.int 1)) (.v 6) (.v 4)) (.nm 6) .seq [.v 5] []])).1 := by simp only [den, val]
  rw [h4]
  simp only [truthM, M.bind, h2, M.opt, truB]

theorem ck_step {C : Cs} {a c d o6 : Option D} {n : Nat} {L : Int} {r : List Int} (hL : L ≤ 200) : ∃ e6, (goodR L n r = true → dB C ckBody [a, some (.int L), c, d, some (.int n), some (tI r), o6] = .ok .nx [a, some (.int L), c, d, some (.int n), some (tI r), e6]) ∧
    (goodR L n r = false → dB C ckBody [a, some (.int L), c, d, some (.int n), some (tI r), o6] = .ex "NotAllowed" [a, some (.int L), c, d, some (.int n), some (tI r), e6]) := by
  have h1 : (den C (.cmp .ne (.bi .len [.v 5]) (.v 1))).2 [a, some (.int L), c, d, some (.int n), some (tI r), o6] = .ok (!decide ((r.length : Int) = L)) [a, some (.int L), c, d, some (.int n), some (tI r), o6] := by
    simp only [dB, dS, seqM, M.bind, M.ret, M.opt, den, dens, val, evs, op1, op2, varM, truthM, andT, orT, andV, orV, notT, negI, getS0, getSs, setS0, setSs, cmpD, ltI, truB, truI, addI, subI, lenL, lenT, lenR, intI, intB, lstL, lstT, tupL, tupT, ixT, ixL, ixR, at0, at1, at2, partM, slD, asg, muM, getPM, setPM, muOk, muF, getP, setP, chM, eqI, eqB, Option.map_some, Option.bind_some, if_true, Bool.false_eq_true, if_false, putM, augD, List.length_map]
  by_cases hr : (r.length : Int) = L
  · have h2 := ck_all (C := C) (a := a) (b := some (.int L)) (c := c) (d := d) (o6 := o6) (n := n) (r := r) (by rw [SZ_big]; omega)
    rw [decide_eq_true hr] at h1
    have h3 : (den C (.or [.cmp .ne (.bi .len [.v 5]) (.v 1), .not (.bi .all [.lc (.ch .le .lt (.neg (.int 1)) (.v 6) (.v 4)) (.nm 6) .seq [.v 5] []])])).2 [a, some (.int L), c, d, some (.int n), some (tI r), o6] = .ok (!(r.all fun s => decide (-1 ≤ s ∧ s < n))) [a, some (.int L), c, d, some (.int n), some (tI r), none] := by
      rw [den, dens, dens, dens]
      simp only [orT, M.bind, h1, Bool.not_true, Bool.false_eq_true, if_false, h2]
    have e : goodR L n r = r.all fun s => decide (-1 ≤ s ∧ s < n) := by unfold goodR; rw [decide_eq_true hr, Bool.true_and]
    rw [e]
    refine ⟨none, fun hh => ?_, fun hh => ?_⟩
    · rw [hh] at h3
      exact dB_cons ((dS_if h3).trans (by rw [if_neg (by decide)]; exact dB_nil)) dB_nil
    · rw [hh] at h3
      exact dB_cex (if_t h3 raise1)
  · rw [decide_eq_false hr] at h1
    have h3 : (den C (.or [.cmp .ne (.bi .len [.v 5]) (.v 1), .not (.bi .all [.lc (.ch .le .lt (.neg (.int 1)) (.v 6) (.v 4)) (.nm 6) .seq [.v 5] []])])).2 [a, some (.int L), c, d, some (.int n), some (tI r), o6] = .ok true [a, some (.int L), c, d, some (.int n), some (tI r), o6] := by
      rw [den, dens, dens, dens]
      simp only [orT, M.bind, h1, Bool.not_false, if_true, M.ret]
    have e : goodR L n r = false := by unfold goodR; rw [decide_eq_false hr, Bool.false_and]
    rw [e]
    refine ⟨o6, fun hh => absurd hh (by decide), fun _ => ?_⟩
    exact dB_cex (if_t h3 raise1)
theorem ck_loop {C : Cs} {a c d : Option D} {n : Nat} {L : Int} (hL : L ≤ 200) : ∀ (rows : List (List Int)) (o5 o6 : Option D), ∃ p5 p6, (rows.all (goodR L n) = true → forL (fun _ => true) (.nm 5) (dB C ckBody) (rows.map tI) [a, some (.int L), c, d, some (.int n), o5, o6] = .ok .nx [a, some (.int L), c, d, some (.int n), p5, p6]) ∧
    (rows.all (goodR L n) = false → forL (fun _ => true) (.nm 5) (dB C ckBody) (rows.map tI) [a, some (.int L), c, d, some (.int n), o5, o6] = .ex "NotAllowed" [a, some (.int L), c, d, some (.int n), p5, p6])
  | [], o5, o6 => ⟨o5, o6, fun _ => rfl, fun h => by cases h⟩
  | r :: rows, o5, o6 => by
    obtain ⟨e6, h1, h2⟩ := ck_step (C := C) (a := a) (c := c) (d := d) (o6 := o6) (n := n) (r := r) hL
    have ha : asg (.nm 5) (tI r) [a, some (.int L), c, d, some (.int n), o5, o6] = some [a, some (.int L), c, d, some (.int n), some (tI r), o6] := rfl
    cases hg : goodR L n r with
    | true =>
      obtain ⟨p5, p6, g1, g2⟩ := ck_loop (C := C) (a := a) (c := c) (d := d) (n := n) hL rows (some (tI r)) e6
      refine ⟨p5, p6, fun hh => ?_, fun hh => ?_⟩
      · simp only [List.all_cons, hg, Bool.true_and] at hh
        simp only [List.map_cons, forL, if_true, ha, h1 hg]
        exact g1 hh
      · simp only [List.all_cons, hg, Bool.true_and] at hh
        simp only [List.map_cons, forL, if_true, ha, h1 hg]
        exact g2 hh
    | false =>
      refine ⟨some (tI r), e6, fun hh => by simp [hg] at hh, fun _ => ?_⟩
      simp only [List.map_cons, forL, if_true, ha, h2 hg]
theorem find_check : P.find f_check_machine.d.name = some f_check_machine := by kernel_rfl
theorem check_ok {n : Nat} {L : Int} {rows : List (List Int)} {acc : List Bool} : (chkB L rows acc = true → ∃ ls, P.call (n + 1) "check_machine" [mD L rows acc] = .ok .non ls) ∧ (chkB L rows acc = false → P.call (n + 1) "check_machine" [mD L rows acc] = .ex "NotAllowed") := by
  let E0 : Mp.Env := [some (mD L rows acc), none, none, none, none, none, none]
  let E1 : Mp.Env := [some (mD L rows acc), some (.int L), some (.tup (rows.map tI)), some (.tup (acc.map .bl)), none, none, none]
  let E2 : Mp.Env := [some (mD L rows acc), some (.int L), some (.tup (rows.map tI)), some (.tup (acc.map .bl)), some (.int rows.length), none, none]
  have s1 : dS (P.cs_ n) (.ifs (.cmp .ne (.bi .len [.v 0]) (.int 3)) [.raise "NotAllowed"] []) E0 = .ok .nx E0 := by
    have h : (den (P.cs_ n) (.cmp .ne (.bi .len [.v 0]) (.int 3))).2 E0 = .ok false E0 := by
      simp only [E0, mD, dB, dS, seqM, M.bind, M.ret, M.opt, den, dens, val, evs, op1, op2, varM, truthM, andT, orT, andV, orV, notT, negI, getS0, getSs, setS0, setSs, cmpD, ltI, truB, truI, addI, subI, lenL, lenT, lenR, intI, intB, lstL, lstT, tupL, tupT, ixT, ixL, ixR, at0, at1, at2, partM, slD, asg, muM, getPM, setPM, muOk, muF, getP, setP, chM, eqI, eqB, Option.map_some, Option.bind_some, if_true, Bool.false_eq_true, if_false, putM, augD, List.length_cons, List.length_nil]
      rfl
    exact (dS_if h).trans (by rw [if_neg (by decide)]; exact dB_nil)
  have s2 : dS (P.cs_ n) (.tgt [1, 2, 3] (.v 0)) E0 = .ok .nx E1 := dS_tgt (d := mD L rows acc) (e1 := E0) rfl rfl
  have s3 : dS (P.cs_ n) (.set 4 (.bi .len [.v 2])) E1 = .ok .nx E2 := dS_set (d := .int rows.length) (e1 := E1) (by simp only [E1, dB, dS, seqM, M.bind, M.ret, M.opt, den, dens, val, evs, op1, op2, varM, truthM, andT, orT, andV, orV, notT, negI, getS0, getSs, setS0, setSs, cmpD, ltI, truB, truI, addI, subI, lenL, lenT, lenR, intI, intB, lstL, lstT, tupL, tupT, ixT, ixL, ixR, at0, at1, at2, partM, slD, asg, muM, getPM, setPM, muOk, muF, getP, setP, chM, eqI, eqB, Option.map_some, Option.bind_some, if_true, Bool.false_eq_true, if_false, putM, augD, List.length_map])
  have h4 : (den (P.cs_ n) (.or [.cmp .lt (.v 1) (.int 0), .cmp .gt (.v 1) (.g "MAX_SIGNS"), .cmp .gt (.v 4) (.g "MAX_MACHINE"), .cmp .ne (.bi .len [.v 3]) (.v 4)])).2 E2 = .ok (!decide (0 ≤ L ∧ L ≤ 200 ∧ rows.length ≤ 400 ∧ acc.length = rows.length)) E2 := by
    have t1 : (den (P.cs_ n) (.cmp .lt (.v 1) (.int 0))).2 E2 = .ok (decide (L < 0)) E2 := by simp only [E2, dB, dS, seqM, M.bind, M.ret, M.opt, den, dens, val, evs, op1, op2, varM, truthM, andT, orT, andV, orV, notT, negI, getS0, getSs, setS0, setSs, cmpD, ltI, truB, truI, addI, subI, lenL, lenT, lenR, intI, intB, lstL, lstT, tupL, tupT, ixT, ixL, ixR, at0, at1, at2, partM, slD, asg, muM, getPM, setPM, muOk, muF, getP, setP, chM, eqI, eqB, Option.map_some, Option.bind_some, if_true, Bool.false_eq_true, if_false, putM, augD]
    have t2 : (den (P.cs_ n) (.cmp .gt (.v 1) (.g "MAX_SIGNS"))).2 E2 = .ok (decide (200 < L)) E2 := by simp only [E2, dB, dS, seqM, M.bind, M.ret, M.opt, den, dens, val, evs, op1, op2, varM, truthM, andT, orT, andV, orV, notT, negI, getS0, getSs, setS0, setSs, cmpD, ltI, truB, truI, addI, subI, lenL, lenT, lenR, intI, intB, lstL, lstT, tupL, tupT, ixT, ixL, ixR, at0, at1, at2, partM, slD, asg, muM, getPM, setPM, muOk, muF, getP, setP, chM, eqI, eqB, Option.map_some, Option.bind_some, if_true, Bool.false_eq_true, if_false, putM, augD, gl_signs]
    have t3 : (den (P.cs_ n) (.cmp .gt (.v 4) (.g "MAX_MACHINE"))).2 E2 = .ok (decide ((400 : Int) < rows.length)) E2 := by simp only [E2, dB, dS, seqM, M.bind, M.ret, M.opt, den, dens, val, evs, op1, op2, varM, truthM, andT, orT, andV, orV, notT, negI, getS0, getSs, setS0, setSs, cmpD, ltI, truB, truI, addI, subI, lenL, lenT, lenR, intI, intB, lstL, lstT, tupL, tupT, ixT, ixL, ixR, at0, at1, at2, partM, slD, asg, muM, getPM, setPM, muOk, muF, getP, setP, chM, eqI, eqB, Option.map_some, Option.bind_some, if_true, Bool.false_eq_true, if_false, putM, augD, gl_machine]
    have t4 : (den (P.cs_ n) (.cmp .ne (.bi .len [.v 3]) (.v 4))).2 E2 = .ok (!decide ((acc.length : Int) = rows.length)) E2 := by simp only [E2, dB, dS, seqM, M.bind, M.ret, M.opt, den, dens, val, evs, op1, op2, varM, truthM, andT, orT, andV, orV, notT, negI, getS0, getSs, setS0, setSs, cmpD, ltI, truB, truI, addI, subI, lenL, lenT, lenR, intI, intB, lstL, lstT, tupL, tupT, ixT, ixL, ixR, at0, at1, at2, partM, slD, asg, muM, getPM, setPM, muOk, muF, getP, setP, chM, eqI, eqB, Option.map_some, Option.bind_some, if_true, Bool.false_eq_true, if_false, putM, augD, List.length_map]
    rw [orP (List.cons_ne_nil _ _) (EvT.cons t1 (EvT.cons t2 (EvT.cons t3 (EvT.cons t4 EvT.nil))))]
    congr 1
    by_cases c1 : L < 0 <;> by_cases c2 : 200 < L <;> by_cases c3 : (400 : Int) < rows.length <;> by_cases c4 : (acc.length : Int) = rows.length <;> simp [c1, c2, c3, c4] <;> omega
  have hcall : ∀ r, dB (P.cs_ n) b_check_machine E0 = r → dB (P.cs_ n) f_check_machine.body ([mD L rows acc].map some ++ List.replicate (f_check_machine.N.length - f_check_machine.ps.length) none) = r := fun r h => h
  have hbody : ∀ r, (dB (P.cs_ n) [.ifs (.or [.cmp .lt (.v 1) (.int 0), .cmp .gt (.v 1) (.g "MAX_SIGNS"), .cmp .gt (.v 4) (.g "MAX_MACHINE"), .cmp .ne (.bi .len [.v 3]) (.v 4)]) [.raise "NotAllowed"] [], .for_ (.nm 5) .seq [.v 2] none ckBody] E2 = r) → dB (P.cs_ n) b_check_machine E0 = r := fun r h => dB_cons s1 (dB_cons s2 (dB_cons s3 h))
  by_cases hd : 0 ≤ L ∧ L ≤ 200 ∧ rows.length ≤ 400 ∧ acc.length = rows.length
  · rw [decide_eq_true hd] at h4
    have s4 : dS (P.cs_ n) (.ifs (.or [.cmp .lt (.v 1) (.int 0), .cmp .gt (.v 1) (.g "MAX_SIGNS"), .cmp .gt (.v 4) (.g "MAX_MACHINE"), .cmp .ne (.bi .len [.v 3]) (.v 4)]) [.raise "NotAllowed"] []) E2 = .ok .nx E2 :=
      (dS_if h4).trans (by rw [if_neg (by decide)]; exact dB_nil)
    have e : chkB L rows acc = rows.all (goodR L rows.length) := by unfold chkB; rw [decide_eq_true hd, Bool.true_and]
    have s5 : dS (P.cs_ n) (.for_ (.nm 5) .seq [.v 2] none ckBody) E2 = forL (fun _ => true) (.nm 5) (dB (P.cs_ n) ckBody) (rows.map tI) E2 := dS_for (as := [.tup (rows.map tI)]) (by simp only [E2, dB, dS, seqM, M.bind, M.ret, M.opt, den, dens, val, evs, op1, op2, varM, truthM, andT, orT, andV, orV, notT, negI, getS0, getSs, setS0, setSs, cmpD, ltI, truB, truI, addI, subI, lenL, lenT, lenR, intI, intB, lstL, lstT, tupL, tupT, ixT, ixL, ixR, at0, at1, at2, partM, slD, asg, muM, getPM, setPM, muOk, muF, getP, setP, chM, eqI, eqB, Option.map_some, Option.bind_some, if_true, Bool.false_eq_true, if_false, putM, augD]) rfl
    obtain ⟨p5, p6, g1, g2⟩ := ck_loop (C := P.cs_ n) (a := some (mD L rows acc)) (c := some (.tup (rows.map tI))) (d := some (.tup (acc.map .bl))) (n := rows.length) hd.2.1 rows none none
    rw [e]
    exact ⟨fun h => call_nx find_check rfl (hcall _ (hbody _ (dB_cons s4 (dB_cons (s5.trans (g1 h)) dB_nil)))), fun h => call_ex find_check rfl (hcall _ (hbody _ (dB_cons s4 (dB_cex (s5.trans (g2 h))))))⟩
  · rw [decide_eq_false hd] at h4
    have e : chkB L rows acc = false := by unfold chkB; rw [decide_eq_false hd, Bool.false_and]
    rw [e]
    exact ⟨fun h => absurd h (by decide), fun _ => call_ex find_check rfl (hcall _ (hbody _ (dB_cex (if_t h4 raise1))))⟩
end Lw
namespace Lw
open PySem Mp
/-- a sound machine -/
structure Vm (L : Int) (rows : List (List Int)) (acc : List Bool) : Prop where
  l0 : 0 ≤ L
  l2 : L ≤ 200
  n4 : rows.length ≤ 400
  al : acc.length = rows.length
  rw : ∀ r ∈ rows, (r.length : Int) = L ∧ ∀ s ∈ r, -1 ≤ s ∧ s < rows.length
theorem Vm.chk {L : Int} {rows : List (List Int)} {acc : List Bool} (h : Vm L rows acc) : chkB L rows acc = true := by
  unfold chkB
  rw [decide_eq_true ⟨h.l0, h.l2, h.n4, h.al⟩, Bool.true_and, List.all_eq_true]
  intro r hr
  unfold goodR
  rw [decide_eq_true (h.rw r hr).1, Bool.true_and, List.all_eq_true]
  intro s hs
  exact decide_eq_true ((h.rw r hr).2 s hs)
/-- the move -/
def nxt (rows : List (List Int)) (s a : Int) : Int := ((rows[s.toNat]?.getD [])[a.toNat]?).getD 0
section
variable {L : Int} {rows : List (List Int)} {acc : List Bool} {C : Cs}
theorem row_at (s : Int) (h0 : 0 ≤ s) (h1 : s < rows.length) : L2.atI (rows.map tI) s = some (tI (rows[s.toNat]?.getD [])) ∧ (rows[s.toNat]?.getD []) ∈ rows := by
  obtain ⟨k, rfl⟩ := Int.eq_ofNat_of_zero_le h0
  have hk : k < rows.length := by omega
  refine ⟨?_, ?_⟩
  · rw [atI_nat (by simpa using hk)]
    simp [hk]
  · simp [hk]
theorem cell_at (v : Vm L rows acc) {s a : Int} (h0 : 0 ≤ s) (h1 : s < rows.length) (a0 : 0 ≤ a) (a1 : a < L) : L2.atI (((rows[s.toNat]?.getD [])).map D.int) a = some (.int (nxt rows s a)) ∧ -1 ≤ nxt rows s a ∧ nxt rows s a < rows.length := by
  obtain ⟨_, hm⟩ := row_at s h0 h1
  have hr := v.rw _ hm
  obtain ⟨k, rfl⟩ := Int.eq_ofNat_of_zero_le a0
  have hk : k < (rows[s.toNat]?.getD []).length := by omega
  have e : nxt rows s k = (rows[s.toNat]?.getD [])[k] := by
    unfold nxt
    simp only [Int.toNat_natCast]
    rw [List.getElem?_eq_getElem hk]
    rfl
  refine ⟨by rw [atI_map hk, e], ?_⟩
  rw [e]
  exact hr.2 _ (List.getElem_mem hk)
theorem acc_at (v : Vm L rows acc) {s : Int} (h0 : 0 ≤ s) (h1 : s < rows.length) : L2.atI (acc.map D.bl) s = some (.bl (acc[s.toNat]?.getD false)) := by
  obtain ⟨k, rfl⟩ := Int.eq_ofNat_of_zero_le h0
  have hk : k < acc.length := by rw [v.al]; omega
  rw [atI_nat (by simpa using hk)]
  simp [hk]
def runF (L : Int) (rows : List (List Int)) : Int → List Int → Option Int
  | s, [] => some s
  | s, a :: w => if a < 0 ∨ L ≤ a then none else if nxt rows s a < 0 then none else runF L rows (nxt rows s a) w
def accF (L : Int) (rows : List (List Int)) (acc : List Bool) (w : List Int) : Bool := if rows.length = 0 then false else match runF L rows 0 w with
  | none => false
  | some s => acc[s.toNat]?.getD false
/-! ### accepts -/
def acBody : List Mp.S := [
    .ifs (.or [.cmp .lt (.v 6) (.int 0), .cmp .ge (.v 6) (.v 2), .cmp .lt (.ix (.ix (.v 3) (.v 5)) (.v 6)) (.int 0)]) [
      .ret (.bl false)] [],
    .set 5 (.ix (.ix (.v 3) (.v 5)) (.v 6))]
theorem retB {C : Cs} {b : Bool} {e : Mp.Env} {ss : List Mp.S} : dB C (.ret (.bl b) :: ss) e = .ok (.rt (.bl b)) e := dB_ret (dS_ret (by simp only [dB, dS, seqM, M.bind, M.ret, M.opt, den, dens, val, evs, op1, op2, varM, truthM, andT, orT, andV, orV, notT, negI, getS0, getSs, setS0, setSs, cmpD, ltI, truB, truI, addI, subI, lenL, lenT, lenR, intI, intB, lstL, lstT, tupL, tupT, ixT, ixL, ixR, at0, at1, at2, partM, slD, asg, muM, getPM, setPM, muOk, muF, getP, setP, chM, eqI, eqB, Option.map_some, Option.bind_some, if_true, Bool.false_eq_true, if_false, putM, augD]))
theorem ac_loop (v : Vm L rows acc) {m wd aa : Option D} : ∀ (w : List Int) (s : Int) (o6 : Option D), 0 ≤ s → s < rows.length →
    (runF L rows s w = none → ∃ e, forL (fun _ => true) (.nm 6) (dB C acBody) (w.map .int) [m, wd, some (.int L), some (.tup (rows.map tI)), aa, some (.int s), o6] = .ok (.rt (.bl false)) e) ∧
    (∀ s', runF L rows s w = some s' → 0 ≤ s' ∧ s' < rows.length ∧ ∃ p6, forL (fun _ => true) (.nm 6) (dB C acBody) (w.map .int) [m, wd, some (.int L), some (.tup (rows.map tI)), aa, some (.int s), o6] = .ok .nx [m, wd, some (.int L), some (.tup (rows.map tI)), aa, some (.int s'), p6])
  | [], s, o6, h0, h1 => ⟨fun h => absurd h (by simp [runF]), fun s' h => (by simp only [runF, Option.some.injEq] at h; subst h; exact ⟨h0, h1, o6, rfl⟩)⟩
  | a :: w, s, o6, h0, h1 => by
    let E : Mp.Env := [m, wd, some (.int L), some (.tup (rows.map tI)), aa, some (.int s), some (.int a)]
    have ha : asg (.nm 6) (.int a) [m, wd, some (.int L), some (.tup (rows.map tI)), aa, some (.int s), o6] = some E := rfl
    have t1 : (den C (.cmp .lt (.v 6) (.int 0))).2 E = .ok (decide (a < 0)) E := by simp only [E, dB, dS, seqM, M.bind, M.ret, M.opt, den, dens, val, evs, op1, op2, varM, truthM, andT, orT, andV, orV, notT, negI, getS0, getSs, setS0, setSs, cmpD, ltI, truB, truI, addI, subI, lenL, lenT, lenR, intI, intB, lstL, lstT, tupL, tupT, ixT, ixL, ixR, at0, at1, at2, partM, slD, asg, muM, getPM, setPM, muOk, muF, getP, setP, chM, eqI, eqB, Option.map_some, Option.bind_some, if_true, Bool.false_eq_true, if_false, putM, augD]
    have t2 : (den C (.cmp .ge (.v 6) (.v 2))).2 E = .ok (!decide (a < L)) E := by simp only [E, dB, dS, seqM, M.bind, M.ret, M.opt, den, dens, val, evs, op1, op2, varM, truthM, andT, orT, andV, orV, notT, negI, getS0, getSs, setS0, setSs, cmpD, ltI, truB, truI, addI, subI, lenL, lenT, lenR, intI, intB, lstL, lstT, tupL, tupT, ixT, ixL, ixR, at0, at1, at2, partM, slD, asg, muM, getPM, setPM, muOk, muF, getP, setP, chM, eqI, eqB, Option.map_some, Option.bind_some, if_true, Bool.false_eq_true, if_false, putM, augD]
    by_cases hb : a < 0 ∨ L ≤ a
    · have hor : (den C (.or [.cmp .lt (.v 6) (.int 0), .cmp .ge (.v 6) (.v 2), .cmp .lt (.ix (.ix (.v 3) (.v 5)) (.v 6)) (.int 0)])).2 E = .ok true E := by
        by_cases h : a < 0
        · rw [decide_eq_true h] at t1
          exact or_t t1
        · rw [decide_eq_false h] at t1
          rw [decide_eq_false (show ¬ a < L by omega)] at t2
          exact (or_f t1).trans (or_t t2)
      refine ⟨fun _ => ⟨E, ?_⟩, fun s' h => by simp [runF, hb] at h⟩
      simp only [List.map_cons, forL, if_true, ha]
      rw [show dB C acBody E = .ok (.rt (.bl false)) E from dB_ret (if_t hor retB)]
    · have a0 : 0 ≤ a := by omega
      have a1 : a < L := by omega
      obtain ⟨c1, c2, c3⟩ := cell_at v h0 h1 a0 a1
      have hx : (den C (.ix (.ix (.v 3) (.v 5)) (.v 6))).1 E = .ok (.int (nxt rows s a)) E := by
        simp only [E, dB, dS, seqM, M.bind, M.ret, M.opt, den, dens, val, evs, op1, op2, varM, truthM, andT, orT, andV, orV, notT, negI, getS0, getSs, setS0, setSs, cmpD, ltI, truB, truI, addI, subI, lenL, lenT, lenR, intI, intB, lstL, lstT, tupL, tupT, ixT, ixL, ixR, at0, at1, at2, partM, slD, asg, muM, getPM, setPM, muOk, muF, getP, setP, chM, eqI, eqB, Option.map_some, Option.bind_some, if_true, Bool.false_eq_true, if_false, putM, augD, (row_at s h0 h1).1, c1]
      have t3 : (den C (.cmp .lt (.ix (.ix (.v 3) (.v 5)) (.v 6)) (.int 0))).2 E = .ok (decide (nxt rows s a < 0)) E := by
        simp only [E, dB, dS, seqM, M.bind, M.ret, M.opt, den, dens, val, evs, op1, op2, varM, truthM, andT, orT, andV, orV, notT, negI, getS0, getSs, setS0, setSs, cmpD, ltI, truB, truI, addI, subI, lenL, lenT, lenR, intI, intB, lstL, lstT, tupL, tupT, ixT, ixL, ixR, at0, at1, at2, partM, slD, asg, muM, getPM, setPM, muOk, muF, getP, setP, chM, eqI, eqB, Option.map_some, Option.bind_some, if_true, Bool.false_eq_true, if_false, putM, augD, (row_at s h0 h1).1, c1]
      have hor : (den C (.or [.cmp .lt (.v 6) (.int 0), .cmp .ge (.v 6) (.v 2), .cmp .lt (.ix (.ix (.v 3) (.v 5)) (.v 6)) (.int 0)])).2 E = .ok (decide (nxt rows s a < 0)) E := by
        rw [orP (List.cons_ne_nil _ _) (EvT.cons t1 (EvT.cons t2 (EvT.cons t3 EvT.nil)))]
        have : ¬ a < 0 := by omega
        simp [this, a1]
      by_cases hn : nxt rows s a < 0
      · rw [decide_eq_true hn] at hor
        refine ⟨fun _ => ⟨E, ?_⟩, fun s' h => by simp [runF, hb, hn] at h⟩
        simp only [List.map_cons, forL, if_true, ha]
        rw [show dB C acBody E = .ok (.rt (.bl false)) E from dB_ret (if_t hor retB)]
      · rw [decide_eq_false hn] at hor
        have hbod : dB C acBody E = .ok .nx [m, wd, some (.int L), some (.tup (rows.map tI)), aa, some (.int (nxt rows s a)), some (.int a)] :=
          dB_cons (if_f hor dB_nil) (dB_cons (dS_set hx) dB_nil)
        obtain ⟨g1, g2⟩ := ac_loop v w (nxt rows s a) (some (.int a)) (by omega) c3
        have er : runF L rows s (a :: w) = runF L rows (nxt rows s a) w := by simp [runF, hb, hn]
        rw [er]
        simp only [List.map_cons, forL, if_true, ha, hbod]
        exact ⟨g1, g2⟩
theorem find_acc : P.find f_accepts.d.name = some f_accepts := by kernel_rfl
theorem accepts_ok (v : Vm L rows acc) {n : Nat} {w : List Int} : ∃ ls, P.call (n + 1) "accepts" [mD L rows acc, lI w] = .ok (.bl (accF L rows acc w)) ls := by
  let E1 : Mp.Env := [some (mD L rows acc), some (lI w), some (.int L), some (.tup (rows.map tI)), some (.tup (acc.map .bl)), none, none]
  have s1 : dS (P.cs_ n) (.tgt [2, 3, 4] (.v 0)) [some (mD L rows acc), some (lI w), none, none, none, none, none] = .ok .nx E1 := dS_tgt (d := mD L rows acc) (e1 := [some (mD L rows acc), some (lI w), none, none, none, none, none]) rfl rfl
  have t1 : (den (P.cs_ n) (.cmp .eq (.bi .len [.v 3]) (.int 0))).2 E1 = .ok (decide ((rows.length : Int) = 0)) E1 := by simp only [E1, dB, dS, seqM, M.bind, M.ret, M.opt, den, dens, val, evs, op1, op2, varM, truthM, andT, orT, andV, orV, notT, negI, getS0, getSs, setS0, setSs, cmpD, ltI, truB, truI, addI, subI, lenL, lenT, lenR, intI, intB, lstL, lstT, tupL, tupT, ixT, ixL, ixR, at0, at1, at2, partM, slD, asg, muM, getPM, setPM, muOk, muF, getP, setP, chM, eqI, eqB, Option.map_some, Option.bind_some, if_true, Bool.false_eq_true, if_false, putM, augD, List.length_map]
  by_cases hz : rows.length = 0
  · rw [decide_eq_true (show (rows.length : Int) = 0 by omega)] at t1
    have : accF L rows acc w = false := by unfold accF; rw [if_pos hz]
    rw [this]
    exact call_rt find_acc rfl (e := E1) (dB_cons s1 (dB_ret (if_t t1 retB)))
  · rw [decide_eq_false (show ¬ (rows.length : Int) = 0 by omega)] at t1
    let E2 : Mp.Env := [some (mD L rows acc), some (lI w), some (.int L), some (.tup (rows.map tI)), some (.tup (acc.map .bl)), some (.int 0), none]
    have s3 : dS (P.cs_ n) (.set 5 (.int 0)) E1 = .ok .nx E2 := dS_set (d := .int 0) (e1 := E1) (by simp only [dB, dS, seqM, M.bind, M.ret, M.opt, den, dens, val, evs, op1, op2, varM, truthM, andT, orT, andV, orV, notT, negI, getS0, getSs, setS0, setSs, cmpD, ltI, truB, truI, addI, subI, lenL, lenT, lenR, intI, intB, lstL, lstT, tupL, tupT, ixT, ixL, ixR, at0, at1, at2, partM, slD, asg, muM, getPM, setPM, muOk, muF, getP, setP, chM, eqI, eqB, Option.map_some, Option.bind_some, if_true, Bool.false_eq_true, if_false, putM, augD])
    have s4 : dS (P.cs_ n) (.for_ (.nm 6) .seq [.v 1] none acBody) E2 = forL (fun _ => true) (.nm 6) (dB (P.cs_ n) acBody) (w.map .int) E2 := dS_for (as := [lI w]) (by simp only [E2, dB, dS, seqM, M.bind, M.ret, M.opt, den, dens, val, evs, op1, op2, varM, truthM, andT, orT, andV, orV, notT, negI, getS0, getSs, setS0, setSs, cmpD, ltI, truB, truI, addI, subI, lenL, lenT, lenR, intI, intB, lstL, lstT, tupL, tupT, ixT, ixL, ixR, at0, at1, at2, partM, slD, asg, muM, getPM, setPM, muOk, muF, getP, setP, chM, eqI, eqB, Option.map_some, Option.bind_some, if_true, Bool.false_eq_true, if_false, putM, augD]) rfl
    obtain ⟨g1, g2⟩ := ac_loop (C := P.cs_ n) v (m := some (mD L rows acc)) (wd := some (lI w)) (aa := some (.tup (acc.map .bl))) w 0 none (by omega) (by omega)
    unfold accF
    rw [if_neg hz]
    cases hr : runF L rows 0 w with
    | none =>
      obtain ⟨e, g⟩ := g1 hr
      exact call_rt find_acc rfl (e := e) (dB_cons s1 (dB_cons (if_f t1 dB_nil) (dB_cons s3 (dB_ret (s4.trans g)))))
    | some s' =>
      obtain ⟨q0, q1, p6, g⟩ := g2 s' hr
      refine call_rt find_acc rfl (e := [some (mD L rows acc), some (lI w), some (.int L), some (.tup (rows.map tI)), some (.tup (acc.map .bl)), some (.int s'), p6]) (dB_cons s1 (dB_cons (if_f t1 dB_nil) (dB_cons s3 (dB_cons (s4.trans g) (dB_ret (dS_ret ?_))))))
      simp only [dB, dS, seqM, M.bind, M.ret, M.opt, den, dens, val, evs, op1, op2, varM, truthM, andT, orT, andV, orV, notT, negI, getS0, getSs, setS0, setSs, cmpD, ltI, truB, truI, addI, subI, lenL, lenT, lenR, intI, intB, lstL, lstT, tupL, tupT, ixT, ixL, ixR, at0, at1, at2, partM, slD, asg, muM, getPM, setPM, muOk, muF, getP, setP, chM, eqI, eqB, Option.map_some, Option.bind_some, if_true, Bool.false_eq_true, if_false, putM, augD, acc_at v q0 q1]
/-! ### the law's own -/
def laBody : List Mp.S := [
    .ifs (.or [.cmp .lt (.v 3) (.int 0), .cmp .ge (.v 3) (.ix (.v 0) (.int 0))]) [
      .ret (.bl false)] [],
    .set 2 (.ix (.ix (.ix (.v 0) (.int 1)) (.v 2)) (.v 3)),
    .ifs (.cmp .lt (.v 2) (.int 0)) [
      .ret (.bl false)] []]
theorem la_loop (v : Vm L rows acc) {wd : Option D} : ∀ (w : List Int) (s : Int) (o3 : Option D), 0 ≤ s → s < rows.length →
    (runF L rows s w = none → ∃ e, forL (fun _ => true) (.nm 3) (dB C laBody) (w.map .int) [some (mD L rows acc), wd, some (.int s), o3] = .ok (.rt (.bl false)) e) ∧
    (∀ s', runF L rows s w = some s' → 0 ≤ s' ∧ s' < rows.length ∧ ∃ p3, forL (fun _ => true) (.nm 3) (dB C laBody) (w.map .int) [some (mD L rows acc), wd, some (.int s), o3] = .ok .nx [some (mD L rows acc), wd, some (.int s'), p3])
  | [], s, o6, h0, h1 => ⟨fun h => absurd h (by simp [runF]), fun s' h => (by simp only [runF, Option.some.injEq] at h; subst h; exact ⟨h0, h1, o6, rfl⟩)⟩
  | a :: w, s, o6, h0, h1 => by
    let E : Mp.Env := [some (mD L rows acc), wd, some (.int s), some (.int a)]
    have ha : asg (.nm 3) (.int a) [some (mD L rows acc), wd, some (.int s), o6] = some E := rfl
    have t1 : (den C (.cmp .lt (.v 3) (.int 0))).2 E = .ok (decide (a < 0)) E := by simp only [E, dB, dS, seqM, M.bind, M.ret, M.opt, den, dens, val, evs, op1, op2, varM, truthM, andT, orT, andV, orV, notT, negI, getS0, getSs, setS0, setSs, cmpD, ltI, truB, truI, addI, subI, lenL, lenT, lenR, intI, intB, lstL, lstT, tupL, tupT, ixT, ixL, ixR, at0, at1, at2, partM, slD, asg, muM, getPM, setPM, muOk, muF, getP, setP, chM, eqI, eqB, Option.map_some, Option.bind_some, if_true, Bool.false_eq_true, if_false, putM, augD]
    have t2 : (den C (.cmp .ge (.v 3) (.ix (.v 0) (.int 0)))).2 E = .ok (!decide (a < L)) E := by simp only [E, mD, dB, dS, seqM, M.bind, M.ret, M.opt, den, dens, val, evs, op1, op2, varM, truthM, andT, orT, andV, orV, notT, negI, getS0, getSs, setS0, setSs, cmpD, ltI, truB, truI, addI, subI, lenL, lenT, lenR, intI, intB, lstL, lstT, tupL, tupT, ixT, ixL, ixR, at0, at1, at2, partM, slD, asg, muM, getPM, setPM, muOk, muF, getP, setP, chM, eqI, eqB, Option.map_some, Option.bind_some, if_true, Bool.false_eq_true, if_false, putM, augD]
    have hor : (den C (.or [.cmp .lt (.v 3) (.int 0), .cmp .ge (.v 3) (.ix (.v 0) (.int 0))])).2 E = .ok (decide (a < 0 ∨ L ≤ a)) E := by
      rw [orP (List.cons_ne_nil _ _) (EvT.cons t1 (EvT.cons t2 EvT.nil))]
      congr 1
      by_cases h : a < 0 <;> by_cases h' : a < L <;> simp [h, h'] <;> omega
    by_cases hb : a < 0 ∨ L ≤ a
    · rw [decide_eq_true hb] at hor
      refine ⟨fun _ => ⟨E, ?_⟩, fun s' h => by simp [runF, hb] at h⟩
      simp only [List.map_cons, forL, if_true, ha]
      rw [show dB C laBody E = .ok (.rt (.bl false)) E from dB_ret (if_t hor retB)]
    · rw [decide_eq_false hb] at hor
      have a0 : 0 ≤ a := by omega
      have a1 : a < L := by omega
      obtain ⟨c1, c2, c3⟩ := cell_at v h0 h1 a0 a1
      let E2 : Mp.Env := [some (mD L rows acc), wd, some (.int (nxt rows s a)), some (.int a)]
      have hx : (den C (.ix (.ix (.ix (.v 0) (.int 1)) (.v 2)) (.v 3))).1 E = .ok (.int (nxt rows s a)) E := by
        simp only [E, mD, dB, dS, seqM, M.bind, M.ret, M.opt, den, dens, val, evs, op1, op2, varM, truthM, andT, orT, andV, orV, notT, negI, getS0, getSs, setS0, setSs, cmpD, ltI, truB, truI, addI, subI, lenL, lenT, lenR, intI, intB, lstL, lstT, tupL, tupT, ixT, ixL, ixR, at0, at1, at2, partM, slD, asg, muM, getPM, setPM, muOk, muF, getP, setP, chM, eqI, eqB, Option.map_some, Option.bind_some, if_true, Bool.false_eq_true, if_false, putM, augD, (row_at s h0 h1).1, c1]
      have t3 : (den C (.cmp .lt (.v 2) (.int 0))).2 E2 = .ok (decide (nxt rows s a < 0)) E2 := by
        simp only [E2, dB, dS, seqM, M.bind, M.ret, M.opt, den, dens, val, evs, op1, op2, varM, truthM, andT, orT, andV, orV, notT, negI, getS0, getSs, setS0, setSs, cmpD, ltI, truB, truI, addI, subI, lenL, lenT, lenR, intI, intB, lstL, lstT, tupL, tupT, ixT, ixL, ixR, at0, at1, at2, partM, slD, asg, muM, getPM, setPM, muOk, muF, getP, setP, chM, eqI, eqB, Option.map_some, Option.bind_some, if_true, Bool.false_eq_true, if_false, putM, augD]
      by_cases hn : nxt rows s a < 0
      · rw [decide_eq_true hn] at t3
        refine ⟨fun _ => ⟨E2, ?_⟩, fun s' h => by simp [runF, hb, hn] at h⟩
        simp only [List.map_cons, forL, if_true, ha]
        rw [show dB C laBody E = .ok (.rt (.bl false)) E2 from dB_cons (if_f hor dB_nil) (dB_cons (dS_set hx) (dB_ret (if_t t3 retB)))]
      · rw [decide_eq_false hn] at t3
        have hbod : dB C laBody E = .ok .nx E2 := dB_cons (if_f hor dB_nil) (dB_cons (dS_set hx) (dB_cons (if_f t3 dB_nil) dB_nil))
        obtain ⟨g1, g2⟩ := la_loop v (wd := wd) w (nxt rows s a) (some (.int a)) (by omega) c3
        have er : runF L rows s (a :: w) = runF L rows (nxt rows s a) w := by simp [runF, hb, hn]
        rw [er]
        simp only [List.map_cons, forL, if_true, ha, hbod]
        exact ⟨g1, g2⟩
theorem find_lacc : P.find f__law_accepts.d.name = some f__law_accepts := by kernel_rfl
theorem laccepts_ok (v : Vm L rows acc) {n : Nat} {w : List Int} : ∃ ls, P.call (n + 1) "_law_accepts" [mD L rows acc, lI w] = .ok (.bl (accF L rows acc w)) ls := by
  let E1 : Mp.Env := [some (mD L rows acc), some (lI w), some (.int 0), none]
  have s1 : dS (P.cs_ n) (.set 2 (.int 0)) [some (mD L rows acc), some (lI w), none, none] = .ok .nx E1 := dS_set (d := .int 0) (e1 := [some (mD L rows acc), some (lI w), none, none]) (by simp only [dB, dS, seqM, M.bind, M.ret, M.opt, den, dens, val, evs, op1, op2, varM, truthM, andT, orT, andV, orV, notT, negI, getS0, getSs, setS0, setSs, cmpD, ltI, truB, truI, addI, subI, lenL, lenT, lenR, intI, intB, lstL, lstT, tupL, tupT, ixT, ixL, ixR, at0, at1, at2, partM, slD, asg, muM, getPM, setPM, muOk, muF, getP, setP, chM, eqI, eqB, Option.map_some, Option.bind_some, if_true, Bool.false_eq_true, if_false, putM, augD])
  have t1 : (den (P.cs_ n) (.cmp .eq (.bi .len [.ix (.v 0) (.int 1)]) (.int 0))).2 E1 = .ok (decide ((rows.length : Int) = 0)) E1 := by simp only [E1, mD, dB, dS, seqM, M.bind, M.ret, M.opt, den, dens, val, evs, op1, op2, varM, truthM, andT, orT, andV, orV, notT, negI, getS0, getSs, setS0, setSs, cmpD, ltI, truB, truI, addI, subI, lenL, lenT, lenR, intI, intB, lstL, lstT, tupL, tupT, ixT, ixL, ixR, at0, at1, at2, partM, slD, asg, muM, getPM, setPM, muOk, muF, getP, setP, chM, eqI, eqB, Option.map_some, Option.bind_some, if_true, Bool.false_eq_true, if_false, putM, augD, List.length_map]
  by_cases hz : rows.length = 0
  · rw [decide_eq_true (show (rows.length : Int) = 0 by omega)] at t1
    have : accF L rows acc w = false := by unfold accF; rw [if_pos hz]
    rw [this]
    exact call_rt find_lacc rfl (e := E1) (dB_cons s1 (dB_ret (if_t t1 retB)))
  · rw [decide_eq_false (show ¬ (rows.length : Int) = 0 by omega)] at t1
    have s4 : dS (P.cs_ n) (.for_ (.nm 3) .seq [.v 1] none laBody) E1 = forL (fun _ => true) (.nm 3) (dB (P.cs_ n) laBody) (w.map .int) E1 := dS_for (as := [lI w]) (by simp only [E1, dB, dS, seqM, M.bind, M.ret, M.opt, den, dens, val, evs, op1, op2, varM, truthM, andT, orT, andV, orV, notT, negI, getS0, getSs, setS0, setSs, cmpD, ltI, truB, truI, addI, subI, lenL, lenT, lenR, intI, intB, lstL, lstT, tupL, tupT, ixT, ixL, ixR, at0, at1, at2, partM, slD, asg, muM, getPM, setPM, muOk, muF, getP, setP, chM, eqI, eqB, Option.map_some, Option.bind_some, if_true, Bool.false_eq_true, if_false, putM, augD]) rfl
    obtain ⟨g1, g2⟩ := la_loop (C := P.cs_ n) v (wd := some (lI w)) w 0 none (by omega) (by omega)
    unfold accF
    rw [if_neg hz]
    cases hr : runF L rows 0 w with
    | none =>
      obtain ⟨e, g⟩ := g1 hr
      exact call_rt find_lacc rfl (e := e) (dB_cons s1 (dB_cons (if_f t1 dB_nil) (dB_ret (s4.trans g))))
    | some s' =>
      obtain ⟨q0, q1, p6, g⟩ := g2 s' hr
      refine call_rt find_lacc rfl (e := [some (mD L rows acc), some (lI w), some (.int s'), p6]) (dB_cons s1 (dB_cons (if_f t1 dB_nil) (dB_cons (s4.trans g) (dB_ret (dS_ret ?_)))))
      simp only [mD, dB, dS, seqM, M.bind, M.ret, M.opt, den, dens, val, evs, op1, op2, varM, truthM, andT, orT, andV, orV, notT, negI, getS0, getSs, setS0, setSs, cmpD, ltI, truB, truI, addI, subI, lenL, lenT, lenR, intI, intB, lstL, lstT, tupL, tupT, ixT, ixL, ixR, at0, at1, at2, partM, slD, asg, muM, getPM, setPM, muOk, muF, getP, setP, chM, eqI, eqB, Option.map_some, Option.bind_some, if_true, Bool.false_eq_true, if_false, putM, augD, acc_at v q0 q1]
end
end Lw
namespace Lw
open PySem Mp
def cI (x : Int) (row : List Int) : Int := (row.count x : Int)
theorem cI_cons {x t : Int} {row : List Int} : cI x (t :: row) = cI x row + if x = t then 1 else 0 := by
  unfold cI
  rw [List.count_cons]
  by_cases h : t = x
  · subst h; simp
  · have h' : ¬ x = t := fun z => h z.symm
    simp [h, h']
section
variable {L : Int} {rows : List (List Int)} {acc : List Bool} {C : Cs}
/-! ### the program's own count -/
def tgBody : List Mp.S := [
        .ifs (.cmp .ge (.v 7) (.int 0)) [
          .augp 4 [.v 7] .add (.ix (.v 2) (.v 5))] []]
theorem tg_step {m ln o3 o6 : Option D} {cs v : List Int} {s t : Int} (hv : v.length = cs.length) (s0 : 0 ≤ s) (s1 : s < cs.length) (t1 : t < cs.length) :
    ∃ v', v'.length = v.length ∧ (∀ x, 0 ≤ x → getI v' x = getI v x + getI cs s * (if x = t then 1 else 0)) ∧ dB C tgBody [m, ln, some (lI cs), o3, some (lI v), some (.int s), o6, some (.int t)] = .ok .nx [m, ln, some (lI cs), o3, some (lI v'), some (.int s), o6, some (.int t)] := by
  have c1 : (den C (.cmp .ge (.v 7) (.int 0))).2 [m, ln, some (lI cs), o3, some (lI v), some (.int s), o6, some (.int t)] = .ok (!decide (t < 0)) [m, ln, some (lI cs), o3, some (lI v), some (.int s), o6, some (.int t)] := by simp only [dB, dS, seqM, M.bind, M.ret, M.opt, den, dens, val, evs, op1, op2, varM, truthM, andT, orT, andV, orV, notT, negI, getS0, getSs, setS0, setSs, cmpD, ltI, truB, truI, addI, subI, lenL, lenT, lenR, intI, intB, lstL, lstT, tupL, tupT, ixT, ixL, ixR, at0, at1, at2, partM, slD, asg, muM, getPM, setPM, muOk, muF, getP, setP, chM, eqI, eqB, Option.map_some, Option.bind_some, if_true, Bool.false_eq_true, if_false, putM, augD]
  by_cases h : t < 0
  · rw [decide_eq_true h] at c1
    refine ⟨v, rfl, fun x hx => ?_, dB_cons (if_f c1 dB_nil) dB_nil⟩
    rw [if_neg (by omega)]; omega
  · rw [decide_eq_false h] at c1
    have t0 : 0 ≤ t := by omega
    refine ⟨setI v t (getI v t + getI cs s), setI_len, fun x hx => ?_, dB_cons (if_t c1 (dB_cons ?_ dB_nil)) dB_nil⟩
    · rw [getI_set t0 (by omega) hx]
      by_cases e : x = t
      · subst e; simp
      · simp [e]
    · have g1 := getI_at (v := v) t0 (by omega)
      have g2 := getI_at (v := cs) s0 s1
      exact dS_augp1 (kk := .int t) (y := .int (getI cs s)) (d := lI v) (v := .int (getI v t)) (z := .int (getI v t + getI cs s)) (ev_v rfl) rfl g1 (ev_ix (x := lI cs) (y := .int s) (ev_v rfl) (ev_v rfl) g2) rfl rfl (putL t0 (by omega))
theorem tg_loop {m ln o3 o6 : Option D} {cs : List Int} {s : Int} (s0 : 0 ≤ s) (s1 : s < cs.length) : ∀ (row : List Int) (v : List Int) (o7 : Option D), v.length = cs.length → (∀ t ∈ row, t < cs.length) →
    ∃ v' p7, v'.length = cs.length ∧ (∀ x, 0 ≤ x → getI v' x = getI v x + getI cs s * cI x row) ∧ forL (fun _ => true) (.nm 7) (dB C tgBody) (row.map .int) [m, ln, some (lI cs), o3, some (lI v), some (.int s), o6, o7] = .ok .nx [m, ln, some (lI cs), o3, some (lI v'), some (.int s), o6, p7]
  | [], v, o7, hv, _ => ⟨v, o7, hv, fun x _ => by simp [cI], rfl⟩
  | t :: row, v, o7, hv, ht => by
    obtain ⟨v1, h1, h2, h3⟩ := tg_step (C := C) (m := m) (ln := ln) (o3 := o3) (o6 := o6) hv s0 s1 (ht t List.mem_cons_self)
    obtain ⟨v2, p7, g1, g2, g3⟩ := tg_loop (m := m) (ln := ln) (o3 := o3) (o6 := o6) s0 s1 row v1 (some (.int t)) (h1.trans hv) fun t ht' => ht t (List.mem_cons_of_mem _ ht')
    refine ⟨v2, p7, g1, fun x hx => ?_, ?_⟩
    · rw [g2 x hx, h2 x hx, cI_cons, Int.mul_add]; omega
    · have ha : asg (.nm 7) (.int t) [m, ln, some (lI cs), o3, some (lI v), some (.int s), o6, o7] = some [m, ln, some (lI cs), o3, some (lI v), some (.int s), o6, some (.int t)] := rfl
      simp only [List.map_cons, forL, if_true, ha, h3]
      exact g3
def rwBody : List Mp.S := [
      .for_ (.nm 7) .seq [.v 6] none tgBody]
/-- what the rows from s on bring to x -/
def brg (cs : List Int) (x : Int) : Int → List (List Int) → Int
  | _, [] => 0
  | s, r :: rest => getI cs s * cI x r + brg cs x (s + 1) rest
theorem rw_loop {m ln o3 : Option D} {cs : List Int} : ∀ (rest : List (List Int)) (s : Int) (v : List Int) (o5 o6 o7 : Option D), 0 ≤ s → s + rest.length ≤ cs.length → v.length = cs.length → (∀ r ∈ rest, ∀ t ∈ r, t < cs.length) →
    ∃ v' p5 p6 p7, v'.length = cs.length ∧ (∀ x, 0 ≤ x → getI v' x = getI v x + brg cs x s rest) ∧ forL (fun _ => true) (.tp [5, 6]) (dB C rwBody) (enumD s (rest.map tI)) [m, ln, some (lI cs), o3, some (lI v), o5, o6, o7] = .ok .nx [m, ln, some (lI cs), o3, some (lI v'), p5, p6, p7]
  | [], s, v, o5, o6, o7, _, _, hv, _ => ⟨v, o5, o6, o7, hv, fun x _ => by simp [brg], rfl⟩
  | r :: rest, s, v, o5, o6, o7, s0, s1, hv, ht => by
    rw [List.length_cons] at s1
    obtain ⟨v1, p7, h1, h2, h3⟩ := tg_loop (C := C) (m := m) (ln := ln) (o3 := o3) (o6 := some (tI r)) s0 (by omega) r v o7 hv (ht r List.mem_cons_self)
    obtain ⟨v2, q5, q6, q7, g1, g2, g3⟩ := rw_loop (m := m) (ln := ln) (o3 := o3) (cs := cs) rest (s + 1) v1 (some (.int s)) (some (tI r)) p7 (by omega) (by omega) h1 fun r hr => ht r (List.mem_cons_of_mem _ hr)
    refine ⟨v2, q5, q6, q7, g1, fun x hx => ?_, ?_⟩
    · rw [g2 x hx, h2 x hx]; simp only [brg]; omega
    · have ha : asg (.tp [5, 6]) (.tup [.int s, tI r]) [m, ln, some (lI cs), o3, some (lI v), o5, o6, o7] = some [m, ln, some (lI cs), o3, some (lI v), some (.int s), some (tI r), o7] := rfl
      have hb : dB C rwBody [m, ln, some (lI cs), o3, some (lI v), some (.int s), some (tI r), o7] = .ok .nx [m, ln, some (lI cs), o3, some (lI v1), some (.int s), some (tI r), p7] :=
        dB_cons ((dS_for (as := [tI r]) (ds := r.map .int) (by simp only [dB, dS, seqM, M.bind, M.ret, M.opt, den, dens, val, evs, op1, op2, varM, truthM, andT, orT, andV, orV, notT, negI, getS0, getSs, setS0, setSs, cmpD, ltI, truB, truI, addI, subI, lenL, lenT, lenR, intI, intB, lstL, lstT, tupL, tupT, ixT, ixL, ixR, at0, at1, at2, partM, slD, asg, muM, getPM, setPM, muOk, muF, getP, setP, chM, eqI, eqB, Option.map_some, Option.bind_some, if_true, Bool.false_eq_true, if_false, putM, augD]) rfl).trans h3) dB_nil
      simp only [List.map_cons, enumD, forL, if_true, ha, hb]
      exact g3
theorem brg_sum {cs : List Int} {x : Int} : ∀ {rest : List (List Int)} {s : Nat}, rows.drop s = rest → brg cs x s rest = ((rngI s rest.length).map fun y => getI cs y * cI x (rows[y.toNat]?.getD [])).sum
  | [], s, _ => rfl
  | r :: rest, s, h => by
    have h1 : rows[s]? = some r := by
      have := congrArg (·[0]?) h
      simpa using this
    have h2 : rows.drop (s + 1) = rest := by
      have := congrArg List.tail h
      simpa using this
    have ih := brg_sum (cs := cs) (x := x) h2
    simp only [brg, List.length_cons, rngI, List.map_cons, List.sum_cons, Int.toNat_natCast, h1, Option.getD_some]
    rw [show ((s : Int) + 1) = ((s + 1 : Nat) : Int) by omega, ih]
/-- one turn more: the sum over all states -/
def trn (rows : List (List Int)) (f : Int → Int) (x : Int) : Int := ((rngI 0 rows.length).map fun y => f y * cI x (rows[y.toNat]?.getD [])).sum
def lnBody : List Mp.S := [
    .set 4 (.bin .mul (.lst [.int 0]) (.bi .len [.v 2])),
    .for_ (.tp [5, 6]) .enum [.ix (.v 0) (.int 1)] none rwBody,
    .set 2 (.v 4)]
theorem rep_zero {n : Nat} : (List.replicate n [D.int 0]).flatten = (List.replicate n (0 : Int)).map .int := by
  induction n with
  | zero => rfl
  | succ n ih => rw [List.replicate_succ, List.flatten_cons, ih, List.replicate_succ, List.map_cons]; rfl
theorem mulLI {xs : List D} {k : Int} (h1 : B62 k = true) (h3 : xs.length * k.toNat ≤ SZ) : binD .mul (.lst xs) (.int k) = some (.lst (List.replicate k.toNat xs).flatten) := by
  have e : binD .mul (.lst xs) (.int k) = if (B62 k && decide (xs.length * k.toNat ≤ SZ)) = true then some (.lst (List.replicate k.toNat xs).flatten) else none := rfl
  rw [e, if_pos]
  simp only [Bool.and_eq_true, decide_eq_true_eq]
  exact ⟨h1, h3⟩
theorem mul0 {n : Nat} (h : n ≤ 1000) : binD .mul (.lst [.int 0]) (.int n) = some (lI (List.replicate n 0)) := by
  rw [mulLI (by unfold B62; simp; omega) (by rw [SZ_big, Int.toNat_natCast]; simp; omega), Int.toNat_natCast, rep_zero]
theorem getI_rep {n : Nat} {x : Int} : getI (List.replicate n 0) x = 0 := by
  unfold getI
  rw [List.getElem?_replicate]
  split <;> rfl
theorem ln_sum {cs : List Int} {x : Int} : brg cs x 0 rows = trn rows (getI cs) x := by
  have := brg_sum (cs := cs) (x := x) (rows := rows) (rest := rows) (s := 0) (by simp)
  unfold trn
  exact this
theorem ln_1 (v : Vm L rows acc) {ln o3 o4 o5 o6 o7 : Option D} {cs : List Int} (hc : cs.length = rows.length) : dS C (.set 4 (.bin .mul (.lst [.int 0]) (.bi .len [.v 2]))) [some (mD L rows acc), ln, some (lI cs), o3, o4, o5, o6, o7] = .ok .nx [some (mD L rows acc), ln, some (lI cs), o3, some (lI (List.replicate cs.length 0)), o5, o6, o7] := by
  have m0 := mul0 (n := cs.length) (by have := v.n4; omega)
  exact dS_set (d := lI (List.replicate cs.length 0)) (e1 := [some (mD L rows acc), ln, some (lI cs), o3, o4, o5, o6, o7]) (ev_bin (ev_lst (evs_cons ev_int evs_nil)) (ev_bi1 (ev_v rfl) (by rw [lenL, List.length_map])) m0)
theorem ln_2 {ln o3 o4 o5 o6 o7 o2 : Option D} : dS C (.for_ (.tp [5, 6]) .enum [.ix (.v 0) (.int 1)] none rwBody) [some (mD L rows acc), ln, o2, o3, o4, o5, o6, o7] = forL (fun _ => true) (.tp [5, 6]) (dB C rwBody) (enumD 0 (rows.map tI)) [some (mD L rows acc), ln, o2, o3, o4, o5, o6, o7] :=
  dS_for (as := [.tup (rows.map tI)]) (ds := enumD 0 (rows.map tI)) (e1 := [some (mD L rows acc), ln, o2, o3, o4, o5, o6, o7]) (by simp only [mD, dB, dS, seqM, M.bind, M.ret, M.opt, den, dens, val, evs, op1, op2, varM, truthM, andT, orT, andV, orV, notT, negI, getS0, getSs, setS0, setSs, cmpD, ltI, truB, truI, addI, subI, lenL, lenT, lenR, intI, intB, lstL, lstT, tupL, tupT, ixT, ixL, ixR, at0, at1, at2, partM, slD, asg, muM, getPM, setPM, muOk, muF, getP, setP, chM, eqI, eqB, Option.map_some, Option.bind_some, if_true, Bool.false_eq_true, if_false, putM, augD]) rfl
theorem ln_3 {m ln o3 o5 o6 o7 o2 : Option D} {d : D} : dS C (.set 2 (.v 4)) [m, ln, o2, o3, some d, o5, o6, o7] = .ok .nx [m, ln, some d, o3, some d, o5, o6, o7] :=
  dS_set (d := d) (e1 := [m, ln, o2, o3, some d, o5, o6, o7]) (by simp only [dB, dS, seqM, M.bind, M.ret, M.opt, den, dens, val, evs, op1, op2, varM, truthM, andT, orT, andV, orV, notT, negI, getS0, getSs, setS0, setSs, cmpD, ltI, truB, truI, addI, subI, lenL, lenT, lenR, intI, intB, lstL, lstT, tupL, tupT, ixT, ixL, ixR, at0, at1, at2, partM, slD, asg, muM, getPM, setPM, muOk, muF, getP, setP, chM, eqI, eqB, Option.map_some, Option.bind_some, if_true, Bool.false_eq_true, if_false, putM, augD])
theorem ln_step (v : Vm L rows acc) {ln o3 o4 o5 o6 o7 : Option D} {cs : List Int} (hc : cs.length = rows.length) : ∃ cs' p4 p5 p6 p7, cs'.length = rows.length ∧ (∀ x, 0 ≤ x → getI cs' x = trn rows (getI cs) x) ∧
    dB C lnBody [some (mD L rows acc), ln, some (lI cs), o3, o4, o5, o6, o7] = .ok .nx [some (mD L rows acc), ln, some (lI cs'), o3, p4, p5, p6, p7] := by
  obtain ⟨v', p5, p6, p7, h1, h2, h3⟩ := rw_loop (C := C) (m := some (mD L rows acc)) (ln := ln) (o3 := o3) (cs := cs) rows 0 (List.replicate cs.length 0) o5 o6 o7 (by omega) (by omega) (by simp) fun r hr t ht => by
    have := ((v.rw r hr).2 t ht).2; omega
  refine ⟨v', some (lI v'), p5, p6, p7, h1.trans hc, fun x hx => ?_, ?_⟩
  · rw [h2 x hx, getI_rep, Int.zero_add]
    exact ln_sum
  · exact dB_cons (ln_1 v hc) (dB_cons (ln_2.trans h3) (dB_cons ln_3 dB_nil))
end
end Lw
namespace Lw
open PySem Mp
section
variable {L : Int} {rows : List (List Int)} {acc : List Bool} {C : Cs}
def itr (rows : List (List Int)) : Nat → (Int → Int) → Int → Int
  | 0, f => f
  | k + 1, f => itr rows k (trn rows f)
theorem trn_congr {f g : Int → Int} (h : ∀ x : Int, 0 ≤ x → x < rows.length → f x = g x) (x : Int) : trn rows f x = trn rows g x := by
  unfold trn
  congr 1
  apply List.map_congr_left
  intro y hy
  have := rngI_mem.mp hy
  rw [h y this.1 (by omega)]
theorem itr_congr : ∀ {k : Nat} {f g : Int → Int}, (∀ x : Int, 0 ≤ x → x < rows.length → f x = g x) → ∀ x : Int, 0 ≤ x → x < rows.length → itr rows k f x = itr rows k g x
  | 0, _, _, h, x, h0, h1 => h x h0 h1
  | k + 1, f, g, h, x, h0, h1 => itr_congr (k := k) (fun x _ _ => trn_congr h x) x h0 h1
theorem ln_loop (v : Vm L rows acc) {ln : Option D} : ∀ (k : Nat) (lo : Int) (cs : List Int) (o3 o4 o5 o6 o7 : Option D), cs.length = rows.length → ∃ cs' p3 p4 p5 p6 p7, cs'.length = rows.length ∧ (∀ x : Int, 0 ≤ x → x < rows.length → getI cs' x = itr rows k (getI cs) x) ∧
    forL (fun _ => true) (.nm 3) (dB C lnBody) (rngD lo k) [some (mD L rows acc), ln, some (lI cs), o3, o4, o5, o6, o7] = .ok .nx [some (mD L rows acc), ln, some (lI cs'), p3, p4, p5, p6, p7]
  | 0, lo, cs, o3, o4, o5, o6, o7, hc => ⟨cs, o3, o4, o5, o6, o7, hc, fun x _ _ => rfl, rfl⟩
  | k + 1, lo, cs, o3, o4, o5, o6, o7, hc => by
    obtain ⟨c1, p4, p5, p6, p7, h1, h2, h3⟩ := ln_step (C := C) v (ln := ln) (o3 := some (.int lo)) (o4 := o4) (o5 := o5) (o6 := o6) (o7 := o7) hc
    obtain ⟨c2, r3, r4, r5, r6, r7, g1, g2, g3⟩ := ln_loop v (ln := ln) k (lo + 1) c1 (some (.int lo)) p4 p5 p6 p7 h1
    refine ⟨c2, r3, r4, r5, r6, r7, g1, fun x h0 h1 => ?_, ?_⟩
    · rw [g2 x h0 h1]
      exact itr_congr (fun x hx _ => h2 x hx) x h0 h1
    · have ha : asg (.nm 3) (.int lo) [some (mD L rows acc), ln, some (lI cs), o3, o4, o5, o6, o7] = some [some (mD L rows acc), ln, some (lI cs), some (.int lo), o4, o5, o6, o7] := rfl
      simp only [rngD, forL, if_true, ha, h3]
      exact g3
def acB (acc : List Bool) (x : Int) : Bool := acc[x.toNat]?.getD false
def f0 (x : Int) : Int := if x = 0 then 1 else 0
/-- the number of words -/
def cntF (rows : List (List Int)) (acc : List Bool) (k : Nat) : Int := (((rngI 0 rows.length).filter (acB acc)).map (itr rows k f0)).sum
theorem find_cnt : P.find f_count_words.d.name = some f_count_words := by kernel_rfl
theorem cnt_ok (v : Vm L rows acc) {n k : Nat} (hk : k ≤ 100) : ∃ ls, P.call (n + 1) "count_words" [mD L rows acc, .int k] = .ok (.int (cntF rows acc k)) ls := by
  let m := some (mD L rows acc)
  let E0 : Mp.Env := [m, some (.int k), none, none, none, none, none, none]
  have t1 : (den (P.cs_ n) (.cmp .lt (.v 1) (.int 0))).2 E0 = .ok (decide ((k : Int) < 0)) E0 := by simp only [E0, dB, dS, seqM, M.bind, M.ret, M.opt, den, dens, val, evs, op1, op2, varM, truthM, andT, orT, andV, orV, notT, negI, getS0, getSs, setS0, setSs, cmpD, ltI, truB, truI, addI, subI, lenL, lenT, lenR, intI, intB, lstL, lstT, tupL, tupT, ixT, ixL, ixR, at0, at1, at2, partM, slD, asg, muM, getPM, setPM, muOk, muF, getP, setP, chM, eqI, eqB, Option.map_some, Option.bind_some, if_true, Bool.false_eq_true, if_false, putM, augD]
  have t2 : (den (P.cs_ n) (.cmp .gt (.v 1) (.g "MAX_COUNT"))).2 E0 = .ok (decide ((100 : Int) < k)) E0 := by simp only [E0, dB, dS, seqM, M.bind, M.ret, M.opt, den, dens, val, evs, op1, op2, varM, truthM, andT, orT, andV, orV, notT, negI, getS0, getSs, setS0, setSs, cmpD, ltI, truB, truI, addI, subI, lenL, lenT, lenR, intI, intB, lstL, lstT, tupL, tupT, ixT, ixL, ixR, at0, at1, at2, partM, slD, asg, muM, getPM, setPM, muOk, muF, getP, setP, chM, eqI, eqB, Option.map_some, Option.bind_some, if_true, Bool.false_eq_true, if_false, putM, augD, gl_count]
  have t3 := orP (List.cons_ne_nil _ _) (EvT.cons t1 (EvT.cons t2 EvT.nil))
  rw [decide_eq_false (show ¬ (k : Int) < 0 by omega), decide_eq_false (show ¬ (100 : Int) < k by omega)] at t3
  have s1 := if_f (a := [.raise "NotAllowed"]) (b := []) t3 dB_nil
  have m0 := mul0 (n := rows.length) (by have := v.n4; omega)
  let z0 : List Int := List.replicate rows.length 0
  let E1 : Mp.Env := [m, some (.int k), some (lI z0), none, none, none, none, none]
  have s2 : dS (P.cs_ n) (.set 2 (.bin .mul (.lst [.int 0]) (.bi .len [.ix (.v 0) (.int 1)]))) E0 = .ok .nx E1 := dS_set (d := lI z0) (e1 := E0) (ev_bin (ev_lst (evs_cons ev_int evs_nil)) (ev_bi1 (ev_ix (ev_v rfl) ev_int at1) (by rw [lenT, List.length_map])) m0)
  -- the first state
  have s3 : ∃ c0 : List Int, c0.length = rows.length ∧ (∀ x : Int, 0 ≤ x → x < rows.length → getI c0 x = f0 x) ∧ dS (P.cs_ n) (.ifs (.cmp .gt (.bi .len [.v 2]) (.int 0)) [.put 2 [.int 0] (.int 1)] []) E1 = .ok .nx [m, some (.int k), some (lI c0), none, none, none, none, none] := by
    have c1 : (den (P.cs_ n) (.cmp .gt (.bi .len [.v 2]) (.int 0))).2 E1 = .ok (decide ((0 : Int) < rows.length)) E1 := by simp only [E1, z0, dB, dS, seqM, M.bind, M.ret, M.opt, den, dens, val, evs, op1, op2, varM, truthM, andT, orT, andV, orV, notT, negI, getS0, getSs, setS0, setSs, cmpD, ltI, truB, truI, addI, subI, lenL, lenT, lenR, intI, intB, lstL, lstT, tupL, tupT, ixT, ixL, ixR, at0, at1, at2, partM, slD, asg, muM, getPM, setPM, muOk, muF, getP, setP, chM, eqI, eqB, Option.map_some, Option.bind_some, if_true, Bool.false_eq_true, if_false, putM, augD, List.length_map, List.length_replicate]
    by_cases hz : rows.length = 0
    · rw [decide_eq_false (by omega)] at c1
      exact ⟨z0, by simp [z0], fun x h0 h1 => by omega, if_f c1 dB_nil⟩
    · rw [decide_eq_true (by omega)] at c1
      refine ⟨setI z0 0 1, by simp [setI_len, z0], fun x h0 h1 => ?_, if_t c1 (dB_cons ?_ dB_nil)⟩
      · rw [getI_set (by omega) (by simp [z0]; omega) h0, getI_rep]; rfl
      · have g3 := putL (v := z0) (x := 0) (y := 1) (by omega) (by simp [z0]; omega)
        exact dS_put1 (d := lI z0) ev_int ev_int rfl g3
  obtain ⟨c0, hc0, hf0, s3⟩ := s3
  obtain ⟨cs', p3, p4, p5, p6, p7, g1, g2, g3⟩ := ln_loop (C := P.cs_ n) v (ln := some (.int k)) k 0 c0 none none none none none hc0
  have s4 : dS (P.cs_ n) (.for_ (.nm 3) .rng [.v 1] none lnBody) [m, some (.int k), some (lI c0), none, none, none, none, none] = .ok .nx [m, some (.int k), some (lI cs'), p3, p4, p5, p6, p7] :=
    (dS_for (as := [.int k]) (ds := rngD 0 k) (evs_cons (ev_v rfl) evs_nil) (by
      have hb : B62 (k : Int) = true := by unfold B62; simp; omega
      simp only [itF, hb, if_true, Int.toNat_natCast])).trans g3
  let E4 : Mp.Env := [m, some (.int k), some (lI cs'), p3, p4, p5, p6, p7]
  have hlc : (den (P.cs_ n) (.lc (.ix (.v 2) (.v 5)) (.nm 5) .rng [.bi .len [.v 2]] [.ix (.ix (.v 0) (.int 2)) (.v 5)])).1 E4 = .ok (lI (((rngI 0 rows.length).filter (acB acc)).map (getI cs'))) [m, some (.int k), some (lI cs'), p3, p4, none, p6, p7] := by
    refine lc_val (as := [.int rows.length]) (ds := (rngI 0 rows.length).map .int) (e1 := E4) (by simp only [E4, dB, dS, seqM, M.bind, M.ret, M.opt, den, dens, val, evs, op1, op2, varM, truthM, andT, orT, andV, orV, notT, negI, getS0, getSs, setS0, setSs, cmpD, ltI, truB, truI, addI, subI, lenL, lenT, lenR, intI, intB, lstL, lstT, tupL, tupT, ixT, ixL, ixR, at0, at1, at2, partM, slD, asg, muM, getPM, setPM, muOk, muF, getP, setP, chM, eqI, eqB, Option.map_some, Option.bind_some, if_true, Bool.false_eq_true, if_false, putM, augD, List.length_map, g1]) ?_ (by rw [List.length_map, rngI_len, SZ_big]; have := v.n4; omega) ?_
    · have hb : B62 (rows.length : Int) = true := by unfold B62; have := v.n4; simp; omega
      simp only [itF, hb, if_true, Int.toNat_natCast, rngD_int]
    · rw [lcL_flt (g := fun d => match d with | .int s => .int (getI cs' s) | d => d) (p := fun d => match d with | .int s => acB acc s | _ => false)]
      · rw [List.filter_map, List.map_map, List.map_map]; rfl
      · intro d hd
        obtain ⟨s, hs, rfl⟩ := List.mem_map.mp hd
        have hs' := rngI_mem.mp hs
        have h2 := acc_at v hs'.1 (by omega)
        have h3 := getI_at (v := cs') hs'.1 (by omega)
        refine ⟨_, rfl, [m, some (.int k), some (lI cs'), p3, p4, some (.int s), p6, p7], ?_, fun _ => ⟨[m, some (.int k), some (lI cs'), p3, p4, some (.int s), p6, p7], ?_⟩⟩
        · show cM _ _ = _
          simp only [E4, m, mD, cM, wipeE, T.slots, List.set_cons_succ, List.set_cons_zero, dB, dS, seqM, M.bind, M.ret, M.opt, den, dens, val, evs, op1, op2, varM, truthM, andT, orT, andV, orV, notT, negI, getS0, getSs, setS0, setSs, cmpD, ltI, truB, truI, addI, subI, lenL, lenT, lenR, intI, intB, lstL, lstT, tupL, tupT, ixT, ixL, ixR, at0, at1, at2, partM, slD, asg, muM, getPM, setPM, muOk, muF, getP, setP, chM, eqI, eqB, Option.map_some, Option.bind_some, if_true, Bool.false_eq_true, if_false, putM, augD, h2]
          rfl
        · simp only [dB, dS, seqM, M.bind, M.ret, M.opt, den, dens, val, evs, op1, op2, varM, truthM, andT, orT, andV, orV, notT, negI, getS0, getSs, setS0, setSs, cmpD, ltI, truB, truI, addI, subI, lenL, lenT, lenR, intI, intB, lstL, lstT, tupL, tupT, ixT, ixL, ixR, at0, at1, at2, partM, slD, asg, muM, getPM, setPM, muOk, muF, getP, setP, chM, eqI, eqB, Option.map_some, Option.bind_some, if_true, Bool.false_eq_true, if_false, putM, augD, h3]
  have hfin : (den (P.cs_ n) (.bi .sum [.lc (.ix (.v 2) (.v 5)) (.nm 5) .rng [.bi .len [.v 2]] [.ix (.ix (.v 0) (.int 2)) (.v 5)]])).1 E4 = .ok (.int (cntF rows acc k)) [m, some (.int k), some (lI cs'), p3, p4, none, p6, p7] := by
    rw [den]
    simp only [val, dens, evs, M.bind, hlc, M.ret, M.opt, sumI]
    congr 2
    unfold cntF
    congr 1
    apply List.map_congr_left
    intro x hx
    have := rngI_mem.mp (List.mem_filter.mp hx).1
    rw [g2 x this.1 (by omega)]
    exact itr_congr hf0 x this.1 (by omega)
  exact call_rt find_cnt rfl (dB_cons s1 (dB_cons s2 (dB_cons s3 (dB_cons s4 (dB_ret (dS_ret hfin))))))
theorem cnt_no {n : Nat} {k : Int} (hk : k < 0 ∨ 100 < k) {m : D} : P.call (n + 1) "count_words" [m, .int k] = .ex "NotAllowed" := by
  let E0 : Mp.Env := [some m, some (.int k), none, none, none, none, none, none]
  have t1 : (den (P.cs_ n) (.cmp .lt (.v 1) (.int 0))).2 E0 = .ok (decide (k < 0)) E0 := by simp only [E0, dB, dS, seqM, M.bind, M.ret, M.opt, den, dens, val, evs, op1, op2, varM, truthM, andT, orT, andV, orV, notT, negI, getS0, getSs, setS0, setSs, cmpD, ltI, truB, truI, addI, subI, lenL, lenT, lenR, intI, intB, lstL, lstT, tupL, tupT, ixT, ixL, ixR, at0, at1, at2, partM, slD, asg, muM, getPM, setPM, muOk, muF, getP, setP, chM, eqI, eqB, Option.map_some, Option.bind_some, if_true, Bool.false_eq_true, if_false, putM, augD]
  have t2 : (den (P.cs_ n) (.cmp .gt (.v 1) (.g "MAX_COUNT"))).2 E0 = .ok (decide (100 < k)) E0 := by simp only [E0, dB, dS, seqM, M.bind, M.ret, M.opt, den, dens, val, evs, op1, op2, varM, truthM, andT, orT, andV, orV, notT, negI, getS0, getSs, setS0, setSs, cmpD, ltI, truB, truI, addI, subI, lenL, lenT, lenR, intI, intB, lstL, lstT, tupL, tupT, ixT, ixL, ixR, at0, at1, at2, partM, slD, asg, muM, getPM, setPM, muOk, muF, getP, setP, chM, eqI, eqB, Option.map_some, Option.bind_some, if_true, Bool.false_eq_true, if_false, putM, augD, gl_count]
  have t3 := orP (List.cons_ne_nil _ _) (EvT.cons t1 (EvT.cons t2 EvT.nil))
  have e : [decide (k < 0), decide (100 < k)].any id = true := by
    rcases hk with h | h <;> simp [h]
  rw [e] at t3
  exact call_ex find_cnt rfl (dB_cex (if_t t3 raise1))
end
end Lw
namespace Lw
open PySem Mp
structure Kp (n : Nat) (ps : Ps) : Prop where
  nd : (keysP ps).Nodup
  kr : ∀ k ∈ keysP ps, 0 ≤ k ∧ k < n
theorem Kp.len {n : Nat} {ps : Ps} (h : Kp n ps) : ps.length ≤ n := by
  have := keys_len h.nd h.kr
  unfold keysP at this
  rwa [List.length_map] at this
theorem Kp.nil {n : Nat} : Kp n [] := ⟨List.nodup_nil, fun _ h => by cases h⟩
theorem Kp.put {n : Nat} {ps : Ps} {t y : Int} (h : Kp n ps) (t0 : 0 ≤ t) (t1 : t < n) : Kp n (putA ps t y) := ⟨keys_nodup h.nd, fun k hk => by
  rcases keys_put.mp hk with z | z
  · exact h.kr k z
  · exact ⟨by omega, by omega⟩⟩
theorem filter_ite {g : Int → Int} {p : Int → Bool} : ∀ {xs : List Int}, ((xs.filter p).map g).sum = (xs.map fun x => if p x = true then g x else 0).sum
  | [] => rfl
  | x :: xs => by
    rw [List.filter_cons]
    cases hp : p x with
    | true => simp [filter_ite (xs := xs), hp]
    | false => simp [filter_ite (xs := xs), hp]
theorem ev_me2 {C : Cs} {o a b : E} {x y z r : D} {k : ME} {e : Mp.Env} (ho : (den C o).1 e = .ok x e) (hk : meOk k x = true) (ha : (den C a).1 e = .ok y e) (hb : (den C b).1 e = .ok z e) (hr : meF k x [y, z] = some r) : (den C (.me k o [a, b])).1 e = .ok r e := by
  simp only [den, val, M.bind, ho, hk, if_true, dens, evs, ha, hb, M.ret, M.opt, hr]
section
variable {L : Int} {rows : List (List Int)} {acc : List Bool} {C : Cs}
def ltBody : List Mp.S := [
        .ifs (.cmp .ge (.v 6) (.int 0)) [
          .put 4 [.v 6] (.bin .add (.me .get2 (.v 4) [.v 6, .int 0]) (.ix (.v 2) (.v 5)))] []]
theorem lt_step {m ln o3 : Option D} {n : Nat} {ws ps : Ps} {s t : Int} (hn : n ≤ 400) (hp : Kp n ps) (hs : s ∈ keysP ws) (t1 : t < n) :
    ∃ ps', Kp n ps' ∧ (∀ x, 0 ≤ x → lk ps' x = lk ps x + lk ws s * (if x = t then 1 else 0)) ∧ ps'.length ≤ ps.length + 1 ∧
      dB C ltBody [m, ln, some (dD ws), o3, some (dD ps), some (.int s), some (.int t)] = .ok .nx [m, ln, some (dD ws), o3, some (dD ps'), some (.int s), some (.int t)] := by
  have c1 : (den C (.cmp .ge (.v 6) (.int 0))).2 [m, ln, some (dD ws), o3, some (dD ps), some (.int s), some (.int t)] = .ok (!decide (t < 0)) [m, ln, some (dD ws), o3, some (dD ps), some (.int s), some (.int t)] := by simp only [dB, dS, seqM, M.bind, M.ret, M.opt, den, dens, val, evs, op1, op2, varM, truthM, andT, orT, andV, orV, notT, negI, getS0, getSs, setS0, setSs, cmpD, ltI, truB, truI, addI, subI, lenL, lenT, lenR, intI, intB, lstL, lstT, tupL, tupT, ixT, ixL, ixR, at0, at1, at2, partM, slD, asg, muM, getPM, setPM, muOk, muF, getP, setP, chM, eqI, eqB, Option.map_some, Option.bind_some, if_true, Bool.false_eq_true, if_false, putM, augD]
  by_cases h : t < 0
  · rw [decide_eq_true h] at c1
    refine ⟨ps, hp, fun x hx => ?_, by omega, dB_cons (if_f c1 dB_nil) dB_nil⟩
    rw [if_neg (by omega)]; omega
  · rw [decide_eq_false h] at c1
    refine ⟨putA ps t (lk ps t + lk ws s), hp.put (by omega) t1, fun x hx => ?_, putA_len, dB_cons (if_t c1 (dB_cons ?_ dB_nil)) dB_nil⟩
    · rw [lk_put]
      by_cases e : x = t
      · subst e; simp
      · simp [e]
    · exact dS_put1 (kk := .int t) (d := dD ps) (y := .int (lk ps t + lk ws s)) (ev_bin (x := .int (lk ps t)) (y := .int (lk ws s)) (ev_me2 (x := dD ps) (y := .int t) (z := .int 0) (ev_v rfl) rfl (ev_v rfl) ev_int get2I) (ev_ix (x := dD ws) (y := .int s) (ev_v rfl) (ev_v rfl) (ixDi hs)) rfl) (ev_v rfl) rfl (putD (by rw [SZ_big]; have := hp.len; omega))
theorem lt_loop {m ln o3 : Option D} {n : Nat} {ws : Ps} {s : Int} (hn : n ≤ 400) (hs : s ∈ keysP ws) : ∀ (row : List Int) (ps : Ps) (o6 : Option D), Kp n ps → (∀ t ∈ row, t < n) →
    ∃ ps' p6, Kp n ps' ∧ (∀ x, 0 ≤ x → lk ps' x = lk ps x + lk ws s * cI x row) ∧ ps'.length ≤ ps.length + row.length ∧
      forL (fun _ => true) (.nm 6) (dB C ltBody) (row.map .int) [m, ln, some (dD ws), o3, some (dD ps), some (.int s), o6] = .ok .nx [m, ln, some (dD ws), o3, some (dD ps'), some (.int s), p6]
  | [], ps, o6, hp, _ => ⟨ps, o6, hp, fun x _ => by simp [cI], by simp, rfl⟩
  | t :: row, ps, o6, hp, ht => by
    obtain ⟨p1, h1, h2, h3, h4⟩ := lt_step (C := C) (m := m) (ln := ln) (o3 := o3) hn hp hs (ht t List.mem_cons_self)
    obtain ⟨p2, q6, g1, g2, g3, g4⟩ := lt_loop (m := m) (ln := ln) (o3 := o3) hn hs row p1 (some (.int t)) h1 fun t ht' => ht t (List.mem_cons_of_mem _ ht')
    refine ⟨p2, q6, g1, fun x hx => ?_, by rw [List.length_cons]; omega, ?_⟩
    · rw [g2 x hx, h2 x hx, cI_cons, Int.mul_add]; omega
    · have ha : asg (.nm 6) (.int t) [m, ln, some (dD ws), o3, some (dD ps), some (.int s), o6] = some [m, ln, some (dD ws), o3, some (dD ps), some (.int s), some (.int t)] := rfl
      simp only [List.map_cons, forL, if_true, ha, h4]
      exact g4
def lsBody : List Mp.S := [
      .for_ (.nm 6) .seq [.ix (.ix (.v 0) (.int 1)) (.v 5)] none ltBody]
def brl (rows : List (List Int)) (ws : Ps) (x : Int) (sk : List Int) : Int := (sk.map fun y => lk ws y * cI x (rows[y.toNat]?.getD [])).sum
theorem ls_loop (v : Vm L rows acc) {ln o3 : Option D} {ws : Ps} (hw : Kp rows.length ws) : ∀ (sk : List Int) (ps : Ps) (o5 o6 : Option D), Kp rows.length ps → (∀ s ∈ sk, s ∈ keysP ws) →
    ∃ ps' p5 p6, Kp rows.length ps' ∧ (∀ x, 0 ≤ x → lk ps' x = lk ps x + brl rows ws x sk) ∧ ps'.length ≤ ps.length + sk.length * L.toNat ∧
      forL (fun _ => true) (.nm 5) (dB C lsBody) (sk.map .int) [some (mD L rows acc), ln, some (dD ws), o3, some (dD ps), o5, o6] = .ok .nx [some (mD L rows acc), ln, some (dD ws), o3, some (dD ps'), p5, p6]
  | [], ps, o5, o6, hp, _ => ⟨ps, o5, o6, hp, fun x _ => by simp [brl], by simp, rfl⟩
  | s :: sk, ps, o5, o6, hp, hs => by
    have hk := hs s List.mem_cons_self
    have hr := hw.kr s hk
    obtain ⟨r1, r2⟩ := row_at (rows := rows) s hr.1 hr.2
    have rr := v.rw _ r2
    obtain ⟨p1, q6, h1, h2, h3, h4⟩ := lt_loop (C := C) (m := some (mD L rows acc)) (ln := ln) (o3 := o3) v.n4 hk (rows[s.toNat]?.getD []) ps o6 hp fun t ht => (rr.2 t ht).2
    obtain ⟨p2, z5, z6, g1, g2, g3, g4⟩ := ls_loop v (ln := ln) (o3 := o3) hw sk p1 (some (.int s)) q6 h1 fun s hs' => hs s (List.mem_cons_of_mem _ hs')
    refine ⟨p2, z5, z6, g1, fun x hx => ?_, ?_, ?_⟩
    · rw [g2 x hx, h2 x hx]
      unfold brl
      rw [List.map_cons, List.sum_cons]
      omega
    · have : (rows[s.toNat]?.getD []).length = L.toNat := by have := rr.1; omega
      rw [List.length_cons, Nat.add_mul, Nat.one_mul]
      omega
    · have ha : asg (.nm 5) (.int s) [some (mD L rows acc), ln, some (dD ws), o3, some (dD ps), o5, o6] = some [some (mD L rows acc), ln, some (dD ws), o3, some (dD ps), some (.int s), o6] := rfl
      have hb : dB C lsBody [some (mD L rows acc), ln, some (dD ws), o3, some (dD ps), some (.int s), o6] = .ok .nx [some (mD L rows acc), ln, some (dD ws), o3, some (dD p1), some (.int s), q6] :=
        dB_cons ((dS_for (as := [tI (rows[s.toNat]?.getD [])]) (ds := (rows[s.toNat]?.getD []).map .int) (e1 := [some (mD L rows acc), ln, some (dD ws), o3, some (dD ps), some (.int s), o6]) (evs_cons (ev_ix (x := .tup (rows.map tI)) (y := .int s) (ev_ix (x := mD L rows acc) (ev_v rfl) ev_int at1) (ev_v rfl) r1) evs_nil) rfl).trans h4) dB_nil
      simp only [List.map_cons, forL, if_true, ha, hb]
      exact g4
def lkBody : List Mp.S := [
    .set 4 (.dic false [] []),
    .for_ (.nm 5) .seq [.bi .sorted [.v 2]] none lsBody,
    .set 2 (.v 4)]
theorem sorted_mem {ks : List Int} {x : Int} : x ∈ sortI ks ↔ x ∈ ks := (sortI_perm ks).mem_iff
theorem lk_step (v : Vm L rows acc) {ln o3 o4 o5 o6 : Option D} {ws : Ps} (hw : Kp rows.length ws) (hb : rows.length ≤ 63 ∨ (L ≤ 1 ∧ ws.length ≤ 1)) : ∃ ws' p4 p5 p6, Kp rows.length ws' ∧ (rows.length ≤ 63 ∨ (L ≤ 1 ∧ ws'.length ≤ 1)) ∧ (∀ x, 0 ≤ x → lk ws' x = trn rows (lk ws) x) ∧
    dB C lkBody [some (mD L rows acc), ln, some (dD ws), o3, o4, o5, o6] = .ok .nx [some (mD L rows acc), ln, some (dD ws'), o3, p4, p5, p6] := by
  have h63 : ws.length < 64 := by
    rcases hb with h | h
    · have := hw.len; omega
    · omega
  obtain ⟨ps', p5, p6, h1, h2, h3, h4⟩ := ls_loop (C := C) v (ln := ln) (o3 := o3) hw (sortI (keysP ws)) [] o5 o6 Kp.nil fun s hs => sorted_mem.mp hs
  refine ⟨ps', some (dD ps'), p5, p6, h1, ?_, fun x hx => ?_, ?_⟩
  · rcases hb with h | ⟨h, h'⟩
    · exact .inl h
    · refine .inr ⟨h, ?_⟩
      have e : (sortI (keysP ws)).length = ws.length := by rw [(sortI_perm _).length_eq]; unfold keysP; rw [List.length_map]
      rw [e] at h3
      have hL : L.toNat ≤ 1 := by omega
      have := Nat.mul_le_mul h' hL
      simp at h3
      omega
  · rw [h2 x hx]
    have e : lk [] x = 0 := rfl
    rw [e, Int.zero_add]
    unfold brl trn
    rw [perm_sum (sortI_perm (keysP ws))]
    refine sum_keys hw.nd hw.kr fun y h0 h1 hy => ?_
    rw [lk_no hy, Int.zero_mul]
  · refine dB_cons (dS_set (d := dD []) (e1 := [some (mD L rows acc), ln, some (dD ws), o3, o4, o5, o6]) ?_) (dB_cons ((dS_for (as := [lI (sortI (keysP ws))]) (ds := (sortI (keysP ws)).map .int) (e1 := [some (mD L rows acc), ln, some (dD ws), o3, some (dD []), o5, o6]) (evs_cons (ev_bi1 (x := dD ws) (ev_v rfl) (sortedD h63)) evs_nil) rfl).trans h4) (dB_cons (dS_set (d := dD ps') (e1 := [some (mD L rows acc), ln, some (dD ws), o3, some (dD ps'), p5, p6]) (ev_v rfl)) dB_nil))
    simp only [den, dens, val, dicM, M.ret]
    rfl
theorem lk_loop (v : Vm L rows acc) {ln : Option D} : ∀ (k : Nat) (lo : Int) (ws : Ps) (o3 o4 o5 o6 : Option D), Kp rows.length ws → (rows.length ≤ 63 ∨ (L ≤ 1 ∧ ws.length ≤ 1)) → ∃ ws' p3 p4 p5 p6, Kp rows.length ws' ∧ ws'.length < 64 ∧ (∀ x : Int, 0 ≤ x → x < rows.length → lk ws' x = itr rows k (lk ws) x) ∧
    forL (fun _ => true) (.nm 3) (dB C lkBody) (rngD lo k) [some (mD L rows acc), ln, some (dD ws), o3, o4, o5, o6] = .ok .nx [some (mD L rows acc), ln, some (dD ws'), p3, p4, p5, p6]
  | 0, lo, ws, o3, o4, o5, o6, hw, hb => ⟨ws, o3, o4, o5, o6, hw, (by rcases hb with h | h; (have := hw.len; omega); omega), fun x _ _ => rfl, rfl⟩
  | k + 1, lo, ws, o3, o4, o5, o6, hw, hb => by
    obtain ⟨w1, p4, p5, p6, h1, hb1, h2, h3⟩ := lk_step (C := C) v (ln := ln) (o3 := some (.int lo)) (o4 := o4) (o5 := o5) (o6 := o6) hw hb
    obtain ⟨w2, r3, r4, r5, r6, g1, g0, g2, g3⟩ := lk_loop v (ln := ln) k (lo + 1) w1 (some (.int lo)) p4 p5 p6 h1 hb1
    refine ⟨w2, r3, r4, r5, r6, g1, g0, fun x h0 h1 => ?_, ?_⟩
    · rw [g2 x h0 h1]
      exact itr_congr (fun x hx _ => h2 x hx) x h0 h1
    · have ha : asg (.nm 3) (.int lo) [some (mD L rows acc), ln, some (dD ws), o3, o4, o5, o6] = some [some (mD L rows acc), ln, some (dD ws), some (.int lo), o4, o5, o6] := rfl
      simp only [rngD, forL, if_true, ha, h3]
      exact g3
theorem find_lcnt : P.find f__law_count.d.name = some f__law_count := by kernel_rfl
theorem lcnt_ok (v : Vm L rows acc) (hb : rows.length ≤ 63 ∨ L ≤ 1) {n k : Nat} (hk : k ≤ 100) : ∃ ls, P.call (n + 1) "_law_count" [mD L rows acc, .int k] = .ok (.int (cntF rows acc k)) ls := by
  let m := some (mD L rows acc)
  let E0 : Mp.Env := [m, some (.int k), none, none, none, none, none]
  let E1 : Mp.Env := [m, some (.int k), some (dD []), none, none, none, none]
  have s1 : dS (P.cs_ n) (.set 2 (.dic false [] [])) E0 = .ok .nx E1 := dS_set (d := dD []) (e1 := E0) (by simp only [den, dens, val, dicM, M.ret]; rfl)
  have s3 : ∃ c0 : Ps, Kp rows.length c0 ∧ c0.length ≤ 1 ∧ (∀ x : Int, 0 ≤ x → x < rows.length → lk c0 x = f0 x) ∧ dS (P.cs_ n) (.ifs (.cmp .gt (.bi .len [.ix (.v 0) (.int 1)]) (.int 0)) [.put 2 [.int 0] (.int 1)] []) E1 = .ok .nx [m, some (.int k), some (dD c0), none, none, none, none] := by
    have c1 : (den (P.cs_ n) (.cmp .gt (.bi .len [.ix (.v 0) (.int 1)]) (.int 0))).2 E1 = .ok (decide ((0 : Int) < rows.length)) E1 := by simp only [E1, m, mD, dB, dS, seqM, M.bind, M.ret, M.opt, den, dens, val, evs, op1, op2, varM, truthM, andT, orT, andV, orV, notT, negI, getS0, getSs, setS0, setSs, cmpD, ltI, truB, truI, addI, subI, lenL, lenT, lenR, intI, intB, lstL, lstT, tupL, tupT, ixT, ixL, ixR, at0, at1, at2, partM, slD, asg, muM, getPM, setPM, muOk, muF, getP, setP, chM, eqI, eqB, Option.map_some, Option.bind_some, if_true, Bool.false_eq_true, if_false, putM, augD, List.length_map]
    by_cases hz : rows.length = 0
    · rw [decide_eq_false (by omega)] at c1
      exact ⟨[], Kp.nil, by simp, fun x h0 h1 => by omega, if_f c1 dB_nil⟩
    · rw [decide_eq_true (by omega)] at c1
      refine ⟨putA [] 0 1, Kp.nil.put (by omega) (by omega), by simp [putA], fun x h0 h1 => ?_, if_t c1 (dB_cons ?_ dB_nil)⟩
      · rw [lk_put]; rfl
      · exact dS_put1 (kk := .int 0) (d := dD []) (y := .int 1) ev_int ev_int rfl (putD (by rw [SZ_big]; simp))
  obtain ⟨c0, hc0, hl0, hf0, s3⟩ := s3
  obtain ⟨ws, p3, p4, p5, p6, g1, g0, g2, g3⟩ := lk_loop (C := P.cs_ n) v (ln := some (.int k)) k 0 c0 none none none none hc0 (hb.imp id fun h => ⟨h, hl0⟩)
  have s4 : dS (P.cs_ n) (.for_ (.nm 3) .rng [.v 1] none lkBody) [m, some (.int k), some (dD c0), none, none, none, none] = .ok .nx [m, some (.int k), some (dD ws), p3, p4, p5, p6] :=
    (dS_for (as := [.int k]) (ds := rngD 0 k) (evs_cons (ev_v rfl) evs_nil) (by
      have hb : B62 (k : Int) = true := by unfold B62; simp; omega
      simp only [itF, hb, if_true, Int.toNat_natCast])).trans g3
  let E4 : Mp.Env := [m, some (.int k), some (dD ws), p3, p4, p5, p6]
  have hlc : (den (P.cs_ n) (.lc (.ix (.v 2) (.v 5)) (.nm 5) .seq [.bi .sorted [.v 2]] [.ix (.ix (.v 0) (.int 2)) (.v 5)])).1 E4 = .ok (lI (((sortI (keysP ws)).filter (acB acc)).map (lk ws))) [m, some (.int k), some (dD ws), p3, p4, none, p6] := by
    refine lc_val (as := [lI (sortI (keysP ws))]) (ds := (sortI (keysP ws)).map .int) (e1 := E4) (evs_cons (ev_bi1 (x := dD ws) (ev_v rfl) (sortedD g0)) evs_nil) rfl (by rw [List.length_map, (sortI_perm _).length_eq, SZ_big]; unfold keysP; rw [List.length_map]; omega) ?_
    rw [lcL_flt (g := fun d => match d with | .int s => .int (lk ws s) | d => d) (p := fun d => match d with | .int s => acB acc s | _ => false)]
    · rw [List.filter_map, List.map_map, List.map_map]; rfl
    · intro d hd
      obtain ⟨s, hs, rfl⟩ := List.mem_map.mp hd
      have hk' := sorted_mem.mp hs
      have hs' := g1.kr s hk'
      have h2 := acc_at v hs'.1 hs'.2
      refine ⟨_, rfl, [m, some (.int k), some (dD ws), p3, p4, some (.int s), p6], ?_, fun _ => ⟨[m, some (.int k), some (dD ws), p3, p4, some (.int s), p6], ev_ix (x := dD ws) (y := .int s) (ev_v rfl) (ev_v rfl) (ixDi hk')⟩⟩
      show cM _ _ = _
      simp only [dens, cM]
      rw [valT (f := (den (P.cs_ n) (.ix (.ix (.v 0) (.int 2)) (.v 5))).1) (by rw [den])]
      exact tr_bl (ev_ix (x := .tup (acc.map .bl)) (y := .int s) (ev_ix (x := mD L rows acc) (ev_v rfl) ev_int at2) (ev_v rfl) h2)
  have hfin : (den (P.cs_ n) (.bi .sum [.lc (.ix (.v 2) (.v 5)) (.nm 5) .seq [.bi .sorted [.v 2]] [.ix (.ix (.v 0) (.int 2)) (.v 5)]])).1 E4 = .ok (.int (cntF rows acc k)) [m, some (.int k), some (dD ws), p3, p4, none, p6] := by
    have e : cntF rows acc k = (((sortI (keysP ws)).filter (acB acc)).map (lk ws)).sum := by
      unfold cntF
      rw [filter_ite, filter_ite, perm_sum (sortI_perm (keysP ws)), sum_keys g1.nd g1.kr]
      · congr 1
        apply List.map_congr_left
        intro x hx
        have := rngI_mem.mp hx
        rw [g2 x this.1 (by omega), itr_congr hf0 x this.1 (by omega)]
      · intro x h0 h1 hx
        rw [lk_no hx]; simp
    rw [e]
    exact ev_bi1 hlc sumI
  exact call_rt find_lcnt rfl (dB_cons s1 (dB_cons s3 (dB_cons s4 (dB_ret (dS_ret hfin)))))
end
end Lw
namespace Lw
open PySem Mp
theorem mulI64 {a b : Int} (h : W64 a = true) : binD .mul (.int a) (.int b) = some (.int (a * b)) := by simp [binD, h]
theorem divI' {a b : Int} (h : 0 < b ∧ b < 1073741824) : binD .fdiv (.int a) (.int b) = some (.int (a / b)) := by simp [binD, h]
theorem W64_of {a : Int} (h : a.natAbs < 1000000) : W64 a = true := by unfold W64; simp; omega
theorem B62_of {a : Int} (h : a.natAbs < 1000000) : B62 a = true := by unfold B62; simp; omega
def okR (L N : Nat) (r : List Int) : Prop := r.length = L ∧ ∀ s ∈ r, -1 ≤ s ∧ s < N
section
variable {C : Cs} {xs : List Int} {L N : Nat} {g : Int}
def lmI : List Mp.S := [
      .set 10 (.ix (.v 0) (.bin .mod (.bi .int [.bin .add (.bin .add (.v 1) (.bin .mul (.v 7) (.v 2))) (.v 9)]) (.bi .len [.v 0]))),
      .set 11 (.bin .mod (.bin .fdiv (.v 10) (.int 7)) (.v 3)),
      .ifs (.cmp .lt (.bin .mod (.v 10) (.int 5)) (.v 4)) [
        .set 11 (.neg (.int 1))] [],
      .ex (.mu .append 8 [] [.v 11])]
def lmO : List Mp.S := [
    .set 8 (.lst []),
    .for_ (.nm 9) .rng [.v 2] none lmI,
    .ex (.mu .append 5 [] [.bi .tuple [.v 8]]),
    .ex (.mu .append 6 [] [.cmp .eq (.bin .mod (.bin .fdiv (.ix (.v 0) (.bin .mod (.bi .int [.bin .add (.bin .add (.v 1) (.int 131)) (.v 7)]) (.bi .len [.v 0]))) (.int 3)) (.int 3)) (.int 0)])]
theorem lm_cell {mv ac o10 o11 : Option D} {s a : Int} {row : List Int} (hx : 0 < xs.length) (hN : 0 < N) (hs : s.natAbs < 1000) (hr : row.length ≤ 1000) :
    ∃ p10 t, (-1 ≤ t ∧ t < (N : Int)) ∧ dB C lmI [some (lI xs), some (.int 20), some (.int L), some (.int N), some (.int g), mv, ac, some (.int s), some (lI row), some (.int a), o10, o11] = .ok .nx [some (lI xs), some (.int 20), some (.int L), some (.int N), some (.int g), mv, ac, some (.int s), some (lI (row ++ [t])), some (.int a), p10, some (.int t)] := by
  have hx' : (0 : Int) < xs.length := by omega
  let j : Int := (20 + s * L + a) % xs.length
  have j0 : 0 ≤ j := Int.emod_nonneg _ (by omega)
  have j1 : j < xs.length := Int.emod_lt_of_pos _ hx'
  let x : Int := getI xs j
  let E0 : Mp.Env := [some (lI xs), some (.int 20), some (.int L), some (.int N), some (.int g), mv, ac, some (.int s), some (lI row), some (.int a), o10, o11]
  let E1 : Mp.Env := [some (lI xs), some (.int 20), some (.int L), some (.int N), some (.int g), mv, ac, some (.int s), some (lI row), some (.int a), some (.int x), o11]
  let E2 : Int → Mp.Env := fun t => [some (lI xs), some (.int 20), some (.int L), some (.int N), some (.int g), mv, ac, some (.int s), some (lI row), some (.int a), some (.int x), some (.int t)]
  have s1 : dS C (.set 10 (.ix (.v 0) (.bin .mod (.bi .int [.bin .add (.bin .add (.v 1) (.bin .mul (.v 7) (.v 2))) (.v 9)]) (.bi .len [.v 0])))) E0 = .ok .nx E1 := by
    refine dS_set (e1 := E0) (d := .int x) (ev_ix (x := lI xs) (y := .int j) (e1 := E0) (ev_v rfl) (ev_bin (x := .int (20 + s * L + a)) (y := .int xs.length) (e1 := E0) (ev_bi1 (x := .int (20 + s * L + a)) (ev_bin (x := .int (20 + s * L)) (y := .int a) (e1 := E0) (ev_bin (x := .int 20) (y := .int (s * L)) (e1 := E0) (ev_v rfl) (ev_bin (e1 := E0) (ev_v rfl) (ev_v rfl) (mulI64 (W64_of (by omega)))) rfl) (ev_v rfl) rfl) intI) (ev_bi1 (ev_v rfl) (by rw [lenL, List.length_map])) (modI hx')) (getI_at j0 j1))
  let t0 : Int := x / 7 % N
  have s2 : dS C (.set 11 (.bin .mod (.bin .fdiv (.v 10) (.int 7)) (.v 3))) E1 = .ok .nx (E2 t0) :=
    dS_set (e1 := E1) (d := .int t0) (ev_bin (x := .int (x / 7)) (y := .int N) (e1 := E1) (ev_bin (e1 := E1) (ev_v rfl) ev_int (divI' (by decide))) (ev_v rfl) (modI (by omega)))
  have t1 : (den C (.cmp .lt (.bin .mod (.v 10) (.int 5)) (.v 4))).2 (E2 t0) = .ok (decide (x % 5 < g)) (E2 t0) :=
    (ev_cmp (e1 := E2 t0) (x := .int (x % 5)) (y := .int g) (ev_bin (e1 := E2 t0) (ev_v rfl) ev_int (modI (by decide))) (ev_v rfl) rfl).2
  have fin : ∀ t, dS C (.ex (.mu .append 8 [] [.v 11])) (E2 t) = .ok .nx [some (lI xs), some (.int 20), some (.int L), some (.int N), some (.int g), mv, ac, some (.int s), some (lI (row ++ [t])), some (.int a), some (.int x), some (.int t)] := by
    intro t
    have h := dS_app (C := C) (i := 8) (x := .v 11) (e := E2 t) (e1 := E2 t) (y := .int t) (xs := row.map .int) rfl (ev_v rfl) rfl (by rw [List.length_map, SZ_big]; omega)
    rw [h]
    have e : lI (row ++ [t]) = .lst (row.map .int ++ [.int t]) := by simp [lI]
    rw [e]; rfl
  by_cases hg : x % 5 < g
  · rw [decide_eq_true hg] at t1
    have s3 := if_t (a := [.set 11 (.neg (.int 1))]) (b := []) t1 (dB_cons (dS_set (i := 11) (ev_neg ev_int)) dB_nil)
    exact ⟨some (.int x), -1, ⟨by omega, by omega⟩, dB_cons s1 (dB_cons s2 (dB_cons s3 (dB_cons (fin (-1)) dB_nil)))⟩
  · rw [decide_eq_false hg] at t1
    have s3 := if_f (a := [.set 11 (.neg (.int 1))]) (b := []) t1 dB_nil
    refine ⟨some (.int x), t0, ⟨?_, Int.emod_lt_of_pos _ (by omega)⟩, dB_cons s1 (dB_cons s2 (dB_cons s3 (dB_cons (fin t0) dB_nil)))⟩
    have : 0 ≤ t0 := Int.emod_nonneg _ (by omega)
    omega
theorem lm_row {mv ac : Option D} {s : Int} (hx : 0 < xs.length) (hN : 0 < N) (hs : s.natAbs < 1000) : ∀ (k : Nat) (lo : Int) (row : List Int) (o9 o10 o11 : Option D), row.length + k ≤ 1000 → (∀ t ∈ row, -1 ≤ t ∧ t < (N : Int)) →
    ∃ p9 p10 p11 row', row'.length = row.length + k ∧ (∀ t ∈ row', -1 ≤ t ∧ t < (N : Int)) ∧ forL (fun _ => true) (.nm 9) (dB C lmI) (rngD lo k) [some (lI xs), some (.int 20), some (.int L), some (.int N), some (.int g), mv, ac, some (.int s), some (lI row), o9, o10, o11] = .ok .nx [some (lI xs), some (.int 20), some (.int L), some (.int N), some (.int g), mv, ac, some (.int s), some (lI row'), p9, p10, p11]
  | 0, lo, row, o9, o10, o11, hr, h => ⟨o9, o10, o11, row, rfl, h, rfl⟩
  | k + 1, lo, row, o9, o10, o11, hr, h => by
    obtain ⟨p10, t, ht, h3⟩ := lm_cell (C := C) (L := L) (g := g) (mv := mv) (ac := ac) (o10 := o10) (o11 := o11) (a := lo) (row := row) hx hN hs (by omega)
    obtain ⟨q9, q10, q11, row', g1, g2, g3⟩ := lm_row hx hN hs k (lo + 1) (row ++ [t]) (some (.int lo)) p10 (some (.int t)) (by simp; omega) (fun y hy => by
      rcases List.mem_append.mp hy with hy | hy
      · exact h y hy
      · have : y = t := by simpa using hy
        rw [this]; exact ht)
    refine ⟨q9, q10, q11, row', by rw [g1]; simp; omega, g2, ?_⟩
    have ha : asg (.nm 9) (.int lo) [some (lI xs), some (.int 20), some (.int L), some (.int N), some (.int g), mv, ac, some (.int s), some (lI row), o9, o10, o11] = some [some (lI xs), some (.int 20), some (.int L), some (.int N), some (.int g), mv, ac, some (.int s), some (lI row), some (.int lo), o10, o11] := rfl
    simp only [rngD, forL, if_true, ha, h3]
    exact g3
theorem lm_step {s : Nat} {mvs : List (List Int)} {acs : List Bool} {o8 o9 o10 o11 : Option D} (hx : 0 < xs.length) (hN : 0 < N) (hL : L ≤ 200) (hs : s < 400) (hm : mvs.length = s) (hc : acs.length = s) :
    ∃ p8 p9 p10 p11 row b, okR L N row ∧ dB C lmO [some (lI xs), some (.int 20), some (.int L), some (.int N), some (.int g), some (.lst (mvs.map tI)), some (.lst (acs.map .bl)), some (.int s), o8, o9, o10, o11] = .ok .nx [some (lI xs), some (.int 20), some (.int L), some (.int N), some (.int g), some (.lst ((mvs ++ [row]).map tI)), some (.lst ((acs ++ [b]).map .bl)), some (.int s), p8, p9, p10, p11] := by
  obtain ⟨p9, p10, p11, row, g1, g2, g3⟩ := lm_row (C := C) (xs := xs) (L := L) (N := N) (g := g) (mv := some (.lst (mvs.map tI))) (ac := some (.lst (acs.map .bl))) (s := s) hx hN (by omega) L 0 [] o9 o10 o11 (by simp; omega) (fun t ht => absurd ht (by simp))
  have hx' : (0 : Int) < xs.length := by omega
  let j : Int := (20 + 131 + (s : Int)) % xs.length
  have j0 : 0 ≤ j := Int.emod_nonneg _ (by omega)
  have j1 : j < xs.length := Int.emod_lt_of_pos _ hx'
  let x : Int := getI xs j
  let b : Bool := decide (x / 3 % 3 = 0)
  let E0 : Mp.Env := [some (lI xs), some (.int 20), some (.int L), some (.int N), some (.int g), some (.lst (mvs.map tI)), some (.lst (acs.map .bl)), some (.int s), some (lI []), o9, o10, o11]
  let E1 : Mp.Env := [some (lI xs), some (.int 20), some (.int L), some (.int N), some (.int g), some (.lst (mvs.map tI)), some (.lst (acs.map .bl)), some (.int s), some (lI row), p9, p10, p11]
  let E2 : Mp.Env := [some (lI xs), some (.int 20), some (.int L), some (.int N), some (.int g), some (.lst (mvs.map tI ++ [tI row])), some (.lst (acs.map .bl)), some (.int s), some (lI row), p9, p10, p11]
  let E3 : Mp.Env := [some (lI xs), some (.int 20), some (.int L), some (.int N), some (.int g), some (.lst (mvs.map tI ++ [tI row])), some (.lst (acs.map .bl ++ [.bl b])), some (.int s), some (lI row), p9, p10, p11]
  have s1 : dS C (.set 8 (.lst [])) [some (lI xs), some (.int 20), some (.int L), some (.int N), some (.int g), some (.lst (mvs.map tI)), some (.lst (acs.map .bl)), some (.int s), o8, o9, o10, o11] = .ok .nx E0 := dS_set (ev_lst evs_nil)
  have s2 : dS C (.for_ (.nm 9) .rng [.v 2] none lmI) E0 = .ok .nx E1 := (dS_for (as := [.int L]) (ds := rngD 0 L) (e1 := E0) (evs_cons (ev_v rfl) evs_nil) (by simp only [itF, B62_of (show ((L : Int)).natAbs < 1000000 by omega), if_true, Int.toNat_natCast])).trans g3
  have s3 : dS C (.ex (.mu .append 5 [] [.bi .tuple [.v 8]])) E1 = .ok .nx E2 := dS_app (e1 := E1) (y := tI row) rfl (ev_bi1 (x := lI row) (ev_v rfl) tupL) rfl (by rw [List.length_map, SZ_big]; omega)
  have s4 : dS C (.ex (.mu .append 6 [] [.cmp .eq (.bin .mod (.bin .fdiv (.ix (.v 0) (.bin .mod (.bi .int [.bin .add (.bin .add (.v 1) (.int 131)) (.v 7)]) (.bi .len [.v 0]))) (.int 3)) (.int 3)) (.int 0)])) E2 = .ok .nx E3 := by
    refine dS_app (e1 := E2) (y := .bl b) rfl ?_ rfl (by rw [List.length_map, SZ_big]; omega)
    exact (ev_cmp (e1 := E2) (o := .eq) (k := b) (x := .int (x / 3 % 3)) (y := .int 0) (ev_bin (e1 := E2) (ev_bin (x := .int x) (e1 := E2) (ev_ix (x := lI xs) (y := .int j) (e1 := E2) (ev_v rfl) (ev_bin (e1 := E2) (x := .int (20 + 131 + s)) (y := .int xs.length) (ev_bi1 (x := .int (20 + 131 + s)) (ev_bin (x := .int (20 + 131)) (y := .int s) (e1 := E2) (ev_bin (e1 := E2) (ev_v rfl) ev_int rfl) (ev_v rfl) rfl) intI) (ev_bi1 (ev_v rfl) (by rw [lenL, List.length_map])) (modI hx')) (getI_at j0 j1)) ev_int (divI' (by decide))) ev_int (modI (by decide))) ev_int eqI).1
  refine ⟨some (lI row), p9, p10, p11, row, b, ⟨by simpa using g1, g2⟩, ?_⟩
  have e1 : (mvs ++ [row]).map tI = mvs.map tI ++ [tI row] := by simp
  have e2 : (acs ++ [b]).map D.bl = acs.map .bl ++ [.bl b] := by simp
  rw [e1, e2]
  exact dB_cons s1 (dB_cons s2 (dB_cons s3 (dB_cons s4 dB_nil)))
theorem lm_loop (hx : 0 < xs.length) (hL : L ≤ 200) (hN4 : N ≤ 400) : ∀ (k s : Nat) (mvs : List (List Int)) (acs : List Bool) (o7 o8 o9 o10 o11 : Option D), s + k ≤ N → mvs.length = s → acs.length = s → (∀ r ∈ mvs, okR L N r) →
    ∃ (mvs' : List (List Int)) (acs' : List Bool) (p7 p8 p9 p10 p11 : Option D), mvs'.length = s + k ∧ acs'.length = s + k ∧ (∀ r ∈ mvs', okR L N r) ∧ forL (fun _ => true) (.nm 7) (dB C lmO) (rngD s k) [some (lI xs), some (.int 20), some (.int L), some (.int N), some (.int g), some (.lst (mvs.map tI)), some (.lst (acs.map .bl)), o7, o8, o9, o10, o11] = .ok .nx [some (lI xs), some (.int 20), some (.int L), some (.int N), some (.int g), some (.lst (mvs'.map tI)), some (.lst (acs'.map .bl)), p7, p8, p9, p10, p11]
  | 0, s, mvs, acs, o7, o8, o9, o10, o11, hk, hm, hc, h => ⟨mvs, acs, o7, o8, o9, o10, o11, hm, hc, h, rfl⟩
  | k + 1, s, mvs, acs, o7, o8, o9, o10, o11, hk, hm, hc, h => by
    obtain ⟨p8, p9, p10, p11, row, b, hr, h3⟩ := lm_step (C := C) (xs := xs) (L := L) (N := N) (g := g) (s := s) (mvs := mvs) (acs := acs) (o8 := o8) (o9 := o9) (o10 := o10) (o11 := o11) hx (by omega) hL (by omega) hm hc
    obtain ⟨m2, a2, q7, q8, q9, q10, q11, g1, g2, g4, g3⟩ := lm_loop hx hL hN4 k (s + 1) (mvs ++ [row]) (acs ++ [b]) (some (.int s)) p8 p9 p10 p11 (by omega) (by simp [hm]) (by simp [hc]) (fun r hr' => by
      rcases List.mem_append.mp hr' with hy | hy
      · exact h r hy
      · have : r = row := by simpa using hy
        rw [this]; exact hr)
    refine ⟨m2, a2, q7, q8, q9, q10, q11, by omega, by omega, g4, ?_⟩
    have ha : asg (.nm 7) (.int s) [some (lI xs), some (.int 20), some (.int L), some (.int N), some (.int g), some (.lst (mvs.map tI)), some (.lst (acs.map .bl)), o7, o8, o9, o10, o11] = some [some (lI xs), some (.int 20), some (.int L), some (.int N), some (.int g), some (.lst (mvs.map tI)), some (.lst (acs.map .bl)), some (.int s), o8, o9, o10, o11] := rfl
    simp only [rngD, forL, if_true, ha, h3]
    exact g3
end
theorem find_lmach : P.find f__law_machine.d.name = some f__law_machine := by kernel_rfl
theorem lmach_ok {n : Nat} {xs : List Int} {L N : Nat} {g : Int} (hx : 0 < xs.length) (hL : L ≤ 200) (hN : N ≤ 400) : ∃ rows acc ls, rows.length = N ∧ Vm L rows acc ∧ P.call (n + 1) "_law_machine" [lI xs, .int 20, .int L, .int N, .int g] = .ok (mD L rows acc) ls := by
  obtain ⟨rows, acc, p7, p8, p9, p10, p11, g1, g2, g4, g3⟩ := lm_loop (C := P.cs_ n) (xs := xs) (L := L) (N := N) (g := g) hx hL hN N 0 [] [] none none none none none (by omega) rfl rfl (fun r hr => absurd hr (by simp))
  let E0 : Mp.Env := [some (lI xs), some (.int 20), some (.int L), some (.int N), some (.int g), none, none, none, none, none, none, none]
  let E1 : Mp.Env := [some (lI xs), some (.int 20), some (.int L), some (.int N), some (.int g), some (.lst []), none, none, none, none, none, none]
  let E2 : Mp.Env := [some (lI xs), some (.int 20), some (.int L), some (.int N), some (.int g), some (.lst []), some (.lst []), none, none, none, none, none]
  let E3 : Mp.Env := [some (lI xs), some (.int 20), some (.int L), some (.int N), some (.int g), some (.lst (rows.map tI)), some (.lst (acc.map .bl)), p7, p8, p9, p10, p11]
  have s1 : dS (P.cs_ n) (.set 5 (.lst [])) E0 = .ok .nx E1 := dS_set (ev_lst evs_nil)
  have s2 : dS (P.cs_ n) (.set 6 (.lst [])) E1 = .ok .nx E2 := dS_set (ev_lst evs_nil)
  have s3 : dS (P.cs_ n) (.for_ (.nm 7) .rng [.v 3] none lmO) E2 = .ok .nx E3 := (dS_for (as := [.int N]) (ds := rngD (0 : Nat) N) (e1 := E2) (evs_cons (ev_v rfl) evs_nil) (by simp only [itF, B62_of (show ((N : Int)).natAbs < 1000000 by omega), if_true, Int.toNat_natCast]; rfl)).trans g3
  have s4 : dS (P.cs_ n) (.ret (.tup [.v 2, .bi .tuple [.v 5], .bi .tuple [.v 6]])) E3 = .ok (.rt (mD L rows acc)) E3 := dS_ret (ev_tup (evs_cons (e1 := E3) (ev_v rfl) (evs_cons (e1 := E3) (ev_bi1 (x := .lst (rows.map tI)) (ev_v rfl) tupL) (evs_cons (e1 := E3) (ev_bi1 (x := .lst (acc.map .bl)) (ev_v rfl) tupL) evs_nil))))
  rw [Nat.zero_add] at g1 g2
  obtain ⟨ls, hc⟩ := call_rt (n := n) (F := f__law_machine) (ds := [lI xs, .int 20, .int L, .int N, .int g]) find_lmach rfl (dB_cons s1 (dB_cons s2 (dB_cons s3 (dB_ret s4))))
  refine ⟨rows, acc, ls, g1, ⟨by omega, by omega, by omega, by omega, fun r hr => ?_⟩, hc⟩
  have := g4 r hr
  exact ⟨by have := this.1; omega, by rw [g1]; exact this.2⟩
end Lw
namespace Lw
open PySem Mp
theorem try_ex {C : Cs} {bs : Ows} {b : List Mp.S} {h : Mp.S} {e e1 : Mp.Env} {c : Str} {r : R Fl} (h1 : dB C b e = .ex c e1) (hx : C.isx c = true) (h2 : dH C h c e1 = r) : dS C (.try_ bs b h) e = r := by
  simp only [dS, tryM, h1, hx, if_true, h2]
theorem dS_exx {C : Cs} {x : E} {e e1 : Mp.Env} {c : Str} (h : (den C x).1 e = .ex c e1) : dS C (.ex x) e = .ex c e1 := by
  simp only [dS, M.bind, h]
/-! ### refused -/
theorem find_lref : P.find f__law_refused.d.name = some f__law_refused := by kernel_rfl
def lrH : Mp.S := .hd ["DoppelError"] (some 1) [
    .ret (.and [.isi (.v 1) [.exc "NotAllowed"], .isi (.v 1) [.exc "ValueError"], .not (.isi (.v 1) [.exc "TooLarge"])])] .hn
theorem lrH_ok {n : Nat} {d : D} : dH (P.cs_ n) lrH "NotAllowed" [some d, none] = .ok (.rt (.bl true)) [some d, none] := by kernel_rfl
theorem isx_na {n : Nat} : (P.cs_ n).isx "NotAllowed" = true := by kernel_rfl
theorem lref_ok {n : Nat} {d : D} (h : P.call (n + 1) "check_machine" [d] = .ex "NotAllowed") : ∃ ls, P.call (n + 2) "_law_refused" [d] = .ok (.bl true) ls := by
  have s1 : dS (P.cs_ (n + 1)) (.try_ (Mp.allFr 2) [.ex (.call "check_machine" [.v 0])] lrH) [some d, none] = .ok (.rt (.bl true)) [some d, none] :=
    try_ex (e1 := [some d, none]) (dB_cex (dS_exx (ev_callx (evs_cons (ev_v rfl) evs_nil) rfl h))) isx_na lrH_ok
  exact call_rt find_lref rfl (dB_ret s1)
/-! ### lengths -/
theorem find_llen : P.find f__law_lengths.d.name = some f__law_lengths := by kernel_rfl
def llBody : List Mp.S := [
    .try_ (Mp.allFr 3) [
      .ex (.call "count_words" [.v 0, .v 2])] (.hd ["NotAllowed"] none [
      .set 1 (.bin .add (.v 1) (.int 1))] .hn)]
theorem ll_h {n : Nat} {d o : Option D} {c : Int} : dH (P.cs_ n) (.hd ["NotAllowed"] none [.set 1 (.bin .add (.v 1) (.int 1))] .hn) "NotAllowed" [d, some (.int c), o] = .ok .nx [d, some (.int (c + 1)), o] := by
  have h1 : ([("NotAllowed" : Str)].any fun x => (P.cs_ n).sub "NotAllowed" x) = true := by kernel_rfl
  have h2 : dB (P.cs_ n) [.set 1 (.bin .add (.v 1) (.int 1))] [d, some (.int c), o] = .ok .nx [d, some (.int (c + 1)), o] :=
    dB_cons (dS_set (ev_bin (x := .int c) (y := .int 1) (ev_v rfl) ev_int rfl)) dB_nil
  simp only [dH, h1, if_true, h2]
theorem ll_step {n : Nat} {d : D} {c k : Int} {o : Option D} (hk : k < 0 ∨ 100 < k) : dB (P.cs_ (n + 1)) llBody [some d, some (.int c), some (.int k)] = .ok .nx [some d, some (.int (c + 1)), some (.int k)] :=
  dB_cons (try_ex (e1 := [some d, some (.int c), some (.int k)]) (dB_cex (dS_exx (ev_callx (evs_cons (ev_v rfl) (evs_cons (ev_v rfl) evs_nil)) rfl (cnt_no hk)))) isx_na ll_h) dB_nil
theorem llen_ok {n : Nat} {d : D} : ∃ ls, P.call (n + 2) "_law_lengths" [d] = .ok (.bl true) ls := by
  let C := P.cs_ (n + 1)
  have s1 : dS C (.set 1 (.int 0)) [some d, none, none] = .ok .nx [some d, some (.int 0), none] := dS_set ev_int
  have s2 : dS C (.for_ (.nm 2) .seq [.lst [.neg (.int 1), .int 101, .int 1000]] none llBody) [some d, some (.int 0), none] = .ok .nx [some d, some (.int 3), some (.int 1000)] := by
    refine (dS_for (as := [.lst [.int (-1), .int 101, .int 1000]]) (ds := [.int (-1), .int 101, .int 1000]) (e1 := [some d, some (.int 0), none]) (evs_cons (ev_lst (evs_cons (ev_neg ev_int) (evs_cons ev_int (evs_cons ev_int evs_nil)))) evs_nil) rfl).trans ?_
    have a1 : ∀ (c k : Int) (o : Option D), asg (.nm 2) (.int k) [some d, some (.int c), o] = some [some d, some (.int c), some (.int k)] := fun _ _ _ => rfl
    have h1 := ll_step (n := n) (d := d) (c := 0) (k := -1) (o := none) (.inl (by decide))
    have h2 := ll_step (n := n) (d := d) (c := 1) (k := 101) (o := none) (.inr (by decide))
    have h3 := ll_step (n := n) (d := d) (c := 2) (k := 1000) (o := none) (.inr (by decide))
    simp only [forL, if_true, a1, C]
    rw [h1]
    simp only [forL, if_true, a1, C, Int.zero_add]
    rw [h2]
    simp only [forL, if_true, a1, C]
    exact (by rw [show (1 : Int) + 1 = 2 from rfl, h3]; rfl)
  have s3 : dS C (.ret (.cmp .eq (.v 1) (.int 3))) [some d, some (.int 3), some (.int 1000)] = .ok (.rt (.bl true)) [some d, some (.int 3), some (.int 1000)] :=
    dS_ret (ev_cmp (o := .eq) (k := true) (x := .int 3) (y := .int 3) (ev_v rfl) ev_int rfl).1
  exact call_rt find_llen rfl (dB_cons s1 (dB_cons s2 (dB_ret s3)))
/-! ### bad machines -/
theorem cutD_last {α : Type} (xs : List α) : cutD xs none (some (-1)) = xs.dropLast := by
  unfold cutD
  have e1 : HT.sIx xs.length 0 none = 0 := rfl
  have e2 : HT.sIx xs.length xs.length (some (-1)) = xs.length - 1 := by
    show (if (-1 : Int) < 0 then (-1 + (xs.length : Int)).toNat else min (-1 : Int).toNat xs.length) = _
    rw [if_pos (by decide)]
    omega
  rw [e1, e2, List.drop_zero, List.dropLast_eq_take, Nat.sub_zero]
theorem cutD_tail {α : Type} (xs : List α) : cutD xs (some 1) none = xs.tail := by
  unfold cutD
  have e1 : HT.sIx xs.length 0 (some 1) = min 1 xs.length := HT.sIx_nat _ _ 1
  have e2 : HT.sIx xs.length xs.length none = xs.length := rfl
  rw [e1, e2]
  cases xs with
  | nil => rfl
  | cons x xs =>
    rw [show min 1 (x :: xs).length = 1 by simp only [List.length_cons]; omega]
    simp
theorem ev_slL {C : Cs} {a : E} {xs : List D} {e e1 : Mp.Env} (ha : (den C a).1 e = .ok (.tup xs) e1) : (den C (.sl a [] [.neg (.int 1)])).1 e = .ok (.tup xs.dropLast) e1 := by
  have h := ev_neg (C := C) (a := .int 1) (i := 1) (e := e1) (e1 := e1) ev_int
  rw [den]
  simp only [val, dens, partM, M.bind, ha, M.ret, h, M.opt, slD]
  rw [show (-(1 : Int)) = -1 from rfl, cutD_last]
theorem ev_slR {C : Cs} {a : E} {xs : List D} {e e1 : Mp.Env} (ha : (den C a).1 e = .ok (.tup xs) e1) : (den C (.sl a [.int 1] [])).1 e = .ok (.tup xs.tail) e1 := by
  have h := ev_int (C := C) (i := 1) (e := e1)
  rw [den]
  simp only [val, dens, partM, M.bind, ha, M.ret, h, M.opt, slD]
  rw [cutD_tail]
def Bad (d : D) : Prop := ∃ L rows acc, d = mD L rows acc ∧ chkB L rows acc = false
theorem chkB_shape {L : Int} {rows : List (List Int)} {acc : List Bool} (h : ¬ (0 ≤ L ∧ L ≤ 200 ∧ rows.length ≤ 400 ∧ acc.length = rows.length)) : chkB L rows acc = false := by
  unfold chkB; rw [decide_eq_false h, Bool.false_and]
theorem chkB_row {L : Int} {rows : List (List Int)} {acc : List Bool} {r : List Int} (hr : r ∈ rows) (h : goodR L rows.length r = false) : chkB L rows acc = false := by
  unfold chkB
  have : rows.all (goodR L rows.length) = false := by
    rw [List.all_eq_false]
    exact ⟨r, hr, by rw [h]; decide⟩
  rw [this, Bool.and_false]
theorem goodR_len {L : Int} {n : Nat} {r : List Int} (h : (r.length : Int) ≠ L) : goodR L n r = false := by
  unfold goodR; rw [decide_eq_false h, Bool.false_and]
theorem goodR_hd {L : Int} {n : Nat} {x : Int} {r : List Int} (h : ¬ (-1 ≤ x ∧ x < n)) : goodR L n (x :: r) = false := by
  unfold goodR; rw [List.all_cons, decide_eq_false h, Bool.false_and, Bool.and_false]
end Lw
namespace Lw
open PySem Mp
theorem find_lbad : P.find f__law_bad.d.name = some f__law_bad := by kernel_rfl
theorem ev_len {C : Cs} {a : E} {xs : List D} {e e1 : Mp.Env} (ha : (den C a).1 e = .ok (.tup xs) e1) : (den C (.bi .len [a])).1 e = .ok (.int xs.length) e1 := ev_bi1 ha lenT
theorem ev_addT {C : Cs} {a b : E} {xs ys : List D} {e e1 e2 : Mp.Env} (ha : (den C a).1 e = .ok (.tup xs) e1) (hb : (den C b).1 e1 = .ok (.tup ys) e2) (hl : xs.length + ys.length ≤ SZ) : (den C (.bin .add a b)).1 e = .ok (.tup (xs ++ ys)) e2 := ev_bin ha hb (addT hl)
/-- the last row changed -/
theorem bad_row {L : Int} {rows : List (List Int)} {acc : List Bool} {r : List Int} (hz : 0 < rows.length) (h : goodR L rows.length r = false) : Bad (.tup [.int L, .tup ((rows.map tI).dropLast ++ [tI r]), .tup (acc.map .bl)]) := by
  refine ⟨L, rows.dropLast ++ [r], acc, ?_, ?_⟩
  · unfold mD
    rw [List.map_append, List.map_dropLast]; rfl
  · refine chkB_row (r := r) (by simp) ?_
    rw [show (rows.dropLast ++ [r]).length = rows.length by rw [List.length_append, List.length_dropLast, List.length_singleton]; omega]
    exact h
theorem lb_pick {C : Cs} {ds : List D} {num : Int} {e : Mp.Env} (hd : 0 < ds.length) (g5 : getS e 5 = some (.lst ds)) (g1 : getS e 1 = some (.int num)) : ∃ d ∈ ds, dS C (.ret (.ix (.v 5) (.bin .mod (.v 1) (.bi .len [.v 5])))) e = .ok (.rt d) e := by
  have h' : (0 : Int) < ds.length := by omega
  have h0 := Int.emod_nonneg num (show (ds.length : Int) ≠ 0 by omega)
  have h1 := Int.emod_lt_of_pos num h'
  obtain ⟨k, hk⟩ := Int.eq_ofNat_of_zero_le h0
  have hk' : k < ds.length := by omega
  refine ⟨ds[k], List.getElem_mem hk', dS_ret (ev_ix (x := .lst ds) (y := .int (num % ds.length)) (ev_v g5) (ev_bin (x := .int num) (y := .int ds.length) (ev_v g1) (ev_bi1 (ev_v g5) lenL) (modI h')) ?_)⟩
  rw [hk]
  exact atI_nat hk'
theorem lbad_ok {n : Nat} {L : Int} {rows : List (List Int)} {acc : List Bool} {num : Int} (v : Vm L rows acc) : ∃ d ls, Bad d ∧ P.call (n + 1) "_law_bad" [mD L rows acc, .int num] = .ok d ls := by
  let C := P.cs_ n
  let m := some (mD L rows acc)
  let R : D := .tup (rows.map tI)
  let A : D := .tup (acc.map .bl)
  let E0 : Mp.Env := [m, some (.int num), none, none, none, none, none, none]
  let E1 : Mp.Env := [m, some (.int num), some (.int L), some R, some A, none, none, none]
  let b1 : D := .tup [.int (-1), .tup [], .tup []]
  let b2 : D := .tup [.int 201, .tup [], .tup []]
  let b3 : D := .tup [.int L, R, .tup (acc.map .bl ++ [.bl true])]
  let b4 : D := .tup [.int L, .tup (rows.map tI ++ [.tup []]), A]
  let b5 : D := .tup [.int 1, .tup (((rngI 0 401).map fun _ => [(0 : Int)]).map tI), .tup (((rngI 0 401).map fun _ => false).map .bl)]
  let E2 : Mp.Env := [m, some (.int num), some (.int L), some R, some A, some (.lst [b1, b2, b3, b4]), none, none]
  let E3 : Mp.Env := [m, some (.int num), some (.int L), some R, some A, some (.lst [b1, b2, b3, b4, b5]), none, none]
  have k1 : Bad b1 := ⟨-1, [], [], rfl, chkB_shape (by omega)⟩
  have k2 : Bad b2 := ⟨201, [], [], rfl, chkB_shape (by omega)⟩
  have k3 : Bad b3 := ⟨L, rows, acc ++ [true], by simp only [b3, R, mD, List.map_append]; rfl, chkB_shape (by have := v.al; simp; omega)⟩
  have k4 : Bad b4 := ⟨L, rows ++ [[]], acc, by simp only [b4, A, mD, List.map_append]; rfl, chkB_shape (by have := v.al; simp; omega)⟩
  have k5 : Bad b5 := ⟨1, _, _, rfl, chkB_shape (by rw [List.length_map, rngI_len]; omega)⟩
  have hn := v.n4
  have ha := v.al
  have s1 : dS C (.tgt [2, 3, 4] (.v 0)) E0 = .ok .nx E1 := dS_tgt (d := mD L rows acc) (e1 := E0) rfl rfl
  have s2 : dS C (.set 5 (.lst [.tup [.neg (.int 1), .tup [], .tup []], .tup [.int 201, .tup [], .tup []], .tup [.v 2, .v 3, .bin .add (.v 4) (.tup [.bl true])], .tup [.v 2, .bin .add (.v 3) (.bin .mul (.tup [.tup []]) (.int 1)), .v 4]])) E1 = .ok .nx E2 := by
    refine dS_set (e1 := E1) (ev_lst (evs_cons (e1 := E1) (ev_tup (evs_cons (ev_neg ev_int) (evs_cons (ev_tup evs_nil) (evs_cons (ev_tup evs_nil) evs_nil)))) (evs_cons (e1 := E1) (ev_tup (evs_cons ev_int (evs_cons (ev_tup evs_nil) (evs_cons (ev_tup evs_nil) evs_nil)))) (evs_cons (e1 := E1) (ev_tup (evs_cons (e1 := E1) (ev_v rfl) (evs_cons (e1 := E1) (ev_v rfl) (evs_cons (e1 := E1) (ev_addT (xs := acc.map .bl) (ys := [.bl true]) (e1 := E1) (ev_v rfl) (ev_tup (evs_cons ev_bl evs_nil)) ?_) evs_nil)))) (evs_cons (e1 := E1) (ev_tup (evs_cons (e1 := E1) (ev_v rfl) (evs_cons (e1 := E1) (ev_addT (xs := rows.map tI) (ys := [.tup []]) (e1 := E1) (ev_v rfl) (ev_bin (x := .tup [.tup []]) (y := .int 1) (e1 := E1) (ev_tup (evs_cons (ev_tup evs_nil) evs_nil)) ev_int rfl) ?_) (evs_cons (e1 := E1) (ev_v rfl) evs_nil)))) evs_nil)))))
    · rw [List.length_map, SZ_big]; simp; omega
    · rw [List.length_map, SZ_big]; simp; omega
  have lc0 : ∀ (x : E) (d : D) (e : Mp.Env), e.length = 8 → e[7]? = some none → (∀ e', (den C x).1 e' = .ok d e') → (den C (.lc x (.nm 7) .rng [.int 401] [])).1 e = .ok (.lst ((rngI 0 401).map fun _ => d)) e := by
    intro x d e hl h7 hx
    have hw : wipeE e (T.nm 7).slots = e := by
      show e.set 7 none = e
      apply List.ext_getElem?
      intro i
      rw [List.getElem?_set]
      split
      · rename_i h; rw [← h, if_pos (by omega), h7]
      · rfl
    have h := lc_val (C := C) (elt := x) (t := .nm 7) (k := .rng) (ia := [.int 401]) (c := []) (e := e) (e1 := e) (as := [.int 401]) (ds := rngD 0 401) (ys := (rngD 0 401).map fun _ => d) (evs_cons ev_int evs_nil) (by simp only [itF, B62_of (show (401 : Int).natAbs < 1000000 by decide), if_true]; rfl) (by rw [rngD_int, List.length_map, rngI_len, SZ_big]; omega) (by
      rw [show cM (dens C []) = M.ret true from rfl]
      exact lcL_map (g := fun _ => d) fun d' hd => ⟨_, rfl, _, hx _⟩)
    rw [hw] at h
    rw [h, rngD_int, List.map_map]; rfl
  have s3 : dS C (.ex (.mu .append 5 [] [.tup [.int 1, .bi .tuple [.lc (.tup [.int 0]) (.nm 7) .rng [.int 401] []], .bi .tuple [.lc (.bl false) (.nm 7) .rng [.int 401] []]]])) E2 = .ok .nx E3 := by
    have h := dS_app (C := C) (i := 5) (x := .tup [.int 1, .bi .tuple [.lc (.tup [.int 0]) (.nm 7) .rng [.int 401] []], .bi .tuple [.lc (.bl false) (.nm 7) .rng [.int 401] []]]) (e := E2) (e1 := E2) (y := b5) (xs := [b1, b2, b3, b4]) rfl
      (by
        have q1 := lc0 (.tup [.int 0]) (tI [0]) E2 rfl rfl fun e' => ev_tup (evs_cons ev_int evs_nil)
        have q2 := lc0 (.bl false) (.bl false) E2 rfl rfl fun e' => ev_bl
        have e1 : ((rngI 0 401).map fun _ => [(0 : Int)]).map tI = (rngI 0 401).map fun _ => tI [0] := by rw [List.map_map]; rfl
        have e2 : ((rngI 0 401).map fun _ => false).map D.bl = (rngI 0 401).map fun _ => D.bl false := by rw [List.map_map]; rfl
        simp only [b5]
        rw [e1, e2]
        exact ev_tup (evs_cons ev_int (evs_cons (e1 := E2) (ev_bi1 q1 tupL) (evs_cons (e1 := E2) (ev_bi1 q2 tupL) evs_nil)))) rfl (by rw [SZ_big]; simp)
    exact h
  have fin : ∀ (ds : List D) (e : Mp.Env), 0 < ds.length → getS e 5 = some (.lst ds) → getS e 1 = some (.int num) → (∀ d ∈ ds, Bad d) → ∃ d, Bad d ∧ dS C (.ret (.ix (.v 5) (.bin .mod (.v 1) (.bi .len [.v 5])))) e = .ok (.rt d) e := by
    intro ds e hd g5 g1 hb
    obtain ⟨d, hm, h⟩ := lb_pick (C := C) hd g5 g1
    exact ⟨d, hb d hm, h⟩
  have t1 : (den C (.cmp .gt (.bi .len [.v 3]) (.int 0))).2 E3 = .ok (decide ((0 : Int) < rows.length)) E3 :=
    (ev_cmp (e1 := E3) (x := .int rows.length) (y := .int 0) (by have h := ev_len (C := C) (a := .v 3) (xs := rows.map tI) (e := E3) (e1 := E3) (ev_v rfl); rwa [List.length_map] at h) ev_int rfl).2
  have t2 : (den C (.cmp .gt (.v 2) (.int 0))).2 E3 = .ok (decide (0 < L)) E3 := (ev_cmp (e1 := E3) (x := .int L) (y := .int 0) (ev_v rfl) ev_int rfl).2
  have t3 := andP (List.cons_ne_nil _ _) (EvT.cons t1 (EvT.cons t2 EvT.nil))
  have k15 : ∀ d ∈ [b1, b2, b3, b4, b5], Bad d := by
    intro d hd
    simp only [List.mem_cons, List.not_mem_nil, or_false] at hd
    rcases hd with rfl | rfl | rfl | rfl | rfl <;> assumption
  by_cases hz : 0 < rows.length ∧ 0 < L
  · obtain ⟨hz, hL⟩ := hz
    have e : [decide ((0 : Int) < rows.length), decide (0 < L)].all id = true := by simp [hL]; omega
    rw [e] at t3
    let r := rows[rows.length - 1]
    have hrm : r ∈ rows := List.getElem_mem _
    have hr := v.rw r hrm
    have hl2 := v.l2
    let F : List D → Mp.Env := fun ds => [m, some (.int num), some (.int L), some R, some A, some (.lst ds), some (tI r), none]
    have s4 : dS C (.set 6 (.ix (.v 3) (.bin .sub (.bi .len [.v 3]) (.int 1)))) E3 = .ok .nx (F [b1, b2, b3, b4, b5]) := by
      refine dS_set (e1 := E3) (d := tI r) (ev_ix (x := R) (y := .int (rows.length - 1 : Nat)) (e1 := E3) (ev_v rfl) (ev_bin (x := .int rows.length) (y := .int 1) (e1 := E3) (by have h := ev_len (C := C) (a := .v 3) (xs := rows.map tI) (e := E3) (e1 := E3) (ev_v rfl); rwa [List.length_map] at h) ev_int ?_) ?_)
      · rw [subI, show (rows.length : Int) - 1 = ((rows.length - 1 : Nat) : Int) by omega]
      · have h := atI_nat (xs := rows.map tI) (j := rows.length - 1) (by rw [List.length_map]; omega)
        rw [List.getElem_map] at h
        exact h
    have hd1 : (rows.map tI).dropLast.length + 1 ≤ SZ := by rw [List.length_dropLast, List.length_map, SZ_big]; omega
    have put : ∀ (ds : List D) (x : E) (r' : List Int), ds.length ≤ 100 → (den C x).1 (F ds) = .ok (tI r') (F ds) → dS C (.ex (.mu .append 5 [] [.tup [.v 2, .bin .add (.sl (.v 3) [] [.neg (.int 1)]) (.tup [x]), .v 4]])) (F ds) = .ok .nx (F (ds ++ [.tup [.int L, .tup ((rows.map tI).dropLast ++ [tI r']), A]])) := by
      intro ds x r' hds hx
      exact dS_app (e1 := F ds) rfl (ev_tup (evs_cons (e1 := F ds) (ev_v rfl) (evs_cons (e1 := F ds) (ev_addT (e1 := F ds) (ev_slL (e1 := F ds) (ev_v rfl)) (ev_tup (evs_cons hx evs_nil)) hd1) (evs_cons (e1 := F ds) (ev_v rfl) evs_nil)))) rfl (by rw [SZ_big]; omega)
    have x1 : ∀ ds, (den C (.sl (.v 6) [] [.neg (.int 1)])).1 (F ds) = .ok (tI r.dropLast) (F ds) := by
      intro ds
      have h := ev_slL (C := C) (a := .v 6) (xs := r.map .int) (e := F ds) (e1 := F ds) (ev_v rfl)
      rw [← List.map_dropLast] at h
      exact h
    have x2 : ∀ ds, (den C (.bin .add (.v 6) (.tup [.int 0]))).1 (F ds) = .ok (tI (r ++ [0])) (F ds) := by
      intro ds
      have h := ev_addT (C := C) (a := .v 6) (b := .tup [.int 0]) (xs := r.map .int) (ys := [.int 0]) (e := F ds) (e1 := F ds) (e2 := F ds) (ev_v rfl) (ev_tup (evs_cons ev_int evs_nil)) (by rw [List.length_map, SZ_big]; simp; omega)
      rw [show tI (r ++ [0]) = .tup (r.map .int ++ [.int 0]) by simp [tI]]
      exact h
    have x34 : ∀ ds (x : E) (i : Int), (den C x).1 (F ds) = .ok (.int i) (F ds) → (den C (.bin .add (.tup [x]) (.sl (.v 6) [.int 1] []))).1 (F ds) = .ok (tI (i :: r.tail)) (F ds) := by
      intro ds x i hx
      have h := ev_addT (C := C) (a := .tup [x]) (b := .sl (.v 6) [.int 1] []) (xs := [.int i]) (ys := (r.map .int).tail) (e := F ds) (e1 := F ds) (e2 := F ds) (ev_tup (evs_cons hx evs_nil)) (ev_slR (ev_v rfl)) (by rw [List.length_tail, List.length_map, SZ_big]; simp; omega)
      rw [← List.map_tail] at h
      exact h
    have x3 : ∀ ds, (den C (.bi .len [.v 3])).1 (F ds) = .ok (.int rows.length) (F ds) := by
      intro ds
      have h := ev_len (C := C) (a := .v 3) (xs := rows.map tI) (e := F ds) (e1 := F ds) (ev_v rfl)
      rwa [List.length_map] at h
    have p1 := put _ _ _ (by simp) (x1 [b1, b2, b3, b4, b5])
    have p2 := put _ _ _ (by simp) (x2 ([b1, b2, b3, b4, b5] ++ [.tup [.int L, .tup ((rows.map tI).dropLast ++ [tI r.dropLast]), A]]))
    have p3 := put _ _ _ (by simp) (x34 ([b1, b2, b3, b4, b5] ++ [.tup [.int L, .tup ((rows.map tI).dropLast ++ [tI r.dropLast]), A]] ++ [.tup [.int L, .tup ((rows.map tI).dropLast ++ [tI (r ++ [0])]), A]]) _ _ (x3 _))
    have p4 := put _ _ _ (by simp) (x34 ([b1, b2, b3, b4, b5] ++ [.tup [.int L, .tup ((rows.map tI).dropLast ++ [tI r.dropLast]), A]] ++ [.tup [.int L, .tup ((rows.map tI).dropLast ++ [tI (r ++ [0])]), A]] ++ [.tup [.int L, .tup ((rows.map tI).dropLast ++ [tI ((rows.length : Int) :: r.tail)]), A]]) (.neg (.int 2)) (-2) (ev_neg ev_int))
    have g1 : Bad (.tup [.int L, .tup ((rows.map tI).dropLast ++ [tI r.dropLast]), A]) := bad_row hz (goodR_len (by rw [List.length_dropLast]; omega))
    have g2 : Bad (.tup [.int L, .tup ((rows.map tI).dropLast ++ [tI (r ++ [0])]), A]) := bad_row hz (goodR_len (by rw [List.length_append, List.length_singleton]; omega))
    have g3 : Bad (.tup [.int L, .tup ((rows.map tI).dropLast ++ [tI ((rows.length : Int) :: r.tail)]), A]) := bad_row hz (goodR_hd (by omega))
    have g4 : Bad (.tup [.int L, .tup ((rows.map tI).dropLast ++ [tI (-2 :: r.tail)]), A]) := bad_row hz (goodR_hd (by omega))
    obtain ⟨d, hb, hf⟩ := fin _ (F ([b1, b2, b3, b4, b5] ++ [.tup [.int L, .tup ((rows.map tI).dropLast ++ [tI r.dropLast]), A]] ++ [.tup [.int L, .tup ((rows.map tI).dropLast ++ [tI (r ++ [0])]), A]] ++ [.tup [.int L, .tup ((rows.map tI).dropLast ++ [tI ((rows.length : Int) :: r.tail)]), A]] ++ [.tup [.int L, .tup ((rows.map tI).dropLast ++ [tI (-2 :: r.tail)]), A]])) (by simp) rfl rfl (by
      intro d hd
      simp only [List.mem_append, List.mem_singleton] at hd
      rcases hd with (((hd | rfl) | rfl) | rfl) | rfl
      · exact k15 d hd
      all_goals assumption)
    obtain ⟨ls, hc⟩ := call_rt (n := n) (F := f__law_bad) (ds := [mD L rows acc, .int num]) find_lbad rfl (dB_cons s1 (dB_cons s2 (dB_cons s3 (dB_cons (if_t t3 (dB_cons s4 (dB_cons p1 (dB_cons p2 (dB_cons p3 (dB_cons p4 dB_nil)))))) (dB_ret hf)))))
    exact ⟨d, ls, hb, hc⟩
  · have e : [decide ((0 : Int) < rows.length), decide (0 < L)].all id = false := by
      by_cases h1 : 0 < rows.length
      · have h2 : ¬ 0 < L := fun h => hz ⟨h1, h⟩
        simp [h2]
      · have : ¬ (0 : Int) < rows.length := by omega
        simp [this]
        omega
    rw [e] at t3
    obtain ⟨d, hb, hf⟩ := fin [b1, b2, b3, b4, b5] E3 (by simp) rfl rfl k15
    obtain ⟨ls, hc⟩ := call_rt (n := n) (F := f__law_bad) (ds := [mD L rows acc, .int num]) find_lbad rfl (dB_cons s1 (dB_cons s2 (dB_cons s3 (dB_cons (if_f t3 dB_nil) (dB_ret hf)))))
    exact ⟨d, ls, hb, hc⟩
end Lw
namespace Lw
open PySem Mp
theorem P_numbers {n m : Nat} {ns : List Int} (hm : m ≤ 100000) (hn : ns.length ≤ 63) : ∃ (xs : List Int) (ls : List D), xs.length = m ∧ P.call (n + 1) "_law_numbers" [.rol (ns.map .int), .int m] = .ok (lI xs) ls := by
  have hf : P.find f__law_numbers.d.name = some f__law_numbers := by kernel_rfl
  obtain ⟨xs, e, hx, h⟩ := numbers_body (C := P.cs_ n) (ns := ns) (m := m) hm (by omega)
  obtain ⟨ls, hc⟩ := call_rt (n := n) (ds := [.rol (ns.map .int), .int m]) (e := e) hf rfl h
  exact ⟨xs, ls, hx, hc⟩
/-- the machine that the law makes -/
def Gd (d : D) : Prop := ∃ L rows acc, d = mD L rows acc ∧ Vm L rows acc ∧ (rows.length ≤ 63 ∨ L ≤ 1)
section
variable {C : Cs}
theorem ev_x {xs : List Int} {i : Int} {ei : E} {e : Mp.Env} (h1 : getS e 1 = some (lI xs)) (hi : (den C ei).1 e = .ok (.int i) e) (h0 : 0 ≤ i) (hl : i < xs.length) : (den C (.ix (.v 1) ei)).1 e = .ok (.int (getI xs i)) e :=
  ev_ix (x := lI xs) (y := .int i) (ev_v h1) hi (getI_at h0 hl)
theorem ev_mod {a : E} {x m : Int} {e : Mp.Env} (hm : 0 < m) (h : (den C a).1 e = .ok (.int x) e) : (den C (.bin .mod a (.int m))).1 e = .ok (.int (x % m)) e := ev_bin h ev_int (modI hm)
theorem ev_div {a : E} {x m : Int} {e : Mp.Env} (hm : 0 < m ∧ m < 1073741824) (h : (den C a).1 e = .ok (.int x) e) : (den C (.bin .fdiv a (.int m))).1 e = .ok (.int (x / m)) e := ev_bin h ev_int (divI' hm)
theorem ev_addI {a b : E} {x y : Int} {e : Mp.Env} (h : (den C a).1 e = .ok (.int x) e) (h' : (den C b).1 e = .ok (.int y) e) : (den C (.bin .add a b)).1 e = .ok (.int (x + y)) e := ev_bin h h' rfl
end
theorem mk_ok {n : Nat} {xs : List Int} {eL eN eG : E} {L N : Nat} {g : Int} {e : Mp.Env} (h1 : getS e 1 = some (lI xs)) (hx : 0 < xs.length) (hl : [eL, eN, eG].all noLn = true) (aL : (den (P.cs_ (n + 1)) eL).1 e = .ok (.int L) e) (aN : (den (P.cs_ (n + 1)) eN).1 e = .ok (.int N) e) (aG : (den (P.cs_ (n + 1)) eG).1 e = .ok (.int g) e) (hL : L ≤ 200) (hN : N ≤ 400) (hb : N ≤ 63 ∨ L ≤ 1) :
    ∃ d, Gd d ∧ dS (P.cs_ (n + 1)) (.set 2 (.call "_law_machine" [.v 1, .int 20, eL, eN, eG])) e = .ok .nx (setS e 2 d) := by
  obtain ⟨rows, acc, ls, hr, v, hc⟩ := lmach_ok (n := n) (xs := xs) (L := L) (N := N) (g := g) hx hL hN
  exact ⟨mD L rows acc, ⟨L, rows, acc, rfl, v, by omega⟩, dS_set (ev_call (evs_cons (ev_v h1) (evs_cons ev_int (evs_cons aL (evs_cons aN (evs_cons aG evs_nil))))) (by simpa [noLn] using hl) hc)⟩
def bMk : List Mp.S := [
  .set 2 (.call "_law_machine" [.v 1, .int 20, .bin .mod (.ix (.v 1) (.int 0)) (.int 7), .bin .mod (.ix (.v 1) (.int 1)) (.int 10), .bin .mod (.ix (.v 1) (.int 2)) (.int 4)]),
  .ifs (.cmp .eq (.bin .mod (.ix (.v 1) (.int 3)) (.int 12)) (.int 0)) [
    .set 2 (.call "_law_machine" [.v 1, .int 20, .int 1, .bin .add (.int 399) (.bin .mod (.ix (.v 1) (.int 1)) (.int 2)), .int 0])] [],
  .ifs (.cmp .eq (.bin .mod (.ix (.v 1) (.int 3)) (.int 12)) (.int 1)) [
    .set 2 (.call "_law_machine" [.v 1, .int 20, .bin .add (.int 199) (.bin .mod (.ix (.v 1) (.int 1)) (.int 2)), .int 2, .int 1])] []]
theorem modN (x : Int) {m : Nat} (h : 0 < m) : ∃ k : Nat, x % (m : Int) = k ∧ k < m := by
  have h0 := Int.emod_nonneg x (show (m : Int) ≠ 0 by omega)
  have h1 := Int.emod_lt_of_pos x (show (0 : Int) < m by omega)
  obtain ⟨k, hk⟩ := Int.eq_ofNat_of_zero_le h0
  exact ⟨k, hk, by omega⟩
theorem mk_all {n : Nat} {xs : List Int} {s : Option D} (hx : xs.length = 200) : ∃ d, Gd d ∧ ∀ ss r, dB (P.cs_ (n + 1)) ss [s, some (lI xs), some d, none, none, none, none, none] = r → dB (P.cs_ (n + 1)) (bMk ++ ss) [s, some (lI xs), none, none, none, none, none, none] = r := by
  let C := P.cs_ (n + 1)
  have ex : ∀ (i : Int) (o : Option D), 0 ≤ i → i < 200 → (den C (.ix (.v 1) (.int i))).1 [s, some (lI xs), o, none, none, none, none, none] = .ok (.int (getI xs i)) [s, some (lI xs), o, none, none, none, none, none] := fun i o h0 h1 => ev_x rfl ev_int h0 (by omega)
  obtain ⟨k0, e0, l0⟩ := modN (getI xs 0) (m := 7) (by omega)
  obtain ⟨k1, e1, l1⟩ := modN (getI xs 1) (m := 10) (by omega)
  obtain ⟨k2, e2, l2⟩ := modN (getI xs 1) (m := 2) (by omega)
  have s1 : ∃ d, Gd d ∧ dS C (.set 2 (.call "_law_machine" [.v 1, .int 20, .bin .mod (.ix (.v 1) (.int 0)) (.int 7), .bin .mod (.ix (.v 1) (.int 1)) (.int 10), .bin .mod (.ix (.v 1) (.int 2)) (.int 4)])) [s, some (lI xs), none, none, none, none, none, none] = .ok .nx [s, some (lI xs), some d, none, none, none, none, none] := by
    refine mk_ok (L := k0) (N := k1) (g := getI xs 2 % 4) rfl (by omega) rfl ?_ ?_ (ev_mod (by decide) (ex 2 _ (by decide) (by decide))) (by omega) (by omega) (by omega)
    · rw [← e0]; exact ev_mod (by decide) (ex 0 _ (by decide) (by decide))
    · rw [← e1]; exact ev_mod (by decide) (ex 1 _ (by decide) (by decide))
  obtain ⟨d1, g1, s1⟩ := s1
  have t : ∀ (m : Int) (o : Option D), (den C (.cmp .eq (.bin .mod (.ix (.v 1) (.int 3)) (.int 12)) (.int m))).2 [s, some (lI xs), o, none, none, none, none, none] = .ok (decide (getI xs 3 % 12 = m)) [s, some (lI xs), o, none, none, none, none, none] := fun m o =>
    (ev_cmp (o := .eq) (x := .int (getI xs 3 % 12)) (y := .int m) (e1 := [s, some (lI xs), o, none, none, none, none, none]) (ev_mod (by decide) (ex 3 _ (by decide) (by decide))) ev_int eqI).2
  have s2 : ∃ d, Gd d ∧ dS C (.ifs (.cmp .eq (.bin .mod (.ix (.v 1) (.int 3)) (.int 12)) (.int 0)) [
    .set 2 (.call "_law_machine" [.v 1, .int 20, .int 1, .bin .add (.int 399) (.bin .mod (.ix (.v 1) (.int 1)) (.int 2)), .int 0])] []) [s, some (lI xs), some d1, none, none, none, none, none] = .ok .nx [s, some (lI xs), some d, none, none, none, none, none] := by
    have h := t 0 (some d1)
    by_cases hz : getI xs 3 % 12 = 0
    · rw [decide_eq_true hz] at h
      obtain ⟨d, g, q⟩ := mk_ok (n := n) (xs := xs) (eL := .int 1) (eN := .bin .add (.int 399) (.bin .mod (.ix (.v 1) (.int 1)) (.int 2))) (eG := .int 0) (L := 1) (N := 399 + k2) (g := 0) (e := [s, some (lI xs), some d1, none, none, none, none, none]) rfl (by omega) rfl ev_int (by
        rw [show ((399 + k2 : Nat) : Int) = 399 + getI xs 1 % 2 by omega]
        exact ev_addI ev_int (ev_mod (by decide) (ex 1 _ (by decide) (by decide)))) ev_int (by omega) (by omega) (by omega)
      exact ⟨d, g, if_t h (dB_cons q dB_nil)⟩
    · rw [decide_eq_false hz] at h
      exact ⟨d1, g1, if_f h dB_nil⟩
  obtain ⟨d2, g2, s2⟩ := s2
  have s3 : ∃ d, Gd d ∧ dS C (.ifs (.cmp .eq (.bin .mod (.ix (.v 1) (.int 3)) (.int 12)) (.int 1)) [
    .set 2 (.call "_law_machine" [.v 1, .int 20, .bin .add (.int 199) (.bin .mod (.ix (.v 1) (.int 1)) (.int 2)), .int 2, .int 1])] []) [s, some (lI xs), some d2, none, none, none, none, none] = .ok .nx [s, some (lI xs), some d, none, none, none, none, none] := by
    have h := t 1 (some d2)
    by_cases hz : getI xs 3 % 12 = 1
    · rw [decide_eq_true hz] at h
      obtain ⟨d, g, q⟩ := mk_ok (n := n) (xs := xs) (eL := .bin .add (.int 199) (.bin .mod (.ix (.v 1) (.int 1)) (.int 2))) (eN := .int 2) (eG := .int 1) (L := 199 + k2) (N := 2) (g := 1) (e := [s, some (lI xs), some d2, none, none, none, none, none]) rfl (by omega) rfl (by
        rw [show ((199 + k2 : Nat) : Int) = 199 + getI xs 1 % 2 by omega]
        exact ev_addI ev_int (ev_mod (by decide) (ex 1 _ (by decide) (by decide)))) ev_int ev_int (by omega) (by omega) (by omega)
      exact ⟨d, g, if_t h (dB_cons q dB_nil)⟩
    · rw [decide_eq_false hz] at h
      exact ⟨d2, g2, if_f h dB_nil⟩
  obtain ⟨d3, g3, s3⟩ := s3
  exact ⟨d3, g3, fun ss r h => dB_cons s1 (dB_cons s2 (dB_cons s3 h))⟩
/-! ### the words -/
def wdBody : List Mp.S := [
    .set 4 (.lc (.bin .mod (.bin .fdiv (.ix (.v 1) (.bin .add (.int 5) (.v 3))) (.bin .add (.int 1) (.v 7))) (.bin .add (.ix (.v 2) (.int 0)) (.int 1))) (.nm 7) .rng [.bin .mod (.ix (.v 1) (.bin .add (.int 5) (.v 3))) (.int 13)] []),
    .ifs (.cmp .eq (.bin .mod (.bin .fdiv (.ix (.v 1) (.bin .add (.int 5) (.v 3))) (.int 13)) (.int 6)) (.int 0)) [
      .set 4 (.bin .add (.v 4) (.lst [.neg (.int 1)]))] [],
    .set 5 (.call "accepts" [.v 2, .bi .list [.v 4]]),
    .ifs (.or [.not (.isi (.v 5) [.bool]), .cmp .ne (.v 5) (.call "_law_accepts" [.v 2, .v 4])]) [
      .ret (.bl false)] []]
section
variable {L : Int} {rows : List (List Int)} {acc : List Bool}
theorem wd_step {n : Nat} {xs : List Int} {s o4 o5 : Option D} {k : Nat} (hx : xs.length = 200) (v : Vm L rows acc) (hk : k < 100) : ∃ p4 p5, dB (P.cs_ (n + 1)) wdBody [s, some (lI xs), some (mD L rows acc), some (.int k), o4, o5, none, none] = .ok .nx [s, some (lI xs), some (mD L rows acc), some (.int k), p4, p5, none, none] := by
  let C := P.cs_ (n + 1)
  let E : Option D → Option D → Option D → Mp.Env := fun a b c => [s, some (lI xs), some (mD L rows acc), some (.int k), a, b, none, c]
  let x := getI xs (5 + k)
  have ex : ∀ a b c, (den C (.ix (.v 1) (.bin .add (.int 5) (.v 3)))).1 (E a b c) = .ok (.int x) (E a b c) := fun a b c => ev_x rfl (ev_addI ev_int (ev_v rfl)) (by omega) (by omega)
  obtain ⟨j, ej, lj⟩ := modN x (m := 13) (by omega)
  have hL := v.l0
  let w : List Int := (rngI 0 j).map fun i => x / (1 + i) % (L + 1)
  have s1 : dS C (.set 4 (.lc (.bin .mod (.bin .fdiv (.ix (.v 1) (.bin .add (.int 5) (.v 3))) (.bin .add (.int 1) (.v 7))) (.bin .add (.ix (.v 2) (.int 0)) (.int 1))) (.nm 7) .rng [.bin .mod (.ix (.v 1) (.bin .add (.int 5) (.v 3))) (.int 13)] [])) (E o4 o5 none) = .ok .nx (E (some (lI w)) o5 none) := by
    have h := lc_val (C := C) (elt := .bin .mod (.bin .fdiv (.ix (.v 1) (.bin .add (.int 5) (.v 3))) (.bin .add (.int 1) (.v 7))) (.bin .add (.ix (.v 2) (.int 0)) (.int 1))) (t := .nm 7) (k := .rng) (ia := [.bin .mod (.ix (.v 1) (.bin .add (.int 5) (.v 3))) (.int 13)]) (c := []) (e := E o4 o5 none) (e1 := E o4 o5 none) (as := [.int j]) (ds := (rngI 0 j).map .int) (ys := w.map .int)
      (evs_cons (by rw [← ej]; exact ev_mod (by decide) (ex _ _ _)) evs_nil) (by simp only [itF, B62_of (show ((j : Int)).natAbs < 1000000 by omega), if_true, Int.toNat_natCast, rngD_int]) (by rw [List.length_map, rngI_len, SZ_big]; omega) (by
        rw [show cM (dens C []) = M.ret true from rfl]
        rw [lcL_map (g := fun d => match d with | .int i => .int (x / (1 + i) % (L + 1)) | d => d)]
        · simp only [w, List.map_map]; rfl
        · intro d hd
          obtain ⟨i, hi, rfl⟩ := List.mem_map.mp hd
          have hi' := rngI_mem.mp hi
          exact ⟨E o4 o5 (some (.int i)), rfl, E o4 o5 (some (.int i)), ev_bin (x := .int (x / (1 + i))) (y := .int (L + 1)) (e1 := E o4 o5 (some (.int i))) (ev_bin (x := .int x) (y := .int (1 + i)) (e1 := E o4 o5 (some (.int i))) (ex _ _ _) (ev_addI ev_int (ev_v rfl)) (divI' (by omega))) (ev_addI (ev_ix (x := mD L rows acc) (y := .int 0) (ev_v rfl) ev_int at0) ev_int) (modI (by omega))⟩)
    exact dS_set h
  have s2 : ∃ w' : List Int, dS C (.ifs (.cmp .eq (.bin .mod (.bin .fdiv (.ix (.v 1) (.bin .add (.int 5) (.v 3))) (.int 13)) (.int 6)) (.int 0)) [.set 4 (.bin .add (.v 4) (.lst [.neg (.int 1)]))] []) (E (some (lI w)) o5 none) = .ok .nx (E (some (lI w')) o5 none) := by
    have h := (ev_cmp (C := C) (o := .eq) (x := .int (x / 13 % 6)) (y := .int 0) (e1 := E (some (lI w)) o5 none) (ev_mod (by decide) (ev_div (by decide) (ex _ _ _))) ev_int eqI).2
    by_cases hz : x / 13 % 6 = 0
    · rw [decide_eq_true hz] at h
      have hw : w.length = j := by rw [List.length_map, rngI_len]
      have q := dS_set (C := C) (i := 4) (ev_bin (o := .add) (x := lI w) (y := .lst [.int (-1)]) (e := E (some (lI w)) o5 none) (e1 := E (some (lI w)) o5 none) (ev_v (i := 4) rfl) (ev_lst (evs_cons (ev_neg ev_int) evs_nil)) (addL (by rw [List.length_map, hw, SZ_big]; simp; omega)))
      refine ⟨w ++ [-1], if_t h (dB_cons ?_ dB_nil)⟩
      rw [show lI (w ++ [-1]) = .lst (w.map .int ++ [.int (-1)]) by simp [lI]]
      exact q
    · rw [decide_eq_false hz] at h
      exact ⟨w, if_f h dB_nil⟩
  obtain ⟨w', s2⟩ := s2
  obtain ⟨ls1, c1⟩ := accepts_ok v (n := n) (w := w')
  obtain ⟨ls2, c2⟩ := laccepts_ok v (n := n) (w := w')
  have s3 : dS C (.set 5 (.call "accepts" [.v 2, .bi .list [.v 4]])) (E (some (lI w')) o5 none) = .ok .nx (E (some (lI w')) (some (.bl (accF L rows acc w'))) none) :=
    dS_set (e1 := E (some (lI w')) o5 none) (ev_call (e1 := E (some (lI w')) o5 none) (evs_cons (e1 := E (some (lI w')) o5 none) (ev_v rfl) (evs_cons (e1 := E (some (lI w')) o5 none) (ev_bi1 (x := lI w') (ev_v rfl) lstL) evs_nil)) rfl c1)
  let F := E (some (lI w')) (some (.bl (accF L rows acc w'))) none
  have t1 : (den C (.not (.isi (.v 5) [.bool]))).2 F = .ok false F := by
    refine not2 (b := true) ?_
    rw [valT (by rw [den])]
    refine tr_bl ?_
    rw [den]
    simp only [val, M.bind, ev_v (C := C) (i := 5) (d := .bl (accF L rows acc w')) (e := F) rfl, tyAny, tyIs, Option.map_some, M.opt]
  have t2 : (den C (.cmp .ne (.v 5) (.call "_law_accepts" [.v 2, .v 4]))).2 F = .ok false F := by
    have h := (ev_cmp (C := C) (o := .ne) (k := !decide (accF L rows acc w' = accF L rows acc w')) (x := .bl (accF L rows acc w')) (y := .bl (accF L rows acc w')) (e := F) (e1 := F) (e2 := F) (ev_v (i := 5) rfl) (ev_call (f := "_law_accepts") (es := [.v 2, .v 4]) (evs_cons (e1 := F) (ev_v rfl) (evs_cons (e1 := F) (ev_v rfl) evs_nil)) rfl c2) (by simp only [cmpD, eqB, Option.map_some])).2
    rw [h]; simp
  have t3 := orP (List.cons_ne_nil _ _) (EvT.cons t1 (EvT.cons t2 EvT.nil))
  exact ⟨some (lI w'), some (.bl (accF L rows acc w')), dB_cons s1 (dB_cons s2 (dB_cons s3 (dB_cons (if_f t3 dB_nil) dB_nil)))⟩
theorem wd_loop {n : Nat} {xs : List Int} {s : Option D} (hx : xs.length = 200) (v : Vm L rows acc) : ∀ (k lo : Nat) (o3 o4 o5 : Option D), lo + k ≤ 100 → ∃ p3 p4 p5, forL (fun _ => true) (.nm 3) (dB (P.cs_ (n + 1)) wdBody) (rngD lo k) [s, some (lI xs), some (mD L rows acc), o3, o4, o5, none, none] = .ok .nx [s, some (lI xs), some (mD L rows acc), p3, p4, p5, none, none]
  | 0, lo, o3, o4, o5, _ => ⟨o3, o4, o5, rfl⟩
  | k + 1, lo, o3, o4, o5, h => by
    obtain ⟨p4, p5, h3⟩ := wd_step (n := n) (s := s) (o4 := o4) (o5 := o5) (k := lo) hx v (by omega)
    obtain ⟨q3, q4, q5, g3⟩ := wd_loop (n := n) (s := s) hx v k (lo + 1) (some (.int lo)) p4 p5 (by omega)
    refine ⟨q3, q4, q5, ?_⟩
    have ha : asg (.nm 3) (.int lo) [s, some (lI xs), some (mD L rows acc), o3, o4, o5, none, none] = some [s, some (lI xs), some (mD L rows acc), some (.int lo), o4, o5, none, none] := rfl
    simp only [rngD, forL, if_true, ha, h3]
    exact g3
end
end Lw
namespace Lw
open PySem Mp
theorem and_v2 {C : Cs} {x y : E} {a b : Bool} {e : Mp.Env} (h : (den C x).1 e = .ok (.bl a) e) (h' : (den C y).1 e = .ok (.bl b) e) : (den C (.and [x, y])).1 e = .ok (.bl (a && b)) e := by
  simp only [den, dens, andV, M.bind, h]
  cases a with
  | true => simpa using h'
  | false => rfl
theorem t_const {n : Nat} {env : Mp.Env} : (den (P.cs_ n) (.cmp .eq (.lst [.g "MAX_SIGNS", .g "MAX_MACHINE", .g "MAX_PAIRS", .g "MAX_COUNT"]) (.lst [.int 200, .int 400, .int 4000, .int 100]))).1 env = .ok (.bl true) env := by kernel_rfl
def b_end : List Mp.S := [
  .ifs (.or [.cmp .isnn (.call "check_machine" [.v 2]) (.non), .not (.call "_law_refused" [.call "_law_bad" [.v 2, .ix (.v 1) (.int 4)]])]) [
    .ret (.bl false)] [],
  .for_ (.nm 3) .rng [.int 6] none wdBody,
  .set 6 (.ix (.lst [.bin .mod (.ix (.v 1) (.int 11)) (.int 9), .bin .mod (.ix (.v 1) (.int 11)) (.int 101)]) (.bi .int [.and [.cmp .eq (.bin .mod (.bin .fdiv (.ix (.v 1) (.int 11)) (.int 101)) (.int 5)) (.int 0), .cmp .lt (.bi .len [.ix (.v 2) (.int 1)]) (.int 20)]])),
  .set 5 (.call "count_words" [.v 2, .v 6]),
  .ifs (.or [.isi (.v 5) [.bool], .cmp .ne (.v 5) (.call "_law_count" [.v 2, .v 6]), .not (.call "_law_lengths" [.v 2])]) [
    .ret (.bl false)] [],
  .ret (.cmp .eq (.lst [.g "MAX_SIGNS", .g "MAX_MACHINE", .g "MAX_PAIRS", .g "MAX_COUNT"]) (.lst [.int 200, .int 400, .int 4000, .int 100]))]
theorem end_ok {n : Nat} {xs : List Int} {s : Option D} {d : D} (hx : xs.length = 200) (g : Gd d) : ∃ e, dB (P.cs_ (n + 2)) b_end [s, some (lI xs), some d, none, none, none, none, none] = .ok (.rt (.bl true)) e := by
  obtain ⟨L, rows, acc, rfl, v, hb⟩ := g
  let C := P.cs_ (n + 2)
  let E0 : Mp.Env := [s, some (lI xs), some (mD L rows acc), none, none, none, none, none]
  obtain ⟨ls1, c1⟩ := check_ok (n := n + 1).1 v.chk
  have t1 : (den C (.cmp .isnn (.call "check_machine" [.v 2]) (.non))).2 E0 = .ok false E0 :=
    (ev_cmp (C := C) (o := .isnn) (k := false) (x := .non) (y := .non) (e1 := E0) (ev_call (f := "check_machine") (evs_cons (e1 := E0) (ev_v rfl) evs_nil) rfl c1) (by simp only [den, val, M.ret]) (by simp only [cmpD]; rfl)).2
  obtain ⟨db, ls2, hbad, c2⟩ := lbad_ok (n := n + 1) (num := getI xs 4) v
  obtain ⟨L', rows', acc', rfl, hck⟩ := hbad
  obtain ⟨ls3, c3⟩ := lref_ok (check_ok (n := n).2 hck)
  have ex : ∀ (i : Int) (e : Mp.Env), getS e 1 = some (lI xs) → 0 ≤ i → i < 200 → (den C (.ix (.v 1) (.int i))).1 e = .ok (.int (getI xs i)) e := fun i e he h0 h1 => ev_x he ev_int h0 (by omega)
  have t2 : (den C (.not (.call "_law_refused" [.call "_law_bad" [.v 2, .ix (.v 1) (.int 4)]]))).2 E0 = .ok false E0 := by
    refine not2 (b := true) ?_
    rw [valT (by rw [den])]
    refine tr_bl (ev_call (f := "_law_refused") (evs_cons (e1 := E0) (ev_call (f := "_law_bad") (es := [.v 2, .ix (.v 1) (.int 4)]) (evs_cons (e1 := E0) (ev_v rfl) (evs_cons (e1 := E0) (ex 4 E0 rfl (by decide) (by decide)) evs_nil)) rfl c2) evs_nil) rfl c3)
  have s1 := if_f (a := [.ret (.bl false)]) (b := []) (orP (List.cons_ne_nil _ _) (EvT.cons t1 (EvT.cons t2 EvT.nil))) (dB_nil (C := C))
  obtain ⟨p3, p4, p5, g3⟩ := wd_loop (n := n + 1) (s := s) hx v 6 0 none none none (by omega)
  let E1 : Mp.Env := [s, some (lI xs), some (mD L rows acc), p3, p4, p5, none, none]
  have s2 : dS C (.for_ (.nm 3) .rng [.int 6] none wdBody) E0 = .ok .nx E1 := (dS_for (as := [.int 6]) (ds := rngD (0 : Nat) 6) (e1 := E0) (evs_cons ev_int evs_nil) (by rfl)).trans g3
  let x := getI xs 11
  obtain ⟨k9, e9, l9⟩ := modN x (m := 9) (by omega)
  obtain ⟨k1, e1, l1⟩ := modN x (m := 101) (by omega)
  let b : Bool := decide (x / 101 % 5 = 0) && decide ((rows.length : Int) < 20)
  let k : Nat := if b then k1 else k9
  have hk : k ≤ 100 := by show (if b then k1 else k9) ≤ 100; split <;> omega
  let E2 : Mp.Env := [s, some (lI xs), some (mD L rows acc), p3, p4, p5, some (.int k), none]
  have s3 : dS C (.set 6 (.ix (.lst [.bin .mod (.ix (.v 1) (.int 11)) (.int 9), .bin .mod (.ix (.v 1) (.int 11)) (.int 101)]) (.bi .int [.and [.cmp .eq (.bin .mod (.bin .fdiv (.ix (.v 1) (.int 11)) (.int 101)) (.int 5)) (.int 0), .cmp .lt (.bi .len [.ix (.v 2) (.int 1)]) (.int 20)]]))) E1 = .ok .nx E2 := by
    have u1 := (ev_cmp (C := C) (o := .eq) (x := .int (x / 101 % 5)) (y := .int 0) (e := E1) (e1 := E1) (ev_mod (by decide) (ev_div (by decide) (ex 11 E1 rfl (by decide) (by decide)))) ev_int eqI).1
    have u2 := (ev_cmp (C := C) (o := .lt) (x := .int rows.length) (y := .int 20) (e := E1) (e1 := E1) (a := .bi .len [.ix (.v 2) (.int 1)]) (by
      have h := ev_len (C := C) (a := .ix (.v 2) (.int 1)) (xs := rows.map tI) (e := E1) (e1 := E1) (ev_ix (x := mD L rows acc) (y := .int 1) (ev_v rfl) ev_int at1)
      rwa [List.length_map] at h) ev_int rfl).1
    have u3 := and_v2 u1 u2
    refine dS_set (e1 := E1) (d := .int k) (ev_ix (x := .lst [.int k9, .int k1]) (y := .int (if b then 1 else 0)) (e1 := E1) (ev_lst (evs_cons (e1 := E1) ?_ (evs_cons (e1 := E1) ?_ evs_nil))) (ev_bi1 u3 intB) ?_)
    · rw [← e9]; exact ev_mod (by decide) (ex 11 E1 rfl (by decide) (by decide))
    · rw [← e1]; exact ev_mod (by decide) (ex 11 E1 rfl (by decide) (by decide))
    · show ixD _ _ = some (.int ((if b then k1 else k9 : Nat) : Int))
      cases b with
      | true => exact at1
      | false => exact at0
  obtain ⟨ls4, c4⟩ := cnt_ok v (n := n + 1) hk
  obtain ⟨ls5, c5⟩ := lcnt_ok v hb (n := n + 1) hk
  obtain ⟨ls6, c6⟩ := llen_ok (n := n) (d := mD L rows acc)
  let E3 : Mp.Env := [s, some (lI xs), some (mD L rows acc), p3, p4, some (.int (cntF rows acc k)), some (.int k), none]
  have s4 : dS C (.set 5 (.call "count_words" [.v 2, .v 6])) E2 = .ok .nx E3 := dS_set (e1 := E2) (ev_call (f := "count_words") (es := [.v 2, .v 6]) (evs_cons (e1 := E2) (ev_v rfl) (evs_cons (e1 := E2) (ev_v rfl) evs_nil)) rfl c4)
  have w1 : (den C (.isi (.v 5) [.bool])).2 E3 = .ok false E3 := by
    rw [valT (by rw [den])]
    refine tr_bl ?_
    rw [den]
    simp only [val, M.bind, ev_v (C := C) (i := 5) (d := .int (cntF rows acc k)) (e := E3) rfl, tyAny, tyIs, Option.map_some, M.opt]
  have w2 : (den C (.cmp .ne (.v 5) (.call "_law_count" [.v 2, .v 6]))).2 E3 = .ok false E3 := by
    have h := (ev_cmp (C := C) (o := .ne) (k := !decide (cntF rows acc k = cntF rows acc k)) (x := .int (cntF rows acc k)) (y := .int (cntF rows acc k)) (e := E3) (e1 := E3) (e2 := E3) (ev_v (i := 5) rfl) (ev_call (f := "_law_count") (es := [.v 2, .v 6]) (evs_cons (e1 := E3) (ev_v rfl) (evs_cons (e1 := E3) (ev_v rfl) evs_nil)) rfl c5) (by simp only [cmpD, eqI, Option.map_some])).2
    rw [h]; simp
  have w3 : (den C (.not (.call "_law_lengths" [.v 2]))).2 E3 = .ok false E3 := by
    refine not2 (b := true) ?_
    rw [valT (by rw [den])]
    exact tr_bl (ev_call (f := "_law_lengths") (evs_cons (e1 := E3) (ev_v rfl) evs_nil) rfl c6)
  have s5 := if_f (a := [.ret (.bl false)]) (b := []) (orP (List.cons_ne_nil _ _) (EvT.cons w1 (EvT.cons w2 (EvT.cons w3 EvT.nil)))) (dB_nil (C := C))
  exact ⟨E3, dB_cons s1 (dB_cons s2 (dB_cons s3 (dB_cons s4 (dB_cons s5 (dB_ret (dS_ret t_const))))))⟩
theorem find_law : P.find f_law.d.name = some f_law := by kernel_rfl
theorem law26 (ns : List Int) (hn : ns.length ≤ 63) : ∃ ls, P.call 4 f_law.d.name [.rol (ns.map .int)] = .ok (.bl true) ls := by
  obtain ⟨xs, ls, hx, c1⟩ := P_numbers (n := 2) (m := 200) (ns := ns) (by omega) hn
  let s := some (D.rol (ns.map .int))
  obtain ⟨d, g, hm⟩ := mk_all (n := 2) (xs := xs) (s := s) hx
  obtain ⟨e, he⟩ := end_ok (n := 1) (xs := xs) (s := s) hx g
  have s1 : dS (P.cs_ 3) (.set 1 (.call "_law_numbers" [.v 0, .int 200])) [s, none, none, none, none, none, none, none] = .ok .nx [s, some (lI xs), none, none, none, none, none, none] :=
    dS_set (e1 := [s, none, none, none, none, none, none, none]) (ev_call (f := "_law_numbers") (es := [.v 0, .int 200]) (evs_cons (e1 := [s, none, none, none, none, none, none, none]) (ev_v rfl) (evs_cons ev_int evs_nil)) rfl c1)
  exact call_rt (n := 3) (F := f_law) (ds := [.rol (ns.map .int)]) find_law rfl (dB_cons s1 (hm b_end _ he))
end Lw
namespace Lw
open PySem Mp
theorem pok : P.ok = true := by decide +kernel
theorem pnd : (P.fs.map fun F => F.d.name).Nodup := by decide +kernel
abbrev Rr : PySem.W.OpenRow := PySem.W.OpenLaw.row PySem.Challenge.rw_doppelganger_k26_machines_checked
abbrev hk : PySem.W.Hook := He.hookX 4 [] (P.fs.map Fd.d) [] [] P.factB
def ob (s : PySem.W.SharedT) : He.AlX := He.obsX 4 [] (P.fs.map Fd.d) [] [] P.factB (HandSHeadRun.getT s)
theorem ob_eq (s : PySem.W.SharedT) : ob s = hk.obs s.abs := He.obsX_eq (HandSHeadRun.getT_eq s)
abbrev loose : List Str := ["__name__", "DoppelError", "NotAllowed", "TooLarge", "MAX_SIGNS", "MAX_MACHINE", "MAX_PAIRS", "MAX_COUNT", "check_machine", "accepts", "count_words", "_law_numbers", "_law_machine", "_law_refused", "_law_bad", "_law_accepts", "_law_count", "_law_lengths"]
theorem run (w : World) : HandSHeadRun.RunEq Rr (PySem.W.view Rr.prog [20]) hk ob 4000 loose w := by
  intro os
  kernel_rfl
end Lw
open PySem PySem.W PySem.Calls PyProof.Rows
theorem PySem.Challenge.cw_doppelganger_k26_machines_checked_holds : PySem.Challenge.rw_doppelganger_k26_machines_checked.Holds := by
  w_on; o_law
  refine HandSHeadRun.head_any (r := OpenLaw.row PySem.Challenge.rw_doppelganger_k26_machines_checked) (q := view (OpenLaw.row PySem.Challenge.rw_doppelganger_k26_machines_checked).prog [20]) (H := Lw.hk) (ob := Lw.ob) (M := 4000) (loose := Lw.loose) (d := HandSHeadRun.topDef (OpenLaw.row PySem.Challenge.rw_doppelganger_k26_machines_checked).prog 20) (kwd := []) Lw.ob_eq
    (by kernel_rfl) (fun s => by kernel_rfl) Lw.run (by kernel_rfl) (by kernel_rfl) (by kernel_rfl) (by rfl) (by first | assumption | decide +kernel) (by decide +kernel) ⟨rfl, rfl, rfl, rfl, rfl, by decide +kernel⟩ ?hw ?hc
  case hw => w_witness2
  case hc =>
    exact Mp.law_end (l := PySem.Challenge.rw_doppelganger_k26_machines_checked) (n := 63) (k := 4) (P := Lw.P) (L := Lw.f_law) (x := "_law_script") rfl (by decide) (by kernel_rfl) ⟨rfl, by decide, by decide⟩ (by kernel_rfl) (by simp [Lw.P]) rfl Lw.pok Lw.pnd Lw.bds Lw.law26
