import PyProof.Rows.All
import Wide.All
import OpenK.AllK
import Wide.FinOn
import HandS.ForMost
import HandS.Text
import HandS.StrSplit
import HandS.ExcOwn
import HandS.HeadHook2
import HandS.HeadEnd
import HandS.Head2
import HandS.TupAny
import HandS.TupMul
import HandS.TupLe
import HandS.Deep
import HandS.Codes
import HandS.IsInst
import HandS.SortInts
import HandS.SortOrd
import HandS.Flow
import HandS.TupLen
import HandS.WordsDict
import HandS.Iter
import HandS.RaiseMore
import HandS.ExcIs
import HandS.TryOnly
import HandS.More
import HandS.TryMany
import KE.GoesMore
import PyProof.EnumMake
import HandS.Conv
import PyProof.CollectWalk
import HandS.Rev
import HandS.Comp
import HandS.WordsExc
import HandS.FStr
import HandS.DictComp
import HandS.Small
import HandS.HeadHook3
import HandS.HeadHook4
import HandS.EndBits
import PySem.Challenge.RW_doppelganger_k75_clients_refused
set_option Elab.async false
set_option linter.all false
set_option maxRecDepth 100000
set_option maxHeartbeats 0
/-! Mp0: a text cut at a separator, at most so many times, by lists of signs. -/
namespace Mp
open PySem PySem.Builtin PySem.Builtin.Str PySem.StrLaws TL
section
variable {s sub : Str} {hi lim big : Nat}
theorem run_full : ∀ (l : List Nat) (st : Array Nat × Nat), lim ≤ st.fst.size → (forIn l st (occBody s sub hi lim)).run.fst = st.fst
  | [], st, _ => rfl
  | a :: l, st, h => by
    rw [List.forIn_cons]
    unfold occBody
    split
    · rename_i hc
      have := hc.1.1.1
      omega
    · exact run_full l _ h
theorem run_ext : ∀ (l : List Nat) (st : Array Nat × Nat), ∃ e, (forIn l st (occBody s sub hi lim)).run.fst.toList = st.fst.toList ++ e
  | [], st => ⟨[], by rw [List.append_nil]; rfl⟩
  | a :: l, st => by
    rw [List.forIn_cons]
    unfold occBody
    split
    · obtain ⟨e, h⟩ := run_ext l (st.fst.push a, a + sub.length)
      refine ⟨a :: e, ?_⟩
      refine Eq.trans h ?_
      show (st.fst.push a).toList ++ e = _
      rw [Array.toList_push, List.append_assoc]; rfl
    · exact run_ext l _
theorem run_take : ∀ (l : List Nat) (st : Array Nat × Nat), st.fst.size ≤ lim → st.fst.size + l.length ≤ big → (forIn l st (occBody s sub hi lim)).run.fst.toList = ((forIn l st (occBody s sub hi big)).run.fst.toList).take lim
  | [], st, h, _ => by
    show st.fst.toList = st.fst.toList.take lim
    rw [List.take_of_length_le (by simpa using h)]
  | a :: l, st, h, hb => by
    rw [List.length_cons] at hb
    by_cases hf : st.fst.size < lim
    · rw [List.forIn_cons, List.forIn_cons]
      unfold occBody
      by_cases hc : ((st.snd ≤ a) ∧ a + sub.length ≤ hi) ∧ subAt s sub a = true
      · rw [if_pos ⟨⟨⟨hf, hc.1.1⟩, hc.1.2⟩, hc.2⟩, if_pos ⟨⟨⟨by omega, hc.1.1⟩, hc.1.2⟩, hc.2⟩]
        exact run_take l (st.fst.push a, a + sub.length) (by simp; omega) (by simp; omega)
      · rw [if_neg fun z => hc ⟨⟨z.1.1.2, z.1.2⟩, z.2⟩, if_neg fun z => hc ⟨⟨z.1.1.2, z.1.2⟩, z.2⟩]
        exact run_take l (st.fst, st.snd) h (by show st.fst.size + l.length ≤ big; omega)
    · rw [run_full _ _ (by omega)]
      obtain ⟨e, he⟩ := run_ext (s := s) (sub := sub) (hi := hi) (lim := big) (a :: l) st
      rw [he, List.take_append_of_le_length (by simp; omega), List.take_of_length_le (by simpa using h)]
end
theorem occ_take (x y : Str) (k : Nat) : occurrences x y 0 x.length k = (occurrences x y 0 x.length (x.length + 1)).take k := by
  rw [occ_eq, occ_eq]
  exact run_take _ _ (Nat.zero_le _) (by simp)
/-- at most k cuts -/
def splN (S : List Nat) : Nat → List Nat → List (List Nat)
  | 0, L => [L]
  | k + 1, L => match par S [] L with
    | some (a, r) => a :: splN S k r
    | none => [L]
theorem parts_splN {x y : Str} (hy : tl y ≠ []) : ∀ (cuts : List Nat) (a f k : Nat), a ≤ (tl x).length → ChainG x y x.length a cuts f → (∀ k, f ≤ k → ¬ At x y x.length k) →
    (partsFrom x y.length a (cuts.take k)).map tl = splN (tl y) k ((tl x).drop a)
  | cuts, a, f, 0, ha, h, hn => by
    rw [List.take_zero]
    show [tl (strSub x a x.length)] = [_]
    rw [tl_strSub_end]
  | [], a, f, k + 1, ha, h, hn => by
    have e : f = a := h
    subst e
    have hx := len_tl x
    have run := par_run (tl y) (tl x) ((tl x).length - f) f [] (by omega) (fun k h1 _ => no_at hy (hn k h1))
    have e2 : f + ((tl x).length - f) = (tl x).length := by omega
    rw [e2, List.drop_length] at run
    show [tl (strSub x f x.length)] = splN (tl y) (k + 1) _
    unfold splN
    rw [run]
    show _ = [_]
    rw [tl_strSub_end]
  | c :: r, a, f, k + 1, ha, h, hn => by
    obtain ⟨h1, h2, h3, h4⟩ := h
    have hc : c + y.length ≤ x.length := h2.1
    have hx := len_tl x
    have hl := len_tl y
    have ih := parts_splN hy r (c + y.length) f k (by omega) h4 hn
    have run := par_run (tl y) (tl x) (c - a) a [] (by omega) (fun k k1 k2 => no_at hy (h3 k k1 (by omega)))
    have e2 : a + (c - a) = c := by omega
    rw [e2, List.nil_append, par_at hy ((at_iff hy c).mp h2)] at run
    show tl (strSub x a c) :: (partsFrom x y.length (c + y.length) (r.take k)).map tl = splN (tl y) (k + 1) _
    unfold splN
    rw [run]
    show _ = _ :: splN (tl y) k _
    rw [ih, tl_strSub, hl]
theorem splitMax_spl (x y : Str) (k : Nat) (hy : tl y ≠ []) (hk : ¬ Builtin.Str.strKind x < Builtin.Str.strKind y) : (Txt.splitMax x y k).map tl = splN (tl y) k (tl x) := by
  obtain ⟨f, g, hn⟩ := occ_tight x y (len1 hy)
  have key := parts_splN hy _ 0 f k (Nat.zero_le _) g hn
  rw [List.drop_zero, ← occ_take] at key
  have el : limitOf x (k : Int) = k := by unfold limitOf; rw [if_neg (by omega)]; exact Int.toNat_natCast k
  have none_case : occurrences x y 0 x.length k = [] → [x].map tl = splN (tl y) k (tl x) := fun ho => by
    rw [ho] at key
    rw [← key]
    show [tl x] = [tl (strSub x 0 x.length)]
    rw [sub_whole]
  unfold Txt.splitMax
  rw [el]
  by_cases h1 : (decide (x.length < y.length) || decide (Builtin.Str.strKind x < Builtin.Str.strKind y)) = true
  · rw [if_pos h1]
    have hlt : x.length < y.length := by
      simp only [Bool.or_eq_true, decide_eq_true_eq] at h1
      rcases h1 with h | h
      · exact h
      · exact absurd h hk
    refine none_case ?_
    rw [occ_take]
    cases ho : occurrences x y 0 x.length (x.length + 1) with
    | nil => simp
    | cons c r =>
      rw [ho] at g
      have hc : c + y.length ≤ x.length := g.2.1.1
      omega
  · rw [if_neg h1]
    by_cases h2 : (occurrences x y 0 x.length k).isEmpty = true
    · rw [if_pos h2]
      exact none_case (List.isEmpty_iff.mp h2)
    · rw [if_neg h2, partsBetween_eq]
      exact key
/-- texts of lists of signs -/
def mkS (l : List Nat) : Str := ⟨l.toArray⟩
theorem tl_mkS (l : List Nat) : tl (mkS l) = l := rfl
theorem mkS_tl : ∀ {xs : List Str} {ls : List (List Nat)}, xs.map tl = ls → xs = ls.map mkS
  | xs, ls, h => map_tl_inj (by rw [h, List.map_map]; exact (List.map_id' ls).symm ▸ rfl)
/-- a separator that may be asked for -/
def sepB (y : Str) : Bool := decide (y.cps.toList ≠ []) && y.cps.all (· < 256)
theorem split_mk {x y : Str} (h : sepB y = true) : Txt.split x y = (spl (tl y) 0 [] (tl x)).map mkS := by
  unfold sepB at h
  simp only [Bool.and_eq_true, decide_eq_true_eq] at h
  exact mkS_tl (split_spl x y h.1 (kind_ok h.2))
theorem splitMax_mk {x y : Str} {k : Nat} (h : sepB y = true) : Txt.splitMax x y k = (splN (tl y) k (tl x)).map mkS := by
  unfold sepB at h
  simp only [Bool.and_eq_true, decide_eq_true_eq] at h
  exact mkS_tl (splitMax_spl x y k h.1 (kind_ok h.2))
theorem sep_len {y : Str} (h : sepB y = true) : (y.length == 0) = false := by
  unfold sepB at h
  simp only [Bool.and_eq_true, decide_eq_true_eq] at h
  have : y.length ≠ 0 := by
    rw [len_tl]
    intro z
    exact h.1 (List.length_eq_zero_iff.mp z)
  simpa using this
end Mp
/-! Mp1: data as trees, a small language of programs over them, what it does. -/
namespace Mp
open PySem

/-! ### data -/
inductive D where
  | non
  | bl (b : Bool)
  | int (i : Int)
  | str (x : Str)
  | tup (xs : List D)
  | lst (xs : List D)
  | rol (xs : List D)
  | dct (t : Bool) (ks vs : List D)
  | exc (c : Str)

instance : Inhabited D := ⟨.non⟩

mutual
def D.beq : D → D → Bool
  | .non, .non => true
  | .bl a, .bl b => a == b
  | .int a, .int b => decide (a = b)
  | .str a, .str b => decide (a = b)
  | .tup a, .tup b => D.beqs a b
  | .lst a, .lst b => D.beqs a b
  | .rol a, .rol b => D.beqs a b
  | .dct t a c, .dct u b d => (t == u) && (D.beqs a b && D.beqs c d)
  | .exc a, .exc b => decide (a = b)
  | _, _ => false
def D.beqs : List D → List D → Bool
  | [], [] => true
  | x :: xs, y :: ys => D.beq x y && D.beqs xs ys
  | _, _ => false
end
mutual
theorem D.beq_eq : ∀ {a b : D}, D.beq a b = true → a = b
  | .non, .non, _ => rfl
  | .bl a, .bl b, h => by simp [D.beq] at h; rw [h]
  | .int a, .int b, h => by simp [D.beq] at h; rw [h]
  | .str a, .str b, h => by simp [D.beq] at h; rw [h]
  | .exc a, .exc b, h => by simp [D.beq] at h; rw [h]
  | .tup a, .tup b, h => by simp [D.beq] at h; rw [D.beqs_eq h]
  | .lst a, .lst b, h => by simp [D.beq] at h; rw [D.beqs_eq h]
  | .rol a, .rol b, h => by simp [D.beq] at h; rw [D.beqs_eq h]
  | .dct t a c, .dct u b d, h => by simp [D.beq] at h; rw [h.1, D.beqs_eq h.2.1, D.beqs_eq h.2.2]
  | .non, .bl _, h => by simp [D.beq] at h
  | .non, .int _, h => by simp [D.beq] at h
  | .non, .str _, h => by simp [D.beq] at h
  | .non, .tup _, h => by simp [D.beq] at h
  | .non, .lst _, h => by simp [D.beq] at h
  | .non, .rol _, h => by simp [D.beq] at h
  | .non, .dct _ _ _, h => by simp [D.beq] at h
  | .non, .exc _, h => by simp [D.beq] at h
  | .bl _, .non, h => by simp [D.beq] at h
  | .bl _, .int _, h => by simp [D.beq] at h
  | .bl _, .str _, h => by simp [D.beq] at h
  | .bl _, .tup _, h => by simp [D.beq] at h
  | .bl _, .lst _, h => by simp [D.beq] at h
  | .bl _, .rol _, h => by simp [D.beq] at h
  | .bl _, .dct _ _ _, h => by simp [D.beq] at h
  | .bl _, .exc _, h => by simp [D.beq] at h
  | .int _, .non, h => by simp [D.beq] at h
  | .int _, .bl _, h => by simp [D.beq] at h
  | .int _, .str _, h => by simp [D.beq] at h
  | .int _, .tup _, h => by simp [D.beq] at h
  | .int _, .lst _, h => by simp [D.beq] at h
  | .int _, .rol _, h => by simp [D.beq] at h
  | .int _, .dct _ _ _, h => by simp [D.beq] at h
  | .int _, .exc _, h => by simp [D.beq] at h
  | .str _, .non, h => by simp [D.beq] at h
  | .str _, .bl _, h => by simp [D.beq] at h
  | .str _, .int _, h => by simp [D.beq] at h
  | .str _, .tup _, h => by simp [D.beq] at h
  | .str _, .lst _, h => by simp [D.beq] at h
  | .str _, .rol _, h => by simp [D.beq] at h
  | .str _, .dct _ _ _, h => by simp [D.beq] at h
  | .str _, .exc _, h => by simp [D.beq] at h
  | .tup _, .non, h => by simp [D.beq] at h
  | .tup _, .bl _, h => by simp [D.beq] at h
  | .tup _, .int _, h => by simp [D.beq] at h
  | .tup _, .str _, h => by simp [D.beq] at h
  | .tup _, .lst _, h => by simp [D.beq] at h
  | .tup _, .rol _, h => by simp [D.beq] at h
  | .tup _, .dct _ _ _, h => by simp [D.beq] at h
  | .tup _, .exc _, h => by simp [D.beq] at h
  | .lst _, .non, h => by simp [D.beq] at h
  | .lst _, .bl _, h => by simp [D.beq] at h
  | .lst _, .int _, h => by simp [D.beq] at h
  | .lst _, .str _, h => by simp [D.beq] at h
  | .lst _, .tup _, h => by simp [D.beq] at h
  | .lst _, .rol _, h => by simp [D.beq] at h
  | .lst _, .dct _ _ _, h => by simp [D.beq] at h
  | .lst _, .exc _, h => by simp [D.beq] at h
  | .rol _, .non, h => by simp [D.beq] at h
  | .rol _, .bl _, h => by simp [D.beq] at h
  | .rol _, .int _, h => by simp [D.beq] at h
  | .rol _, .str _, h => by simp [D.beq] at h
  | .rol _, .tup _, h => by simp [D.beq] at h
  | .rol _, .lst _, h => by simp [D.beq] at h
  | .rol _, .dct _ _ _, h => by simp [D.beq] at h
  | .rol _, .exc _, h => by simp [D.beq] at h
  | .dct _ _ _, .non, h => by simp [D.beq] at h
  | .dct _ _ _, .bl _, h => by simp [D.beq] at h
  | .dct _ _ _, .int _, h => by simp [D.beq] at h
  | .dct _ _ _, .str _, h => by simp [D.beq] at h
  | .dct _ _ _, .tup _, h => by simp [D.beq] at h
  | .dct _ _ _, .lst _, h => by simp [D.beq] at h
  | .dct _ _ _, .rol _, h => by simp [D.beq] at h
  | .dct _ _ _, .exc _, h => by simp [D.beq] at h
  | .exc _, .non, h => by simp [D.beq] at h
  | .exc _, .bl _, h => by simp [D.beq] at h
  | .exc _, .int _, h => by simp [D.beq] at h
  | .exc _, .str _, h => by simp [D.beq] at h
  | .exc _, .tup _, h => by simp [D.beq] at h
  | .exc _, .lst _, h => by simp [D.beq] at h
  | .exc _, .rol _, h => by simp [D.beq] at h
  | .exc _, .dct _ _ _, h => by simp [D.beq] at h
theorem D.beqs_eq : ∀ {a b : List D}, D.beqs a b = true → a = b
  | [], [], _ => rfl
  | x :: xs, y :: ys, h => by simp [D.beqs] at h; rw [D.beq_eq h.1, D.beqs_eq h.2]
  | [], _ :: _, h => by simp [D.beqs] at h
  | _ :: _, [], h => by simp [D.beqs] at h
end
mutual
theorem D.beq_refl : ∀ a : D, D.beq a a = true
  | .non => rfl
  | .bl a => by simp [D.beq]
  | .int a => by simp [D.beq]
  | .str a => by simp [D.beq]
  | .tup a => by simp [D.beq, D.beqs_refl a]
  | .lst a => by simp [D.beq, D.beqs_refl a]
  | .rol a => by simp [D.beq, D.beqs_refl a]
  | .dct t a b => by simp [D.beq, D.beqs_refl a, D.beqs_refl b]
  | .exc a => by simp [D.beq]
theorem D.beqs_refl : ∀ a : List D, D.beqs a a = true
  | [] => rfl
  | x :: xs => by simp [D.beqs, D.beq_refl x, D.beqs_refl xs]
end
theorem D.beq_iff {a b : D} : D.beq a b = true ↔ a = b := ⟨D.beq_eq, fun e => e ▸ D.beq_refl a⟩
instance : DecidableEq D := fun a b => if h : D.beq a b = true then .isTrue (D.beq_eq h) else .isFalse fun e => h (D.beq_iff.mpr e)

/-! ### results -/
abbrev Env := List (Option D)
inductive R (α : Type) where
  | ok (a : α) (e : Env)
  | ex (c : Str) (e : Env)
  | no
abbrev M (α : Type) := Env → R α
def M.bind {α β : Type} (f : M α) (g : α → M β) : M β := fun e => match f e with
  | .ok a e' => g a e'
  | .ex c e' => .ex c e'
  | .no => .no
def M.ret {α : Type} (a : α) : M α := fun e => .ok a e
def M.opt {α : Type} (o : Option α) : M α := fun e => match o with
  | some a => .ok a e
  | none => .no

/-! ### what the operators give -/
def SZ : Nat := 16777216
def D.truth : D → Option Bool
  | .non => some false
  | .bl b => some b
  | .int i => some (i != 0)
  | .str x => if x.length ≤ SZ then some ((x.length : Int) != 0) else none
  | .tup xs => some (!xs.isEmpty)
  | .lst xs => some (!xs.isEmpty)
  | .rol xs => some (!xs.isEmpty)
  | .dct false ks _ => some (!ks.isEmpty)
  | .dct true _ _ => none
  | .exc _ => none

mutual
def D.toP : D → PyData
  | .non => .none
  | .bl b => .bool b
  | .int i => .int i
  | .str x => .str x
  | .tup xs => .tuple (D.toPs xs)
  | .lst xs => .list (D.toPs xs)
  | .rol _ => .dict []
  | .dct _ _ _ => .dict []
  | .exc _ => .dict []
def D.toPs : List D → List PyData
  | [] => []
  | x :: xs => D.toP x :: D.toPs xs
end
/-- may be compared by == -/
def D.shp (d : D) : Bool := SeqAt.shaped d.toP
def eqD (a b : D) : Option Bool := if a.shp && b.shp then some (PyData.eqv a.toP b.toP) else none

def W64 (i : Int) : Bool := decide (i.natAbs < 18446744073709551616)
def B62 (i : Int) : Bool := decide (i.natAbs < 4611686018427387904)

inductive BO where | add | sub | mul | fdiv | mod | pow
  deriving DecidableEq
def addD : D → D → Option D
  | .int a, .int b => some (.int (a + b))
  | .str a, .str b => if a.length + b.length ≤ SZ then some (.str (a ++ b)) else none
  | .lst a, .lst b => if a.length + b.length ≤ SZ then some (.lst (a ++ b)) else none
  | .tup a, .tup b => if a.length + b.length ≤ SZ then some (.tup (a ++ b)) else none
  | _, _ => none
def binD : BO → D → D → Option D
  | .add, a, b => addD a b
  | .sub, .int a, .int b => some (.int (a - b))
  | .mul, .int a, .int b => if W64 a || W64 b then some (.int (a * b)) else none
  | .mul, .tup xs, .int k => if k = 1 then some (.tup xs) else none
  | .mul, .lst xs, .int k => if B62 k && decide (xs.length * k.toNat ≤ SZ) then some (.lst (List.replicate k.toNat xs).flatten) else none
  | .fdiv, .int a, .int b => if 0 < b ∧ b < 1073741824 then some (.int (a / b)) else none
  | .mod, .int a, .int b => if 0 < b then some (.int (a % b)) else none
  | .pow, .int a, .int b => if 0 ≤ b ∧ b ≤ 1000 ∧ a.natAbs < 2 ^ 32 then some (.int (a ^ b.toNat)) else none
  | _, _, _ => none

def ltS (a b : Str) : Bool := decide (a.cps.toList < b.cps.toList)
/-- tuples of ints -/
def D.ints : List D → Option (List Int)
  | [] => some []
  | .int i :: r => (D.ints r).map (i :: ·)
  | _ :: _ => none
def D.strs : List D → Option (List Str)
  | [] => some []
  | .str i :: r => (D.strs r).map (i :: ·)
  | _ :: _ => none
def ltD : D → D → Option Bool
  | .int a, .int b => some (decide (a < b))
  | .str a, .str b => some (ltS a b)
  | .tup a, .tup b => match D.ints a, D.ints b with
    | some x, some y => some (HT.lexLt x y)
    | _, _ => none
  | _, _ => none

/-! ### comparisons -/
/-- x += y: whole numbers -/
def augD (o : BO) : D → D → Option D
  | .int a, .int b => binD o (.int a) (.int b)
  | _, _ => none
inductive CO where | eq | ne | lt | le | gt | ge | isn | isnn | in_ | nin
  deriving DecidableEq
/-- a key: an int, a text; a tuple of these -/
def D.flat : D → Bool
  | .int _ => true
  | .str _ => true
  | _ => false
def keyD : Bool → D → Bool
  | false, d => d.flat
  | true, _ => false
/-- plain values -/
def D.plain : D → Bool
  | .non => true
  | .bl _ => true
  | .int _ => true
  | .str _ => true
  | _ => false
/-- == of plain values -/
def eqF : D → D → Bool
  | .non, .non => true
  | .bl a, .bl b => a == b
  | .bl a, .int b => (if a then 1 else 0) == b
  | .int a, .bl b => a == (if b then 1 else 0)
  | .int a, .int b => a == b
  | .str a, .str b => a == b
  | _, _ => false
def inD (x : D) : D → Option Bool
  | .lst ys => if x.shp && (D.lst ys).shp then some (ys.any fun y => PyData.eqv y.toP x.toP) else none
  | .tup ys => if x.plain && ys.all D.plain then some (ys.any fun y => eqF y x) else none
  | .dct false ks _ => if keyD false x then some (ks.any fun k => decide (k = x)) else none
  | .str y => match x with
    | .str z => some (!(Builtin.Str.occurrences y z 0 y.length 1).isEmpty)
    | _ => none
  | _ => none
def cmpD : CO → D → D → Option Bool
  | .eq, a, b => eqD a b
  | .ne, a, b => (eqD a b).map (!·)
  | .lt, a, b => ltD a b
  | .gt, a, b => ltD b a
  | .le, a, b => (ltD b a).map (!·)
  | .ge, a, b => (ltD a b).map (!·)
  | .isn, a, .non => some (decide (a = .non))
  | .isnn, a, .non => some (!decide (a = .non))
  | .in_, a, b => inD a b
  | .nin, a, b => (inD a b).map (!·)
  | _, _, _ => none

/-! ### subscripts, slices, dicts -/
def dGet : List D → List D → D → Option D
  | k :: ks, v :: vs, x => if k = x then some v else dGet ks vs x
  | _, _, _ => none
def dPut : List D → List D → D → D → List D × List D
  | k :: ks, v :: vs, x, y => if k = x then (k :: ks, y :: vs) else ((k :: (dPut ks vs x y).1), (v :: (dPut ks vs x y).2))
  | _, _, x, y => ([x], [y])
def ixD : D → D → Option D
  | .lst xs, .int i => L2.atI xs i
  | .rol xs, .int i => L2.atI xs i
  | .tup xs, .int i => L2.atI xs i
  | .str x, .int i => if x.length ≤ SZ then (L2.atI x.cps.toList i).map fun c => .str ⟨#[c]⟩ else none
  | .dct false ks vs, k => if keyD false k then dGet ks vs k else none
  | _, _ => none
def cutD {α : Type} (xs : List α) (lo hi : Option Int) : List α := (xs.drop (HT.sIx xs.length 0 lo)).take (HT.sIx xs.length xs.length hi - HT.sIx xs.length 0 lo)
def slD : D → Option Int → Option Int → Option D
  | .lst xs, lo, hi => some (.lst (cutD xs lo hi))
  | .rol xs, lo, hi => some (.lst (cutD xs lo hi))
  | .tup xs, lo, hi => some (.tup (cutD xs lo hi))
  | .str z, lo, hi => if z.length ≤ SZ then some (.str (L2.cutS z lo hi)) else none
  | _, _, _ => none
/-- a place in nested lists -/
def getP : D → List D → Option D
  | d, [] => some d
  | .lst xs, .int i :: r => (L2.atI xs i).bind fun d => getP d r
  | .dct t ks vs, k :: r => if keyD t k then (dGet ks vs k).bind fun d => getP d r else none
  | _, _ => none
def setP : D → List D → D → Option D
  | _, [], y => some y
  | .lst xs, .int i :: r, y => match L2.ixN xs.length i, L2.atI xs i with
    | some j, some d => (setP d r y).map fun d' => .lst (xs.set j d')
    | _, _ => none
  | .dct t ks vs, k :: r, y => if keyD t k then (dGet ks vs k).bind fun d => (setP d r y).map fun d' => .dct t ks (dPut ks vs k d').2 else none
  | _, _, _ => none
/-- x[..][k] = y at the thing that holds the place -/
def putI : D → D → D → Option D
  | .lst xs, .int i, y => (L2.ixN xs.length i).map fun j => .lst (xs.set j y)
  | .dct t ks vs, k, y => if keyD t k && decide (ks.length < SZ) then some (.dct t (dPut ks vs k y).1 (dPut ks vs k y).2) else none
  | _, _, _ => none

/-! ### built-in functions -/
inductive BI where
  | len | abs | int | str | list | tuple | dict | sorted | sum | any | all | max1 | min1 | max2 | min2 | bool
  deriving DecidableEq
def bools : List D → Option (List Bool)
  | [] => some []
  | .bl b :: r => (bools r).map (b :: ·)
  | _ :: _ => none
def insI (x : Int) : List Int → List Int
  | [] => [x]
  | y :: ys => if x ≤ y then x :: y :: ys else y :: insI x ys
def sortI : List Int → List Int
  | [] => []
  | x :: xs => insI x (sortI xs)
def insS (x : Str) : List Str → List Str
  | [] => [x]
  | y :: ys => if ltS y x then y :: insS x ys else x :: y :: ys
def sortS : List Str → List Str
  | [] => []
  | x :: xs => insS x (sortS xs)
abbrev PI2 := Int × Int
def D.pairs : List D → Option (List PI2)
  | [] => some []
  | .tup [.int i, .int j] :: r => (D.pairs r).map ((i, j) :: ·)
  | _ :: _ => none
def leP (a b : PI2) : Bool := decide (a.1 < b.1) || (decide (a.1 = b.1) && decide (a.2 ≤ b.2))
def insP (x : PI2) : List PI2 → List PI2
  | [] => [x]
  | y :: ys => if leP x y then x :: y :: ys else y :: insP x ys
def sortP : List PI2 → List PI2
  | [] => []
  | x :: xs => insP x (sortP xs)
def D.pr (p : PI2) : D := .tup [.int p.1, .int p.2]
def sortDI (xs : List D) : Option (List D) := (D.ints xs).map fun ns => (sortI ns).map .int
def sortP_ (xs : List D) : Option (List D) := (D.pairs xs).map fun ps => (sortP ps).map D.pr
def sortS_ (xs : List D) : Option (List D) := (D.strs xs).bind fun zs => if zs.length < 64 then some ((sortS zs).map .str) else none
def sortD (xs : List D) : Option (List D) := match sortDI xs with
  | some ys => some ys
  | none => sortS_ xs
def maxI : List Int → Option Int
  | [] => none
  | [x] => some x
  | x :: xs => (maxI xs).map fun m => if x ≤ m then m else x
def minI : List Int → Option Int
  | [] => none
  | [x] => some x
  | x :: xs => (minI xs).map fun m => if m ≤ x then m else x
def D.items : D → Option (List D)
  | .lst xs => some xs
  | .tup xs => some xs
  | _ => none
def bF : BI → List D → Option D
  | .len, [.lst xs] => some (.int xs.length)
  | .len, [.rol xs] => some (.int xs.length)
  | .len, [.tup xs] => some (.int xs.length)
  | .len, [.str x] => if x.length ≤ SZ then some (.int x.length) else none
  | .len, [.dct _ ks _] => some (.int ks.length)
  | .abs, [.int i] => some (.int (if i < 0 then -i else i))
  | .int, [.int i] => some (.int i)
  | .int, [.bl b] => some (.int (if b then 1 else 0))
  | .int, [.str x] => if x.length ≤ 640 then (PySem.intText? x).map .int else none
  | .str, [.int i] => if i.natAbs.log2 < 1920 then some (.str (toString i)) else none
  | .str, [.str x] => some (.str x)
  | .list, [.lst xs] => some (.lst xs)
  | .list, [.tup xs] => some (.lst xs)
  | .tuple, [.lst xs] => some (.tup xs)
  | .tuple, [.tup xs] => some (.tup xs)
  | .dict, [.dct t ks vs] => some (.dct t ks vs)
  | .sorted, [.lst xs] => (sortD xs).map .lst
  | .sorted, [.dct false ks _] => if ks.length < 64 then (sortDI ks).map .lst else none
  | .sum, [.lst xs] => (D.ints xs).map fun ns => .int ns.sum
  | .any, [.lst xs] => (bools xs).map fun bs => .bl (bs.any id)
  | .all, [.lst xs] => (bools xs).map fun bs => .bl (bs.all id)
  | .max1, [.lst xs] => (D.ints xs).bind fun ns => (maxI ns).map .int
  | .min1, [.lst xs] => (D.ints xs).bind fun ns => (minI ns).map .int
  | .max2, [.int i, .int j] => some (.int (if j > i then j else i))
  | .min2, [.int i, .int j] => some (.int (if j < i then j else i))
  | .bool, [.bl b] => some (.bl b)
  | _, _ => none
/-- built-in classes for isinstance -/
inductive TY where | int | bool | str | list | tuple | dict | none | exc (c : Str)
  deriving DecidableEq

/-! ### what is walked -/
inductive IK where | seq | rng | enum | zip | rev | renum
  deriving DecidableEq
def rngD (lo : Int) : Nat → List D
  | 0 => []
  | n + 1 => .int lo :: rngD (lo + 1) n
def enumD (k : Int) : List D → List D
  | [] => []
  | x :: xs => .tup [.int k, x] :: enumD (k + 1) xs
def zipD : List D → List D → List D
  | x :: xs, y :: ys => .tup [x, y] :: zipD xs ys
  | _, _ => []
def itF : IK → List D → Option (List D)
  | .seq, [.lst xs] => some xs
  | .seq, [.tup xs] => some xs
  | .seq, [.str x] => some (x.cps.toList.map fun c => .str ⟨#[c]⟩)
  | .rng, [.int j] => if B62 j then some (rngD 0 j.toNat) else none
  | .rng, [.int i, .int j] => if B62 i && B62 j then some (rngD i (j - i).toNat) else none
  | .rng, [.int i, .int j, .int c] => if B62 i && B62 j && decide (c = -1) then some ((rngD (j + 1) (i - j).toNat).reverse) else none
  | .enum, [.lst xs] => some (enumD 0 xs)
  | .enum, [.tup xs] => some (enumD 0 xs)
  | .enum, [.str x] => some (enumD 0 (x.cps.toList.map fun c => .str ⟨#[c]⟩))
  | .zip, [a, b] => match a.items, b.items with
    | some xs, some ys => some (zipD xs ys)
    | _, _ => none
  | .rev, [.lst xs] => some xs.reverse
  | .rev, [.tup xs] => some xs.reverse
  | .renum, [.lst xs] => some (enumD 0 xs).reverse
  | _, _ => none

/-! ### methods -/
inductive ME where | join | split1 | get1 | get2 | index | find | upper | count | srev
  deriving DecidableEq
def idxOf : List D → D → Nat → Option Nat
  | [], _, _ => none
  | y :: ys, x, k => if PyData.eqv y.toP x.toP then some k else idxOf ys x (k + 1)
def meF : ME → D → List D → Option D
  | .get1, .dct t ks vs, [k] => if keyD t k then some ((dGet ks vs k).getD .non) else none
  | .get2, .dct t ks vs, [k, d] => if keyD t k then some ((dGet ks vs k).getD d) else none
  | .split1, .str x, [.str y] => if sepB y && decide (x.length + 2 ≤ SZ) then some (.lst ((TL.spl (TL.tl y) 0 [] (TL.tl x)).map fun l => .str (mkS l))) else none
  | .split1, .str x, [.str y, .int k] => if sepB y && decide (x.length + 2 ≤ SZ) && decide (0 ≤ k) && decide (k ≤ 1000) then some (.lst ((splN (TL.tl y) k.toNat (TL.tl x)).map fun l => .str (mkS l))) else none
  | .upper, .str x, [] => if x.length ≤ 5592405 then some (.str (Txt.upper x)) else none
  | .join, .str y, [.lst xs] => (D.strs xs).bind fun zs => if (zs.map (·.length)).sum + zs.length * y.length ≤ SZ then some (.str (Txt.join y zs)) else none
  | .srev, .lst xs, [] => some (.lst xs.reverse)
  | .index, .lst ys, [x] => if x.shp && (D.lst ys).shp then (idxOf ys x 0).map fun (k : Nat) => .int k else none
  | _, _, _ => none
/-- the receiver's kind -/
def meOk : ME → D → Bool
  | .index, .lst _ => true
  | .srev, .lst _ => true
  | .get1, .dct _ _ _ => true
  | .get2, .dct _ _ _ => true
  | .join, .str _ => true
  | .split1, .str _ => true
  | .find, .str _ => true
  | .upper, .str _ => true
  | .count, .str _ => true
  | _, _ => false
/-- methods that change what stands at a place: the new thing there, the value -/
inductive MU where | append | pop0 | pop1 | extend | insert | setdefault
  deriving DecidableEq
def muF : MU → D → List D → Option (D × D)
  | .append, .lst xs, [y] => if xs.length < SZ then some (.lst (xs ++ [y]), .non) else none
  | .pop0, .lst xs, [] => match xs.getLast? with
    | some y => some (.lst xs.dropLast, y)
    | none => none
  | .pop1, .lst xs, [.int i] => if xs.length ≤ SZ then (match L2.ixN xs.length i, L2.atI xs i with
    | some j, some y => some (.lst (xs.eraseIdx j), y)
    | _, _ => none) else none
  | .extend, .lst xs, [.lst ys] => if xs.length + ys.length ≤ SZ then some (.lst (xs ++ ys), .non) else none
  | .extend, .lst xs, [.tup ys] => if xs.length + ys.length ≤ SZ then some (.lst (xs ++ ys), .non) else none
  | .insert, .lst xs, [.int i, y] => if 0 ≤ i ∧ i ≤ xs.length ∧ xs.length < SZ then some (.lst (xs.take i.toNat ++ y :: xs.drop i.toNat), .non) else none
  | .setdefault, .dct t ks vs, [k, d] => if keyD t k then (match dGet ks vs k with
    | some v => some (.dct t ks vs, v)
    | none => if ks.length < SZ then some (.dct t (dPut ks vs k d).1 (dPut ks vs k d).2, d) else none) else none
  | _, _, _ => none

/-! ### who owns what: fr: nobody changes it any more; ow o: this thing is the slot's own, its items as o says -/
inductive Ow where
  | fr
  | ow (o : Ow)
  deriving DecidableEq
abbrev Ows := List Ow

/-! ### the language -/
/-- a target: a name, a tuple of names -/
inductive T where
  | nm (i : Nat)
  | tp (is : List Nat)
inductive E where
  | v (i : Nat)
  | mv (i : Nat)
  | int (i : Int)
  | str (x : Str)
  | bl (b : Bool)
  | non
  | g (x : Str)
  | bin (o : BO) (a b : E)
  | neg (a : E)
  | not (a : E)
  | cmp (o : CO) (a b : E)
  | ch (o p : CO) (a b c : E)
  | and (es : List E)
  | or (es : List E)
  | ite (c a b : E)
  | tup (es : List E)
  | lst (es : List E)
  | dic (t : Bool) (ks vs : List E)
  | ln (i : Nat)
  | ix (a i : E)
  | sl (a : E) (lo hi : List E)
  | call (f : Str) (es : List E)
  | bi (b : BI) (es : List E)
  | isi (a : E) (ts : List TY)
  | me (m : ME) (o : E) (es : List E)
  | mu (m : MU) (i : Nat) (ps es : List E)
  | lc (elt : E) (t : T) (k : IK) (ia : List E) (c : List E)
  | fs (parts : List E)
  | tin (n : Bool) (a : E) (x : Str)
  | tix (x : Str) (a : E)
  | dc (k v : E) (t : T) (kk : IK) (ia : List E)
  | lct (elt : E) (t : T) (k : IK) (ia : List E)
inductive S where
  | set (i : Nat) (e : E)
  | tgt (is : List Nat) (e : E)
  | put (i : Nat) (ps : List E) (e : E)
  | aug (i : Nat) (o : BO) (e : E)
  | augp (i : Nat) (ps : List E) (o : BO) (e : E)
  | ex (e : E)
  | ifs (c : E) (a b : List S)
  | for_ (t : T) (k : IK) (ia : List E) (w : Option Nat) (body : List S)
  | while_ (c : E) (body : List S)
  | ret (e : E)
  | retN
  | raise (c : Str)
  | try_ (x : Ows) (body : List S) (h : S)
  | hd (cs : List Str) (n : Option Nat) (body : List S) (r : S)
  | hn
  | pass
  | brk
  | cont
  | weak (is : List Nat)

/-! ### what it does -/
inductive CR where
  | ok (r : D) (ls : List D)
  | ex (c : Str)
  | no
/-- the calls, the module's names, what own class of errors stands below what -/
structure Cs where
  cl : Str → List D → CR
  gl : Str → Option D
  sub : Str → Str → Bool
  isx : Str → Bool

def truthM (f : M D) : M Bool := M.bind f fun d => M.opt d.truth
def evs : List (M D × M Bool) → M (List D)
  | [] => M.ret []
  | p :: ps => M.bind p.1 fun d => M.bind (evs ps) fun ds => M.ret (d :: ds)
def getS (e : Env) (i : Nat) : Option D := (e[i]?).join
def setS (e : Env) (i : Nat) (d : D) : Env := e.set i (some d)
def unS (e : Env) (i : Nat) : Env := e.set i none
/-- in, not in, [..] of a module's dict with text keys -/
def tinD (n : Bool) : Option D → D → Option D
  | some (.dct _ ks _), .str z => some (.bl (n != ks.any fun k => decide (k = .str z)))
  | _, _ => none
def tixD : Option D → D → Option D
  | some (.dct _ ks vs), .str z => dGet ks vs (.str z)
  | _, _ => none
def varM (i : Nat) : M D := fun e => match getS e i with
  | some d => .ok d e
  | none => .no
def mvM (i : Nat) : M D := fun e => match getS e i with
  | some d => .ok d (unS e i)
  | none => .no
def op1 (f : D → Option D) (a : M D) : M D := M.bind a fun x => M.opt (f x)
def op2 (f : D → D → Option D) (a b : M D) : M D := M.bind a fun x => M.bind b fun y => M.opt (f x y)
def negD : D → Option D
  | .int i => some (.int (-i))
  | _ => none
def chM (o p : CO) (a b c : M D) : M D := M.bind a fun x => M.bind b fun y => M.bind (M.opt (cmpD o x y)) fun k =>
  if k = true then M.bind c fun z => M.opt ((cmpD p y z).map .bl) else M.ret (.bl false)
def andV : List (M D × M Bool) → M D
  | [] => fun _ => .no
  | [p] => p.1
  | p :: ps => M.bind p.1 fun d => match d with
    | .bl true => andV ps
    | .bl false => M.ret (.bl false)
    | _ => fun _ => .no
def orV : List (M D × M Bool) → M D
  | [] => fun _ => .no
  | [p] => p.1
  | p :: ps => M.bind p.1 fun d => match d with
    | .bl true => M.ret (.bl true)
    | .bl false => orV ps
    | _ => fun _ => .no
def andT : List (M D × M Bool) → M Bool
  | [] => fun _ => .no
  | [p] => p.2
  | p :: ps => M.bind p.2 fun b => if b = true then andT ps else M.ret false
def orT : List (M D × M Bool) → M Bool
  | [] => fun _ => .no
  | [p] => p.2
  | p :: ps => M.bind p.2 fun b => if b = true then M.ret true else orT ps
def partM : List (M D × M Bool) → M (Option Int)
  | [] => M.ret none
  | p :: _ => M.bind p.1 fun d => match d with
    | .int i => M.ret (some i)
    | _ => fun _ => .no
/-- the lent slots get what the callee left in them -/
def wb : List E → List D → Env → Env
  | .ln i :: es, d :: ds, e => wb es ds (setS e i d)
  | _ :: es, _ :: ds, e => wb es ds e
  | _, _, e => e
def unl : List E → Env → Env
  | .ln i :: es, e => unl es (unS e i)
  | _ :: es, e => unl es e
  | [], e => e
/-- the lent slots as they are when the call is made -/
def rl : List E → List D → Env → Option (List D)
  | .ln i :: es, _ :: ds, e => match getS e i, rl es ds e with
    | some d, some r => some (d :: r)
    | _, _ => none
  | _ :: es, d :: ds, e => (rl es ds e).map (d :: ·)
  | _, ds, _ => some ds
def callM (C : Cs) (f : Str) (es : List E) (ps : List (M D × M Bool)) : M D := fun e => match evs ps e with
  | .ok ds e1 => (match rl es ds e1 with
    | some ds' => (match C.cl f ds' with
      | .ok r ls => .ok r (wb es ls e1)
      | .ex c => .ex c (unl es e1)
      | .no => .no)
    | none => .no)
  | .ex c e1 => .ex c e1
  | .no => .no
def tyIs (C : Cs) : D → TY → Option Bool
  | .exc c, .exc x => some (C.sub c x)
  | .int _, .int => some true
  | .int _, .bool => some false
  | .bl _, .int => some true
  | .bl _, .bool => some true
  | .str _, .str => some true
  | .tup _, .tuple => some true
  | .lst _, .list => some true
  | .rol _, _ => none
  | .dct _ _ _, .dict => some true
  | .exc _, _ => none
  | _, .exc _ => none
  | _, .none => none
  | _, _ => some false
def tyAny (C : Cs) (d : D) : List TY → Option Bool
  | [] => some false
  | t :: ts => match tyIs C d t with
    | some true => some true
    | some false => tyAny C d ts
    | none => none
def getPM (i : Nat) (ps : List D) : M D := fun e => match (getS e i).bind fun d => getP d ps with
  | some d => .ok d e
  | none => .no
def setPM (i : Nat) (ps : List D) (y : D) : M Unit := fun e => match (getS e i).bind fun d => setP d ps y with
  | some d => .ok () (setS e i d)
  | none => .no
def muOk : MU → D → Bool
  | .setdefault, .dct _ _ _ => true
  | .setdefault, _ => false
  | _, .lst _ => true
  | _, _ => false
def muM (m : MU) (i : Nat) (ps es : List (M D × M Bool)) : M D := M.bind (evs ps) fun qs => M.bind (getPM i qs) fun d0 => if muOk m d0 = false then fun _ => .no else M.bind (evs es) fun ds => M.bind (getPM i qs) fun d =>
  match muF m d ds with
  | some (d', y) => M.bind (setPM i qs d') fun _ => M.ret y
  | none => fun _ => .no
def asg : T → D → Env → Option Env
  | .nm i, d, e => some (setS e i d)
  | .tp is, .tup ds, e => if is.length = ds.length then some ((is.zip ds).foldl (fun e p => setS e p.1 p.2) e) else none
  | .tp _, _, _ => none
def T.slots : T → List Nat
  | .nm i => [i]
  | .tp is => is
def wipeE (e : Env) : List Nat → Env
  | [] => e
  | i :: is => (wipeE e is).set i none
def lcL (elt : M D) (t : T) (c : M Bool) (e : Env) : List D → Option (List D)
  | [] => some []
  | d :: ds => match asg t d e with
    | none => none
    | some e1 => match c e1 with
      | .ok true e2 => (match elt e2 with
        | .ok y _ => (lcL elt t c e ds).map (y :: ·)
        | _ => none)
      | .ok false _ => lcL elt t c e ds
      | _ => none
def cM : List (M D × M Bool) → M Bool
  | [] => M.ret true
  | p :: _ => p.2
def lcF (elt : M D) (t : T) (fi : M (List D)) (c : M Bool) : M D := M.bind fi fun ds => fun e =>
  if ds.length ≤ SZ then (match lcL elt t c (wipeE e t.slots) ds with
    | some ys => .ok (.lst ys) (wipeE e t.slots)
    | none => .no) else .no
def lcM (elt : M D) (t : T) (k : IK) (ia : List (M D × M Bool)) (c : List (M D × M Bool)) : M D := lcF elt t (M.bind (evs ia) fun as => M.opt (itF k as)) (cM c)
/-- a comprehension that changes what is lent within it -/
def lctL (elt : M D) (t : T) : List D → M (List D)
  | [] => M.ret []
  | d :: ds => fun e => match asg t d e with
    | none => .no
    | some e1 => match elt e1 with
      | .ok y e2 => (match lctL elt t ds (wipeE e2 t.slots) with
        | .ok ys e3 => .ok (y :: ys) e3
        | _ => .no)
      | _ => .no
def lctF (elt : M D) (t : T) (fi : M (List D)) : M D := M.bind fi fun ds => fun e =>
  if ds.length ≤ SZ then (match lctL elt t ds (wipeE e t.slots) with
    | .ok ys e' => .ok (.lst ys) e'
    | _ => .no) else .no
/-- a dict comprehension -/
def dcL (kx vx : M D) (t : T) (e : Env) : List D → D → Option D
  | [], acc => some acc
  | d :: ds, acc => match asg t d e with
    | none => none
    | some e1 => match kx e1 with
      | .ok k e2 => (match vx e2 with
        | .ok y _ => (match putI acc k y with
          | some acc' => dcL kx vx t e ds acc'
          | none => none)
        | _ => none)
      | _ => none
def dcF (kx vx : M D) (t : T) (fi : M (List D)) : M D := M.bind fi fun ds => fun e =>
  match dcL kx vx t (wipeE e t.slots) ds (.dct false [] []) with
    | some d => .ok d (wipeE e t.slots)
    | none => .no
def dicM (t : Bool) (ks vs : List (M D × M Bool)) : M D := match ks, vs with
  | [], [] => M.ret (.dct t [] [])
  | k :: ks, v :: vs => M.bind k.1 fun x => M.bind v.1 fun y => M.bind (dicM t ks vs) fun d => match d with
    | .dct t' a b => if keyD t x && !(a.any fun z => decide (z = x)) then M.ret (.dct t' (x :: a) (y :: b)) else fun _ => .no
    | _ => fun _ => .no
  | _, _ => fun _ => .no
/-- a value's text in an f-string -/
def fmtD : D → Option Str
  | .str x => if x.length ≤ SZ then some x else none
  | .int i => if i.natAbs.log2 < 1920 then some (Str.ofString (toString i)) else none
  | _ => none
def fsA : Str → List (M D × M Bool) → M D
  | acc, [] => M.ret (.str acc)
  | acc, p :: ps => M.bind p.1 fun d => match fmtD d with
    | some x => if acc.length + x.length ≤ SZ then fsA (acc ++ x) ps else fun _ => .no
    | none => fun _ => .no
def fsM (ps : List (M D × M Bool)) : M D := fsA Str.empty ps
abbrev val (f : M D) : M D × M Bool := (f, truthM f)
def notT (p : M D × M Bool) : M D × M Bool := (M.bind (truthM p.1) fun b => M.ret (.bl !b), M.bind p.2 fun b => M.ret !b)

mutual
def den (C : Cs) : E → M D × M Bool
  | .v i => val (varM i)
  | .ln i => val (varM i)
  | .mv i => val (mvM i)
  | .int i => val (M.ret (.int i))
  | .str x => val (M.ret (.str x))
  | .bl b => val (M.ret (.bl b))
  | .non => val (M.ret .non)
  | .g x => val (M.opt (C.gl x))
  | .bin o a b => val (op2 (binD o) (den C a).1 (den C b).1)
  | .neg a => val (op1 negD (den C a).1)
  | .not a => notT (den C a)
  | .cmp o a b => val (op2 (fun x y => (cmpD o x y).map .bl) (den C a).1 (den C b).1)
  | .ch o p a b c => val (chM o p (den C a).1 (den C b).1 (den C c).1)
  | .and es => (andV (dens C es), andT (dens C es))
  | .or es => (orV (dens C es), orT (dens C es))
  | .ite c a b => val (M.bind (den C c).2 fun k => if k = true then (den C a).1 else (den C b).1)
  | .tup es => val (M.bind (evs (dens C es)) fun ds => M.ret (.tup ds))
  | .lst es => val (M.bind (evs (dens C es)) fun ds => M.ret (.lst ds))
  | .dic t ks vs => val (dicM t (dens C ks) (dens C vs))
  | .ix a i => val (op2 ixD (den C a).1 (den C i).1)
  | .sl a lo hi => val (M.bind (den C a).1 fun x => M.bind (partM (dens C lo)) fun l => M.bind (partM (dens C hi)) fun h => M.opt (slD x l h))
  | .call f es => val (callM C f es (dens C es))
  | .bi b es => val (M.bind (evs (dens C es)) fun ds => M.opt (bF b ds))
  | .isi a ts => val (M.bind (den C a).1 fun x => M.opt ((tyAny C x ts).map .bl))
  | .me m o es => val (M.bind (den C o).1 fun x => if meOk m x = true then M.bind (evs (dens C es)) fun ds => M.opt (meF m x ds) else fun _ => .no)
  | .mu m i ps es => val (muM m i (dens C ps) (dens C es))
  | .lc elt t k ia c => val (lcM (den C elt).1 t k (dens C ia) (dens C c))
  | .fs ps => val (fsM (dens C ps))
  | .tin n a x => val (op1 (tinD n (C.gl x)) (den C a).1)
  | .tix x a => val (op1 (tixD (C.gl x)) (den C a).1)
  | .dc k v t kk ia => val (dcF (den C k).1 (den C v).1 t (M.bind (evs (dens C ia)) fun as => M.opt (itF kk as)))
  | .lct elt t k ia => val (lctF (den C elt).1 t (M.bind (evs (dens C ia)) fun as => M.opt (itF k as)))
def dens (C : Cs) : List E → List (M D × M Bool)
  | [] => []
  | e :: es => den C e :: dens C es
end

inductive Fl where | nx | rt (d : D) | bk | ct
def seqM (f g : M Fl) : M Fl := M.bind f fun r => match r with
  | .nx => g
  | .rt d => M.ret (.rt d)
  | .bk => M.ret .bk
  | .ct => M.ret .ct
def forL (chk : Env → Bool) (t : T) (body : M Fl) : List D → M Fl
  | [] => fun e => if chk e = true then .ok .nx e else .no
  | d :: ds => fun e => if chk e = true then (match asg t d e with
      | none => .no
      | some e1 => match body e1 with
        | .ok .nx e2 => forL chk t body ds e2
        | .ok .ct e2 => forL chk t body ds e2
        | .ok .bk e2 => .ok .nx e2
        | .ok (.rt r) e2 => .ok (.rt r) e2
        | .ex c e2 => .ex c e2
        | .no => .no) else .no
def whileL (c : M Bool) (body : M Fl) : Nat → M Fl
  | 0 => fun _ => .no
  | n + 1 => fun e => match c e with
    | .ok true e1 => (match body e1 with
      | .ok .nx e2 => whileL c body n e2
      | .ok .ct e2 => whileL c body n e2
      | .ok .bk e2 => .ok .nx e2
      | .ok (.rt r) e2 => .ok (.rt r) e2
      | .ex x e2 => .ex x e2
      | .no => .no)
    | .ok false e1 => .ok .nx e1
    | .ex x e1 => .ex x e1
    | .no => .no
def FUEL : Nat := 1000000000
def chkOf (w : Option Nat) (as : List D) (e : Env) : Bool := match w with
  | none => true
  | some i => decide (getS e i = as.head?)
def forM (t : T) (k : IK) (ia : List (M D × M Bool)) (w : Option Nat) (body : M Fl) : M Fl := M.bind (evs ia) fun as => M.bind (M.opt (itF k as)) fun ds => forL (chkOf w as) t body ds
def putM (i : Nat) (qs : List D) (k : D) (y : D) : M Unit := M.bind (getPM i qs) fun d => M.bind (M.opt (putI d k y)) fun d' => setPM i qs d'
def unE : R Fl → Option Nat → R Fl
  | .ok r e, some i => .ok r (unS e i)
  | r, _ => r
def tryM (C : Cs) (body : M Fl) (h : Str → M Fl) : M Fl := fun e => match body e with
  | .ex c e1 => if C.isx c = true then h c e1 else .no
  | r => r
mutual
def dS (C : Cs) : S → M Fl
  | .set i e => M.bind (den C e).1 fun d => fun s => .ok .nx (setS s i d)
  | .tgt is e => M.bind (den C e).1 fun d => fun s => match asg (.tp is) d s with
    | some s' => .ok .nx s'
    | none => .no
  | .put i ps e => M.bind (den C e).1 fun y => M.bind (evs (dens C ps)) fun qs => match qs.getLast? with
    | none => fun _ => .no
    | some k => M.bind (putM i qs.dropLast k y) fun _ => M.ret .nx
  | .aug i o e => M.bind (varM i) fun x => M.bind (den C e).1 fun y => M.bind (M.opt (augD o x y)) fun z => fun s => .ok .nx (setS s i z)
  | .augp i ps o e => M.bind (evs (dens C ps)) fun qs => match qs.getLast? with
    | none => fun _ => .no
    | some k => M.bind (getPM i qs.dropLast) fun d => M.bind (M.opt (ixD d k)) fun x => M.bind (den C e).1 fun y => M.bind (M.opt (augD o x y)) fun z => M.bind (putM i qs.dropLast k z) fun _ => M.ret .nx
  | .ex e => M.bind (den C e).1 fun _ => M.ret .nx
  | .ifs c a b => M.bind (den C c).2 fun k => if k = true then dB C a else dB C b
  | .for_ t k ia w body => forM t k (dens C ia) w (dB C body)
  | .while_ c body => whileL (den C c).2 (dB C body) FUEL
  | .ret e => M.bind (den C e).1 fun d => M.ret (.rt d)
  | .retN => M.ret (.rt .non)
  | .raise c => fun e => .ex c e
  | .try_ _ body h => tryM C (dB C body) (dH C h)
  | .pass => M.ret .nx
  | .brk => M.ret .bk
  | .cont => M.ret .ct
  | .weak _ => M.ret .nx
  | .hd _ _ _ _ => fun _ => .no
  | .hn => fun _ => .no
def dB (C : Cs) : List S → M Fl
  | [] => M.ret .nx
  | s :: ss => seqM (dS C s) (dB C ss)
def dH (C : Cs) : S → Str → M Fl
  | .hd cs n body r => fun c e => if (cs.any fun x => C.sub c x) = true then (match (match n with
      | some i => if i < e.length then dB C body (setS e i (.exc c)) else .no
      | none => dB C body e) with
      | .ok f e1 => .ok f (match n with
        | some i => unS e1 i
        | none => e1)
      | _ => .no) else dH C r c e
  | .hn => fun c e => .ex c e
  | _ => fun _ _ => .no
end

/-! ### a program -/
structure Fn where
  name : Str
  np : Nat
  ns : Nat
  body : List S
  ln : Option Nat
/-- what was lent is still there -/
def lnOk : Option Nat → Env → Bool
  | none, _ => true
  | some p, e => (getS e p).isSome
/-- calls to the depth n -/
def call (fs : List Fn) (gl : Str → Option D) (sub : Str → Str → Bool) (isx : Str → Bool) : Nat → Str → List D → CR
  | 0, _, _ => .no
  | n + 1, f, ds => match fs.find? fun F => decide (F.name = f) with
    | none => .no
    | some F => if F.np = ds.length then (match dB ⟨call fs gl sub isx n, gl, sub, isx⟩ F.body (ds.map some ++ List.replicate (F.ns - F.np) none) with
      | .ok (.rt r) e => if lnOk F.ln e = true then .ok r ((List.range F.np).map fun i => (getS e i).getD .non) else .no
      | .ok .nx e => if lnOk F.ln e = true then .ok .non ((List.range F.np).map fun i => (getS e i).getD .non) else .no
      | .ok _ _ => .no
      | .ex c _ => .ex c
      | .no => .no) else .no
end Mp
/-! Mp2: how data lie in the abstract heap. -/
namespace Mp
open PySem PySem.Spec PyProof.Rows L2

/-- what may be changed at all -/
def mutO : HO → Bool
  | .lst _ => true
  | .dK _ => true
  | .dT _ => true
  | .ins _ _ _ => true
  | _ => false
abbrev AS := Addr → Prop
/-- the heap in which nothing is tracked -/
def H0 : Hp := fun _ => none
theorem sqL0 {K : PySem.W.Frag} {H : Hp} {a : Addr} {xs : List V} (h : SqL K H0 a xs) : SqL K H a xs := by
  rcases h with h | h
  · rcases h with h | ⟨o, h⟩ <;> cases h
  · exact .inr h
theorem sqT_mono {K : PySem.W.Frag} {H H' : Hp} {a : Addr} {xs : List V} (k : ∀ o, H a = some o → mutO o = false → H' a = some o) (h : SqT K H a xs) : SqT K H' a xs := by
  rcases h with h | h
  · rcases h with h | ⟨o, h⟩
    · exact .inl (.inl (k _ h rfl))
    · exact .inl (.inr ⟨o, k _ h rfl⟩)
  · exact .inr h

def kD : Key → D
  | .inl i => .int i
  | .inr x => .str x
theorem kD_inj {a b : Key} (h : kD a = kD b) : a = b := by
  cases a <;> cases b <;> simp [kD] at h <;> rw [h]

section
variable (K : PySem.W.Frag) (H : Hp) (Z : AS)
/-- a list that nobody changes -/
def FzL (a : Addr) (xs : List V) : Prop := Z a ∧ H a = some (.lst xs)
/-- a list that is only read: the script, a list of the module -/
def RdL (a : Addr) (xs : List V) : Prop := (∃ o, H a = some (.frz o (.lst xs))) ∨ SqL K H0 a xs
/-- a dict's keys -/
def KeyK (ks : List D) (kvs : List (Key × V)) : Prop := ks = kvs.map fun p => kD p.1
def KeyT (ks : List D) (kvs : List (List Key × V)) : Prop := ks = kvs.map fun p => D.tup (p.1.map kD)
/-- at a stands a dict with these keys, its values xs -/
def DcAt (a : Addr) (t : Bool) (ks : List D) (xs : List V) : Prop := ks.Nodup ∧
  ((t = false ∧ ∃ kvs, H a = some (.dK kvs) ∧ KeyK ks kvs ∧ xs = kvs.map (·.2)) ∨ (t = true ∧ ∃ kvs, H a = some (.dT kvs) ∧ KeyT ks kvs ∧ xs = kvs.map (·.2)))
mutual
/-- data that nobody changes -/
def Rep : D → V → Prop
  | .non, v => v = .non
  | .bl b, v => v = .bl b
  | .int i, v => v = .int i
  | .str x, v => v = .str x
  | .tup ds, v => ∃ a xs, v = .ref a ∧ SqT K H a xs ∧ Reps ds xs
  | .lst ds, v => ∃ a xs, v = .ref a ∧ FzL H Z a xs ∧ Reps ds xs
  | .rol ds, v => ∃ a xs, v = .ref a ∧ RdL K H a xs ∧ Reps ds xs
  | .dct t ks vs, v => ∃ a xs, v = .ref a ∧ Z a ∧ DcAt H a t ks xs ∧ Reps vs xs
  | .exc _, v => ∃ a, v = .ref a
def Reps : List D → List V → Prop
  | [], xs => xs = []
  | d :: ds, xs => ∃ x r, xs = x :: r ∧ Rep d x ∧ Reps ds r
end
/-- items with their places' footprints -/
structure Items (R : D → V → AS → Prop) (ds : List D) (xs : List V) (A : AS) (G : Nat → AS) : Prop where
  len : xs.length = ds.length
  at_ : ∀ (k : Nat) d x, ds[k]? = some d → xs[k]? = some x → R d x (G k)
  apart : ∀ (j k : Nat) b, G j b → G k b → j = k
  some_ : ∀ b, A b ↔ ∃ k, k < ds.length ∧ G k b
/-- data as an owner holds them: A, what may be changed of them -/
def RO : Ow → D → V → AS → Prop
  | .fr, d, v, A => Rep K H Z d v ∧ ∀ a, ¬ A a
  | .ow o, .lst ds, v, A => ∃ a xs B G, v = .ref a ∧ H a = some (.lst xs) ∧ Items (RO o) ds xs B G ∧ ¬ B a ∧ ∀ b, A b ↔ (b = a ∨ B b)
  | .ow o, .dct t ks vs, v, A => ∃ a xs B G, v = .ref a ∧ DcAt H a t ks xs ∧ Items (RO o) vs xs B G ∧ ¬ B a ∧ ∀ b, A b ↔ (b = a ∨ B b)
  | .ow _, d, v, A => Rep K H Z d v ∧ ∀ a, ¬ A a
end

section
variable {K : PySem.W.Frag} {H H' : Hp} {Z Z' : AS}
theorem RdL.sq {a : Addr} {xs : List V} (h : RdL K H a xs) : SqL K H a xs := by
  rcases h with ⟨o, h⟩ | h
  · exact .inl (.inr ⟨o, h⟩)
  · exact sqL0 h
theorem RdL.mono {a : Addr} {xs : List V} (k : ∀ a o, H a = some o → (Z a ∨ mutO o = false) → H' a = some o) (h : RdL K H a xs) : RdL K H' a xs := by
  rcases h with ⟨o, h⟩ | h
  · exact .inl ⟨o, k _ _ h (.inr rfl)⟩
  · exact .inr h
theorem FzL.mono {a : Addr} {xs : List V} (kz : ∀ a, Z a → Z' a) (k : ∀ a o, H a = some o → (Z a ∨ mutO o = false) → H' a = some o) (h : FzL H Z a xs) : FzL H' Z' a xs := ⟨kz _ h.1, k _ _ h.2 (.inl h.1)⟩
theorem DcAt.mono {a : Addr} {t : Bool} {ks : List D} {xs : List V} (k : ∀ o, H a = some o → H' a = some o) (h : DcAt H a t ks xs) : DcAt H' a t ks xs := by
  obtain ⟨nd, ⟨e, kvs, h1, h2, h3⟩ | ⟨e, kvs, h1, h2, h3⟩⟩ := h
  · exact ⟨nd, .inl ⟨e, kvs, k _ h1, h2, h3⟩⟩
  · exact ⟨nd, .inr ⟨e, kvs, k _ h1, h2, h3⟩⟩
mutual
theorem Rep.mono (kz : ∀ a, Z a → Z' a) (k : ∀ a o, H a = some o → (Z a ∨ mutO o = false) → H' a = some o) : ∀ {d : D} {v : V}, Rep K H Z d v → Rep K H' Z' d v
  | .non, _, h => h
  | .bl _, _, h => h
  | .int _, _, h => h
  | .str _, _, h => h
  | .exc _, _, h => h
  | .tup ds, v, h => by
    unfold Rep at h ⊢
    obtain ⟨a, xs, e, h1, h2⟩ := h
    exact ⟨a, xs, e, sqT_mono (fun o e m => k _ _ e (.inr m)) h1, Reps.mono kz k h2⟩
  | .lst ds, v, h => by
    unfold Rep at h ⊢
    obtain ⟨a, xs, e, h1, h2⟩ := h
    exact ⟨a, xs, e, h1.mono kz k, Reps.mono kz k h2⟩
  | .rol ds, v, h => by
    unfold Rep at h ⊢
    obtain ⟨a, xs, e, h1, h2⟩ := h
    exact ⟨a, xs, e, RdL.mono k h1, Reps.mono kz k h2⟩
  | .dct t ks vs, v, h => by
    unfold Rep at h ⊢
    obtain ⟨a, xs, e, z, h1, h2⟩ := h
    exact ⟨a, xs, e, kz _ z, h1.mono fun o q => k _ _ q (.inl z), Reps.mono kz k h2⟩
theorem Reps.mono (kz : ∀ a, Z a → Z' a) (k : ∀ a o, H a = some o → (Z a ∨ mutO o = false) → H' a = some o) : ∀ {ds : List D} {xs : List V}, Reps K H Z ds xs → Reps K H' Z' ds xs
  | [], _, h => h
  | d :: ds, xs, h => by
    unfold Reps at h ⊢
    obtain ⟨x, r, e, h1, h2⟩ := h
    exact ⟨x, r, e, Rep.mono kz k h1, Reps.mono kz k h2⟩
end
theorem Reps.len : ∀ {ds : List D} {xs : List V}, Reps K H Z ds xs → xs.length = ds.length
  | [], _, h => by unfold Reps at h; simp [h]
  | d :: ds, xs, h => by
    unfold Reps at h
    obtain ⟨x, r, rfl, _, h2⟩ := h
    simp [Reps.len h2]
theorem Reps.get : ∀ {ds : List D} {xs : List V} {k : Nat} {d : D}, Reps K H Z ds xs → ds[k]? = some d → ∃ x, xs[k]? = some x ∧ Rep K H Z d x
  | [], _, _, _, _, e => by simp at e
  | d :: ds, xs, 0, _, h, e => by
    unfold Reps at h
    obtain ⟨x, r, rfl, h1, _⟩ := h
    simp at e
    subst e
    exact ⟨x, by simp, h1⟩
  | d :: ds, xs, k + 1, _, h, e => by
    unfold Reps at h
    obtain ⟨x, r, rfl, _, h2⟩ := h
    simp at e ⊢
    exact Reps.get h2 e
theorem Reps.of : ∀ {ds : List D} {xs : List V}, xs.length = ds.length → (∀ (k : Nat) d x, ds[k]? = some d → xs[k]? = some x → Rep K H Z d x) → Reps K H Z ds xs
  | [], [], _, _ => by unfold Reps; rfl
  | [], _ :: _, h, _ => by simp at h
  | _ :: _, [], h, _ => by simp at h
  | d :: ds, x :: xs, h, g => by
    unfold Reps
    exact ⟨x, xs, rfl, g 0 d x rfl rfl, Reps.of (by simpa using h) fun k d' x' e1 e2 => g (k + 1) d' x' (by simpa using e1) (by simpa using e2)⟩
theorem RO.scal {o : Ow} {d : D} {v : V} {A : AS} (hd : ∀ ds, d ≠ .lst ds) (hd2 : ∀ t ks vs, d ≠ .dct t ks vs) : RO K H Z (.ow o) d v A ↔ (Rep K H Z d v ∧ ∀ a, ¬ A a) := by
  cases d <;> first | exact Iff.rfl | exact absurd rfl (hd _) | exact absurd rfl (hd2 _ _ _)
theorem DcAt.mut {a : Addr} {t : Bool} {ks : List D} {xs : List V} (h : DcAt H a t ks xs) : ∃ o, H a = some o ∧ mutO o = true := by
  obtain ⟨_, ⟨_, kvs, h1, _⟩ | ⟨_, kvs, h1, _⟩⟩ := h
  · exact ⟨_, h1, rfl⟩
  · exact ⟨_, h1, rfl⟩
/-- what an owner holds stays while it and what is frozen stay -/
theorem RO.keep (kz : ∀ a, Z a → Z' a) : ∀ {o : Ow} {d : D} {v : V} {A : AS}, (∀ a q, H a = some q → (Z a ∨ A a ∨ mutO q = false) → H' a = some q) → RO K H Z o d v A → RO K H' Z' o d v A
  | .fr, d, v, A, k, h => ⟨h.1.mono kz fun a q e z => k a q e (z.elim .inl fun m => .inr (.inr m)), h.2⟩
  | .ow o, d, v, A, k, h => by
    have sc : (Rep K H Z d v ∧ ∀ a, ¬ A a) → (Rep K H' Z' d v ∧ ∀ a, ¬ A a) := fun h => ⟨h.1.mono kz fun a q e z => k a q e (z.elim .inl fun m => .inr (.inr m)), h.2⟩
    have it : ∀ {ds : List D} {xs : List V} {B : AS} {G : Nat → AS}, (∀ b, B b → A b) → Items (RO K H Z o) ds xs B G → Items (RO K H' Z' o) ds xs B G := fun {ds xs B G} hB I =>
      ⟨I.len, fun j d x e1 e2 => RO.keep kz (fun a q e z => k a q e (by
        rcases z with z | z | z
        · exact .inl z
        · exact .inr (.inl (hB _ ((I.some_ a).mpr ⟨j, (List.getElem?_eq_some_iff.mp e1).1, z⟩)))
        · exact .inr (.inr z))) (I.at_ j d x e1 e2), I.apart, I.some_⟩
    cases d with
    | lst ds =>
      obtain ⟨a, xs, B, G, e, h1, I, nb, hA⟩ := h
      exact ⟨a, xs, B, G, e, k a _ h1 (.inr (.inl ((hA a).mpr (.inl rfl)))), it (fun b hb => (hA b).mpr (.inr hb)) I, nb, hA⟩
    | dct t ks vs =>
      obtain ⟨a, xs, B, G, e, h1, I, nb, hA⟩ := h
      exact ⟨a, xs, B, G, e, h1.mono fun q e => k a q e (.inr (.inl ((hA a).mpr (.inl rfl)))), it (fun b hb => (hA b).mpr (.inr hb)) I, nb, hA⟩
    | _ => exact sc h
/-- what is owned is there, and may be changed -/
theorem RO.there : ∀ {o : Ow} {d : D} {v : V} {A : AS}, RO K H Z o d v A → ∀ a, A a → ∃ q, H a = some q ∧ mutO q = true
  | .fr, d, v, A, h, a, z => absurd z (h.2 a)
  | .ow o, d, v, A, h, a, z => by
    have it : ∀ {ds : List D} {xs : List V} {B : AS} {G : Nat → AS}, Items (RO K H Z o) ds xs B G → B a → ∃ q, H a = some q ∧ mutO q = true := fun {ds xs B G} I hb => by
      obtain ⟨k, hk, g⟩ := (I.some_ a).mp hb
      obtain ⟨d, hd⟩ : ∃ d, ds[k]? = some d := ⟨_, List.getElem?_eq_getElem hk⟩
      obtain ⟨x, hx⟩ : ∃ x, xs[k]? = some x := ⟨_, List.getElem?_eq_getElem (by rw [I.len]; exact hk)⟩
      exact RO.there (I.at_ k d x hd hx) a g
    cases d with
    | lst ds =>
      obtain ⟨p, xs, B, G, e, h1, I, nb, hA⟩ := h
      rcases (hA a).mp z with rfl | hb
      · exact ⟨_, h1, rfl⟩
      · exact it I hb
    | dct t ks vs =>
      obtain ⟨p, xs, B, G, e, h1, I, nb, hA⟩ := h
      rcases (hA a).mp z with rfl | hb
      · exact h1.mut
      · exact it I hb
    | _ => exact absurd z (h.2 a)
/-- frozen: from now on nobody changes it -/
theorem RO.fz : ∀ {o : Ow} {d : D} {v : V} {A : AS}, RO K H Z o d v A → Rep K H (fun a => Z a ∨ A a) d v
  | .fr, d, v, A, h => h.1.mono (fun a z => .inl z) fun _ _ e _ => e
  | .ow o, d, v, A, h => by
    have it : ∀ {ds : List D} {xs : List V} {B : AS} {G : Nat → AS}, (∀ b, B b → A b) → Items (RO K H Z o) ds xs B G → Reps K H (fun a => Z a ∨ A a) ds xs := fun {ds xs B G} hB I =>
      Reps.of I.len fun k d x e1 e2 => (RO.fz (I.at_ k d x e1 e2)).mono (fun a z => z.elim .inl fun g => .inr (hB _ ((I.some_ a).mpr ⟨k, (List.getElem?_eq_some_iff.mp e1).1, g⟩))) fun _ _ e _ => e
    cases d with
    | lst ds =>
      obtain ⟨a, xs, B, G, e, h1, I, nb, hA⟩ := h
      unfold Rep
      exact ⟨a, xs, e, ⟨.inr ((hA a).mpr (.inl rfl)), h1⟩, it (fun b hb => (hA b).mpr (.inr hb)) I⟩
    | dct t ks vs =>
      obtain ⟨a, xs, B, G, e, h1, I, nb, hA⟩ := h
      unfold Rep
      exact ⟨a, xs, e, .inr ((hA a).mpr (.inl rfl)), h1, it (fun b hb => (hA b).mpr (.inr hb)) I⟩
    | _ => exact h.1.mono (fun a z => .inl z) fun _ _ e _ => e
end

/-! ### a state: what is frozen, the slots' footprints, the heap -/
structure Wd where
  Z : AS
  F : Nat → AS
  H : Hp
/-- from w to w': only what a slot owns may have changed -/
structure Ext (w w' : Wd) : Prop where
  z : ∀ a, w.Z a → w'.Z a
  fr : ∀ a o, w.H a = some o → (∀ i, ¬ w.F i a) → w'.H a = some o
  dm : ∀ a, w.H a ≠ none → w'.H a ≠ none
  nw : ∀ i a, w'.F i a → (∃ j, w.F j a) ∨ w.H a = none
  zn : ∀ a, w'.Z a → w.Z a ∨ (∃ j, w.F j a) ∨ w.H a = none
  zh : (∀ a, w.Z a → w.H a ≠ none) → ∀ a, w'.Z a → w'.H a ≠ none
theorem Ext.refl {w : Wd} : Ext w w := ⟨fun _ z => z, fun _ _ e _ => e, fun _ z => z, fun i _ z => .inl ⟨i, z⟩, fun _ z => .inl z, fun h => h⟩
theorem Ext.trans {u v w : Wd} (a : Ext u v) (b : Ext v w) : Ext u w where
  z := fun x h => b.z x (a.z x h)
  fr := fun x o e n => by
    have e1 := a.fr x o e n
    refine b.fr x o e1 fun i hi => ?_
    rcases a.nw i x hi with ⟨j, hj⟩ | hn
    · exact n j hj
    · rw [e] at hn; cases hn
  dm := fun x h => b.dm x (a.dm x h)
  nw := fun i x h => by
    rcases b.nw i x h with ⟨j, hj⟩ | hn
    · exact a.nw j x hj
    · by_cases q : u.H x = none
      · exact .inr q
      · exact absurd hn (a.dm x q)
  zn := fun x h => by
    rcases b.zn x h with hz | ⟨j, hj⟩ | hn
    · exact a.zn x hz
    · rcases a.nw j x hj with h' | h'
      · exact .inr (.inl h')
      · exact .inr (.inr h')
    · by_cases q : u.H x = none
      · exact .inr (.inr q)
      · exact absurd hn (a.dm x q)
  zh := fun h => b.zh (a.zh h)
abbrev owAt (ows : Ows) (i : Nat) : Ow := ows.getD i .fr
abbrev Pin := Nat → Option (V × Option D)
/-- the slots hold the data -/
structure SR (K : PySem.W.Frag) (pn : Pin) (ows : Ows) (env : Env) (σ : L2.St) (w : Wd) : Prop where
  len : σ.length = env.length
  at_ : ∀ i d, getS env i = some d → ∃ v, σ[i]? = some (some v) ∧ RO K w.H w.Z (owAt ows i) d v (w.F i)
  apart : ∀ i j a, w.F i a → w.F j a → i = j
  zf : ∀ i a, w.F i a → ¬ w.Z a
  fm : ∀ i a, w.F i a → ∃ o, w.H a = some o ∧ mutO o = true
  zt : ∀ a, w.Z a → w.H a ≠ none
  pin : ∀ i p, pn i = some p → σ[i]? = some (some p.1) ∧ ∀ d, p.2 = some d → ∀ d', getS env i = some d' → d' = d
/-- a value apart from all slots -/
structure Tmp (w w' : Wd) (A : AS) : Prop where
  z : ∀ a, A a → ¬ w'.Z a
  f : ∀ a i, A a → ¬ w'.F i a
  nw : ∀ a, A a → (∃ j, w.F j a) ∨ w.H a = none
theorem Tmp.nil {w w' : Wd} : Tmp w w' (fun _ => False) := ⟨fun _ h => h.elim, fun _ _ h => h.elim, fun _ h => h.elim⟩
end Mp
/-! Mp3: states, judgements. -/
namespace Mp
open PySem PySem.Spec PyProof.Rows L2

section
variable {K : PySem.W.Frag} {pn : Pin} {ows : Ows} {env : Env} {σ : L2.St} {w w' w1 w2 : Wd}
theorem getS_set {e : Env} {i j : Nat} {d d' : D} (h : getS (setS e i d) j = some d') : (j = i ∧ d' = d) ∨ (j ≠ i ∧ getS e j = some d') := by
  unfold getS setS at h
  by_cases q : i = j
  · subst q
    rw [List.getElem?_set] at h
    by_cases hl : i < e.length
    · simp [hl] at h; exact .inl ⟨rfl, h.symm⟩
    · simp [hl] at h
  · rw [List.getElem?_set_ne q] at h
    exact .inr ⟨fun z => q z.symm, h⟩
theorem getS_un {e : Env} {i j : Nat} {d' : D} (h : getS (unS e i) j = some d') : j ≠ i ∧ getS e j = some d' := by
  unfold getS unS at h
  by_cases q : i = j
  · subst q
    rw [List.getElem?_set] at h
    by_cases hl : i < e.length <;> simp [hl] at h
  · rw [List.getElem?_set_ne q] at h
    exact ⟨fun z => q z.symm, h⟩
theorem getS_lt {e : Env} {i : Nat} {d : D} (h : getS e i = some d) : i < e.length := by
  unfold getS at h
  rcases Nat.lt_or_ge i e.length with q | q
  · exact q
  · rw [List.getElem?_eq_none q] at h; simp at h
/-- a temp stays through an extension -/
theorem RO.ext {o : Ow} {d : D} {v : V} {A : AS} (s : SR K pn ows env σ w1) (hf : ∀ a i, A a → ¬ w1.F i a) (e : Ext w1 w2) (h : RO K w1.H w1.Z o d v A) : RO K w2.H w2.Z o d v A :=
  h.keep e.z fun a q ha z => e.fr a q ha fun i hi => by
    rcases z with z | z | z
    · exact s.zf i a hi z
    · exact hf a i z hi
    · obtain ⟨o', e1, m⟩ := s.fm i a hi
      rw [ha] at e1; cases e1
      rw [z] at m; cases m
theorem Rep.ext {d : D} {v : V} (s : SR K pn ows env σ w1) (e : Ext w1 w2) (h : Rep K w1.H w1.Z d v) : Rep K w2.H w2.Z d v :=
  (RO.ext (o := .fr) (A := fun _ => False) s (fun _ _ z => z.elim) e ⟨h, fun _ z => z⟩).1
theorem Reps.ext {d : List D} {v : List V} (s : SR K pn ows env σ w1) (e : Ext w1 w2) (h : Reps K w1.H w1.Z d v) : Reps K w2.H w2.Z d v :=
  h.mono e.z fun a q ha z => e.fr a q ha fun i hi => by
    rcases z with z | z
    · exact s.zf i a hi z
    · obtain ⟨o', e1, m⟩ := s.fm i a hi
      rw [ha] at e1; cases e1
      rw [z] at m; cases m
theorem Tmp.ext {A : AS} (s : SR K pn ows env σ w1) (t : Tmp w w1 A) (hA : ∀ a, A a → w1.H a ≠ none) (e0 : Ext w w1) (e : Ext w1 w2) : Tmp w w2 A where
  z := fun a h z => by
    rcases e.zn a z with q | ⟨j, q⟩ | q
    · exact t.z a h q
    · exact t.f a j h q
    · exact hA a h q
  f := fun a i h z => by
    rcases e.nw i a z with ⟨j, q⟩ | q
    · exact t.f a j h q
    · exact hA a h q
  nw := t.nw
theorem Tmp.pre {A : AS} (e : Ext w w1) (t : Tmp w1 w2 A) : Tmp w w2 A := ⟨t.z, t.f, fun a h => by
  rcases t.nw a h with ⟨j, q⟩ | q
  · exact e.nw j a q
  · by_cases n : w.H a = none
    · exact .inr n
    · exact absurd q (e.dm a n)⟩
/-- a slot's thing is frozen -/
def Wd.fz (w : Wd) (i : Nat) : Wd := ⟨fun a => w.Z a ∨ w.F i a, fun j a => j ≠ i ∧ w.F j a, w.H⟩
theorem Ext.fz (w : Wd) (i : Nat) (hF : ∀ a, w.F i a → w.H a ≠ none) : Ext w (w.fz i) where
  zh := fun h a z => z.elim (h a) (hF a)
  z := fun _ h => .inl h
  fr := fun _ _ e _ => e
  dm := fun _ h => h
  nw := fun j _ h => .inl ⟨j, h.2⟩
  zn := fun _ h => h.elim .inl fun q => .inr (.inl ⟨i, q⟩)
theorem owAt_set {i j : Nat} {o : Ow} (h : j ≠ i) : owAt (ows.set i o) j = owAt ows j := by
  unfold owAt
  simp only [List.getD_eq_getElem?_getD]
  rw [List.getElem?_set_ne (Ne.symm h)]
theorem owAt_self {i : Nat} : owAt (ows.set i .fr) i = .fr := by
  unfold owAt
  rw [List.getD_eq_getElem?_getD]
  by_cases h : i < ows.length
  · rw [List.getElem?_set_self h]; rfl
  · rw [List.getElem?_eq_none (by simp; omega)]; rfl
theorem owAt_self' {i : Nat} {o : Ow} (h : i < ows.length) : owAt (ows.set i o) i = o := by
  unfold owAt
  simp only [List.getD_eq_getElem?_getD]
  rw [List.getElem?_set_self h]
  rfl
theorem SR.fne {i : Nat} (s : SR K pn ows env σ w) (a : Addr) (h : w.F i a) : w.H a ≠ none := by
  obtain ⟨o, e, _⟩ := s.fm i a h
  rw [e]; simp
theorem SR.fz (s : SR K pn ows env σ w) (i : Nat) : SR K pn (ows.set i .fr) env σ (w.fz i) where
  len := s.len
  at_ := fun j d h => by
    obtain ⟨v, h1, h2⟩ := s.at_ j d h
    refine ⟨v, h1, ?_⟩
    by_cases q : j = i
    · subst q
      rw [owAt_self]
      exact ⟨h2.fz, fun a z => z.1 rfl⟩
    · rw [owAt_set q]
      have := h2.keep (H' := w.H) (Z' := (w.fz i).Z) (fun a z => .inl z) fun _ _ e _ => e
      refine cast ?_ this
      congr 1
      funext a
      exact propext ⟨fun z => ⟨q, z⟩, fun z => z.2⟩
  apart := fun j k a h1 h2 => s.apart j k a h1.2 h2.2
  zf := fun j a h z => by
    rcases z with z | z
    · exact s.zf j a h.2 z
    · exact h.1 (s.apart j i a h.2 z)
  fm := fun j a h => s.fm j a h.2
  zt := fun a z => by
    rcases z with z | z
    · exact s.zt a z
    · obtain ⟨o, e, _⟩ := s.fm i a z
      show w.H a ≠ none
      rw [e]; simp
  pin := s.pin
/-- several slots frozen -/
def fzAll (ows : Ows) : List Nat → Ows
  | [] => ows
  | i :: is => fzAll (ows.set i .fr) is
theorem SR.fzAll : ∀ (is : List Nat) {ows : Ows} {w : Wd}, SR K pn ows env σ w → ∃ w', Ext w w' ∧ w'.H = w.H ∧ SR K pn (fzAll ows is) env σ w'
  | [], _, w, s => ⟨w, Ext.refl, rfl, s⟩
  | i :: is, _, w, s => by
    obtain ⟨w', e, h, s'⟩ := SR.fzAll is (s.fz i)
    exact ⟨w', (Ext.fz w i s.fne).trans e, h, s'⟩
/-- weaker ownership: each as it was or frozen -/
def weakB : Nat → Ows → Ows → Bool
  | _, [], [] => true
  | i, a :: as, b :: bs => (decide (a = b) || decide (b = .fr)) && weakB (i + 1) as bs
  | _, _, _ => false
theorem SR.congr {ows' : Ows} (s : SR K pn ows env σ w) (h : ∀ i, owAt ows' i = owAt ows i) : SR K pn ows' env σ w :=
  ⟨s.len, fun i d e => by rw [h]; exact s.at_ i d e, s.apart, s.zf, s.fm, s.zt, s.pin⟩
theorem weak_at : ∀ {n : Nat} {a b : Ows}, weakB n a b = true → ∀ i, owAt b i = owAt a i ∨ owAt b i = .fr
  | _, [], [], _, i => .inl rfl
  | _, _ :: _, [], h, _ => by simp [weakB] at h
  | _, [], _ :: _, h, _ => by simp [weakB] at h
  | n, x :: xs, y :: ys, h, i => by
    simp [weakB] at h
    cases i with
    | zero => rcases h.1 with e | e
              · exact .inl (by simp [owAt, e])
              · exact .inr (by simp [owAt, e])
    | succ i => simpa [owAt] using weak_at (n := n + 1) (a := xs) (b := ys) h.2 i
theorem weak_len : ∀ {n : Nat} {a b : Ows}, weakB n a b = true → a.length = b.length
  | _, [], [], _ => rfl
  | _, _ :: _, [], h => by simp [weakB] at h
  | _, [], _ :: _, h => by simp [weakB] at h
  | n, x :: xs, y :: ys, h => by simp [weakB] at h; simp [weak_len (n := n + 1) h.2]
theorem fzAll_at : ∀ (is : List Nat) (ows : Ows) (i : Nat), owAt (fzAll ows is) i = if i ∈ is then .fr else owAt ows i
  | [], _, _ => by simp [Mp.fzAll]
  | j :: is, ows, i => by
    rw [Mp.fzAll, fzAll_at is]
    by_cases h : i ∈ is
    · rw [if_pos h, if_pos (List.mem_cons_of_mem _ h)]
    · by_cases q : i = j
      · subst q
        rw [if_neg h, owAt_self, if_pos List.mem_cons_self]
      · rw [if_neg h, owAt_set q, if_neg]
        intro m
        rcases List.mem_cons.mp m with e | e
        · exact q e
        · exact h e
theorem SR.weak {ows' : Ows} (s : SR K pn ows env σ w) (h : weakB 0 ows ows' = true) : ∃ w', Ext w w' ∧ w'.H = w.H ∧ SR K pn ows' env σ w' := by
  obtain ⟨w', e, eh, s'⟩ := s.fzAll ((List.range ows.length).filter fun i => decide (owAt ows' i = .fr))
  refine ⟨w', e, eh, s'.congr fun i => ?_⟩
  rw [fzAll_at]
  split
  · rename_i hm
    exact of_decide_eq_true (List.mem_filter.mp hm).2
  · rename_i hm
    rcases weak_at h i with q | q
    · exact q
    · by_cases hl : i < ows.length
      · exact absurd (List.mem_filter.mpr ⟨List.mem_range.mpr hl, decide_eq_true q⟩) hm
      · rw [q]
        unfold owAt
        rw [List.getD_eq_getElem?_getD, List.getElem?_eq_none (by omega)]
        rfl
/-- a slot is emptied, its thing taken out -/
def Wd.out (w : Wd) (i : Nat) : Wd := ⟨w.Z, fun j a => j ≠ i ∧ w.F j a, w.H⟩
theorem Ext.out (w : Wd) (i : Nat) : Ext w (w.out i) := ⟨fun _ h => h, fun _ _ e _ => e, fun _ h => h, fun j _ h => .inl ⟨j, h.2⟩, fun _ h => .inl h, fun h => h⟩
theorem SR.out {ows' : Ows} (s : SR K pn ows env σ w) (i : Nat) (ho : ∀ j, j ≠ i → owAt ows' j = owAt ows j) : SR K pn ows' (unS env i) σ (w.out i) where
  len := by rw [s.len]; unfold unS; simp
  at_ := fun j d h => by
    obtain ⟨q, h'⟩ := getS_un h
    obtain ⟨v, h1, h2⟩ := s.at_ j d h'
    refine ⟨v, h1, ?_⟩
    rw [ho j q]
    have e : (w.out i).F j = w.F j := by
      funext a
      exact propext ⟨fun z => z.2, fun z => ⟨q, z⟩⟩
    rw [e]
    exact h2
  apart := fun j k a h1 h2 => s.apart j k a h1.2 h2.2
  zf := fun j a h z => s.zf j a h.2 z
  fm := fun j a h => s.fm j a h.2
  zt := s.zt
  pin := fun j p h => ⟨(s.pin j p h).1, fun d hd d' hg => (s.pin j p h).2 d hd d' (getS_un hg).2⟩
/-- a temp is stored into a slot -/
def Wd.put (w : Wd) (i : Nat) (A : AS) : Wd := ⟨w.Z, fun j a => if j = i then A a else w.F j a, w.H⟩
theorem SR.put {o : Ow} {d : D} {v : V} {A : AS} {ows' : Ows} (s : SR K pn ows env σ w) (i : Nat) (hp : pn i = none) (ho : ∀ j, j ≠ i → owAt ows' j = owAt ows j) (hoi : owAt ows' i = o) (r : RO K w.H w.Z o d v A)
    (tz : ∀ a, A a → ¬ w.Z a) (tf : ∀ a j, A a → ¬ w.F j a) : SR K pn ows' (setS env i d) (σ.set i (some v)) (w.put i A) where
  len := by rw [List.length_set, s.len]; unfold setS; simp
  at_ := fun j d' h => by
    have hi := getS_lt h
    rcases getS_set h with ⟨rfl, rfl⟩ | ⟨q, h'⟩
    · refine ⟨v, List.getElem?_set_self (by rw [s.len]; simpa [setS] using hi), ?_⟩
      rw [hoi]
      have e : (w.put j A).F j = A := by funext a; simp [Wd.put]
      rw [e]
      exact r
    · obtain ⟨v', h1, h2⟩ := s.at_ j d' h'
      refine ⟨v', by rw [List.getElem?_set_ne (Ne.symm q)]; exact h1, ?_⟩
      rw [ho j q]
      have e : (w.put i A).F j = w.F j := by funext a; simp [Wd.put, q]
      rw [e]
      exact h2
  apart := fun j k a h1 h2 => by
    simp only [Wd.put] at h1 h2
    split at h1 <;> split at h2
    · omega
    · exact absurd h2 (tf a k h1)
    · exact absurd h1 (tf a j h2)
    · exact s.apart j k a h1 h2
  zf := fun j a h z => by
    simp only [Wd.put] at h
    split at h
    · exact tz a h z
    · exact s.zf j a h z
  fm := fun j a h => by
    simp only [Wd.put] at h
    split at h
    · exact r.there a h
    · exact s.fm j a h
  zt := s.zt
  pin := fun j v' h => by
    by_cases q : i = j
    · subst q; rw [hp] at h; cases h
    · rw [List.getElem?_set_ne q]
      refine ⟨(s.pin j v' h).1, fun d hd d' hg => (s.pin j v' h).2 d hd d' ?_⟩
      rcases getS_set hg with ⟨e, _⟩ | ⟨_, e⟩
      · exact absurd e.symm q
      · exact e
theorem Ext.put {A : AS} {i : Nat} (e : Ext w w1) (t : Tmp w w1 A) : Ext w (w1.put i A) where
  z := e.z
  fr := e.fr
  dm := e.dm
  nw := fun j a h => by
    simp only [Wd.put] at h
    split at h
    · exact t.nw a h
    · exact e.nw j a h
  zn := e.zn
  zh := e.zh
end

/-! ### judgements -/
structure Cc where
  K : PySem.W.Frag
  pn : Pin
  x : Ows
  r : Ows
  ro : Ow
  W : WX
/-- nothing that was has changed -/
def Quiet (w w' : Wd) : Prop := ∀ a q, w.H a = some q → w'.H a = some q
def exK (c : Cc) (σ : L2.St) (w : Wd) (n : Str) (env' : Env) : Prop := ∀ w', Ext w w' → SR c.K c.pn c.x env' σ w' → c.W (.ref (He.ga c.K n)) none σ w'.H
/-- an expression, its value to be kept -/
def tV (c : Cc) (f : M D) (ows ows' : Ows) (o : Ow) (qt : Bool) : TE := fun σ H Q => ∃ w env, w.H = H ∧ SR c.K c.pn ows env σ w ∧ match f env with
  | .ok d env' => ∀ w' v A, Ext w w' → SR c.K c.pn ows' env' σ w' → RO c.K w'.H w'.Z o d v A → Tmp w w' A → (qt = true → Quiet w w') → Q v w'.H
  | .ex n env' => exK c σ w n env'
  | .no => False
/-- an expression, its value to be looked at -/
def tR (c : Cc) (f : M D) (ows ows' : Ows) (o : Ow) (qt : Bool) : TE := fun σ H Q => ∃ w env, w.H = H ∧ SR c.K c.pn ows env σ w ∧ match f env with
  | .ok d env' => ∀ w' v A, Ext w w' → SR c.K c.pn ows' env' σ w' → RO c.K w'.H w'.Z o d v A → (qt = true → Quiet w w') → Q v w'.H
  | .ex n env' => exK c σ w n env'
  | .no => False
def tB_ (c : Cc) (f : M Bool) (ows ows' : Ows) (qt : Bool) : TT := fun σ H Q => ∃ w env, w.H = H ∧ SR c.K c.pn ows env σ w ∧ match f env with
  | .ok b env' => ∀ w', Ext w w' → SR c.K c.pn ows' env' σ w' → (qt = true → Quiet w w') → Q b w'.H
  | .ex n env' => exK c σ w n env'
  | .no => False
/-- a state behind; none: never reached -/
def SRq (K : PySem.W.Frag) (pn : Pin) (oo : Option Ows) (env : Env) (σ : L2.St) (w : Wd) : Prop := ∃ o, oo = some o ∧ SR K pn o env σ w
def tS (c : Cc) (f : M Fl) (ows : Ows) (onx obk oct : Option Ows) : TS := fun D σ H => ∃ w env, w.H = H ∧ SR c.K c.pn ows env σ w ∧ match f env with
  | .ok .nx env' => ∀ w' σ', Ext w w' → SRq c.K c.pn onx env' σ' w' → D.nx σ' w'.H
  | .ok .bk env' => ∀ w' σ', Ext w w' → SRq c.K c.pn obk env' σ' w' → D.bk σ' w'.H
  | .ok .ct env' => ∀ w' σ', Ext w w' → SRq c.K c.pn oct env' σ' w' → D.ct σ' w'.H
  | .ok (.rt d) env' => ∀ w' σ' v A, Ext w w' → SR c.K c.pn c.r env' σ' w' → RO c.K w'.H w'.Z c.ro d v A → Tmp w w' A → D.rt v w'.H
  | .ex n env' => ∀ w' σ', Ext w w' → SR c.K c.pn c.x env' σ' w' → c.W (.ref (He.ga c.K n)) none σ' w'.H
  | .no => False
theorem exK.mono {c : Cc} {σ : L2.St} {w w1 : Wd} {n : Str} {e : Env} (x : Ext w w1) (h : exK c σ w n e) : exK c σ w1 n e := fun w' e1 s => h w' (x.trans e1) s

theorem wPE {X : Cx} {e : Expr} {t t' : TE} (h : PE X e t) (k : ∀ σ H Q, t' σ H Q → t σ H Q) : PE X e t' := ⟨fun pins s σ H Q I q => h.run pins s σ H Q I (k σ H Q q)⟩
theorem wPT {X : Cx} {e : Expr} {t t' : TT} (h : PT X e t) (k : ∀ σ H Q, t' σ H Q → t σ H Q) : PT X e t' := ⟨fun pins s σ H Q I q => h.run pins s σ H Q I (k σ H Q q)⟩
theorem wPS {X : Cx} {e : Stmt} {t t' : TS} (h : PS X e t) (k : ∀ D σ H, t' D σ H → t D σ H) : PS X e t' := ⟨fun pins s σ H D I q => h.run pins s σ H D I (k D σ H q)⟩
theorem wPSs {X : Cx} {e : List Stmt} {t t' : TS} (h : PSs X e t) (k : ∀ D σ H, t' D σ H → t D σ H) : PSs X e t' := ⟨fun pins s σ H D I q => h.run pins s σ H D I (k D σ H q)⟩
end Mp
/-! Mp4: operators. -/
namespace Mp
open PySem PySem.Spec PyProof.Rows L2

/-- something new is laid, all else stays -/
structure Alloc (w w' : Wd) (A : AS) : Prop where
  z : w'.Z = w.Z
  f : w'.F = w.F
  h : ∀ a q, w.H a = some q → w'.H a = some q
  n : ∀ a, A a → w.H a = none
section
variable {K : PySem.W.Frag} {pn : Pin} {ows : Ows} {env : Env} {σ : L2.St} {w w' w0 : Wd} {A : AS}
theorem Alloc.refl : Alloc w w (fun _ => False) := ⟨rfl, rfl, fun _ _ e => e, fun _ h => h.elim⟩
theorem Alloc.ext (a : Alloc w w' A) : Ext w w' where
  z := fun _ h => by rw [a.z]; exact h
  fr := fun x o e _ => a.h x o e
  dm := fun x h => by
    cases e : w.H x with
    | none => exact absurd e h
    | some q => rw [a.h x q e]; simp
  nw := fun i x h => by rw [a.f] at h; exact .inl ⟨i, h⟩
  zn := fun x h => by rw [a.z] at h; exact .inl h
  zh := fun k x h => by
    rw [a.z] at h
    cases e : w.H x with
    | none => exact absurd e (k x h)
    | some q => rw [a.h x q e]; simp
theorem Alloc.keep {o : Ow} {d : D} {v : V} {B : AS} (a : Alloc w w' A) (h : RO K w.H w.Z o d v B) : RO K w'.H w'.Z o d v B := h.keep (fun x z => by rw [a.z]; exact z) fun x q e _ => a.h x q e
theorem Alloc.sr (a : Alloc w w' A) (s : SR K pn ows env σ w) : SR K pn ows env σ w' where
  len := s.len
  at_ := fun i d e => by
    obtain ⟨v, h1, h2⟩ := s.at_ i d e
    exact ⟨v, h1, by rw [a.f]; exact a.keep h2⟩
  apart := by rw [a.f]; exact s.apart
  zf := by rw [a.f, a.z]; exact s.zf
  fm := fun i x h => by
    rw [a.f] at h
    obtain ⟨o, e, m⟩ := s.fm i x h
    exact ⟨o, a.h x o e, m⟩
  zt := fun x h => by
    rw [a.z] at h
    cases e : w.H x with
    | none => exact absurd e (s.zt x h)
    | some q => rw [a.h x q e]; simp
  pin := s.pin
theorem Alloc.tmp (a : Alloc w w' A) (s : SR K pn ows env σ w) : Tmp w w' A where
  z := fun x h z => by
    rw [a.z] at z
    exact s.zt x z (a.n x h)
  f := fun x i h z => by
    rw [a.f] at z
    obtain ⟨o, e, _⟩ := s.fm i x z
    rw [a.n x h] at e; cases e
  nw := fun x h => .inr (a.n x h)
theorem Alloc.quiet (a : Alloc w w' A) : Quiet w w' := a.h
def Wd.upd (w : Wd) (p : Addr) (o : HO) : Wd := ⟨w.Z, w.F, L2.upd w.H p o⟩
theorem Alloc.new {p : Addr} {o : HO} (h : w.H p = none) : Alloc w (w.upd p o) (fun a => a = p) where
  z := rfl
  f := rfl
  h := fun a q e => by
    show L2.upd w.H p o a = some q
    rw [upd_ne (ne_of_none e h)]
    exact e
  n := fun a e => by rw [e]; exact h
theorem Alloc.new0 {p : Addr} {o : HO} (h : w.H p = none) : Alloc w (w.upd p o) (fun _ => False) := ⟨rfl, rfl, (Alloc.new h).h, fun _ z => z.elim⟩

theorem RO.rep {o : Ow} {d : D} {v : V} {H : Hp} {Z : AS} (h : RO K H Z o d v A) (h1 : ∀ ds, d ≠ .lst ds) (h2 : ∀ t ks vs, d ≠ .dct t ks vs) : Rep K H Z d v := by
  cases o with
  | fr => exact h.1
  | ow o => exact ((RO.scal h1 h2).mp h).1
theorem RO.of {o : Ow} {d : D} {v : V} {H : Hp} {Z : AS} (h : Rep K H Z d v) (h1 : ∀ ds, d ≠ .lst ds) (h2 : ∀ t ks vs, d ≠ .dct t ks vs) : RO K H Z o d v (fun _ => False) := by
  cases o with
  | fr => exact ⟨h, fun _ z => z⟩
  | ow o => exact (RO.scal h1 h2).mpr ⟨h, fun _ z => z⟩
section
variable {o : Ow} {v : V} {H : Hp} {Z : AS}
theorem RO.int {i : Int} (h : RO K H Z o (.int i) v A) : v = .int i := h.rep (fun _ q => by cases q) (fun _ _ _ q => by cases q)
theorem RO.bl {i : Bool} (h : RO K H Z o (.bl i) v A) : v = .bl i := h.rep (fun _ q => by cases q) (fun _ _ _ q => by cases q)
theorem RO.str {i : Str} (h : RO K H Z o (.str i) v A) : v = .str i := h.rep (fun _ q => by cases q) (fun _ _ _ q => by cases q)
theorem RO.non (h : RO K H Z o .non v A) : v = .non := h.rep (fun _ q => by cases q) (fun _ _ _ q => by cases q)
theorem RO.tup {ds : List D} (h : RO K H Z o (.tup ds) v A) : ∃ a xs, v = .ref a ∧ SqT K H a xs ∧ Reps K H Z ds xs := h.rep (fun _ q => by cases q) (fun _ _ _ q => by cases q)
theorem RO.rol {ds : List D} (h : RO K H Z o (.rol ds) v A) : ∃ a xs, v = .ref a ∧ RdL K H a xs ∧ Reps K H Z ds xs := h.rep (fun _ q => by cases q) (fun _ _ _ q => by cases q)
theorem RO.lst {ds : List D} (h : RO K H Z o (.lst ds) v A) : ∃ a xs, v = .ref a ∧ H a = some (.lst xs) ∧ xs.length = ds.length := by
  cases o with
  | fr =>
    obtain ⟨a, xs, e, h1, h2⟩ := (show ∃ a xs, v = V.ref a ∧ FzL H Z a xs ∧ Reps K H Z ds xs from h.1)
    exact ⟨a, xs, e, h1.2, h2.len⟩
  | ow o =>
    obtain ⟨a, xs, B, G, e, h1, I, _⟩ := h
    exact ⟨a, xs, e, h1, I.len⟩
end
theorem RO.mkint {o : Ow} {i : Int} {H : Hp} {Z : AS} : RO K H Z o (.int i) (.int i) (fun _ => False) := RO.of rfl (fun _ q => by cases q) (fun _ _ _ q => by cases q)
theorem RO.mkbl {o : Ow} {i : Bool} {H : Hp} {Z : AS} : RO K H Z o (.bl i) (.bl i) (fun _ => False) := RO.of rfl (fun _ q => by cases q) (fun _ _ _ q => by cases q)
theorem RO.mkstr {o : Ow} {i : Str} {H : Hp} {Z : AS} : RO K H Z o (.str i) (.str i) (fun _ => False) := RO.of rfl (fun _ q => by cases q) (fun _ _ _ q => by cases q)
theorem RO.mknon {o : Ow} {H : Hp} {Z : AS} : RO K H Z o .non .non (fun _ => False) := RO.of rfl (fun _ q => by cases q) (fun _ _ _ q => by cases q)
theorem RO.mktup {o : Ow} {H : Hp} {Z : AS} {ds : List D} {a : Addr} {xs : List V} (h : SqT K H a xs) (r : Reps K H Z ds xs) : RO K H Z o (.tup ds) (.ref a) (fun _ => False) := RO.of ⟨a, xs, rfl, h, r⟩ (fun _ q => by cases q) (fun _ _ _ q => by cases q)
/-- items at hand may be read as frozen data -/
def shal : Ow → Bool
  | .fr => true
  | .ow .fr => true
  | _ => false
theorem RO.lstR {o : Ow} {ds : List D} {v : V} {H : Hp} {Z : AS} (sh : shal o = true) (h : RO K H Z o (.lst ds) v A) : ∃ a xs, v = .ref a ∧ H a = some (.lst xs) ∧ Reps K H Z ds xs := by
  cases o with
  | fr =>
    obtain ⟨a, xs, e, h1, h2⟩ := (show ∃ a xs, v = V.ref a ∧ FzL H Z a xs ∧ Reps K H Z ds xs from h.1)
    exact ⟨a, xs, e, h1.2, h2⟩
  | ow o =>
    cases o with
    | fr =>
      obtain ⟨a, xs, B, G, e, h1, I, _⟩ := h
      exact ⟨a, xs, e, h1, Reps.of I.len fun k d x e1 e2 => (I.at_ k d x e1 e2).1⟩
    | ow o => cases sh
theorem Items.nil {R : D → V → AS → Prop} : Items R [] [] (fun _ => False) (fun _ _ => False) := ⟨rfl, fun _ _ _ e => by simp at e, fun _ _ _ h => h.elim, fun b => ⟨fun h => h.elim, fun ⟨k, h, _⟩ => by simp at h⟩⟩
theorem Items.frs {H : Hp} {Z : AS} {ds : List D} {xs : List V} (h : Reps K H Z ds xs) : Items (RO K H Z .fr) ds xs (fun _ => False) (fun _ _ => False) :=
  ⟨h.len, fun k d x e1 e2 => by
    obtain ⟨y, e3, r⟩ := h.get e1
    rw [e2] at e3; cases e3
    exact ⟨r, fun _ z => z⟩, fun _ _ _ z => z.elim, fun b => ⟨fun z => z.elim, fun ⟨_, _, z⟩ => z.elim⟩⟩
theorem RO.newl {p : Addr} {ds : List D} {xs : List V} (hp : w.H p = none) (r : Reps K w.H w.Z ds xs) : RO K (w.upd p (.lst xs)).H (w.upd p (.lst xs)).Z (.ow .fr) (.lst ds) (.ref p) (fun a => a = p) := by
  have a := Alloc.new (w := w) (o := .lst xs) hp
  have r' : Reps K (w.upd p (.lst xs)).H (w.upd p (.lst xs)).Z ds xs := r.mono (fun _ z => z) fun x q e _ => a.h x q e
  exact ⟨p, xs, fun _ => False, fun _ _ => False, rfl, upd_same, Items.frs r', fun z => z, fun b => ⟨.inl, fun z => z.elim id False.elim⟩⟩
theorem RO.newt {o : Ow} {p : Addr} {ds : List D} {xs : List V} (hp : w.H p = none) (r : Reps K w.H w.Z ds xs) : RO K (w.upd p (.tup xs)).H (w.upd p (.tup xs)).Z o (.tup ds) (.ref p) (fun _ => False) := by
  have a := Alloc.new (w := w) (o := .tup xs) hp
  have r' : Reps K (w.upd p (.tup xs)).H (w.upd p (.tup xs)).Z ds xs := r.mono (fun _ z => z) fun x q e _ => a.h x q e
  exact RO.mktup (SqT.of upd_same) r'
theorem Reps.append {H : Hp} {Z : AS} : ∀ {ds es : List D} {xs ys : List V}, Reps K H Z ds xs → Reps K H Z es ys → Reps K H Z (ds ++ es) (xs ++ ys)
  | [], _, _, _, h, g => by unfold Reps at h; subst h; exact g
  | d :: ds, es, xs, ys, h, g => by
    unfold Reps at h
    obtain ⟨x, r, rfl, h1, h2⟩ := h
    show Reps K H Z (d :: (ds ++ es)) (x :: (r ++ ys))
    unfold Reps
    exact ⟨x, _, rfl, h1, Reps.append h2 g⟩
theorem sz_eq : SZ = sizeLine := by rw [sizeLine_eq]; rfl
end

/-! ### two operands -/
/-- the rule r gives what g says -/
def Ok2 (K : PySem.W.Frag) (g : D → D → Option D) (o : Ow) (r : R2) (o1 o2 : Ow) : Prop := ∀ (w : Wd) (d1 d2 : D) (v1 v2 : V) (A1 A2 : AS) (d : D) (Q : VK), RO K w.H w.Z o1 d1 v1 A1 → RO K w.H w.Z o2 d2 v2 A2 → g d1 d2 = some d →
  (∀ w' v A, Alloc w w' A → RO K w'.H w'.Z o d v A → Q v w'.H) → r v1 v2 w.H Q
theorem ok2_imp {c : Cc} {fa fb : M D} {ows ows1 ows2 : Ows} {o o1 o2 : Ow} {q1 : Bool} {g : D → D → Option D} {r : R2} (k : Ok2 c.K g o r o1 o2) : ∀ σ H Q, tV c (op2 g fa fb) ows ows2 o q1 σ H Q → tOp r (tR c fa ows ows1 o1 q1) (tR c fb ows1 ows2 o2 true) σ H Q := by
  intro σ H Q ⟨w, env, hw, sr, h⟩
  refine ⟨w, env, hw, sr, ?_⟩
  unfold op2 M.bind at h
  cases e1 : fa env with
  | no => rw [e1] at h; exact h
  | ex n env1 => rw [e1] at h; exact h
  | ok d1 env1 =>
    rw [e1] at h
    intro w1 v1 A1 x1 s1 r1 z1
    refine ⟨w1, env1, rfl, s1, ?_⟩
    simp only at h
    cases e2 : fb env1 with
    | no => rw [e2] at h; exact h
    | ex n env2 => rw [e2] at h; exact exK.mono x1 h
    | ok d2 env2 =>
      rw [e2] at h
      intro w2 v2 A2 x2 s2 r2 z2
      have r1' : RO c.K w2.H w2.Z o1 d1 v1 A1 := r1.keep x2.z fun a q e _ => z2 rfl a q e
      simp only [M.opt] at h
      cases e3 : g d1 d2 with
      | none => rw [e3] at h; exact h.elim
      | some d =>
        rw [e3] at h
        refine k w2 d1 d2 v1 v2 A1 A2 d Q r1' r2 e3 fun w3 v A al ro => ?_
        exact h w3 v A ((x1.trans x2).trans al.ext) (al.sr s2) ro ((al.tmp s2).pre (x1.trans x2)) fun q => fun a b e => al.h a b (z2 rfl a b (z1 q a b e))
theorem pe_ok2 {X : Cx} {c : Cc} {a b pe : Expr} {fa fb : M D} {ows ows1 ows2 : Ows} {o o1 o2 : Ow} {q1 : Bool} {g : D → D → Option D} {r : R2} (ha : PE X a (tR c fa ows ows1 o1 q1)) (hb : PE X b (tR c fb ows1 ows2 o2 true))
    (hop : ∀ {ta tb : TE}, PE X a ta → PE X b tb → PE X pe (tOp r ta tb)) (k : Ok2 c.K g o r o1 o2) : PE X pe (tV c (op2 g fa fb) ows ows2 o q1) := wPE (hop ha hb) (ok2_imp k)
theorem Ok2.or1 {K : PySem.W.Frag} {g : D → D → Option D} {o o1 o2 : Ow} {r r' : R2} (h : ∀ (w : Wd) (d1 d2 : D) (v1 v2 : V) (A1 A2 : AS) (d : D) (Q : VK), RO K w.H w.Z o1 d1 v1 A1 → RO K w.H w.Z o2 d2 v2 A2 → g d1 d2 = some d →
    (∀ w' v A, Alloc w w' A → RO K w'.H w'.Z o d v A → Q v w'.H) → r v1 v2 w.H Q ∨ r' v1 v2 w.H Q) : Ok2 K g o (fun x y H Q => r x y H Q ∨ r' x y H Q) o1 o2 := h

section
variable {X : Cx} {o1 o2 : Ow}
/-- a value that hangs on nothing -/
theorem fin_int {K : PySem.W.Frag} {w : Wd} {o : Ow} {d : D} {i : Int} {Q : VK} (e : D.int i = d) (k : ∀ w' v A, Alloc w w' A → RO K w'.H w'.Z o d v A → Q v w'.H) : Q (.int i) w.H := by
  subst e; exact k w _ _ Alloc.refl RO.mkint
theorem fin_bl {K : PySem.W.Frag} {w : Wd} {o : Ow} {d : D} {i : Bool} {Q : VK} (e : D.bl i = d) (k : ∀ w' v A, Alloc w w' A → RO K w'.H w'.Z o d v A → Q v w'.H) : Q (.bl i) w.H := by
  subst e; exact k w _ _ Alloc.refl RO.mkbl
theorem fin_str {K : PySem.W.Frag} {w : Wd} {o : Ow} {d : D} {i : Str} {Q : VK} (e : D.str i = d) (k : ∀ w' v A, Alloc w w' A → RO K w'.H w'.Z o d v A → Q v w'.H) : Q (.str i) w.H := by
  subst e; exact k w _ _ Alloc.refl RO.mkstr

abbrev rAddS : R2 := fun x y H Q => ∃ i j, x = .str i ∧ y = .str j ∧ i.length + j.length ≤ sizeLine ∧ Q (.str (i ++ j)) H
abbrev rAddA (K : PySem.W.Frag) : R2 := fun x y H Q => rI0 (fun i j => .int (i + j)) x y H Q ∨ rAddS x y H Q ∨ rCat x y H Q ∨ rCatA K x y H Q
theorem op_addA : OpR X (binaryOp .Add) (rAddA X.K) := op_add.or (op_add_str.or (op_cat.or op_catA))
theorem ok_add {K : PySem.W.Frag} (s1 : shal o1 = true) (s2 : shal o2 = true) : Ok2 K (binD .add) (.ow .fr) (rAddA K) o1 o2 := by
  intro w d1 d2 v1 v2 A1 A2 d Q r1 r2 e k
  have e' : addD d1 d2 = some d := e
  unfold addD at e'
  split at e'
  · cases e'
    exact .inl ⟨_, _, r1.int, r2.int, fin_int rfl k⟩
  · split at e'
    · rename_i hl
      cases e'
      exact .inr (.inl ⟨_, _, r1.str, r2.str, by rw [← sz_eq]; exact hl, fin_str rfl k⟩)
    · cases e'
  · split at e'
    · rename_i hl
      cases e'
      obtain ⟨a, xs, rfl, h1, q1⟩ := r1.lstR s1
      obtain ⟨b, ys, rfl, h2, q2⟩ := r2.lstR s2
      refine .inr (.inr (.inl ⟨a, b, xs, ys, rfl, rfl, h1, h2, by rw [q1.len, q2.len, ← sz_eq]; exact hl, fun p hp => ?_⟩))
      exact k (w.upd p (.lst (xs ++ ys))) _ _ (Alloc.new hp) (RO.newl hp (q1.append q2))
    · cases e'
  · split at e'
    · rename_i hl
      cases e'
      obtain ⟨a, xs, rfl, h1, q1⟩ := r1.tup
      obtain ⟨b, ys, rfl, h2, q2⟩ := r2.tup
      refine .inr (.inr (.inr ⟨a, b, xs, ys, rfl, rfl, h1, h2, by rw [q1.len, q2.len, ← sz_eq]; exact hl, fun e => ?_, fun _ e => ?_, fun _ _ p hp => ?_⟩))
      · subst e
        have e2 := List.eq_nil_of_length_eq_zero (q1.len.symm.trans rfl)
        subst e2
        exact k w _ _ Alloc.refl (RO.mktup h2 q2)
      · subst e
        have e2 := List.eq_nil_of_length_eq_zero (q2.len.symm.trans rfl)
        subst e2
        rw [List.append_nil] at k
        exact k w _ _ Alloc.refl (RO.mktup h1 q1)
      · exact k (w.upd p (.tup (xs ++ ys))) _ _ (Alloc.new0 hp) (RO.newt hp (q1.append q2))
    · cases e'
  · cases e'

theorem ok_sub {K : PySem.W.Frag} : Ok2 K (binD .sub) (.ow .fr) (rI0 fun i j => .int (i - j)) o1 o2 := by
  intro w d1 d2 v1 v2 A1 A2 d Q r1 r2 e k
  cases d1 <;> cases d2 <;> simp only [binD, reduceCtorEq, Option.some.injEq] at e
  exact ⟨_, _, r1.int, r2.int, fin_int e k⟩
abbrev rRepT1 (K : PySem.W.Frag) : R2 := fun x y H Q => ∃ l xs, x = .ref l ∧ y = .int 1 ∧ SqT K H l xs ∧ Q x H
theorem tuple_mul1 (l : Addr) (items : Array Value) (n : Nat) (dd : Option Addr) (sl : Array (Option Value)) (u : Tok) :
    Meets (Builtin.«tuple.__mul__» ⟨[.ref l, .int 1 u], []⟩) (fun _ R s => s.heap.get? l = some { cls := .type "tuple", dict := dd, data := .seq items n, slots := sl } ∧
      R (.ok (.ret (Value.ref l))) s) :=
  .of_wp fun prog w A R s h => by
    obtain ⟨hp, g, d, tk, os⟩ := s
    obtain ⟨hl, h⟩ := h
    have f1 := AutoSeq1.idx_int
    wp_walk using AutoSeq1.wpAny_loadPart' hl
    repeat (first
      | (refine wpAny_ite_false (by decide) ?_; wp_walk using AutoSeq1.wpAny_loadPart' hl)
      | (refine wpAny_ite_true (by simp) ?_; wp_walk using AutoSeq1.wpAny_loadPart' hl))
    exact ⟨_, rfl, h⟩
theorem op_repT1 : OpR X (binaryOp .Mult) (rRepT1 X.K) := by
  intro pins s σ H x y v u Q I rx ry h
  obtain ⟨l, xs, rfl, rfl, hT, q⟩ := h
  cases rx
  obtain ⟨t, rfl⟩ := ry
  obtain ⟨its, r, ⟨⟨cls, dd, data, sl⟩, ho, hc, n, hd⟩, hs⟩ := I.tuple hT
  simp only at hc hd
  subst hc hd
  exact wpAny_binaryOp_repeat_ref (T := "tuple") (U := "int") (by decide) ⟨_, ho, rfl⟩ (fun s' => typeIs_int s' 1 t) noFill_tuple_mul F.fills_int_mul F.slot_int_rmul repeat_tuple F.slot_int_index.lookup
    (call_meets F.slot_int_rmul (typeIs_int s 1 t) F.entry_int_rmul (F.args_int_rmul_2 _ _) (int_rmul_tuple 1 t l its.toArray n dd sl)
      ⟨ho, rfl, ⟨_, ho, rfl⟩, call_meets F.slot_tuple_mul ⟨_, ho, rfl⟩ F.entry_tuple_mul (F.args_tuple_mul_2 _ _) (tuple_mul1 l its.toArray n dd sl t) ⟨ho, ⟨.ref l, H, I, rfl, q⟩⟩⟩)
abbrev rMulA (K : PySem.W.Frag) : R2 := fun x y H Q => rI CMul (fun i j => .int (i * j)) x y H Q ∨ rRep x y H Q ∨ rRepT1 K x y H Q
theorem op_mulA : OpR X (binaryOp .Mult) (rMulA X.K) := op_mul.or (op_rep.or op_repT1)
theorem w64_ok {i j : Int} (h : (W64 i || W64 j) = true) : CMul i j := by
  unfold W64 at h
  simp only [Bool.or_eq_true, decide_eq_true_eq] at h
  unfold CMul
  have e : (2 : Int) ^ 64 = 18446744073709551616 := by decide
  rw [e]
  rcases h with h | h
  · exact .inl ⟨by omega, by omega⟩
  · exact .inr ⟨by omega, by omega⟩
theorem Reps.rep {K : PySem.W.Frag} {H : Hp} {Z : AS} {ds : List D} {xs : List V} (h : Reps K H Z ds xs) : ∀ n : Nat, Reps K H Z (List.replicate n ds).flatten (List.replicate n xs).flatten
  | 0 => by simp [Reps]
  | n + 1 => by
    rw [List.replicate_succ, List.replicate_succ, List.flatten_cons, List.flatten_cons]
    exact h.append (Reps.rep h n)
theorem ok_mul {K : PySem.W.Frag} (s1 : shal o1 = true) : Ok2 K (binD .mul) (.ow .fr) (rMulA K) o1 o2 := by
  intro w d1 d2 v1 v2 A1 A2 d Q r1 r2 e k
  cases d1 <;> cases d2 <;> simp only [binD, reduceCtorEq] at e
  · split at e
    · rename_i hw
      cases e
      exact .inl ⟨_, _, r1.int, r2.int, w64_ok hw, fin_int rfl k⟩
    · cases e
  · split at e
    · rename_i xs i hw
      cases e
      subst hw
      obtain ⟨a, ys, rfl, h1, q1⟩ := r1.tup
      exact .inr (.inr ⟨a, ys, rfl, r2.int, h1, k w _ _ Alloc.refl (RO.mktup h1 q1)⟩)
    · cases e
  · split at e
    · rename_i xs i hw
      simp only [Bool.and_eq_true, decide_eq_true_eq, B62] at hw
      cases e
      obtain ⟨a, ys, rfl, h1, q1⟩ := r1.lstR s1
      refine .inr (.inl ⟨a, i, ys, rfl, r2.int, h1, by have := hw.1; omega, by have := hw.1; omega, by rw [q1.len, ← sz_eq]; exact hw.2, fun p hp => ?_⟩)
      exact k (w.upd p (.lst (List.replicate i.toNat ys).flatten)) _ _ (Alloc.new hp) (RO.newl hp (q1.rep _))
    · cases e
theorem ok_fdiv {K : PySem.W.Frag} : Ok2 K (binD .fdiv) (.ow .fr) (rI CDiv fun i j => .int (i / j)) o1 o2 := by
  intro w d1 d2 v1 v2 A1 A2 d Q r1 r2 e k
  cases d1 <;> cases d2 <;> simp only [binD, reduceCtorEq] at e
  split at e
  · rename_i hw
    cases e
    exact ⟨_, _, r1.int, r2.int, hw, fin_int rfl k⟩
  · cases e
theorem ok_mod {K : PySem.W.Frag} : Ok2 K (binD .mod) (.ow .fr) (rI (fun _ j => 0 < j) fun i j => .int (i % j)) o1 o2 := by
  intro w d1 d2 v1 v2 A1 A2 d Q r1 r2 e k
  cases d1 <;> cases d2 <;> simp only [binD, reduceCtorEq] at e
  split at e
  · rename_i hw
    cases e
    exact ⟨_, _, r1.int, r2.int, hw, fin_int rfl k⟩
  · cases e
theorem ok_pow {K : PySem.W.Frag} : Ok2 K (binD .pow) (.ow .fr) (rI CPow fun i j => .int (i ^ j.toNat)) o1 o2 := by
  intro w d1 d2 v1 v2 A1 A2 d Q r1 r2 e k
  cases d1 <;> cases d2 <;> simp only [binD, reduceCtorEq] at e
  split at e
  · rename_i hw
    cases e
    exact ⟨_, _, r1.int, r2.int, ⟨hw.1, by have := hw.2.1; omega, by have := hw.2.2; omega⟩, fin_int rfl k⟩
  · cases e

/-! ### comparisons -/
mutual
theorem Rep.dp {K : PySem.W.Frag} {H : Hp} {Z : AS} : ∀ {d : D} {v : V}, d.toP.canLay0 = true → Rep K H Z d v → Dp K H v d.toP
  | .non, _, _, h => by unfold Rep at h; subst h; exact .non
  | .bl b, _, _, h => by unfold Rep at h; subst h; exact .bl b
  | .int i, _, _, h => by unfold Rep at h; subst h; exact .int i
  | .str x, _, _, h => by unfold Rep at h; subst h; exact .str x
  | .tup ds, _, c, h => by
    unfold Rep at h
    obtain ⟨a, xs, rfl, h1, h2⟩ := h
    unfold D.toP at c ⊢
    exact .tup h1 (Reps.dp (by simpa [PyData.canLay0] using c) h2)
  | .lst ds, _, c, h => by
    unfold Rep at h
    obtain ⟨a, xs, rfl, h1, h2⟩ := h
    unfold D.toP at c ⊢
    exact .lst (SqL.of h1.2) (Reps.dp (by simpa [PyData.canLay0] using c) h2)
  | .rol ds, _, c, h => by simp [D.toP, PyData.canLay0] at c
  | .dct _ _ _, _, c, h => by simp [D.toP, PyData.canLay0] at c
  | .exc _, _, c, h => by simp [D.toP, PyData.canLay0] at c
theorem Reps.dp {K : PySem.W.Frag} {H : Hp} {Z : AS} : ∀ {ds : List D} {xs : List V}, PyData.canLayAll0 (D.toPs ds) = true → Reps K H Z ds xs → DpAll K H xs (D.toPs ds)
  | [], _, _, h => by unfold Reps at h; subst h; exact .nil
  | d :: ds, _, c, h => by
    unfold Reps at h
    obtain ⟨x, r, rfl, h1, h2⟩ := h
    unfold D.toPs at c ⊢
    simp only [PyData.canLayAll0, Bool.and_eq_true] at c
    exact .cons (Rep.dp c.1 h1) (Reps.dp c.2 h2)
end
theorem RO.dp {K : PySem.W.Frag} {H : Hp} {Z : AS} {o : Ow} {d : D} {v : V} {A : AS} (h : RO K H Z o d v A) (c : d.shp = true) : Dp K H v d.toP := h.fz.dp (SeqAt.canLay_of_shaped c)
theorem eqD_some {a b : D} {k : Bool} (h : eqD a b = some k) : a.shp = true ∧ b.shp = true ∧ k = PyData.eqv a.toP b.toP := by
  unfold eqD at h
  split at h
  · rename_i hs
    simp only [Bool.and_eq_true] at hs
    exact ⟨hs.1, hs.2, (Option.some.inj h).symm⟩
  · cases h
theorem map_bl {o : Option Bool} {d : D} (h : o.map D.bl = some d) : ∃ k, o = some k ∧ d = .bl k := by
  cases o with
  | none => cases h
  | some k => exact ⟨k, rfl, (Option.some.inj h).symm⟩
abbrev cmpM (o : CO) : D → D → Option D := fun x y => (cmpD o x y).map .bl
theorem ok_eq {K : PySem.W.Frag} : Ok2 K (cmpM .eq) (.ow .fr) (rEqD K) o1 o2 := by
  intro w d1 d2 v1 v2 A1 A2 d Q r1 r2 e k
  obtain ⟨b, e1, rfl⟩ := map_bl e
  obtain ⟨s1, s2, rfl⟩ := eqD_some (show eqD d1 d2 = some b from e1)
  exact ⟨_, _, r1.dp s1, r2.dp s2, s1, s2, fin_bl rfl k⟩
theorem ok_ne {K : PySem.W.Frag} : Ok2 K (cmpM .ne) (.ow .fr) (rNeD K) o1 o2 := by
  intro w d1 d2 v1 v2 A1 A2 d Q r1 r2 e k
  obtain ⟨b, e1, rfl⟩ := map_bl e
  obtain ⟨b', e2, rfl⟩ := Option.map_eq_some_iff.mp (show (eqD d1 d2).map (!·) = some b from e1)
  obtain ⟨s1, s2, rfl⟩ := eqD_some e2
  exact ⟨_, _, r1.dp s1, r2.dp s2, s1, s2, fin_bl rfl k⟩
theorem ints_reps {K : PySem.W.Frag} {H : Hp} {Z : AS} : ∀ {ds : List D} {xs : List V} {ns : List Int}, D.ints ds = some ns → Reps K H Z ds xs → xs = ns.map V.int ∧ ds = ns.map D.int
  | [], xs, ns, e, h => by
    unfold Reps at h
    subst h
    simp only [D.ints, Option.some.injEq] at e
    subst e
    exact ⟨rfl, rfl⟩
  | d :: ds, xs, ns, e, h => by
    unfold Reps at h
    obtain ⟨x, r, rfl, h1, h2⟩ := h
    cases d <;> simp only [D.ints, reduceCtorEq] at e
    obtain ⟨ms, e1, rfl⟩ := Option.map_eq_some_iff.mp e
    obtain ⟨q1, q2⟩ := ints_reps e1 h2
    unfold Rep at h1
    subst h1 q1 q2
    exact ⟨rfl, rfl⟩
theorem strs_reps {K : PySem.W.Frag} {H : Hp} {Z : AS} : ∀ {ds : List D} {xs : List V} {ns : List Str}, D.strs ds = some ns → Reps K H Z ds xs → xs = ns.map V.str ∧ ds = ns.map D.str
  | [], xs, ns, e, h => by
    unfold Reps at h
    subst h
    simp only [D.strs, Option.some.injEq] at e
    subst e
    exact ⟨rfl, rfl⟩
  | d :: ds, xs, ns, e, h => by
    unfold Reps at h
    obtain ⟨x, r, rfl, h1, h2⟩ := h
    cases d <;> simp only [D.strs, reduceCtorEq] at e
    obtain ⟨ms, e1, rfl⟩ := Option.map_eq_some_iff.mp e
    obtain ⟨q1, q2⟩ := strs_reps e1 h2
    unfold Rep at h1
    subst h1 q1 q2
    exact ⟨rfl, rfl⟩
/-- ints, texts, tuples of ints by an order -/
def rOrd (K : PySem.W.Frag) (f : Int → Int → Bool) (g : Str → Str → Bool) (h : List Int → List Int → Bool) : R2 := fun x y H Q =>
  (∃ i j, x = .int i ∧ y = .int j ∧ Q (.bl (f i j)) H) ∨ (∃ i j, x = .str i ∧ y = .str j ∧ Q (.bl (g i j)) H) ∨
  ∃ a b ns ms, x = .ref a ∧ y = .ref b ∧ SqT K H a (ns.map V.int) ∧ SqT K H b (ms.map V.int) ∧ Q (.bl (h ns ms)) H
theorem lex_at (ns ms : List Int) (r : Int → Int → Bool) (zz : Bool) (neg : Bool) (hr : ∀ x y : Int, x ≠ y → r x y = (neg ^^ decide (x < y))) (hz : zz = (neg ^^ decide (ns.length < ms.length))) :
    ∀ (k i : Nat), i + k = min ns.length ms.length → Ob.lexAt (fun j => decide (ns.getD j 0 = ms.getD j 0)) (fun j => r (ns.getD j 0) (ms.getD j 0)) zz i k = (neg ^^ HT.lexLt (ns.drop i) (ms.drop i))
  | 0, i, h => by
    rw [Ob.lexAt_zero, hz]
    congr 1
    by_cases q : ns.length ≤ i
    · rw [List.drop_of_length_le q]
      by_cases q2 : ms.length ≤ i
      · rw [List.drop_of_length_le q2, HT.lexLt_nil_nil, decide_eq_false (by omega)]
      · rw [List.drop_eq_getElem_cons (by omega : i < ms.length), HT.lexLt_nil_cons, decide_eq_true (by omega)]
    · rw [List.drop_eq_getElem_cons (by omega : i < ns.length), List.drop_of_length_le (by omega : ms.length ≤ i), HT.lexLt_cons_nil, decide_eq_false (by omega)]
  | k + 1, i, h => by
    have h1 : i < ns.length := by omega
    have h2 : i < ms.length := by omega
    rw [Ob.lexAt_succ, List.drop_eq_getElem_cons h1, List.drop_eq_getElem_cons h2, HT.lexLt_cons]
    have e1 : ns.getD i 0 = ns[i] := by simp [List.getD_eq_getElem?_getD, List.getElem?_eq_getElem h1]
    have e2 : ms.getD i 0 = ms[i] := by simp [List.getD_eq_getElem?_getD, List.getElem?_eq_getElem h2]
    rw [e1, e2]
    by_cases q : ns[i] = ms[i]
    · rw [if_pos q, decide_eq_true q, if_pos rfl]
      exact lex_at ns ms r zz neg hr hz k (i + 1) (by omega)
    · rw [if_neg q, decide_eq_false q, if_neg Bool.false_ne_true, hr _ _ q]
theorem tup_pairs {X : Cx} {pins : List (Addr × Obj)} {s : Shared} {σ : L2.St} {H : Hp} {a : Addr} {ns : List Int} (I : Inv X pins σ H s) (ha : SqT X.K H a (ns.map V.int)) :
    ∃ its : Array Value, s.heap.IsTuple a its ∧ its.size = ns.length ∧ ∀ j (h : j < its.size), ∃ t, its[j] = .int (ns.getD j 0) t := by
  obtain ⟨us, rv, tp, _⟩ := I.tuple ha
  have ia : IntsAre us ns := Vals.ints rv
  exact ⟨us.toArray, tp, by rw [List.size_toArray]; exact ia.length, fun j h => PyProof.Rows.IntsAre.int_at ia _ _ (by simp at h; simp [h])⟩
theorem eq_at {A : Around} {s : Shared} {x y : Int} {t u : Tok} : SeqAt.EqAt A s (.int x t) (.int y u) (decide (x = y)) := by
  have z : decide (x = y) = (x == y) := rfl
  rw [z]
  exact SeqAt.EqAt.int_int _ _ _ _
theorem xor_true {b : Bool} : (true ^^ b) = !b := by cases b <;> rfl
theorem xor_false {b : Bool} : (false ^^ b) = b := by cases b <;> rfl
/-- the four orders -/
theorem op_ord {X : Cx} {op : CmpOp} (neg : Bool) {f : Int → Int → Bool} {g : Str → Str → Bool} (hf : OpR X (compareOp op) (rI0 fun i j => .bl (f i j))) (hg : OpR X (compareOp op) (fun x y H Q => ∃ i j, x = .str i ∧ y = .str j ∧ Q (.bl (g i j)) H))
    (ht : ∀ (pins : List (Addr × Obj)) (s : Shared) (σ : L2.St) (H : Hp) (a b : Addr) (ns ms : List Int) (Q : Value → Shared → Prop), Inv X pins σ H s → SqT X.K H a (ns.map V.int) → SqT X.K H b (ms.map V.int) →
      Q (.bool (neg ^^ HT.lexLt ns ms)) s → wpAny (model X.prog X.w) X.A (compareOp op (.ref a) (.ref b)) Q X.xe s) :
    OpR X (compareOp op) (rOrd X.K f g fun ns ms => neg ^^ HT.lexLt ns ms) := by
  intro pins s σ H x y v u Q I rx ry h
  rcases h with h | h | ⟨a, b, ns, ms, rfl, rfl, ha, hb, q⟩
  · exact hf pins s σ H x y v u Q I rx ry h
  · exact hg pins s σ H x y v u Q I rx ry h
  · cases rx
    cases ry
    exact ht pins s σ H a b ns ms _ I ha hb ⟨.bl _, H, I, rfl, q⟩
theorem op_ltA (hu : X.A.units < cLine) : OpR X (compareOp .Lt) (rOrd X.K (fun i j => decide (i < j)) (fun i j => decide (i.cps.toList < j.cps.toList)) fun ns ms => false ^^ HT.lexLt ns ms) :=
  op_ord false op_lt op_lt_str fun pins s σ H a b ns ms Q I ha hb q => by
    obtain ⟨ia, ta, za, ga⟩ := tup_pairs I ha
    obtain ⟨ib, tb, zb, gb⟩ := tup_pairs I hb
    have RR := Ob.RcOp.tuples_lt (A := X.A) (s := s) (e := fun j => decide (ns.getD j 0 = ms.getD j 0)) (r := fun j => decide (ns.getD j 0 < ms.getD j 0)) ta tb hu (fun j p1 p2 => by
      obtain ⟨t, e1⟩ := ga j p1
      obtain ⟨t2, e2⟩ := gb j p2
      rw [e1, e2]; exact eq_at) (fun j p1 p2 _ => by
      obtain ⟨t, e1⟩ := ga j p1
      obtain ⟨t2, e2⟩ := gb j p2
      rw [e1, e2]; exact Ob.RcOp.lt_int _ _ _ _)
    refine RR X.prog X.w _ _ ?_
    rw [za, zb, lex_at ns ms (fun x y => decide (x < y)) _ false (fun x y _ => by rw [xor_false]) (by rw [xor_false]) _ 0 (by omega)]
    exact q
theorem lex_sw (ns ms : List Int) (r : Nat → Bool) (z : Bool) (i k : Nat) : Ob.lexAt (fun j => decide (ns.getD j 0 = ms.getD j 0)) r z i k = Ob.lexAt (fun j => decide (ms.getD j 0 = ns.getD j 0)) r z i k := by
  congr 1
  funext j
  exact decide_eq_decide.mpr ⟨Eq.symm, Eq.symm⟩
theorem op_geA (hu : X.A.units < cLine) : OpR X (compareOp .GtE) (rOrd X.K (fun i j => decide (j ≤ i)) (fun i j => !decide (i.cps.toList < j.cps.toList)) fun ns ms => true ^^ HT.lexLt ns ms) :=
  op_ord true op_ge op_ge_str fun pins s σ H a b ns ms Q I ha hb q => by
    obtain ⟨ia, ta, za, ga⟩ := tup_pairs I ha
    obtain ⟨ib, tb, zb, gb⟩ := tup_pairs I hb
    have RR := Ob.RcOp.tuples_ge (A := X.A) (s := s) (e := fun j => decide (ns.getD j 0 = ms.getD j 0)) (r := fun j => decide (ms.getD j 0 ≤ ns.getD j 0)) ta tb hu (fun j p1 p2 => by
      obtain ⟨t, e1⟩ := ga j p1
      obtain ⟨t2, e2⟩ := gb j p2
      rw [e1, e2]; exact eq_at) (fun j p1 p2 _ => by
      obtain ⟨t, e1⟩ := ga j p1
      obtain ⟨t2, e2⟩ := gb j p2
      rw [e1, e2]; exact Ob.RcOp.ge_int _ _ _ _)
    refine RR X.prog X.w _ _ ?_
    rw [za, zb, lex_at ns ms (fun x y => decide (y ≤ x)) _ true (fun x y _ => by
      rw [xor_true]
      by_cases q : x < y
      · rw [decide_eq_true q, decide_eq_false (by omega)]; rfl
      · rw [decide_eq_false q, decide_eq_true (by omega)]; rfl) (by
      rw [xor_true]
      by_cases q : ns.length < ms.length
      · rw [decide_eq_true q, decide_eq_false (by omega)]; rfl
      · rw [decide_eq_false q, decide_eq_true (by omega)]; rfl) _ 0 (by omega)]
    exact q
/-- .. the other way round -/
theorem op_ordS {op : CmpOp} (neg : Bool) {f : Int → Int → Bool} {g : Str → Str → Bool} (hf : OpR X (compareOp op) (rI0 fun i j => .bl (f i j))) (hg : OpR X (compareOp op) (fun x y H Q => ∃ i j, x = .str i ∧ y = .str j ∧ Q (.bl (g i j)) H))
    (ht : ∀ (pins : List (Addr × Obj)) (s : Shared) (σ : L2.St) (H : Hp) (a b : Addr) (ns ms : List Int) (Q : Value → Shared → Prop), Inv X pins σ H s → SqT X.K H a (ns.map V.int) → SqT X.K H b (ms.map V.int) →
      Q (.bool (neg ^^ HT.lexLt ms ns)) s → wpAny (model X.prog X.w) X.A (compareOp op (.ref a) (.ref b)) Q X.xe s) :
    OpR X (compareOp op) (rOrd X.K f g fun ns ms => neg ^^ HT.lexLt ms ns) := by
  intro pins s σ H x y v u Q I rx ry h
  rcases h with h | h | ⟨a, b, ns, ms, rfl, rfl, ha, hb, q⟩
  · exact hf pins s σ H x y v u Q I rx ry h
  · exact hg pins s σ H x y v u Q I rx ry h
  · cases rx
    cases ry
    exact ht pins s σ H a b ns ms _ I ha hb ⟨.bl _, H, I, rfl, q⟩
theorem op_gtA (hu : X.A.units < cLine) : OpR X (compareOp .Gt) (rOrd X.K (fun i j => decide (j < i)) (fun i j => decide (j.cps.toList < i.cps.toList)) fun ns ms => false ^^ HT.lexLt ms ns) :=
  op_ordS false op_gt op_gt_str fun pins s σ H a b ns ms Q I ha hb q => by
    obtain ⟨ia, ta, za, ga⟩ := tup_pairs I ha
    obtain ⟨ib, tb, zb, gb⟩ := tup_pairs I hb
    have RR := Ob.RcOp.tuples_gt (A := X.A) (s := s) (e := fun j => decide (ns.getD j 0 = ms.getD j 0)) (r := fun j => decide (ms.getD j 0 < ns.getD j 0)) ta tb hu (fun j p1 p2 => by
      obtain ⟨t, e1⟩ := ga j p1
      obtain ⟨t2, e2⟩ := gb j p2
      rw [e1, e2]; exact eq_at) (fun j p1 p2 _ => by
      obtain ⟨t, e1⟩ := ga j p1
      obtain ⟨t2, e2⟩ := gb j p2
      rw [e1, e2]; exact Ob.RcOp.gt_int _ _ _ _)
    refine RR X.prog X.w _ _ ?_
    rw [za, zb, lex_sw, lex_at ms ns (fun x y => decide (x < y)) _ false (fun x y _ => by rw [xor_false]) (by rw [xor_false]) _ 0 (by omega)]
    exact q
theorem op_leA (hu : X.A.units < cLine) : OpR X (compareOp .LtE) (rOrd X.K (fun i j => decide (i ≤ j)) (fun i j => !decide (j.cps.toList < i.cps.toList)) fun ns ms => true ^^ HT.lexLt ms ns) :=
  op_ordS true op_le op_le_str fun pins s σ H a b ns ms Q I ha hb q => by
    obtain ⟨ia, ta, za, ga⟩ := tup_pairs I ha
    obtain ⟨ib, tb, zb, gb⟩ := tup_pairs I hb
    have RR := Ob.RcOp.tuples_le (A := X.A) (s := s) (e := fun j => decide (ns.getD j 0 = ms.getD j 0)) (r := fun j => decide (ns.getD j 0 ≤ ms.getD j 0)) ta tb hu (fun j p1 p2 => by
      obtain ⟨t, e1⟩ := ga j p1
      obtain ⟨t2, e2⟩ := gb j p2
      rw [e1, e2]; exact eq_at) (fun j p1 p2 _ => by
      obtain ⟨t, e1⟩ := ga j p1
      obtain ⟨t2, e2⟩ := gb j p2
      rw [e1, e2]; exact Ob.RcOp.le_int _ _ _ _)
    refine RR X.prog X.w _ _ ?_
    rw [za, zb, lex_sw, lex_at ms ns (fun x y => decide (y ≤ x)) _ true (fun x y _ => by
      rw [xor_true]
      by_cases q : x < y
      · rw [decide_eq_true q, decide_eq_false (by omega)]; rfl
      · rw [decide_eq_false q, decide_eq_true (by omega)]; rfl) (by
      rw [xor_true]
      by_cases q : ms.length < ns.length
      · rw [decide_eq_true q, decide_eq_false (by omega)]; rfl
      · rw [decide_eq_false q, decide_eq_true (by omega)]; rfl) _ 0 (by omega)]
    exact q
theorem lt_cases {K : PySem.W.Frag} {w : Wd} {a b : D} {v1 v2 : V} {A1 A2 : AS} {k : Bool} (r1 : RO K w.H w.Z o1 a v1 A1) (r2 : RO K w.H w.Z o2 b v2 A2) (h : ltD a b = some k) :
    (∃ i j, v1 = .int i ∧ v2 = .int j ∧ k = decide (i < j)) ∨ (∃ i j, v1 = .str i ∧ v2 = .str j ∧ k = decide (i.cps.toList < j.cps.toList)) ∨
    ∃ p q ns ms, v1 = .ref p ∧ v2 = .ref q ∧ SqT K w.H p (ns.map V.int) ∧ SqT K w.H q (ms.map V.int) ∧ k = HT.lexLt ns ms := by
  unfold ltD at h
  split at h
  · exact .inl ⟨_, _, r1.int, r2.int, (Option.some.inj h).symm⟩
  · exact .inr (.inl ⟨_, _, r1.str, r2.str, (Option.some.inj h).symm⟩)
  · split at h
    · rename_i x y e1 e2
      obtain ⟨p, xs, e3, t1, q1⟩ := r1.tup
      obtain ⟨q, ys, e4, t2, q2⟩ := r2.tup
      obtain ⟨e5, _⟩ := ints_reps e1 q1
      obtain ⟨e6, _⟩ := ints_reps e2 q2
      subst e5 e6
      exact .inr (.inr ⟨p, q, x, y, e3, e4, t1, t2, (Option.some.inj h).symm⟩)
    · cases h
  · cases h
theorem not_lt_dec {i j : Int} : (!decide (j < i)) = decide (i ≤ j) := by
  by_cases q : j < i
  · rw [decide_eq_true q, decide_eq_false (by omega)]; rfl
  · rw [decide_eq_false q, decide_eq_true (by omega)]; rfl
theorem ok_lt {K : PySem.W.Frag} : Ok2 K (cmpM .lt) (.ow .fr) (rOrd K (fun i j => decide (i < j)) (fun i j => decide (i.cps.toList < j.cps.toList)) fun ns ms => false ^^ HT.lexLt ns ms) o1 o2 := by
  intro w d1 d2 v1 v2 A1 A2 d Q r1 r2 e k
  obtain ⟨b, e1, rfl⟩ := map_bl e
  rcases lt_cases r1 r2 (show ltD d1 d2 = some b from e1) with ⟨i, j, rfl, rfl, rfl⟩ | ⟨i, j, rfl, rfl, rfl⟩ | ⟨p, q, ns, ms, rfl, rfl, t1, t2, rfl⟩
  · exact .inl ⟨_, _, rfl, rfl, fin_bl rfl k⟩
  · exact .inr (.inl ⟨_, _, rfl, rfl, fin_bl rfl k⟩)
  · exact .inr (.inr ⟨_, _, _, _, rfl, rfl, t1, t2, fin_bl (congrArg D.bl xor_false) k⟩)
theorem ok_gt {K : PySem.W.Frag} : Ok2 K (cmpM .gt) (.ow .fr) (rOrd K (fun i j => decide (j < i)) (fun i j => decide (j.cps.toList < i.cps.toList)) fun ns ms => false ^^ HT.lexLt ms ns) o1 o2 := by
  intro w d1 d2 v1 v2 A1 A2 d Q r1 r2 e k
  obtain ⟨b, e1, rfl⟩ := map_bl e
  rcases lt_cases r2 r1 (show ltD d2 d1 = some b from e1) with ⟨i, j, rfl, rfl, rfl⟩ | ⟨i, j, rfl, rfl, rfl⟩ | ⟨p, q, ns, ms, rfl, rfl, t1, t2, rfl⟩
  · exact .inl ⟨_, _, rfl, rfl, fin_bl rfl k⟩
  · exact .inr (.inl ⟨_, _, rfl, rfl, fin_bl rfl k⟩)
  · exact .inr (.inr ⟨_, _, _, _, rfl, rfl, t2, t1, fin_bl (congrArg D.bl xor_false) k⟩)
theorem ok_le {K : PySem.W.Frag} : Ok2 K (cmpM .le) (.ow .fr) (rOrd K (fun i j => decide (i ≤ j)) (fun i j => !decide (j.cps.toList < i.cps.toList)) fun ns ms => true ^^ HT.lexLt ms ns) o1 o2 := by
  intro w d1 d2 v1 v2 A1 A2 d Q r1 r2 e k
  obtain ⟨b, e1, rfl⟩ := map_bl e
  obtain ⟨b', e2, rfl⟩ := Option.map_eq_some_iff.mp (show (ltD d2 d1).map (!·) = some b from e1)
  rcases lt_cases r2 r1 e2 with ⟨i, j, rfl, rfl, rfl⟩ | ⟨i, j, rfl, rfl, rfl⟩ | ⟨p, q, ns, ms, rfl, rfl, t1, t2, rfl⟩
  · exact .inl ⟨_, _, rfl, rfl, fin_bl (by rw [not_lt_dec]) k⟩
  · exact .inr (.inl ⟨_, _, rfl, rfl, fin_bl rfl k⟩)
  · exact .inr (.inr ⟨_, _, _, _, rfl, rfl, t2, t1, fin_bl (congrArg D.bl xor_true) k⟩)
theorem ok_ge {K : PySem.W.Frag} : Ok2 K (cmpM .ge) (.ow .fr) (rOrd K (fun i j => decide (j ≤ i)) (fun i j => !decide (i.cps.toList < j.cps.toList)) fun ns ms => true ^^ HT.lexLt ns ms) o1 o2 := by
  intro w d1 d2 v1 v2 A1 A2 d Q r1 r2 e k
  obtain ⟨b, e1, rfl⟩ := map_bl e
  obtain ⟨b', e2, rfl⟩ := Option.map_eq_some_iff.mp (show (ltD d1 d2).map (!·) = some b from e1)
  rcases lt_cases r1 r2 e2 with ⟨i, j, rfl, rfl, rfl⟩ | ⟨i, j, rfl, rfl, rfl⟩ | ⟨p, q, ns, ms, rfl, rfl, t1, t2, rfl⟩
  · exact .inl ⟨_, _, rfl, rfl, fin_bl (by rw [not_lt_dec]) k⟩
  · exact .inr (.inl ⟨_, _, rfl, rfl, fin_bl rfl k⟩)
  · exact .inr (.inr ⟨_, _, _, _, rfl, rfl, t1, t2, fin_bl (congrArg D.bl xor_true) k⟩)

abbrev rIsN : R2 := fun x y H Q => y = .non ∧ Q (.bl (decide (x = .non))) H
abbrev rNotN : R2 := fun x y H Q => y = .non ∧ Q (.bl (!decide (x = .non))) H
theorem non_iff {K : PySem.W.Frag} {H : Hp} {Z : AS} {o : Ow} {d : D} {v : V} {A : AS} (h : RO K H Z o d v A) : decide (v = .non) = decide (d = .non) := by
  cases d
  case non => rw [h.non]; rfl
  case bl => rw [h.bl]; rfl
  case int => rw [h.int]; rfl
  case str => rw [h.str]; rfl
  case tup => obtain ⟨a, xs, e, _⟩ := h.tup; rw [e]; rfl
  case lst => obtain ⟨a, xs, e, _⟩ := h.lst; rw [e]; rfl
  case rol => obtain ⟨a, xs, e, _⟩ := h.rol; rw [e]; rfl
  case dct =>
    obtain ⟨a, xs, e, _⟩ := (show ∃ a xs, v = V.ref a ∧ _ from h.fz)
    rw [e]; rfl
  case exc =>
    obtain ⟨a, e⟩ := (show ∃ a, v = V.ref a from h.fz)
    rw [e]; rfl
theorem ok_isn {K : PySem.W.Frag} : Ok2 K (cmpM .isn) (.ow .fr) rIsN o1 o2 := by
  intro w d1 d2 v1 v2 A1 A2 d Q r1 r2 e k
  obtain ⟨b, e1, rfl⟩ := map_bl e
  cases d2 <;> simp only [cmpD, reduceCtorEq, Option.some.injEq] at e1
  subst e1
  exact ⟨r2.non, by rw [non_iff r1]; exact fin_bl rfl k⟩
theorem ok_isnn {K : PySem.W.Frag} : Ok2 K (cmpM .isnn) (.ow .fr) rNotN o1 o2 := by
  intro w d1 d2 v1 v2 A1 A2 d Q r1 r2 e k
  obtain ⟨b, e1, rfl⟩ := map_bl e
  cases d2 <;> simp only [cmpD, reduceCtorEq, Option.some.injEq] at e1
  subst e1
  exact ⟨r2.non, by rw [non_iff r1]; exact fin_bl rfl k⟩

/-! ### subscripts -/
abbrev rIxA (K : PySem.W.Frag) : R2 := fun x y H Q => rIxL K x y H Q ∨ rIxT K x y H Q ∨ rIxS x y H Q
theorem ix_all : IxR X (rIxA X.K) := ix_list.or (ix_tup.or ix_str)
theorem atI_reps {K : PySem.W.Frag} {H : Hp} {Z : AS} {ds : List D} {xs : List V} {i : Int} {d : D} (r : Reps K H Z ds xs) (h : atI ds i = some d) : ∃ x, atI xs i = some x ∧ Rep K H Z d x := by
  unfold atI at h ⊢
  rw [r.len]
  cases e : ixN ds.length i with
  | none => rw [e] at h; cases h
  | some j =>
    rw [e] at h
    obtain ⟨x, h1, h2⟩ := r.get (k := j) h
    exact ⟨x, h1, h2⟩
theorem fin_rep {K : PySem.W.Frag} {w : Wd} {d : D} {x : V} {Q : VK} (r : Rep K w.H w.Z d x) (k : ∀ w' v A, Alloc w w' A → RO K w'.H w'.Z .fr d v A → Q v w'.H) : Q x w.H :=
  k w x _ Alloc.refl ⟨r, fun _ z => z⟩
theorem ok_ix {K : PySem.W.Frag} (s1 : shal o1 = true) : Ok2 K (fun x y => match x with
    | .dct _ _ _ => none
    | _ => ixD x y) .fr (rIxA K) o1 o2 := by
  intro w d1 d2 v1 v2 A1 A2 d Q r1 r2 e k
  cases d1 <;> simp only [reduceCtorEq] at e <;> cases d2 <;> simp only [ixD, reduceCtorEq] at e
  · split at e
    · rename_i hl
      obtain ⟨c, e1, rfl⟩ := Option.map_eq_some_iff.mp e
      exact .inr (.inr ⟨_, _, c, r1.str, r2.int, by rw [← sz_eq]; exact hl, e1, k w _ _ Alloc.refl RO.mkstr⟩)
    · cases e
  · obtain ⟨a, xs, rfl, h1, q1⟩ := r1.tup
    obtain ⟨x, e1, q⟩ := atI_reps q1 e
    exact .inr (.inl ⟨a, xs, _, x, rfl, r2.int, h1, e1, fin_rep q k⟩)
  · obtain ⟨a, xs, rfl, h1, q1⟩ := r1.lstR s1
    obtain ⟨x, e1, q⟩ := atI_reps q1 e
    exact .inl ⟨a, xs, _, x, rfl, r2.int, SqL.of h1, e1, fin_rep q k⟩
  · obtain ⟨a, xs, rfl, h1, q1⟩ := r1.rol
    obtain ⟨x, e1, q⟩ := atI_reps q1 e
    exact .inl ⟨a, xs, _, x, rfl, r2.int, h1.sq, e1, fin_rep q k⟩
end
end Mp
/-! Mp5: expressions. -/
namespace Mp
open PySem PySem.Spec PyProof.Rows L2

section
variable {X : Cx} {c : Cc} {f g : M D} {ows ows1 ows2 ows' : Ows} {o o1 o2 : Ow} {q q1 q2 : Bool} {e pe : Expr}
/-- looked at instead of kept -/
theorem look_of (h : PE X e (tV c f ows ows' o q)) : PE X e (tR c f ows ows' o q) := wPE h fun σ H Q ⟨w, env, hw, sr, z⟩ => ⟨w, env, hw, sr, by
  cases e1 : f env with
  | no => rw [e1] at z; exact z
  | ex n env1 => rw [e1] at z; exact z
  | ok d env1 => rw [e1] at z; exact fun w' v A x s r _ k => z w' v A x s r k⟩
/-- a temp is frozen -/
def Wd.frz (w : Wd) (A : AS) : Wd := ⟨fun a => w.Z a ∨ A a, w.F, w.H⟩
theorem frz_ext {w w' : Wd} {A : AS} (x : Ext w w') (t : Tmp w w' A) (ha : ∀ a, A a → w'.H a ≠ none) : Ext w (w'.frz A) :=
  ⟨fun a z => .inl (x.z a z), x.fr, x.dm, x.nw, fun a z => z.elim (x.zn a) fun z => .inr (t.nw a z), fun h a z => z.elim (x.zh h a) (ha a)⟩
theorem SR.frz {K : PySem.W.Frag} {pn : Pin} {env : Env} {σ : L2.St} {w : Wd} {A : AS} (s : SR K pn ows env σ w) (tf : ∀ a i, A a → ¬ w.F i a) (ta : ∀ a, A a → w.H a ≠ none) : SR K pn ows env σ (w.frz A) where
  len := s.len
  at_ := fun i d e => by
    obtain ⟨v, h1, h2⟩ := s.at_ i d e
    exact ⟨v, h1, h2.keep (H' := w.H) (Z' := (w.frz A).Z) (fun a z => .inl z) fun _ _ e _ => e⟩
  apart := s.apart
  zf := fun i a h z => z.elim (s.zf i a h) fun z => tf a i z h
  fm := s.fm
  zt := fun a z => z.elim (s.zt a) (ta a)
  pin := s.pin
theorem RO.ne {K : PySem.W.Frag} {H : Hp} {Z : AS} {d : D} {v : V} {A : AS} (h : RO K H Z o d v A) (a : Addr) (ha : A a) : H a ≠ none := by
  obtain ⟨q, e, _⟩ := h.there a ha
  rw [e]; simp
theorem keep_fr (h : PE X e (tV c f ows ows' o q)) : PE X e (tV c f ows ows' .fr q) := wPE h fun σ H Q ⟨w, env, hw, sr, z⟩ => ⟨w, env, hw, sr, by
  cases e1 : f env with
  | no => rw [e1] at z; exact z
  | ex n env1 => rw [e1] at z; exact z
  | ok d env1 =>
    rw [e1] at z
    intro w' v A x s r t k
    exact z (w'.frz A) v (fun _ => False) (frz_ext x t fun a ha => r.ne a ha) (s.frz (fun a i ha => t.f a i ha) fun a ha => r.ne a ha) ⟨r.fz, fun _ z => z⟩ Tmp.nil fun hq => k hq⟩

/-! ### names, constants -/
theorem pv_const {d : D} {t : TE} (h : PE X e t) (k : ∀ (w : Wd) (σ : L2.St) (Q : VK), (∀ w' v A, Alloc w w' A → RO c.K w'.H w'.Z o d v A → Q v w'.H) → t σ w.H Q) : PE X e (tV c (M.ret d) ows ows o true) :=
  wPE h fun σ H Q ⟨w, env, hw, sr, z⟩ => by
    subst hw
    exact k w σ Q fun w' v A al ro => z w' v A al.ext (al.sr sr) ro (al.tmp sr) fun _ => al.quiet
theorem pv_int {i : Int} {j : Nat} {pos : Pos} : PE X (.Constant (.int i) j pos) (tV c (M.ret (.int i)) ows ows o true) := pv_const pe_int fun w σ Q k => k w _ _ Alloc.refl RO.mkint
theorem pv_str {i : Str} {j : Nat} {pos : Pos} : PE X (.Constant (.str i) j pos) (tV c (M.ret (.str i)) ows ows o true) := pv_const pe_str fun w σ Q k => k w _ _ Alloc.refl RO.mkstr
theorem pv_bl {i : Bool} {j : Nat} {pos : Pos} : PE X (.Constant (.bool i) j pos) (tV c (M.ret (.bl i)) ows ows o true) := pv_const pe_bl fun w σ Q k => k w _ _ Alloc.refl RO.mkbl
theorem pv_non {j : Nat} {pos : Pos} : PE X (.Constant .none j pos) (tV c (M.ret .non) ows ows o true) := pv_const pe_non fun w σ Q k => k w _ _ Alloc.refl RO.mknon
theorem slot_at {K : PySem.W.Frag} {pn : Pin} {env : Env} {σ : L2.St} {w : Wd} {i : Nat} {d : D} (s : SR K pn ows env σ w) (h : getS env i = some d) : ∃ v, σ[i]? = some (some v) ∧ RO K w.H w.Z (owAt ows i) d v (w.F i) := s.at_ i d h
/-- a name, looked at -/
theorem pr_var {i : Nat} {x : Str} {pos : Pos} (hN : X.N[i]? = some x) (hv : Vis X.env.scope x) (hd : (x == ("__debug__" : Str)) = false) (hcd : (x == ("__classdict__" : Str)) = false) : PE X (.Name x pos) (tR c (varM i) ows ows (owAt ows i) true) :=
  wPE (pe_var hN hv hd hcd) fun σ H Q ⟨w, env, hw, sr, z⟩ => by
    unfold varM at z
    cases e1 : getS env i with
    | none => rw [e1] at z; exact z.elim
    | some d =>
      rw [e1] at z
      obtain ⟨v, h1, h2⟩ := sr.at_ i d e1
      subst hw
      exact ⟨v, h1, z w v _ Ext.refl sr h2 fun _ => fun _ _ e => e⟩
/-- a name, kept: frozen from now on -/
theorem pv_var {i : Nat} {x : Str} {pos : Pos} (hN : X.N[i]? = some x) (hv : Vis X.env.scope x) (hd : (x == ("__debug__" : Str)) = false) (hcd : (x == ("__classdict__" : Str)) = false) : PE X (.Name x pos) (tV c (varM i) ows (ows.set i .fr) .fr true) :=
  wPE (pe_var hN hv hd hcd) fun σ H Q ⟨w, env, hw, sr, z⟩ => by
    unfold varM at z
    cases e1 : getS env i with
    | none => rw [e1] at z; exact z.elim
    | some d =>
      rw [e1] at z
      obtain ⟨v, h1, h2⟩ := sr.at_ i d e1
      subst hw
      exact ⟨v, h1, z (w.fz i) v (fun _ => False) (Ext.fz w i sr.fne) (sr.fz i) ⟨h2.fz, fun _ z => z⟩ Tmp.nil fun _ => fun _ _ e => e⟩
/-- a name, its thing taken out -/
theorem pv_mv {i : Nat} {x : Str} {pos : Pos} (hN : X.N[i]? = some x) (hv : Vis X.env.scope x) (hd : (x == ("__debug__" : Str)) = false) (hcd : (x == ("__classdict__" : Str)) = false) : PE X (.Name x pos) (tV c (mvM i) ows (ows.set i .fr) (owAt ows i) true) :=
  wPE (pe_var hN hv hd hcd) fun σ H Q ⟨w, env, hw, sr, z⟩ => by
    unfold mvM at z
    cases e1 : getS env i with
    | none => rw [e1] at z; exact z.elim
    | some d =>
      rw [e1] at z
      obtain ⟨v, h1, h2⟩ := sr.at_ i d e1
      subst hw
      refine ⟨v, h1, z (w.out i) v (w.F i) (Ext.out w i) (sr.out i fun j hj => owAt_set hj) h2 ⟨fun a ha hz => sr.zf i a ha hz, fun a j ha hj => hj.1 (sr.apart j i a hj.2 ha), fun a ha => .inl ⟨i, ha⟩⟩ fun _ => fun _ _ e => e⟩
/-- a constant of the module -/
theorem pv_glob {x : Str} {d : D} {v : V} {u : Value} {pos : Pos} {gl : Str → Option D} (hg : Gl X x) (hm : X.mg x = some u) (r : RelV v u) (hx : gl x = some d) (hr : ∀ H Z, Rep c.K H Z d v) (hd : (x == ("__debug__" : Str)) = false) : PE X (.Name x pos) (tV c (M.opt (gl x)) ows ows .fr true) :=
  wPE (pe_glob hg hm r hd) fun σ H Q ⟨w, env, hw, sr, z⟩ => by
    rw [hx] at z
    subst hw
    exact z w v _ Ext.refl sr ⟨hr _ _, fun _ z => z⟩ Tmp.nil fun _ => fun _ _ e => e

/-! ### tests -/
theorem emp_of {α β : Type} {xs : List α} {ys : List β} (h : xs.length = ys.length) : xs.isEmpty = ys.isEmpty := by
  cases xs <;> cases ys <;> first | rfl | cases h
theorem truth_of {K : PySem.W.Frag} {H : Hp} {Z : AS} {d : D} {v : V} {A : AS} {b : Bool} (h : RO K H Z o d v A) (e : d.truth = some b) : TruV K v H b := by
  cases d with
  | non => cases e; rw [h.non]; exact rfl
  | bl => cases e; rw [h.bl]; exact rfl
  | int => cases e; rw [h.int]; exact rfl
  | str x =>
    have e' : (if x.length ≤ SZ then some ((x.length : Int) != 0) else none) = some b := e
    by_cases hl : x.length ≤ SZ
    · rw [if_pos hl] at e'
      cases e'
      rw [h.str]
      exact ⟨by rw [← sz_eq]; exact hl, rfl⟩
    · rw [if_neg hl] at e'
      cases e'
  | tup ds =>
    cases e
    obtain ⟨a, xs, rfl, h1, h2⟩ := h.tup
    exact .inr (.inl ⟨xs, h1, by rw [emp_of h2.len]⟩)
  | lst ds =>
    cases e
    obtain ⟨a, xs, rfl, h1, h2⟩ := h.lst
    exact .inl ⟨xs, SqL.of h1, by rw [emp_of h2]⟩
  | rol ds =>
    cases e
    obtain ⟨a, xs, rfl, h1, h2⟩ := h.rol
    exact .inl ⟨xs, h1.sq, by rw [emp_of h2.len]⟩
  | exc => cases e
  | dct t ks vs =>
    cases t with
    | true => cases e
    | false =>
      cases e
      obtain ⟨a, xs, rfl, _, h1, _⟩ := (show ∃ a xs, v = V.ref a ∧ _ ∧ DcAt H a false ks xs ∧ _ from h.fz)
      obtain ⟨_, ⟨_, kvs, e1, e2, _⟩ | ⟨e0, _⟩⟩ := h1
      · exact .inr (.inr ⟨kvs, e1, by rw [e2]; cases kvs <;> rfl⟩)
      · cases e0
/-- a value's truth as a test -/
theorem pt_look (h : PE X e (tR c f ows ows' o q)) (he : ∀ whole, isTrue e X.env whole = (do let v ← whole; standAt e.pos; holding [v] (truthy v))) (hK : X.K = c.K) : PT X e (tB_ c (truthM f) ows ows' q) := by
  refine wPT (pt_truth h he) fun σ H Q ⟨w, env, hw, sr, z⟩ => ⟨w, env, hw, sr, ?_⟩
  unfold truthM M.bind at z
  cases e1 : f env with
  | no => rw [e1] at z; exact z
  | ex n env1 => rw [e1] at z; exact z
  | ok d env1 =>
    rw [e1] at z
    intro w' v A x s r k
    simp only [M.opt] at z
    cases e2 : d.truth with
    | none => rw [e2] at z; exact z.elim
    | some b =>
      rw [e2] at z
      exact ⟨b, by rw [hK]; exact truth_of r e2, z w' x s k⟩
/-- a comparison as a test: its bool -/
theorem pt_bool {t : TE} (hb : PT X e (fun σ H Q => t σ H fun x H' => ∃ k, x = .bl k ∧ Q k H')) (k : ∀ σ H Q, tV c f ows ows' o q σ H Q → t σ H Q) (hf : ∀ env d env', f env = .ok d env' → ∃ b, d = .bl b) : PT X e (tB_ c (truthM f) ows ows' q) := by
  refine wPT hb fun σ H Q ⟨w, env, hw, sr, z⟩ => k σ H _ ⟨w, env, hw, sr, ?_⟩
  unfold truthM M.bind at z
  cases e1 : f env with
  | no => rw [e1] at z; exact z
  | ex n env1 => rw [e1] at z; exact z
  | ok d env1 =>
    rw [e1] at z
    obtain ⟨b, rfl⟩ := hf _ _ _ e1
    intro w' v A x s r t' k'
    exact ⟨b, r.bl, z w' x s k'⟩
/-- not -/
theorem pt_notM {fb : M Bool} {pos : Pos} (h : PT X e (tB_ c fb ows ows' q)) : PT X (.UnaryOp .Not e pos) (tB_ c (M.bind fb fun b => M.ret !b) ows ows' q) := by
  refine wPT (pt_not h) fun σ H Q ⟨w, env, hw, sr, z⟩ => ⟨w, env, hw, sr, ?_⟩
  unfold M.bind at z
  cases e1 : fb env with
  | no => rw [e1] at z; exact z
  | ex n env1 => rw [e1] at z; exact z
  | ok b env1 => rw [e1] at z; exact fun w' x s k => z w' x s k
theorem pv_notM {pos : Pos} (h : PE X e (tR c f ows ows' o1 q)) (hK : X.K = c.K) : PE X (.UnaryOp .Not e pos) (tV c (M.bind (truthM f) fun b => M.ret (.bl !b)) ows ows' o q) := by
  refine wPE (pe_notT h) fun σ H Q ⟨w, env, hw, sr, z⟩ => ⟨w, env, hw, sr, ?_⟩
  unfold truthM M.bind at z
  cases e1 : f env with
  | no => rw [e1] at z; exact z
  | ex n env1 => rw [e1] at z; exact z
  | ok d env1 =>
    rw [e1] at z
    intro w' v A x s r k
    simp only [M.opt] at z
    cases e2 : d.truth with
    | none => rw [e2] at z; exact z.elim
    | some b =>
      rw [e2] at z
      exact ⟨b, by rw [hK]; exact truth_of r e2, z w' _ _ x s RO.mkbl Tmp.nil k⟩
/-- a if t else b -/
theorem pv_ite {fb : M Bool} {a b : Expr} {fa g : M D} {pos : Pos} {qc qa qb : Bool} (hc : PT X e (tB_ c fb ows ows1 qc)) (ha : PE X a (tV c fa ows1 ows' o qa)) (hb : PE X b (tV c g ows1 ows' o qb)) :
    PE X (.IfExp e a b pos) (tV c (M.bind fb fun k => if k = true then fa else g) ows ows' o (qc && (qa && qb))) := by
  refine wPE (pe_ifExp hc ha hb) fun σ H Q ⟨w, env, hw, sr, z⟩ => ⟨w, env, hw, sr, ?_⟩
  unfold M.bind at z
  cases e1 : fb env with
  | no => rw [e1] at z; exact z
  | ex n env1 => rw [e1] at z; exact z
  | ok k env1 =>
    rw [e1] at z
    intro w1 x1 s1 k1
    have fin : ∀ {h : M D} {qh : Bool}, ((qc && (qa && qb)) = true → qc = true ∧ qh = true) → (match h env1 with
        | .ok d env' => ∀ w' v A, Ext w w' → SR c.K c.pn ows' env' σ w' → RO c.K w'.H w'.Z o d v A → Tmp w w' A → ((qc && (qa && qb)) = true → Quiet w w') → Q v w'.H
        | .ex n env' => exK c σ w n env'
        | .no => False) → tV c h ows1 ows' o qh σ w1.H Q := fun {h qh} hq z => ⟨w1, env1, rfl, s1, by
      cases e2 : h env1 with
      | no => rw [e2] at z; exact z
      | ex n env2 => rw [e2] at z; exact exK.mono x1 z
      | ok d env2 =>
        rw [e2] at z
        exact fun w2 v A x2 s2 r2 t2 k2 => z w2 v A (x1.trans x2) s2 r2 (t2.pre x1) fun h => fun a b e => k2 (hq h).2 a b (k1 (hq h).1 a b e)⟩
    cases k with
    | true => exact fin (fun h => by simp only [Bool.and_eq_true] at h; exact ⟨h.1, h.2.1⟩) z
    | false => exact fin (fun h => by simp only [Bool.and_eq_true] at h; exact ⟨h.1, h.2.2⟩) z

/-! ### and, or -/
theorem andB_cons {a : Expr} {fa : M Bool} {fr : M Bool} {qa qr : Bool} {rest : List Expr} {b : Expr} {pos : Pos} (ha : PT X a (tB_ c fa ows ows1 qa)) (hr : PW X (.BoolOp .And (b :: rest) pos) (tB_ c fr ows1 ows' qr)) (hwk : weakB 0 ows1 ows' = true) :
    PW X (.BoolOp .And (a :: b :: rest) pos) (tB_ c (M.bind fa fun k => if k = true then fr else M.ret false) ows ows' (qa && qr)) := by
  refine ⟨fun wh pins s σ H Q I hh => (pw_and ha hr).run wh pins s σ H Q I ?_⟩
  obtain ⟨w, env, hw, sr, z⟩ := hh
  refine ⟨w, env, hw, sr, ?_⟩
  unfold M.bind at z
  cases e1 : fa env with
  | no => rw [e1] at z; exact z
  | ex n env1 => rw [e1] at z; exact z
  | ok k env1 =>
    rw [e1] at z
    intro w1 x1 s1 k1
    cases k with
    | true =>
      rw [if_pos rfl]
      refine ⟨w1, env1, rfl, s1, ?_⟩
      simp only [if_true] at z
      cases e2 : fr env1 with
      | no => rw [e2] at z; exact z
      | ex n env2 => rw [e2] at z; exact exK.mono x1 z
      | ok d env2 =>
        rw [e2] at z
        exact fun w2 x2 s2 k2 => z w2 (x1.trans x2) s2 fun h => fun p r e => k2 (by simp only [Bool.and_eq_true] at h; exact h.2) p r (k1 (by simp only [Bool.and_eq_true] at h; exact h.1) p r e)
    | false =>
      rw [if_neg Bool.false_ne_true]
      obtain ⟨w2, x2, eh, s2⟩ := s1.weak hwk
      have := z w2 (x1.trans x2) s2 fun h => by
        intro p r e
        rw [eh]
        exact k1 (by simp only [Bool.and_eq_true] at h; exact h.1) p r e
      rw [eh] at this
      exact this
theorem orB_cons {a : Expr} {fa : M Bool} {fr : M Bool} {qa qr : Bool} {rest : List Expr} {b : Expr} {pos : Pos} (ha : PT X a (tB_ c fa ows ows1 qa)) (hr : PW X (.BoolOp .Or (b :: rest) pos) (tB_ c fr ows1 ows' qr)) (hwk : weakB 0 ows1 ows' = true) :
    PW X (.BoolOp .Or (a :: b :: rest) pos) (tB_ c (M.bind fa fun k => if k = true then M.ret true else fr) ows ows' (qa && qr)) := by
  refine ⟨fun wh pins s σ H Q I hh => (pw_or ha hr).run wh pins s σ H Q I ?_⟩
  obtain ⟨w, env, hw, sr, z⟩ := hh
  refine ⟨w, env, hw, sr, ?_⟩
  unfold M.bind at z
  cases e1 : fa env with
  | no => rw [e1] at z; exact z
  | ex n env1 => rw [e1] at z; exact z
  | ok k env1 =>
    rw [e1] at z
    intro w1 x1 s1 k1
    cases k with
    | true =>
      rw [if_pos rfl]
      obtain ⟨w2, x2, eh, s2⟩ := s1.weak hwk
      have := z w2 (x1.trans x2) s2 fun h => by
        intro p r e
        rw [eh]
        exact k1 (by simp only [Bool.and_eq_true] at h; exact h.1) p r e
      rw [eh] at this
      exact this
    | false =>
      rw [if_neg Bool.false_ne_true]
      refine ⟨w1, env1, rfl, s1, ?_⟩
      simp only [Bool.false_eq_true, if_false] at z
      cases e2 : fr env1 with
      | no => rw [e2] at z; exact z
      | ex n env2 => rw [e2] at z; exact exK.mono x1 z
      | ok d env2 =>
        rw [e2] at z
        exact fun w2 x2 s2 k2 => z w2 (x1.trans x2) s2 fun h => fun p r e => k2 (by simp only [Bool.and_eq_true] at h; exact h.2) p r (k1 (by simp only [Bool.and_eq_true] at h; exact h.1) p r e)
theorem andV_cons {a : Expr} {fa fr : M D} {oa : Ow} {qa qr : Bool} {rest : List Expr} {b : Expr} {pos : Pos} (ha : PE X a (tR c fa ows ows1 oa qa)) (hr : PE X (.BoolOp .And (b :: rest) pos) (tV c fr ows1 ows' o qr)) (hwk : weakB 0 ows1 ows' = true) :
    PE X (.BoolOp .And (a :: b :: rest) pos) (tV c (M.bind fa fun d => match d with
      | .bl true => fr
      | .bl false => M.ret (.bl false)
      | _ => fun _ => .no) ows ows' o (qa && qr)) := by
  refine wPE (pe_and ha hr) fun σ H Q ⟨w, env, hw, sr, z⟩ => ⟨w, env, hw, sr, ?_⟩
  unfold M.bind at z
  cases e1 : fa env with
  | no => rw [e1] at z; exact z
  | ex n env1 => rw [e1] at z; exact z
  | ok k env1 =>
    rw [e1] at z
    intro w1 v1 A1 x1 s1 r1 k1
    cases k with
    | bl kb =>
      refine ⟨kb, r1.bl, ?_⟩
      cases kb with
      | true =>
        rw [if_pos rfl]
        refine ⟨w1, env1, rfl, s1, ?_⟩
        simp only at z
        cases e2 : fr env1 with
        | no => rw [e2] at z; exact z
        | ex n env2 => rw [e2] at z; exact exK.mono x1 z
        | ok d env2 =>
          rw [e2] at z
          exact fun w2 v2 A2 x2 s2 r2 t2 k2 => z w2 v2 A2 (x1.trans x2) s2 r2 (t2.pre x1) fun h => fun p r e => k2 (by simp only [Bool.and_eq_true] at h; exact h.2) p r (k1 (by simp only [Bool.and_eq_true] at h; exact h.1) p r e)
      | false =>
        rw [if_neg Bool.false_ne_true]
        obtain ⟨w2, x2, eh, s2⟩ := s1.weak hwk
        have := z w2 _ _ (x1.trans x2) s2 RO.mkbl Tmp.nil fun h => by
          intro p r e
          rw [eh]
          exact k1 (by simp only [Bool.and_eq_true] at h; exact h.1) p r e
        rw [eh] at this
        exact this
    | _ => exact z.elim
theorem orV_cons {a : Expr} {fa fr : M D} {oa : Ow} {qa qr : Bool} {rest : List Expr} {b : Expr} {pos : Pos} (ha : PE X a (tR c fa ows ows1 oa qa)) (hr : PE X (.BoolOp .Or (b :: rest) pos) (tV c fr ows1 ows' o qr)) (hwk : weakB 0 ows1 ows' = true) :
    PE X (.BoolOp .Or (a :: b :: rest) pos) (tV c (M.bind fa fun d => match d with
      | .bl true => M.ret (.bl true)
      | .bl false => fr
      | _ => fun _ => .no) ows ows' o (qa && qr)) := by
  refine wPE (pe_or ha hr) fun σ H Q ⟨w, env, hw, sr, z⟩ => ⟨w, env, hw, sr, ?_⟩
  unfold M.bind at z
  cases e1 : fa env with
  | no => rw [e1] at z; exact z
  | ex n env1 => rw [e1] at z; exact z
  | ok k env1 =>
    rw [e1] at z
    intro w1 v1 A1 x1 s1 r1 k1
    cases k with
    | bl kb =>
      refine ⟨kb, r1.bl, ?_⟩
      cases kb with
      | false =>
        rw [if_neg Bool.false_ne_true]
        refine ⟨w1, env1, rfl, s1, ?_⟩
        simp only at z
        cases e2 : fr env1 with
        | no => rw [e2] at z; exact z
        | ex n env2 => rw [e2] at z; exact exK.mono x1 z
        | ok d env2 =>
          rw [e2] at z
          exact fun w2 v2 A2 x2 s2 r2 t2 k2 => z w2 v2 A2 (x1.trans x2) s2 r2 (t2.pre x1) fun h => fun p r e => k2 (by simp only [Bool.and_eq_true] at h; exact h.2) p r (k1 (by simp only [Bool.and_eq_true] at h; exact h.1) p r e)
      | true =>
        rw [if_pos rfl]
        obtain ⟨w2, x2, eh, s2⟩ := s1.weak hwk
        have := z w2 _ _ (x1.trans x2) s2 RO.mkbl Tmp.nil fun h => by
          intro p r e
          rw [eh]
          exact k1 (by simp only [Bool.and_eq_true] at h; exact h.1) p r e
        rw [eh] at this
        exact this
    | _ => exact z.elim

/-! ### lists of expressions -/
def tAV (c : Cc) (f : M (List D)) (ows ows' : Ows) (qt : Bool) : TA := fun σ H Q => ∃ w env, w.H = H ∧ SR c.K c.pn ows env σ w ∧ match f env with
  | .ok ds env' => ∀ w' vs, Ext w w' → SR c.K c.pn ows' env' σ w' → Reps c.K w'.H w'.Z ds vs → (qt = true → Quiet w w') → Q vs w'.H
  | .ex n env' => exK c σ w n env'
  | .no => False
/-- each looked at, os their owners -/
def ROR (K : PySem.W.Frag) (H : Hp) (Z : AS) : List Ow → List D → List V → Prop
  | [], [], [] => True
  | o :: os, d :: ds, v :: vs => (∃ A, RO K H Z o d v A) ∧ ROR K H Z os ds vs
  | _, _, _ => False
def tAR (c : Cc) (f : M (List D)) (ows ows' : Ows) (os : List Ow) (qt : Bool) : TA := fun σ H Q => ∃ w env, w.H = H ∧ SR c.K c.pn ows env σ w ∧ match f env with
  | .ok ds env' => ∀ w' vs, Ext w w' → SR c.K c.pn ows' env' σ w' → ROR c.K w'.H w'.Z os ds vs → (qt = true → Quiet w w') → Q vs w'.H
  | .ex n env' => exK c σ w n env'
  | .no => False
def noStar : Expr → Bool
  | .Starred _ _ => false
  | _ => true
theorem star_cons {e : Expr} {es : List Expr} {env : PySem.Env} (h : noStar e = true) : starEach (e :: es) env = (false, eval e env) :: starEach es env := by
  cases e <;> first | rfl | cases h
theorem star_any {es : List Expr} {env : PySem.Env} {pos : Pos} (h : es.all noStar = true) : (backTo pos (starEach es env)).any (·.1) = false := by
  induction es with
  | nil => rfl
  | cons e es ih =>
    simp only [List.all_cons, Bool.and_eq_true] at h
    rw [star_cons h.1]
    simp only [backTo, List.map_cons, List.any_cons, Bool.false_or]
    exact ih h.2
theorem wPA {X : Cx} {es : List Expr} {t t' : TA} (h : PA X es t) (k : ∀ σ H Q, t' σ H Q → t σ H Q) : PA X es t' := ⟨fun pos pins s σ H Q I q => h.run pos pins s σ H Q I (k σ H Q q)⟩
theorem av_nil : PA X [] (tAV c (M.ret []) ows ows true) := wPA pa_nil fun σ H Q ⟨w, env, hw, sr, z⟩ => by
  subst hw
  exact z w [] Ext.refl sr (by unfold Reps; rfl) fun _ => fun _ _ e => e
theorem av_cons {es : List Expr} {fs : M (List D)} (hs : noStar e = true) (h : PE X e (tV c f ows ows1 .fr q1)) (hr : PA X es (tAV c fs ows1 ows' q2)) : PA X (e :: es) (tAV c (M.bind f fun d => M.bind fs fun ds => M.ret (d :: ds)) ows ows' (q1 && q2)) := by
  refine wPA (pa_cons h hr (star_cons hs)) fun σ H Q ⟨w, env, hw, sr, z⟩ => ⟨w, env, hw, sr, ?_⟩
  unfold M.bind at z
  cases e1 : f env with
  | no => rw [e1] at z; exact z
  | ex n env1 => rw [e1] at z; exact z
  | ok d env1 =>
    rw [e1] at z
    intro w1 v1 A1 x1 s1 r1 t1 k1
    refine ⟨w1, env1, rfl, s1, ?_⟩
    simp only at z
    cases e2 : fs env1 with
    | no => rw [e2] at z; exact z
    | ex n env2 => rw [e2] at z; exact exK.mono x1 z
    | ok ds env2 =>
      rw [e2] at z
      intro w2 vs x2 s2 r2 k2
      have r1' : Rep c.K w2.H w2.Z d v1 := Rep.ext s1 x2 r1.1
      exact z w2 (v1 :: vs) (x1.trans x2) s2 (by unfold Reps; exact ⟨v1, vs, rfl, r1', r2⟩) fun h => fun p r e => k2 (by simp only [Bool.and_eq_true] at h; exact h.2) p r (k1 (by simp only [Bool.and_eq_true] at h; exact h.1) p r e)
theorem ar_nil : PA X [] (tAR c (M.ret []) ows ows [] true) := wPA pa_nil fun σ H Q ⟨w, env, hw, sr, z⟩ => by
  subst hw
  exact z w [] Ext.refl sr trivial fun _ => fun _ _ e => e
theorem ROR.keep {K : PySem.W.Frag} {H H' : Hp} {Z Z' : AS} (kz : ∀ a, Z a → Z' a) (k : ∀ a q, H a = some q → H' a = some q) : ∀ {os : List Ow} {ds : List D} {vs : List V}, ROR K H Z os ds vs → ROR K H' Z' os ds vs
  | [], [], [], _ => trivial
  | _ :: _, _ :: _, _ :: _, h => ⟨let ⟨A, r⟩ := h.1; ⟨A, r.keep kz fun a q e _ => k a q e⟩, ROR.keep kz k h.2⟩
  | [], _ :: _, _, h => h.elim
  | [], [], _ :: _, h => h.elim
  | _ :: _, [], _, h => h.elim
  | _ :: _, _ :: _, [], h => h.elim
/-- later ones must change nothing -/
theorem ar_cons {es : List Expr} {fs : M (List D)} {os : List Ow} (hs : noStar e = true) (h : PE X e (tR c f ows ows1 o q1)) (hr : PA X es (tAR c fs ows1 ows' os true)) : PA X (e :: es) (tAR c (M.bind f fun d => M.bind fs fun ds => M.ret (d :: ds)) ows ows' (o :: os) q1) := by
  refine wPA (pa_cons h hr (star_cons hs)) fun σ H Q ⟨w, env, hw, sr, z⟩ => ⟨w, env, hw, sr, ?_⟩
  unfold M.bind at z
  cases e1 : f env with
  | no => rw [e1] at z; exact z
  | ex n env1 => rw [e1] at z; exact z
  | ok d env1 =>
    rw [e1] at z
    intro w1 v1 A1 x1 s1 r1 k1
    refine ⟨w1, env1, rfl, s1, ?_⟩
    simp only at z
    cases e2 : fs env1 with
    | no => rw [e2] at z; exact z
    | ex n env2 => rw [e2] at z; exact exK.mono x1 z
    | ok ds env2 =>
      rw [e2] at z
      intro w2 vs x2 s2 r2 k2
      have kk := k2 rfl
      exact z w2 (v1 :: vs) (x1.trans x2) s2 ⟨⟨A1, r1.keep x2.z fun a q e _ => kk a q e⟩, r2⟩ fun h => fun p r e => kk p r (k1 h p r e)
/-- a tuple, a list of written items -/
theorem pv_tup {es : List Expr} {fs : M (List D)} {k : Nat} {pos : Pos} (hl : es.length ≤ 1000) (hfs : ∀ env ds env', fs env = .ok ds env' → ds.length = es.length) (h : PA X es (tAV c fs ows ows' q)) : PE X (.Tuple es k pos) (tV c (M.bind fs fun ds => M.ret (.tup ds)) ows ows' o q) := by
  refine wPE (pe_tup h) fun σ H Q ⟨w, env, hw, sr, z⟩ => ⟨w, env, hw, sr, ?_⟩
  unfold M.bind at z
  cases e1 : fs env with
  | no => rw [e1] at z; exact z
  | ex n env1 => rw [e1] at z; exact z
  | ok ds env1 =>
    rw [e1] at z
    intro w1 vs x1 s1 r1 k1
    refine ⟨by rw [r1.len, hfs _ _ _ e1, ← sz_eq]; unfold SZ; omega, fun p hp => ?_⟩
    have al : Alloc w1 (w1.upd p (.tup vs)) (fun _ => False) := Alloc.new0 hp
    exact z (w1.upd p (.tup vs)) _ _ (x1.trans al.ext) (al.sr s1) (RO.newt hp r1) Tmp.nil fun h => fun a b e => al.h a b (k1 h a b e)
theorem pv_lst {es : List Expr} {fs : M (List D)} {pos : Pos} (hl : es.length ≤ 1000) (hfs : ∀ env ds env', fs env = .ok ds env' → ds.length = es.length) (h : PA X es (tAV c fs ows ows' q)) : PE X (.List es pos) (tV c (M.bind fs fun ds => M.ret (.lst ds)) ows ows' (.ow .fr) q) := by
  refine wPE (pe_lst h) fun σ H Q ⟨w, env, hw, sr, z⟩ => ⟨w, env, hw, sr, ?_⟩
  unfold M.bind at z
  cases e1 : fs env with
  | no => rw [e1] at z; exact z
  | ex n env1 => rw [e1] at z; exact z
  | ok ds env1 =>
    rw [e1] at z
    intro w1 vs x1 s1 r1 k1
    refine ⟨by rw [r1.len, hfs _ _ _ e1, ← sz_eq]; unfold SZ; omega, fun p hp => ?_⟩
    have al : Alloc w1 (w1.upd p (.lst vs)) (fun a => a = p) := Alloc.new hp
    exact z (w1.upd p (.lst vs)) _ _ (x1.trans al.ext) (al.sr s1) (RO.newl hp r1) ((al.tmp s1).pre x1) fun h => fun a b e => al.h a b (k1 h a b e)
end
end Mp
/-! Mp6: built-in functions, slices, methods. -/
namespace Mp
open PySem PySem.Spec PyProof.Rows L2

section
variable {X : Cx} {c : Cc} {f g : M D} {ows ows1 ows2 ows' : Ows} {o o1 o2 : Ow} {q q1 q2 : Bool} {e pe : Expr}

/-! ### built-in functions -/
abbrev RC := List V → Hp → VK → Prop
def OkN (K : PySem.W.Frag) (g : List D → Option D) (o : Ow) (r : RC) (sh : Ow → Bool) : Prop := ∀ (w : Wd) (os : List Ow) (ds : List D) (vs : List V) (d : D) (Q : VK), os.all sh = true → ROR K w.H w.Z os ds vs → g ds = some d →
  (∀ w' v A, Alloc w w' A → RO K w'.H w'.Z o d v A → Q v w'.H) → r vs w.H Q
theorem pv_okN {es : List Expr} {fs : M (List D)} {os : List Ow} {g : List D → Option D} {r : RC} {sh : Ow → Bool} {pe : Expr} (hop : ∀ {t}, PA X es t → PE X pe (tCB r t)) (ha : PA X es (tAR c fs ows ows' os q)) (k : OkN c.K g o r sh) (hs : os.all sh = true) :
    PE X pe (tV c (M.bind fs fun ds => M.opt (g ds)) ows ows' o q) := by
  refine wPE (hop ha) fun σ H Q ⟨w, env, hw, sr, z⟩ => ⟨w, env, hw, sr, ?_⟩
  unfold M.bind at z
  cases e1 : fs env with
  | no => rw [e1] at z; exact z
  | ex n env1 => rw [e1] at z; exact z
  | ok ds env1 =>
    rw [e1] at z
    intro w1 vs x1 s1 r1 k1
    simp only [M.opt] at z
    cases e2 : g ds with
    | none => rw [e2] at z; exact z.elim
    | some d =>
      rw [e2] at z
      exact k w1 os ds vs d Q hs r1 e2 fun w2 v A al ro => z w2 v A (x1.trans al.ext) (al.sr s1) ro ((al.tmp s1).pre x1) fun h => fun a b e => al.h a b (k1 h a b e)
theorem ROR.one {K : PySem.W.Frag} {H : Hp} {Z : AS} {os : List Ow} {d : D} {vs : List V} (h : ROR K H Z os [d] vs) : ∃ o v A, os = [o] ∧ vs = [v] ∧ RO K H Z o d v A := by
  match os, vs, h with
  | [o], [v], h => obtain ⟨⟨A, r⟩, _⟩ := h; exact ⟨o, v, A, rfl, rfl, r⟩
  | [], _, h => exact h.elim
  | _ :: _, [], h => exact h.elim
  | [_], _ :: _ :: _, h => exact h.2.elim
  | _ :: _ :: _, [_], h => exact h.2.elim
  | _ :: _ :: _, _ :: _ :: _, h => exact h.2.elim
theorem ROR.two {K : PySem.W.Frag} {H : Hp} {Z : AS} {os : List Ow} {d d2 : D} {vs : List V} (h : ROR K H Z os [d, d2] vs) : ∃ o v A o2 v2 A2, os = [o, o2] ∧ vs = [v, v2] ∧ RO K H Z o d v A ∧ RO K H Z o2 d2 v2 A2 := by
  match os, vs, h with
  | o :: os, v :: vs, h =>
    obtain ⟨o2, v2, A2, rfl, rfl, h2⟩ := ROR.one h.2
    obtain ⟨⟨A, r⟩, _⟩ := h
    exact ⟨o, v, A, o2, v2, A2, rfl, rfl, r, h2⟩
  | [], _, h => exact h.elim
  | _ :: _, [], h => exact h.elim
/-- len: any owner -/
def anyO (_ : Ow) : Bool := true
abbrev rLenA (K : PySem.W.Frag) : RC := fun xs H Q => (∃ x n, xs = [x] ∧ LenV K x H n ∧ Q (.int n) H) ∨ (∃ a kvs, xs = [V.ref a] ∧ H a = some (.dK kvs) ∧ Q (.int kvs.length) H) ∨ rLenT xs H Q
theorem call_lenA : CallR X (.builtin "len") (rLenA X.K) := call_len.or (call_lenD.or call_len_dT)
theorem ok_len {K : PySem.W.Frag} : OkN K (bF .len) (.ow .fr) (rLenA K) anyO := by
  intro w os ds vs d Q _ rr e k
  match ds, e with
  | [.lst xs], e =>
    obtain ⟨o, v, A, rfl, rfl, r⟩ := rr.one
    cases e
    obtain ⟨a, ys, rfl, h1, h2⟩ := r.lst
    exact .inl ⟨_, ys.length, rfl, .inl ⟨ys, SqL.of h1, rfl⟩, fin_int (by rw [h2]) k⟩
  | [.rol xs], e =>
    obtain ⟨o, v, A, rfl, rfl, r⟩ := rr.one
    cases e
    obtain ⟨a, ys, rfl, h1, h2⟩ := r.rol
    exact .inl ⟨_, ys.length, rfl, .inl ⟨ys, h1.sq, rfl⟩, fin_int (by rw [h2.len]) k⟩
  | [.tup xs], e =>
    obtain ⟨o, v, A, rfl, rfl, r⟩ := rr.one
    cases e
    obtain ⟨a, ys, rfl, h1, h2⟩ := r.tup
    exact .inl ⟨_, ys.length, rfl, .inr ⟨ys, h1, rfl⟩, fin_int (by rw [h2.len]) k⟩
  | [.str x], e =>
    obtain ⟨o, v, A, rfl, rfl, r⟩ := rr.one
    have e' : (if x.length ≤ SZ then some (D.int x.length) else none) = some d := e
    by_cases hl : x.length ≤ SZ
    · rw [if_pos hl] at e'
      cases e'
      rw [r.str]
      exact .inl ⟨_, x.length, rfl, ⟨by rw [← sz_eq]; exact hl, rfl⟩, fin_int rfl k⟩
    · rw [if_neg hl] at e'; cases e'
  | [.dct t ks xs], e =>
    obtain ⟨o, v, A, rfl, rfl, r⟩ := rr.one
    cases e
    obtain ⟨a, ys, rfl, _, h1, _⟩ := (show ∃ a xs', v = V.ref a ∧ _ ∧ DcAt w.H a t ks xs' ∧ _ from r.fz)
    obtain ⟨_, ⟨_, kvs, e1, e2, _⟩ | ⟨_, kvs, e1, e2, _⟩⟩ := h1
    · exact .inr (.inl ⟨a, kvs, rfl, e1, fin_int (by rw [e2, List.length_map]) k⟩)
    · exact .inr (.inr ⟨a, kvs, rfl, e1, fin_int (by rw [e2, List.length_map]) k⟩)
theorem ok_abs {K : PySem.W.Frag} : OkN K (bF .abs) (.ow .fr) (fun xs H Q => ∃ i, xs = [.int i] ∧ Q (.int (if i < 0 then -i else i)) H) anyO := by
  intro w os ds vs d Q _ rr e k
  match ds, e with
  | [.int i], e =>
    obtain ⟨o, v, A, rfl, rfl, r⟩ := rr.one
    cases e
    exact ⟨i, by rw [r.int], fin_int rfl k⟩
theorem ok_int {K : PySem.W.Frag} : OkN K (bF .int) (.ow .fr) (fun xs H Q => ((∃ i, xs = [.int i] ∧ Q (.int i) H) ∨ ∃ k, xs = [.bl k] ∧ Q (.int (if k then 1 else 0)) H) ∨ ∃ a n, xs = [.str a] ∧ PySem.intText? a = some n ∧ a.length ≤ 640 ∧ Q (.int n) H) anyO := by
  intro w os ds vs d Q _ rr e k
  match ds, e with
  | [.int i], e =>
    obtain ⟨o, v, A, rfl, rfl, r⟩ := rr.one
    cases e
    exact .inl (.inl ⟨i, by rw [r.int], fin_int rfl k⟩)
  | [.bl b], e =>
    obtain ⟨o, v, A, rfl, rfl, r⟩ := rr.one
    cases e
    exact .inl (.inr ⟨b, by rw [r.bl], fin_int rfl k⟩)
  | [.str x], e =>
    obtain ⟨o, v, A, rfl, rfl, r⟩ := rr.one
    have e' : (if x.length ≤ 640 then (PySem.intText? x).map D.int else none) = some d := e
    by_cases hl : x.length ≤ 640
    · rw [if_pos hl] at e'
      obtain ⟨n, h1, h2⟩ := Option.map_eq_some_iff.mp e'
      exact .inr ⟨x, n, by rw [r.str], h1, hl, fin_int h2 k⟩
    · rw [if_neg hl] at e'; cases e'
theorem ok_bool {K : PySem.W.Frag} : OkN K (bF .bool) (.ow .fr) (fun xs H Q => (∃ i, xs = [.int i] ∧ Q (.bl (i != 0)) H) ∨ ∃ k, xs = [.bl k] ∧ Q (.bl k) H) anyO := by
  intro w os ds vs d Q _ rr e k
  match ds, e with
  | [.bl b], e =>
    obtain ⟨o, v, A, rfl, rfl, r⟩ := rr.one
    cases e
    exact .inr ⟨b, by rw [r.bl], fin_bl rfl k⟩
theorem ok_str {K : PySem.W.Frag} : OkN K (bF .str) (.ow .fr) (fun xs H Q => (∃ i, xs = [.int i] ∧ i.natAbs.log2 < 1920 ∧ Q (.str (toString i)) H) ∨ ∃ a, xs = [.str a] ∧ Q (.str a) H) anyO := by
  intro w os ds vs d Q _ rr e k
  match ds, e with
  | [.int i], e =>
    obtain ⟨o, v, A, rfl, rfl, r⟩ := rr.one
    have e' : (if i.natAbs.log2 < 1920 then some (D.str (toString i)) else none) = some d := e
    by_cases hl : i.natAbs.log2 < 1920
    · rw [if_pos hl] at e'
      exact .inl ⟨i, by rw [r.int], hl, fin_str (Option.some.inj e') k⟩
    · rw [if_neg hl] at e'; cases e'
  | [.str x], e =>
    obtain ⟨o, v, A, rfl, rfl, r⟩ := rr.one
    exact .inr ⟨x, by rw [r.str], fin_str (Option.some.inj e) k⟩
theorem ok_max2 {K : PySem.W.Frag} : OkN K (bF .max2) (.ow .fr) (fun xs H Q => ∃ i j, xs = [.int i, .int j] ∧ Q (.int (if j > i then j else i)) H) anyO := by
  intro w os ds vs d Q _ rr e k
  match ds, e with
  | [.int i, .int j], e =>
    obtain ⟨o, v, A, o2, v2, A2, rfl, rfl, r, r2⟩ := rr.two
    cases e
    exact ⟨i, j, by rw [r.int, r2.int], fin_int rfl k⟩
theorem ok_min2 {K : PySem.W.Frag} : OkN K (bF .min2) (.ow .fr) (fun xs H Q => ∃ i j, xs = [.int i, .int j] ∧ Q (.int (if j < i then j else i)) H) anyO := by
  intro w os ds vs d Q _ rr e k
  match ds, e with
  | [.int i, .int j], e =>
    obtain ⟨o, v, A, o2, v2, A2, rfl, rfl, r, r2⟩ := rr.two
    cases e
    exact ⟨i, j, by rw [r.int, r2.int], fin_int rfl k⟩
abbrev rListA (K : PySem.W.Frag) : RC := fun xs H Q => ∃ p ys, xs = [.ref p] ∧ (SqL K H p ys ∨ SqT K H p ys) ∧ ∀ l, H l = none → Q (.ref l) (upd H l (.lst ys))
theorem ok_list {K : PySem.W.Frag} : OkN K (bF .list) (.ow .fr) (rListA K) shal := by
  intro w os ds vs d Q sh rr e k
  match ds, e with
  | [.lst xs], e =>
    obtain ⟨o, v, A, rfl, rfl, r⟩ := rr.one
    cases e
    obtain ⟨a, ys, rfl, h1, h2⟩ := r.lstR (by simpa using sh)
    exact ⟨a, ys, rfl, .inl (SqL.of h1), fun p hp => k (w.upd p (.lst ys)) _ _ (Alloc.new hp) (RO.newl hp h2)⟩
  | [.tup xs], e =>
    obtain ⟨o, v, A, rfl, rfl, r⟩ := rr.one
    cases e
    obtain ⟨a, ys, rfl, h1, h2⟩ := r.tup
    exact ⟨a, ys, rfl, .inr h1, fun p hp => k (w.upd p (.lst ys)) _ _ (Alloc.new hp) (RO.newl hp h2)⟩
abbrev rTupleA (K : PySem.W.Frag) : RC := fun xs H Q => ∃ p ys, xs = [.ref p] ∧ ((SqL K H p ys ∧ ∀ l, H l = none → Q (.ref l) (upd H l (.tup ys))) ∨ (SqT K H p ys ∧ Q (.ref p) H))
theorem ok_tuple {K : PySem.W.Frag} : OkN K (bF .tuple) .fr (rTupleA K) shal := by
  intro w os ds vs d Q sh rr e k
  match ds, e with
  | [.lst xs], e =>
    obtain ⟨o, v, A, rfl, rfl, r⟩ := rr.one
    cases e
    obtain ⟨a, ys, rfl, h1, h2⟩ := r.lstR (by simpa using sh)
    exact ⟨a, ys, rfl, .inl ⟨SqL.of h1, fun p hp => k (w.upd p (.tup ys)) _ _ (Alloc.new0 hp) (RO.newt hp h2)⟩⟩
  | [.tup xs], e =>
    obtain ⟨o, v, A, rfl, rfl, r⟩ := rr.one
    cases e
    obtain ⟨a, ys, rfl, h1, h2⟩ := r.tup
    exact ⟨a, ys, rfl, .inr ⟨h1, k w _ _ Alloc.refl (RO.mktup h1 h2)⟩⟩
theorem ok_sum {K : PySem.W.Frag} : OkN K (bF .sum) (.ow .fr) (rSum K) shal := by
  intro w os ds vs d Q sh rr e k
  match ds, e with
  | [.lst xs], e =>
    obtain ⟨o, v, A, rfl, rfl, r⟩ := rr.one
    obtain ⟨ns, e1, rfl⟩ := Option.map_eq_some_iff.mp (show (D.ints xs).map (fun ns => D.int ns.sum) = some d from e)
    obtain ⟨a, ys, rfl, h1, h2⟩ := r.lstR (by simpa using sh)
    obtain ⟨e2, _⟩ := ints_reps e1 h2
    subst e2
    exact ⟨a, ns, rfl, SqL.of h1, fin_int rfl k⟩
theorem bools_reps {K : PySem.W.Frag} {H : Hp} {Z : AS} : ∀ {ds : List D} {xs : List V} {ns : List Bool}, bools ds = some ns → Reps K H Z ds xs → xs = ns.map V.bl
  | [], xs, ns, e, h => by
    unfold Reps at h
    subst h
    simp only [bools, Option.some.injEq] at e
    subst e
    rfl
  | d :: ds, xs, ns, e, h => by
    unfold Reps at h
    obtain ⟨x, r, rfl, h1, h2⟩ := h
    cases d <;> simp only [bools, reduceCtorEq] at e
    obtain ⟨ms, e1, rfl⟩ := Option.map_eq_some_iff.mp e
    have q1 := bools_reps e1 h2
    unfold Rep at h1
    subst h1 q1
    rfl
theorem ok_any {K : PySem.W.Frag} : OkN K (bF .any) (.ow .fr) (rAny K) shal := by
  intro w os ds vs d Q sh rr e k
  match ds, e with
  | [.lst xs], e =>
    obtain ⟨o, v, A, rfl, rfl, r⟩ := rr.one
    obtain ⟨ns, e1, rfl⟩ := Option.map_eq_some_iff.mp (show (bools xs).map (fun bs => D.bl (bs.any id)) = some d from e)
    obtain ⟨a, ys, rfl, h1, h2⟩ := r.lstR (by simpa using sh)
    rw [bools_reps e1 h2] at h1
    exact ⟨a, ns, rfl, SqL.of h1, fin_bl rfl k⟩
theorem ok_all {K : PySem.W.Frag} : OkN K (bF .all) (.ow .fr) (rAll K) shal := by
  intro w os ds vs d Q sh rr e k
  match ds, e with
  | [.lst xs], e =>
    obtain ⟨o, v, A, rfl, rfl, r⟩ := rr.one
    obtain ⟨ns, e1, rfl⟩ := Option.map_eq_some_iff.mp (show (bools xs).map (fun bs => D.bl (bs.all id)) = some d from e)
    obtain ⟨a, ys, rfl, h1, h2⟩ := r.lstR (by simpa using sh)
    rw [bools_reps e1 h2] at h1
    exact ⟨a, ns, rfl, SqL.of h1, fin_bl rfl k⟩
theorem maxI_spec : ∀ {ns : List Int} {m : Int}, maxI ns = some m → 0 < ns.length ∧ ∀ y, (y ∈ ns ∧ ∀ z, z ∈ ns → z ≤ y) ↔ y = m
  | [], _, e => by cases e
  | [x], m, e => by
    cases e
    refine ⟨by simp, fun y => ⟨fun h => by simpa using h.1, fun h => by subst h; simp⟩⟩
  | x :: x2 :: xs, m, e => by
    obtain ⟨m', e1, rfl⟩ := Option.map_eq_some_iff.mp (show (maxI (x2 :: xs)).map (fun m => if x ≤ m then m else x) = some m from e)
    obtain ⟨_, h⟩ := maxI_spec e1
    obtain ⟨h1, h2⟩ := (h m').mpr rfl
    have key : (if x ≤ m' then m' else x) ∈ x :: x2 :: xs ∧ ∀ z, z ∈ x :: x2 :: xs → z ≤ (if x ≤ m' then m' else x) := by
      by_cases q : x ≤ m'
      · rw [if_pos q]
        refine ⟨List.mem_cons_of_mem _ h1, fun z hz => ?_⟩
        rcases List.mem_cons.mp hz with rfl | hz
        · exact q
        · exact h2 z hz
      · rw [if_neg q]
        refine ⟨List.mem_cons_self, fun z hz => ?_⟩
        rcases List.mem_cons.mp hz with rfl | hz
        · exact Int.le_refl _
        · have := h2 z hz; omega
    exact ⟨by simp, fun y => ⟨fun hy => Int.le_antisymm (key.2 y hy.1) (hy.2 _ key.1), fun hy => by rw [hy]; exact key⟩⟩
theorem minI_spec : ∀ {ns : List Int} {m : Int}, minI ns = some m → 0 < ns.length ∧ ∀ y, (y ∈ ns ∧ ∀ z, z ∈ ns → y ≤ z) ↔ y = m
  | [], _, e => by cases e
  | [x], m, e => by
    cases e
    refine ⟨by simp, fun y => ⟨fun h => by simpa using h.1, fun h => by subst h; simp⟩⟩
  | x :: x2 :: xs, m, e => by
    obtain ⟨m', e1, rfl⟩ := Option.map_eq_some_iff.mp (show (minI (x2 :: xs)).map (fun m => if m ≤ x then m else x) = some m from e)
    obtain ⟨_, h⟩ := minI_spec e1
    obtain ⟨h1, h2⟩ := (h m').mpr rfl
    have key : (if m' ≤ x then m' else x) ∈ x :: x2 :: xs ∧ ∀ z, z ∈ x :: x2 :: xs → (if m' ≤ x then m' else x) ≤ z := by
      by_cases q : m' ≤ x
      · rw [if_pos q]
        refine ⟨List.mem_cons_of_mem _ h1, fun z hz => ?_⟩
        rcases List.mem_cons.mp hz with rfl | hz
        · exact q
        · exact h2 z hz
      · rw [if_neg q]
        refine ⟨List.mem_cons_self, fun z hz => ?_⟩
        rcases List.mem_cons.mp hz with rfl | hz
        · exact Int.le_refl _
        · have := h2 z hz; omega
    exact ⟨by simp, fun y => ⟨fun hy => Int.le_antisymm (hy.2 _ key.1) (key.2 y hy.1), fun hy => by rw [hy]; exact key⟩⟩
theorem ok_max1 {K : PySem.W.Frag} : OkN K (bF .max1) (.ow .fr) (rMax K) shal := by
  intro w os ds vs d Q sh rr e k
  match ds, e with
  | [.lst xs], e =>
    obtain ⟨o, v, A, rfl, rfl, r⟩ := rr.one
    obtain ⟨ns, e1, e2⟩ := Option.bind_eq_some_iff.mp (show (D.ints xs).bind (fun ns => (maxI ns).map D.int) = some d from e)
    obtain ⟨m, e3, rfl⟩ := Option.map_eq_some_iff.mp e2
    obtain ⟨a, ys, rfl, h1, h2⟩ := r.lstR (by simpa using sh)
    obtain ⟨e4, _⟩ := ints_reps e1 h2
    subst e4
    obtain ⟨h3, h4⟩ := maxI_spec e3
    exact ⟨a, ns, rfl, SqL.of h1, h3, fun m' a1 a2 => fin_int (by rw [(h4 m').mp ⟨a1, a2⟩]) k⟩
theorem ok_min1 {K : PySem.W.Frag} : OkN K (bF .min1) (.ow .fr) (rMin K) shal := by
  intro w os ds vs d Q sh rr e k
  match ds, e with
  | [.lst xs], e =>
    obtain ⟨o, v, A, rfl, rfl, r⟩ := rr.one
    obtain ⟨ns, e1, e2⟩ := Option.bind_eq_some_iff.mp (show (D.ints xs).bind (fun ns => (minI ns).map D.int) = some d from e)
    obtain ⟨m, e3, rfl⟩ := Option.map_eq_some_iff.mp e2
    obtain ⟨a, ys, rfl, h1, h2⟩ := r.lstR (by simpa using sh)
    obtain ⟨e4, _⟩ := ints_reps e1 h2
    subst e4
    obtain ⟨h3, h4⟩ := minI_spec e3
    exact ⟨a, ns, rfl, SqL.of h1, h3, fun m' a1 a2 => fin_int (by rw [(h4 m').mp ⟨a1, a2⟩]) k⟩
end
end Mp
/-! Mp7: subscripts, slices, methods, calls. -/
namespace Mp
open PySem PySem.Spec PyProof.Rows L2

section
variable {X : Cx} {c : Cc} {f g : M D} {ows ows1 ows2 ows' : Ows} {o o1 o2 : Ow} {q q1 q2 : Bool} {e pe : Expr}
theorem PEor {X : Cx} {e : Expr} {t t' : TE} (h : PE X e t) (h' : PE X e t') : PE X e (fun σ H Q => t σ H Q ∨ t' σ H Q) := ⟨fun pins s σ H Q I z => z.elim (h.run pins s σ H Q I) (h'.run pins s σ H Q I)⟩
def noSl : Expr → Bool
  | .Slice _ _ _ _ => false
  | _ => true
theorem plainIx {b : Expr} (h : noSl b = true) : PlainIx b := by
  intro o i
  cases b <;> first | rfl | cases h
/-- a chain of two comparisons -/
theorem ch_imp {fa fb fd : M D} {oa ob od : Ow} {oc oc' : CO} {r r' : R2} (k1 : Ok2 c.K (cmpM oc) (.ow .fr) r oa ob) (k2 : Ok2 c.K (cmpM oc') (.ow .fr) r' ob od) :
    ∀ σ H Q, tV c (chM oc oc' fa fb fd) ows ows2 (.ow .fr) q σ H Q → tChain r r' (tR c fa ows ows1 oa q) (tR c fb ows1 ows2 ob true) (tR c fd ows2 ows2 od true) σ H Q := by
  intro σ H Q ⟨w, env, hw, sr, z⟩
  refine ⟨w, env, hw, sr, ?_⟩
  unfold chM M.bind at z
  cases e1 : fa env with
  | no => rw [e1] at z; exact z
  | ex n env1 => rw [e1] at z; exact z
  | ok d1 env1 =>
    rw [e1] at z
    intro w1 v1 A1 x1 s1 r1 kk1
    refine ⟨w1, env1, rfl, s1, ?_⟩
    simp only at z
    cases e2 : fb env1 with
    | no => rw [e2] at z; exact z
    | ex n env2 => rw [e2] at z; exact exK.mono x1 z
    | ok d2 env2 =>
      rw [e2] at z
      intro w2 v2 A2 x2 s2 r2 kk2
      have r1' : RO c.K w2.H w2.Z oa d1 v1 A1 := r1.keep x2.z fun a q e _ => kk2 rfl a q e
      simp only [M.opt] at z
      cases e3 : cmpD oc d1 d2 with
      | none => rw [e3] at z; exact z.elim
      | some kb =>
        rw [e3] at z
        simp only at z
        refine k1 w2 d1 d2 v1 v2 A1 A2 (.bl kb) _ r1' r2 (by show (cmpD oc d1 d2).map D.bl = _; rw [e3]; rfl) fun w3 v3 A3 al ro => ⟨kb, ro.bl, ?_⟩
        have x13 := (x1.trans x2).trans al.ext
        have q13 : q = true → Quiet w w3 := fun h => fun a b e => al.h a b (kk2 rfl a b (kk1 h a b e))
        cases kb with
        | true =>
          rw [if_pos rfl]
          simp only [if_true] at z
          refine ⟨w3, env2, rfl, al.sr s2, ?_⟩
          cases e4 : fd env2 with
          | no => rw [e4] at z; exact z
          | ex n env3 => rw [e4] at z; exact exK.mono x13 z
          | ok d3 env3 =>
            rw [e4] at z
            intro w4 v4 A4 x4 s4 r4 kk4
            simp only [M.opt] at z
            cases e5 : cmpM oc' d2 d3 with
            | none => rw [show (cmpD oc' d2 d3).map D.bl = none from e5] at z; exact z.elim
            | some dd =>
              rw [show (cmpD oc' d2 d3).map D.bl = some dd from e5] at z
              have r2' : RO c.K w4.H w4.Z ob d2 v2 A2 := (al.keep r2).keep x4.z fun a q e _ => kk4 rfl a q e
              refine k2 w4 d2 d3 v2 v4 A2 A4 dd _ r2' r4 e5 fun w5 v5 A5 al5 ro5 => ?_
              exact z w5 v5 A5 ((x13.trans x4).trans al5.ext) (al5.sr s4) ro5 ((al5.tmp s4).pre (x13.trans x4)) fun h => fun a b e => al5.h a b (kk4 rfl a b (q13 h a b e))
        | false =>
          rw [if_neg Bool.false_ne_true]
          simp only [Bool.false_eq_true, if_false] at z
          exact z w3 _ _ x13 (al.sr s2) RO.mkbl Tmp.nil q13

/-! ### subscripts -/
theorem pv_ix0 {a b : Expr} {fa fb : M D} {oa ob : Ow} {pos : Pos} (ha : PE X a (tR c fa ows ows1 oa q)) (hb : PE X b (tR c fb ows1 ows2 ob true)) (hs : noSl b = true) (sh : shal oa = true) (hK : X.K = c.K) :
    PE X (.Subscript a b pos) (tV c (op2 (fun x y => match x with
      | .dct _ _ _ => none
      | _ => ixD x y) fa fb) ows ows2 .fr q) :=
  pe_ok2 ha hb (fun h1 h2 => pe_ix (r := rIxA c.K) (by rw [← hK]; exact ix_all) h1 h2 (plainIx hs)) (ok_ix sh)

/-! ### slices -/
def tPO (c : Cc) (f : M (Option Int)) (ows ows' : Ows) : TO := fun σ H Q => ∃ w env, w.H = H ∧ SR c.K c.pn ows env σ w ∧ match f env with
  | .ok oi env' => ∀ w', Ext w w' → SR c.K c.pn ows' env' σ w' → Quiet w w' → Q oi w'.H
  | .ex n env' => exK c σ w n env'
  | .no => False
theorem wPO {e : Option Expr} {t t' : TO} (h : PO X e t) (k : ∀ σ H Q, t' σ H Q → t σ H Q) : PO X e t' := ⟨fun pins s σ H Q I z => h.run pins s σ H Q I (k σ H Q z)⟩
theorem po_no : PO X none (tPO c (M.ret none) ows ows) := wPO po_none fun σ H Q ⟨w, env, hw, sr, z⟩ => by
  subst hw
  exact z w Ext.refl sr fun _ _ e => e
theorem po_at {fs : M D × M Bool} (h : PE X e (tR c fs.1 ows ows' o true)) : PO X (some e) (tPO c (partM [fs]) ows ows') := by
  refine wPO (po_some h) fun σ H Q ⟨w, env, hw, sr, z⟩ => ⟨w, env, hw, sr, ?_⟩
  simp only [partM, M.bind] at z
  cases e1 : fs.1 env with
  | no => rw [e1] at z; exact z
  | ex n env1 => rw [e1] at z; exact z
  | ok d env1 =>
    rw [e1] at z
    intro w1 v A x s r k
    cases d with
    | int i => exact ⟨i, r.int, z w1 x s (k rfl)⟩
    | _ => exact z.elim
theorem cut_reps {K : PySem.W.Frag} {H : Hp} {Z : AS} : ∀ {ds : List D} {xs : List V}, Reps K H Z ds xs → ∀ n m : Nat, Reps K H Z ((ds.drop n).take m) ((xs.drop n).take m) := fun {ds xs} h n m =>
  Reps.of (by simp [h.len]) fun k d x e1 e2 => by
    rw [List.getElem?_take] at e1 e2
    split at e1
    · rename_i hk
      rw [if_pos hk] at e2
      rw [List.getElem?_drop] at e1 e2
      obtain ⟨y, e3, r⟩ := h.get e1
      rw [e2] at e3; cases e3
      exact r
    · cases e1
abbrev rSlAll (K : PySem.W.Frag) : V → Option Int → Option Int → Hp → VK → Prop := fun x lo hi H Q => rSlL K x lo hi H Q ∨ rSlA K x lo hi H Q ∨ rSlS x lo hi H Q
theorem pv_sl {lo hi : Option Expr} {fl fh : M (Option Int)} {pos p2 : Pos} (ha : PE X e (tR c f ows ows1 o q)) (hl : PO X lo (tPO c fl ows1 ows2)) (hh : PO X hi (tPO c fh ows2 ows')) (sh : shal o = true) (hK : X.K = c.K) :
    PE X (.Subscript e (.Slice lo hi none p2) pos) (tV c (M.bind f fun x => M.bind fl fun l => M.bind fh fun h => M.opt (slD x l h)) ows ows' (.ow .fr) q) := by
  refine wPE (pe_slice (r := rSlAll c.K) (by rw [← hK]; exact sl_list.or (sl_tupA.or sl_str)) ha hl hh) fun σ H Q ⟨w, env, hw, sr, z⟩ => ⟨w, env, hw, sr, ?_⟩
  unfold M.bind at z
  cases e1 : f env with
  | no => rw [e1] at z; exact z
  | ex n env1 => rw [e1] at z; exact z
  | ok d env1 =>
    rw [e1] at z
    intro w1 v1 A1 x1 s1 r1 k1
    refine ⟨w1, env1, rfl, s1, ?_⟩
    simp only at z
    cases e2 : fl env1 with
    | no => rw [e2] at z; exact z
    | ex n env2 => rw [e2] at z; exact exK.mono x1 z
    | ok l env2 =>
      rw [e2] at z
      intro w2 x2 s2 k2
      refine ⟨w2, env2, rfl, s2, ?_⟩
      simp only at z
      cases e3 : fh env2 with
      | no => rw [e3] at z; exact z
      | ex n env3 => rw [e3] at z; exact exK.mono (x1.trans x2) z
      | ok h env3 =>
        rw [e3] at z
        intro w3 x3 s3 k3
        simp only [M.opt] at z
        have r3 : RO c.K w3.H w3.Z o d v1 A1 := r1.keep (fun a h => x3.z a (x2.z a h)) fun a q e _ => k3 a q (k2 a q e)
        cases e4 : slD d l h with
        | none => rw [e4] at z; exact z.elim
        | some dd =>
          rw [e4] at z
          have fin : ∀ w4 v A, Alloc w3 w4 A → RO c.K w4.H w4.Z (.ow .fr) dd v A → Q v w4.H := fun w4 v A al ro =>
            z w4 v A (((x1.trans x2).trans x3).trans al.ext) (al.sr s3) ro ((al.tmp s3).pre ((x1.trans x2).trans x3)) fun h => fun a b e => al.h a b (k3 a b (k2 a b (k1 h a b e)))
          cases d with
          | lst ds =>
            cases e4
            obtain ⟨a, xs, rfl, h1, q1⟩ := r3.lstR sh
            refine .inl ⟨a, xs, rfl, SqL.of h1, fun p hp => fin (w3.upd p _) _ _ (Alloc.new hp) ?_⟩
            have q2 := cut_reps q1 (HT.sIx ds.length 0 l) (HT.sIx ds.length ds.length h - HT.sIx ds.length 0 l)
            rw [← q1.len] at q2
            have := RO.newl hp q2
            rw [q1.len] at this
            unfold cutV cutD
            rw [q1.len]
            exact this
          | rol ds =>
            cases e4
            obtain ⟨a, xs, rfl, h1, q1⟩ := r3.rol
            refine .inl ⟨a, xs, rfl, h1.sq, fun p hp => fin (w3.upd p _) _ _ (Alloc.new hp) ?_⟩
            have q2 := cut_reps q1 (HT.sIx ds.length 0 l) (HT.sIx ds.length ds.length h - HT.sIx ds.length 0 l)
            rw [← q1.len] at q2
            have := RO.newl hp q2
            rw [q1.len] at this
            unfold cutV cutD
            rw [q1.len]
            exact this
          | tup ds =>
            cases e4
            obtain ⟨a, xs, rfl, h1, q1⟩ := r3.tup
            have q2 := cut_reps q1 (HT.sIx ds.length 0 l) (HT.sIx ds.length ds.length h - HT.sIx ds.length 0 l)
            refine .inr (.inl ⟨a, xs, rfl, h1, fun hq => ?_, fun _ p hp => fin (w3.upd p _) _ _ (Alloc.new0 hp) ?_⟩)
            · rw [q1.len] at hq
              have ec : cutD ds l h = ds := by
                unfold cutD
                rw [hq.1, hq.2]
                simp
              rw [ec] at fin
              exact fin w3 _ _ Alloc.refl (RO.mktup h1 q1)
            · have := RO.newt (o := .ow .fr) hp q2
              unfold cutV cutD
              rw [q1.len]
              exact this
          | str zz =>
            have e5 : (if zz.length ≤ SZ then some (D.str (cutS zz l h)) else none) = some dd := e4
            by_cases hl : zz.length ≤ SZ
            · rw [if_pos hl] at e5
              cases e5
              exact .inr (.inr ⟨zz, r3.str, by rw [← sz_eq]; exact hl, fin w3 _ _ Alloc.refl RO.mkstr⟩)
            · rw [if_neg hl] at e5; cases e5
          | _ => cases e4

/-! ### calls of one's own defs -/
/-- what the def called n promises: C says what the call does -/
def pinOf (po : Ows) (vs : List V) : Pin := fun i => if owAt po i = .fr then none else (vs[i]?).map fun v => (v, none)
/-- what is given back of the parameters: the lent ones -/
def lsOf (po : Ows) (ls : List D) : Env := (List.range ls.length).map fun i => if owAt po i = .fr then none else ls[i]?
def spOf (K : PySem.W.Frag) (cl : List D → CR) (po : Ows) (ro : Ow) (np : Nat) : Sp := fun vs H Q E => ∃ (w : Wd) (ds : List D), w.H = H ∧ vs.length = np ∧ ds.length = np ∧ SR K (pinOf po vs) po (ds.map some) (vs.map some) w ∧ match cl ds with
  | .ok r ls => ∀ w' v A, Ext w w' → ls.length = np → SR K (pinOf po vs) po (lsOf po ls) (vs.map some) w' → RO K w'.H w'.Z ro r v A → Tmp w w' A → Q v w'.H
  | .ex n => ∀ w', Ext w w' → E (.ref (He.ga K n)) none w'.H
  | .no => False

/-- the caller's state behind a call that was lent nothing -/
theorem SR.after {K : PySem.W.Frag} {pn : Pin} {env : Env} {σ : L2.St} {w w2 : Wd} (s : SR K pn ows env σ w) (x : Ext ⟨w.Z, fun _ _ => False, w.H⟩ w2) : SR K pn ows env σ ⟨w2.Z, w.F, w2.H⟩ ∧ Ext w ⟨w2.Z, w.F, w2.H⟩ ∧ (∀ a q, w.H a = some q → w2.H a = some q) := by
  have hk : ∀ a q, w.H a = some q → w2.H a = some q := fun a q e => x.fr a q e fun _ z => z
  refine ⟨⟨s.len, fun i d e => ?_, s.apart, fun i a h z => ?_, fun i a h => ?_, fun a z => ?_, s.pin⟩, ⟨x.z, fun a o e _ => hk a o e, x.dm, fun i a h => .inl ⟨i, h⟩, fun a z => ?_, x.zh⟩, hk⟩
  · obtain ⟨v, h1, h2⟩ := s.at_ i d e
    exact ⟨v, h1, h2.keep (H' := w2.H) (Z' := w2.Z) x.z fun a q e _ => hk a q e⟩
  · rcases x.zn a z with q | ⟨_, q⟩ | q
    · exact s.zf i a h q
    · exact q
    · obtain ⟨o, e, _⟩ := s.fm i a h
      exact absurd e (by rw [show w.H a = none from q]; simp)
  · obtain ⟨o, e, m⟩ := s.fm i a h
    exact ⟨o, hk a o e, m⟩
  · exact x.zh s.zt a z
  · rcases x.zn a z with q | ⟨_, q⟩ | q
    · exact .inl q
    · exact q.elim
    · exact .inr (.inr q)

def noLn : E → Bool
  | .ln _ => false
  | _ => true
theorem wb_none : ∀ {es : List E} {ls : List D} {e : Env}, es.all noLn = true → wb es ls e = e
  | [], _, _, _ => by cases ‹List D› <;> rfl
  | x :: es, [], e, _ => by cases x <;> rfl
  | x :: es, l :: ls, e, h => by
    simp only [List.all_cons, Bool.and_eq_true] at h
    have ih := wb_none (ls := ls) (e := e) h.2
    cases x <;> first | exact ih | (simp [noLn] at h)
theorem unl_none : ∀ {es : List E} {e : Env}, es.all noLn = true → unl es e = e
  | [], _, _ => rfl
  | x :: es, e, h => by
    simp only [List.all_cons, Bool.and_eq_true] at h
    have ih := unl_none (e := e) h.2
    cases x <;> first | exact ih | (simp [noLn] at h)
theorem rl_none : ∀ {es : List E} {ds : List D} {e : Env}, es.all noLn = true → rl es ds e = some ds
  | [], ds, _, _ => by cases ds <;> rfl
  | x :: es, [], e, _ => by cases x <;> rfl
  | x :: es, d :: ds, e, h => by
    simp only [List.all_cons, Bool.and_eq_true] at h
    have ih := rl_none (ds := ds) (e := e) h.2
    cases x <;> first | (simp only [rl, ih, Option.map_some]; done) | (simp [noLn] at h; done)
theorem getS_map {ds : List D} {i : Nat} {d : D} (h : getS (ds.map some) i = some d) : ds[i]? = some d := by
  unfold getS at h
  rw [List.getElem?_map] at h
  cases e : ds[i]? with
  | none => rw [e] at h; simp at h
  | some x => rw [e] at h; simpa using h
/-- frozen arguments, as the callee's slots -/
theorem sr_args {K : PySem.W.Frag} {Z : AS} {H : Hp} {ds : List D} {vs : List V} (h : Reps K H Z ds vs) (hz : ∀ a, Z a → H a ≠ none) : SR K (pinOf [] vs) [] (ds.map some) (vs.map some) ⟨Z, fun _ _ => False, H⟩ where
  len := by simp [h.len]
  at_ := fun i d e => by
    obtain ⟨x, h1, h2⟩ := h.get (getS_map e)
    exact ⟨x, by simp [h1], ⟨h2, fun _ z => z⟩⟩
  apart := fun _ _ _ z => z.elim
  zf := fun _ _ z => z.elim
  fm := fun _ _ z => z.elim
  zt := hz
  pin := fun i p e => by simp [pinOf, owAt] at e
theorem pv_call {C : Cs} {fn : Str} {Es : List E} {ps : List (M D × M Bool)} {fa : Addr} {fd : FuncData} {pnames : List Str} {ro : Ow} {np k : Nat} {e : Expr} {es : List Expr} {p pos : Pos}
    (F : FnOk X.prog X.w X.K X.mg X.base (L2.CX X.prog X.w) k fa fd pnames (spOf c.K (C.cl fn) [] ro np)) (hr : Room k X.A) (hg : Gl X fn) (hm : X.mg fn = some (.ref fa)) (hk : PySem.W.keepIn X.K (.ref fa) = true) (hb : Binds X.K fd pnames [])
    (tk : Takes X c.W) (hl : Es.all noLn = true) (hne : Es.length = np) (ha : PA X (e :: es) (tAV c (evs ps) ows ows' q)) (hps : ∀ env ds env', evs ps env = .ok ds env' → ds.length = Es.length) (hx : weakB 0 ows' c.x = true) (hst : (e :: es).all noStar = true) (hdb : (fn == ("__debug__" : Str)) = false) :
    PE X (.Call (.Name fn p) (e :: es) [] pos) (tV c (callM C fn Es ps) ows ows' ro q) := by
  simp only [List.all_cons, Bool.and_eq_true] at hst
  refine wPE (pe_callS F hr hg hm hk hb (fun σ => passAt tk σ) ha hdb (star_cons hst.1) (star_any hst.2)) fun σ H Q ⟨w, env, hw, sr, z⟩ => ⟨w, env, hw, sr, ?_⟩
  unfold callM at z
  cases e1 : evs ps env with
  | no => rw [e1] at z; exact z
  | ex n env1 => rw [e1] at z; exact z
  | ok ds env1 =>
    rw [e1] at z
    intro w1 vs x1 s1 r1 k1
    have hds := hps _ _ _ e1
    refine ⟨⟨w1.Z, fun _ _ => False, w1.H⟩, ds, rfl, by rw [r1.len, hds, hne], by rw [hds, hne], sr_args r1 s1.zt, ?_⟩
    simp only [rl_none hl] at z
    cases e2 : C.cl fn ds with
    | no => rw [e2] at z; exact z
    | ex n =>
      rw [e2] at z
      intro w2 x2
      obtain ⟨s2, xx, _⟩ := s1.after x2
      obtain ⟨w3, x3, eh, s3⟩ := s2.weak hx
      have := z w3 ((x1.trans xx).trans x3) (by rw [unl_none hl]; exact s3)
      rw [eh] at this
      exact this
    | ok r ls =>
      rw [e2] at z
      intro w2 v A x2 _ _ ro2 t2
      obtain ⟨s2, xx, hq⟩ := s1.after x2
      simp only at z
      rw [wb_none hl] at z
      refine z ⟨w2.Z, w1.F, w2.H⟩ v A (x1.trans xx) s2 ro2 ⟨t2.z, fun a i ha hf => ?_, fun a ha => ?_⟩ fun h => fun a b e => hq a b (k1 h a b e)
      · rcases t2.nw a ha with ⟨_, z⟩ | hn
        · exact z
        · exact s1.fne a hf hn
      · rcases t2.nw a ha with ⟨_, z⟩ | hn
        · exact z.elim
        · by_cases q : w.H a = none
          · exact .inr q
          · exact absurd hn (x1.dm a q)
end
end Mp
/-! Ms1: a call that is lent the thing of a slot (its first argument). -/
namespace Mp
open PySem PySem.Spec PyProof.Rows L2

section
variable {X : Cx} {c : Cc} {ows ows' : Ows} {ro lo : Ow} {q : Bool}
/-- the owners of a def's parameters: the one at p is lent -/
def poP (p : Nat) (lo : Ow) : Ows := List.replicate p .fr ++ [lo]
theorem poP_at {p j : Nat} {lo : Ow} : owAt (poP p lo) j = if j = p then lo else .fr := by
  unfold owAt poP
  rw [List.getD_eq_getElem?_getD]
  by_cases h : j = p
  · subst h
    rw [if_pos rfl, List.getElem?_append_right (by simp)]
    simp
  · rw [if_neg h]
    by_cases h2 : j < p
    · rw [List.getElem?_append_left (by simpa using h2), List.getElem?_replicate, if_pos h2]; rfl
    · rw [List.getElem?_eq_none (by simp; omega)]; rfl
/-- the place and the slot of what is lent -/
def lnE : List E → Option (Nat × Nat)
  | [] => none
  | .ln i :: es => if es.all noLn = true then some (0, i) else none
  | _ :: es => (lnE es).map fun r => (r.1 + 1, r.2)
theorem lnE_cons {x : E} {es : List E} {r : Nat × Nat} (h : lnE (x :: es) = some r) : (∃ i, x = .ln i ∧ r = (0, i) ∧ es.all noLn = true) ∨ (noLn x = true ∧ ∃ r', lnE es = some r' ∧ r = (r'.1 + 1, r'.2)) := by
  cases x with
  | ln i =>
    simp only [lnE] at h
    split at h
    · cases h; exact .inl ⟨i, rfl, rfl, ‹_›⟩
    · cases h
  | _ =>
    simp only [lnE, Option.map_eq_some_iff] at h
    obtain ⟨r', h1, h2⟩ := h
    exact .inr ⟨rfl, r', h1, h2.symm⟩
theorem wb_no {x : E} {es : List E} {d : D} {ds : List D} {e : Env} (h : noLn x = true) : wb (x :: es) (d :: ds) e = wb es ds e := by
  cases x <;> first | rfl | cases h
theorem unl_no {x : E} {es : List E} {e : Env} (h : noLn x = true) : unl (x :: es) e = unl es e := by
  cases x <;> first | rfl | cases h
theorem rl_no {x : E} {es : List E} {d : D} {ds : List D} {e : Env} (h : noLn x = true) : rl (x :: es) (d :: ds) e = (rl es ds e).map (d :: ·) := by
  cases x <;> first | rfl | cases h
theorem wb_ln : ∀ {es : List E} {r : Nat × Nat} {ls : List D} {l : D} {e : Env}, lnE es = some r → ls[r.1]? = some l → wb es ls e = setS e r.2 l
  | [], _, _, _, _, h, _ => by cases h
  | x :: es, r, [], l, e, h, hl => by simp at hl
  | x :: es, r, d :: ls, l, e, h, hl => by
    rcases lnE_cons h with ⟨i, rfl, rfl, h2⟩ | ⟨h1, r', h2, rfl⟩
    · simp at hl
      subst hl
      show wb es ls (setS e i d) = _
      rw [wb_none h2]
    · rw [wb_no h1]
      have := wb_ln (e := e) h2 (ls := ls) (l := l) (by simpa using hl)
      exact this
theorem unl_ln : ∀ {es : List E} {r : Nat × Nat} {e : Env}, lnE es = some r → unl es e = unS e r.2
  | [], _, _, h => by cases h
  | x :: es, r, e, h => by
    rcases lnE_cons h with ⟨i, rfl, rfl, h2⟩ | ⟨h1, r', h2, rfl⟩
    · show unl es (unS e i) = _
      rw [unl_none h2]
    · rw [unl_no h1]
      have := unl_ln (e := e) h2
      exact this
theorem rl_ln : ∀ {es : List E} {r : Nat × Nat} {ds ds' : List D} {e : Env}, lnE es = some r → ds.length = es.length → rl es ds e = some ds' → ds'.length = ds.length ∧ (∃ d, getS e r.2 = some d ∧ ds'[r.1]? = some d) ∧ ∀ j, j ≠ r.1 → ds'[j]? = ds[j]?
  | [], _, _, _, _, h, _, _ => by cases h
  | x :: es, r, [], ds', e, h, hl, _ => by cases hl
  | x :: es, r, d :: ds, ds', e, h, hl, hr => by
    rcases lnE_cons h with ⟨i, rfl, rfl, h2⟩ | ⟨h1, r', h2, rfl⟩
    · simp only [rl, rl_none h2] at hr
      cases hg : getS e i with
      | none => rw [hg] at hr; cases hr
      | some d' =>
        rw [hg] at hr
        cases hr
        refine ⟨rfl, ⟨d', rfl, rfl⟩, fun j hj => ?_⟩
        cases j with
        | zero => exact absurd rfl hj
        | succ j => rfl
    · rw [rl_no h1] at hr
      obtain ⟨ds2, h3, h4⟩ := Option.map_eq_some_iff.mp hr
      obtain ⟨g1, g2, g3⟩ := rl_ln h2 (by simpa using hl) h3
      subst h4
      refine ⟨by simp [g1], ?_, fun j hj => ?_⟩
      · obtain ⟨d', k1, k2⟩ := g2
        exact ⟨d', k1, by simpa using k2⟩
      · cases j with
        | zero => rfl
        | succ j => simpa using g3 j (fun z => hj (by simp [z]))
/-- the values of the arguments: the one at p is what the slot i holds -/
structure ArgsL (K : PySem.W.Frag) (H : Hp) (Z : AS) (p i : Nat) (σ : L2.St) (ds : List D) (vs : List V) : Prop where
  len : vs.length = ds.length
  here : ∃ v, vs[p]? = some v ∧ σ[i]? = some (some v)
  at_ : ∀ j d, j ≠ p → ds[j]? = some d → ∃ x, vs[j]? = some x ∧ Rep K H Z d x
def tAL (c : Cc) (f : M (List D)) (p i : Nat) (ows ows' : Ows) : TA := fun σ H Q => ∃ w env, w.H = H ∧ SR c.K c.pn ows env σ w ∧ match f env with
  | .ok ds env' => ∀ w' vs, Ext w w' → SR c.K c.pn ows' env' σ w' → ArgsL c.K w'.H w'.Z p i σ ds vs → Q vs w'.H
  | .ex n env' => exK c σ w n env'
  | .no => False
theorem al_here {x : Str} {i : Nat} {px : Pos} {es : List Expr} {fs : M (List D)} (hN : X.N[i]? = some x) (hv : Vis X.env.scope x) (hd : (x == ("__debug__" : Str)) = false) (hcd : (x == ("__classdict__" : Str)) = false) (ha : PA X es (tAV c fs ows ows' q)) :
    PA X (.Name x px :: es) (tAL c (M.bind (varM i) fun d => M.bind fs fun ds => M.ret (d :: ds)) 0 i ows ows') := by
  have hs1 : noStar (.Name x px) = true := rfl
  refine wPA (pa_cons (pe_var hN hv hd hcd) ha (star_cons hs1)) fun σ H Q ⟨w, env, hw, sr, z⟩ => ?_
  unfold M.bind varM at z
  cases e0 : getS env i with
  | none => rw [e0] at z; exact z.elim
  | some d =>
    rw [e0] at z
    obtain ⟨v, h1, h2⟩ := sr.at_ i d e0
    refine ⟨v, h1, w, env, hw, sr, ?_⟩
    simp only at z
    cases e1 : fs env with
    | no => rw [e1] at z; exact z
    | ex n env1 => rw [e1] at z; exact z
    | ok ds env1 =>
      rw [e1] at z
      intro w1 vs x1 s1 r1 k1
      refine z w1 (v :: vs) x1 s1 ⟨by simp [r1.len], ⟨v, rfl, h1⟩, fun j d' hj hd' => ?_⟩
      cases j with
      | zero => exact absurd rfl hj
      | succ j => exact r1.get hd'
theorem al_cons {e : Expr} {f : M D} {es : List Expr} {fs : M (List D)} {p i : Nat} {ows1 : Ows} {q1 : Bool} (hs : noStar e = true) (h : PE X e (tV c f ows ows1 .fr q1)) (hr : PA X es (tAL c fs p i ows1 ows')) : PA X (e :: es) (tAL c (M.bind f fun d => M.bind fs fun ds => M.ret (d :: ds)) (p + 1) i ows ows') := by
  refine wPA (pa_cons h hr (star_cons hs)) fun σ H Q ⟨w, env, hw, sr, z⟩ => ⟨w, env, hw, sr, ?_⟩
  unfold M.bind at z
  cases e1 : f env with
  | no => rw [e1] at z; exact z
  | ex n env1 => rw [e1] at z; exact z
  | ok d env1 =>
    rw [e1] at z
    intro w1 v A x1 s1 r1 t1 k1
    refine ⟨w1, env1, rfl, s1, ?_⟩
    simp only at z
    cases e2 : fs env1 with
    | no => rw [e2] at z; exact z
    | ex n env2 => rw [e2] at z; exact exK.mono x1 z
    | ok ds env2 =>
      rw [e2] at z
      intro w2 vs x2 s2 r2
      refine z w2 (v :: vs) (x1.trans x2) s2 ⟨by simp [r2.len], ?_, fun j d' hj hd' => ?_⟩
      · obtain ⟨u, h1, h2⟩ := r2.here
        exact ⟨u, h1, h2⟩
      · cases j with
        | zero =>
          cases hd'
          exact ⟨v, rfl, Rep.ext s1 x2 r1.1⟩
        | succ j => exact r2.at_ j d' (fun z => hj (by rw [z])) hd'
/-- the callee's slots: the one at p lent, the others frozen -/
theorem sr_args1 {K : PySem.W.Frag} {pn : Pin} {env : Env} {σ : L2.St} {w : Wd} {i p : Nat} {d : D} {v : V} {ds : List D} {vs : List V} (s : SR K pn ows env σ w) (r : RO K w.H w.Z lo d v (w.F i)) (hl : vs.length = ds.length) (hd : ds[p]? = some d) (hv : vs[p]? = some v) (h : ∀ j d, j ≠ p → ds[j]? = some d → ∃ x, vs[j]? = some x ∧ Rep K w.H w.Z d x) :
    SR K (pinOf (poP p lo) vs) (poP p lo) (ds.map some) (vs.map some) ⟨w.Z, fun j a => j = p ∧ w.F i a, w.H⟩ where
  len := by simp [hl]
  at_ := fun j d' e => by
    have e' := getS_map e
    rw [poP_at]
    by_cases hj : j = p
    · subst hj
      rw [hd] at e'
      cases e'
      refine ⟨v, by simp [hv], ?_⟩
      have e3 : (fun a => j = j ∧ w.F i a) = w.F i := by funext a; exact propext ⟨fun z => z.2, fun z => ⟨rfl, z⟩⟩
      show RO K w.H w.Z (if j = j then lo else .fr) d v (fun a => j = j ∧ w.F i a)
      rw [if_pos rfl, e3]
      exact r
    · rw [if_neg hj]
      obtain ⟨x, h1, h2⟩ := h j d' hj e'
      exact ⟨x, by simp [h1], ⟨h2, fun _ z => hj z.1⟩⟩
  apart := fun j k a z1 z2 => by rw [z1.1, z2.1]
  zf := fun j a z => s.zf i a z.2
  fm := fun j a z => s.fm i a z.2
  zt := s.zt
  pin := fun j q e => by
    unfold pinOf at e
    split at e
    · cases e
    · cases hvj : vs[j]? with
      | none => rw [hvj] at e; cases e
      | some u =>
        rw [hvj] at e
        cases e
        exact ⟨by simp [hvj], fun d hd => by cases hd⟩
/-- the caller's state behind it -/
def Wd.back (w w2 : Wd) (i p : Nat) : Wd := ⟨w2.Z, fun j a => (j = i ∧ w2.F p a) ∨ (j ≠ i ∧ w.F j a), w2.H⟩
theorem back_F {w w2 : Wd} {i p : Nat} : (w.back w2 i p).F i = w2.F p := by
  funext a
  exact propext ⟨fun z => z.elim (fun z => z.2) fun z => absurd rfl z.1, fun z => .inl ⟨rfl, z⟩⟩
theorem back_Fne {w w2 : Wd} {i j p : Nat} (h : j ≠ i) : (w.back w2 i p).F j = w.F j := by
  funext a
  exact propext ⟨fun z => z.elim (fun z => absurd z.1 h) fun z => z.2, fun z => .inr ⟨h, z⟩⟩
theorem back_ext {w w2 : Wd} {i p : Nat} (x : Ext ⟨w.Z, fun j a => j = p ∧ w.F i a, w.H⟩ w2) : Ext w (w.back w2 i p) where
  z := x.z
  fr := fun a o e n => x.fr a o e fun j z => n i z.2
  dm := x.dm
  nw := fun j a z => by
    rcases z with z | z
    · rcases x.nw p a z.2 with ⟨_, q⟩ | q
      · exact .inl ⟨i, q.2⟩
      · exact .inr q
    · exact .inl ⟨j, z.2⟩
  zn := fun a z => by
    rcases x.zn a z with q | ⟨_, q⟩ | q
    · exact .inl q
    · exact .inr (.inl ⟨i, q.2⟩)
    · exact .inr (.inr q)
  zh := x.zh
theorem SR.lent_keep {K : PySem.W.Frag} {pn : Pin} {env : Env} {σ : L2.St} {w w2 : Wd} {i p : Nat} (s : SR K pn ows env σ w) (x : Ext ⟨w.Z, fun j a => j = p ∧ w.F i a, w.H⟩ w2) {j : Nat} (hj : j ≠ i) {o : Ow} {d : D} {v : V} (r : RO K w.H w.Z o d v (w.F j)) : RO K w2.H w2.Z o d v (w.F j) :=
  r.keep x.z fun a q e zz => x.fr a q e fun k z => by
    rcases zz with zz | zz | zz
    · exact s.zf i a z.2 zz
    · exact hj (s.apart j i a zz z.2)
    · obtain ⟨o', e', m⟩ := s.fm i a z.2
      rw [e] at e'; cases e'; rw [zz] at m; cases m
theorem SR.lent {K : PySem.W.Frag} {pn : Pin} {env : Env} {σ : L2.St} {w w2 : Wd} {i p : Nat} {l : D} {v : V} (s : SR K pn ows env σ w) (x : Ext ⟨w.Z, fun j a => j = p ∧ w.F i a, w.H⟩ w2) (hi : σ[i]? = some (some v)) (ho : owAt ows i = lo) (r : RO K w2.H w2.Z lo l v (w2.F p))
    (zf : ∀ a, w2.F p a → ¬ w2.Z a) (fm : ∀ a, w2.F p a → ∃ o, w2.H a = some o ∧ mutO o = true) (zt : ∀ a, w2.Z a → w2.H a ≠ none) (hp : ∀ p, pn i = some p → p.2 = none) : SR K pn ows (setS env i l) σ (w.back w2 i p) where
  len := by rw [s.len]; unfold setS; simp
  at_ := fun j d h => by
    rcases getS_set h with ⟨rfl, rfl⟩ | ⟨q, h'⟩
    · refine ⟨v, hi, ?_⟩
      rw [ho, back_F]
      exact r
    · obtain ⟨v', h1, h2⟩ := s.at_ j d h'
      refine ⟨v', h1, ?_⟩
      rw [back_Fne q]
      exact s.lent_keep x q h2
  apart := fun j k a h1 h2 => by
    have key : ∀ k, k ≠ i → w2.F p a → w.F k a → False := fun k hk z1 z2 => by
      rcases x.nw p a z1 with ⟨_, q⟩ | q
      · exact hk (s.apart k i a z2 q.2)
      · exact s.fne a z2 q
    rcases h1 with h1 | h1 <;> rcases h2 with h2 | h2
    · rw [h1.1, h2.1]
    · exact (key k h2.1 h1.2 h2.2).elim
    · exact (key j h1.1 h2.2 h1.2).elim
    · exact s.apart j k a h1.2 h2.2
  zf := fun j a h z => by
    rcases h with h | h
    · exact zf a h.2 z
    · rcases x.zn a z with q | ⟨_, q⟩ | q
      · exact s.zf j a h.2 q
      · exact h.1 (s.apart j i a h.2 q.2)
      · exact s.fne a h.2 q
  fm := fun j a h => by
    rcases h with h | h
    · exact fm a h.2
    · obtain ⟨o, e, m⟩ := s.fm j a h.2
      exact ⟨o, x.fr a o e fun k z => h.1 (s.apart j i a h.2 z.2), m⟩
  zt := zt
  pin := fun j p h => by
    refine ⟨(s.pin j p h).1, fun d hd d' hg => ?_⟩
    rcases getS_set hg with ⟨rfl, _⟩ | ⟨_, e⟩
    · rw [hp p h] at hd; cases hd
    · exact (s.pin j p h).2 d hd d' e
/-- .. if it raises: what was lent is let go -/
theorem SR.lentX {K : PySem.W.Frag} {pn : Pin} {env : Env} {σ : L2.St} {w w2 : Wd} {i p : Nat} (s : SR K pn ows env σ w) (x : Ext ⟨w.Z, fun j a => j = p ∧ w.F i a, w.H⟩ w2) : SR K pn (ows.set i .fr) (unS env i) σ ⟨w2.Z, fun j a => j ≠ i ∧ w.F j a, w2.H⟩ where
  len := by rw [s.len]; unfold unS; simp
  at_ := fun j d h => by
    obtain ⟨q, h'⟩ := getS_un h
    obtain ⟨v', h1, h2⟩ := s.at_ j d h'
    refine ⟨v', h1, ?_⟩
    rw [owAt_set q]
    have e : (fun a => j ≠ i ∧ w.F j a) = w.F j := by funext a; exact propext ⟨fun z => z.2, fun z => ⟨q, z⟩⟩
    show RO K w2.H w2.Z _ d v' (fun a => j ≠ i ∧ w.F j a)
    rw [e]
    exact s.lent_keep x q h2
  apart := fun j k a h1 h2 => s.apart j k a h1.2 h2.2
  zf := fun j a h z => by
    rcases x.zn a z with q | ⟨_, q⟩ | q
    · exact s.zf j a h.2 q
    · exact h.1 (s.apart j i a h.2 q.2)
    · exact s.fne a h.2 q
  fm := fun j a h => by
    obtain ⟨o, e, m⟩ := s.fm j a h.2
    exact ⟨o, x.fr a o e fun k z => h.1 (s.apart j i a h.2 z.2), m⟩
  zt := x.zh s.zt
  pin := fun j p h => ⟨(s.pin j p h).1, fun d hd d' hg => (s.pin j p h).2 d hd d' (getS_un hg).2⟩
theorem lentX_ext {w w2 : Wd} {i p : Nat} (x : Ext ⟨w.Z, fun j a => j = p ∧ w.F i a, w.H⟩ w2) : Ext w ⟨w2.Z, fun j a => j ≠ i ∧ w.F j a, w2.H⟩ where
  z := x.z
  fr := fun a o e n => x.fr a o e fun j z => n i z.2
  dm := x.dm
  nw := fun j a z => .inl ⟨j, z.2⟩
  zn := fun a z => by
    rcases x.zn a z with q | ⟨_, q⟩ | q
    · exact .inl q
    · exact .inr (.inl ⟨i, q.2⟩)
    · exact .inr (.inr q)
  zh := x.zh
/-- what a def's first line says of what it is lent -/
def poF : Option (Nat × Ow) → Ows
  | none => []
  | some r => poP r.1 r.2
theorem pv_callL {C : Cs} {fn : Str} {i pp : Nat} {Es : List E} {ps : List (M D × M Bool)} {fa : Addr} {fd : FuncData} {pnames : List Str} {np k : Nat} {e : Expr} {es : List Expr} {p pos : Pos}
    (F : FnOk X.prog X.w X.K X.mg X.base (L2.CX X.prog X.w) k fa fd pnames (spOf c.K (C.cl fn) (poP pp lo) ro np)) (hlo : lo ≠ .fr) (hr : Room k X.A) (hg : Gl X fn) (hm : X.mg fn = some (.ref fa)) (hk : PySem.W.keepIn X.K (.ref fa) = true) (hb : Binds X.K fd pnames [])
    (tk : Takes X c.W) (hl : lnE Es = some (pp, i)) (hne : Es.length = np) (ha : PA X (e :: es) (tAL c (evs ps) pp i ows ows')) (hps : ∀ env ds env', evs ps env = .ok ds env' → ds.length = Es.length) (hoi : owAt ows' i = lo) (hx : weakB 0 (ows'.set i .fr) c.x = true) (hpn : ∀ p, c.pn i = some p → p.2 = none)
    (hst : (e :: es).all noStar = true) (hdb : (fn == ("__debug__" : Str)) = false) :
    PE X (.Call (.Name fn p) (e :: es) [] pos) (tV c (callM C fn Es ps) ows ows' ro false) := by
  simp only [List.all_cons, Bool.and_eq_true] at hst
  refine wPE (pe_callS F hr hg hm hk hb (fun σ => passAt tk σ) ha hdb (star_cons hst.1) (star_any hst.2)) fun σ H Q ⟨w, env, hw, sr, z⟩ => ⟨w, env, hw, sr, ?_⟩
  unfold callM at z
  cases e1 : evs ps env with
  | no => rw [e1] at z; exact z
  | ex n env1 => rw [e1] at z; exact z
  | ok ds env1 =>
    rw [e1] at z
    intro w1 vs x1 s1 r1
    have hds := hps _ _ _ e1
    simp only at z
    cases er : rl Es ds env1 with
    | none => rw [er] at z; exact z.elim
    | some ds' =>
      rw [er] at z
      simp only at z
      obtain ⟨l1, ⟨d, hd1, hd2⟩, l3⟩ := rl_ln hl hds er
      obtain ⟨v, hv1, hv2⟩ := r1.here
      obtain ⟨v', g1, g2⟩ := s1.at_ i d hd1
      rw [hv2] at g1
      cases g1
      rw [hoi] at g2
      refine ⟨⟨w1.Z, fun j a => j = pp ∧ w1.F i a, w1.H⟩, ds', rfl, by rw [r1.len, hds, hne], by rw [l1, hds, hne], sr_args1 s1 g2 (by rw [r1.len, l1]) hd2 hv1 (fun j d' hj hd' => r1.at_ j d' hj (by rw [← l3 j hj]; exact hd')), ?_⟩
      cases e2 : C.cl fn ds' with
      | no => rw [e2] at z; exact z
      | ex n =>
        rw [e2] at z
        intro w2 x2
        have s2 := s1.lentX x2
        obtain ⟨w3, x3, eh, s3⟩ := s2.weak hx
        have := z w3 ((x1.trans (lentX_ext x2)).trans x3) (by rw [unl_ln hl]; exact s3)
        rw [eh] at this
        exact this
      | ok r ls =>
        rw [e2] at z
        intro w2 u A x2 hln sl ro2 t2
        have hpp : pp < ls.length := by
          have := (List.getElem?_eq_some_iff.mp hd2).1
          omega
        obtain ⟨l, hl0⟩ : ∃ l, ls[pp]? = some l := ⟨_, List.getElem?_eq_getElem hpp⟩
        have hg0 : getS (lsOf (poP pp lo) ls) pp = some l := by
          unfold getS lsOf
          rw [List.getElem?_map]
          have : (List.range ls.length)[pp]? = some pp := by simp [hpp]
          rw [this]
          simp only [Option.map_some, poP_at, if_true, if_neg hlo, hl0, Option.join_some]
        obtain ⟨v', k1', k2'⟩ := sl.at_ pp l hg0
        have ev : v' = v := by
          have : (vs.map some)[pp]? = some (some v) := by simp [hv1]
          rw [this] at k1'
          cases k1'; rfl
        subst ev
        rw [poP_at, if_pos rfl] at k2'
        have s3 := s1.lent x2 hv2 hoi k2' (fun a h => sl.zf pp a h) (fun a h => sl.fm pp a h) sl.zt hpn
        simp only at z
        rw [wb_ln hl hl0] at z
        refine z (w1.back w2 i pp) u A (x1.trans (back_ext x2)) s3 ro2 ⟨t2.z, fun a j hA hf => ?_, fun a hA => ?_⟩ fun h => by cases h
        · rcases hf with hf | hf
          · exact t2.f a pp hA hf.2
          · rcases t2.nw a hA with ⟨_, q⟩ | q
            · exact hf.1 (s1.apart j i a hf.2 q.2)
            · exact s1.fne a hf.2 q
        · rcases t2.nw a hA with ⟨_, q⟩ | q
          · exact x1.nw i a q.2
          · by_cases hn : w.H a = none
            · exact .inr hn
            · exact absurd q (x1.dm a hn)
end
end Mp
/-! Mp8: places in nested data. -/
namespace Mp
open PySem PySem.Spec PyProof.Rows L2

/-- from v along qs in the heap -/
def At (H : Hp) : V → List D → V → Prop
  | v, [], v1 => v1 = v
  | v, q :: r, v1 => ∃ a x, v = .ref a ∧ ((∃ xs i, q = .int i ∧ H a = some (.lst xs) ∧ atI xs i = some x) ∨ (∃ (t : Bool) (ks : List D) (xs : List V) (j : Nat), DcAt H a t ks xs ∧ ks[j]? = some q ∧ xs[j]? = some x)) ∧ At H x r v1
theorem At.mono {H H' : Hp} (k : ∀ a q, H a = some q → H' a = some q) : ∀ {qs : List D} {v v1 : V}, At H v qs v1 → At H' v qs v1
  | [], _, _, h => h
  | q :: r, v, v1, h => by
    obtain ⟨a, x, e, h1, h2⟩ := h
    refine ⟨a, x, e, ?_, At.mono k h2⟩
    rcases h1 with ⟨xs, i, e1, e2, e3⟩ | ⟨t, ks, xs, j, e1, e2, e3⟩
    · exact .inl ⟨xs, i, e1, k _ _ e2, e3⟩
    · exact .inr ⟨t, ks, xs, j, e1.mono fun o => k a o, e2, e3⟩
theorem kvs_inj {ks : List D} {xs ys : List V} {a b : List (Key × V)} (h1 : KeyK ks a) (h2 : xs = a.map (·.2)) (e : a = b) (h4 : ys = b.map (·.2)) : xs = ys := by subst e; rw [h2, h4]
theorem DcAt.det {H : Hp} {a : Addr} {t t' : Bool} {ks ks' : List D} {xs xs' : List V} (h : DcAt H a t ks xs) (h' : DcAt H a t' ks' xs') : t = t' ∧ ks = ks' ∧ xs = xs' := by
  obtain ⟨_, ⟨rfl, kvs, e1, e2, e3⟩ | ⟨rfl, kvs, e1, e2, e3⟩⟩ := h <;> obtain ⟨_, ⟨rfl, kvs', f1, f2, f3⟩ | ⟨rfl, kvs', f1, f2, f3⟩⟩ := h'
  · rw [e1] at f1; cases f1; exact ⟨rfl, by rw [e2, f2], by rw [e3, f3]⟩
  · rw [e1] at f1; cases f1
  · rw [e1] at f1; cases f1
  · rw [e1] at f1; cases f1; exact ⟨rfl, by rw [e2, f2], by rw [e3, f3]⟩
theorem nodup_at {α : Type} {ks : List α} (nd : ks.Nodup) {i j : Nat} {k : α} (h1 : ks[i]? = some k) (h2 : ks[j]? = some k) : i = j := by
  obtain ⟨a1, b1⟩ := List.getElem?_eq_some_iff.mp h1
  obtain ⟨a2, b2⟩ := List.getElem?_eq_some_iff.mp h2
  have pw := List.pairwise_iff_getElem.mp nd
  rcases Nat.lt_trichotomy i j with q | q | q
  · exact absurd (b1.trans b2.symm) (pw i j a1 a2 q)
  · exact q
  · exact absurd (b2.trans b1.symm) (pw j i a2 a1 q)
theorem At.det {H : Hp} : ∀ {qs : List D} {v v1 v2 : V}, At H v qs v1 → At H v qs v2 → v1 = v2
  | [], _, _, _, h, h' => by
    have h : _ = _ := h
    have h' : _ = _ := h'
    rw [h, h']
  | q :: r, v, v1, v2, h, h' => by
    obtain ⟨a, x, e, h1, h2⟩ := h
    obtain ⟨a', x', e', h1', h2'⟩ := h'
    rw [e] at e'; cases e'
    have : x = x' := by
      rcases h1 with ⟨xs, i, e1, e2, e3⟩ | ⟨t, ks, xs, j, e1, e2, e3⟩ <;> rcases h1' with ⟨xs', i', f1, f2, f3⟩ | ⟨t', ks', xs', j', f1, f2, f3⟩
      · rw [e1] at f1; cases f1; rw [e2] at f2; cases f2; rw [e3] at f3; exact Option.some.inj f3
      · obtain ⟨_, ⟨_, kvs, z, _⟩ | ⟨_, kvs, z, _⟩⟩ := f1 <;> (rw [e2] at z; cases z)
      · obtain ⟨_, ⟨_, kvs, z, _⟩ | ⟨_, kvs, z, _⟩⟩ := e1 <;> (rw [f2] at z; cases z)
      · obtain ⟨_, k1, k2⟩ := e1.det f1
        subst k1 k2
        have : j = j' := nodup_at e1.1 e2 f2
        subst this
        rw [e3] at f3
        exact Option.some.inj f3
    subst this
    exact h2.det h2'
theorem dGet_at : ∀ {ks vs : List D} {k d : D}, dGet ks vs k = some d → ∃ j, ks[j]? = some k ∧ vs[j]? = some d ∧ ∀ y, dPut ks vs k y = (ks, vs.set j y)
  | [], _, _, _, h => by simp [dGet] at h
  | _ :: _, [], _, _, h => by simp [dGet] at h
  | k0 :: ks, v0 :: vs, k, d, h => by
    unfold dGet at h
    by_cases e : k0 = k
    · rw [if_pos e] at h
      exact ⟨0, by simp [e], by simpa using h, fun y => by simp [dPut, e]⟩
    · rw [if_neg e] at h
      obtain ⟨j, h1, h2, h3⟩ := dGet_at h
      exact ⟨j + 1, by simpa using h1, by simpa using h2, fun y => by simp [dPut, e, h3]⟩
theorem atI_at {α : Type} {xs : List α} {i : Int} {x : α} (h : atI xs i = some x) : ∃ j, ixN xs.length i = some j ∧ xs[j]? = some x := by
  unfold atI at h
  obtain ⟨j, h1, h2⟩ := Option.bind_eq_some_iff.mp h
  exact ⟨j, h1, h2⟩
def oAt : Ow → Nat → Ow
  | o, 0 => o
  | .fr, _ + 1 => .fr
  | .ow o, n + 1 => oAt o n
theorem oAt0 {o : Ow} : oAt o 0 = o := by cases o <;> rfl
/-- the owner's for n steps, and there, too -/
def deepO : Ow → Nat → Bool
  | .fr, _ => false
  | .ow _, 0 => true
  | .ow o, n + 1 => deepO o n
section
variable {K : PySem.W.Frag} {H H' : Hp} {Z : AS}
theorem RO.iff {o : Ow} {d : D} {v : V} {A A' : AS} (h : RO K H Z o d v A) (e : ∀ a, A' a ↔ A a) : RO K H Z o d v A' := by
  have : A' = A := funext fun a => propext (e a)
  rw [this]; exact h
/-- one item is another one now -/
theorem Items.setAt {R R' : D → V → AS → Prop} {ds : List D} {xs : List V} {B : AS} {G : Nat → AS} {j : Nat} {d' : D} {x' : V} {A' : AS} (I : Items R ds xs B G) (hj : j < ds.length) (k : ∀ i d x, i ≠ j → ds[i]? = some d → xs[i]? = some x → R d x (G i) → R' d x (G i)) (r : R' d' x' A')
    (dis : ∀ i a, i ≠ j → i < ds.length → A' a → ¬ G i a) : Items R' (ds.set j d') (xs.set j x') (fun a => (B a ∧ ¬ G j a) ∨ A' a) (fun i a => if i = j then A' a else (i < ds.length ∧ G i a)) where
  len := by simp [I.len]
  at_ := fun i d x h1 h2 => by
    by_cases q : i = j
    · subst q
      rw [List.getElem?_set_self hj] at h1
      rw [List.getElem?_set_self (by rw [I.len]; exact hj)] at h2
      cases h1; cases h2
      have e : (fun a => if i = i then A' a else (i < ds.length ∧ G i a)) = A' := by funext a; simp
      rw [e]; exact r
    · rw [List.getElem?_set_ne (Ne.symm q)] at h1 h2
      have e : (fun a => if i = j then A' a else (i < ds.length ∧ G i a)) = G i := by
        funext a
        rw [if_neg q]
        exact propext ⟨fun h => h.2, fun h => ⟨(List.getElem?_eq_some_iff.mp h1).1, h⟩⟩
      rw [e]
      exact k i d x q h1 h2 (I.at_ i d x h1 h2)
  apart := fun i k a h1 h2 => by
    split at h1 <;> split at h2
    · omega
    · rename_i q1 q2; exact absurd h2.2 (dis k a q2 h2.1 h1)
    · rename_i q1 q2; exact absurd h1.2 (dis i a q1 h1.1 h2)
    · exact I.apart i k a h1.2 h2.2
  some_ := fun a => by
    rw [I.some_ a]
    constructor
    · rintro (⟨⟨i, hi, g⟩, n⟩ | h)
      · exact ⟨i, by rw [List.length_set]; exact hi, by rw [if_neg (fun (z : i = j) => n (by subst z; exact g))]; exact ⟨hi, g⟩⟩
      · exact ⟨j, by rw [List.length_set]; exact hj, by rw [if_pos rfl]; exact h⟩
    · rintro ⟨i, hi, g⟩
      split at g
      · exact .inr g
      · rename_i q
        exact .inl ⟨⟨i, g.1, g.2⟩, fun z => q (I.apart i j a g.2 z)⟩
theorem set_same {α : Type} {xs : List α} {j : Nat} {x : α} (h : xs[j]? = some x) : xs.set j x = xs := by
  obtain ⟨h1, h2⟩ := List.getElem?_eq_some_iff.mp h
  rw [← h2, List.set_getElem_self]
/-- at a place: what stands there, and what becomes of the whole if it changes -/
theorem RO.focus : ∀ {qs : List D} {o : Ow} {d d1 : D} {v : V} {A : AS}, RO K H Z o d v A → (∀ a, A a → ¬ Z a) → getP d qs = some d1 → deepO o qs.length = true →
    ∃ v1 A1, At H v qs v1 ∧ RO K H Z (oAt o qs.length) d1 v1 A1 ∧ (∀ a, A1 a → A a) ∧
      ∀ {H' : Hp} {d1' : D} {A1' : AS}, (∀ a q, ¬ A1 a → H a = some q → H' a = some q) → RO K H' Z (oAt o qs.length) d1' v1 A1' → (∀ a, A1' a → A a → A1 a) → ∃ d', setP d qs d1' = some d' ∧ RO K H' Z o d' v (fun a => (A a ∧ ¬ A1 a) ∨ A1' a)
  | [], o, d, d1, v, A, h, _, hg, hd => by
    cases (show some d = some d1 from by cases d <;> exact hg)
    refine ⟨v, A, rfl, by rw [List.length_nil, oAt0]; exact h, fun _ z => z, fun {H' d1' A1'} _ r _ => ?_⟩
    rw [List.length_nil, oAt0] at r
    exact ⟨d1', by cases d <;> rfl, r.iff fun a => ⟨fun (z : (A a ∧ ¬ A a) ∨ A1' a) => z.elim (fun z => absurd z.1 z.2) id, .inr⟩⟩
  | q :: r, .fr, d, d1, v, A, h, _, hg, hd => by cases hd
  | q :: r, .ow o, d, d1, v, A, h, hz, hg, hd => by
    have own : ∀ {ds : List D} {xs : List V} {B : AS} {G : Nat → AS} {j : Nat} {d2 : D} {a : Addr} {x : V}, Items (RO K H Z o) ds xs B G → ¬ B a → (∀ b, A b ↔ (b = a ∨ B b)) → ds[j]? = some d2 → xs[j]? = some x → getP d2 r = some d1 →
        ∃ v1 A1, At H x r v1 ∧ RO K H Z (oAt o r.length) d1 v1 A1 ∧ (∀ b, A1 b → A b) ∧ ¬ A1 a ∧
          ∀ {H' : Hp} {d1' : D} {A1' : AS}, (∀ a q, ¬ A1 a → H a = some q → H' a = some q) → RO K H' Z (oAt o r.length) d1' v1 A1' → (∀ a, A1' a → A a → A1 a) → ∃ d2', setP d2 r d1' = some d2' ∧
            ∃ B' G', Items (RO K H' Z o) (ds.set j d2') xs B' G' ∧ ¬ B' a ∧ ∀ b, ((A b ∧ ¬ A1 b) ∨ A1' b) ↔ (b = a ∨ B' b) := by
      intro ds xs B G j d2 a x I nb hA e1 e2 hg
      have hj := (List.getElem?_eq_some_iff.mp e1).1
      have gB : ∀ b, G j b → B b := fun b g => (I.some_ b).mpr ⟨j, hj, g⟩
      obtain ⟨v1, A1, a1, a2, a3, a4⟩ := RO.focus (I.at_ j d2 x e1 e2) (fun b g => hz b ((hA b).mpr (.inr (gB b g)))) hg hd
      have na : ¬ A1 a := fun z => nb (gB a (a3 a z))
      refine ⟨v1, A1, a1, a2, fun b z => (hA b).mpr (.inr (gB b (a3 b z))), na, fun {H' d1' A1'} kk rr dis => ?_⟩
      obtain ⟨d2', s1, s2⟩ := a4 kk rr fun b z g => dis b z ((hA b).mpr (.inr (gB b g)))
      refine ⟨d2', s1, (fun b => (B b ∧ ¬ G j b) ∨ ((G j b ∧ ¬ A1 b) ∨ A1' b)), _, (by
        have := I.setAt (R' := RO K H' Z o) (d' := d2') (x' := x) hj (fun i d x hi e1 e2 rx => rx.keep (fun _ z => z) fun b q e z => kk b q (fun z1 => by
          rcases z with z | z | z
          · exact hz b ((hA b).mpr (.inr (gB b (a3 b z1)))) z
          · exact hi (I.apart i j b z (a3 b z1))
          · obtain ⟨q', e', m⟩ := a2.there b z1
            rw [e] at e'; cases e'; rw [z] at m; cases m) e) s2 (fun i b hi hl z g => by
          rcases z with z | z
          · exact hi (I.apart i j b g z.1)
          · exact hi (I.apart i j b g (a3 b (dis b z ((hA b).mpr (.inr ((I.some_ b).mpr ⟨i, hl, g⟩)))))))
        rw [set_same e2] at this
        exact this), ?_, fun b => ?_⟩
      · rintro (z | z | z)
        · exact nb z.1
        · exact nb (gB a z.1)
        · exact na (dis a z ((hA a).mpr (.inl rfl)))
      · rw [hA b]
        constructor
        · rintro (⟨rfl | hb, n⟩ | z)
          · exact .inl rfl
          · by_cases g : G j b
            · exact .inr (.inr (.inl ⟨g, n⟩))
            · exact .inr (.inl ⟨hb, g⟩)
          · exact .inr (.inr (.inr z))
        · rintro (rfl | z | z | z)
          · exact .inl ⟨.inl rfl, na⟩
          · exact .inl ⟨.inr z.1, fun z1 => z.2 (a3 b z1)⟩
          · exact .inl ⟨.inr (gB b z.1), z.2⟩
          · exact .inr z
    cases d with
    | lst ds =>
      cases q with
      | int i =>
        obtain ⟨d2, g1, g2⟩ := Option.bind_eq_some_iff.mp (show (L2.atI ds i).bind (fun d => getP d r) = some d1 from hg)
        obtain ⟨a, xs, B, G, rfl, h1, I, nb, hA⟩ := h
        obtain ⟨j, j1, j2⟩ := atI_at g1
        have hj := (List.getElem?_eq_some_iff.mp j2).1
        obtain ⟨x, hx⟩ : ∃ x, xs[j]? = some x := ⟨_, List.getElem?_eq_getElem (by rw [I.len]; exact hj)⟩
        obtain ⟨v1, A1, a1, a2, a3, na, a4⟩ := own I nb hA j2 hx g2
        refine ⟨v1, A1, ⟨a, x, rfl, .inl ⟨xs, i, rfl, h1, by unfold atI; rw [I.len, j1]; exact hx⟩, a1⟩, a2, a3, fun {H' d1' A1'} kk rr dis => ?_⟩
        obtain ⟨d2', s1, B', G', I', nb', hA'⟩ := a4 kk rr dis
        refine ⟨.lst (ds.set j d2'), by simp only [setP, j1, g1, s1]; rfl, ⟨a, xs, B', G', rfl, kk a _ na h1, I', nb', hA'⟩⟩
      | _ => cases hg
    | dct t ks vs =>
      have hg' : (if keyD t q then (dGet ks vs q).bind fun d => getP d r else none) = some d1 := by simpa only [getP] using hg
      by_cases hk : keyD t q = true
      · rw [if_pos hk] at hg'
        obtain ⟨d2, g1, g2⟩ := Option.bind_eq_some_iff.mp hg'
        obtain ⟨a, xs, B, G, rfl, h1, I, nb, hA⟩ := h
        obtain ⟨j, j1, j2, j3⟩ := dGet_at g1
        have hj := (List.getElem?_eq_some_iff.mp j2).1
        obtain ⟨x, hx⟩ : ∃ x, xs[j]? = some x := ⟨_, List.getElem?_eq_getElem (by rw [I.len]; exact hj)⟩
        obtain ⟨v1, A1, a1, a2, a3, na, a4⟩ := own I nb hA j2 hx g2
        refine ⟨v1, A1, ⟨a, x, rfl, .inr ⟨t, ks, xs, j, h1, j1, hx⟩, a1⟩, a2, a3, fun {H' d1' A1'} kk rr dis => ?_⟩
        obtain ⟨d2', s1, B', G', I', nb', hA'⟩ := a4 kk rr dis
        refine ⟨.dct t ks (vs.set j d2'), by simp only [setP, hk, if_true, g1, s1, j3, Option.bind_some, Option.map_some], ⟨a, xs, B', G', rfl, h1.mono fun o e => kk a o na e, I', nb', hA'⟩⟩
      · rw [if_neg hk] at hg'; cases hg'
    | _ => simp [getP] at hg
end

section
variable {K : PySem.W.Frag} {pn : Pin} {ows : Ows} {env : Env} {σ : L2.St} {w w' w0 : Wd} {A : AS} {H' : Hp}
/-- the thing of a slot is another one now, in another heap -/
def Wd.slot (w : Wd) (i : Nat) (A : AS) (H' : Hp) : Wd := ⟨w.Z, fun j a => if j = i then A a else w.F j a, H'⟩
theorem SR.slot {i : Nat} {d : D} {v : V} {A' : AS} (s : SR K pn ows env σ w) (hσ : σ[i]? = some (some v)) (hk : ∀ a q, ¬ w.F i a → w.H a = some q → H' a = some q) (r : RO K H' w.Z (owAt ows i) d v A')
    (hz : ∀ a, A' a → ¬ w.Z a) (hf : ∀ a j, j ≠ i → A' a → ¬ w.F j a) (hp : ∀ p, pn i = some p → p.2 = none) : SR K pn ows (setS env i d) σ (w.slot i A' H') where
  len := by rw [s.len]; unfold setS; simp
  at_ := fun j d' h => by
    rcases getS_set h with ⟨rfl, rfl⟩ | ⟨q, h'⟩
    · refine ⟨v, hσ, ?_⟩
      have e : (w.slot j A' H').F j = A' := by funext a; simp [Wd.slot]
      rw [e]; exact r
    · obtain ⟨v', h1, h2⟩ := s.at_ j d' h'
      refine ⟨v', h1, ?_⟩
      have e : (w.slot i A' H').F j = w.F j := by funext a; simp [Wd.slot, q]
      rw [e]
      refine h2.keep (fun _ z => z) fun a qq e z => hk a qq ?_ e
      intro hi
      rcases z with z | z | z
      · exact s.zf i a hi z
      · exact q (s.apart j i a z hi)
      · obtain ⟨o', e1, m⟩ := s.fm i a hi
        rw [e] at e1; cases e1; rw [z] at m; cases m
  apart := fun j k a h1 h2 => by
    simp only [Wd.slot] at h1 h2
    split at h1 <;> split at h2
    · omega
    · rename_i e1 e2; exact absurd h2 (hf a k e2 h1)
    · rename_i e1 e2; exact absurd h1 (hf a j e1 h2)
    · exact s.apart j k a h1 h2
  zf := fun j a h z => by
    simp only [Wd.slot] at h
    split at h
    · exact hz a h z
    · exact s.zf j a h z
  fm := fun j a h => by
    simp only [Wd.slot] at h
    split at h
    · exact r.there a h
    · rename_i n
      obtain ⟨q, e, m⟩ := s.fm j a h
      exact ⟨q, hk a q (fun z => n (s.apart j i a h z)) e, m⟩
  zt := fun a z => by
    cases e : w.H a with
    | none => exact absurd e (s.zt a z)
    | some q =>
      show H' a ≠ none
      rw [hk a q (fun h => s.zf i a h z) e]; simp
  pin := fun j p h => by
    refine ⟨(s.pin j p h).1, fun d hd d' hg => ?_⟩
    rcases getS_set hg with ⟨rfl, _⟩ | ⟨_, e⟩
    · rw [hp p h] at hd; cases hd
    · exact (s.pin j p h).2 d hd d' e
theorem Ext.slot {i : Nat} {A' : AS} (e : Ext w0 w) (hk : ∀ a q, ¬ w.F i a → w.H a = some q → H' a = some q) (dm : ∀ a, w.H a ≠ none → H' a ≠ none) (hB : ∀ a, A' a → (∃ j, w0.F j a) ∨ w0.H a = none) : Ext w0 (w.slot i A' H') where
  z := e.z
  fr := fun a o e1 n => hk a o (fun z => by
    rcases e.nw i a z with ⟨j, q⟩ | q
    · exact n j q
    · rw [e1] at q; cases q) (e.fr a o e1 n)
  dm := fun a h => dm a (e.dm a h)
  nw := fun j a h => by
    simp only [Wd.slot] at h
    split at h
    · exact hB a h
    · exact e.nw j a h
  zn := e.zn
  zh := fun h a z => dm a (e.zh h a z)
end
end Mp
/-! Mp9: what changes a list; stores at a place. -/
namespace Mp
open PySem PySem.Spec PyProof.Rows L2

theorem setP_nil {d y : D} : setP d [] y = some y := by cases d <;> rfl
theorem getP_nil {d : D} : getP d [] = some d := by cases d <;> rfl
theorem getP_snoc : ∀ {qs : List D} {d d1 : D} {q : D}, getP d (qs ++ [q]) = some d1 → ∃ d0, getP d qs = some d0 ∧ getP d0 [q] = some d1
  | [], d, d1, q, h => ⟨d, getP_nil, h⟩
  | q0 :: r, d, d1, q, h => by
    cases d with
    | lst xs =>
      cases q0 with
      | int i =>
        obtain ⟨d2, g1, g2⟩ := Option.bind_eq_some_iff.mp (show (L2.atI xs i).bind (fun d => getP d (r ++ [q])) = some d1 from h)
        obtain ⟨d0, h1, h2⟩ := getP_snoc g2
        exact ⟨d0, show (L2.atI xs i).bind (fun d => getP d r) = some d0 by rw [g1]; exact h1, h2⟩
      | _ => simp [getP] at h
    | dct t ks vs =>
      rw [List.cons_append, getP] at h
      rw [getP]
      split at h
      · rename_i hk
        rw [if_pos hk]
        obtain ⟨d2, g1, g2⟩ := Option.bind_eq_some_iff.mp h
        obtain ⟨d0, h1, h2⟩ := getP_snoc g2
        exact ⟨d0, by rw [g1]; exact h1, h2⟩
      · cases h
    | _ => simp [getP] at h
theorem At.snoc {H : Hp} : ∀ {qs : List D} {v v1 v2 : V} {q : D}, At H v qs v1 → At H v1 [q] v2 → At H v (qs ++ [q]) v2
  | [], v, v1, v2, q, h, h' => by
    cases (show v1 = v from h)
    exact h'
  | q0 :: r, v, v1, v2, q, h, h' => by
    obtain ⟨a, x, e, h1, h2⟩ := h
    exact ⟨a, x, e, h1, At.snoc h2 h'⟩
theorem evs_snoc {a : List (M D × M Bool)} {p : M D × M Bool} : evs (a ++ [p]) = M.bind (evs a) fun ds => M.bind p.1 fun d => M.ret (ds ++ [d]) := by
  induction a with
  | nil =>
    funext e
    rfl
  | cons b a ih =>
    funext e
    simp only [List.cons_append, evs, M.bind, M.ret, ih]
    cases b.1 e with
    | no => rfl
    | ex => rfl
    | ok x e1 =>
      simp only
      cases evs a e1 with
      | no => rfl
      | ex => rfl
      | ok xs e2 =>
        simp only
        cases p.1 e2 <;> rfl

/-- it changes no slot -/
def Pure {α : Type} (f : M α) : Prop := ∀ e r e', f e = .ok r e' → e' = e
section
variable {X : Cx} {c : Cc} {f g : M D} {ows ows1 ows2 ows' : Ows} {o o1 o2 : Ow} {q q1 q2 : Bool} {e pe : Expr}
/-- the thing at a place, reached -/
def tPl (c : Cc) (i : Nat) (f : M (List D)) (ows : Ows) : TE := fun σ H Q => ∃ w env, w.H = H ∧ SR c.K c.pn ows env σ w ∧ match f env with
  | .ok qs env' => env' = env ∧ ∃ d d1, getS env i = some d ∧ getP d qs = some d1 ∧ ∀ w' v v1, Ext w w' → Quiet w w' → SR c.K c.pn ows env σ w' → σ[i]? = some (some v) → At w'.H v qs v1 → Q v1 w'.H
  | .ex n env' => exK c σ w n env'
  | .no => False
theorem pl_nil {i : Nat} {x : Str} {pos : Pos} (hN : X.N[i]? = some x) (hv : Vis X.env.scope x) (hd : (x == ("__debug__" : Str)) = false) (hcd : (x == ("__classdict__" : Str)) = false) : PE X (.Name x pos) (tPl c i (M.ret []) ows) :=
  wPE (pe_var hN hv hd hcd) fun σ H Q ⟨w, env, hw, sr, _, d, d1, e1, e2, z⟩ => by
    subst hw
    obtain ⟨v, h1, h2⟩ := sr.at_ i d e1
    exact ⟨v, h1, z w v v Ext.refl (fun _ _ e => e) sr h1 rfl⟩
theorem SR.place {K : PySem.W.Frag} {pn : Pin} {env : Env} {σ : L2.St} {w : Wd} {i : Nat} {d d1 : D} {qs : List D} (s : SR K pn ows env σ w) (e : getS env i = some d) (hg : getP d qs = some d1) (hd : deepO (owAt ows i) qs.length = true) :
    ∃ v v1 A1, σ[i]? = some (some v) ∧ At w.H v qs v1 ∧ RO K w.H w.Z (oAt (owAt ows i) qs.length) d1 v1 A1 ∧ (∀ a, A1 a → w.F i a) ∧
      ∀ {H' : Hp} {d1' : D} {A1' : AS}, (∀ a q, ¬ A1 a → w.H a = some q → H' a = some q) → RO K H' w.Z (oAt (owAt ows i) qs.length) d1' v1 A1' → (∀ a, A1' a → w.F i a → A1 a) → ∃ d', setP d qs d1' = some d' ∧ RO K H' w.Z (owAt ows i) d' v (fun a => (w.F i a ∧ ¬ A1 a) ∨ A1' a) := by
  obtain ⟨v, h1, h2⟩ := s.at_ i d e
  obtain ⟨v1, A1, a1, a2, a3, a4⟩ := h2.focus (fun a h => s.zf i a h) hg hd
  exact ⟨v, v1, A1, h1, a1, a2, a3, a4⟩
theorem oAt_snoc : ∀ {o : Ow} {n : Nat}, deepO o n = true → ∃ o', oAt o n = .ow o' ∧ oAt o (n + 1) = o'
  | .fr, _, h => by cases h
  | .ow o, 0, _ => ⟨o, rfl, by show oAt o 0 = o; exact oAt0⟩
  | .ow o, n + 1, h => oAt_snoc (o := o) (n := n) h
/-- a list's item -/
theorem at_item {K : PySem.W.Frag} {H : Hp} {Z : AS} {d0 d1 : D} {v0 : V} {A : AS} {i : Int} (r : RO K H Z (.ow o) d0 v0 A) (h : getP d0 [.int i] = some d1) (hl : ∀ t ks vs, d0 ≠ .dct t ks vs) : ∃ a xs x, v0 = .ref a ∧ H a = some (.lst xs) ∧ atI xs i = some x ∧ At H v0 [.int i] x := by
  cases d0 with
  | lst ds =>
    obtain ⟨a, xs, B, G, rfl, h1, I, _⟩ := r
    obtain ⟨d2, g1, _⟩ := Option.bind_eq_some_iff.mp (show (L2.atI ds i).bind (fun d => getP d []) = some d1 from h)
    obtain ⟨j, j1, j2⟩ := atI_at g1
    obtain ⟨x, hx⟩ : ∃ x, xs[j]? = some x := ⟨_, List.getElem?_eq_getElem (by rw [I.len]; exact (List.getElem?_eq_some_iff.mp j2).1)⟩
    have e : atI xs i = some x := by unfold atI; rw [I.len, j1]; exact hx
    exact ⟨a, xs, x, rfl, h1, e, ⟨a, x, rfl, .inl ⟨xs, i, rfl, h1, e⟩, rfl⟩⟩
  | dct => exact absurd rfl (hl _ _ _)
  | _ => simp [getP] at h

/-! ### the step of a change -/
theorem mut_step {K : PySem.W.Frag} {pn : Pin} {env : Env} {σ : L2.St} {w w0 : Wd} {i : Nat} {d d1 : D} {v v1 : V} {qs : List D} (s : SR K pn ows env σ w) (e : getS env i = some d) (hg : getP d qs = some d1) (hd : deepO (owAt ows i) qs.length = true) (hp : ∀ p, pn i = some p → p.2 = none)
    (x0 : Ext w0 w) (hσ : σ[i]? = some (some v)) (ha : At w.H v qs v1) :
    ∃ A1, RO K w.H w.Z (oAt (owAt ows i) qs.length) d1 v1 A1 ∧ (∀ a, A1 a → w.F i a) ∧
      ∀ {H' : Hp} {d1' : D} {A1' : AS}, (∀ a q, ¬ A1 a → w.H a = some q → H' a = some q) → (∀ a, w.H a ≠ none → H' a ≠ none) → RO K H' w.Z (oAt (owAt ows i) qs.length) d1' v1 A1' → (∀ a, A1' a → ¬ w.Z a) → (∀ a j, A1' a → w.F j a → A1 a) → (∀ a, A1' a → (∃ j, w0.F j a) ∨ w0.H a = none) →
        ∃ d', setP d qs d1' = some d' ∧ SR K pn ows (setS env i d') σ (w.slot i (fun a => (w.F i a ∧ ¬ A1 a) ∨ A1' a) H') ∧ Ext w0 (w.slot i (fun a => (w.F i a ∧ ¬ A1 a) ∨ A1' a) H') := by
  obtain ⟨v', v1', A1, h1, a1, a2, a3, a4⟩ := s.place e hg hd
  rw [hσ] at h1
  cases h1
  cases ha.det a1
  refine ⟨A1, a2, a3, fun {H' d1' A1'} kk dm rr hz hf hn => ?_⟩
  obtain ⟨d', s1, s2⟩ := a4 kk rr fun a h g => hf a i h g
  have hk : ∀ a q, ¬ w.F i a → w.H a = some q → H' a = some q := fun a q n e => kk a q (fun z => n (a3 a z)) e
  refine ⟨d', s1, s.slot hσ hk s2 (fun a z => ?_) (fun a j hj z g => ?_) hp, x0.slot hk dm fun a z => ?_⟩
  · rcases z with z | z
    · exact s.zf i a z.1
    · exact hz a z
  · rcases z with z | z
    · exact hj (s.apart j i a g z.1)
    · exact hj (s.apart j i a g (a3 a (hf a j z g)))
  · rcases z with z | z
    · exact x0.nw i a z.1
    · exact hn a z
theorem setPM_of {e : Env} {i : Nat} {qs : List D} {d y d' : D} (h1 : getS e i = some d) (h2 : setP d qs y = some d') : setPM i qs y e = .ok () (setS e i d') := by
  unfold setPM; rw [h1]; simp [h2]
theorem getPM_of {e : Env} {i : Nat} {qs : List D} {d d1 : D} (h1 : getS e i = some d) (h2 : getP d qs = some d1) : getPM i qs e = .ok d1 e := by
  unfold getPM; rw [h1]; simp [h2]
theorem getPM_inv {e : Env} {i : Nat} {qs : List D} : (∃ d d1, getS e i = some d ∧ getP d qs = some d1 ∧ getPM i qs e = .ok d1 e) ∨ getPM i qs e = .no := by
  unfold getPM
  cases h1 : getS e i with
  | none => exact .inr rfl
  | some d =>
    cases h2 : getP d qs with
    | none => exact .inr (by simp [h2])
    | some d1 => exact .inl ⟨d, d1, rfl, h2, by simp [h2]⟩
/-- the place of a method's receiver, typed -/
theorem ty_list {K : PySem.W.Frag} {H : Hp} {l : Addr} {xs : List V} (h : H l = some (.lst xs)) : tyV K "list" (.ref l) H := .inl ⟨rfl, _, SqL.of h⟩
theorem few1 {e : Expr} {env : PySem.Env} {cpos : Pos} (hs : noStar e = true) : ((backTo cpos (starEach [e] env)).all (fun x => !x.1) && (backToKw cpos (keywordEach [] env)).all (fun x => x.1.isSome)
      && decide (([e] : List Expr).length + ([] : List Keyword).length + (if ([] : List Keyword).isEmpty then 0 else 1) < 30)) = true := by
  rw [star_cons hs]; rfl
/-- no getattr of super() -/
def plainB : Expr → Bool
  | .Name _ _ => true
  | .Subscript _ _ _ => true
  | .List _ _ => true
  | .Constant _ _ _ => true
  | _ => false
theorem base_of {b : Expr} {name : Str} {env : PySem.Env} (h : plainB b = true) : attributeBase b name env (eval b env) = eval b env := by
  cases b <;> first | rfl | cases h
/-- one more item -/
theorem Items.snoc {R : D → V → AS → Prop} {ds : List D} {xs : List V} {B : AS} {G : Nat → AS} {d : D} {x : V} {A : AS} (I : Items R ds xs B G) (r : R d x A) (dis : ∀ a, A a → ¬ B a) :
    Items R (ds ++ [d]) (xs ++ [x]) (fun a => B a ∨ A a) (fun k a => if k = ds.length then A a else (k < ds.length ∧ G k a)) where
  len := by simp [I.len]
  at_ := fun k e y h1 h2 => by
    by_cases q : k < ds.length
    · rw [List.getElem?_append_left q] at h1
      rw [List.getElem?_append_left (by rw [I.len]; exact q)] at h2
      have e0 : (fun a => if k = ds.length then A a else (k < ds.length ∧ G k a)) = G k := by
        funext a
        rw [if_neg (by omega)]
        exact propext ⟨fun h => h.2, fun h => ⟨q, h⟩⟩
      rw [e0]
      exact I.at_ k e y h1 h2
    · rw [List.getElem?_append_right (by omega)] at h1
      rw [List.getElem?_append_right (by rw [I.len]; omega), I.len] at h2
      have hk : k = ds.length := by
        rcases Nat.lt_or_ge ds.length k with z | z
        · rw [List.getElem?_eq_none (by simp; omega)] at h1; cases h1
        · omega
      subst hk
      simp at h1 h2
      subst h1 h2
      have e0 : (fun a => if ds.length = ds.length then A a else (ds.length < ds.length ∧ G ds.length a)) = A := by funext a; simp
      rw [e0]
      exact r
  apart := fun j k b h1 h2 => by
    split at h1 <;> split at h2
    · omega
    · exact absurd ((I.some_ b).mpr ⟨k, h2⟩) (dis b h1)
    · exact absurd ((I.some_ b).mpr ⟨j, h1⟩) (dis b h2)
    · exact I.apart j k b h1.2 h2.2
  some_ := fun b => by
    rw [I.some_ b]
    constructor
    · rintro (⟨k, hk, g⟩ | h)
      · exact ⟨k, by rw [List.length_append]; omega, by rw [if_neg (by omega)]; exact ⟨hk, g⟩⟩
      · exact ⟨ds.length, by rw [List.length_append]; simp, by rw [if_pos rfl]; exact h⟩
    · rintro ⟨k, hk, g⟩
      split at g
      · exact .inr g
      · exact .inl ⟨k, g⟩
theorem Items.keep {K : PySem.W.Frag} {H H' : Hp} {Z Z' : AS} {o : Ow} {ds : List D} {xs : List V} {B : AS} {G : Nat → AS} (I : Items (RO K H Z o) ds xs B G) (kz : ∀ a, Z a → Z' a) (k : ∀ a q, H a = some q → (Z a ∨ B a ∨ mutO q = false) → H' a = some q) : Items (RO K H' Z' o) ds xs B G :=
  ⟨I.len, fun j d x e1 e2 => (I.at_ j d x e1 e2).keep kz fun a q e z => k a q e (by
    rcases z with z | z | z
    · exact .inl z
    · exact .inr (.inl ((I.some_ a).mpr ⟨j, (List.getElem?_eq_some_iff.mp e1).1, z⟩))
    · exact .inr (.inr z)), I.apart, I.some_⟩
/-- the list at a is written anew -/
theorem kp_upd {w : Wd} {a : Addr} {o' : HO} {A1 : AS} (ha : A1 a) : (∀ b q, ¬ A1 b → w.H b = some q → L2.upd w.H a o' b = some q) ∧ ∀ b, w.H b ≠ none → L2.upd w.H a o' b ≠ none :=
  ⟨fun b q n e => by rw [upd_ne (fun z => n (by subst z; exact ha))]; exact e, fun b n => by
    by_cases z : b = a
    · subst z; rw [upd_same]; simp
    · rw [upd_ne z]; exact n⟩
/-- before the arguments: the receiver is there -/
theorem mu_head {m : MU} {i : Nat} {ps es : List (M D × M Bool)} {env : Env} {P : R D → Prop} (z : P (muM m i ps es env)) (hno : ¬ P .no) : (∃ n e, evs ps env = .ex n e ∧ P (.ex n e)) ∨
    ∃ qs env0 d d1, evs ps env = .ok qs env0 ∧ getS env0 i = some d ∧ getP d qs = some d1 ∧ muOk m d1 = true ∧ P ((M.bind (evs es) fun ds => M.bind (getPM i qs) fun d => match muF m d ds with
      | some (d', y) => M.bind (setPM i qs d') fun _ => M.ret y
      | none => fun _ => .no) env0) := by
  unfold muM M.bind at z
  cases e0 : evs ps env with
  | no => rw [e0] at z; exact absurd z hno
  | ex n env0 => rw [e0] at z; exact .inl ⟨n, env0, rfl, z⟩
  | ok qs env0 =>
    rw [e0] at z
    simp only at z
    obtain ⟨d, d1, g1, g2, g3⟩ | g3 := getPM_inv (e := env0) (i := i) (qs := qs)
    · rw [g3] at z
      simp only at z
      by_cases hm : muOk m d1 = false
      · rw [if_pos hm] at z; exact absurd z hno
      · rw [if_neg hm] at z
        exact .inr ⟨qs, env0, d, d1, rfl, g1, g2, by simpa using hm, z⟩
    · rw [g3] at z; exact absurd z hno
/-- behind the arguments: the change -/
theorem mu_tail {m : MU} {i : Nat} {qs ds : List D} {env : Env} {P : R D → Prop} (z : P ((M.bind (getPM i qs) fun d => match muF m d ds with
      | some (d', y) => M.bind (setPM i qs d') fun _ => M.ret y
      | none => fun _ => .no) env)) (hno : ¬ P .no) : ∃ d d1 d1' y, getS env i = some d ∧ getP d qs = some d1 ∧ muF m d1 ds = some (d1', y) ∧ ∀ d', setP d qs d1' = some d' → P (.ok y (setS env i d')) := by
  unfold M.bind at z
  obtain ⟨d, d1, g1, g2, g3⟩ | g3 := getPM_inv (e := env) (i := i) (qs := qs)
  · rw [g3] at z
    simp only at z
    cases e : muF m d1 ds with
    | none => rw [e] at z; exact absurd z hno
    | some p =>
      rw [e] at z
      refine ⟨d, d1, p.1, p.2, g1, g2, e, fun d' h => ?_⟩
      simp only at z
      rw [setPM_of g1 h] at z
      exact z
  · rw [g3] at z; exact absurd z hno
theorem At.same {H H' : Hp} {v v1 : V} {qs : List D} {n : Nat} (h : At H v qs v1) (hn : qs.length = n) (k : n = 0 ∨ ∀ a q, H a = some q → H' a = some q) : At H' v qs v1 := by
  rcases k with k | k
  · subst k
    cases qs with
    | nil => exact h
    | cons => simp at hn
  · exact h.mono k
/-- x[..].append(e) -/
theorem pv_append {i : Nat} {b : Expr} {ps : List (M D × M Bool)} {fe : M D × M Bool} {apos cpos : Pos} {n : Nat} (hb : PE X b (tPl c i (evs ps) ows)) (hpb : plainB b = true) (hline : (apos.endLine == cpos.line) = true) (hpl : ∀ e r e', evs ps e = .ok r e' → r.length = n) (hpu : Pure (evs ps))
    (hs : noStar e = true) (he : PE X e (tV c fe.1 ows ows' (oAt (owAt ows i) (n + 1)) q)) (hd : deepO (owAt ows i) n = true) (ho' : owAt ows' i = owAt ows i) (hq : n = 0 ∨ q = true) (hp : ∀ p, c.pn i = some p → p.2 = none) :
    PE X (.Call (.Attribute b "append" apos) [e] [] cpos) (tV c (muM .append i ps [fe]) ows ows' .fr false) := by
  refine wPE (pe_bm PySem.F.plainAttrs_list PySem.F.slot_list_append PySem.F.type_list_append mt_append hb (pa_cons he pa_nil (star_cons hs)) (base_of hpb) (few1 hs) hline (star_cons hs) rfl) fun σ H Q ⟨w, env, hw, sr, z⟩ => ?_
  subst hw
  refine ⟨w, env, rfl, sr, ?_⟩
  rcases mu_head (P := fun r => match r with
    | .ok d env' => ∀ w' v A, Ext w w' → SR c.K c.pn ows' env' σ w' → RO c.K w'.H w'.Z .fr d v A → Tmp w w' A → (false = true → Quiet w w') → Q v w'.H
    | .ex n env' => exK c σ w n env'
    | .no => False) z (fun h => h) with ⟨m, e1, h1, h2⟩ | ⟨qs, env0, d, d1, h1, g1, g2, hm, z5⟩
  · rw [h1]; exact h2
  clear z
  rw [h1]
  have he0 := hpu _ _ _ h1
  subst he0
  refine ⟨rfl, d, d1, g1, g2, fun w1 v v1 x1 k1 s1 hσ at1 => ?_⟩
  have hqn := hpl _ _ _ h1
  subst hqn
  obtain ⟨o', eo, eo'⟩ := oAt_snoc hd
  obtain ⟨v', v1', A1, p1, p2, p3, _⟩ := s1.place g1 g2 hd
  rw [hσ] at p1
  cases p1
  cases at1.det p2
  rw [eo] at p3
  have hl : ∃ ds, d1 = .lst ds := by cases d1 <;> simp [muOk] at hm; exact ⟨_, rfl⟩
  obtain ⟨ds, rfl⟩ := hl
  obtain ⟨l, xs, rfl, hl1, _⟩ := p3.lst
  refine ⟨ty_list hl1, ?_⟩
  refine ⟨w1, env0, rfl, s1, ?_⟩
  have z := z5
  simp only [evs, M.bind, M.ret] at z
  cases e2 : fe.1 env0 with
  | no => rw [e2] at z; exact z
  | ex m env2 => rw [e2] at z; exact exK.mono x1 z
  | ok y env2 =>
    rw [e2] at z
    intro w2 vy Ay x2 s2 r2 t2 k2
    obtain ⟨d', d1', d1'', yy, q1, q2, q3, q4⟩ := mu_tail (P := fun r => match r with
      | .ok d env' => ∀ w' v A, Ext w w' → SR c.K c.pn ows' env' σ w' → RO c.K w'.H w'.Z .fr d v A → Tmp w w' A → (false = true → Quiet w w') → Q v w'.H
      | .ex n env' => exK c σ w n env'
      | .no => False) z (fun h => h)
    cases d1' <;> simp only [muF, reduceCtorEq] at q3
    rename_i ds2
    split at q3
    · rename_i hlen
      cases q3
      have hd2 : deepO (owAt ows' i) qs.length = true := by rw [ho']; exact hd
      obtain ⟨A2, r3, a3, a4⟩ := mut_step s2 q1 q2 hd2 hp (x1.trans x2) hσ (at1.same rfl (hq.imp id fun h => k2 h))
      rw [ho', eo] at r3
      obtain ⟨l', zs, B, G, el, hl2, I, nb, hA⟩ := r3
      cases el
      have hlF : A2 l := (hA l).mpr (.inl rfl)
      rw [eo'] at r2
      have kp := kp_upd (w := w2) (o' := .lst (zs ++ [vy])) (A1 := A2) hlF
      have ne : ∀ b q, w2.H b = some q → (w2.Z b ∨ B b ∨ mutO q = false) → L2.upd w2.H l (.lst (zs ++ [vy])) b = some q := fun b q e z => by
        rw [upd_ne]
        · exact e
        · rintro rfl
          rcases z with z | z | z
          · exact s2.zf i b (a3 b hlF) z
          · exact nb z
          · rw [hl2] at e; cases e; cases z
      have I' := (I.keep (Z' := w2.Z) (fun _ z => z) ne).snoc (d := y) (x := vy) (A := Ay) (r2.keep (fun _ z => z) fun b q e z => by
        rw [upd_ne]
        · exact e
        · rintro rfl
          rcases z with z | z | z
          · exact s2.zf i b (a3 b hlF) z
          · exact t2.f b i z (a3 b hlF)
          · rw [hl2] at e; cases e; cases z) (fun b h1 h2 => t2.f b i h1 (a3 b ((hA b).mpr (.inr h2))))
      obtain ⟨d3, f1, f2, f3⟩ := a4 (d1' := .lst (ds2 ++ [y])) (A1' := fun b => A2 b ∨ Ay b) kp.1 kp.2 (by
        rw [ho', eo]
        exact ⟨l, zs ++ [vy], _, _, rfl, upd_same, I', fun z => z.elim nb fun z => t2.f l i z (a3 l hlF), fun b => by show (A2 b ∨ Ay b) ↔ _; rw [hA b]; exact or_assoc⟩) (fun b z => z.elim (fun z => s2.zf i b (a3 b z)) fun z => t2.z b z)
        (fun b j z g => z.elim id fun z => absurd g (t2.f b j z)) fun b z => z.elim (fun z => (x1.trans x2).nw i b (a3 b z)) fun z => (t2.pre x1).nw b z
      refine ⟨l, zs, vy, rfl, rfl, hl2, by rw [I.len, ← sz_eq]; exact hlen, ?_⟩
      exact q4 d3 f1 _ _ _ f3 f2 RO.mknon Tmp.nil fun h => nomatch h
    · cases q3
end
end Mp
/-! Mp10: statements. -/
namespace Mp
open PySem PySem.Spec PyProof.Rows L2

/-- the weaker of both -/
def wk : Option Ows → Option Ows → Bool
  | none, _ => true
  | some a, some b => weakB 0 a b
  | some _, none => false
section
variable {K : PySem.W.Frag} {pn : Pin} {env : Env} {σ : L2.St} {w : Wd}
theorem SRq.weak {a b : Option Ows} (h : wk a b = true) (s : SRq K pn a env σ w) : ∃ w', Ext w w' ∧ w'.H = w.H ∧ SRq K pn b env σ w' := by
  obtain ⟨o, rfl, s⟩ := s
  cases b with
  | none => cases h
  | some b =>
    obtain ⟨w', e, eh, s'⟩ := s.weak h
    exact ⟨w', e, eh, b, rfl, s'⟩
end
section
variable {X : Cx} {c : Cc} {f : M D} {ows ows1 ows2 ows' : Ows} {o o1 o2 : Ow} {q q1 q2 : Bool} {e pe : Expr} {st : Stmt} {sts : List Stmt} {fs gs : M Fl} {onx obk oct onx' obk' oct' : Option Ows} {pos : Pos}
/-- what tS asks of an outcome -/
def tSz (c : Cc) (w : Wd) (σ : L2.St) (D : Ends) (onx obk oct : Option Ows) : R Fl → Prop
  | .ok .nx env' => ∀ w' σ', Ext w w' → SRq c.K c.pn onx env' σ' w' → D.nx σ' w'.H
  | .ok .bk env' => ∀ w' σ', Ext w w' → SRq c.K c.pn obk env' σ' w' → D.bk σ' w'.H
  | .ok .ct env' => ∀ w' σ', Ext w w' → SRq c.K c.pn oct env' σ' w' → D.ct σ' w'.H
  | .ok (.rt d) env' => ∀ w' σ' v A, Ext w w' → SR c.K c.pn c.r env' σ' w' → RO c.K w'.H w'.Z c.ro d v A → Tmp w w' A → D.rt v w'.H
  | .ex n env' => ∀ w' σ', Ext w w' → SR c.K c.pn c.x env' σ' w' → c.W (.ref (He.ga c.K n)) none σ' w'.H
  | .no => False
theorem tS_iff {D : Ends} {σ : L2.St} {H : Hp} : tS c fs ows onx obk oct D σ H ↔ ∃ w env, w.H = H ∧ SR c.K c.pn ows env σ w ∧ tSz c w σ D onx obk oct (fs env) := by
  unfold tS tSz
  constructor
  · rintro ⟨w, env, h1, h2, h3⟩
    refine ⟨w, env, h1, h2, ?_⟩
    cases e : fs env with
    | no => rw [e] at h3; exact h3
    | ex => rw [e] at h3; exact h3
    | ok r => cases r <;> (rw [e] at h3; exact h3)
  · rintro ⟨w, env, h1, h2, h3⟩
    refine ⟨w, env, h1, h2, ?_⟩
    cases e : fs env with
    | no => rw [e] at h3; exact h3
    | ex => rw [e] at h3; exact h3
    | ok r => cases r <;> (rw [e] at h3; exact h3)
/-- the outcome seen from an earlier state -/
theorem tSz.pre {D : Ends} {w w1 : Wd} {σ σ1 : L2.St} {r : R Fl} (x : Ext w w1) (h : tSz c w σ D onx obk oct r) : tSz c w1 σ1 D onx obk oct r := by
  cases r with
  | no => exact h
  | ex n e => exact fun w' σ' x' s => h w' σ' (x.trans x') s
  | ok r e =>
    cases r with
    | nx => exact fun w' σ' x' s => h w' σ' (x.trans x') s
    | bk => exact fun w' σ' x' s => h w' σ' (x.trans x') s
    | ct => exact fun w' σ' x' s => h w' σ' (x.trans x') s
    | rt d => exact fun w' σ' v A x' s ro t => h w' σ' v A (x.trans x') s ro (t.pre x)
/-- weaker states behind -/
theorem tSz.weak {D : Ends} {w : Wd} {σ : L2.St} {r : R Fl} (h1 : wk onx onx' = true) (h2 : wk obk obk' = true) (h3 : wk oct oct' = true) (h : tSz c w σ D onx' obk' oct' r) : tSz c w σ D onx obk oct r := by
  cases r with
  | no => exact h
  | ex n e => exact h
  | ok r e =>
    cases r with
    | nx =>
      intro w' σ' x s
      obtain ⟨w2, x2, eh, s2⟩ := s.weak h1
      have := h w2 σ' (x.trans x2) s2
      rw [eh] at this; exact this
    | bk =>
      intro w' σ' x s
      obtain ⟨w2, x2, eh, s2⟩ := s.weak h2
      have := h w2 σ' (x.trans x2) s2
      rw [eh] at this; exact this
    | ct =>
      intro w' σ' x s
      obtain ⟨w2, x2, eh, s2⟩ := s.weak h3
      have := h w2 σ' (x.trans x2) s2
      rw [eh] at this; exact this
    | rt d => exact h
theorem PS.weaken (h : PS X st (tS c fs ows onx obk oct)) (h1 : wk onx onx' = true) (h2 : wk obk obk' = true) (h3 : wk oct oct' = true) : PS X st (tS c fs ows onx' obk' oct') := wPS h fun D σ H z => by
  obtain ⟨w, env, a, b, z⟩ := tS_iff.mp z
  exact tS_iff.mpr ⟨w, env, a, b, z.weak h1 h2 h3⟩
theorem PSs.weaken (h : PSs X sts (tS c fs ows onx obk oct)) (h1 : wk onx onx' = true) (h2 : wk obk obk' = true) (h3 : wk oct oct' = true) : PSs X sts (tS c fs ows onx' obk' oct') := wPSs h fun D σ H z => by
  obtain ⟨w, env, a, b, z⟩ := tS_iff.mp z
  exact tS_iff.mpr ⟨w, env, a, b, z.weak h1 h2 h3⟩
/-- a weaker state ahead -/
theorem tS.ahead {D : Ends} {σ : L2.St} {H : Hp} (h : weakB 0 ows ows1 = true) (z : tS c fs ows onx obk oct D σ H) : tS c fs ows1 onx obk oct D σ H := by
  obtain ⟨w, env, a, b, z⟩ := tS_iff.mp z
  obtain ⟨w', x, eh, s⟩ := b.weak h
  exact tS_iff.mpr ⟨w', env, eh.trans a, s, z.pre x⟩
theorem PSs.ahead (h : PSs X sts (tS c fs ows1 onx obk oct)) (hw : weakB 0 ows ows1 = true) : PSs X sts (tS c fs ows onx obk oct) := wPSs h fun D σ H z => z.ahead hw

/-! ### blocks -/
theorem pss_nil' : PSs X [] (tS c (M.ret .nx) ows (some ows) none none) := wPSs pss_nil fun D σ H ⟨w, env, hw, sr, z⟩ => by
  subst hw
  exact z w σ Ext.refl ⟨_, rfl, sr⟩
theorem pss_cons' {onx1 : Ows} (h1 : PS X st (tS c fs ows (some onx1) obk oct)) (h2 : PSs X sts (tS c gs onx1 onx obk oct)) : PSs X (st :: sts) (tS c (seqM fs gs) ows onx obk oct) := wPSs (pss_cons h1 h2) fun D σ H z => by
  obtain ⟨w, env, hw, sr, z⟩ := tS_iff.mp z
  refine tS_iff.mpr ⟨w, env, hw, sr, ?_⟩
  unfold seqM M.bind at z
  cases e : fs env with
  | no => rw [e] at z; exact z
  | ex n e1 => rw [e] at z; exact z
  | ok r e1 =>
    rw [e] at z
    cases r with
    | nx =>
      rintro w1 σ1 x1 ⟨o1, h, s1⟩
      cases h
      exact tS_iff.mpr ⟨w1, e1, rfl, s1, z.pre x1⟩
    | bk => exact z
    | ct => exact z
    | rt d => exact z
/-- what stands behind a return is never reached -/
theorem pss_stop (h1 : PS X st (tS c fs ows none obk oct)) : PSs X (st :: sts) (tS c (seqM fs gs) ows none obk oct) := wPSs (pss_cons h1 (pss_never (sts := sts))) fun D σ H z => by
  obtain ⟨w, env, hw, sr, z⟩ := tS_iff.mp z
  refine tS_iff.mpr ⟨w, env, hw, sr, ?_⟩
  unfold seqM M.bind at z
  cases e : fs env with
  | no => rw [e] at z; exact z
  | ex n e1 => rw [e] at z; exact z
  | ok r e1 =>
    rw [e] at z
    cases r with
    | nx =>
      rintro w1 σ1 x1 ⟨o1, h, s1⟩
      cases h
    | bk => exact z
    | ct => exact z
    | rt d => exact z

/-! ### small statements -/
def noComp : Expr → Bool
  | .ListComp _ _ _ _ => false
  | .SetComp _ _ _ _ => false
  | .DictComp _ _ _ _ _ => false
  | _ => true
theorem swaps_no {e : Expr} {t : Option Expr} {n : Nat} {env : PySem.Env} (h : noComp e = true) : swapsWith e t n env = pure false := by
  cases e <;> first | rfl | cases h
theorem ps_setM {i : Nat} {x : Str} {px : Pos} (hN : X.N.Nodup) (hi : X.N[i]? = some x) (hx : Loc X.env.scope x) (hf : X.fn x = true ∨ X.env.scope.names.lookup x = some .local) (hp : c.pn i = none) (hl : i < ows'.length) (hc : noComp e = true) (he : PE X e (tV c f ows ows' o q)) :
    PS X (.Assign [.Name x px] e pos) (tS c (M.bind f fun d => fun s => .ok .nx (setS s i d)) ows (some (ows'.set i o)) none none) := by
  refine wPS (ps_set hN hi hx he (swaps_no hc) hf) fun D σ H ⟨w, env, hw, sr, z⟩ => ⟨w, env, hw, sr, ?_⟩
  unfold M.bind at z
  cases e1 : f env with
  | no => rw [e1] at z; exact z
  | ex n env1 => rw [e1] at z; exact fun w' x s => z w' σ x s
  | ok d env1 =>
    rw [e1] at z
    intro w1 v A x1 s1 r1 t1 k1
    exact z (w1.put i A) _ (Ext.put x1 t1) ⟨_, rfl, s1.put i hp (fun j hj => owAt_set hj) (owAt_self' hl) r1 t1.z t1.f⟩
theorem ps_exM (hc : noComp e = true) (he : PE X e (tR c f ows ows' o q)) : PS X (.Expr e pos) (tS c (M.bind f fun _ => M.ret .nx) ows (some ows') none none) := by
  refine wPS (ps_expr he (swaps_no hc)) fun D σ H ⟨w, env, hw, sr, z⟩ => ⟨w, env, hw, sr, ?_⟩
  unfold M.bind at z
  cases e1 : f env with
  | no => rw [e1] at z; exact z
  | ex n env1 => rw [e1] at z; exact fun w' x s => z w' σ x s
  | ok d env1 =>
    rw [e1] at z
    intro w1 v A x1 s1 r1 k1
    exact z w1 σ x1 ⟨_, rfl, s1⟩
theorem ps_passM : PS X (.Pass pos) (tS c (M.ret .nx) ows (some ows) none none) := wPS ps_pass fun D σ H ⟨w, env, hw, sr, z⟩ => by
  subst hw; exact z w σ Ext.refl ⟨_, rfl, sr⟩
theorem ps_brkM : PS X (.Break pos) (tS c (M.ret .bk) ows none (some ows) none) := wPS ps_break fun D σ H ⟨w, env, hw, sr, z⟩ => by
  subst hw; exact z w σ Ext.refl ⟨_, rfl, sr⟩
theorem ps_contM : PS X (.Continue pos) (tS c (M.ret .ct) ows none none (some ows)) := wPS ps_continue fun D σ H ⟨w, env, hw, sr, z⟩ => by
  subst hw; exact z w σ Ext.refl ⟨_, rfl, sr⟩
theorem ps_docM {x : Str} {j : Nat} {p2 : Pos} : PS X (.Expr (.Constant (.str x) j p2) pos) (tS c (M.ret .nx) ows (some ows) none none) := wPS ps_doc fun D σ H ⟨w, env, hw, sr, z⟩ => by
  subst hw; exact z w σ Ext.refl ⟨_, rfl, sr⟩
theorem ps_retM (hr : weakB 0 ows' c.r = true) (he : PE X e (tV c f ows ows' c.ro q)) : PS X (.Return (some e) pos) (tS c (M.bind f fun d => M.ret (.rt d)) ows none none none) := by
  refine wPS (ps_ret he) fun D σ H ⟨w, env, hw, sr, z⟩ => ⟨w, env, hw, sr, ?_⟩
  unfold M.bind at z
  cases e1 : f env with
  | no => rw [e1] at z; exact z
  | ex n env1 => rw [e1] at z; exact fun w' x s => z w' σ x s
  | ok d env1 =>
    rw [e1] at z
    intro w1 v A x1 s1 r1 t1 k1
    obtain ⟨w2, x2, eh, s2⟩ := s1.weak hr
    have := z w2 σ v A (x1.trans x2) s2 (RO.ext s1 t1.f x2 r1) (Tmp.ext s1 t1 (fun a ha => r1.ne a ha) x1 x2)
    rw [eh] at this
    exact this
theorem ps_retNM (hr : weakB 0 ows c.r = true) : PS X (.Return none pos) (tS c (M.ret (.rt .non)) ows none none none) := by
  refine wPS ps_retN fun D σ H ⟨w, env, hw, sr, z⟩ => ?_
  subst hw
  obtain ⟨w2, x2, eh, s2⟩ := sr.weak hr
  have := z w2 σ .non (fun _ => False) x2 s2 RO.mknon Tmp.nil
  rw [eh] at this
  exact this
theorem ps_ifsM {ce : Expr} {a b : List Stmt} {fc : M Bool} (hc : PT X ce (tB_ c fc ows ows1 q)) (ha : PSs X a (tS c fs ows1 onx obk oct)) (hb : PSs X b (tS c gs ows1 onx obk oct)) :
    PS X (.If ce a b pos) (tS c (M.bind fc fun k => if k = true then fs else gs) ows onx obk oct) := by
  refine wPS (ps_if hc ha hb) fun D σ H z => ?_
  obtain ⟨w, env, hw, sr, z⟩ := tS_iff.mp z
  refine ⟨w, env, hw, sr, ?_⟩
  unfold M.bind at z
  cases e1 : fc env with
  | no => rw [e1] at z; exact z
  | ex n env1 => rw [e1] at z; exact fun w' x s => z w' σ x s
  | ok k env1 =>
    rw [e1] at z
    intro w1 x1 s1 k1
    cases k with
    | true =>
      rw [if_pos rfl]
      exact tS_iff.mpr ⟨w1, env1, rfl, s1, z.pre x1⟩
    | false =>
      rw [if_neg Bool.false_ne_true]
      exact tS_iff.mpr ⟨w1, env1, rfl, s1, z.pre x1⟩

/-! ### targets -/
/-- the slots are nobody's own any more -/
def frs : Ows → List Nat → Ows
  | o, [] => o
  | o, i :: is => frs (o.set i .fr) is
/-- the same but at these slots -/
def Same (is : List Nat) (σ σ' : L2.St) : Prop := σ'.length = σ.length ∧ ∀ j, j ∉ is → σ'[j]? = σ[j]?
theorem Same.refl {is : List Nat} {σ : L2.St} : Same is σ σ := ⟨rfl, fun _ _ => rfl⟩
theorem Same.set {i : Nat} {is : List Nat} {σ σ' : L2.St} {v : Option V} (h : Same is (σ.set i v) σ') : Same (i :: is) σ σ' := ⟨by rw [h.1, List.length_set], fun j hj => by
  rw [List.mem_cons, not_or] at hj
  rw [h.2 j hj.2, List.getElem?_set_ne (Ne.symm hj.1)]⟩
def tgN (c : Cc) (is : List Nat) (ows : Ows) : TGs := fun vs σ H Q => ∃ w env ds, w.H = H ∧ SR c.K c.pn ows env σ w ∧ Reps c.K w.H w.Z ds vs ∧ is.length = ds.length ∧ ∀ w' σ', Ext w w' → SR c.K c.pn (frs ows is) ((is.zip ds).foldl (fun e p => setS e p.1 p.2) env) σ' w' → Same is σ σ' → w'.H = w.H → Q σ' w'.H
def vName : Expr → Option Str
  | .Name x _ => some x
  | _ => none
theorem vName_eq {e : Expr} {x : Str} (h : vName e = some x) : ∃ p, e = .Name x p := by
  unfold vName at h
  split at h
  · cases h; exact ⟨_, rfl⟩
  · cases h
/-- names that may be stored -/
def LocB (X : Cx) (lc : Str → Bool) : Prop := ∀ x, lc x = true → Loc X.env.scope x ∧ (X.fn x = true ∨ X.env.scope.names.lookup x = some .local)
/-- the names of a target -/
def nmsOk (N : List Str) (lc : Str → Bool) (pn : Nat → Bool) : List Nat → List Expr → Bool
  | [], [] => true
  | i :: is, e :: es => (match vName e with
    | some x => decide (N[i]? = some x) && lc x && !pn i
    | none => false) && nmsOk N lc pn is es
  | _, _ => false
theorem SR.bind {K : PySem.W.Frag} {pn : Pin} {env : Env} {σ : L2.St} {w : Wd} {i : Nat} {d : D} {v : V} (s : SR K pn ows env σ w) (r : Rep K w.H w.Z d v) (hp : pn i = none) : SR K pn (ows.set i .fr) (setS env i d) (σ.set i (some v)) (w.put i fun _ => False) :=
  s.put (o := .fr) i hp (fun j hj => owAt_set hj) owAt_self ⟨r, fun _ z => z⟩ (fun _ z => z.elim) (fun _ _ z => z.elim)
theorem Ext.bind {w : Wd} {i : Nat} : Ext w (w.put i fun _ => False) := Ext.refl.put Tmp.nil
theorem pgs_nms {lc : Str → Bool} {pn : Nat → Bool} (hlc : LocB X lc) (hN : X.N.Nodup) (hpn : ∀ i, pn i = false → c.pn i = none) : ∀ {is : List Nat} {es : List Expr} {ows : Ows}, nmsOk X.N lc pn is es = true → PGs X es (tgN c is ows)
  | [], [], ows, _ => ⟨fun pins s σ H vs us Q I r ⟨w, env, ds, hw, sr, rp, hl, z⟩ => pgs_nil.run pins s σ H vs us Q I r (by
      have : ds = [] := List.eq_nil_of_length_eq_zero hl.symm
      subst this
      unfold Reps at rp
      subst hw
      exact ⟨rp, z w σ Ext.refl sr Same.refl rfl⟩)⟩
  | i :: is, e :: es, ows, h => by
    simp only [nmsOk, Bool.and_eq_true] at h
    obtain ⟨h0, h4⟩ := h
    cases hv : vName e with
    | none => rw [hv] at h0; cases h0
    | some x =>
      rw [hv] at h0
      simp only [Bool.and_eq_true, decide_eq_true_eq, Bool.not_eq_true'] at h0
      obtain ⟨⟨h1, h2⟩, h3⟩ := h0
      obtain ⟨px, rfl⟩ := vName_eq hv
      have ih := pgs_nms hlc hN hpn (ows := ows.set i .fr) h4
      refine ⟨fun pins s σ H vs us Q I r ⟨w, env, ds, hw, sr, rp, hl, z⟩ => (pgs_cons (pg_name hN h1 (hlc _ h2).1 (hlc _ h2).2) ih).run pins s σ H vs us Q I r ?_⟩
      cases ds with
      | nil => simp at hl
      | cons d ds =>
        unfold Reps at rp
        obtain ⟨v, vr, rfl, r1, r2⟩ := rp
        subst hw
        refine ⟨v, vr, rfl, w.put i (fun _ => False), setS env i d, ds, rfl, sr.bind r1 (hpn i h3), Reps.mono (fun _ z => z) (fun _ _ e _ => e) r2, by simpa using hl, fun w' σ' x s' sm hh => ?_⟩
        exact z w' σ' (Ext.bind.trans x) s' sm.set hh
  | [], _ :: _, _, h => by simp [nmsOk] at h
  | i :: is, [], _, h => by simp [nmsOk] at h
/-- a target gets frozen data -/
def tgT (c : Cc) (t : T) (ows : Ows) : TG := fun v σ H Q => ∃ w env d, w.H = H ∧ SR c.K c.pn ows env σ w ∧ Rep c.K w.H w.Z d v ∧ match asg t d env with
  | some env' => ∀ w' σ', Ext w w' → SR c.K c.pn (frs ows t.slots) env' σ' w' → Same t.slots σ σ' → w'.H = w.H → Q σ' w'.H
  | none => False
theorem assignEach_len {es : List Expr} {env : PySem.Env} : (assignEach es env).length = es.length := by
  induction es with
  | nil => rfl
  | cons e es ih => cases e <;> simp only [assignEach, List.length_cons, ih]
theorem nms_len {N : List Str} {lc : Str → Bool} {pn : Nat → Bool} : ∀ {is : List Nat} {es : List Expr}, nmsOk N lc pn is es = true → is.length = es.length
  | [], [], _ => rfl
  | i :: is, e :: es, h => by
    simp only [nmsOk, Bool.and_eq_true] at h
    simp [nms_len h.2]
  | [], _ :: _, h => by simp [nmsOk] at h
  | _ :: _, [], h => by simp [nmsOk] at h
theorem nms_star {N : List Str} {lc : Str → Bool} {pn : Nat → Bool} {env : PySem.Env} : ∀ {is : List Nat} {es : List Expr}, nmsOk N lc pn is es = true → (assignEach es env).findIdx? (·.1) = none
  | [], [], _ => rfl
  | i :: is, e :: es, h => by
    simp only [nmsOk, Bool.and_eq_true] at h
    obtain ⟨h0, h4⟩ := h
    cases hv : vName e with
    | none => rw [hv] at h0; cases h0
    | some x =>
      obtain ⟨px, rfl⟩ := vName_eq hv
      show ((false, assign (.Name x px) env) :: assignEach es env).findIdx? (·.1) = none
      rw [List.findIdx?_cons]
      simp [nms_star h4]
  | [], _ :: _, h => by simp [nmsOk] at h
  | _ :: _, [], h => by simp [nmsOk] at h
def vTup : Expr → Option (List Expr)
  | .Tuple es _ _ => some es
  | _ => none
theorem vTup_eq {e : Expr} {x : List Expr} (h : vTup e = some x) : ∃ k p, e = .Tuple x k p := by
  unfold vTup at h
  split at h
  · cases h; exact ⟨_, _, rfl⟩
  · cases h
/-- the target of the text is this one -/
def tgOk (N : List Str) (lc : Str → Bool) (pn : Nat → Bool) : T → Expr → Bool
  | .nm i, e => nmsOk N lc pn [i] [e]
  | .tp is, e => match vTup e with
    | some es => nmsOk N lc pn is es
    | none => false
theorem pg_tg {lc : Str → Bool} {pn : Nat → Bool} (hlc : LocB X lc) (hc : X.calm = true) (hK : X.K = c.K) (hN : X.N.Nodup) (hpn : ∀ i, pn i = false → c.pn i = none) {t : T} {e : Expr} {ows : Ows} (h : tgOk X.N lc pn t e = true) : PG X e (tgT c t ows) := by
  cases t with
  | nm i =>
    simp only [tgOk, nmsOk, Bool.and_eq_true] at h
    obtain ⟨h0, h4⟩ := h
    cases hv : vName e with
    | none => rw [hv] at h0; cases h0
    | some x =>
      rw [hv] at h0
      simp only [Bool.and_eq_true, decide_eq_true_eq, Bool.not_eq_true'] at h0
      obtain ⟨⟨h1, h2⟩, h3⟩ := h0
      obtain ⟨px, rfl⟩ := vName_eq hv
      refine ⟨fun pins s σ H v u Q I r ⟨w, env, d, hw, sr, rp, z⟩ => (pg_name hN h1 (hlc _ h2).1 (hlc _ h2).2).run pins s σ H v u Q I r ?_⟩
      subst hw
      exact z (w.put i fun _ => False) _ Ext.bind (sr.bind rp (hpn i h3)) (Same.set Same.refl) rfl
  | tp is =>
    simp only [tgOk] at h
    cases hv : vTup e with
    | none => rw [hv] at h; cases h
    | some es =>
      rw [hv] at h
      obtain ⟨k, p, rfl⟩ := vTup_eq hv
      refine ⟨fun pins s σ H v u Q I r ⟨w, env, d, hw, sr, rp, z⟩ => (pg_tup hc (pgs_nms (c := c) hlc hN hpn (ows := ows) h) (assignEach_len) (nms_star h)).run pins s σ H v u Q I r ?_⟩
      cases d with
      | tup ds =>
        unfold Rep at rp
        obtain ⟨a, xs, rfl, h1, h2⟩ := rp
        simp only [asg] at z
        by_cases hl : is.length = ds.length
        · rw [if_pos hl] at z
          refine ⟨a, xs, rfl, ?_, ?_, w, env, ds, hw, sr, h2, hl, z⟩
          · rw [hK, ← hw]; exact h1
          · rw [h2.len, ← hl, nms_len h]
        · rw [if_neg hl] at z; exact z.elim
      | _ => exact z.elim

/-! ### while -/
theorem ps_whileM {ce : Expr} {body : List Stmt} {fc : M Bool} {oh : Ows} (hp : PassesOwn (model X.prog X.w) X.A X.env X.xe) (hc : PT X ce (tB_ c fc oh ows1 q)) (hb : PSs X body (tS c fs ows1 onx obk oct)) (h0 : weakB 0 ows oh = true) (h1 : wk onx (some oh) = true) (h2 : wk oct (some oh) = true)
    {oj : Ows} (h3 : weakB 0 ows1 oj = true) (h4 : wk obk (some oj) = true) : PS X (.While ce body [] pos) (tS c (whileL fc fs FUEL) ows (some oj) none none) := by
  refine wPS (ps_while hp hc hb) fun D σ H z => ?_
  obtain ⟨w, env, hw, sr, z2⟩ := tS_iff.mp (z.ahead h0)
  clear z
  subst hw
  refine ⟨fun m σ' H' => ∃ w' env', w'.H = H' ∧ SR c.K c.pn oh env' σ' w' ∧ tSz c w' σ' D (some oj) none none (whileL fc fs m env'), ⟨FUEL, w, env, rfl, sr, z2⟩, ?_⟩
  rintro m σ1 H1 ⟨w1, env1, rfl, s1, z1⟩
  cases m with
  | zero => exact z1.elim
  | succ m =>
    refine ⟨w1, env1, rfl, s1, ?_⟩
    unfold whileL at z1
    cases e1 : fc env1 with
    | no => rw [e1] at z1; exact z1
    | ex n env2 => rw [e1] at z1; exact fun w' x s => z1 w' σ1 x s
    | ok k env2 =>
      rw [e1] at z1
      intro w2 x2 s2 k2
      cases k with
      | false =>
        rw [if_neg Bool.false_ne_true]
        obtain ⟨w3, x3, eh, s3⟩ := s2.weak h3
        have := z1 w3 σ1 (x2.trans x3) ⟨_, rfl, s3⟩
        rw [eh] at this; exact this
      | true =>
        rw [if_pos rfl]
        simp only at z1
        refine ⟨fun σ' H' => ∃ w' env', w'.H = H' ∧ SR c.K c.pn oh env' σ' w' ∧ tSz c w' σ' D (some oj) none none (whileL fc fs m env'), fun σ' H' hh => ⟨m, Nat.lt_succ_self m, hh⟩, ?_⟩
        refine tS_iff.mpr ⟨w2, env2, rfl, s2, ?_⟩
        cases e2 : fs env2 with
        | no => rw [e2] at z1; exact z1
        | ex n env3 => rw [e2] at z1; exact fun w' σ' x s => z1 w' σ' (x2.trans x) s
        | ok r env3 =>
          rw [e2] at z1
          cases r with
          | nx =>
            intro w3 σ3 x3 s3
            obtain ⟨w4, x4, eh, o4, h, s4⟩ := s3.weak h1
            cases h
            exact ⟨w4, env3, eh, s4, z1.pre ((x2.trans x3).trans x4)⟩
          | ct =>
            intro w3 σ3 x3 s3
            obtain ⟨w4, x4, eh, o4, h, s4⟩ := s3.weak h2
            cases h
            exact ⟨w4, env3, eh, s4, z1.pre ((x2.trans x3).trans x4)⟩
          | bk =>
            intro w3 σ3 x3 s3
            obtain ⟨w4, x4, eh, s4⟩ := s3.weak h4
            have := z1 w4 σ3 ((x2.trans x3).trans x4) s4
            rw [eh] at this; exact this
          | rt d => exact fun w' σ' v A x s ro t => z1 w' σ' v A (x2.trans x) s ro (t.pre x2)

/-! ### for -/
/-- the iterator yields these -/
def Src (c : Cc) (J : It) (ds : List D) (w0 : Wd) : Prop := ∀ (w : Wd) (ows : Ows) (env : Env) (σ : L2.St), Ext w0 w → SR c.K c.pn ows env σ w → ∀ k : Nat,
  (∀ d, ds[k]? = some d → J.go k w.H ∧ ∀ x H', J.yld k w.H x H' → ∃ w', w'.H = H' ∧ Alloc w w' (fun _ => False) ∧ Rep c.K w'.H w'.Z d x) ∧ (ds.length ≤ k → J.stop k w.H)
def tI (c : Cc) (f : M (List D)) (ows ows' : Ows) (qt : Bool) : TI := fun σ H R => ∃ w env, w.H = H ∧ SR c.K c.pn ows env σ w ∧ match f env with
  | .ok ds env' => ∀ w' J, Ext w w' → SR c.K c.pn ows' env' σ w' → Src c J ds w' → (qt = true → Quiet w w') → R J w'.H
  | .ex n env' => exK c σ w n env'
  | .no => False
theorem wPI {X : Cx} {tg e : Expr} {t t' : TI} (h : PI X tg e t) (k : ∀ σ H Q, t' σ H Q → t σ H Q) : PI X tg e t' := ⟨fun pins s σ H Q I q => h.run pins s σ H Q I (k σ H Q q)⟩
theorem ps_forM {t : T} {tg it : Expr} {body : List Stmt} {fi : M (List D)} {oh : Ows} (hp : PassesOwn (model X.prog X.w) X.A X.env X.xe) (hcm : X.calm = true) {qi : Bool} (hi : PI X tg it (tI c fi ows ows1 qi)) (hg : PG X tg (tgT c t oh)) (hb : PSs X body (tS c fs (frs oh t.slots) onx obk oct)) (hs : ∀ x, foldedSetIterable it X.env x = pure x)
    (h0 : weakB 0 ows1 oh = true) (h1 : wk onx (some oh) = true) (h2 : wk oct (some oh) = true) {oj : Ows} (h3 : weakB 0 oh oj = true) (h4 : wk obk (some oj) = true) :
    PS X (.For tg it body [] pos) (tS c (M.bind fi fun ds => forL (fun _ => true) t fs ds) ows (some oj) none none) := by
  refine wPS (ps_for hp hcm hi hg hb hs) fun D σ H z => ?_
  obtain ⟨w, env, hw, sr, z⟩ := tS_iff.mp z
  refine ⟨w, env, hw, sr, ?_⟩
  unfold M.bind at z
  cases e1 : fi env with
  | no => rw [e1] at z; exact z
  | ex n env1 => rw [e1] at z; exact fun w' x s => z w' σ x s
  | ok ds env1 =>
    rw [e1] at z
    intro w1 J x1 s1 src _
    obtain ⟨w2, x2, eh, s2⟩ := s1.weak h0
    rw [← eh]
    have z2 := z.pre (σ1 := σ) (x1.trans x2)
    refine ⟨fun i m σ' H' => m = ds.length - i ∧ i ≤ ds.length ∧ ∃ w' env', w'.H = H' ∧ Ext w1 w' ∧ SR c.K c.pn oh env' σ' w' ∧ tSz c w' σ' D (some oj) none none (forL (fun _ => true) t fs (ds.drop i) env'), ⟨_, rfl, Nat.zero_le _, w2, env1, rfl, x2, s2, z2⟩, ?_⟩
    rintro i m σ3 H3 ⟨rfl, hi3, w3, env3, rfl, x3, s3, z3⟩
    obtain ⟨sg, ss⟩ := src w3 oh env3 σ3 x3 s3 i
    by_cases hlt : i < ds.length
    · have hd : ds[i]? = some ds[i] := List.getElem?_eq_getElem hlt
      obtain ⟨g1, g2⟩ := sg _ hd
      refine .inr ⟨g1, fun σ' H' => ∃ w' env', w'.H = H' ∧ Ext w1 w' ∧ SR c.K c.pn oh env' σ' w' ∧ tSz c w' σ' D (some oj) none none (forL (fun _ => true) t fs (ds.drop (i + 1)) env'), fun σ' H' hh => ⟨ds.length - (i + 1), by omega, rfl, hlt, hh⟩, fun x H' y => ?_⟩
      obtain ⟨w4, rfl, al, rp⟩ := g2 x H' y
      rw [List.drop_eq_getElem_cons hlt] at z3
      simp only [forL, if_true] at z3
      refine ⟨w4, env3, ds[i], rfl, al.sr s3, rp, ?_⟩
      cases e2 : asg t ds[i] env3 with
      | none => rw [e2] at z3; exact z3
      | some env4 =>
        rw [e2] at z3
        simp only at z3 ⊢
        intro w5 σ5 x5 s5 _ _
        have x35 := al.ext.trans x5
        refine tS_iff.mpr ⟨w5, env4, rfl, s5, ?_⟩
        cases e3 : fs env4 with
        | no => rw [e3] at z3; exact z3
        | ex n env5 => rw [e3] at z3; exact fun w' σ' x s => z3 w' σ' (x35.trans x) s
        | ok r env5 =>
          rw [e3] at z3
          cases r with
          | nx =>
            intro w6 σ6 x6 s6
            obtain ⟨w7, x7, eh7, o7, h, s7⟩ := s6.weak h1
            cases h
            exact ⟨w7, env5, eh7, ((x3.trans x35).trans x6).trans x7, s7, z3.pre ((x35.trans x6).trans x7)⟩
          | ct =>
            intro w6 σ6 x6 s6
            obtain ⟨w7, x7, eh7, o7, h, s7⟩ := s6.weak h2
            cases h
            exact ⟨w7, env5, eh7, ((x3.trans x35).trans x6).trans x7, s7, z3.pre ((x35.trans x6).trans x7)⟩
          | bk =>
            intro w6 σ6 x6 s6
            obtain ⟨w7, x7, eh7, s7⟩ := s6.weak h4
            have := z3 w7 σ6 ((x35.trans x6).trans x7) s7
            rw [eh7] at this; exact this
          | rt d => exact fun w' σ' v A x s ro t => z3 w' σ' v A (x35.trans x) s ro (t.pre x35)
    · have e : i = ds.length := by omega
      subst e
      rw [List.drop_length] at z3
      simp only [forL, if_true] at z3
      refine .inl ⟨ss (Nat.le_refl _), ?_⟩
      obtain ⟨w7, x7, eh7, s7⟩ := s3.weak h3
      have := z3 w7 σ3 x7 ⟨_, rfl, s7⟩
      rw [eh7] at this; exact this
end
end Mp
/-! Mp11: what loops walk. -/
namespace Mp
open PySem PySem.Spec PyProof.Rows L2
section
variable {X : Cx} {c : Cc} {f : M D} {fs : M (List D)} {ows ows1 ows2 ows' : Ows} {o : Ow} {q : Bool} {e tg : Expr} {pos : Pos}
theorem PIor {X : Cx} {tg e : Expr} {t t' : TI} (h : PI X tg e t) (h' : PI X tg e t') : PI X tg e (fun σ H Q => t σ H Q ∨ t' σ H Q) := ⟨fun pins s σ H Q I z => z.elim (h.run pins s σ H Q I) (h'.run pins s σ H Q I)⟩
theorem Src.still {c : Cc} {J : It} {ds : List D} {w0 : Wd} (h : ∀ (w : Wd), (∀ {d : D} {v : V}, Rep c.K w0.H w0.Z d v → Rep c.K w.H w.Z d v) → ∀ k : Nat, (∀ d, ds[k]? = some d → J.go k w.H ∧ ∀ x H', J.yld k w.H x H' → H' = w.H ∧ Rep c.K w.H w.Z d x) ∧ (ds.length ≤ k → J.stop k w.H))
    {ows0 : Ows} {env0 : Env} {σ0 : L2.St} (s0 : SR c.K c.pn ows0 env0 σ0 w0) : Src c J ds w0 := fun w ows env σ x s k => by
  obtain ⟨h1, h2⟩ := h w (fun r => Rep.ext s0 x r) k
  refine ⟨fun d e => ⟨(h1 d e).1, fun v H' y => ?_⟩, h2⟩
  obtain ⟨e1, e2⟩ := (h1 d e).2 v H' y
  exact ⟨w, e1.symm, Alloc.refl, e2⟩
/-- a list nobody changes -/
theorem src_lst {ds : List D} {a : Addr} {w0 : Wd} (r : Rep c.K w0.H w0.Z (.lst ds) (.ref a)) {ows0 : Ows} {env0 : Env} {σ0 : L2.St} (s0 : SR c.K c.pn ows0 env0 σ0 w0) : Src c (Itl c.K a) ds w0 := Src.still (fun w kp k => by
  have r' := kp r
  unfold Rep at r'
  obtain ⟨a', xs, e, h1, h2⟩ := r'
  cases e
  have hq : SqL c.K w.H a xs := SqL.of h1.2
  refine ⟨fun d e => ?_, fun hk => ⟨xs, hq, by rw [h2.len]; exact hk⟩⟩
  obtain ⟨x, e1, r1⟩ := h2.get e
  refine ⟨⟨xs, x, hq, e1⟩, fun v H' y => ?_⟩
  obtain ⟨rfl, y⟩ := y
  have := y xs hq
  rw [e1] at this; cases this
  exact ⟨rfl, r1⟩) s0
theorem src_rol {ds : List D} {a : Addr} {w0 : Wd} (r : Rep c.K w0.H w0.Z (.rol ds) (.ref a)) {ows0 : Ows} {env0 : Env} {σ0 : L2.St} (s0 : SR c.K c.pn ows0 env0 σ0 w0) : Src c (Itl c.K a) ds w0 := Src.still (fun w kp k => by
  have r' := kp r
  unfold Rep at r'
  obtain ⟨a', xs, e, h1, h2⟩ := r'
  cases e
  refine ⟨fun d e => ?_, fun hk => ⟨xs, h1.sq, by rw [h2.len]; exact hk⟩⟩
  obtain ⟨x, e1, r1⟩ := h2.get e
  refine ⟨⟨xs, x, h1.sq, e1⟩, fun v H' y => ?_⟩
  obtain ⟨rfl, y⟩ := y
  have := y xs h1.sq
  rw [e1] at this; cases this
  exact ⟨rfl, r1⟩) s0
theorem src_tup {ds : List D} {a : Addr} {w0 : Wd} (r : Rep c.K w0.H w0.Z (.tup ds) (.ref a)) {ows0 : Ows} {env0 : Env} {σ0 : L2.St} (s0 : SR c.K c.pn ows0 env0 σ0 w0) : Src c (Itt c.K a) ds w0 := Src.still (fun w kp k => by
  have r' := kp r
  unfold Rep at r'
  obtain ⟨a', xs, e, h1, h2⟩ := r'
  cases e
  refine ⟨fun d e => ?_, fun hk => ⟨xs, h1, by rw [h2.len]; exact hk⟩⟩
  obtain ⟨x, e1, r1⟩ := h2.get e
  refine ⟨⟨xs, x, h1, e1⟩, fun v H' y => ?_⟩
  obtain ⟨rfl, y⟩ := y
  have := y xs h1
  rw [e1] at this; cases this
  exact ⟨rfl, r1⟩) s0
theorem src_str {x : Str} {w0 : Wd} {ows0 : Ows} {env0 : Env} {σ0 : L2.St} (s0 : SR c.K c.pn ows0 env0 σ0 w0) : Src c (Its x) (x.cps.toList.map fun c => .str ⟨#[c]⟩) w0 := Src.still (fun w kp k => by
  refine ⟨fun d e => ?_, fun hk => by
    show x.cps.size ≤ k
    simpa using hk⟩
  rw [List.getElem?_map] at e
  obtain ⟨p, e1, rfl⟩ := Option.map_eq_some_iff.mp e
  have e2 : x.cps[k]? = some p := by rw [← Array.getElem?_toList]; exact e1
  refine ⟨?_, fun v H' y => ?_⟩
  · obtain ⟨h, _⟩ := Array.getElem?_eq_some_iff.mp e2
    exact h
  · obtain ⟨rfl, c', e3, rfl⟩ := y
    rw [e2] at e3; cases e3
    exact ⟨rfl, rfl⟩) s0
theorem rngD_at : ∀ {lo : Int} {n k : Nat}, (rngD lo n)[k]? = if k < n then some (.int (lo + k)) else none
  | lo, 0, k => by simp [rngD]
  | lo, n + 1, 0 => by simp [rngD]
  | lo, n + 1, k + 1 => by
    rw [rngD, List.getElem?_cons_succ, rngD_at]
    by_cases h : k < n
    · rw [if_pos h, if_pos (by omega)]
      congr 2
      omega
    · rw [if_neg h, if_neg (by omega)]
theorem rngD_len : ∀ {lo : Int} {n : Nat}, (rngD lo n).length = n
  | lo, 0 => rfl
  | lo, n + 1 => by rw [rngD, List.length_cons, rngD_len]
theorem src_rng {lo : Int} {n : Nat} {w0 : Wd} {ows0 : Ows} {env0 : Env} {σ0 : L2.St} (s0 : SR c.K c.pn ows0 env0 σ0 w0) : Src c (Itr lo n) (rngD lo n) w0 := Src.still (fun w kp k => by
  refine ⟨fun d e => ?_, fun hk => by rw [rngD_len] at hk; exact hk⟩
  rw [rngD_at] at e
  split at e
  · rename_i hk
    cases e
    refine ⟨hk, fun v H' y => ?_⟩
    obtain ⟨rfl, rfl⟩ := y
    exact ⟨rfl, rfl⟩
  · cases e) s0
theorem src_rngD {lo : Int} {n : Nat} {w0 : Wd} {ows0 : Ows} {env0 : Env} {σ0 : L2.St} (s0 : SR c.K c.pn ows0 env0 σ0 w0) : Src c (Itc (lo + n) (-1) n) ((rngD (lo + 1) n).reverse) w0 := Src.still (fun w kp k => by
  refine ⟨fun d e => ?_, fun hk => by rw [List.length_reverse, rngD_len] at hk; exact hk⟩
  have hk : k < n := by
    have := (List.getElem?_eq_some_iff.mp e).1
    rw [List.length_reverse, rngD_len] at this
    exact this
  rw [List.getElem?_reverse (by rw [rngD_len]; exact hk), rngD_len, rngD_at, if_pos (by omega)] at e
  cases e
  refine ⟨hk, fun v H' y => ?_⟩
  obtain ⟨rfl, rfl⟩ := y
  refine ⟨rfl, ?_⟩
  unfold Rep
  congr 1
  omega) s0

/-! ### the forms -/
/-- a value walked -/
theorem pi_seq (hK : X.K = c.K) (h : PE X e (tV c f ows ows' .fr q)) : PI X tg e (tI c (M.bind f fun d => M.opt (itF .seq [d])) ows ows' q) := by
  refine wPI (PIor (pi_list h) (PIor (pi_tup h) (pi_str h))) fun σ H R ⟨w, env, hw, sr, z⟩ => ?_
  unfold M.bind at z
  have mk : ∀ {Q : VK}, (match f env with
      | .ok d env' => ∀ w' v A, Ext w w' → SR c.K c.pn ows' env' σ w' → RO c.K w'.H w'.Z .fr d v A → Tmp w w' A → (q = true → Quiet w w') → Q v w'.H
      | .ex n env' => exK c σ w n env'
      | .no => False) → tV c f ows ows' .fr q σ H Q := fun z => ⟨w, env, hw, sr, z⟩
  cases e1 : f env with
  | no => rw [e1] at z; exact z.elim
  | ex n env1 => rw [e1] at z; exact .inl (mk (by rw [e1]; exact z))
  | ok d env1 =>
    rw [e1] at z
    cases d with
    | lst ds =>
      refine .inl (mk ?_)
      rw [e1]
      intro w1 v A x1 s1 r1 _ k1
      obtain ⟨a, xs, rfl, h1, h2⟩ := r1.lst
      exact ⟨a, rfl, ⟨xs, SqL.of h1⟩, by rw [hK]; exact z w1 _ x1 s1 (src_lst r1.1 s1) k1⟩
    | tup ds =>
      refine .inr (.inl (mk ?_))
      rw [e1]
      intro w1 v A x1 s1 r1 _ k1
      obtain ⟨a, xs, rfl, h1, h2⟩ := r1.tup
      exact ⟨a, rfl, ⟨xs, by rw [hK]; exact h1⟩, by rw [hK]; exact z w1 _ x1 s1 (src_tup r1.1 s1) k1⟩
    | str x =>
      refine .inr (.inr (mk ?_))
      rw [e1]
      intro w1 v A x1 s1 r1 _ k1
      exact ⟨x, r1.str, z w1 _ x1 s1 (src_str s1) k1⟩
    | _ => exact z.elim
theorem ROR.three {K : PySem.W.Frag} {H : Hp} {Z : AS} {os : List Ow} {d d2 d3 : D} {vs : List V} (h : ROR K H Z os [d, d2, d3] vs) : ∃ o v A o2 v2 A2 o3 v3 A3, os = [o, o2, o3] ∧ vs = [v, v2, v3] ∧ RO K H Z o d v A ∧ RO K H Z o2 d2 v2 A2 ∧ RO K H Z o3 d3 v3 A3 := by
  match os, vs, h with
  | o :: os, v :: vs, h =>
    obtain ⟨o2, v2, A2, o3, v3, A3, rfl, rfl, h2, h3⟩ := ROR.two h.2
    obtain ⟨⟨A, r⟩, _⟩ := h
    exact ⟨o, v, A, o2, v2, A2, o3, v3, A3, rfl, rfl, r, h2, h3⟩
  | [], _, h => exact h.elim
  | _ :: _, [], h => exact h.elim
theorem b62 {i : Int} (h : B62 i = true) : -(2 ^ 62) ≤ i ∧ i < 2 ^ 62 := by
  unfold B62 at h
  simp only [decide_eq_true_eq] at h
  exact ⟨by omega, by omega⟩
theorem pi_rng1 {a : Expr} {p : Pos} {os : List Ow} (hg : Gl X "range") (hm : X.mg "range" = none) (ha : PA X [a] (tAR c fs ows ows' os q)) (hs : noStar a = true) (hl : ∀ env ds env', fs env = .ok ds env' → ds.length = 1) :
    PI X tg (.Call (.Name "range" p) [a] [] pos) (tI c (M.bind fs fun ds => M.opt (itF .rng ds)) ows ows' q) := by
  refine wPI (pi_range1 hg hm ha (star_cons hs)) fun σ H R ⟨w, env, hw, sr, z⟩ => ⟨w, env, hw, sr, ?_⟩
  unfold M.bind at z
  cases e1 : fs env with
  | no => rw [e1] at z; exact z.elim
  | ex n env1 => rw [e1] at z; exact z
  | ok ds env1 =>
    rw [e1] at z
    intro w1 vs x1 s1 r1 k1
    have h1 := hl _ _ _ e1
    match ds, h1 with
    | [d], _ =>
      obtain ⟨o, v, A, rfl, rfl, r⟩ := r1.one
      cases d with
      | int j =>
        simp only [M.opt, itF] at z
        by_cases hb : B62 j = true
        · rw [if_pos hb] at z
          have := b62 hb
          exact ⟨j, by rw [r.int], this.1, this.2, z w1 _ x1 s1 (src_rng s1) k1⟩
        · rw [if_neg hb] at z; exact z.elim
      | _ => exact z.elim
theorem pi_rng2 {a b : Expr} {p : Pos} {os : List Ow} (hg : Gl X "range") (hm : X.mg "range" = none) (ha : PA X [a, b] (tAR c fs ows ows' os q)) (hs : noStar a = true) (hs2 : noStar b = true) (hl : ∀ env ds env', fs env = .ok ds env' → ds.length = 2) :
    PI X tg (.Call (.Name "range" p) [a, b] [] pos) (tI c (M.bind fs fun ds => M.opt (itF .rng ds)) ows ows' q) := by
  refine wPI (pi_range2 hg hm ha (by rw [star_cons hs, star_cons hs2]; rfl) (by rw [star_cons hs2]; rfl)) fun σ H R ⟨w, env, hw, sr, z⟩ => ⟨w, env, hw, sr, ?_⟩
  unfold M.bind at z
  cases e1 : fs env with
  | no => rw [e1] at z; exact z.elim
  | ex n env1 => rw [e1] at z; exact z
  | ok ds env1 =>
    rw [e1] at z
    intro w1 vs x1 s1 r1 k1
    have h1 := hl _ _ _ e1
    match ds, h1 with
    | [d, d2], _ =>
      obtain ⟨o, v, A, o2, v2, A2, rfl, rfl, r, r2⟩ := r1.two
      cases d with
      | int i =>
        cases d2 with
        | int j =>
          simp only [M.opt, itF] at z
          by_cases hb : (B62 i && B62 j) = true
          · rw [if_pos hb] at z
            simp only [Bool.and_eq_true] at hb
            have h1 := b62 hb.1
            have h2 := b62 hb.2
            exact ⟨i, j, by rw [r.int, r2.int], ⟨h1.1, h1.2, h2.1, h2.2⟩, z w1 _ x1 s1 (src_rng s1) k1⟩
          · rw [if_neg hb] at z; exact z.elim
        | _ => exact z.elim
      | _ => exact z.elim
theorem pi_rng3 {a b d : Expr} {p : Pos} {os : List Ow} (hg : Gl X "range") (hm : X.mg "range" = none) (ha : PA X [a, b, d] (tAR c fs ows ows' os q)) (hs : noStar a = true) (hs2 : noStar b = true) (hs3 : noStar d = true) (hl : ∀ env ds env', fs env = .ok ds env' → ds.length = 3) :
    PI X tg (.Call (.Name "range" p) [a, b, d] [] pos) (tI c (M.bind fs fun ds => M.opt (itF .rng ds)) ows ows' q) := by
  refine wPI (pi_range3 hg hm ha (star_cons hs) (by rw [star_cons hs2, star_cons hs3]; rfl)) fun σ H R ⟨w, env, hw, sr, z⟩ => ⟨w, env, hw, sr, ?_⟩
  unfold M.bind at z
  cases e1 : fs env with
  | no => rw [e1] at z; exact z.elim
  | ex n env1 => rw [e1] at z; exact z
  | ok ds env1 =>
    rw [e1] at z
    intro w1 vs x1 s1 r1 k1
    have h1 := hl _ _ _ e1
    match ds, h1 with
    | [d, d2, d3], _ =>
      obtain ⟨o, v, A, o2, v2, A2, o3, v3, A3, rfl, rfl, r, r2, r3⟩ := r1.three
      cases d with
      | int i =>
        cases d2 with
        | int j =>
          cases d3 with
          | int k =>
            simp only [M.opt, itF] at z
            by_cases hb : (B62 i && B62 j && decide (k = -1)) = true
            · rw [if_pos hb] at z
              simp only [Bool.and_eq_true, decide_eq_true_eq] at hb
              have h1 := b62 hb.1.1
              have h2 := b62 hb.1.2
              rw [hb.2] at r3
              refine ⟨i, j, -1, (i - j).toNat, by rw [r.int, r2.int, r3.int], RgC.neg h1.1 h1.2 h2.1 h2.2, z w1 _ x1 s1 ?_ k1⟩
              by_cases hij : j ≤ i
              · have e := src_rngD (c := c) (lo := j) (n := (i - j).toNat) s1
                have e2 : j + ((i - j).toNat : Int) = i := by omega
                rw [e2] at e
                exact e
              · have e0 : (i - j).toNat = 0 := by omega
                rw [e0]
                exact Src.still (fun w kp k => ⟨fun d e => by simp [rngD] at e, fun _ => Nat.zero_le _⟩) s1
            · rw [if_neg hb] at z; exact z.elim
          | _ => exact z.elim
        | _ => exact z.elim
      | _ => exact z.elim
end
end Mp
/-! Mp12: operators by their table; in; isinstance; tests. -/
namespace Mp
open PySem PySem.Spec PyProof.Rows L2

def opB : BO → Operator
  | .add => .Add
  | .sub => .Sub
  | .mul => .Mult
  | .fdiv => .FloorDiv
  | .mod => .Mod
  | .pow => .Pow
def opC : CO → CmpOp
  | .eq => .Eq
  | .ne => .NotEq
  | .lt => .Lt
  | .le => .LtE
  | .gt => .Gt
  | .ge => .GtE
  | .isn => .Is
  | .isnn => .IsNot
  | .in_ => .In
  | .nin => .NotIn
section
variable {X : Cx} {c : Cc} {f g fa fb fd : M D} {ows ows1 ows2 ows' : Ows} {o o1 o2 oa ob od : Ow} {q q1 q2 : Bool} {e pe a b d : Expr} {pos : Pos}
theorem pv_bin {k : BO} (hK : X.K = c.K) (ha : PE X a (tR c fa ows ows1 o1 q)) (hb : PE X b (tR c fb ows1 ows2 o2 true)) (s1 : shal o1 = true) (s2 : shal o2 = true) : PE X (.BinOp a (opB k) b pos) (tV c (op2 (binD k) fa fb) ows ows2 (.ow .fr) q) := by
  cases k with
  | add => exact pe_ok2 ha hb (fun h1 h2 => pe_op (r := rAddA c.K) (by rw [← hK]; exact op_addA) h1 h2) (ok_add s1 s2)
  | sub => exact pe_ok2 ha hb (fun h1 h2 => pe_op op_sub h1 h2) ok_sub
  | mul => exact pe_ok2 ha hb (fun h1 h2 => pe_op (r := rMulA c.K) (by rw [← hK]; exact op_mulA) h1 h2) (ok_mul s1)
  | fdiv => exact pe_ok2 ha hb (fun h1 h2 => pe_op op_fdiv h1 h2) ok_fdiv
  | mod => exact pe_ok2 ha hb (fun h1 h2 => pe_op op_mod h1 h2) ok_mod
  | pow => exact pe_ok2 ha hb (fun h1 h2 => pe_op op_pow h1 h2) ok_pow
theorem toPs_any {p : PyData → Bool} : ∀ {ys : List D}, (D.toPs ys).any p = ys.any fun y => p y.toP
  | [] => rfl
  | y :: ys => by simp only [D.toPs, List.any_cons, toPs_any]
theorem valV_at {κ : Type} [DecidableEq κ] : ∀ {kvs : List (κ × V)} {k : κ} {x : V} {j : Nat}, (kvs.map (·.1)).Nodup → kvs[j]? = some (k, x) → valV kvs k = some x
  | [], _, _, _, _, h => by simp at h
  | p :: r, k, x, 0, _, h => by
    simp at h
    subst h
    exact valV_pos rfl
  | p :: r, k, x, j + 1, nd, h => by
    simp at h
    rw [List.map_cons, List.nodup_cons] at nd
    have hm : k ∈ r.map (·.1) := List.mem_map.mpr ⟨(k, x), List.mem_of_getElem? h, rfl⟩
    have ne : p.1 ≠ k := fun e => nd.1 (e ▸ hm)
    have ih := valV_at nd.2 h
    unfold valV at ih ⊢
    rw [List.find?_cons, decide_eq_false ne]
    exact ih
theorem valV_no {κ : Type} [DecidableEq κ] {kvs : List (κ × V)} {k : κ} (h : ∀ p, p ∈ kvs → p.1 ≠ k) : valV kvs k = none := by
  unfold valV
  rw [List.find?_eq_none.mpr fun p hp => by simpa using h p hp]
  rfl
theorem kd_of {k : D} (h : keyD false k = true) : ∃ key : Key, k = kD key ∧ ∀ (K : PySem.W.Frag) (H : Hp) (Z : AS) (o : Ow) (v : V) (A : AS), RO K H Z o k v A → v = kV key := by
  cases k <;> first | cases h | skip
  · exact ⟨.inl _, rfl, fun _ _ _ _ _ _ r => r.int⟩
  · exact ⟨.inr _, rfl, fun _ _ _ _ _ _ r => r.str⟩
theorem nodup_kd {kvs : List (Key × V)} (h : (kvs.map fun p => kD p.1).Nodup) : (kvs.map (·.1)).Nodup := by
  rw [List.Nodup, List.pairwise_map] at h ⊢
  exact h.imp fun h e => h (by rw [e])
/-- a key looked up -/
theorem dk_get {H : Hp} {a : Addr} {ks : List D} {xs : List V} {key : Key} (h : DcAt H a false ks xs) : ∃ kvs, H a = some (.dK kvs) ∧ xs.length = ks.length ∧ (∀ (j : Nat) (x : V), ks[j]? = some (kD key) → xs[j]? = some x → valV kvs key = some x) ∧ ((∀ j : Nat, ks[j]? ≠ some (kD key)) → valV kvs key = none) := by
  obtain ⟨nd, ⟨_, kvs, h1, h2, h3⟩ | ⟨e, _⟩⟩ := h
  · refine ⟨kvs, h1, by rw [h2, h3]; simp, fun j x e1 e2 => ?_, fun hn => valV_no fun p hp e => ?_⟩
    · have hk : KeyK ks kvs := h2
      unfold KeyK at hk
      subst hk h3
      rw [List.getElem?_map] at e1 e2
      obtain ⟨p, e3, e4⟩ := Option.map_eq_some_iff.mp e1
      rw [e3] at e2
      cases e2
      have := kD_inj e4
      subst this
      exact valV_at (nodup_kd nd) e3
    · obtain ⟨j, hj⟩ := List.mem_iff_getElem?.mp hp
      refine hn j ?_
      have hk : KeyK ks kvs := h2
      unfold KeyK at hk
      rw [hk, List.getElem?_map, hj, ← e]
      rfl
  · cases e
theorem dGet_no : ∀ {ks vs : List D} {k : D}, vs.length = ks.length → dGet ks vs k = none → ∀ j : Nat, ks[j]? ≠ some k
  | [], _, _, _, _, j => by simp
  | _ :: _, [], _, h, _, _ => by simp at h
  | k0 :: ks, v0 :: vs, k, h, e, j => by
    unfold dGet at e
    split at e
    · cases e
    · rename_i ne
      cases j with
      | zero => simpa using ne
      | succ j =>
        rw [List.getElem?_cons_succ]
        exact dGet_no (by simpa using h) e j
abbrev rDIn : R2 := fun x y H Q => ∃ a o, y = .ref a ∧ DGet H a x o ∧ Q (.bl o.isSome) H
abbrev rDNin : R2 := fun x y H Q => ∃ a o, y = .ref a ∧ DGet H a x o ∧ Q (.bl (!o.isSome)) H
theorem op_dIn (hu : X.A.units + 1 < cLine) : OpR X (compareOp .In) rDIn := by
  intro pins s σ H x y v u Q I rx ry h
  obtain ⟨a, o, rfl, g, q⟩ := h
  cases ry
  exact d_in hu I g rx fun s3 I3 => ⟨.bl o.isSome, H, I3, rfl, q⟩
theorem op_dNin (hu : X.A.units + 1 < cLine) : OpR X (compareOp .NotIn) rDNin := by
  intro pins s σ H x y v u Q I rx ry h
  obtain ⟨a, o, rfl, g, q⟩ := h
  cases ry
  exact d_notIn hu I g rx fun s3 I3 => ⟨.bl (!o.isSome), H, I3, rfl, q⟩
abbrev rInA (K : PySem.W.Frag) : R2 := fun x y H Q => rInD K x y H Q ∨ (∃ i j, x = .str i ∧ y = .str j ∧ Q (.bl (!(Builtin.Str.occurrences j i 0 j.length 1).isEmpty)) H) ∨ rIn K false x y H Q ∨ rDIn x y H Q
abbrev rNinA (K : PySem.W.Frag) : R2 := fun x y H Q => rNotInD K x y H Q ∨ (∃ i j, x = .str i ∧ y = .str j ∧ Q (.bl (!(!(Builtin.Str.occurrences j i 0 j.length 1).isEmpty))) H) ∨ rIn K true x y H Q ∨ rDNin x y H Q
theorem plain_rep {K : PySem.W.Frag} {H : Hp} {Z : AS} {x y : D} {v u : V} (hx : x.plain = true) (hy : y.plain = true) (r1 : Rep K H Z x v) (r2 : Rep K H Z y u) : flatV v = true ∧ flatV u = true ∧ eqV u v = eqF y x := by
  cases x <;> first | (cases hx; done) | skip
  all_goals (cases y <;> first | (cases hy; done) | skip)
  all_goals (unfold Rep at r1 r2; subst r1 r2; exact ⟨rfl, rfl, rfl⟩)
theorem plain_all {K : PySem.W.Frag} {H : Hp} {Z : AS} {x : D} {v : V} (hx : x.plain = true) (r1 : Rep K H Z x v) : ∀ {ys : List D} {us : List V}, ys.all D.plain = true → Reps K H Z ys us → us.all flatV = true ∧ (us.any fun u => eqV u v) = ys.any fun y => eqF y x
  | [], _, _, h => by unfold Reps at h; subst h; exact ⟨rfl, rfl⟩
  | y :: ys, us, hy, h => by
    unfold Reps at h
    obtain ⟨u, r, rfl, h1, h2⟩ := h
    simp only [List.all_cons, Bool.and_eq_true] at hy
    obtain ⟨a1, a2⟩ := plain_all hx r1 hy.2 h2
    obtain ⟨b1, b2, b3⟩ := plain_rep hx hy.1 r1 h1
    simp only [List.all_cons, List.any_cons, a1, a2, b2, b3, Bool.and_self, and_self]
theorem flat_plain {x : D} {K : PySem.W.Frag} {H : Hp} {Z : AS} {v : V} (hx : x.plain = true) (r : Rep K H Z x v) : flatV v = true := (plain_rep hx hx r r).1
theorem RO.plain {K : PySem.W.Frag} {H : Hp} {Z : AS} {x : D} {v : V} {A : AS} (r : RO K H Z o x v A) (hx : x.plain = true) : Rep K H Z x v := r.rep (fun ds e => by subst e; cases hx) (fun _ _ _ e => by subst e; cases hx)
theorem in_cases {K : PySem.W.Frag} {w : Wd} {x y : D} {v1 v2 : V} {A1 A2 : AS} {k : Bool} (r1 : RO K w.H w.Z o1 x v1 A1) (r2 : RO K w.H w.Z o2 y v2 A2) (e : inD x y = some k) :
    (∃ d ds, Dp K w.H v1 d ∧ Dp K w.H v2 (.list ds) ∧ SeqAt.shaped d = true ∧ SeqAt.shaped (.list ds) = true ∧ k = (ds.any fun z => PyData.eqv z d)) ∨ (∃ i j, v1 = .str i ∧ v2 = .str j ∧ k = !(Builtin.Str.occurrences j i 0 j.length 1).isEmpty) ∨
    (∃ p xs, v2 = .ref p ∧ SqT K w.H p xs ∧ flatV v1 = true ∧ xs.all flatV = true ∧ k = inV v1 xs) ∨ (∃ a o, v2 = .ref a ∧ DGet w.H a v1 o ∧ k = o.isSome) := by
  cases y with
  | str j =>
    cases x <;> simp only [inD, reduceCtorEq, Option.some.injEq] at e
    exact .inr (.inl ⟨_, _, r1.str, r2.str, e.symm⟩)
  | lst ys =>
    simp only [inD] at e
    split at e
    · rename_i hs
      simp only [Bool.and_eq_true] at hs
      have := r2.dp hs.2
      refine .inl ⟨x.toP, D.toPs ys, r1.dp hs.1, this, hs.1, hs.2, ?_⟩
      rw [toPs_any]
      exact (Option.some.inj e).symm
    · cases e
  | tup ys =>
    simp only [inD] at e
    split at e
    · rename_i hs
      simp only [Bool.and_eq_true] at hs
      obtain ⟨a, xs, rfl, h1, h2⟩ := r2.tup
      obtain ⟨b1, b2⟩ := plain_all hs.1 (r1.plain hs.1) hs.2 h2
      exact .inr (.inr (.inl ⟨a, xs, rfl, h1, flat_plain hs.1 (r1.plain hs.1), b1, by unfold inV; rw [b2]; exact (Option.some.inj e).symm⟩))
    · cases e
  | dct t ks vs =>
    cases t with
    | true => cases e
    | false =>
      simp only [inD] at e
      split at e
      · rename_i hk
        obtain ⟨key, rfl, hv⟩ := kd_of hk
        have hv1 := hv _ _ _ _ _ _ r1
        subst hv1
        obtain ⟨a, xs, rfl, _, h1, _⟩ := (show ∃ a xs', v2 = V.ref a ∧ _ ∧ DcAt w.H a false ks xs' ∧ _ from r2.fz)
        obtain ⟨kvs, e1, hl, g1, g2⟩ := dk_get (key := key) h1
        refine .inr (.inr (.inr ⟨a, valV kvs key, rfl, DGet.k e1, ?_⟩))
        rw [← Option.some.inj e]
        by_cases hm : kD key ∈ ks
        · obtain ⟨j, hj⟩ := List.mem_iff_getElem?.mp hm
          obtain ⟨y, hy⟩ : ∃ y, xs[j]? = some y := ⟨_, List.getElem?_eq_getElem (by rw [hl]; exact (List.getElem?_eq_some_iff.mp hj).1)⟩
          rw [g1 j y hj hy]
          simp only [List.any_eq_true, decide_eq_true_eq, Option.isSome_some]
          exact ⟨_, hm, rfl⟩
        · rw [g2 fun j hj => hm (List.mem_of_getElem? hj)]
          simp only [Option.isSome_none, List.any_eq_false, decide_eq_true_eq]
          exact fun z hz e => hm (e ▸ hz)
      · cases e
  | _ => cases e
theorem ok_in {K : PySem.W.Frag} : Ok2 K (cmpM .in_) (.ow .fr) (rInA K) o1 o2 := by
  intro w d1 d2 v1 v2 A1 A2 d Q r1 r2 e k
  obtain ⟨b, e1, rfl⟩ := map_bl e
  rcases in_cases r1 r2 (show inD d1 d2 = some b from e1) with ⟨p, ps, h1, h2, h3, h4, rfl⟩ | ⟨i, j, rfl, rfl, rfl⟩ | ⟨p, xs, rfl, h1, h2, h3, rfl⟩ | ⟨a, oo, rfl, g, rfl⟩
  · exact .inl ⟨p, ps, h1, h2, h3, h4, fin_bl rfl k⟩
  · exact .inr (.inl ⟨i, j, rfl, rfl, fin_bl rfl k⟩)
  · exact .inr (.inr (.inl ⟨p, xs, rfl, .inr h1, h2, h3, fin_bl rfl k⟩))
  · exact .inr (.inr (.inr ⟨a, oo, rfl, g, fin_bl rfl k⟩))
theorem ok_nin {K : PySem.W.Frag} : Ok2 K (cmpM .nin) (.ow .fr) (rNinA K) o1 o2 := by
  intro w d1 d2 v1 v2 A1 A2 d Q r1 r2 e k
  obtain ⟨b, e1, rfl⟩ := map_bl e
  obtain ⟨b', e2, rfl⟩ := Option.map_eq_some_iff.mp (show (inD d1 d2).map (!·) = some b from e1)
  rcases in_cases r1 r2 e2 with ⟨p, ps, h1, h2, h3, h4, rfl⟩ | ⟨i, j, rfl, rfl, rfl⟩ | ⟨p, xs, rfl, h1, h2, h3, rfl⟩ | ⟨a, oo, rfl, g, rfl⟩
  · exact .inl ⟨p, ps, h1, h2, h3, h4, fin_bl rfl k⟩
  · exact .inr (.inl ⟨i, j, rfl, rfl, fin_bl rfl k⟩)
  · exact .inr (.inr (.inl ⟨p, xs, rfl, .inr h1, h2, h3, fin_bl rfl k⟩))
  · exact .inr (.inr (.inr ⟨a, oo, rfl, g, fin_bl rfl k⟩))
/-- each comparison has its rule -/
theorem cmp_rule (hK : X.K = c.K) (hu : X.A.units + 66 < cLine) (k : CO) : ∃ r : R2, OpR X (compareOp (opC k)) r ∧ ∀ o1 o2, Ok2 c.K (cmpM k) (.ow .fr) r o1 o2 := by
  cases k with
  | eq => exact ⟨rEqD c.K, by rw [← hK]; exact op_eqD (by omega), fun _ _ => ok_eq⟩
  | ne => exact ⟨rNeD c.K, by rw [← hK]; exact op_neD (by omega), fun _ _ => ok_ne⟩
  | lt => exact ⟨_, op_ltA (by omega), fun _ _ => by rw [hK]; exact ok_lt⟩
  | le => exact ⟨_, op_leA (by omega), fun _ _ => by rw [hK]; exact ok_le⟩
  | gt => exact ⟨_, op_gtA (by omega), fun _ _ => by rw [hK]; exact ok_gt⟩
  | ge => exact ⟨_, op_geA (by omega), fun _ _ => by rw [hK]; exact ok_ge⟩
  | isn => exact ⟨_, op_isN, fun _ _ => ok_isn⟩
  | isnn => exact ⟨_, op_notN, fun _ _ => ok_isnn⟩
  | in_ => exact ⟨rInA c.K, by rw [← hK]; exact (op_inD (by omega)).or (op_in_str.or (op_in_seq.or (op_dIn (X := X) (by omega)))), fun _ _ => ok_in⟩
  | nin => exact ⟨rNinA c.K, by rw [← hK]; exact (op_notInD (by omega)).or (op_notin_str.or (op_notIn_seq.or (op_dNin (X := X) (by omega)))), fun _ _ => ok_nin⟩
end
end Mp
/-! Mp13: subscripts with dicts; isinstance; built-in functions by name; tests. -/
namespace Mp
open PySem PySem.Spec PyProof.Rows L2
section
variable {X : Cx} {c : Cc} {f g fa fb fd : M D} {ows ows1 ows2 ows' : Ows} {o o1 o2 oa ob od : Ow} {q q1 q2 : Bool} {e pe a b d : Expr} {pos : Pos}
/-! ### subscripts -/
abbrev rIxDc : R2 := fun x y H Q => ∃ a v, x = .ref a ∧ DGet H a y (some v) ∧ Q v H
theorem ix_dict (hu : X.A.units + 1 < cLine) : IxR X rIxDc := by
  intro value slice pins s σ H x y v u Q I rx ry h hs
  obtain ⟨a, r, rfl, g, q⟩ := h
  cases rx
  exact tail_any (dict_typeIs I g) PySem.F.slot_dict_getitem.lookup (d_getItem hu I g ry fun w' s' I' rw' => ⟨r, H, I', rw', q⟩) hs
abbrev rIxB (K : PySem.W.Frag) : R2 := fun x y H Q => rIxA K x y H Q ∨ rIxDc x y H Q
theorem RO.dctR {K : PySem.W.Frag} {H : Hp} {Z : AS} {t : Bool} {ks vs : List D} {v : V} {A : AS} (sh : shal o = true) (h : RO K H Z o (.dct t ks vs) v A) : ∃ a xs, v = .ref a ∧ DcAt H a t ks xs ∧ Reps K H Z vs xs := by
  cases o with
  | fr =>
    obtain ⟨a, xs, e, _, h1, h2⟩ := (show ∃ a xs, v = V.ref a ∧ _ ∧ DcAt H a t ks xs ∧ Reps K H Z vs xs from h.1)
    exact ⟨a, xs, e, h1, h2⟩
  | ow o =>
    cases o with
    | fr =>
      obtain ⟨a, xs, B, G, e, h1, I, _⟩ := h
      exact ⟨a, xs, e, h1, Reps.of I.len fun k d x e1 e2 => (I.at_ k d x e1 e2).1⟩
    | ow o => cases sh
theorem ok_ixB {K : PySem.W.Frag} (s1 : shal o1 = true) : Ok2 K ixD .fr (rIxB K) o1 o2 := by
  intro w d1 d2 v1 v2 A1 A2 d Q r1 r2 e k
  cases d1 with
  | dct t ks vs =>
    cases t with
    | true => cases e
    | false =>
      simp only [ixD] at e
      split at e
      · rename_i hk
        obtain ⟨key, rfl, hv⟩ := kd_of hk
        have hv1 := hv _ _ _ _ _ _ r2
        subst hv1
        obtain ⟨a, xs, rfl, h1, h2⟩ := r1.dctR s1
        obtain ⟨kvs, e1, hl, g1, _⟩ := dk_get (key := key) h1
        obtain ⟨j, j1, j2, _⟩ := dGet_at e
        obtain ⟨x, e2, rx⟩ := h2.get j2
        refine .inr ⟨a, x, rfl, ?_, fin_rep rx k⟩
        have := g1 j x j1 e2
        rw [← this]
        exact DGet.k e1
      · cases e
  | _ => exact .inl (ok_ix s1 w _ d2 v1 v2 A1 A2 d Q r1 r2 e k)
theorem pv_ix (hu : X.A.units + 1 < cLine) (ha : PE X a (tR c fa ows ows1 oa q)) (hb : PE X b (tR c fb ows1 ows2 ob true)) (hs : noSl b = true) (sh : shal oa = true) (hK : X.K = c.K) : PE X (.Subscript a b pos) (tV c (op2 ixD fa fb) ows ows2 .fr q) :=
  pe_ok2 ha hb (fun h1 h2 => pe_ix (r := rIxB c.K) (by rw [← hK]; exact ix_all.or (ix_dict hu)) h1 h2 (plainIx hs)) (ok_ixB sh)

/-! ### isinstance, one built-in class -/
def tyN : TY → String
  | .int => "int"
  | .bool => "bool"
  | .str => "str"
  | .list => "list"
  | .tuple => "tuple"
  | .dict => "dict"
  | _ => ""
def dN : D → String
  | .non => "NoneType"
  | .bl _ => "bool"
  | .int _ => "int"
  | .str _ => "str"
  | .tup _ => "tuple"
  | .lst _ => "list"
  | .dct _ _ _ => "dict"
  | _ => ""
def tyPl : TY → Bool
  | .exc _ => false
  | .none => false
  | _ => true
theorem kit_tab {C : Cs} {x : D} {t : TY} {r : Bool} (ht : tyPl t = true) (h : tyIs C x t = some r) : kitB (dN x) (tyN t) = some r ∧ (∀ xs, x ≠ .rol xs) ∧ ∀ n, x ≠ .exc n := by
  cases t <;> first | (cases ht; done) | skip
  all_goals (cases x <;> first | (cases h; done) | skip)
  all_goals (refine ⟨?_, fun _ e => (nomatch e), fun _ e => (nomatch e)⟩; cases h; simp only [dN, tyN]; decide +kernel)
theorem tyx_of {K : PySem.W.Frag} {w : Wd} {x : D} {v : V} {A : AS} (r : RO K w.H w.Z o x v A) (h1 : ∀ xs, x ≠ .rol xs) (h2 : ∀ n, x ≠ .exc n) : TyX K w.H v (.type (dN x)) := by
  cases x with
  | non => rw [r.non]; exact .base .non
  | bl => rw [r.bl]; exact .base (.bl _)
  | int => rw [r.int]; exact .base (.int _)
  | str => rw [r.str]; exact .base (.str _)
  | tup xs =>
    obtain ⟨a, ys, rfl, h, _⟩ := r.tup
    rcases h with (h | ⟨_, h⟩) | ⟨o, _, _, h1, h2, _⟩
    · exact .base (.tup h)
    · exact .fTuple h
    · exact .kTuple h1 h2
  | lst xs =>
    obtain ⟨a, ys, rfl, h, _⟩ := r.lst
    exact .base (.lst h)
  | rol xs => exact absurd rfl (h1 xs)
  | dct t ks vs =>
    obtain ⟨a, xs, rfl, _, h1, _⟩ := (show ∃ a xs', v = V.ref a ∧ _ ∧ DcAt w.H a t ks xs' ∧ _ from r.fz)
    obtain ⟨_, ⟨_, kvs, e1, _⟩ | ⟨_, kvs, e1, _⟩⟩ := h1
    · exact .base (.dK e1)
    · exact .base (.dT e1)
  | exc n => exact absurd rfl (h2 n)
def nmS (x : String) : Str := Str.ofString x
theorem boot_ty {t : TY} (h : tyPl t = true) : bootBuiltins (nmS (tyN t)) = some (.type (tyN t)) := by
  cases t <;> first | (cases h; done) | decide +kernel
theorem pv_isi {C : Cs} {t : TY} {p p2 : Pos} (ht : tyPl t = true) (hg : Gl X "isinstance") (hm : X.mg "isinstance" = none) (hg2 : Gl X (nmS (tyN t))) (hm2 : X.mg (nmS (tyN t)) = none) (hK : X.K = c.K) (hs : noStar a = true) (ha : PE X a (tR c fa ows ows' o q)) :
    PE X (.Call (.Name "isinstance" p) [a, .Name (nmS (tyN t)) p2] [] pos) (tV c (M.bind fa fun x => M.opt ((tyAny C x [t]).map .bl)) ows ows' (.ow .fr) q) := by
  have hn : nmS (tyN t) ≠ "__name__" := by cases t <;> first | (cases ht; done) | decide +kernel
  have hd : (nmS (tyN t) == ("__debug__" : Str)) = false := by cases t <;> first | (cases ht; done) | decide +kernel
  refine wPE (pe_callB call_isi hg hm PyProof.Rows.boot_isinstance (pa_cons ha (pa_cons (pe_bltn hg2 hm2 (boot_ty ht) (v := .ty (tyN t)) rfl hn hd) pa_nil (by rfl)) (star_cons hs)) (by decide) (by decide) (star_cons hs) (by rfl)) fun σ H Q ⟨w, env, hw, sr, z⟩ => ⟨w, env, hw, sr, ?_⟩
  unfold M.bind at z
  cases e1 : fa env with
  | no => rw [e1] at z; exact z
  | ex n env1 => rw [e1] at z; exact z
  | ok x env1 =>
    rw [e1] at z
    intro w1 v A x1 s1 r1 k1
    simp only [tyAny] at z
    cases e2 : tyIs C x t with
    | none => rw [e2] at z; exact z.elim
    | some r =>
      obtain ⟨h1, h2, h3⟩ := kit_tab ht e2
      have z' : ∀ w' v A, Ext w w' → SR c.K c.pn ows' env1 σ w' → RO c.K w'.H w'.Z (.ow .fr) (.bl r) v A → Tmp w w' A → (q = true → Quiet w w') → Q v w'.H := by
        rw [e2] at z
        cases r <;> exact z
      refine ⟨v, .ty (tyN t), _, _, r, rfl, .ty _, by rw [hK]; exact tyx_of r1 h2 h3, kit_ty h1, z' w1 _ _ x1 s1 RO.mkbl Tmp.nil k1⟩

/-! ### built-in functions by name -/
def biN : BI → Str
  | .len => "len"
  | .abs => "abs"
  | .int => "int"
  | .str => "str"
  | .list => "list"
  | .tuple => "tuple"
  | .dict => "dict"
  | .sorted => "sorted"
  | .sum => "sum"
  | .any => "any"
  | .all => "all"
  | .max1 => "max"
  | .min1 => "min"
  | .max2 => "max"
  | .min2 => "min"
  | .bool => "bool"
def biO : BI → Ow
  | .tuple => .fr
  | _ => .ow .fr
def biOk : BI → Bool
  | .dict => false
  | .sorted => false
  | _ => true
def biCalm : BI → Bool
  | .max2 => true
  | .min2 => true
  | .max1 => true
  | .min1 => true
  | .sum => true
  | .any => true
  | .all => true
  | _ => false
theorem pv_bi {k : BI} {e : Expr} {es : List Expr} {fs : M (List D)} {os : List Ow} {p : Pos} (hk : biOk k = true) (hc : biCalm k = true → X.calm = true) (hK : X.K = c.K) (hg : Gl X (biN k)) (hm : X.mg (biN k) = none) (hst : (e :: es).all noStar = true) (ha : PA X (e :: es) (tAR c fs ows ows' os q)) (hs : os.all shal = true) :
    PE X (.Call (.Name (biN k) p) (e :: es) [] pos) (tV c (M.bind fs fun ds => M.opt (bF k ds)) ows ows' (biO k) q) := by
  simp only [List.all_cons, Bool.and_eq_true] at hst
  have h1 := star_cons (es := es) (env := X.env) hst.1
  have h2 := star_any (es := es) (env := X.env) (pos := pos) hst.2
  have sh2 : os.all anyO = true := List.all_eq_true.mpr fun _ _ => rfl
  cases k with
  | len => exact pv_okN (r := rLenA c.K) (fun h => pe_callB (by rw [← hK]; exact call_lenA) hg hm boot_len h (by decide) (by decide) h1 h2) ha ok_len sh2
  | abs => exact pv_okN (fun h => pe_callB call_abs hg hm boot_abs h (by decide) (by decide) h1 h2) ha ok_abs sh2
  | int => exact pv_okN (fun h => pe_callTy (call_int1.or call_int_str) hg hm PyProof.Rows.boot_int h (by decide) (by decide) h1 h2) ha ok_int sh2
  | bool => exact pv_okN (fun h => pe_callTy call_bool1 hg hm PyProof.Rows.boot_bool h (by decide) (by decide) h1 h2) ha ok_bool sh2
  | str => exact pv_okN (fun h => pe_callTy (call_str_int.or SkE.call_str_str) hg hm PyProof.Rows.boot_str h (by decide) (by decide) h1 h2) ha ok_str sh2
  | list => exact pv_okN (r := rListA c.K) (fun h => pe_callTy (by rw [← hK]; exact call_list_of) hg hm PyProof.Rows.boot_list h (by decide) (by decide) h1 h2) ha ok_list hs
  | tuple => exact pv_okN (r := rTupleA c.K) (fun h => pe_callTy (by rw [← hK]; exact call_tuple_of) hg hm PyProof.Rows.boot_tuple h (by decide) (by decide) h1 h2) ha ok_tuple hs
  | dict => cases hk
  | sorted => cases hk
  | sum => exact pv_okN (r := rSum c.K) (fun h => pe_callB (by rw [← hK]; exact cr_sum (hc rfl)) hg hm PyProof.Rows.boot_sum h (by decide) (by decide) h1 h2) ha ok_sum hs
  | any => exact pv_okN (r := rAny c.K) (fun h => pe_callB (by rw [← hK]; exact cr_any (hc rfl)) hg hm PyProof.Rows.boot_any h (by decide) (by decide) h1 h2) ha ok_any hs
  | all => exact pv_okN (r := rAll c.K) (fun h => pe_callB (by rw [← hK]; exact cr_all (hc rfl)) hg hm PyProof.Rows.boot_all h (by decide) (by decide) h1 h2) ha ok_all hs
  | max1 => exact pv_okN (r := rMax c.K) (fun h => pe_callB (by rw [← hK]; exact cr_max (hc rfl)) hg hm PyProof.Rows.boot_max h (by decide) (by decide) h1 h2) ha ok_max1 hs
  | min1 => exact pv_okN (r := rMin c.K) (fun h => pe_callB (by rw [← hK]; exact cr_min (hc rfl)) hg hm PyProof.Rows.boot_min h (by decide) (by decide) h1 h2) ha ok_min1 hs
  | max2 => exact pv_okN (fun h => pe_callB (call_max2 (hc rfl)) hg hm PyProof.Rows.boot_max h (by decide) (by decide) h1 h2) ha ok_max2 sh2
  | min2 => exact pv_okN (fun h => pe_callB (call_min2 (hc rfl)) hg hm PyProof.Rows.boot_min h (by decide) (by decide) h1 h2) ha ok_min2 sh2

/-! ### l.index(x) -/
theorem toPs_get : ∀ {ys : List D} {j : Nat}, (D.toPs ys)[j]? = (ys[j]?).map D.toP
  | [], j => by simp [D.toPs]
  | y :: ys, 0 => by simp [D.toPs]
  | y :: ys, j + 1 => by simp only [D.toPs, List.getElem?_cons_succ]; exact toPs_get
theorem idxOf_at : ∀ {ys : List D} {x : D} {k0 k : Nat}, idxOf ys x k0 = some k → ∃ j z, k = k0 + j ∧ ys[j]? = some z ∧ PyData.eqv z.toP x.toP = true ∧ ∀ (m : Nat) (z' : D), m < j → ys[m]? = some z' → PyData.eqv z'.toP x.toP = false
  | [], _, _, _, h => by cases h
  | y :: ys, x, k0, k, h => by
    unfold idxOf at h
    split at h
    · rename_i hy
      cases h
      exact ⟨0, y, rfl, rfl, hy, fun m z' hm => absurd hm (Nat.not_lt_zero m)⟩
    · rename_i hy
      obtain ⟨j, z, e1, e2, e3, e4⟩ := idxOf_at h
      refine ⟨j + 1, z, by omega, by simpa using e2, e3, fun m z' hm e => ?_⟩
      cases m with
      | zero =>
        simp at e
        subst e
        simpa using hy
      | succ m => exact e4 m z' (by omega) (by simpa using e)
theorem pv_index {b e : Expr} {fb fe : M D} {apos cpos : Pos} (hu : X.A.units + 65 < cLine) (hK : X.K = c.K) (hpb : plainB b = true) (hline : (apos.endLine == cpos.line) = true) (hs : noStar e = true) (hb : PE X b (tR c fb ows ows1 oa q)) (he : PE X e (tR c fe ows1 ows2 ob true)) :
    PE X (.Call (.Attribute b "index" apos) [e] [] cpos) (tV c (M.bind fb fun x => if meOk .index x = true then M.bind (M.bind fe fun d => M.bind (M.ret []) fun ds => M.ret (d :: ds)) fun ds => M.opt (meF .index x ds) else fun _ => .no) ows ows2 (.ow .fr) q) := by
  refine wPE (pe_bm PySem.F.plainAttrs_list PySem.F.slot_list_index PySem.F.type_list_index (r := rIndexD c.K) (by rw [← hK]; exact mt_indexD hu) hb (pa_cons he pa_nil (star_cons hs)) (base_of hpb) (few1 hs) hline (star_cons hs) rfl) fun σ H Q ⟨w, env, hw, sr, z⟩ => ⟨w, env, hw, sr, ?_⟩
  unfold M.bind at z
  cases e1 : fb env with
  | no => rw [e1] at z; exact z
  | ex n env1 => rw [e1] at z; exact z
  | ok l env1 =>
    rw [e1] at z
    intro w1 v1 A1 x1 s1 r1 k1
    simp only at z
    by_cases hm : meOk .index l = true
    · rw [if_pos hm] at z
      have hl : ∃ ys, l = .lst ys := by cases l <;> simp [meOk] at hm; exact ⟨_, rfl⟩
      obtain ⟨ys, rfl⟩ := hl
      obtain ⟨a, us, rfl, hl1, _⟩ := r1.lst
      refine ⟨by rw [hK]; exact .inl ⟨rfl, us, SqL.of hl1⟩, w1, env1, rfl, s1, ?_⟩
      cases e2 : fe env1 with
      | no => rw [e2] at z; exact z
      | ex n env2 => rw [e2] at z; exact exK.mono x1 z
      | ok d env2 =>
        rw [e2] at z
        intro w2 v2 A2 x2 s2 r2 k2
        have r1' : RO c.K w2.H w2.Z oa (.lst ys) (.ref a) A1 := r1.keep x2.z fun a q e _ => k2 rfl a q e
        simp only [M.ret, M.opt] at z
        have em : meF .index (.lst ys) [d] = if d.shp && (D.lst ys).shp then (idxOf ys d 0).map fun (k : Nat) => D.int k else none := rfl
        by_cases hsh : (d.shp && (D.lst ys).shp) = true
        · rw [em, if_pos hsh] at z
          simp only [Bool.and_eq_true] at hsh
          cases ei : idxOf ys d 0 with
          | none => rw [ei] at z; exact z.elim
          | some k =>
            rw [ei] at z
            obtain ⟨j, zz, rfl, g1, g2, g3⟩ := idxOf_at ei
            refine ⟨a, v2, d.toP, D.toPs ys, j, zz.toP, rfl, rfl, r1'.dp hsh.2, r2.dp hsh.1, hsh.2, hsh.1, by rw [toPs_get, g1]; rfl, g2, fun m z' hm e => ?_, ?_⟩
            · rw [toPs_get] at e
              obtain ⟨y', e1, rfl⟩ := Option.map_eq_some_iff.mp e
              exact g3 m y' hm e1
            · rw [Nat.zero_add] at z
              exact z w2 _ _ (x1.trans x2) s2 RO.mkint Tmp.nil fun h => fun a b e => k2 rfl a b (k1 h a b e)
        · rw [em, if_neg hsh] at z; exact z.elim
    · rw [if_neg hm] at z; exact z.elim
/-! ### tests -/
theorem pt_ok2 {op : CmpOp} {k : CO} {r : R2} (ho : OpR X (compareOp op) r) (k2 : Ok2 c.K (cmpM k) (.ow .fr) r oa ob) (ha : PE X a (tR c fa ows ows1 oa q)) (hb : PE X b (tR c fb ows1 ows2 ob true)) (hm : behindInMarks op b = false) :
    PT X (.Compare a [op] [b] pos) (tB_ c (truthM (op2 (cmpM k) fa fb)) ows ows2 q) := by
  refine pt_bool (pt_cmpR ho ha hb hm) (ok2_imp k2) fun env d env' e => ?_
  unfold op2 M.bind at e
  cases e1 : fa env with
  | no => rw [e1] at e; cases e
  | ex => rw [e1] at e; cases e
  | ok x env1 =>
    rw [e1] at e
    simp only at e
    cases e2 : fb env1 with
    | no => rw [e2] at e; cases e
    | ex => rw [e2] at e; cases e
    | ok y env2 =>
      rw [e2] at e
      simp only [M.opt, cmpM] at e
      cases e3 : cmpD k x y with
      | none => rw [e3] at e; cases e
      | some r => rw [e3] at e; cases e; exact ⟨r, rfl⟩
theorem chM_bl {oc oc' : CO} {env env' : Env} {d : D} (e : chM oc oc' fa fb fd env = .ok d env') : ∃ b, d = .bl b := by
  unfold chM M.bind at e
  cases e1 : fa env with
  | no => rw [e1] at e; cases e
  | ex => rw [e1] at e; cases e
  | ok x env1 =>
    rw [e1] at e
    simp only at e
    cases e2 : fb env1 with
    | no => rw [e2] at e; cases e
    | ex => rw [e2] at e; cases e
    | ok y env2 =>
      rw [e2] at e
      simp only [M.opt] at e
      cases e3 : cmpD oc x y with
      | none => rw [e3] at e; cases e
      | some r =>
        rw [e3] at e
        cases r with
        | false => cases e; exact ⟨false, rfl⟩
        | true =>
          simp only [if_true] at e
          cases e4 : fd env2 with
          | no => rw [e4] at e; cases e
          | ex => rw [e4] at e; cases e
          | ok z env3 =>
            rw [e4] at e
            simp only at e
            cases e5 : cmpD oc' y z with
            | none => rw [e5] at e; cases e
            | some r => rw [e5] at e; cases e; exact ⟨r, rfl⟩
/-- no mark behind in -/
def noSet : Expr → Bool
  | .Set _ _ _ => false
  | _ => true
theorem noMarks {op : CmpOp} {b : Expr} (h : noSet b = true) : behindInMarks op b = false := by
  cases b <;> first | rfl | cases h
/-- no own rule as a test -/
def plainT : Expr → Bool
  | .UnaryOp _ _ _ => false
  | .BoolOp _ _ _ => false
  | .IfExp _ _ _ _ => false
  | .Compare _ _ _ _ => false
  | _ => true
theorem plainT_ok {e : Expr} {env : PySem.Env} (h : plainT e = true) : ∀ whole, isTrue e env whole = (do let v ← whole; standAt e.pos; holding [v] (truthy v)) := by
  intro whole
  cases e <;> first | rfl | cases h
end
end Mp
/-! Mr4: isinstance of the suite's error, several classes. -/
namespace Mp
open PySem PySem.Spec PyProof.Rows L2
def rIsET (K : PySem.W.Frag) (D a : Addr) : List V → Hp → VK → Prop := fun xs H Q => ∃ (t : Addr) (cs : List V) (cvs : List Value) (b : Bool), xs = [.ref a, .ref t] ∧ SqT K H t cs ∧ (∀ us, Vals cs us → us = cvs) ∧ PySem.W.kitAny K (.ref D) cvs = some b ∧ Q (.bl b) H
theorem call_isET {X : Cx} {a D : Addr} {oe : Obj} {pn : List (Addr × Obj)} (C : ExcC X.K D) (hz : Zc (.ref D) none oe) (hf : ∃ vs, oe.data = .fields vs) : CallR (X.suite a ((a, oe) :: pn)) (.builtin "isinstance") (rIsET X.K D a) := by
  intro pins s σ H xs us Q I r h
  obtain ⟨t, cs, cvs, b, rfl, ht, hcv, e, q⟩ := h
  cases r with
  | cons rx rr =>
    cases rr with
    | cons rt rr =>
      cases rr
      cases rx
      cases rt
      obtain ⟨hget, _⟩ := I.pin (a, oe) (List.mem_append.mpr (.inl List.mem_cons_self))
      obtain ⟨vs, hv⟩ := hf
      have J : PySem.W.InstAt s.heap a oe D none := by
        obtain ⟨oc, od, oda, osl⟩ := oe
        obtain ⟨h1, h2⟩ := hz
        dsimp only at h1 h2 hv
        subst h1 h2 hv
        exact ⟨hget, rfl, rfl, trivial⟩
      obtain ⟨its, rv, ⟨o, ho, hc, n, hd⟩, _⟩ := I.tuple ht
      have ei := hcv _ rv
      subst ei
      obtain ⟨oc, od, oda, osl⟩ := o
      dsimp only at hc hd
      subst hc hd
      exact PySem.W.kia_tup (PySem.W.handS_kitx_exc C.hg C.hk C.hs C.hd C.ha C.hn C.ht C.hm) I.kIn J ho e (fun z => nomatch z) fun tk => ⟨.bl b, H, I.kept (t' := tk) fun _ _ z => z, rfl, q⟩
end Mp
/-! Mp14: the checker of expressions. -/
namespace Mp
open PySem PySem.Spec PyProof.Rows L2

/-! ### views -/
def vBin : Expr → Option (Expr × Operator × Expr)
  | .BinOp a k b _ => some (a, k, b)
  | _ => none
theorem vBin_eq {e : Expr} {r : Expr × Operator × Expr} (h : vBin e = some r) : ∃ p, e = .BinOp r.1 r.2.1 r.2.2 p := by
  unfold vBin at h
  split at h
  · cases h; exact ⟨_, rfl⟩
  · cases h
def vUn : Expr → Option (UnaryOp × Expr)
  | .UnaryOp k a _ => some (k, a)
  | _ => none
theorem vUn_eq {e : Expr} {r : UnaryOp × Expr} (h : vUn e = some r) : ∃ p, e = .UnaryOp r.1 r.2 p := by
  unfold vUn at h
  split at h
  · cases h; exact ⟨_, rfl⟩
  · cases h
def vCmp : Expr → Option (Expr × CmpOp × Expr)
  | .Compare a [k] [b] _ => some (a, k, b)
  | _ => none
theorem vCmp_eq {e : Expr} {r : Expr × CmpOp × Expr} (h : vCmp e = some r) : ∃ p, e = .Compare r.1 [r.2.1] [r.2.2] p := by
  unfold vCmp at h
  split at h
  · cases h; exact ⟨_, rfl⟩
  · cases h
def vCh : Expr → Option (Expr × CmpOp × CmpOp × Expr × Expr)
  | .Compare a [k, l] [b, d] _ => some (a, k, l, b, d)
  | _ => none
theorem vCh_eq {e : Expr} {r : Expr × CmpOp × CmpOp × Expr × Expr} (h : vCh e = some r) : ∃ p, e = .Compare r.1 [r.2.1, r.2.2.1] [r.2.2.2.1, r.2.2.2.2] p := by
  unfold vCh at h
  split at h
  · cases h; exact ⟨_, rfl⟩
  · cases h
def vBool : Expr → Option (BoolOp × List Expr)
  | .BoolOp k es _ => some (k, es)
  | _ => none
theorem vBool_eq {e : Expr} {r : BoolOp × List Expr} (h : vBool e = some r) : ∃ p, e = .BoolOp r.1 r.2 p := by
  unfold vBool at h
  split at h
  · cases h; exact ⟨_, rfl⟩
  · cases h
def vIf : Expr → Option (Expr × Expr × Expr)
  | .IfExp c a b _ => some (c, a, b)
  | _ => none
theorem vIf_eq {e : Expr} {r : Expr × Expr × Expr} (h : vIf e = some r) : ∃ p, e = .IfExp r.1 r.2.1 r.2.2 p := by
  unfold vIf at h
  split at h
  · cases h; exact ⟨_, rfl⟩
  · cases h
def vLst : Expr → Option (List Expr)
  | .List es _ => some es
  | _ => none
theorem vLst_eq {e : Expr} {r : List Expr} (h : vLst e = some r) : ∃ p, e = .List r p := by
  unfold vLst at h
  split at h
  · cases h; exact ⟨_, rfl⟩
  · cases h
def vSub : Expr → Option (Expr × Expr)
  | .Subscript a b _ => some (a, b)
  | _ => none
theorem vSub_eq {e : Expr} {r : Expr × Expr} (h : vSub e = some r) : ∃ p, e = .Subscript r.1 r.2 p := by
  unfold vSub at h
  split at h
  · cases h; exact ⟨_, rfl⟩
  · cases h
def vSl : Expr → Option (Expr × Option Expr × Option Expr)
  | .Subscript a (.Slice lo hi none _) _ => some (a, lo, hi)
  | _ => none
theorem vSl_eq {e : Expr} {r : Expr × Option Expr × Option Expr} (h : vSl e = some r) : ∃ p p2, e = .Subscript r.1 (.Slice r.2.1 r.2.2 none p2) p := by
  unfold vSl at h
  split at h
  · cases h; exact ⟨_, _, rfl⟩
  · cases h
/-- f(e, ..) -/
def vCall : Expr → Option (Str × Expr × List Expr)
  | .Call (.Name f _) (e :: es) [] _ => some (f, e, es)
  | _ => none
theorem vCall_eq {e : Expr} {r : Str × Expr × List Expr} (h : vCall e = some r) : ∃ p p2, e = .Call (.Name r.1 p) (r.2.1 :: r.2.2) [] p2 := by
  unfold vCall at h
  split at h
  · cases h; exact ⟨_, _, rfl⟩
  · cases h
/-- o.m(e) -/
def vM1 : Expr → Option (Expr × Str × Pos × Expr × Pos)
  | .Call (.Attribute b m ap) [e] [] cp => some (b, m, ap, e, cp)
  | _ => none
theorem vM1_eq {e : Expr} {r : Expr × Str × Pos × Expr × Pos} (h : vM1 e = some r) : e = .Call (.Attribute r.1 r.2.1 r.2.2.1) [r.2.2.2.1] [] r.2.2.2.2 := by
  unfold vM1 at h
  split at h
  · cases h; rfl
  · cases h
def vConst : Expr → Option Const
  | .Constant k _ _ => some k
  | _ => none
theorem vConst_eq {e : Expr} {r : Const} (h : vConst e = some r) : ∃ j p, e = .Constant r j p := by
  unfold vConst at h
  split at h
  · cases h; exact ⟨_, _, rfl⟩
  · cases h

/-! ### more rules -/
section
variable {X : Cx} {c : Cc} {f g fa fb fd : M D} {ows ows1 ows2 ows' ows'' : Ows} {o o1 o2 oa ob od : Ow} {q q1 q2 : Bool} {e pe a b d : Expr} {pos : Pos}
theorem pv_weak (h : PE X e (tV c f ows ows' o q)) (hw : weakB 0 ows' ows'' = true) : PE X e (tV c f ows ows'' o q) := wPE h fun σ H Q ⟨w, env, hw', sr, z⟩ => ⟨w, env, hw', sr, by
  cases e1 : f env with
  | no => rw [e1] at z; exact z
  | ex n env1 => rw [e1] at z; exact z
  | ok d env1 =>
    rw [e1] at z
    intro w1 v A x1 s1 r1 t1 k1
    obtain ⟨w2, x2, eh, s2⟩ := s1.weak hw
    have := z w2 v A (x1.trans x2) s2 (RO.ext s1 t1.f x2 r1) (Tmp.ext s1 t1 (fun a ha => r1.ne a ha) x1 x2) fun h => by
      intro a b e
      rw [eh]
      exact k1 h a b e
    rw [eh] at this
    exact this⟩
/-- a value that hangs on nothing, looked at, may be kept -/
theorem look_fr (h : PE X e (tR c f ows ows' .fr q)) : PE X e (tV c f ows ows' .fr q) := wPE h fun σ H Q ⟨w, env, hw', sr, z⟩ => ⟨w, env, hw', sr, by
  cases e1 : f env with
  | no => rw [e1] at z; exact z
  | ex n env1 => rw [e1] at z; exact z
  | ok d env1 =>
    rw [e1] at z
    intro w1 v A x1 s1 r1 k1
    exact z w1 v A x1 s1 r1 ⟨fun a ha => absurd ha (r1.2 a), fun a i ha => absurd ha (r1.2 a), fun a ha => absurd ha (r1.2 a)⟩ k1⟩
theorem pv_neg (ha : PE X a (tR c fa ows ows' o1 q)) : PE X (.UnaryOp .USub a pos) (tV c (op1 negD fa) ows ows' (.ow .fr) q) := by
  refine wPE (pe_un un_neg ha) fun σ H Q ⟨w, env, hw, sr, z⟩ => ⟨w, env, hw, sr, ?_⟩
  unfold op1 M.bind at z
  cases e1 : fa env with
  | no => rw [e1] at z; exact z
  | ex n env1 => rw [e1] at z; exact z
  | ok d env1 =>
    rw [e1] at z
    intro w1 v A x1 s1 r1 k1
    cases d with
    | int i => exact ⟨i, r1.int, z w1 _ _ x1 s1 RO.mkint Tmp.nil k1⟩
    | _ => exact z.elim
theorem pv_cmp {k : CO} (hK : X.K = c.K) (hu : X.A.units + 66 < cLine) (ha : PE X a (tR c fa ows ows1 oa q)) (hb : PE X b (tR c fb ows1 ows2 ob true)) (hm : noSet b = true) : PE X (.Compare a [opC k] [b] pos) (tV c (op2 (cmpM k) fa fb) ows ows2 (.ow .fr) q) := by
  obtain ⟨r, h1, h2⟩ := cmp_rule hK hu k
  exact (pe_ok2 ha hb (fun p1 p2 => pe_cmpR h1 p1 p2 (noMarks hm)) (h2 oa ob))
theorem pt_cmp' {k : CO} (hK : X.K = c.K) (hu : X.A.units + 66 < cLine) (ha : PE X a (tR c fa ows ows1 oa q)) (hb : PE X b (tR c fb ows1 ows2 ob true)) (hm : noSet b = true) : PT X (.Compare a [opC k] [b] pos) (tB_ c (truthM (op2 (cmpM k) fa fb)) ows ows2 q) := by
  obtain ⟨r, h1, h2⟩ := cmp_rule hK hu k
  exact pt_ok2 h1 (h2 oa ob) ha hb (noMarks hm)
theorem lastM {op op' : CmpOp} {b d : Expr} (h : noSet d = true) : lastMarks [op, op'] [b, d] = false := by
  show lastMarks [op'] [d] = false
  show behindInMarks op' d = false
  exact noMarks h
theorem pv_ch' {k l : CO} (hK : X.K = c.K) (hu : X.A.units + 66 < cLine) (ha : PE X a (tR c fa ows ows1 oa q)) (hb : PE X b (tR c fb ows1 ows2 ob true)) (hd : PE X d (tR c fd ows2 ows2 od true)) (hm : noSet d = true) : PE X (.Compare a [opC k, opC l] [b, d] pos) (tV c (chM k l fa fb fd) ows ows2 (.ow .fr) q) := by
  obtain ⟨r, h1, h2⟩ := cmp_rule hK hu k
  obtain ⟨r', h1', h2'⟩ := cmp_rule hK hu l
  exact (wPE (pe_chain h1 h1' ha hb hd (lastM hm)) (ch_imp (h2 oa ob) (h2' ob od)))
theorem pt_ch' {k l : CO} (hK : X.K = c.K) (hu : X.A.units + 66 < cLine) (ha : PE X a (tR c fa ows ows1 oa q)) (hb : PE X b (tR c fb ows1 ows2 ob true)) (hd : PE X d (tR c fd ows2 ows2 od true)) (hm : noSet d = true) : PT X (.Compare a [opC k, opC l] [b, d] pos) (tB_ c (truthM (chM k l fa fb fd)) ows ows2 q) := by
  obtain ⟨r, h1, h2⟩ := cmp_rule hK hu k
  obtain ⟨r', h1', h2'⟩ := cmp_rule hK hu l
  exact pt_bool (pt_chain h1 h1' ha hb hd (lastM hm)) (ch_imp (h2 oa ob) (h2' ob od)) fun env d env' e => chM_bl e
end

/-! ### what the checker knows -/
structure Sg where
  N : List Str
  sc : Scope
  pins : List Nat
  pinw : List Nat
  calm : Bool
  calls : Bool
  tr : Bool
  fnl : Str → Bool
  gl : Str → Bool
  kt : Str → Bool
  fn : Str → Option (Nat × Ow)
  lo : Str → Option (Nat × Ow)
  exc : Str → Bool
  es : Option Nat
  x : Ows
  r : Ows
  ro : Ow
def Sg.vis (S : Sg) (x : Str) : Bool := match S.sc.names.lookup x with
  | some .local => true
  | some .cell => true
  | some .free => true
  | _ => false
def Sg.glo (S : Sg) (x : Str) : Bool := match S.sc.names.lookup x with
  | some .globalImplicit => true
  | _ => false
def Sg.loc (S : Sg) (x : Str) : Bool := match S.sc.names.lookup x with
  | some .local => true
  | some .cell => S.fnl x
  | _ => false
def noDbg (x : Str) : Bool := !(x == ("__debug__" : Str)) && !(x == ("__classdict__" : Str))
/-- built-in names that are the program's nowhere -/
def bltNames : List Str := ["len", "abs", "int", "str", "list", "tuple", "dict", "sorted", "sum", "any", "all", "max", "min", "bool", "isinstance", "range", "enumerate", "zip", "reversed", "set", "ValueError"]
structure GOk (X : Cx) (c : Cc) (C : Cs) (S : Sg) : Prop where
  N : X.N = S.N
  sc : X.env.scope = S.sc
  K : X.K = c.K
  nd : X.N.Nodup
  hu : X.A.units + 66 < cLine
  calm : S.calm = true → X.calm = true
  pas : S.calm = true → PassesOwn (model X.prog X.w) X.A X.env X.xe
  tkc : S.calls = true → S.calm = true
  blt : ∀ x, x ∈ bltNames → X.mg x = none
  gl : ∀ x, S.gl x = true → ∃ d v u, X.mg x = some u ∧ L2.RelV v u ∧ C.gl x = some d ∧ ∀ H Z, Rep c.K H Z d v
  kt : ∀ x, S.kt x = true → ∃ t ks vs a es n, C.gl x = some (.dct t ks vs) ∧ X.mg x = some (.ref a) ∧ KDict X.K X.w a es n ∧ ∀ z, ∃ r, PySem.W.nsIn X.K a z = some r ∧ r.isSome = (ks.any fun k => decide (k = .str z)) ∧ ∀ d, dGet ks vs (.str z) = some d → ∃ u v, r = some u ∧ L2.RelV v u ∧ ∀ H Z, Rep c.K H Z d v
  fn : S.calls = true → Takes X c.W ∧ ∀ f np ro, S.fn f = some (np, ro) → ∃ k fa fd pnames, FnOk X.prog X.w X.K X.mg X.base (L2.CX X.prog X.w) k fa fd pnames (spOf c.K (C.cl f) (poF (S.lo f)) ro np) ∧ Room k X.A ∧ X.mg f = some (.ref fa) ∧ PySem.W.keepIn X.K (.ref fa) = true ∧ Binds X.K fd pnames []
  exc : ∀ x, S.exc x = true → X.mg x = some (.ref (He.ga c.K x)) ∧ PySem.W.keepIn X.K (.ref (He.ga c.K x)) = true ∧ Raises X (.ref (He.ga c.K x)) ∧ ∃ B newId initId bmB, ExcBaseFacts B newId initId bmB ∧ PySem.W.excIn X.K (He.ga c.K x) bmB newId = true
  exm : ∀ x y, S.exc x = true → S.exc y = true → PySem.W.exmOne X.K (.ref (He.ga c.K x)) (.ref (He.ga c.K y)) = some (C.sub x y)
  exx : ∀ x, C.isx x = true → S.exc x = true
  kx : ∀ x y, S.exc x = true → S.exc y = true → PySem.W.kitOne X.K (.ref (He.ga c.K x)) (.ref (He.ga c.K y)) = some (C.sub x y)
  kv : ∀ x, S.exc x = true → PySem.W.kitOne X.K (.ref (He.ga c.K x)) (.type "ValueError") = some (C.sub x "ValueError")
  ec : ∀ x, S.exc x = true → ExcC X.K (He.ga c.K x)
  fnl : ∀ x, S.fnl x = true → X.fn x = true
  kd : X.env.scope.kind = .function
  stk : S.tr = true → X.stack = X.env :: X.outer ∧ X.env.frame = some X.env.locals
  es : ∀ i, S.es = some i → ∃ a n, S.exc n = true ∧ c.pn i = some (.ref a, some (.exc n)) ∧ CallR X (.builtin "isinstance") (rIsE X.K (He.ga c.K n) a) ∧ CallR X (.builtin "isinstance") (rIsET X.K (He.ga c.K n) a)
  x : c.x = S.x
  r : c.r = S.r
  ro : c.ro = S.ro
  pn : ∀ i, i ∉ S.pins → c.pn i = none
  pw : ∀ i, i ∉ S.pinw → ∀ p, c.pn i = some p → p.2 = none
section
variable {X : Cx} {c : Cc} {C : Cs} {S : Sg}
theorem GOk.vis (G : GOk X c C S) {x : Str} (h : S.vis x = true) : Vis X.env.scope x := by
  unfold Vis
  rw [G.sc]
  unfold Sg.vis at h
  split at h
  · rename_i e; exact .inl e
  · rename_i e; exact .inr (.inl e)
  · rename_i e; exact .inr (.inr e)
  · cases h
theorem GOk.loc (G : GOk X c C S) : LocB X S.loc := fun x h => by
  unfold L2.Loc
  rw [G.sc]
  unfold Sg.loc at h
  split at h
  · rename_i e; exact ⟨.inl e, .inr e⟩
  · rename_i e; exact ⟨.inr e, .inl (G.fnl x h)⟩
  · cases h
theorem GOk.glo (G : GOk X c C S) {x : Str} (h : S.glo x = true) : Gl X x := by
  show X.env.scope.names.lookup x = some .globalImplicit
  rw [G.sc]
  unfold Sg.glo at h
  split at h
  · rename_i e; exact e
  · cases h
end
end Mp
/-! Ms6: several except clauses, each with a name or without. -/
namespace Mp
open PySem PySem.Spec PyProof.Rows L2
abbrev HdT := Value × Option Nat × (Addr → Value → Option Addr → TS)
/-- what the clauses wish of an exception of the body, one after the other -/
def wH (K : PySem.W.Frag) (Wout : WX) (D : Ends) : List HdT → WX
  | [] => Wout
  | (c, none, ts) :: r => fun cls d σ H => ∃ b, PySem.W.exmOne K cls c = some b ∧ (b = true → ∀ a, H a = Option.none → ts a cls d D σ H) ∧ (b = false → wH K Wout D r cls d σ H)
  | (c, some i, ts) :: r => fun cls d σ H => ∃ b, PySem.W.exmOne K cls c = Option.some b ∧ (b = true → ∀ a, H a = Option.none → ts a cls d { nx := fun σ' H' => D.nx (σ'.set i Option.none) H', rt := D.rt, bk := fun σ' H' => D.bk (σ'.set i Option.none) H', ct := fun σ' H' => D.ct (σ'.set i Option.none) H' } (σ.set i (Option.some (.ref a))) H) ∧
    (b = false → wH K Wout D r cls d σ H)
inductive HdsA (X : Cx) : List ExceptHandler → List HdT → Prop
  | nil : HdsA X [] []
  | cons {x : Str} {c : Value} {ts : Addr → Value → Option Addr → TS} {b₀ : Stmt} {suite : List Stmt} {np pos' : Pos} {hds : List ExceptHandler} {l : List HdT} (hc : Names X x c)
      (hsu : ∀ (a : Addr) (oe : Obj) (cls : Value) (d : Option Addr) (pn : List (Addr × Obj)), Zc cls d oe → (∃ vs, oe.data = .fields vs) → PSs (X.suite a ((a, oe) :: pn)) (b₀ :: suite) (ts a cls d)) (r : HdsA X hds l) :
      HdsA X (.ExceptHandler (some (.Name x np)) none (b₀ :: suite) pos' :: hds) ((c, none, ts) :: l)
  | consA {x n : Str} {c : Value} {i : Nat} {ts : Addr → Value → Option Addr → TS} {b₀ : Stmt} {suite : List Stmt} {np pos' : Pos} {hds : List ExceptHandler} {l : List HdT} (hN : X.N.Nodup) (hi : X.N[i]? = some n) (hln : X.env.kindOf n = some .local) (hc : Names X x c)
      (hsu : ∀ (a : Addr) (oe : Obj) (cls : Value) (d : Option Addr) (pn : List (Addr × Obj)), Zc cls d oe → (∃ vs, oe.data = .fields vs) → PSs (X.suite a ((a, oe) :: pn)) (b₀ :: suite) (ts a cls d)) (r : HdsA X hds l) :
      HdsA X (.ExceptHandler (some (.Name x np)) (some n) (b₀ :: suite) pos' :: hds) ((c, some i, ts) :: l)
section
variable {X : Cx} {body : List Stmt} {h₀ : ExceptHandler} {hds : List ExceptHandler} {l : List HdT} {pos : Pos} {tb : WX → TS} {Wout : WX}
theorem ps_try_hds (hs : X.stack = X.env :: X.outer) (hf : X.env.frame = some X.env.locals) (tk : Takes X Wout)
    (hb : ∀ (W : WX) (pn : List (Addr × Obj)) (xe : Value → Shared → Prop), Takes (X.tr pn xe) W → PassesOwn (model X.prog X.w) X.A X.env xe → PSs (X.tr pn xe) body (tb W))
    (hh : HdsA X (h₀ :: hds) l) : PS X (.Try body (h₀ :: hds) [] [] pos) (fun D σ H => tb (wH X.K Wout D l) D σ H) := by
  refine ⟨fun pins s σ H D I h => ?_⟩
  have ok := I.ok
  have hfr : X.A.frames = some (X.env :: X.outer) := by rw [ok.frames, hs]
  refine wpAny_Try_except ?_
  refine wpAny_mono ((hb (wH X.K Wout D l) (X.pn ++ pins) (fun e s₁ => wpAny (model X.prog X.w) X.A (noteFrame e X.env) (fun _ s₂ => wpAny (model X.prog X.w) X.A (setFlight e none) (fun _ s₃ =>
    wpAny (model X.prog X.w) X.A (handleBy e X.env (h₀ :: hds)) (SP X pins D) X.xe s₃) X.xe s₂) X.xe s₁) (fun u s' xx => ?_) PassesOwn.looking).run [] s σ H D (I.toTry _) h) (fun f s1 hsp => ?_) (fun e s1 he => he)
  · -- the catch
    obtain ⟨a, B, sI, pins', σ', H', cls, d, rfl, J', nb, up, sky, na, os, ag, w⟩ := xx
    have J : Inv X pins σ' H' sI := J'.ofTry ok
    have sky' : Sky B (X.env :: X.outer) a (Zc cls d) X.env.locals s'.heap := by rw [← hs]; exact sky
    show wpAny (model X.prog X.w) X.A (noteFrame (.ref a) X.env) _ _ _
    refine Sky.land Zc.steady hfr hf sky' fun h3 fl3 up3 => ?_
    have J3 : Inv X pins σ' H' { s' with heap := h3 } := J.landed nb fl3.1 (up.trans up3) os ag
    obtain ⟨oe3, vs3, he3, hz3, hd3⟩ := fl3.there
    have notFr : ∀ {h : Heap} {o : Obj} {vs : Array Value}, h.FunFrames B (X.env :: X.outer) → h.get? a = some o → o.data = .fields vs → a ∉ L2.frs (X.env :: X.outer) := fun {h o vs} ff e dd hm => by
      obtain ⟨_, o', e', hnf⟩ := ff.mem hm
      rw [e] at e'; cases e'
      exact hnf _ dd
    have nfr := notFr fl3.2.2.1 he3 hd3
    have nL : a ≠ X.env.locals := fun z => nfr (List.mem_filterMap.mpr ⟨X.env, List.mem_cons_self, by rw [hf, z]⟩)
    have nF : a ∉ X.fs := fun hm => by
      obtain ⟨e, he, q⟩ := List.mem_filterMap.mp hm
      exact nfr (List.mem_filterMap.mpr ⟨e, List.mem_cons_of_mem _ he, q⟩)
    have S3 := J3.suite he3 hd3 na nL nF
    have go : ∀ {hds' : List ExceptHandler} {l' : List HdT}, HdsA X hds' l' → wH X.K Wout D l' cls d σ' H' →
        wpAny (model X.prog X.w) X.A (handleBy (.ref a) X.env hds') (SP X pins D) X.xe { s' with heap := h3 } := by
      intro hds' l' hk
      induction hk with
      | nil =>
        intro w
        refine wpAny_handleBy_nil ?_
        obtain ⟨k1, k2, k3, oe, vs, T, oT, ts', he, hz, hd, h1, hr⟩ := id fl3
        unfold PySem.passOn
        refine wpAny_bind (wpAny_field he hd h1 ?_)
        rw [if_neg (show ¬ ((Value.ref T == Value.none) = true) from by simp)]
        have fin : wpAny (model X.prog X.w) X.A (setFlight (.ref a) X.env.frame) (fun _ s4 => wpAny (model X.prog X.w) X.A (throw (.ref a) : Sem Flow) (SP X pins D) X.xe s4) X.xe { s' with heap := h3 } := by
          rw [hf]
          refine HandSPX.setFlight_upZ fl3 fun h4 hh4 up4 => wpAny_throw (tk _ _ ?_)
          exact ⟨a, B, sI, pins, σ', H', cls, d, rfl, J, nb, (up.trans up3).trans up4, .inr (.inr (by rw [hs]; exact hh4)), na, os, ag, w⟩
        first
          | exact wpAny_bind (wpAny_pure (wpAny_bind fin))
          | exact wpAny_bind fin
      | @cons x c ts b₀ suite np pos' hds2 l2 hc hsu r ih =>
        intro w
        obtain ⟨b, hb1, hyes, hno⟩ := w
        refine wpAny_handleBy_cons (codeAny_handlers_test ?_) (by intro q; cases q)
        have LT : PySem.W.Looks (model X.prog X.w) h3 (typeOf (.ref a)) cls := fun A Q E s k q => wpAny_typeOf_ref (k _ _ he3) (by rw [hz3.1]; exact q)
        have LM := PySem.W.exm_one (M := model X.prog X.w) (J3.kIn) LT hb1
        have test : ∀ {Q : Value → Shared → Prop} {E : Value → Shared → Prop}, Q c { s' with heap := h3 } → wpAny (model X.prog X.w) (X.A.mark (some (.ref a))) (eval (.Name x np) X.env) Q E { s' with heap := h3 } := fun {Q E} q => by
          obtain ⟨hg, hdbg, hm | ⟨hm, hv, hnn⟩⟩ := hc
          · exact ld_glob (X := X.suite a ((a, oe3) :: (X.pn ++ pins))) S3 hg hm q hdbg
          · exact ld_blt (X := X.suite a ((a, oe3) :: (X.pn ++ pins))) S3 hg hm hv q hnn hdbg
        refine test (LM.here ?_)
        cases b with
        | true =>
          refine codeAny_handlers_suite ?_
          refine HandSPX.lands_againZ fl3 fun h4 fl4 up4 => ?_
          have J4 : Inv X pins σ' H' { s' with heap := h4 } := J.landed nb fl4.1 ((up.trans up3).trans up4) os ag
          obtain ⟨oe4, vs4, he4, hz4, hd4⟩ := fl4.there
          have S4 := J4.suite he4 hd4 na nL nF
          refine wpAny_mono ((hsu a oe4 cls d (X.pn ++ pins) hz4 ⟨_, hd4⟩).run [] _ _ H' _ S4 (hyes rfl a na)) (fun f s6 hsp => ?_) (fun _ _ z => False.elim z)
          cases f with
          | next =>
            obtain ⟨σ6, H6, S6, q6⟩ := hsp
            exact ⟨_, _, S6.unsuite ok, q6⟩
          | brk =>
            obtain ⟨σ6, H6, S6, q6⟩ := hsp
            exact ⟨_, _, S6.unsuite ok, q6⟩
          | cont =>
            obtain ⟨σ6, H6, S6, q6⟩ := hsp
            exact ⟨_, _, S6.unsuite ok, q6⟩
          | ret u =>
            obtain ⟨v6, σ6, H6, S6, r6, q6⟩ := hsp
            exact ⟨_, _, _, S6.unsuite ok, r6, q6⟩
        | false =>
          show wpAny _ X.A (handleBy (.ref a) X.env hds2) _ _ _
          exact ih (hno rfl)
      | @consA x n c i ts b₀ suite np pos' hds2 l2 hN hi hln hc hsu r ih =>
        intro w
        obtain ⟨b, hb1, hyes, hno⟩ := w
        refine wpAny_handleBy_cons (codeAny_handlers_test ?_) (by intro q; cases q)
        have LT : PySem.W.Looks (model X.prog X.w) h3 (typeOf (.ref a)) cls := fun A Q E s k q => wpAny_typeOf_ref (k _ _ he3) (by rw [hz3.1]; exact q)
        have LM := PySem.W.exm_one (M := model X.prog X.w) (J3.kIn) LT hb1
        have test : ∀ {Q : Value → Shared → Prop} {E : Value → Shared → Prop}, Q c { s' with heap := h3 } → wpAny (model X.prog X.w) (X.A.mark (some (.ref a))) (eval (.Name x np) X.env) Q E { s' with heap := h3 } := fun {Q E} q => by
          obtain ⟨hg, hdbg, hm | ⟨hm, hv, hnn⟩⟩ := hc
          · exact ld_glob (X := X.suite a ((a, oe3) :: (X.pn ++ pins))) S3 hg hm q hdbg
          · exact ld_blt (X := X.suite a ((a, oe3) :: (X.pn ++ pins))) S3 hg hm hv q hnn hdbg
        refine test (LM.here ?_)
        cases b with
        | true =>
          refine codeAny_handlers_suite_as ?_
          refine HandSPX.lands_againZ fl3 fun h4 fl4 up4 => ?_
          have J4 : Inv X pins σ' H' { s' with heap := h4 } := J.landed nb fl4.1 ((up.trans up3).trans up4) os ag
          obtain ⟨oe4, vs4, he4, hz4, hd4⟩ := fl4.there
          have S4 := J4.suite he4 hd4 na nL nF
          refine store_ok (X := X.suite a ((a, oe4) :: (X.pn ++ pins))) (v := .ref a) S4 hN hi (.inl hln) rfl (fun s5 S5 => ?_) (.inr hln)
          refine wpAny_mono ((hsu a oe4 cls d (X.pn ++ pins) hz4 ⟨_, hd4⟩).run [] s5 _ H' _ S5 (hyes rfl a na)) (fun f s6 hsp => ?_) (fun _ _ z => False.elim z)
          have end_ : ∀ {σ6 : L2.St} {H6 : Hp} {Q : Shared → Prop}, Inv (X.suite a ((a, oe4) :: (X.pn ++ pins))) [] σ6 H6 s6 → (∀ s7, Inv X pins (σ6.set i none) H6 s7 → Q s7) →
              wpAny (model X.prog X.w) X.A (do bindName X.env n .none; unbindBehindTheSuite X.env n pos') (fun _ s7 => Q s7) X.xe s6 := fun {σ6 H6 Q} S6 hq => gone_ok (S6.unsuite ok) hN hi hln hq
          cases f with
          | next =>
            obtain ⟨σ6, H6, S6, q6⟩ := hsp
            exact end_ S6 fun s7 J7 => ⟨_, _, J7, q6⟩
          | brk =>
            obtain ⟨σ6, H6, S6, q6⟩ := hsp
            exact end_ S6 fun s7 J7 => ⟨_, _, J7, q6⟩
          | cont =>
            obtain ⟨σ6, H6, S6, q6⟩ := hsp
            exact end_ S6 fun s7 J7 => ⟨_, _, J7, q6⟩
          | ret u =>
            obtain ⟨v6, σ6, H6, S6, r6, q6⟩ := hsp
            exact end_ S6 fun s7 J7 => ⟨_, _, _, J7, r6, q6⟩
        | false =>
          show wpAny _ X.A (handleBy (.ref a) X.env hds2) _ _ _
          exact ih (hno rfl)
    exact go hh w
  · cases f with
    | next =>
      obtain ⟨σ', H', J', q⟩ := hsp
      exact wpAny_execs_nil ⟨σ', H', J'.ofTry ok, q⟩
    | brk =>
      obtain ⟨σ', H', J', q⟩ := hsp
      exact ⟨σ', H', J'.ofTry ok, q⟩
    | cont =>
      obtain ⟨σ', H', J', q⟩ := hsp
      exact ⟨σ', H', J'.ofTry ok, q⟩
    | ret u =>
      obtain ⟨v, σ', H', J', r, q⟩ := hsp
      exact ⟨v, σ', H', J'.ofTry ok, r, q⟩
end
end Mp
/-! Mp15: the checker of expressions, and that it is right. -/
namespace Mp
open PySem PySem.Spec PyProof.Rows L2

abbrev VR := Option (Ows × Ow × Bool)
abbrev TR := Option (Ows × Bool)
structure Ck where
  v : Expr → Ows → VR
  r : Expr → Ows → VR
  t : Expr → Ows → TR
instance : Inhabited Ck := ⟨⟨fun _ _ => none, fun _ _ => none, fun _ _ => none⟩⟩
def CkOk (S : Sg) (C : Cs) (k : Ck) (p : M D × M Bool) : Prop := ∀ (X : Cx) (c : Cc), GOk X c C S →
  (∀ pe ows r, k.v pe ows = some r → PE X pe (tV c p.1 ows r.1 r.2.1 r.2.2)) ∧ (∀ pe ows r, k.r pe ows = some r → PE X pe (tR c p.1 ows r.1 r.2.1 r.2.2)) ∧ (∀ pe ows r, k.t pe ows = some r → PT X pe (tB_ c p.2 ows r.1 r.2))
/-- lists of these -/
def CksOk (S : Sg) (C : Cs) : List Ck → List (M D × M Bool) → Prop
  | [], [] => True
  | k :: ks, p :: ps => CkOk S C k p ∧ CksOk S C ks ps
  | _, _ => False
/-- the truth of a looked-at value -/
def mkT (r : Expr → Ows → VR) : Expr → Ows → TR := fun pe ows => if plainT pe = true then (match r pe ows with
  | some x => some (x.1, x.2.2)
  | none => none) else none
def mkV (v : Expr → Ows → VR) : Ck := ⟨v, v, mkT v⟩
section
variable {S : Sg} {C : Cs} {f : M D}
theorem mkT_ok {r : Expr → Ows → VR} {X : Cx} {c : Cc} (G : GOk X c C S) (h : ∀ pe ows x, r pe ows = some x → PE X pe (tR c f ows x.1 x.2.1 x.2.2)) : ∀ pe ows x, mkT r pe ows = some x → PT X pe (tB_ c (truthM f) ows x.1 x.2) := by
  intro pe ows x e
  unfold mkT at e
  split at e
  · rename_i hp
    split at e
    · rename_i y ey
      cases e
      exact pt_look (h pe ows y ey) (plainT_ok hp) G.K
    · cases e
  · cases e
theorem mkV_ok {v : Expr → Ows → VR} (h : ∀ X c, GOk X c C S → ∀ pe ows x, v pe ows = some x → PE X pe (tV c f ows x.1 x.2.1 x.2.2)) : CkOk S C (mkV v) (val f) := fun X c G =>
  ⟨h X c G, fun pe ows x e => look_of (h X c G pe ows x e), mkT_ok G fun pe ows x e => look_of (h X c G pe ows x e)⟩
end

/-! ### lists -/
/-- kept, frozen -/
def ckAV : List Ck → List Expr → Ows → Option (Ows × Bool)
  | [], [], ows => some (ows, true)
  | k :: ks, e :: es, ows => if noStar e = true then (match k.v e ows with
    | some a => (match ckAV ks es a.1 with
      | some b => some (b.1, a.2.2 && b.2)
      | none => none)
    | none => none) else none
  | _, _, _ => none
/-- looked at; the later ones change nothing -/
def ckAR : List Ck → List Expr → Ows → Option (Ows × List Ow × Bool)
  | [], [], ows => some (ows, [], true)
  | k :: ks, e :: es, ows => if noStar e = true then (match k.r e ows with
    | some a => (match ckAR ks es a.1 with
      | some b => if b.2.2 = true then some (b.1, a.2.1 :: b.2.1, a.2.2) else none
      | none => none)
    | none => none) else none
  | _, _, _ => none
section
variable {S : Sg} {C : Cs} {X : Cx} {c : Cc}
theorem ckAV_ok (G : GOk X c C S) : ∀ {ks : List Ck} {ps : List (M D × M Bool)} {es : List Expr} {ows : Ows} {r : Ows × Bool}, CksOk S C ks ps → ckAV ks es ows = some r → PA X es (tAV c (evs ps) ows r.1 r.2) ∧ es.all noStar = true ∧ es.length = ps.length
  | [], [], [], ows, r, _, h => by cases h; exact ⟨av_nil, rfl, rfl⟩
  | k :: ks, p :: ps, e :: es, ows, r, hk, h => by
    unfold ckAV at h
    split at h
    · rename_i hs
      split at h
      · rename_i a ea
        split at h
        · rename_i b eb
          cases h
          obtain ⟨i1, i2, i3⟩ := ckAV_ok G hk.2 eb
          exact ⟨av_cons hs (keep_fr ((hk.1 X c G).1 e ows a ea)) i1, by simp [hs, i2], by simp [i3]⟩
        · cases h
      · cases h
    · cases h
  | [], _ :: _, _, _, _, hk, _ => hk.elim
  | _ :: _, [], _, _, _, hk, _ => hk.elim
  | [], [], _ :: _, _, _, _, h => by cases h
  | _ :: _, _ :: _, [], _, _, _, h => by cases h
theorem ckAR_ok (G : GOk X c C S) : ∀ {ks : List Ck} {ps : List (M D × M Bool)} {es : List Expr} {ows : Ows} {r : Ows × List Ow × Bool}, CksOk S C ks ps → ckAR ks es ows = some r → PA X es (tAR c (evs ps) ows r.1 r.2.1 r.2.2) ∧ es.all noStar = true ∧ es.length = ps.length
  | [], [], [], ows, r, _, h => by cases h; exact ⟨ar_nil, rfl, rfl⟩
  | k :: ks, p :: ps, e :: es, ows, r, hk, h => by
    unfold ckAR at h
    split at h
    · rename_i hs
      split at h
      · rename_i a ea
        split at h
        · rename_i b eb
          split at h
          · rename_i hq
            cases h
            obtain ⟨i1, i2, i3⟩ := ckAR_ok G hk.2 eb
            rw [hq] at i1
            exact ⟨ar_cons hs ((hk.1 X c G).2.1 e ows a ea) i1, by simp [hs, i2], by simp [i3]⟩
          · cases h
        · cases h
      · cases h
    · cases h
  | [], _ :: _, _, _, _, hk, _ => hk.elim
  | _ :: _, [], _, _, _, hk, _ => hk.elim
  | [], [], _ :: _, _, _, _, h => by cases h
  | _ :: _, _ :: _, [], _, _, _, h => by cases h
theorem evs_len : ∀ {ps : List (M D × M Bool)} {env env' : Env} {ds : List D}, evs ps env = .ok ds env' → ds.length = ps.length
  | [], _, _, _, h => by cases h; rfl
  | p :: ps, env, env', ds, h => by
    unfold evs M.bind at h
    cases e1 : p.1 env with
    | no => rw [e1] at h; cases h
    | ex => rw [e1] at h; cases h
    | ok d env1 =>
      rw [e1] at h
      simp only at h
      cases e2 : evs ps env1 with
      | no => rw [e2] at h; cases h
      | ex => rw [e2] at h; cases h
      | ok ds2 env2 =>
        rw [e2] at h
        cases h
        simp [evs_len e2]

/-! ### and, or -/
def ckBT : List Ck → List Expr → Ows → TR
  | [k], [e], ows => k.t e ows
  | k :: ks, e :: es, ows => match k.t e ows with
    | some a => (match ckBT ks es a.1 with
      | some b => if weakB 0 a.1 b.1 = true then some (b.1, a.2 && b.2) else none
      | none => none)
    | none => none
  | _, _, _ => none
def ckBV : List Ck → List Expr → Ows → VR
  | [k], [e], ows => k.v e ows
  | k :: ks, e :: es, ows => match k.r e ows with
    | some a => (match ckBV ks es a.1 with
      | some b => if weakB 0 a.1 b.1 = true then some (b.1, b.2.1, a.2.2 && b.2.2) else none
      | none => none)
    | none => none
  | _, _, _ => none
theorem andT_ok (G : GOk X c C S) : ∀ {ks : List Ck} {ps : List (M D × M Bool)} {es : List Expr} {ows : Ows} {r : Ows × Bool} {pos : Pos}, CksOk S C ks ps → ckBT ks es ows = some r → PW X (.BoolOp .And es pos) (tB_ c (andT ps) ows r.1 r.2)
  | [k], [p], [e], ows, r, pos, hk, h => pw_and1 ((hk.1 X c G).2.2 e ows r h)
  | k :: k2 :: ks, p :: p2 :: ps, e :: e2 :: es, ows, r, pos, hk, h => by
    unfold ckBT at h
    split at h
    · rename_i a ea
      split at h
      · rename_i b eb
        split at h
        · rename_i he
          cases h
          exact andB_cons ((hk.1 X c G).2.2 e ows a ea) (andT_ok (pos := pos) G hk.2 eb) he
        · cases h
      · cases h
    · cases h
  | [], [], _, _, _, _, _, h => by cases h
  | [_], [_], [], _, _, _, _, h => by cases h
  | [_], [_], _ :: _ :: _, _, _, _, _, h => by
    unfold ckBT at h
    split at h
    · simp [ckBT] at h
    · cases h
  | _ :: _ :: _, _ :: _ :: _, [], _, _, _, _, h => by cases h
  | _ :: _ :: _, _ :: _ :: _, [_], _, _, _, _, h => by
    unfold ckBT at h
    split at h
    · simp [ckBT] at h
    · cases h
  | [], _ :: _, _, _, _, _, hk, _ => hk.elim
  | _ :: _, [], _, _, _, _, hk, _ => hk.elim
  | [_], _ :: _ :: _, _, _, _, _, hk, _ => hk.2.elim
  | _ :: _ :: _, [_], _, _, _, _, hk, _ => hk.2.elim
theorem orT_ok (G : GOk X c C S) : ∀ {ks : List Ck} {ps : List (M D × M Bool)} {es : List Expr} {ows : Ows} {r : Ows × Bool} {pos : Pos}, CksOk S C ks ps → ckBT ks es ows = some r → PW X (.BoolOp .Or es pos) (tB_ c (orT ps) ows r.1 r.2)
  | [k], [p], [e], ows, r, pos, hk, h => pw_or1 ((hk.1 X c G).2.2 e ows r h)
  | k :: k2 :: ks, p :: p2 :: ps, e :: e2 :: es, ows, r, pos, hk, h => by
    unfold ckBT at h
    split at h
    · rename_i a ea
      split at h
      · rename_i b eb
        split at h
        · rename_i he
          cases h
          exact orB_cons ((hk.1 X c G).2.2 e ows a ea) (orT_ok (pos := pos) G hk.2 eb) he
        · cases h
      · cases h
    · cases h
  | [], [], _, _, _, _, _, h => by cases h
  | [_], [_], [], _, _, _, _, h => by cases h
  | [_], [_], _ :: _ :: _, _, _, _, _, h => by
    unfold ckBT at h
    split at h
    · simp [ckBT] at h
    · cases h
  | _ :: _ :: _, _ :: _ :: _, [], _, _, _, _, h => by cases h
  | _ :: _ :: _, _ :: _ :: _, [_], _, _, _, _, h => by
    unfold ckBT at h
    split at h
    · simp [ckBT] at h
    · cases h
  | [], _ :: _, _, _, _, _, hk, _ => hk.elim
  | _ :: _, [], _, _, _, _, hk, _ => hk.elim
  | [_], _ :: _ :: _, _, _, _, _, hk, _ => hk.2.elim
  | _ :: _ :: _, [_], _, _, _, _, hk, _ => hk.2.elim
theorem andV_ok (G : GOk X c C S) : ∀ {ks : List Ck} {ps : List (M D × M Bool)} {es : List Expr} {ows : Ows} {r : Ows × Ow × Bool} {pos : Pos}, CksOk S C ks ps → ckBV ks es ows = some r → PE X (.BoolOp .And es pos) (tV c (andV ps) ows r.1 r.2.1 r.2.2)
  | [k], [p], [e], ows, r, pos, hk, h => pe_one ((hk.1 X c G).1 e ows r h)
  | k :: k2 :: ks, p :: p2 :: ps, e :: e2 :: es, ows, r, pos, hk, h => by
    unfold ckBV at h
    split at h
    · rename_i a ea
      split at h
      · rename_i b eb
        split at h
        · rename_i he
          cases h
          exact andV_cons ((hk.1 X c G).2.1 e ows a ea) (andV_ok (pos := pos) G hk.2 eb) he
        · cases h
      · cases h
    · cases h
  | [], [], _, _, _, _, _, h => by cases h
  | [_], [_], [], _, _, _, _, h => by cases h
  | [_], [_], _ :: _ :: _, _, _, _, _, h => by
    unfold ckBV at h
    split at h
    · simp [ckBV] at h
    · cases h
  | _ :: _ :: _, _ :: _ :: _, [], _, _, _, _, h => by cases h
  | _ :: _ :: _, _ :: _ :: _, [_], _, _, _, _, h => by
    unfold ckBV at h
    split at h
    · simp [ckBV] at h
    · cases h
  | [], _ :: _, _, _, _, _, hk, _ => hk.elim
  | _ :: _, [], _, _, _, _, hk, _ => hk.elim
  | [_], _ :: _ :: _, _, _, _, _, hk, _ => hk.2.elim
  | _ :: _ :: _, [_], _, _, _, _, hk, _ => hk.2.elim
theorem orV_ok (G : GOk X c C S) : ∀ {ks : List Ck} {ps : List (M D × M Bool)} {es : List Expr} {ows : Ows} {r : Ows × Ow × Bool} {pos : Pos}, CksOk S C ks ps → ckBV ks es ows = some r → PE X (.BoolOp .Or es pos) (tV c (orV ps) ows r.1 r.2.1 r.2.2)
  | [k], [p], [e], ows, r, pos, hk, h => pe_one ((hk.1 X c G).1 e ows r h)
  | k :: k2 :: ks, p :: p2 :: ps, e :: e2 :: es, ows, r, pos, hk, h => by
    unfold ckBV at h
    split at h
    · rename_i a ea
      split at h
      · rename_i b eb
        split at h
        · rename_i he
          cases h
          exact orV_cons ((hk.1 X c G).2.1 e ows a ea) (orV_ok (pos := pos) G hk.2 eb) he
        · cases h
      · cases h
    · cases h
  | [], [], _, _, _, _, _, h => by cases h
  | [_], [_], [], _, _, _, _, h => by cases h
  | [_], [_], _ :: _ :: _, _, _, _, _, h => by
    unfold ckBV at h
    split at h
    · simp [ckBV] at h
    · cases h
  | _ :: _ :: _, _ :: _ :: _, [], _, _, _, _, h => by cases h
  | _ :: _ :: _, _ :: _ :: _, [_], _, _, _, _, h => by
    unfold ckBV at h
    split at h
    · simp [ckBV] at h
    · cases h
  | [], _ :: _, _, _, _, _, hk, _ => hk.elim
  | _ :: _, [], _, _, _, _, hk, _ => hk.elim
  | [_], _ :: _ :: _, _, _, _, _, hk, _ => hk.2.elim
  | _ :: _ :: _, [_], _, _, _, _, hk, _ => hk.2.elim
end
end Mp
/-! Ms5: two operands, the second of which may change things: the first one is kept. -/
namespace Mp
open PySem PySem.Spec PyProof.Rows L2
theorem ok2_impK {c : Cc} {fa fb : M D} {ows ows1 ows2 : Ows} {o o2 : Ow} {q1 q2 : Bool} {g : D → D → Option D} {r : R2} (k : Ok2 c.K g o r .fr o2) : ∀ σ H Q, tV c (op2 g fa fb) ows ows2 o (q1 && q2) σ H Q → tOp r (tV c fa ows ows1 .fr q1) (tR c fb ows1 ows2 o2 q2) σ H Q := by
  intro σ H Q ⟨w, env, hw, sr, h⟩
  refine ⟨w, env, hw, sr, ?_⟩
  unfold op2 M.bind at h
  cases e1 : fa env with
  | no => rw [e1] at h; exact h
  | ex n env1 => rw [e1] at h; exact h
  | ok d1 env1 =>
    rw [e1] at h
    intro w1 v1 A1 x1 s1 r1 t1 z1
    refine ⟨w1, env1, rfl, s1, ?_⟩
    simp only at h
    cases e2 : fb env1 with
    | no => rw [e2] at h; exact h
    | ex n env2 => rw [e2] at h; exact exK.mono x1 h
    | ok d2 env2 =>
      rw [e2] at h
      intro w2 v2 A2 x2 s2 r2 z2
      have r1' : RO c.K w2.H w2.Z .fr d1 v1 A1 := ⟨Rep.ext s1 x2 r1.1, r1.2⟩
      simp only [M.opt] at h
      cases e3 : g d1 d2 with
      | none => rw [e3] at h; exact h.elim
      | some d =>
        rw [e3] at h
        refine k w2 d1 d2 v1 v2 A1 A2 d Q r1' r2 e3 fun w3 v A al ro => ?_
        exact h w3 v A ((x1.trans x2).trans al.ext) (al.sr s2) ro ((al.tmp s2).pre (x1.trans x2)) fun q => fun a b e => al.h a b (z2 (by simp only [Bool.and_eq_true] at q; exact q.2) a b (z1 (by simp only [Bool.and_eq_true] at q; exact q.1) a b e))
theorem pe_ok2K {X : Cx} {c : Cc} {a b pe : Expr} {fa fb : M D} {ows ows1 ows2 : Ows} {o o2 : Ow} {q1 q2 : Bool} {g : D → D → Option D} {r : R2} (ha : PE X a (tV c fa ows ows1 .fr q1)) (hb : PE X b (tR c fb ows1 ows2 o2 q2))
    (hop : ∀ {ta tb : TE}, PE X a ta → PE X b tb → PE X pe (tOp r ta tb)) (k : Ok2 c.K g o r .fr o2) : PE X pe (tV c (op2 g fa fb) ows ows2 o (q1 && q2)) := wPE (hop ha hb) (ok2_impK k)
section
variable {X : Cx} {c : Cc} {fa fb : M D} {ows ows1 ows2 : Ows} {o2 : Ow} {q1 q2 : Bool} {a b : Expr} {pos : Pos}
theorem pv_ixK (hu : X.A.units + 1 < cLine) (ha : PE X a (tV c fa ows ows1 .fr q1)) (hb : PE X b (tR c fb ows1 ows2 o2 q2)) (hs : noSl b = true) (hK : X.K = c.K) : PE X (.Subscript a b pos) (tV c (op2 ixD fa fb) ows ows2 .fr (q1 && q2)) :=
  pe_ok2K ha hb (fun h1 h2 => pe_ix (r := rIxB c.K) (by rw [← hK]; exact ix_all.or (ix_dict hu)) h1 h2 (plainIx hs)) (ok_ixB rfl)
theorem pv_binK {k : BO} (hK : X.K = c.K) (ha : PE X a (tV c fa ows ows1 .fr q1)) (hb : PE X b (tR c fb ows1 ows2 o2 q2)) (s2 : shal o2 = true) : PE X (.BinOp a (opB k) b pos) (tV c (op2 (binD k) fa fb) ows ows2 (.ow .fr) (q1 && q2)) := by
  cases k with
  | add => exact pe_ok2K ha hb (fun h1 h2 => pe_op (r := rAddA c.K) (by rw [← hK]; exact op_addA) h1 h2) (ok_add rfl s2)
  | sub => exact pe_ok2K ha hb (fun h1 h2 => pe_op op_sub h1 h2) ok_sub
  | mul => exact pe_ok2K ha hb (fun h1 h2 => pe_op (r := rMulA c.K) (by rw [← hK]; exact op_mulA) h1 h2) (ok_mul rfl)
  | fdiv => exact pe_ok2K ha hb (fun h1 h2 => pe_op op_fdiv h1 h2) ok_fdiv
  | mod => exact pe_ok2K ha hb (fun h1 h2 => pe_op op_mod h1 h2) ok_mod
  | pow => exact pe_ok2K ha hb (fun h1 h2 => pe_op op_pow h1 h2) ok_pow
end
/-- the one, or else the other -/
def orCk (a b : Ck) : Ck := ⟨fun pe ows => match a.v pe ows with
  | some r => some r
  | none => b.v pe ows, fun pe ows => match a.r pe ows with
  | some r => some r
  | none => b.r pe ows, fun pe ows => match a.t pe ows with
  | some r => some r
  | none => b.t pe ows⟩
theorem orCk_ok {S : Sg} {C : Cs} {a b : Ck} {p : M D × M Bool} (ha : CkOk S C a p) (hb : CkOk S C b p) : CkOk S C (orCk a b) p := fun X c G => by
  obtain ⟨a1, a2, a3⟩ := ha X c G
  obtain ⟨b1, b2, b3⟩ := hb X c G
  refine ⟨fun pe ows r h => ?_, fun pe ows r h => ?_, fun pe ows r h => ?_⟩
  · simp only [orCk] at h
    split at h
    · rename_i r' e; cases h; exact a1 _ _ _ e
    · exact b1 _ _ _ h
  · simp only [orCk] at h
    split at h
    · rename_i r' e; cases h; exact a2 _ _ _ e
    · exact b2 _ _ _ h
  · simp only [orCk] at h
    split at h
    · rename_i r' e; cases h; exact a3 _ _ _ e
    · exact b3 _ _ _ h
end Mp
/-! Mq1: enumerate of a tuple, of a text. -/
namespace Mp
open PySem PySem.Spec PyProof.Rows L2

theorem meets_enumT (l : Addr) (items : Array Value) :
    Meets (Builtin.«enumerate.__new__» ⟨[.type "enumerate", .ref l], []⟩) (fun _ R s => s.heap.IsTuple l items ∧
      R (.ok (.ret (.ref (s.heap.push { cls := .type "tuple_iterator", data := .fields #[.ref l, .int 0 0] }).objs.size)))
        { s with heap := (s.heap.push { cls := .type "tuple_iterator", data := .fields #[.ref l, .int 0 0] }).push { cls := .type "enumerate", data := .fields #[.none, .bool false, .ref s.heap.objs.size, rawInt 0, .none, .none] } }) :=
  .of_wp fun prog w A R s h => by
    obtain ⟨hp, g, d, tk, os⟩ := s; obtain ⟨h1, h⟩ := h
    have hsub := sub_enumerate
    have q1 : ∀ {A' : Around} {E : Value → Shared → Prop} {Q : Value → Shared → Prop}, Q (.ref hp.objs.size) ⟨hp.push { cls := .type "tuple_iterator", data := .fields #[.ref l, .int 0 0] }, g, d, tk, os⟩ → wpAny (model prog w) A' (pyIter (.ref l)) Q E ⟨hp, g, d, tk, os⟩ :=
      fun q => (begins_tuple l items).iter prog w _ _ ⟨hp, g, d, tk, os⟩ _ h1 q
    wp_walk using q1
    refine wpAny_stack_any fun st => wpAny_pure ?_
    split
    · rename_i c _ _ _ _ _
      cases (c == Value.type "enumerate")
      · wp_walk using q1
        exact ⟨_, rfl, h⟩
      · wp_walk using q1
        exact ⟨_, rfl, h⟩
    · wp_walk using q1
      exact ⟨_, rfl, h⟩
section
variable {prog : Program} {w : World} {A : Around} {E : Value → Shared → Prop} {s : Shared}
theorem call_enumT {l : Addr} {items : Array Value} {Q : Value → Shared → Prop} (hL : s.heap.IsTuple l items)
    (h : ∀ h', IsEnum h' (s.heap.objs.size + 1) s.heap.objs.size 0 .none → h'.IsTupleIter s.heap.objs.size l 0 → h'.objs.size = s.heap.objs.size + 2 →
      (∀ b o, s.heap.get? b = some o → h'.get? b = some o) → Q (.ref (s.heap.objs.size + 1)) { s with heap := h' }) :
    wpAny (model prog w) A (PySem.call (.type "enumerate") [.ref l]) Q E s := by
  refine callType_new F.called_enumerate (by decide) (F.typeCall_enumerate_1 _) (F.newCall_enumerate_1 _) (fun obj => F.args_object_init_2 obj _) F.entry_enumerate_new
    (meets_enumT l items) ⟨hL, ?_⟩
  have hz : (s.heap.push { cls := .type "tuple_iterator", data := .fields #[.ref l, .int 0 0] }).objs.size = s.heap.objs.size + 1 := Heap.size_push ..
  show _ ∧ _
  rw [hz]
  have he : IsEnum ((s.heap.push { cls := .type "tuple_iterator", data := .fields #[.ref l, .int 0 0] }).push
      { cls := .type "enumerate", data := .fields #[.none, .bool false, .ref s.heap.objs.size, rawInt 0, .none, .none] }) (s.heap.objs.size + 1) s.heap.objs.size 0 .none := by
    have := Heap.get?_push_size (s.heap.push { cls := .type "tuple_iterator", data := .fields #[.ref l, .int 0 0] })
      (o := { cls := .type "enumerate", data := .fields #[.none, .bool false, .ref s.heap.objs.size, rawInt 0, .none, .none] }) rfl
    rw [hz] at this; exact this
  refine ⟨⟨_, he, rfl⟩, h _ he ⟨_, Heap.get?_push_of_some _ (Heap.get?_push_size _ rfl), rfl, rfl⟩ (by rw [Heap.size_push, hz]) fun b o x => Heap.get?_push_of_some _ (Heap.get?_push_of_some _ x)⟩
end

theorem enum_endN {prog : Program} {w : World} {A : Around} {E : Value → Shared → Prop} {s : Shared} {e it : Addr} {i : Int} {old : Value} {Q : Option Value → Shared → Prop}
    (D : ∀ (Q : Value → Shared → Prop) (E : Value → Shared → Prop), (∀ h' e, Heap.ExtBut it s.heap h' → (∃ o, h'.get? e = some o ∧ o.cls = .type "StopIteration") → E (.ref e) { s with heap := h' }) → wpAny (model prog w) A.in1 (Builtin.SmallTypes.nextOf (.ref it)) Q E s) (he : IsEnum s.heap e it i old)
    (hQ : ∀ h', Heap.ExtBut it s.heap h' → Q none { s with heap := h' }) : wpAny (model prog w) A (pyNext (.ref e)) Q E s := by
  have hT : s.TypeIs (.ref e) "enumerate" := ⟨_, he, rfl⟩
  unfold pyNext
  refine wpAny_bind (wpAny_attempt (wpAny_callSpecial?_slot (name := Str.ofString "__next__") hT F.slot_enumerate_next
    (wpAny_call_entry F.slot_enumerate_next hT F.entry_enumerate_next ?_ (F.args_enumerate_next_1 _))))
  show wpAny _ _ (field (.ref e) 2 >>= _) _ _ _
  refine wpAny_bind (wpAny_field he rfl (x := .ref it) rfl ?_)
  refine wpAny_bind (D _ _ fun h' x he' hx' => ?_)
  obtain ⟨o, ho, hc⟩ := hx'
  refine wpAny_bind (wpAny_isInstance (T := "StopIteration") (b := true) ⟨o, ho, hc⟩ isSubtype_stop ?_)
  exact wpAny_pure (hQ _ he')

/-- a source drawn: its items' values at a state -/
def IteD (go : Nat → Hp → Prop) (it : Nat → Hp → V → Prop) (st : Nat → Hp → Prop) : It :=
  ⟨go, fun i H v H' => ∃ T x, v = .ref T ∧ H T = none ∧ H' = upd H T (.tup [.int (i : Nat), x]) ∧ it i H x, st⟩
def IteT (K : PySem.W.Frag) (a : Addr) : It := IteD (fun i H => ∃ (xs : List V) (x : V), SqT K H a xs ∧ xs[i]? = some x) (fun i H x => ∀ xs, SqT K H a xs → xs[i]? = some x) (fun i H => ∃ xs : List V, SqT K H a xs ∧ xs.length ≤ i)
def IteS (x : Str) : It := IteD (fun i _ => i < x.cps.size) (fun i _ v => ∃ c, x.cps[i]? = some c ∧ v = .str ⟨#[c]⟩) (fun i _ => x.cps.size ≤ i)
/-- a turn of enumerate over what is drawn -/
theorem turn_enumD {P : Program} {w : World} {K : PySem.W.Frag} {elts : List Expr} {kk : Nat} {tpos : Pos} {e it : Addr} {go : Nat → Hp → Prop} {itv : Nat → Hp → V → Prop} {stp : Nat → Hp → Prop} {St : Nat → Heap → Prop}
    (obj : ∀ i h, St i h → ∃ o, h.get? it = some o ∧ ∀ v, o.data ≠ .cell v)
    (keep : ∀ i h h', St i h → (∀ o, h.get? it = some o → h'.get? it = some o) → St i h')
    (item : ∀ (X : Cx), X.prog = P → X.w = w → X.K = K → X.calm = true → ∀ (i : Nat) (pins : List (Addr × Obj)) (s : Shared) (σ : L2.St) (H : Hp), Inv X pins σ H s → St i s.heap → go i H →
      ∃ (fp : List Addr) (n : Nat) (Pv : Nat → Value → Prop) (SD : Nat → Heap → Prop), Draws P w X.A.in1 it fp n Pv SD ∧ SD i s.heap ∧ i < n ∧ (∀ b, b ∈ fp → b ≠ it → ∃ o : Obj, s.heap.get? b = some o ∧ o.cls ≠ .type "enumerate") ∧ (∀ h, SD (i + 1) h → St (i + 1) h) ∧ ∀ u, Pv i u → ∃ x, RelV x u ∧ itv i H x)
    (done : ∀ (X : Cx), X.prog = P → X.w = w → X.K = K → X.calm = true → ∀ (i : Nat) (pins : List (Addr × Obj)) (s : Shared) (σ : L2.St) (H : Hp), Inv X pins σ H s → St i s.heap → stp i H →
      ∀ (Q : Value → Shared → Prop) (E : Value → Shared → Prop), (∀ h' e, Heap.ExtBut it s.heap h' → (∃ o, h'.get? e = some o ∧ o.cls = .type "StopIteration") → E (.ref e) { s with heap := h' }) → wpAny (model P w) X.A.in1 (Builtin.SmallTypes.nextOf (.ref it)) Q E s) :
    Turn P w K (.Tuple elts kk tpos) (IteD go itv stp) [e, it] e (fun i h => (∃ old, IsEnum h e it ((i : Nat) : Int) old) ∧ St i h ∧ e ≠ it) where
  mem := by simp
  obj := fun i h st b hb => by
    obtain ⟨⟨old, he⟩, hs, _⟩ := st
    have e' : b = e ∨ b = it := by simpa using hb
    rcases e' with z | z
    · rw [z]; exact ⟨_, he, fun v q => nomatch q⟩
    · rw [z]; exact obj i h hs
  keep := fun i h h' st k => let ⟨⟨old, he⟩, hi, hne⟩ := st; ⟨⟨old, k e (by simp) _ he⟩, keep i h h' hi fun o q => k it (by simp) o q, hne⟩
  item := by
    intro X hP hw hK hc i pins s σ H E I hf st hg
    obtain ⟨⟨old, he⟩, hs, hne⟩ := st
    obtain ⟨fp, n, Pv, SD, D, hsd, hlt, hfp, hst', hval⟩ := item X hP hw hK hc i pins s σ H I hs hg
    subst hP hw hK
    have hel : e < s.heap.objs.size := Heap.lt_size he
    have hil : it < s.heap.objs.size := by obtain ⟨_, q, _⟩ := obj _ _ hs; exact Heap.lt_size q
    have hef : e ∉ fp := fun z => by
      obtain ⟨o, h1, h2⟩ := hfp e z hne
      rw [he] at h1
      cases h1
      exact h2 rfl
    refine wpAny_pyNext_enum_itemD D he hsd hlt hne hef fun u h' tk hu ho hit' hT hsz hk => ?_
    obtain ⟨x, ru, hx⟩ := hval u hu
    refine ⟨_, rfl, wpAny_letOwnedTupleGo_enum (s := { s with heap := h', toks := tk + 1 }) ho fun h'' he' sb => ?_⟩
    have hT2 : h''.get? s.heap.objs.size = some { cls := .type "tuple", data := .seq #[.int i tk, u] } := (sb.2 _ (Nat.ne_of_gt hel)).trans hT
    have new : ObjOk X.prog X.w (upd H s.heap.objs.size (.tup [.int (i : Nat), x])) h'' s.heap.objs.size (.tup [.int (i : Nat), x]) :=
      ⟨by show 2 ≤ sizeLine; decide, [.int i tk, u], .cons ⟨_, rfl⟩ (.cons ru .nil), ⟨_, hT2, rfl, _, rfl⟩⟩
    have I1 : Inv X pins σ (upd H s.heap.objs.size (.tup [.int (i : Nat), x])) { s with heap := h'', toks := tk + 1 } :=
      I.turnedNew (ch := [e, it]) (fun b ob hb q => (sb.2 b (fun z => hb (by simp [z]))).trans (hk b ob (fun z => hb (by simp [z])) (fun z => hb (by simp [z])) q)) hf (Nat.le_refl _) new
    refine ⟨.ref s.heap.objs.size, _, I1, rfl, ⟨_, x, rfl, I.hok.fresh (Nat.le_refl _), rfl, hx⟩, ⟨⟨u, ?_⟩, keep _ _ _ (hst' _ hit') fun o q => (sb.2 it (Ne.symm hne)).trans q, hne⟩, fun b hb => ?_⟩
    · have e1 : ((i + 1 : Nat) : Int) = (i : Int) + 1 := by omega
      rw [e1]; exact he'
    · have hb' : b < s.heap.objs.size := by
        have e' : b = e ∨ b = it := by simpa using hb
        rcases e' with z | z
        · rw [z]; exact hel
        · rw [z]; exact hil
      rw [upd_ne (Nat.ne_of_lt hb')]
      exact (hf b hb).1
  done := by
    intro X hP hw hK hc i pins s σ H E I hf st hg
    obtain ⟨⟨old, he⟩, hs, hne⟩ := st
    have D := done X hP hw hK hc i pins s σ H I hs hg
    subst hP hw hK
    obtain ⟨f0, f1, f2, f3, f4, f5⟩ := hf it (by simp)
    exact enum_endN D he fun h' eb => ⟨rfl, I.turned (t' := s.toks) (fun b o hb q => eb b o hb q) f0 f1 f3 f4 f5⟩
  self := fun A i s Q E st h => let ⟨⟨_, he⟩, _⟩ := st; wpAny_pyIter_enum he h
theorem turn_enumT {P : Program} {w : World} {K : PySem.W.Frag} {elts : List Expr} {kk : Nat} {tpos : Pos} (a e it : Addr) :
    Turn P w K (.Tuple elts kk tpos) (IteT K a) [e, it] e (fun i h => (∃ old, IsEnum h e it ((i : Nat) : Int) old) ∧ (h.IsTupleIter it a i ∧ a ≠ it) ∧ e ≠ it) :=
  turn_enumD (St := fun i h => h.IsTupleIter it a i ∧ a ≠ it) (fun i h st => by obtain ⟨⟨o, ho, hc, hd⟩, _⟩ := st; exact ⟨o, ho, fun v q => by rw [hd] at q; cases q⟩)
    (fun i h h' st k => ⟨st.1.at k, st.2⟩)
    (fun X hP hw hK hc i pins s σ H I st hg => by
      subst hP hw hK
      obtain ⟨xs, x, hq, hx⟩ := hg
      obtain ⟨its, rv, p, hz⟩ := I.tuple hq
      have p' : s.heap.IsTuple a its.toArray := p
      have hl := rv.length
      refine ⟨_, _, _, _, Draws.tuple (by simpa using I.ok.hd hc) it a st.2 its.toArray, ⟨st.1, p'⟩, ?_, fun b hb hn => ?_, fun h q => ⟨q.1, st.2⟩, fun u hu => ?_⟩
      · have := (List.getElem?_eq_some_iff.mp hx).1
        simp; omega
      · simp only [List.mem_cons, List.not_mem_nil, or_false] at hb
        rcases hb with z | z
        · exact absurd z hn
        · subst z
          obtain ⟨o, ho, hcl, _⟩ := p'
          exact ⟨o, ho, by rw [hcl]; decide⟩
      · obtain ⟨u', hu', ru⟩ := rv.get hx
        have e1 : u = u' := by
          have : its[i]? = some u := by simpa using hu
          rw [hu'] at this; cases this; rfl
        subst e1
        exact ⟨x, ru, fun ys hy => by rw [I.tuple_inj hy hq]; exact hx⟩)
    (fun X hP hw hK hc i pins s σ H I st hg => by
      subst hP hw hK
      obtain ⟨xs, hq, hx⟩ := hg
      obtain ⟨its, rv, p, hz⟩ := I.tuple hq
      have p' : s.heap.IsTuple a its.toArray := p
      have hl := rv.length
      exact fun Q E hE => wpAny_nextOf_tuple_end (by simpa using I.ok.hd hc) st.1 p' (by simp; omega) hE)
theorem turn_enumS {P : Program} {w : World} {K : PySem.W.Frag} {elts : List Expr} {kk : Nat} {tpos : Pos} (x : Str) (t : Tok) (e it : Addr) :
    Turn P w K (.Tuple elts kk tpos) (IteS x) [e, it] e (fun i h => (∃ old, IsEnum h e it ((i : Nat) : Int) old) ∧ h.IsStrIter it (strIterType x) x t i ∧ e ≠ it) :=
  turn_enumD (St := fun i h => h.IsStrIter it (strIterType x) x t i) (fun i h st => by obtain ⟨o, ho, hc, hd⟩ := st; exact ⟨o, ho, fun v q => by rw [hd] at q; cases q⟩)
    (fun i h h' st k => let ⟨o, ho, r⟩ := st; ⟨o, k o ho, r⟩)
    (fun X hP hw hK hc i pins s σ H I st hg => by
      subst hP hw hK
      have go : ∀ {ty : String}, strIterType x = ty → Draws X.prog X.w X.A.in1 it [it] x.cps.size (fun i v => ∃ c u, x.cps[i]? = some c ∧ v = .str ⟨#[c]⟩ u) (fun i h => h.IsStrIter it ty x t i) → ∃ (fp : List Addr) (n : Nat) (Pv : Nat → Value → Prop) (SD : Nat → Heap → Prop), Draws X.prog X.w X.A.in1 it fp n Pv SD ∧ SD i s.heap ∧ i < n ∧ (∀ b, b ∈ fp → b ≠ it → ∃ o : Obj, s.heap.get? b = some o ∧ o.cls ≠ .type "enumerate") ∧ (∀ h, SD (i + 1) h → h.IsStrIter it (strIterType x) x t (i + 1)) ∧ ∀ u, Pv i u → ∃ v, RelV v u ∧ ∃ c, x.cps[i]? = some c ∧ v = .str ⟨#[c]⟩ := fun {ty} ety D => by
        refine ⟨_, _, _, _, D, by rw [ety] at st; exact st, hg, fun b hb hn => ?_, fun h q => by rw [ety]; exact q, fun u hu => ?_⟩
        · simp only [List.mem_cons, List.not_mem_nil, or_false] at hb
          exact absurd hb hn
        · obtain ⟨c, u', h1, rfl⟩ := hu
          exact ⟨.str ⟨#[c]⟩, ⟨u', rfl⟩, c, h1, rfl⟩
      cases ha : x.cps.all (· < 128)
      · exact go (by simp [strIterType, ha]) (Draws.strWide (by simpa using I.ok.hd hc) it x t)
      · exact go (by simp [strIterType, ha]) (Draws.strAscii (by simpa using I.ok.hd hc) it x t))
    (fun X hP hw hK hc i pins s σ H I st hg => by
      subst hP hw hK
      intro Q E hE
      have hn : x.cps[i]? = none := by
        have : x.cps.size ≤ i := hg
        simp; omega
      cases ha : x.cps.all (· < 128)
      · exact wpAny_nextOf_wide_end (by simpa using I.ok.hd hc) (by simpa [strIterType, ha] using st) hn hE
      · exact wpAny_nextOf_ascii_end (by simpa using I.ok.hd hc) (by simpa [strIterType, ha] using st) hn hE)
def iEnumA (K : PySem.W.Frag) (ta : TA) : TI := fun σ H R => ta σ H fun vs H1 => (∃ a xs, vs = [.ref a] ∧ SqL K H1 a xs ∧ R (Ite K a) H1) ∨ (∃ a xs, vs = [.ref a] ∧ SqT K H1 a xs ∧ R (IteT K a) H1) ∨ ∃ x, vs = [.str x] ∧ R (IteS x) H1
theorem pi_enumA {X : Cx} {e : Expr} {ta : TA} {p pos tpos : Pos} {elts : List Expr} {kk : Nat} (hg : Gl X "enumerate") (hm : X.mg "enumerate" = none) (ha : PA X [e] ta) (hs : starEach [e] X.env = [(false, eval e X.env)] := by rfl) :
    PI X (.Tuple elts kk tpos) (.Call (.Name "enumerate" p) [e] [] pos) (iEnumA X.K ta) := by
  refine ⟨fun pins s σ H R I h => ?_⟩
  refine Call_ (ld_blt I hg hm boot_enumerate (PyProof.Rows.callWith_type1 (thn (ha.run pos pins s σ H _ I h) fun us s1 ⟨vs, H1, I1, r1, q1⟩ => ?_) hs rfl))
  have fr : ∀ b, b ∈ [s1.heap.objs.size + 1, s1.heap.objs.size] → FpOk X pins H1 b := fun b hb => by
    have e' : b = s1.heap.objs.size + 1 ∨ b = s1.heap.objs.size := by simpa using hb
    have hle : s1.heap.objs.size ≤ b := by
      rcases e' with z | z
      · rw [z]; exact Nat.le_add_right _ _
      · rw [z]; exact Nat.le_refl _
    exact I1.fpOk hle (I1.hok.fresh hle)
  rcases q1 with ⟨a, xs, ex, hq, q⟩ | ⟨a, xs, ex, hq, q⟩ | ⟨x, ex, q⟩
  · subst ex
    cases r1 with
    | cons r rr =>
      cases rr
      cases r
      obtain ⟨its, rv, p', hz⟩ := I1.list hq
      refine call_enumerate_list p'.isList fun h' he hit hsz hk => wpAny_pyIter_enum he ?_
      have I2 : Inv X pins σ H1 { s1 with heap := h' } := I1.kept (t' := s1.toks) hk
      exact ⟨s1.heap.objs.size + 1, [s1.heap.objs.size + 1, s1.heap.objs.size], _, _, H1, rfl, I2, turn_enum a (s1.heap.objs.size + 1) s1.heap.objs.size, ⟨⟨.none, he⟩, hit, Nat.succ_ne_self _⟩, fr, q⟩
  · subst ex
    cases r1 with
    | cons r rr =>
      cases rr
      cases r
      obtain ⟨its, rv, p', hz⟩ := I1.tuple hq
      have p2 : s1.heap.IsTuple a its.toArray := p'
      have hal : a ≠ s1.heap.objs.size := by
        obtain ⟨o, ho, _⟩ := p2
        exact Nat.ne_of_lt (Heap.lt_size ho)
      refine call_enumT p2 fun h' he hit hsz hk => wpAny_pyIter_enum he ?_
      have I2 : Inv X pins σ H1 { s1 with heap := h' } := I1.kept (t' := s1.toks) hk
      exact ⟨s1.heap.objs.size + 1, [s1.heap.objs.size + 1, s1.heap.objs.size], _, _, H1, rfl, I2, turn_enumT a (s1.heap.objs.size + 1) s1.heap.objs.size, ⟨⟨.none, he⟩, ⟨hit, hal⟩, Nat.succ_ne_self _⟩, fr, q⟩
  · subst ex
    cases r1 with
    | cons r rr =>
      cases rr
      obtain ⟨t, rfl⟩ := r
      refine call_enumerate_str fun h' he hit hsz hk => wpAny_pyIter_enum he ?_
      have I2 : Inv X pins σ H1 { s1 with heap := h' } := I1.kept (t' := s1.toks) hk
      exact ⟨s1.heap.objs.size + 1, [s1.heap.objs.size + 1, s1.heap.objs.size], _, _, H1, rfl, I2, turn_enumS x t (s1.heap.objs.size + 1) s1.heap.objs.size, ⟨⟨.none, he⟩, hit, Nat.succ_ne_self _⟩, fr, q⟩
end Mp
/-! Ns1: enumerate's next turn while what it handed out is kept. -/
namespace Mp
open PySem PySem.Spec PyProof.Rows L2
section
variable {prog : Program} {w : World} {A : Around} {E : Value → Shared → Prop} {s : Shared}
theorem wpAny_loadIfAlive {a : Addr} {o : Obj} {Q : Option Obj → Shared → Prop} (ho : s.heap.get? a = some o) (h : Q (some o) s) : wpAny (model prog w) A (loadIfAlive a) Q E s :=
  fun _ _ _ => by
    show Q (s.heap.get? a) s
    rw [ho]; exact h
abbrev IsEnumK (h : Heap) (e it : Addr) (i : Int) (a : Addr) (b : Bool) (old : Value) : Prop :=
  h.get? e = some { cls := .type "enumerate", dict := none, data := .fields #[rawInt a, .bool b, .ref it, rawInt i, .none, old], slots := #[] }
theorem enumerate_next_itemK {e it a : Addr} {b : Bool} {fp : List Addr} {n i : Nat} {P : Nat → Value → Prop} {St : Nat → Heap → Prop} {old : Value} {Q : Value → Shared → Prop}
    (D : Draws prog w A it fp n P St) (he : IsEnumK s.heap e it i a b old) (ha : ∃ o, s.heap.get? a = some o) (hae : a ≠ e) (hai : a ≠ it) (hst : St i s.heap) (hlt : i < n) (hne : e ≠ it) (hef : e ∉ fp)
    (hQ : ∀ x h' tk, P i x → IsEnumK h' e it ((i : Int) + 1) a true old → St (i + 1) h' →
      h'.get? s.heap.objs.size = some { cls := .type "tuple", data := .seq #[.int i tk, x] } → h'.objs.size = s.heap.objs.size + 1 →
      (∀ b o, b ≠ e → b ≠ it → s.heap.get? b = some o → h'.get? b = some o) → Q (.ref s.heap.objs.size) { s with heap := h', toks := tk + 1 }) :
    wpAny (model prog w) A (Builtin.«enumerate.__next__» ⟨[.ref e], []⟩) (fun fin s' => ∃ v, fin = .done (.ret v) ∧ Q v s') E s := by
  obtain ⟨hp, g, d, tk₀, os⟩ := s
  show wpAny _ _ (field (.ref e) 2 >>= _) _ _ _
  refine wpAny_bind (wpAny_field he rfl (x := .ref it) rfl ?_)
  refine wpAny_bind (D.item i _ _ _ hlt hst fun x h₁ tk hPx hit₁ hs₁ => ?_)
  replace hs₁ : Heap.SameBut it hp h₁ := hs₁
  have he₁ : IsEnumK h₁ e it i a b old := (hs₁.2 e hne).trans he
  show wpAny _ _ (field (.ref e) 3 >>= _) _ _ ⟨h₁, g, d, tk, os⟩
  refine wpAny_bind (wpAny_field he₁ rfl (x := rawInt i) rfl ?_)
  show wpAny _ _ (field (.ref e) 4 >>= _) _ _ ⟨h₁, g, d, tk, os⟩
  refine wpAny_bind (wpAny_field he₁ rfl (x := .none) rfl ?_)
  show wpAny _ _ (mkInt i >>= _) _ _ ⟨h₁, g, d, tk, os⟩
  refine wpAny_bind (wpAny_mkInt ?_)
  show wpAny _ _ (setField (.ref e) 3 (rawInt ((i : Int) + 1)) >>= _) _ _ ⟨h₁, g, d, tk + 1, os⟩
  refine wpAny_bind (wpAny_setField_rec he₁ (by simp) fun h₂ he₂ hs₂ => ?_)
  replace hs₂ : Heap.SameBut e h₁ h₂ := hs₂
  replace he₂ : IsEnumK h₂ e it ((i : Int) + 1) a b old := he₂
  show wpAny _ _ (setField (.ref e) 4 .none >>= _) _ _ ⟨h₂, g, d, tk + 1, os⟩
  refine wpAny_bind (wpAny_setField_rec he₂ (by simp) fun h₃ he₃ hs₃ => ?_)
  replace hs₃ : Heap.SameBut e h₂ h₃ := hs₃
  replace he₃ : IsEnumK h₃ e it ((i : Int) + 1) a b old := he₃
  show wpAny _ _ (newTuple [.int i tk, x] >>= _) _ _ ⟨h₃, g, d, tk + 1, os⟩
  refine wpAny_bind (wpAny_newTuple ?_)
  have he₄ : IsEnumK (h₃.push { cls := .type "tuple", data := .seq #[.int i tk, x] }) e it ((i : Int) + 1) a b old := Heap.get?_push_of_some _ he₃
  generalize hh₄ : h₃.push { cls := .type "tuple", data := .seq #[.int i tk, x] } = h₄ at he₄
  have hsz : h₃.objs.size = hp.objs.size := by rw [hs₃.1, hs₂.1, hs₁.1]
  have hel : e < hp.objs.size := Heap.lt_size he
  have ht₄ : h₄.get? hp.objs.size = some { cls := .type "tuple", data := .seq #[.int i tk, x] } := by rw [← hh₄, ← hsz]; exact Heap.get?_push_size _ rfl
  have hz₄ : h₄.objs.size = hp.objs.size + 1 := by rw [← hh₄, Heap.size_push, hsz]
  have hk₄ : ∀ b o, b ≠ e → b ≠ it → hp.get? b = some o → h₄.get? b = some o := fun b o hbe hbi hb => by
    rw [← hh₄]; exact Heap.get?_push_of_some _ (hs₃.extBut b o hbe (hs₂.extBut b o hbe (hs₁.extBut b o hbi hb)))
  have hit₄ : St (i + 1) h₄ := D.frame _ _ _ hit₁ fun b hb o y => by
    have hbe : b ≠ e := fun q => hef (q ▸ hb)
    rw [← hh₄]; exact Heap.get?_push_of_some _ (hs₃.extBut b o hbe (hs₂.extBut b o hbe y))
  show wpAny _ _ (Builtin.SmallTypes.ownedTupleIsFree (.ref e) >>= _) _ _ ⟨h₄, g, d, tk + 1, os⟩
  rw [hsz]
  clear hh₄ he₃ hs₃ he₂ hs₂ he₁ hs₁ hit₁ hsz h₃ h₂ h₁
  obtain ⟨oa, hoa⟩ := ha
  have hoa₄ : h₄.get? a = some oa := hk₄ a oa hae hai hoa
  -- the end: the result is given
  have fin : ∀ h₅ : Heap, IsEnumK h₅ e it ((i : Int) + 1) a true old → Heap.ExtBut e h₄ h₅ → h₅.objs.size = h₄.objs.size → Q (.ref hp.objs.size) ⟨h₅, g, d, tk + 1, os⟩ := fun h₅ he₅ hs₅ hz₅ =>
    hQ x h₅ tk hPx he₅ (D.frame _ _ _ hit₄ fun b hb o y => hs₅ b o (fun q => hef (q ▸ hb)) y) (hs₅ _ _ (Nat.ne_of_gt hel) ht₄) (by rw [hz₅, hz₄]) (fun b o hbe hbi hb => hs₅ b o hbe (hk₄ b o hbe hbi hb))
  refine wpAny_bind ?_
  · unfold Builtin.SmallTypes.ownedTupleIsFree
    refine wpAny_bind (wpAny_field he₄ rfl (x := rawInt a) rfl ?_)
    show wpAny _ _ (loadIfAlive (a : Int).toNat >>= _) _ _ ⟨h₄, g, d, tk + 1, os⟩
    rw [Int.toNat_natCast]
    refine wpAny_bind (wpAny_loadIfAlive hoa₄ ?_)
    show wpAny _ _ (field (.ref e) 1 >>= _) _ _ ⟨h₄, g, d, tk + 1, os⟩
    refine wpAny_bind (wpAny_field he₄ rfl (x := .bool b) rfl ?_)
    cases b with
    | true =>
      show wpAny _ _ (pure false) _ _ ⟨h₄, g, d, tk + 1, os⟩
      exact wpAny_pure (wpAny_pure ⟨_, rfl, fin h₄ he₄ (fun _ _ _ y => y) rfl⟩)
    | false =>
      show wpAny _ _ (setField (.ref e) 1 (.bool true) >>= fun _ => pure false) _ _ ⟨h₄, g, d, tk + 1, os⟩
      refine wpAny_bind (wpAny_setField_rec he₄ (by simp) fun h₅ he₅ hs₅ => ?_)
      replace hs₅ : Heap.SameBut e h₄ h₅ := hs₅
      replace he₅ : IsEnumK h₅ e it ((i : Int) + 1) a true old := he₅
      exact wpAny_pure (wpAny_pure ⟨_, rfl, fin h₅ he₅ hs₅.extBut hs₅.1⟩)
theorem wpAny_pyNext_enum_itemK {e it a : Addr} {b : Bool} {fp : List Addr} {n i : Nat} {P : Nat → Value → Prop} {St : Nat → Heap → Prop} {old : Value} {Q : Option Value → Shared → Prop}
    (D : Draws prog w A.in1 it fp n P St) (he : IsEnumK s.heap e it i a b old) (ha : ∃ o, s.heap.get? a = some o) (hae : a ≠ e) (hai : a ≠ it) (hst : St i s.heap) (hlt : i < n) (hne : e ≠ it) (hef : e ∉ fp)
    (hQ : ∀ x h' tk, P i x → IsEnumK h' e it ((i : Int) + 1) a true old → St (i + 1) h' →
      h'.get? s.heap.objs.size = some { cls := .type "tuple", data := .seq #[.int i tk, x] } → h'.objs.size = s.heap.objs.size + 1 →
      (∀ b o, b ≠ e → b ≠ it → s.heap.get? b = some o → h'.get? b = some o) → Q (some (.ref s.heap.objs.size)) { s with heap := h', toks := tk + 1 }) :
    wpAny (model prog w) A (pyNext (.ref e)) Q E s := by
  have hT : s.TypeIs (.ref e) "enumerate" := ⟨_, he, rfl⟩
  unfold pyNext
  exact wpAny_bind (wpAny_attempt (wpAny_callSpecial?_slot (name := Str.ofString "__next__") hT F.slot_enumerate_next
    (wpAny_call_entry F.slot_enumerate_next hT F.entry_enumerate_next
      (enumerate_next_itemK D he ha hae hai hst hlt hne hef fun x h' tk a b c d k q => wpAny_pure (hQ x h' tk a b c d k q)) (F.args_enumerate_next_1 _))))
/-- at the end: the source is drawn out -/
theorem enum_endK {e it a : Addr} {b : Bool} {fp : List Addr} {n : Nat} {P : Nat → Value → Prop} {St : Nat → Heap → Prop} {i : Int} {old : Value} {Q : Option Value → Shared → Prop}
    (D : Draws prog w A.in1 it fp n P St) (he : IsEnumK s.heap e it i a b old) (hst : St n s.heap)
    (hQ : ∀ h', Heap.ExtBut it s.heap h' → Q none { s with heap := h' }) : wpAny (model prog w) A (pyNext (.ref e)) Q E s := by
  have hT : s.TypeIs (.ref e) "enumerate" := ⟨_, he, rfl⟩
  unfold pyNext
  refine wpAny_bind (wpAny_attempt (wpAny_callSpecial?_slot (name := Str.ofString "__next__") hT F.slot_enumerate_next
    (wpAny_call_entry F.slot_enumerate_next hT F.entry_enumerate_next ?_ (F.args_enumerate_next_1 _))))
  show wpAny _ _ (field (.ref e) 2 >>= _) _ _ _
  refine wpAny_bind (wpAny_field he rfl (x := .ref it) rfl ?_)
  refine wpAny_bind (D.done _ _ _ hst fun h' x he' hx' => ?_)
  obtain ⟨o, ho, hc⟩ := hx'
  refine wpAny_bind (wpAny_isInstance (T := "StopIteration") (b := true) ⟨o, ho, hc⟩ isSubtype_stop ?_)
  exact wpAny_pure (hQ _ he')
end
end Mp
/-! Ns2: list(enumerate(x)), x a list. -/
namespace Mp
open PySem PySem.Spec PyProof.Rows L2
/-- enumerate's object before turn i -/
def EnSt (h : Heap) (e it : Addr) (i : Nat) : Prop := (∃ old, IsEnum h e it ((i : Nat) : Int) old) ∨ ∃ a b old, IsEnumK h e it ((i : Nat) : Int) a b old ∧ (∃ o, h.get? a = some o) ∧ a ≠ e ∧ a ≠ it
theorem EnSt.keep {h h' : Heap} {e it S : Addr} {i : Nat} (st : EnSt h e it i) (hS : S ≠ e) (hS2 : ∃ o, h'.get? S = some o) (k : ∀ b o, b ≠ S → h.get? b = some o → h'.get? b = some o) : EnSt h' e it i := by
  rcases st with ⟨old, he⟩ | ⟨a, b, old, he, ⟨o, ho⟩, h1, h2⟩
  · exact .inl ⟨old, k _ _ (Ne.symm hS) he⟩
  · refine .inr ⟨a, b, old, k _ _ (Ne.symm hS) he, ?_, h1, h2⟩
    by_cases ha : a = S
    · rw [ha]; exact hS2
    · exact ⟨o, k _ _ ha ho⟩
theorem EnSt.obj {h : Heap} {e it : Addr} {i : Nat} (st : EnSt h e it i) : ∃ o, h.get? e = some o := by
  rcases st with ⟨old, he⟩ | ⟨a, b, old, he, _⟩
  · exact ⟨_, he⟩
  · exact ⟨_, he⟩
theorem enum_no_len : typeLookup (.type "enumerate") "__len__" = pure none := by rw [typeLookup_type, builtinLookup_eq_fast]; kernel_rfl
theorem enum_no_hint : typeLookup (.type "enumerate") "__length_hint__" = pure none := by rw [typeLookup_type, builtinLookup_eq_fast]; kernel_rfl
section
variable {prog : Program} {w : World} {A : Around} {E : Value → Shared → Prop} {s : Shared}
/-- one turn -/
theorem enum_turn {e it l : Addr} {i : Nat} {items : Array Value} {Q : Option Value → Shared → Prop} (hh : A.handled = none) (hle : l ≠ e) (hli : l ≠ it) (hne : e ≠ it) (st : EnSt s.heap e it i) (hit : s.heap.IsListIter it l i) (hL : s.heap.IsList l items) (hlt : i < items.size)
    (hQ : ∀ x h' tk, items[i]? = some x → EnSt h' e it (i + 1) → h'.IsListIter it l (i + 1) → h'.get? s.heap.objs.size = some { cls := .type "tuple", data := .seq #[.int i tk, x] } →
      (∀ b o, b ≠ e → b ≠ it → s.heap.get? b = some o → h'.get? b = some o) → Q (some (.ref s.heap.objs.size)) { s with heap := h', toks := tk + 1 }) :
    wpAny (model prog w) A (pyNext (.ref e)) Q E s := by
  have D : Draws prog w A.in1 it [it, l] items.size _ _ := Draws.list (by simpa using hh) it l hli items
  have hef : e ∉ [it, l] := by simp only [List.mem_cons, List.not_mem_nil, or_false, not_or]; exact ⟨hne, Ne.symm hle⟩
  have hsz : ∀ b o, s.heap.get? b = some o → b ≠ s.heap.objs.size := fun b o h => Nat.ne_of_lt (Heap.lt_size h)
  rcases st with ⟨old, he⟩ | ⟨a, b, old, he, ha, h1, h2⟩
  · refine wpAny_pyNext_enum_itemD D he ⟨hit, hL⟩ hlt hne hef fun x h' tk hx ho hit' hT hz hk => ?_
    refine hQ x h' tk hx (.inr ⟨s.heap.objs.size, false, x, ?_, ⟨_, hT⟩, ?_, ?_⟩) hit'.1 hT hk
    · have e1 : ((i + 1 : Nat) : Int) = (i : Int) + 1 := by omega
      rw [e1]; exact ho
    · exact Ne.symm (hsz _ _ he)
    · obtain ⟨o, ho2, _⟩ := hit
      exact Ne.symm (hsz _ _ ho2)
  · refine wpAny_pyNext_enum_itemK D he ha h1 h2 ⟨hit, hL⟩ hlt hne hef fun x h' tk hx ho hit' hT hz hk => ?_
    obtain ⟨oa, hoa⟩ := ha
    refine hQ x h' tk hx (.inr ⟨a, true, old, ?_, ⟨oa, hk a oa h1 h2 hoa⟩, h1, h2⟩) hit'.1 hT hk
    have e1 : ((i + 1 : Nat) : Int) = (i : Int) + 1 := by omega
    rw [e1]; exact ho
theorem enum_fin {e it l : Addr} {i : Nat} {items : Array Value} {Q : Option Value → Shared → Prop} (hh : A.handled = none) (hli : l ≠ it) (st : EnSt s.heap e it i) (hit : s.heap.IsListIter it l i) (hL : s.heap.IsList l items) (hlt : i = items.size)
    (hQ : ∀ h', Heap.ExtBut it s.heap h' → Q none { s with heap := h' }) : wpAny (model prog w) A (pyNext (.ref e)) Q E s := by
  have D : Draws prog w A.in1 it [it, l] items.size _ _ := Draws.list (by simpa using hh) it l hli items
  subst hlt
  rcases st with ⟨old, he⟩ | ⟨a, b, old, he, _⟩
  · exact wpAny_pyNext_enum_endD D he ⟨hit, hL⟩ hQ
  · exact enum_endK D he ⟨hit, hL⟩ hQ
end
theorem sqL_keep {K : PySem.W.Frag} {H H' : Hp} {a : Addr} {xs : List V} (k : ∀ b o, H b = some o → H' b = some o) (h : SqL K H a xs) : SqL K H' a xs := by
  rcases h with (h | ⟨o, h⟩) | h
  · exact .inl (.inl (k _ _ h))
  · exact .inl (.inr ⟨o, k _ _ h⟩)
  · exact .inr h
/-- the new tuples -/
def Prs (H : Hp) (xs : List V) (Ts : List Addr) : Prop := ∀ (j : Nat) T, Ts[j]? = some T → ∃ x, xs[j]? = some x ∧ H T = some (.tup [.int (j : Nat), x])
section
variable {X : Cx} {pins : List (Addr × Obj)} {σ : L2.St}
theorem enum_loop {A : Around} (hh : A.handled = none) {R : Result → Shared → Prop} {e it S l : Addr} {xs : List V} {H0 : Hp} {res : Value} (hle : l ≠ e) (hli : l ≠ it) (hlS : l ≠ S) (hne : e ≠ it) (hSe : S ≠ e) (hSi : S ≠ it) (hS0 : H0 S = none) (hq : SqL X.K H0 l xs)
    (hR : ∀ H' s' Ts, Inv X pins σ H' s' → (∀ b o, H0 b = some o → H' b = some o) → H' S = some (.lst (Ts.map V.ref)) → Ts.length = xs.length → Prs H' xs Ts → R (.ok (.ret res)) s') :
    ∀ (k i : Nat) (H : Hp) (s : Shared) (Ts : List Addr), xs.length - i = k → i ≤ xs.length → Inv X pins σ H s → (∀ b ∈ [e, it], FpOk X pins H b) → EnSt s.heap e it i → s.heap.IsListIter it l i → (∀ b o, H0 b = some o → H b = some o) →
      H S = some (.lst (Ts.map V.ref)) → Ts.length = i → Prs H xs Ts → codeAny (model X.prog X.w) A (.builtin "list.extend.loop" ⟨[.ref S, .ref e, res], []⟩) R s := by
  intro k
  induction k with
  | zero =>
    intro i H s Ts hk hi I hf st hit hkp hS hTl hP
    have hin : i = xs.length := by omega
    obtain ⟨its, rv, p, hz⟩ := I.list (sqL_keep hkp hq)
    refine codeAny_builtin F.entry_extend_loop ?_
    rw [Around.under_plainId F.plain_extend_loop _]
    show wpAny _ A.in1 (pyNext (.ref e) >>= _) _ _ s
    refine wpAny_bind (enum_fin (by simpa using hh) hli st hit p.isList (by rw [hin]; simpa using rv.length) fun h' eb => ?_)
    obtain ⟨f0, f1, f2, f3, f4, f5⟩ := hf it (by simp)
    have I1 : Inv X pins σ H { s with heap := h' } := I.turned (t' := s.toks) (fun b o hb q => eb b o hb q) f0 f1 f3 f4 f5
    exact wpAny_pure (hR H _ Ts I1 hkp hS (by omega) hP)
  | succ k ih =>
    intro i H s Ts hk hi I hf st hit hkp hS hTl hP
    have hlt : i < xs.length := by omega
    have hqH := sqL_keep hkp hq
    obtain ⟨its, rv, p, hz⟩ := I.list hqH
    have hil : its.length = xs.length := rv.length.symm
    refine codeAny_builtin F.entry_extend_loop ?_
    rw [Around.under_plainId F.plain_extend_loop _]
    show wpAny _ A.in1 (pyNext (.ref e) >>= _) _ _ s
    refine wpAny_bind (enum_turn (by simpa using hh) hle hli hne st hit p.isList (by simp; omega) fun u h' tk hu st' hit' hT hkk => ?_)
    obtain ⟨x, hx⟩ : ∃ x, xs[i]? = some x := ⟨_, List.getElem?_eq_getElem hlt⟩
    obtain ⟨u', hu', ru⟩ := rv.get hx
    have e1 : u = u' := by
      have : its[i]? = some u := by simpa using hu
      rw [hu'] at this; cases this; rfl
    subst e1
    let T := s.heap.objs.size
    have hTn : H T = none := I.hok.fresh (Nat.le_refl _)
    have new : ObjOk X.prog X.w (upd H T (.tup [.int (i : Nat), x])) h' T (.tup [.int (i : Nat), x]) :=
      ⟨by show 2 ≤ sizeLine; decide, [.int i tk, u], .cons ⟨_, rfl⟩ (.cons ru .nil), ⟨_, hT, rfl, _, rfl⟩⟩
    have I1 : Inv X pins σ (upd H T (.tup [.int (i : Nat), x])) { s with heap := h', toks := tk + 1 } :=
      I.turnedNew (ch := [e, it]) (fun b ob hb q => hkk b ob (fun z => hb (by simp [z])) (fun z => hb (by simp [z])) q) hf (Nat.le_refl _) new
    have hTS : S ≠ T := fun z => by rw [z, hTn] at hS; cases hS
    have hS1 : (upd H T (.tup [.int (i : Nat), x])) S = some (.lst (Ts.map V.ref)) := by rw [upd_ne hTS]; exact hS
    obtain ⟨zS, accS, nS, rS, gS⟩ := (show ObjOk X.prog X.w _ h' S (.lst (Ts.map V.ref)) from I1.hok S _ hS1)
    have hal : accS.length = i := by rw [← rS.length, List.length_map, hTl]
    show wpAny _ A.in1 (updateSeq S (·.push (.ref s.heap.objs.size)) >>= _) _ _ _
    refine wpAny_bind ?_
    have gS' : ({ s with heap := h', toks := tk + 1 } : Shared).heap.get? S = some { cls := .type "list", data := .seq accS.toArray nS } := gS
    refine wpAny_updateSeq gS' rfl (wpAny_pure ⟨plainId_quiet F.plain_extend_loop _, ?_⟩) (by simp; omega) (by show (accS.toArray.push _).size ≤ sizeLine + 1; rw [Array.size_push]; simp; omega)
    have oth : ∀ b o, b ≠ S → h'.get? b = some o → (h'.update S (Obj.mapSeq (·.push (.ref s.heap.objs.size)))).get? b = some o := fun b o hb q => (Heap.get?_update_other _ _ (Ne.symm hb)).trans q
    have gS2 := Heap.get?_update_self (Obj.mapSeq (·.push (Value.ref s.heap.objs.size))) gS rfl
    obtain ⟨n2, gS3⟩ : ∃ n2, (h'.update S (Obj.mapSeq (·.push (Value.ref s.heap.objs.size)))).get? S = some { cls := .type "list", data := .seq (accS ++ [Value.ref s.heap.objs.size]).toArray n2 } := by
      have e2 : (accS ++ [Value.ref s.heap.objs.size]).toArray = accS.toArray.push (Value.ref s.heap.objs.size) := by simp
      rw [e2]
      exact ⟨_, gS2⟩
    have I2 : Inv X pins σ (upd (upd H T (.tup [.int (i : Nat), x])) S (.lst ((Ts ++ [T]).map V.ref))) { s with heap := h'.update S (Obj.mapSeq (·.push (.ref s.heap.objs.size))), toks := tk + 1 } := by
      refine I1.write (x := S) (e := S) (by rw [hS1]; exact True.intro) (.inl rfl) oth ⟨_, gS2⟩ ⟨by rw [List.length_map, List.length_append]; simp; omega, accS ++ [.ref s.heap.objs.size], n2, ?_, gS3⟩
      rw [List.map_append]
      exact rS.append (.cons rfl .nil)
    refine ih (i + 1) _ _ (Ts ++ [T]) (by omega) hlt I2 (fun b hb => ?_) (st'.keep hSe ⟨_, gS2⟩ oth) (hit'.at fun o q => oth it o (Ne.symm hSi) q) (fun b o hb => ?_) upd_same (by rw [List.length_append]; simp; omega) ?_
    · have hfb := hf b hb
      have hbS : b ≠ S := by
        simp only [List.mem_cons, List.not_mem_nil, or_false] at hb
        rcases hb with rfl | rfl
        · exact Ne.symm hSe
        · exact Ne.symm hSi
      have hbT : b ≠ T := by
        simp only [List.mem_cons, List.not_mem_nil, or_false] at hb
        rcases hb with rfl | rfl
        · obtain ⟨o, ho⟩ := st.obj; exact Nat.ne_of_lt (Heap.lt_size ho)
        · obtain ⟨o, ho, _⟩ := hit; exact Nat.ne_of_lt (Heap.lt_size ho)
      exact ⟨by rw [upd_ne hbS, upd_ne hbT]; exact hfb.1, hfb.2⟩
    · have hbS : b ≠ S := fun z => by rw [z, hS0] at hb; cases hb
      have hbT : b ≠ T := fun z => by rw [z] at hb; have := hkp _ _ hb; rw [hTn] at this; cases this
      rw [upd_ne hbS, upd_ne hbT]; exact hkp b o hb
    · intro j T' hj
      have hkeep : ∀ T'' o, T'' ∈ Ts → H T'' = some o → (∀ ys, o ≠ .lst ys) → (upd (upd H T (.tup [.int (i : Nat), x])) S (.lst ((Ts ++ [T]).map V.ref))) T'' = some o := fun T'' o hm hT'' hnl => by
        rw [upd_ne (fun z => by rw [z, hS] at hT''; cases hT''; exact hnl _ rfl), upd_ne (fun z => by rw [z, hTn] at hT''; cases hT'')]
        exact hT''
      by_cases hji : j < Ts.length
      · rw [List.getElem?_append_left hji] at hj
        obtain ⟨y, hy, hTy⟩ := hP j T' hj
        exact ⟨y, hy, hkeep T' _ (List.mem_of_getElem? hj) hTy (fun ys z => by cases z)⟩
      · have : j = Ts.length := by
          have := (List.getElem?_eq_some_iff.mp hj).1
          simp at this; omega
        subst this
        rw [List.getElem?_append_right (Nat.le_refl _)] at hj
        simp at hj
        subst hj
        rw [hTl]
        exact ⟨x, hx, by rw [upd_ne (Ne.symm hTS), upd_same]⟩
end
end Mp
/-! Ns3: list(enumerate(x)), the call; as an expression. -/
namespace Mp
open PySem PySem.Spec PyProof.Rows L2
section
variable {X : Cx} {pins : List (Addr × Obj)} {σ : L2.St} {H : Hp} {s : Shared} {e it l : Addr} {xs : List V} {old : Value}
theorem enum_start {A : Around} (hh : A.handled = none) {R : Result → Shared → Prop} {S : Addr} {c tk : Nat} {hF : Heap} {res : Value} (I : Inv X pins σ H s) (he : IsEnum s.heap e it ((0 : Nat) : Int) old) (hit : s.heap.IsListIter it l 0) (hf : ∀ b ∈ [e, it], FpOk X pins H b) (hq : SqL X.K H l xs) (hle : l ≠ e) (hli : l ≠ it) (hne : e ≠ it)
    (hSn : s.heap.objs.size ≤ S) (hk : ∀ b o, s.heap.get? b = some o → hF.get? b = some o) (hS : hF.get? S = some { cls := .type "list", data := .seq #[] c })
    (hR : ∀ H' s' Ts, Inv X pins σ H' s' → (∀ b o, H b = some o → H' b = some o) → H' S = some (.lst (Ts.map V.ref)) → Ts.length = xs.length → Prs H' xs Ts → R (.ok (.ret res)) s') :
    codeAny (model X.prog X.w) A (.builtin "list.extend.loop" ⟨[.ref S, .ref e, res], []⟩) R { s with heap := hF, toks := tk } := by
  have hSe : S ≠ e := Nat.ne_of_gt (Nat.lt_of_lt_of_le (Heap.lt_size he) hSn)
  have hSi : S ≠ it := by obtain ⟨o, ho, _⟩ := hit; exact Nat.ne_of_gt (Nat.lt_of_lt_of_le (Heap.lt_size ho) hSn)
  obtain ⟨its, rv, p, hz⟩ := I.list hq
  have hlS : l ≠ S := by obtain ⟨o, n, ho, _⟩ := p; exact Nat.ne_of_lt (Nat.lt_of_lt_of_le (Heap.lt_size ho) hSn)
  have hS0 : H S = none := I.hok.fresh hSn
  have I1 : Inv X pins σ (upd H S (.lst [])) { s with heap := hF, toks := tk } := I.laid hk hSn (show ObjOk X.prog X.w _ _ _ (.lst []) from ⟨Nat.zero_le _, [], c, .nil, hS⟩)
  refine enum_loop hh hle hli hlS hne hSe hSi hS0 hq hR xs.length 0 _ _ [] rfl (Nat.zero_le _) I1 (fun b hb => ?_) (.inl ⟨old, hk _ _ he⟩) (hit.at fun o q => hk it o q) (fun b o hb => ?_) upd_same rfl fun j T hj => by simp at hj
  · have hfb := hf b hb
    have hbS : b ≠ S := by
      simp only [List.mem_cons, List.not_mem_nil, or_false] at hb
      rcases hb with rfl | rfl
      · exact Ne.symm hSe
      · exact Ne.symm hSi
    exact ⟨by rw [upd_ne hbS]; exact hfb.1, hfb.2⟩
  · rw [upd_ne (fun z => by rw [z, hS0] at hb; cases hb)]; exact hb
theorem call_list_enum {A : Around} (hh : A.handled = none) {Q : Value → Shared → Prop} {E : Value → Shared → Prop} (I : Inv X pins σ H s) (he : IsEnum s.heap e it ((0 : Nat) : Int) old) (hit : s.heap.IsListIter it l 0) (hf : ∀ b ∈ [e, it], FpOk X pins H b) (hq : SqL X.K H l xs) (hle : l ≠ e) (hli : l ≠ it) (hne : e ≠ it)
    (hQ : ∀ H' s' Ts S, Inv X pins σ H' s' → H S = none → (∀ b o, H b = some o → H' b = some o) → H' S = some (.lst (Ts.map V.ref)) → Ts.length = xs.length → Prs H' xs Ts → Q (.ref S) s') :
    wpAny (model X.prog X.w) A (PySem.call (.type "list") [.ref e]) Q E s := by
  have hSe : s.heap.objs.size ≠ e := Nat.ne_of_gt (Heap.lt_size he)
  refine callType_codes (Q₁ := fun obj s₁ => obj = .ref s.heap.objs.size ∧ s₁ = { s with heap := s.heap.push { cls := .type "list", data := .seq #[] } }) F.called_list (F.typeCall_list_1 _) F.entry_list_init
    (code_list_new _ ⟨rfl, rfl⟩) fun obj s₁ h₁ => ?_
  obtain ⟨rfl, rfl⟩ := h₁
  have hS : (s.heap.push { cls := .type "list", data := .seq #[] }).get? s.heap.objs.size = some { cls := .type "list", data := .seq #[] } := Heap.get?_push_size _ rfl
  refine ⟨⟨_, hS, rfl⟩, F.args_list_init_2 _ _, ?_⟩
  have k0 : ∀ b o, s.heap.get? b = some o → (s.heap.push { cls := .type "list", data := .seq #[] }).get? b = some o := fun b o q => Heap.get?_push_of_some _ q
  generalize hh0 : s.heap.push { cls := .type "list", data := .seq #[] } = h0 at hS k0
  show wpAny _ _ (do let old ← Builtin.List.listItems (.ref s.heap.objs.size); Builtin.List.listUpdate (.ref s.heap.objs.size) (fun _ => #[]); letGo old.toList.reverse; Builtin.List.listExtendWith (.ref s.heap.objs.size) (.ref e) .none) _ _ _
  refine wpAny_bind ?_
  unfold Builtin.List.listItems
  refine wpAny_bind (wpAny_seqItems hS rfl (wpAny_pure ?_))
  show wpAny _ _ (updateSeq s.heap.objs.size (fun _ => #[]) >>= fun _ => letGo (#[] : Array Value).toList.reverse >>= fun _ => Builtin.List.listExtendWith (.ref s.heap.objs.size) (.ref e) .none) _ _ _
  refine wpAny_bind (wpAny_updateSeq hS rfl ?_)
  have hS₂ := Heap.get?_update_self (Obj.mapSeq (fun _ => (#[] : Array Value))) hS rfl
  have k2 : ∀ b o, s.heap.get? b = some o → (h0.update s.heap.objs.size (Obj.mapSeq (fun _ => (#[] : Array Value)))).get? b = some o := fun b o q => (Heap.get?_update_other _ _ (Ne.symm (Nat.ne_of_lt (Heap.lt_size q)))).trans (k0 b o q)
  generalize h0.update s.heap.objs.size (Obj.mapSeq (fun _ => (#[] : Array Value))) = h2 at hS₂ k2
  refine wpAny_bind (wpAny_letGo ?_)
  unfold Builtin.List.listExtendWith
  have hT : ({ s with heap := h2 } : Shared).TypeIs (.ref e) "enumerate" := ⟨_, k2 _ _ he, rfl⟩
  refine wpAny_bind (wpAny_typeOf hT ?_)
  have h1 : Builtin.List.listSameRef (.ref s.heap.objs.size) (.ref e) = false := by simp [Builtin.List.listSameRef, hSe]
  have h2' : (Value.type "enumerate" == Value.type "list") = false := by decide
  have h3 : (Value.type "enumerate" == Value.type "tuple") = false := by decide
  simp only [h1, h2', h3, Bool.or_false, Bool.false_eq_true, if_false]
  refine wpAny_bind (wpAny_pyIter_enum (k2 _ _ he) ?_)
  refine wpAny_bind (wpAny_holding ?_)
  unfold Builtin.List.listLengthHint
  refine wpAny_bind (wpAny_specialOf hT enum_no_len ?_)
  show wpAny _ _ (specialOf (Value.ref e) (Str.ofString "__length_hint__") >>= _) _ _ _
  refine wpAny_bind (wpAny_specialOf hT enum_no_hint ?_)
  refine wpAny_pure ?_
  show wpAny _ _ (rule "list.extend.makes-room" >>= fun _ => Builtin.List.listTouch (.ref s.heap.objs.size) >>= fun _ => again (.builtin "list.extend.loop" ⟨[.ref s.heap.objs.size, .ref e, .none], []⟩)) _ _ _
  refine wpAny_bind (wpAny_rule ?_)
  refine wpAny_bind ?_
  show wpAny _ _ (updateSeq s.heap.objs.size (·.push .none) >>= fun _ => updateSeq s.heap.objs.size (·.pop)) _ _ _
  refine wpAny_bind (wpAny_updateSeq hS₂ rfl ?_)
  have hS₃ := Heap.get?_update_self (Obj.mapSeq (·.push Value.none)) hS₂ rfl
  refine wpAny_updateSeq hS₃ rfl ?_
  have hS₄ := Heap.get?_update_self (Obj.mapSeq (·.pop)) hS₃ rfl
  have k4 : ∀ b o, s.heap.get? b = some o → ((h2.update s.heap.objs.size (Obj.mapSeq (·.push Value.none))).update s.heap.objs.size (Obj.mapSeq (·.pop))).get? b = some o := fun b o q =>
    (Heap.get?_update_other _ _ (Ne.symm (Nat.ne_of_lt (Heap.lt_size q)))).trans ((Heap.get?_update_other _ _ (Ne.symm (Nat.ne_of_lt (Heap.lt_size q)))).trans (k2 b o q))
  refine wpAny_pure ⟨plainId_quiet F.plain_extend_loop _, enum_start (s := s) (hF := (h2.update s.heap.objs.size (Obj.mapSeq (·.push Value.none))).update s.heap.objs.size (Obj.mapSeq (·.pop))) (by simpa using hh) (tk := s.toks) I he hit hf hq hle hli hne (Nat.le_refl _) k4 hS₄ fun H' s' Ts I' hk' hS' hl' hP' => ?_⟩
  exact ⟨rfl, hQ H' s' Ts _ I' (I.hok.fresh (Nat.le_refl _)) hk' hS' hl' hP'⟩
/-- list(enumerate(x)) -/
def tListEnum (K : PySem.W.Frag) (te : TE) : TE := fun σ H Q => te σ H fun v H1 => ∃ a xs, v = .ref a ∧ SqL K H1 a xs ∧ ∀ q Ts H2, H1 q = none → (∀ b o, H1 b = some o → H2 b = some o) → H2 q = some (.lst (Ts.map V.ref)) → Ts.length = xs.length → Prs H2 xs Ts → Q (.ref q) H2
end
theorem pe_listEnum {X : Cx} {a : Expr} {te : TE} {p p2 pos pos2 : Pos} (hc : X.calm = true) (hg : Gl X "list") (hm : X.mg "list" = none) (hg2 : Gl X "enumerate") (hm2 : X.mg "enumerate" = none) (ha : PE X a te) (hs : starEach [a] X.env = (false, eval a X.env) :: starEach [] X.env := by rfl) :
    PE X (.Call (.Name "list" p) [.Call (.Name "enumerate" p2) [a] [] pos2] [] pos) (tListEnum X.K te) := by
  refine ⟨fun pins s σ H Q I h => ?_⟩
  refine Call_ (ld_blt I hg hm boot_list (PyProof.Rows.callWith_type1 (args_cons ?_ rfl) rfl))
  refine Call_ (ld_blt I hg2 hm2 boot_enumerate (PyProof.Rows.callWith_type1 (args_cons (thn (ha.run pins s σ H _ I h) fun u s1 ⟨v, H1, I1, r1, q1⟩ => args_nil ?_) hs) hs))
  obtain ⟨l, xs, ev, hq, k⟩ := q1
  subst ev
  obtain rfl : u = Value.ref l := r1
  obtain ⟨its, rv, p', hz⟩ := I1.list hq
  refine call_enumerate_list p'.isList fun h' he hit hsz hk => args_nil ?_
  have I2 : Inv X pins σ H1 { s1 with heap := h' } := I1.kept (t' := s1.toks) hk
  have hll : l < s1.heap.objs.size := by obtain ⟨o, n, ho, _⟩ := p'; exact Heap.lt_size ho
  have fr : ∀ b, b ∈ [s1.heap.objs.size + 1, s1.heap.objs.size] → FpOk X pins H1 b := fun b hb => by
    have e' : b = s1.heap.objs.size + 1 ∨ b = s1.heap.objs.size := by simpa using hb
    have hle : s1.heap.objs.size ≤ b := by
      rcases e' with z | z
      · rw [z]; exact Nat.le_add_right _ _
      · rw [z]; exact Nat.le_refl _
    exact I1.fpOk hle (I1.hok.fresh hle)
  exact call_list_enum (I2.ok.hd hc) I2 he hit fr hq (Nat.ne_of_lt (Nat.lt_succ_of_lt hll)) (Nat.ne_of_lt hll) (Nat.succ_ne_self _) fun H' s' Ts S I' hS hk' hS' hl hP => ⟨.ref S, H', I', rfl, k S Ts H' hS hk' hS' hl hP⟩
end Mp
/-! Mq2: what enumerate walks. -/
namespace Mp
open PySem PySem.Spec PyProof.Rows L2
section
variable {X : Cx} {c : Cc} {f g : M D} {fs : M (List D)} {ows ows1 ows2 ows' : Ows} {o o1 o2 : Ow} {q q1 q2 : Bool} {e pe tg : Expr} {pos : Pos}
theorem enumD_at : ∀ {xs : List D} {k : Int} {j : Nat}, (enumD k xs)[j]? = (xs[j]?).map fun x => .tup [.int (k + j), x]
  | [], k, j => by simp [enumD]
  | x :: xs, k, 0 => by simp [enumD]
  | x :: xs, k, j + 1 => by
    simp only [enumD, List.getElem?_cons_succ]
    rw [enumD_at]
    congr 1
    funext y
    rw [show k + 1 + (j : Int) = k + ((j + 1 : Nat) : Int) by omega]
theorem enumD_len : ∀ {xs : List D} {k : Int}, (enumD k xs).length = xs.length
  | [], _ => rfl
  | x :: xs, k => by simp [enumD, enumD_len]
/-- a source of pairs: each a new tuple -/
theorem src_pairs {J : It} {ds : List D} {w0 : Wd} (h : ∀ (w : Wd), (∀ {d : D} {v : V}, Rep c.K w0.H w0.Z d v → Rep c.K w.H w.Z d v) → ∀ k : Nat,
      (∀ d, ds[k]? = some d → J.go k w.H ∧ ∀ x H', J.yld k w.H x H' → ∃ T u, x = .ref T ∧ w.H T = none ∧ H' = upd w.H T (.tup [.int (k : Nat), u]) ∧ Rep c.K w.H w.Z d u) ∧ (ds.length ≤ k → J.stop k w.H))
    {ows0 : Ows} {env0 : Env} {σ0 : L2.St} (s0 : SR c.K c.pn ows0 env0 σ0 w0) : Src c J (enumD 0 ds) w0 := by
  intro w ows env σ x s k
  have kp : ∀ {d : D} {v : V}, Rep c.K w0.H w0.Z d v → Rep c.K w.H w.Z d v := fun r => Rep.ext s0 x r
  obtain ⟨h1, h2⟩ := h w kp k
  refine ⟨fun d hd => ?_, fun hl => h2 (by rw [enumD_len] at hl; exact hl)⟩
  rw [enumD_at] at hd
  cases e1 : ds[k]? with
  | none => rw [e1] at hd; cases hd
  | some d1 =>
    rw [e1] at hd
    cases hd
    obtain ⟨g1, g2⟩ := h1 d1 e1
    refine ⟨g1, fun v H' y => ?_⟩
    obtain ⟨T, u, rfl, hT, rfl, ru⟩ := g2 v H' y
    have al : Alloc w (w.upd T (.tup [.int (k : Nat), u])) (fun _ => False) := Alloc.new0 hT
    refine ⟨w.upd T (.tup [.int (k : Nat), u]), rfl, al, ?_⟩
    unfold Rep
    refine ⟨T, [.int (k : Nat), u], rfl, SqT.of upd_same, ?_⟩
    unfold Reps
    refine ⟨_, _, rfl, by unfold Rep; rw [Int.zero_add], ?_⟩
    unfold Reps
    refine ⟨_, _, rfl, ?_, by unfold Reps; rfl⟩
    exact ru.mono (fun _ z => z) fun a q e _ => al.h a q e
theorem src_enumL {ds : List D} {a : Addr} {w0 : Wd} (r : Rep c.K w0.H w0.Z (.lst ds) (.ref a)) {ows0 : Ows} {env0 : Env} {σ0 : L2.St} (s0 : SR c.K c.pn ows0 env0 σ0 w0) : Src c (Ite c.K a) (enumD 0 ds) w0 := src_pairs (fun w kp k => by
  obtain ⟨a', xs, e, h1, h2⟩ := (show ∃ a' xs, V.ref a = .ref a' ∧ FzL w.H w.Z a' xs ∧ Reps c.K w.H w.Z ds xs from by have := kp r; unfold Rep at this; exact this)
  cases e
  refine ⟨fun d hd => ?_, fun hl => ⟨xs, SqL.of h1.2, by rw [h2.len]; exact hl⟩⟩
  obtain ⟨x, hx, rx⟩ := h2.get hd
  refine ⟨⟨xs, x, SqL.of h1.2, hx⟩, fun v H' ⟨T, u, e1, e2, e3, e4⟩ => ⟨T, u, e1, e2, e3, ?_⟩⟩
  have := e4 xs (SqL.of h1.2)
  rw [hx] at this; cases this; exact rx) s0
theorem src_enumT {ds : List D} {a : Addr} {w0 : Wd} (r : Rep c.K w0.H w0.Z (.tup ds) (.ref a)) {ows0 : Ows} {env0 : Env} {σ0 : L2.St} (s0 : SR c.K c.pn ows0 env0 σ0 w0) : Src c (IteT c.K a) (enumD 0 ds) w0 := src_pairs (fun w kp k => by
  obtain ⟨a', xs, e, h1, h2⟩ := (show ∃ a' xs, V.ref a = .ref a' ∧ SqT c.K w.H a' xs ∧ Reps c.K w.H w.Z ds xs from by have := kp r; unfold Rep at this; exact this)
  cases e
  refine ⟨fun d hd => ?_, fun hl => ⟨xs, h1, by rw [h2.len]; exact hl⟩⟩
  obtain ⟨x, hx, rx⟩ := h2.get hd
  refine ⟨⟨xs, x, h1, hx⟩, fun v H' ⟨T, u, e1, e2, e3, e4⟩ => ⟨T, u, e1, e2, e3, ?_⟩⟩
  have := e4 xs h1
  rw [hx] at this; cases this; exact rx) s0
theorem src_enumS {x : Str} {w0 : Wd} {ows0 : Ows} {env0 : Env} {σ0 : L2.St} (s0 : SR c.K c.pn ows0 env0 σ0 w0) : Src c (IteS x) (enumD 0 (x.cps.toList.map fun c => .str ⟨#[c]⟩)) w0 := src_pairs (fun w kp k => by
  refine ⟨fun d hd => ?_, fun hl => by
    show x.cps.size ≤ k
    simpa using hl⟩
  rw [List.getElem?_map] at hd
  cases e : x.cps.toList[k]? with
  | none => rw [e] at hd; cases hd
  | some ch =>
    rw [e] at hd
    cases hd
    have e' : x.cps[k]? = some ch := by simpa using e
    refine ⟨(Array.getElem?_eq_some_iff.mp e').1, fun v H' ⟨T, u, e1, e2, e3, c', e4, e5⟩ => ⟨T, u, e1, e2, e3, ?_⟩⟩
    rw [e'] at e4
    cases e4
    rw [e5]
    unfold Rep
    rfl) s0
theorem pi_enumM {a : Expr} {p tpos : Pos} {elts : List Expr} {kk : Nat} {fs1 : M D × M Bool} (hK : X.K = c.K) (hg : Gl X "enumerate") (hm : X.mg "enumerate" = none) (ha : PE X a (tV c fs1.1 ows ows' .fr q)) (hs : noStar a = true) :
    PI X (.Tuple elts kk tpos) (.Call (.Name "enumerate" p) [a] [] pos) (tI c (M.bind (evs [fs1]) fun ds => M.opt (itF .enum ds)) ows ows' q) := by
  refine wPI (pi_enumA hg hm (pa_cons ha pa_nil (star_cons hs)) (star_cons hs)) fun σ H R ⟨w, env, hw, sr, z⟩ => ⟨w, env, hw, sr, ?_⟩
  unfold M.bind at z
  simp only [evs, M.bind, M.ret] at z
  cases e1 : fs1.1 env with
  | no => rw [e1] at z; exact z.elim
  | ex n env1 => rw [e1] at z; exact z
  | ok d env1 =>
    rw [e1] at z
    intro w1 v A x1 s1 r1 t1 k1
    show (∃ a xs, [v] = [V.ref a] ∧ SqL X.K w1.H a xs ∧ R (Ite X.K a) w1.H) ∨ (∃ a xs, [v] = [V.ref a] ∧ SqT X.K w1.H a xs ∧ R (IteT X.K a) w1.H) ∨ ∃ x, [v] = [V.str x] ∧ R (IteS x) w1.H
    rw [hK]
    cases d with
    | lst ds =>
      obtain ⟨a, xs, rfl, h1, h2⟩ := r1.lst
      exact .inl ⟨a, xs, rfl, SqL.of h1, z w1 _ x1 s1 (src_enumL r1.1 s1) k1⟩
    | tup ds =>
      obtain ⟨a, xs, rfl, h1, h2⟩ := r1.tup
      exact .inr (.inl ⟨a, xs, rfl, h1, z w1 _ x1 s1 (src_enumT r1.1 s1) k1⟩)
    | str x => exact .inr (.inr ⟨x, by rw [r1.str], z w1 _ x1 s1 (src_enumS s1) k1⟩)
    | _ => exact z.elim
end
end Mp
/-! Ms4: what reversed walks: a list, a tuple, list(enumerate(a list)). -/
namespace Mp
open PySem PySem.Spec PyProof.Rows L2
section
variable {X : Cx} {c : Cc} {f g : M D} {fs : M (List D)} {ows ows1 ows2 ows' : Ows} {o o1 o2 : Ow} {q q1 q2 : Bool} {e pe tg : Expr} {pos : Pos}
theorem rev_at {α : Type} {xs : List α} {k : Nat} {x : α} (h : xs.reverse[k]? = some x) : k < xs.length ∧ xs[xs.length - 1 - k]? = some x := by
  have hk : k < xs.length := by
    have := (List.getElem?_eq_some_iff.mp h).1
    simpa using this
  refine ⟨hk, ?_⟩
  rw [List.getElem?_reverse hk] at h
  exact h
theorem src_revL {ds : List D} {a : Addr} {n : Nat} {w0 : Wd} (r : Rep c.K w0.H w0.Z (.lst ds) (.ref a)) (hn : n = ds.length) {ows0 : Ows} {env0 : Env} {σ0 : L2.St} (s0 : SR c.K c.pn ows0 env0 σ0 w0) : Src c (Itv c.K a n) ds.reverse w0 := Src.still (fun w kp k => by
  have r' := kp r
  unfold Rep at r'
  obtain ⟨a', xs, e, h1, h2⟩ := r'
  cases e
  have hq : SqL c.K w.H a xs := SqL.of h1.2
  subst hn
  refine ⟨fun d e => ?_, fun hk => by show ds.length ≤ k; simpa using hk⟩
  obtain ⟨hk, e⟩ := rev_at e
  obtain ⟨x, e1, r1⟩ := h2.get e
  refine ⟨⟨hk, xs, x, hq, e1⟩, fun v H' y => ?_⟩
  obtain ⟨rfl, y⟩ := y
  have := y xs hq
  rw [e1] at this; cases this
  exact ⟨rfl, r1⟩) s0
theorem src_revT {ds : List D} {a : Addr} {n : Nat} {w0 : Wd} (r : Rep c.K w0.H w0.Z (.tup ds) (.ref a)) (hn : n = ds.length) {ows0 : Ows} {env0 : Env} {σ0 : L2.St} (s0 : SR c.K c.pn ows0 env0 σ0 w0) : Src c (RT.ItvT c.K a n) ds.reverse w0 := Src.still (fun w kp k => by
  have r' := kp r
  unfold Rep at r'
  obtain ⟨a', xs, e, h1, h2⟩ := r'
  cases e
  subst hn
  refine ⟨fun d e => ?_, fun hk => by show ds.length ≤ k; simpa using hk⟩
  obtain ⟨hk, e⟩ := rev_at e
  obtain ⟨x, e1, r1⟩ := h2.get e
  refine ⟨⟨hk, xs, x, h1, e1⟩, fun v H' y => ?_⟩
  obtain ⟨rfl, y⟩ := y
  have := y xs h1
  rw [e1] at this; cases this
  exact ⟨rfl, r1⟩) s0
theorem pi_revM {a : Expr} {p : Pos} {fs1 : M D × M Bool} (hK : X.K = c.K) (hg : Gl X "reversed") (hm : X.mg "reversed" = none) (ha : PE X a (tV c fs1.1 ows ows' .fr q)) (hs : noStar a = true) :
    PI X tg (.Call (.Name "reversed" p) [a] [] pos) (tI c (M.bind (evs [fs1]) fun ds => M.opt (itF .rev ds)) ows ows' q) := by
  refine wPI (RT.pi_revA hg hm ha (star_cons hs)) fun σ H R ⟨w, env, hw, sr, z⟩ => ⟨w, env, hw, sr, ?_⟩
  simp only [evs, M.bind, M.ret] at z
  cases e1 : fs1.1 env with
  | no => rw [e1] at z; exact z.elim
  | ex n env1 => rw [e1] at z; exact z
  | ok d env1 =>
    rw [e1] at z
    intro w1 v A x1 s1 r1 t1 k1
    rw [hK]
    cases d with
    | lst ds =>
      obtain ⟨a, xs, rfl, h1, h2⟩ := r1.lst
      exact ⟨a, xs, rfl, .inl ⟨SqL.of h1, z w1 _ x1 s1 (src_revL r1.1 h2 s1) k1⟩⟩
    | tup ds =>
      obtain ⟨a, xs, rfl, h1, h2⟩ := r1.tup
      exact ⟨a, xs, rfl, .inr ⟨h1, z w1 _ x1 s1 (src_revT r1.1 h2.len s1) k1⟩⟩
    | _ => exact z.elim
theorem pi_renumM {a : Expr} {p p2 p3 pos2 pos3 : Pos} {fs1 : M D × M Bool} (hK : X.K = c.K) (hc : X.calm = true) (hg : Gl X "reversed") (hm : X.mg "reversed" = none) (hg2 : Gl X "list") (hm2 : X.mg "list" = none) (hg3 : Gl X "enumerate") (hm3 : X.mg "enumerate" = none) (ha : PE X a (tV c fs1.1 ows ows' .fr q)) (hs : noStar a = true) :
    PI X tg (.Call (.Name "reversed" p) [.Call (.Name "list" p2) [.Call (.Name "enumerate" p3) [a] [] pos3] [] pos2] [] pos) (tI c (M.bind (evs [fs1]) fun ds => M.opt (itF .renum ds)) ows ows' q) := by
  refine wPI (RT.pi_revA hg hm (pe_listEnum hc hg2 hm2 hg3 hm3 ha (star_cons hs))) fun σ H R ⟨w, env, hw, sr, z⟩ => ⟨w, env, hw, sr, ?_⟩
  simp only [evs, M.bind, M.ret] at z
  cases e1 : fs1.1 env with
  | no => rw [e1] at z; exact z.elim
  | ex n env1 => rw [e1] at z; exact z
  | ok d env1 =>
    rw [e1] at z
    intro w1 v A x1 s1 r1 t1 k1
    rw [hK]
    cases d with
    | lst ds =>
      obtain ⟨a, xs, rfl, h1, h2⟩ := (show ∃ a xs, v = V.ref a ∧ FzL w1.H w1.Z a xs ∧ Reps c.K w1.H w1.Z ds xs from r1.1)
      refine ⟨a, xs, rfl, SqL.of h1.2, fun S Ts H2 hS hk hSl hl hP => ?_⟩
      let w2 : Wd := ⟨fun b => w1.Z b ∨ b = S, w1.F, H2⟩
      have x2 : Ext w1 w2 := ⟨fun b hb => .inl hb, fun b o hb _ => hk b o hb, fun b hb => by
        cases hq : w1.H b with
        | none => exact absurd hq hb
        | some o => show H2 b ≠ none; rw [hk b o hq]; simp, fun i b hb => .inl ⟨i, hb⟩, fun b hb => by
          rcases hb with hb | hb
          · exact .inl hb
          · rw [hb]; exact .inr (.inr hS), fun hz b hb => by
          rcases hb with hb | hb
          · cases hq : w1.H b with
            | none => exact absurd hq (hz b hb)
            | some o => show H2 b ≠ none; rw [hk b o hq]; simp
          · show H2 b ≠ none
            rw [hb, hSl]; simp⟩
      have s2 : SR c.K c.pn ows' env1 σ w2 := ⟨s1.len, fun i d hd => by
        obtain ⟨v, g1, g2⟩ := s1.at_ i d hd
        exact ⟨v, g1, g2.keep (H' := H2) (Z' := w2.Z) (fun b hb => .inl hb) fun b o hb _ => hk b o hb⟩, s1.apart, fun i b hb hz => by
          rcases hz with hz | hz
          · exact s1.zf i b hb hz
          · exact s1.fne b hb (by rw [hz]; exact hS), fun i b hb => by
          obtain ⟨o, g1, g2⟩ := s1.fm i b hb
          exact ⟨o, hk b o g1, g2⟩, x2.zh s1.zt, s1.pin⟩
      have r2 : Rep c.K w2.H w2.Z (.lst (enumD 0 ds)) (.ref S) := by
        unfold Rep
        refine ⟨S, Ts.map V.ref, rfl, ⟨.inr rfl, hSl⟩, Reps.of (by rw [List.length_map, hl, h2.len, enumD_len]) fun j d x e2 e3 => ?_⟩
        rw [List.getElem?_map] at e3
        cases hT : Ts[j]? with
        | none => rw [hT] at e3; cases e3
        | some T =>
          rw [hT] at e3
          cases e3
          obtain ⟨y, hy, hTy⟩ := hP j T hT
          rw [enumD_at] at e2
          cases hd : ds[j]? with
          | none => rw [hd] at e2; cases e2
          | some d1 =>
            rw [hd] at e2
            cases e2
            obtain ⟨y', g1, g2⟩ := h2.get hd
            rw [hy] at g1
            cases g1
            unfold Rep
            refine ⟨T, [.int (j : Nat), y], rfl, SqT.of hTy, ?_⟩
            unfold Reps
            refine ⟨_, _, rfl, by unfold Rep; rw [Int.zero_add], ?_⟩
            unfold Reps
            exact ⟨_, _, rfl, Rep.mono (fun _ z => .inl z) (fun b o hb _ => hk b o hb) g2, by unfold Reps; rfl⟩
      exact ⟨S, Ts.map V.ref, rfl, .inl ⟨SqL.of hSl, z w2 _ (x1.trans x2) s2 (src_revL r2 (by rw [List.length_map, hl, h2.len, enumD_len]) s2) fun h => fun b o hb => hk b o (k1 h b o hb)⟩⟩
    | _ => exact z.elim
end
end Mp
/-! Mq3: list comprehensions. -/
namespace Mp
open PySem PySem.Spec PyProof.Rows L2

section
variable {K : PySem.W.Frag} {pn : Pin} {ows ows' : Ows} {env env' : Env} {σ σ' : L2.St} {w w' : Wd}
def Wd.outs (w : Wd) : List Nat → Wd
  | [] => w
  | i :: is => (w.outs is).out i
theorem outs_H : ∀ {is : List Nat}, (w.outs is).H = w.H
  | [] => rfl
  | i :: is => outs_H (is := is)
theorem outs_Z : ∀ {is : List Nat}, (w.outs is).Z = w.Z
  | [] => rfl
  | i :: is => outs_Z (is := is)
theorem outs_F : ∀ {is : List Nat} {j : Nat} {a : Addr}, (w.outs is).F j a ↔ (j ∉ is ∧ w.F j a)
  | [], j, a => by simp [Wd.outs]
  | i :: is, j, a => by
    show (j ≠ i ∧ (w.outs is).F j a) ↔ _
    rw [outs_F (is := is), List.mem_cons, not_or, and_assoc]
theorem Ext.outs (w : Wd) : ∀ is : List Nat, Ext w (w.outs is)
  | [] => Ext.refl
  | i :: is => (Ext.outs w is).trans (Ext.out _ i)
theorem SR.outs (s : SR K pn ows env σ w) : ∀ is : List Nat, SR K pn ows (wipeE env is) σ (w.outs is)
  | [] => s
  | i :: is => (SR.outs s is).out i (fun _ _ => rfl)
theorem getS_wipe : ∀ {is : List Nat} {i : Nat} {d : D}, getS (wipeE env is) i = some d → i ∉ is ∧ getS env i = some d
  | [], i, d, h => ⟨by simp, h⟩
  | j :: is, i, d, h => by
    obtain ⟨h1, h2⟩ := getS_un (show getS (unS (wipeE env is) j) i = some d from h)
    obtain ⟨h3, h4⟩ := getS_wipe h2
    exact ⟨by rw [List.mem_cons, not_or]; exact ⟨h1, h3⟩, h4⟩
theorem getS_wipe' : ∀ {is : List Nat} {i : Nat}, i ∉ is → getS (wipeE env is) i = getS env i
  | [], i, _ => rfl
  | j :: is, i, h => by
    rw [List.mem_cons, not_or] at h
    rw [← getS_wipe' h.2]
    show getS ((wipeE env is).set j none) i = _
    unfold getS
    rw [List.getElem?_set_ne (Ne.symm h.1)]
theorem wipeE_len : ∀ {is : List Nat}, (wipeE env is).length = env.length
  | [] => rfl
  | i :: is => by show ((wipeE env is).set i none).length = _; rw [List.length_set, wipeE_len]
theorem wipe_ne : ∀ {vs : List Nat} {i : Nat}, i ∉ vs → (wipe σ vs)[i]? = σ[i]?
  | [], _, _ => rfl
  | v :: vs, i, h => by
    rw [List.mem_cons, not_or] at h
    unfold wipe
    rw [List.getElem?_set_ne (Ne.symm h.1), wipe_ne h.2]
theorem wipe_in : ∀ {vs : List Nat} {i : Nat}, i ∈ vs → i < σ.length → (wipe σ vs)[i]? = some none
  | [], _, h, _ => by cases h
  | v :: vs, i, h, hl => by
    unfold wipe
    by_cases e : v = i
    · subst e
      rw [List.getElem?_set_self (by rw [wipe_length]; exact hl)]
    · rw [List.getElem?_set_ne e]
      exact wipe_in ((List.mem_cons.mp h).resolve_left (fun z => e z.symm)) hl
theorem wipe_same {vs : List Nat} (h : Same vs (wipe σ vs) σ') : wipe σ' vs = wipe σ vs := by
  have hl : σ'.length = σ.length := by rw [h.1, wipe_length]
  apply List.ext_getElem?
  intro i
  by_cases hi : i ∈ vs
  · by_cases hl2 : i < σ.length
    · rw [wipe_in hi hl2, wipe_in hi (by rw [hl]; exact hl2)]
    · rw [List.getElem?_eq_none (by rw [wipe_length, hl]; omega), List.getElem?_eq_none (by rw [wipe_length]; omega)]
  · rw [wipe_ne hi, h.2 i hi]
/-- into the block -/
theorem SR.wiped {is : List Nat} (s : SR K pn ows (wipeE env is) σ w) (hp : ∀ i, i ∈ is → pn i = none) : SR K pn ows (wipeE env is) (wipe σ is) w where
  len := by rw [wipe_length]; exact s.len
  at_ := fun i d h => by
    obtain ⟨v, h1, h2⟩ := s.at_ i d h
    exact ⟨v, by rw [wipe_ne (getS_wipe h).1]; exact h1, h2⟩
  apart := s.apart
  zf := s.zf
  fm := s.fm
  zt := s.zt
  pin := fun i p h => by
    have hi : i ∉ is := fun z => by rw [hp i z] at h; cases h
    rw [wipe_ne hi]
    exact s.pin i p h
/-- out of the block -/
theorem SR.unblk {is : List Nat} {env4 : Env} {σ2 : L2.St} (s0 : SR K pn ows (wipeE env is) σ w) (s : SR K pn ows' env4 σ2 w') (hp : ∀ i, i ∈ is → pn i = none) (hw : wipe σ2 is = wipe σ is) (he : ∀ i d, getS (wipeE env is) i = some d → getS env4 i = some d) : SR K pn ows' (wipeE env is) σ (w'.outs is) where
  len := s0.len
  at_ := fun i d h => by
    have hi := (getS_wipe h).1
    obtain ⟨v, h1, h2⟩ := s.at_ i d (he i d h)
    refine ⟨v, by rw [← wipe_ne hi, ← hw, wipe_ne hi]; exact h1, ?_⟩
    have e : (w'.outs is).F i = w'.F i := by
      funext a
      exact propext ⟨fun z => (outs_F.mp z).2, fun z => outs_F.mpr ⟨hi, z⟩⟩
    rw [outs_H, outs_Z, e]
    exact h2
  apart := fun i j a h1 h2 => s.apart i j a (outs_F.mp h1).2 (outs_F.mp h2).2
  zf := fun i a h z => s.zf i a (outs_F.mp h).2 (by rw [outs_Z] at z; exact z)
  fm := fun i a h => by rw [outs_H]; exact s.fm i a (outs_F.mp h).2
  zt := fun a z => by rw [outs_H]; rw [outs_Z] at z; exact s.zt a z
  pin := s0.pin
theorem asg_ne {t : T} {d : D} (h : asg t d env = some env') : ∀ i, i ∉ t.slots → getS env' i = getS env i := by
  cases t with
  | nm j =>
    cases h
    intro i hi
    have : i ≠ j := by simpa [T.slots] using hi
    unfold getS setS
    rw [List.getElem?_set_ne (Ne.symm this)]
  | tp is =>
    cases d <;> simp only [asg, reduceCtorEq] at h
    split at h
    · rename_i ds hl
      cases h
      intro i hi
      have hi' : i ∉ is := hi
      clear hl hi
      induction is generalizing ds env with
      | nil => rfl
      | cons j js ih =>
        cases ds with
        | nil => rfl
        | cons d ds =>
          rw [List.mem_cons, not_or] at hi'
          simp only [List.zip_cons_cons, List.foldl_cons]
          rw [ih (ds := ds) (env := setS env j d) hi'.2]
          unfold getS setS
          rw [List.getElem?_set_ne (Ne.symm hi'.1)]
    · cases h
/-- a temp's own list is written -/
theorem SR.updT {p : Addr} {o o' : HO} (s : SR K pn ows env σ w) (hz : ¬ w.Z p) (hf : ∀ j, ¬ w.F j p) (hh : w.H p = some o) (hm : mutO o = true) : SR K pn ows env σ (w.upd p o') := by
  have k : ∀ a q, a ≠ p → w.H a = some q → (w.upd p o').H a = some q := fun a q n e => by show L2.upd w.H p o' a = _; rw [upd_ne n]; exact e
  refine ⟨s.len, fun i d h => ?_, s.apart, s.zf, fun i a h => ?_, fun a z => ?_, s.pin⟩
  · obtain ⟨v, h1, h2⟩ := s.at_ i d h
    refine ⟨v, h1, h2.keep (fun _ z => z) fun a q e z => k a q (fun ea => ?_) e⟩
    subst ea
    rcases z with z | z | z
    · exact hz z
    · exact hf i z
    · rw [hh] at e; cases e; rw [hm] at z; cases z
  · obtain ⟨q, e, m⟩ := s.fm i a h
    exact ⟨q, k a q (fun ea => hf i (by rw [← ea]; exact h)) e, m⟩
  · have := s.zt a z
    by_cases ea : a = p
    · subst ea; exact absurd z hz
    · show L2.upd w.H p o' a ≠ none
      rw [upd_ne ea]; exact this
theorem Ext.updT {w0 : Wd} {p : Addr} {o' : HO} (e : Ext w0 w) (hn : w0.H p = none) : Ext w0 (w.upd p o') where
  z := e.z
  fr := fun a o h n => by
    show L2.upd w.H p o' a = _
    rw [upd_ne (fun ea => by subst ea; rw [hn] at h; cases h)]
    exact e.fr a o h n
  dm := fun a h => by
    show L2.upd w.H p o' a ≠ none
    by_cases ea : a = p
    · subst ea; rw [upd_same]; simp
    · rw [upd_ne ea]; exact e.dm a h
  nw := e.nw
  zn := e.zn
  zh := fun h a z => by
    show L2.upd w.H p o' a ≠ none
    by_cases ea : a = p
    · subst ea; rw [upd_same]; simp
    · rw [upd_ne ea]; exact e.zh h a z
end

section
variable {X : Cx} {c : Cc} {ows ows1 oh ow2 ow3 : Ows} {o : Ow} {qi qc qe : Bool}
/-- the block's own -/
def Cc.blk (c : Cc) : Cc := { c with W := fun _ _ _ _ => False }
theorem lc_imp {t : T} {fi : M (List D)} {fe : M D} {fc : M Bool} (hpe : Pure fe) (hpc : Pure fc) (hp : ∀ i, i ∈ t.slots → c.pn i = none) (h0 : weakB 0 ows1 oh = true) (h2 : weakB 0 ow2 oh = true) (h3 : weakB 0 ow3 oh = true) :
    ∀ σ H Q, tV c (lcF fe t fi fc) ows oh (.ow o) (qi && (qc && qe)) σ H Q → tLc (tI c fi ows ows1 qi) (tgT c.blk t oh) (tB_ c.blk fc (frs oh t.slots) ow2 qc) (tV c.blk fe ow2 ow3 o qe) t.slots σ H Q := by
  intro σ H Q ⟨w, env, hw, sr, z⟩
  refine ⟨w, env, hw, sr, ?_⟩
  unfold lcF M.bind at z
  cases e1 : fi env with
  | no => rw [e1] at z; exact z.elim
  | ex n env1 => rw [e1] at z; exact z
  | ok ds env1 =>
    rw [e1] at z
    intro w1 J x1 s1 src k1 D hD
    simp only at z
    by_cases hl : ds.length ≤ SZ
    · rw [if_pos hl] at z
      cases e2 : lcL fe t fc (wipeE env1 t.slots) ds with
      | none => rw [e2] at z; exact z.elim
      | some ys =>
        rw [e2] at z
        simp only at z
        obtain ⟨w2, x2, eh, s2⟩ := s1.weak h0
        have s3 := s2.outs t.slots
        have x3 : Ext w1 (w2.outs t.slots) := x2.trans (Ext.outs _ _)
        have h3H : (w2.outs t.slots).H = w1.H := by rw [outs_H, eh]
        generalize hw3 : w2.outs t.slots = w3 at s3 x3 h3H
        have hD3 : w3.H D = none := by rw [h3H]; exact hD
        have al := Alloc.new (o := .lst []) hD3
        refine ⟨fun i m H => m = ds.length - i ∧ i ≤ ds.length ∧ ∃ w' acc done rest B G, w'.H = H ∧ Ext w3 w' ∧ ((qi && (qc && qe)) = true → Quiet w1 w') ∧ SR c.K c.pn oh (wipeE env1 t.slots) σ w' ∧ w'.H D = some (.lst acc) ∧
          Items (RO c.K w'.H w'.Z o) done acc B G ∧ ¬ B D ∧ Tmp w3 w' (fun a => a = D ∨ B a) ∧ done.length ≤ i ∧ lcL fe t fc (wipeE env1 t.slots) (ds.drop i) = some rest ∧ ys = done ++ rest, ⟨ds.length, by simp, Nat.zero_le _, w3.upd D (.lst []), [], [], ys, _, _, by rw [← h3H]; rfl, al.ext, fun _ a q e => al.h a q (by rw [h3H]; exact e), al.sr s3, upd_same, Items.nil, fun z => z, ?_, Nat.le_refl _, by rw [List.drop_zero]; exact e2, rfl⟩, ?_⟩
        · have tm := al.tmp s3
          exact ⟨fun a h => tm.z a (h.elim id False.elim), fun a i h => tm.f a i (h.elim id False.elim), fun a h => tm.nw a (h.elim id False.elim)⟩
        rintro i m H' ⟨rfl, hi, w4, acc, done, rest, B, G, rfl, x4, k4, s4, hDw, I, nb, tm, hdl, hrest, hys⟩
        obtain ⟨sg, ss⟩ := src w4 oh _ σ (x3.trans x4) s4 i
        by_cases hlt : i < ds.length
        · have hd : ds[i]? = some ds[i] := List.getElem?_eq_getElem hlt
          obtain ⟨g1, g2⟩ := sg _ hd
          refine .inr ⟨g1, fun H' => ∃ w' acc done rest B G, w'.H = H' ∧ Ext w3 w' ∧ ((qi && (qc && qe)) = true → Quiet w1 w') ∧ SR c.K c.pn oh (wipeE env1 t.slots) σ w' ∧ w'.H D = some (.lst acc) ∧
          Items (RO c.K w'.H w'.Z o) done acc B G ∧ ¬ B D ∧ Tmp w3 w' (fun a => a = D ∨ B a) ∧ done.length ≤ i + 1 ∧ lcL fe t fc (wipeE env1 t.slots) (ds.drop (i + 1)) = some rest ∧ ys = done ++ rest, fun H' hh => ⟨ds.length - (i + 1), by omega, rfl, hlt, hh⟩, fun x H' y => ?_⟩
          obtain ⟨w5, rfl, al5, rp⟩ := g2 x H' y
          rw [List.drop_eq_getElem_cons hlt] at hrest
          have s5 := (al5.sr s4).wiped hp
          have x45 := al5.ext
          simp only [lcL] at hrest
          cases ea : asg t ds[i] (wipeE env1 t.slots) with
          | none => rw [ea] at hrest; cases hrest
          | some env5 =>
            rw [ea] at hrest
            simp only at hrest
            refine ⟨w5, _, ds[i], rfl, s5, rp, ?_⟩
            rw [ea]
            intro w6 σ6 x6 s6 sm6 h6
            have hw6 : wipe σ6 t.slots = wipe σ t.slots := wipe_same sm6
            refine ⟨hw6, w6, env5, rfl, s6, ?_⟩
            have he5 : ∀ j d, getS (wipeE env1 t.slots) j = some d → getS env5 j = some d := fun j d h => by rw [asg_ne ea j (getS_wipe h).1]; exact h
            have x46 := x45.trans x6
            -- what stays of the list so far
            have stay : ∀ {w7 : Wd}, Ext w4 w7 → ∀ a q, w4.H a = some q → (w4.Z a ∨ (a = D ∨ B a) ∨ mutO q = false) → w7.H a = some q := fun {w7} x a q e zz => x.fr a q e fun j hj => by
              rcases zz with zz | zz | zz
              · exact s4.zf j a hj zz
              · exact tm.f a j zz hj
              · obtain ⟨q', e', m⟩ := s4.fm j a hj
                rw [e] at e'; cases e'; rw [zz] at m; cases m
            have tmx : ∀ {w7 : Wd}, Ext w4 w7 → Tmp w3 w7 (fun a => a = D ∨ B a) := fun {w7} x => Tmp.ext s4 tm (fun a h => by
              rcases h with rfl | h
              · rw [hDw]; simp
              · obtain ⟨k, hk, g⟩ := (I.some_ a).mp h
                obtain ⟨d, hd⟩ : ∃ d, done[k]? = some d := ⟨_, List.getElem?_eq_getElem hk⟩
                obtain ⟨y, hy⟩ : ∃ y, acc[k]? = some y := ⟨_, List.getElem?_eq_getElem (by rw [I.len]; exact hk)⟩
                exact (I.at_ k d y hd hy).ne a g) x4 x
            cases e6 : fc env5 with
            | no => rw [e6] at hrest; cases hrest
            | ex n e7 => rw [e6] at hrest; cases hrest
            | ok b env6 =>
              have := hpc _ _ _ e6
              subst this
              rw [e6] at hrest
              intro w7 x7 s7 k7
              have x47 := x46.trans x7
              cases b with
              | false =>
                rw [if_neg Bool.false_ne_true]
                simp only at hrest
                obtain ⟨w8, x8, eh8, s8⟩ := s7.weak h2
                have s9 := s4.unblk s8 hp hw6 he5
                have x49 : Ext w4 (w8.outs t.slots) := (x47.trans x8).trans (Ext.outs _ _)
                have tm9 := tmx x49
                refine ⟨w8.outs t.slots, acc, done, rest, B, G, by rw [outs_H, eh8], x4.trans x49, fun hq a q e => ?_, s9, stay x49 D _ hDw (.inr (.inl (.inl rfl))), I.keep x49.z fun a q e zz => stay x49 a q e (by rcases zz with zz | zz | zz; exact .inl zz; exact .inr (.inl (.inr zz)); exact .inr (.inr zz)), nb, tm9, by omega, hrest, hys⟩
                have hq' := hq
                simp only [Bool.and_eq_true] at hq'
                rw [outs_H, eh8]
                refine k7 hq'.2.1 a q ?_
                rw [h6]
                exact al5.h a q (k4 hq a q e)
              | true =>
                rw [if_pos rfl]
                simp only at hrest
                refine ⟨w7, env6, rfl, s7, ?_⟩
                cases e7 : fe env6 with
                | no => rw [e7] at hrest; cases hrest
                | ex n e8 => rw [e7] at hrest; cases hrest
                | ok y env7 =>
                  have := hpe _ _ _ e7
                  subst this
                  rw [e7] at hrest
                  obtain ⟨rest', hr1, hr2⟩ := Option.map_eq_some_iff.mp hrest
                  intro w8 v A8 x8 s8 r8 t8 k8
                  have x48 := x47.trans x8
                  have hD8 : w8.H D = some (.lst acc) := stay x48 D _ hDw (.inr (.inl (.inl rfl)))
                  refine ⟨acc, hD8, by rw [I.len, ← sz_eq]; omega, ?_⟩
                  obtain ⟨w9, x9, eh9, s9⟩ := s8.weak h3
                  have x49 : Ext w4 (w9.outs t.slots) := (x48.trans x9).trans (Ext.outs _ _)
                  have s10 := s4.unblk s9 hp hw6 he5
                  have tm10 := tmx x49
                  have hH10 : (w9.outs t.slots).H = w8.H := by rw [outs_H, eh9]
                  -- the new item's footprint
                  have x89 : Ext w8 (w9.outs t.slots) := x9.trans (Ext.outs _ _)
                  have r10 : RO c.K (w9.outs t.slots).H (w9.outs t.slots).Z o y v A8 := RO.ext s8 t8.f x89 r8
                  have t10 : Tmp w7 (w9.outs t.slots) A8 := Tmp.ext s8 t8 (fun a ha => r8.ne a ha) x8 x89
                  have t10' : Tmp w3 (w9.outs t.slots) A8 := t10.pre (x4.trans x47)
                  have dis : ∀ a, A8 a → ¬ (a = D ∨ B a) := fun a ha hb => by
                    have hne : w4.H a ≠ none := by
                      rcases hb with rfl | hb
                      · rw [hDw]; simp
                      · obtain ⟨k, hk, g⟩ := (I.some_ a).mp hb
                        obtain ⟨d, hd⟩ : ∃ d, done[k]? = some d := ⟨_, List.getElem?_eq_getElem hk⟩
                        obtain ⟨y', hy⟩ : ∃ y, acc[k]? = some y := ⟨_, List.getElem?_eq_getElem (by rw [I.len]; exact hk)⟩
                        exact (I.at_ k d y' hd hy).ne a g
                    rcases t8.nw a ha with ⟨j, hj⟩ | hn
                    · rcases x47.nw j a hj with ⟨j', hj'⟩ | hn
                      · exact tm.f a j' hb hj'
                      · exact hne hn
                    · exact x47.dm a hne hn
                  generalize hw10 : w9.outs t.slots = w10 at s10 x49 tm10 hH10 r10 t10' x89
                  have hD10 : w10.H D = some (.lst acc) := by rw [hH10]; exact hD8
                  have hzD : ¬ w10.Z D := tm10.z D (.inl rfl)
                  have hfD : ∀ j, ¬ w10.F j D := fun j => tm10.f D j (.inl rfl)
                  have s11 := s10.updT (o' := .lst (acc ++ [v])) hzD hfD hD10 rfl
                  have I10 := I.keep x49.z fun a q e zz => stay x49 a q e (by rcases zz with zz | zz | zz; exact .inl zz; exact .inr (.inl (.inr zz)); exact .inr (.inr zz))
                  have kD : ∀ (A : AS), ¬ A D → ∀ a q, w10.H a = some q → (w10.Z a ∨ A a ∨ mutO q = false) → (w10.upd D (.lst (acc ++ [v]))).H a = some q := fun A hA a q e zz => by
                    show L2.upd w10.H D _ a = _
                    rw [upd_ne]
                    · exact e
                    · rintro rfl
                      rcases zz with zz | zz | zz
                      · exact hzD zz
                      · exact hA zz
                      · rw [hD10] at e; cases e; cases zz
                  have nA : ¬ A8 D := fun h => dis D h (.inl rfl)
                  have I11 := (I10.keep (Z' := w10.Z) (fun _ z => z) (kD B nb)).snoc (d := y) (x := v) (A := A8) (r10.keep (fun _ z => z) (kD A8 nA)) (fun a ha hb => dis a ha (.inr hb))
                  refine ⟨w10.upd D (.lst (acc ++ [v])), acc ++ [v], done ++ [y], rest', _, _, by rw [← hH10]; rfl, (x4.trans x49).updT hD3, fun hq a q e => ?_, s11, upd_same, I11, fun h => h.elim nb nA, ⟨fun a h => ?_, fun a j h => ?_, fun a h => ?_⟩, by rw [List.length_append]; simp; omega, hr1, by rw [hys, ← hr2]; simp⟩
                  · have hq' := hq
                    simp only [Bool.and_eq_true] at hq'
                    show L2.upd w10.H D _ a = _
                    rw [upd_ne (fun ea => by subst ea; rw [hD] at e; cases e), hH10]
                    refine k8 hq'.2.2 a q (k7 hq'.2.1 a q ?_)
                    rw [h6]
                    exact al5.h a q (k4 hq a q e)
                  · rcases h with rfl | h | h
                    · exact hzD
                    · exact tm10.z a (.inr h)
                    · exact t10'.z a h
                  · rcases h with rfl | h | h
                    · exact hfD j
                    · exact tm10.f a j (.inr h)
                    · exact t10'.f a j h
                  · rcases h with rfl | h | h
                    · exact tm10.nw a (.inl rfl)
                    · exact tm10.nw a (.inr h)
                    · exact t10'.nw a h
        · have e : i = ds.length := by omega
          subst e
          rw [List.drop_length] at hrest
          cases hrest
          rw [List.append_nil] at hys
          subst hys
          exact .inl ⟨ss (Nat.le_refl _), z w4 (.ref D) (fun a => a = D ∨ B a) ((x1.trans x3).trans x4) s4 ⟨D, acc, B, G, rfl, hDw, I, nb, fun b => Iff.rfl⟩ (tm.pre (x1.trans x3)) fun hq a q e => k4 hq a q (k1 (by simp only [Bool.and_eq_true] at hq; exact hq.1) a q e)⟩
    · rw [if_neg hl] at z; exact z.elim
end
end Mp
/-! Ms2: list comprehensions within which something lent is changed. -/
namespace Mp
open PySem PySem.Spec PyProof.Rows L2
section
variable {K : PySem.W.Frag} {pn : Pin} {ows ows' : Ows} {env env' : Env} {σ σ' : L2.St} {w w' : Wd}
/-- out of the block, with what has changed -/
theorem SR.unblk' {is : List Nat} {envI env4 : Env} {σ2 : L2.St} (s0 : SR K pn ows envI σ w) (s : SR K pn ows' env4 σ2 w') (hw : wipe σ2 is = wipe σ is) : SR K pn ows' (wipeE env4 is) σ (w'.outs is) where
  len := by
    have := congrArg List.length hw
    rw [wipe_length, wipe_length] at this
    rw [wipeE_len, ← s.len, this]
  at_ := fun i d h => by
    obtain ⟨hi, h'⟩ := getS_wipe h
    obtain ⟨v, h1, h2⟩ := s.at_ i d h'
    refine ⟨v, by rw [← wipe_ne hi, ← hw, wipe_ne hi]; exact h1, ?_⟩
    have e : (w'.outs is).F i = w'.F i := by
      funext a
      exact propext ⟨fun z => (outs_F.mp z).2, fun z => outs_F.mpr ⟨hi, z⟩⟩
    rw [outs_H, outs_Z, e]
    exact h2
  apart := fun i j a h1 h2 => s.apart i j a (outs_F.mp h1).2 (outs_F.mp h2).2
  zf := fun i a h z => s.zf i a (outs_F.mp h).2 (by rw [outs_Z] at z; exact z)
  fm := fun i a h => by rw [outs_H]; exact s.fm i a (outs_F.mp h).2
  zt := fun a z => by rw [outs_H]; rw [outs_Z] at z; exact s.zt a z
  pin := fun j p h => ⟨(s0.pin j p h).1, fun d hd d' hg => (s.pin j p h).2 d hd d' (getS_wipe hg).2⟩
end
section
variable {X : Cx} {c : Cc} {ows ows1 oh ow2 ow3 : Ows} {o : Ow} {qi qc qe : Bool}
theorem lct_imp {t : T} {fi : M (List D)} {fe : M D} (hp : ∀ i, i ∈ t.slots → c.pn i = none) (h0 : weakB 0 ows1 oh = true) (h2 : weakB 0 ow2 oh = true) (h3 : weakB 0 ow3 oh = true) :
    ∀ σ H Q, tV c (lctF fe t fi) ows oh (.ow o) false σ H Q → tLc (tI c fi ows ows1 qi) (tgT c.blk t oh) (tB_ c.blk (M.ret true) (frs oh t.slots) ow2 qc) (tV c.blk fe ow2 ow3 o qe) t.slots σ H Q := by
  intro σ H Q ⟨w, env, hw, sr, z⟩
  refine ⟨w, env, hw, sr, ?_⟩
  unfold lctF M.bind at z
  cases e1 : fi env with
  | no => rw [e1] at z; exact z.elim
  | ex n env1 => rw [e1] at z; exact z
  | ok ds env1 =>
    rw [e1] at z
    intro w1 J x1 s1 src k1 D hD
    simp only at z
    by_cases hl : ds.length ≤ SZ
    · rw [if_pos hl] at z
      cases e2 : lctL fe t ds (wipeE env1 t.slots) with
      | no => rw [e2] at z; exact z.elim
      | ex _ _ => rw [e2] at z; exact z.elim
      | ok ys envF =>
        rw [e2] at z
        simp only at z
        obtain ⟨w2, x2, eh, s2⟩ := s1.weak h0
        have s3 := s2.outs t.slots
        have x3 : Ext w1 (w2.outs t.slots) := x2.trans (Ext.outs _ _)
        have h3H : (w2.outs t.slots).H = w1.H := by rw [outs_H, eh]
        generalize hw3 : w2.outs t.slots = w3 at s3 x3 h3H
        have hD3 : w3.H D = none := by rw [h3H]; exact hD
        have al := Alloc.new (o := .lst []) hD3
        refine ⟨fun i m H => m = ds.length - i ∧ i ≤ ds.length ∧ ∃ w' acc done rest B G envI, w'.H = H ∧ Ext w3 w' ∧ SR c.K c.pn oh (wipeE envI t.slots) σ w' ∧ w'.H D = some (.lst acc) ∧
          Items (RO c.K w'.H w'.Z o) done acc B G ∧ ¬ B D ∧ Tmp w3 w' (fun a => a = D ∨ B a) ∧ done.length ≤ i ∧ lctL fe t (ds.drop i) (wipeE envI t.slots) = .ok rest envF ∧ ys = done ++ rest, ⟨ds.length, by simp, Nat.zero_le _, w3.upd D (.lst []), [], [], ys, _, _, env1, by rw [← h3H]; rfl, al.ext, al.sr s3, upd_same, Items.nil, fun z => z, ?_, Nat.le_refl _, by rw [List.drop_zero]; exact e2, rfl⟩, ?_⟩
        · have tm := al.tmp s3
          exact ⟨fun a h => tm.z a (h.elim id False.elim), fun a i h => tm.f a i (h.elim id False.elim), fun a h => tm.nw a (h.elim id False.elim)⟩
        rintro i m H' ⟨rfl, hi, w4, acc, done, rest, B, G, envI, rfl, x4, s4, hDw, I, nb, tm, hdl, hrest, hys⟩
        obtain ⟨sg, ss⟩ := src w4 oh _ σ (x3.trans x4) s4 i
        by_cases hlt : i < ds.length
        · have hd : ds[i]? = some ds[i] := List.getElem?_eq_getElem hlt
          obtain ⟨g1, g2⟩ := sg _ hd
          refine .inr ⟨g1, fun H' => ∃ w' acc done rest B G envI, w'.H = H' ∧ Ext w3 w' ∧ SR c.K c.pn oh (wipeE envI t.slots) σ w' ∧ w'.H D = some (.lst acc) ∧
          Items (RO c.K w'.H w'.Z o) done acc B G ∧ ¬ B D ∧ Tmp w3 w' (fun a => a = D ∨ B a) ∧ done.length ≤ i + 1 ∧ lctL fe t (ds.drop (i + 1)) (wipeE envI t.slots) = .ok rest envF ∧ ys = done ++ rest, fun H' hh => ⟨ds.length - (i + 1), by omega, rfl, hlt, hh⟩, fun x H' y => ?_⟩
          obtain ⟨w5, rfl, al5, rp⟩ := g2 x H' y
          rw [List.drop_eq_getElem_cons hlt] at hrest
          have s5 := (al5.sr s4).wiped hp
          have x45 := al5.ext
          simp only [lctL] at hrest
          cases ea : asg t ds[i] (wipeE envI t.slots) with
          | none => rw [ea] at hrest; cases hrest
          | some env5 =>
            rw [ea] at hrest
            simp only at hrest
            refine ⟨w5, _, ds[i], rfl, s5, rp, ?_⟩
            rw [ea]
            intro w6 σ6 x6 s6 sm6 h6
            have hw6 : wipe σ6 t.slots = wipe σ t.slots := wipe_same sm6
            refine ⟨hw6, w6, env5, rfl, s6, ?_⟩
            have x46 := x45.trans x6
            -- what stays of the list so far
            have stay : ∀ {w7 : Wd}, Ext w4 w7 → ∀ a q, w4.H a = some q → (w4.Z a ∨ (a = D ∨ B a) ∨ mutO q = false) → w7.H a = some q := fun {w7} x a q e zz => x.fr a q e fun j hj => by
              rcases zz with zz | zz | zz
              · exact s4.zf j a hj zz
              · exact tm.f a j zz hj
              · obtain ⟨q', e', m⟩ := s4.fm j a hj
                rw [e] at e'; cases e'; rw [zz] at m; cases m
            have tmx : ∀ {w7 : Wd}, Ext w4 w7 → Tmp w3 w7 (fun a => a = D ∨ B a) := fun {w7} x => Tmp.ext s4 tm (fun a h => by
              rcases h with rfl | h
              · rw [hDw]; simp
              · obtain ⟨k, hk, g⟩ := (I.some_ a).mp h
                obtain ⟨d, hd⟩ : ∃ d, done[k]? = some d := ⟨_, List.getElem?_eq_getElem hk⟩
                obtain ⟨y, hy⟩ : ∃ y, acc[k]? = some y := ⟨_, List.getElem?_eq_getElem (by rw [I.len]; exact hk)⟩
                exact (I.at_ k d y hd hy).ne a g) x4 x
            intro w7 x7 s7 k7
            have x47 := x46.trans x7
            rw [if_pos rfl]
            refine ⟨w7, env5, rfl, s7, ?_⟩
            cases e7 : fe env5 with
            | no => rw [e7] at hrest; cases hrest
            | ex n e8 => rw [e7] at hrest; cases hrest
            | ok y env7 =>
              rw [e7] at hrest
              simp only at hrest
              cases e8 : lctL fe t (ds.drop (i + 1)) (wipeE env7 t.slots) with
              | no => rw [e8] at hrest; cases hrest
              | ex _ _ => rw [e8] at hrest; cases hrest
              | ok rest' envG =>
                  rw [e8] at hrest
                  cases hrest
                  intro w8 v A8 x8 s8 r8 t8 k8
                  have x48 := x47.trans x8
                  have hD8 : w8.H D = some (.lst acc) := stay x48 D _ hDw (.inr (.inl (.inl rfl)))
                  refine ⟨acc, hD8, by rw [I.len, ← sz_eq]; omega, ?_⟩
                  obtain ⟨w9, x9, eh9, s9⟩ := s8.weak h3
                  have x49 : Ext w4 (w9.outs t.slots) := (x48.trans x9).trans (Ext.outs _ _)
                  have s10 := s4.unblk' s9 hw6
                  have tm10 := tmx x49
                  have hH10 : (w9.outs t.slots).H = w8.H := by rw [outs_H, eh9]
                  -- the new item's footprint
                  have x89 : Ext w8 (w9.outs t.slots) := x9.trans (Ext.outs _ _)
                  have r10 : RO c.K (w9.outs t.slots).H (w9.outs t.slots).Z o y v A8 := RO.ext s8 t8.f x89 r8
                  have t10 : Tmp w7 (w9.outs t.slots) A8 := Tmp.ext s8 t8 (fun a ha => r8.ne a ha) x8 x89
                  have t10' : Tmp w3 (w9.outs t.slots) A8 := t10.pre (x4.trans x47)
                  have dis : ∀ a, A8 a → ¬ (a = D ∨ B a) := fun a ha hb => by
                    have hne : w4.H a ≠ none := by
                      rcases hb with rfl | hb
                      · rw [hDw]; simp
                      · obtain ⟨k, hk, g⟩ := (I.some_ a).mp hb
                        obtain ⟨d, hd⟩ : ∃ d, done[k]? = some d := ⟨_, List.getElem?_eq_getElem hk⟩
                        obtain ⟨y', hy⟩ : ∃ y, acc[k]? = some y := ⟨_, List.getElem?_eq_getElem (by rw [I.len]; exact hk)⟩
                        exact (I.at_ k d y' hd hy).ne a g
                    rcases t8.nw a ha with ⟨j, hj⟩ | hn
                    · rcases x47.nw j a hj with ⟨j', hj'⟩ | hn
                      · exact tm.f a j' hb hj'
                      · exact hne hn
                    · exact x47.dm a hne hn
                  generalize hw10 : w9.outs t.slots = w10 at s10 x49 tm10 hH10 r10 t10' x89
                  have hD10 : w10.H D = some (.lst acc) := by rw [hH10]; exact hD8
                  have hzD : ¬ w10.Z D := tm10.z D (.inl rfl)
                  have hfD : ∀ j, ¬ w10.F j D := fun j => tm10.f D j (.inl rfl)
                  have s11 := s10.updT (o' := .lst (acc ++ [v])) hzD hfD hD10 rfl
                  have I10 := I.keep x49.z fun a q e zz => stay x49 a q e (by rcases zz with zz | zz | zz; exact .inl zz; exact .inr (.inl (.inr zz)); exact .inr (.inr zz))
                  have kD : ∀ (A : AS), ¬ A D → ∀ a q, w10.H a = some q → (w10.Z a ∨ A a ∨ mutO q = false) → (w10.upd D (.lst (acc ++ [v]))).H a = some q := fun A hA a q e zz => by
                    show L2.upd w10.H D _ a = _
                    rw [upd_ne]
                    · exact e
                    · rintro rfl
                      rcases zz with zz | zz | zz
                      · exact hzD zz
                      · exact hA zz
                      · rw [hD10] at e; cases e; cases zz
                  have nA : ¬ A8 D := fun h => dis D h (.inl rfl)
                  have I11 := (I10.keep (Z' := w10.Z) (fun _ z => z) (kD B nb)).snoc (d := y) (x := v) (A := A8) (r10.keep (fun _ z => z) (kD A8 nA)) (fun a ha hb => dis a ha (.inr hb))
                  refine ⟨w10.upd D (.lst (acc ++ [v])), acc ++ [v], done ++ [y], rest', _, _, env7, by rw [← hH10]; rfl, (x4.trans x49).updT hD3, s11, upd_same, I11, fun h => h.elim nb nA, ⟨fun a h => ?_, fun a j h => ?_, fun a h => ?_⟩, by rw [List.length_append]; simp; omega, e8, by rw [hys]; simp⟩
                  · rcases h with rfl | h | h
                    · exact hzD
                    · exact tm10.z a (.inr h)
                    · exact t10'.z a h
                  · rcases h with rfl | h | h
                    · exact hfD j
                    · exact tm10.f a j (.inr h)
                    · exact t10'.f a j h
                  · rcases h with rfl | h | h
                    · exact tm10.nw a (.inl rfl)
                    · exact tm10.nw a (.inr h)
                    · exact t10'.nw a h
        · have e : i = ds.length := by omega
          subst e
          rw [List.drop_length] at hrest
          cases hrest
          rw [List.append_nil] at hys
          subst hys
          exact .inl ⟨ss (Nat.le_refl _), z w4 (.ref D) (fun a => a = D ∨ B a) ((x1.trans x3).trans x4) s4 ⟨D, acc, B, G, rfl, hDw, I, nb, fun b => Iff.rfl⟩ (tm.pre (x1.trans x3)) fun h => by cases h⟩
    · rw [if_neg hl] at z; exact z.elim
end
end Mp
/-! Mq4: what is walked; comprehensions, checked. -/
namespace Mp
open PySem PySem.Spec PyProof.Rows L2
section
variable {S : Sg} {C : Cs} {X : Cx} {c : Cc}
/-- what is walked -/
def ckI (S : Sg) (k : IK) (ks : List Ck) (tg it : Expr) (ows : Ows) : Option (Ows × Bool) := match k with
  | .seq => (match ks with
    | [a] => (match a.v it ows with
      | some x => some (x.1, x.2.2)
      | none => none)
    | _ => none)
  | .rng => (match vCall it with
    | some e => if (decide (e.1 = ("range" : Str)) && S.glo "range") = true then (match ckAR ks (e.2.1 :: e.2.2) ows with
      | some x => if decide (e.2.2.length ≤ 2) = true then some (x.1, x.2.2) else none
      | none => none) else none
    | none => none)
  | .enum => (match vCall it, ks with
    | some e, [a] => if (decide (e.1 = ("enumerate" : Str)) && (S.glo "enumerate" && (noStar e.2.1 && (e.2.2.isEmpty && (vTup tg).isSome)))) = true then (match a.v e.2.1 ows with
      | some x => some (x.1, x.2.2)
      | none => none) else none
    | _, _ => none)
  | .rev => (match vCall it, ks with
    | some e, [a] => if (decide (e.1 = ("reversed" : Str)) && (S.glo "reversed" && (noStar e.2.1 && e.2.2.isEmpty))) = true then (match a.v e.2.1 ows with
      | some x => some (x.1, x.2.2)
      | none => none) else none
    | _, _ => none)
  | .renum => (match vCall it, ks with
    | some e, [a] => (match vCall e.2.1 with
      | some e2 => (match vCall e2.2.1 with
        | some e3 => if (decide (e.1 = ("reversed" : Str)) && (decide (e2.1 = ("list" : Str)) && (decide (e3.1 = ("enumerate" : Str)) && (S.glo "reversed" && (S.glo "list" && (S.glo "enumerate" && (S.calm && (noStar e3.2.1 && (e.2.2.isEmpty && (e2.2.2.isEmpty && e3.2.2.isEmpty)))))))))) = true then (match a.v e3.2.1 ows with
          | some x => some (x.1, x.2.2)
          | none => none) else none
        | none => none)
      | none => none)
    | _, _ => none)
  | _ => none
def noSet' : Expr → Bool
  | .Set _ _ _ => false
  | _ => true
theorem folded_no {it : Expr} {env : PySem.Env} (h : noSet' it = true) : ∀ x, foldedSetIterable it env x = pure x := by
  intro x
  cases it <;> first | rfl | cases h
theorem ckI_ok (G : GOk X c C S) {k : IK} {ks : List Ck} {ps : List (M D × M Bool)} {it tg : Expr} {ows : Ows} {r : Ows × Bool} (hs : CksOk S C ks ps) (h : ckI S k ks tg it ows = some r) : PI X tg it (tI c (M.bind (evs ps) fun as => M.opt (itF k as)) ows r.1 r.2) := by
  unfold ckI at h
  split at h
  · split at h
    · rename_i a
      split at h
      · rename_i x ex
        cases h
        match ps, hs with
        | [p], hs =>
          have e : (M.bind (evs [p]) fun as => M.opt (itF .seq as)) = M.bind p.1 fun d => M.opt (itF .seq [d]) := by
            funext env
            simp only [evs, M.bind, M.ret]
            cases p.1 env <;> rfl
          rw [e]
          exact pi_seq G.K (keep_fr ((hs.1 X c G).1 _ _ x ex))
        | [], hs => exact hs.elim
        | _ :: _ :: _, hs => exact hs.2.elim
      · cases h
    · cases h
  · split at h
    · rename_i e he
      split at h
      · rename_i hn
        split at h
        · rename_i x ex
          split at h
          · rename_i hl
            cases h
            simp only [Bool.and_eq_true, decide_eq_true_eq] at hn hl
            obtain ⟨p1, p2, rfl⟩ := vCall_eq he
            obtain ⟨i1, i2, i3⟩ := ckAR_ok G hs ex
            rw [hn.1]
            have hm : X.mg "range" = none := G.blt _ (by decide +kernel)
            obtain ⟨f, a, es⟩ := e
            simp only at i1 i2 i3 hl ⊢
            simp only [List.all_cons, Bool.and_eq_true] at i2
            match es, i1, i2, i3, hl with
            | [], i1, i2, i3, _ => exact pi_rng1 (G.glo hn.2) hm i1 i2.1 (fun env ds env' e => by rw [evs_len e, ← i3]; rfl)
            | [b], i1, i2, i3, _ =>
              simp only [List.all_cons, List.all_nil, Bool.and_true] at i2
              exact pi_rng2 (G.glo hn.2) hm i1 i2.1 i2.2 (fun env ds env' e => by rw [evs_len e, ← i3]; rfl)
            | [b, d], i1, i2, i3, _ =>
              simp only [List.all_cons, List.all_nil, Bool.and_true, Bool.and_eq_true] at i2
              exact pi_rng3 (G.glo hn.2) hm i1 i2.1 i2.2.1 i2.2.2 (fun env ds env' e => by rw [evs_len e, ← i3]; rfl)
            | _ :: _ :: _ :: _, _, _, _, hl => simp at hl
          · cases h
        · cases h
      · cases h
    · cases h
  · split at h
    · rename_i e a he
      split at h
      · rename_i hn
        split at h
        · rename_i x ex
          cases h
          simp only [Bool.and_eq_true, decide_eq_true_eq] at hn
          obtain ⟨h1, h2, h3, h4, h5⟩ := hn
          obtain ⟨p1, p2, rfl⟩ := vCall_eq he
          obtain ⟨es, het⟩ := Option.isSome_iff_exists.mp h5
          obtain ⟨kk, tp, rfl⟩ := vTup_eq het
          obtain ⟨f, b, rs⟩ := e
          simp only at h1 h3 h4 ex ⊢
          have h4' : rs = [] := by cases rs with | nil => rfl | cons => cases h4
          subst h4' h1
          match ps, hs with
          | [p], hs => exact pi_enumM G.K (G.glo h2) (G.blt _ (by decide +kernel)) (keep_fr ((hs.1 X c G).1 _ _ x ex)) h3
          | [], hs => exact hs.elim
          | _ :: _ :: _, hs => exact hs.2.elim
        · cases h
      · cases h
    · cases h
  · split at h
    · rename_i e a he
      split at h
      · rename_i hn
        split at h
        · rename_i x ex
          cases h
          simp only [Bool.and_eq_true, decide_eq_true_eq] at hn
          obtain ⟨h1, h2, h3, h4⟩ := hn
          obtain ⟨p1, p2, rfl⟩ := vCall_eq he
          obtain ⟨f, b, rs⟩ := e
          simp only at h1 h2 h3 h4 ex ⊢
          have h4' : rs = [] := by cases rs with | nil => rfl | cons => cases h4
          subst h4' h1
          match ps, hs with
          | [p], hs => exact pi_revM G.K (G.glo h2) (G.blt _ (by decide +kernel)) (keep_fr ((hs.1 X c G).1 _ _ x ex)) h3
          | [], hs => exact hs.elim
          | _ :: _ :: _, hs => exact hs.2.elim
        · cases h
      · cases h
    · cases h
  · split at h
    · rename_i e a he
      split at h
      · rename_i e2 he2
        split at h
        · rename_i e3 he3
          split at h
          · rename_i hn
            split at h
            · rename_i x ex
              cases h
              simp only [Bool.and_eq_true, decide_eq_true_eq] at hn
              obtain ⟨h1, h2, h3, h4, h5, h6, h7, h8, h9, h10, h11⟩ := hn
              obtain ⟨p1, p2, rfl⟩ := vCall_eq he
              obtain ⟨f, b, rs⟩ := e
              simp only at h1 h9 he2 ⊢
              obtain ⟨p3, p4, rfl⟩ := vCall_eq he2
              obtain ⟨f2, b2, rs2⟩ := e2
              simp only at h2 h10 he3 ⊢
              obtain ⟨p5, p6, rfl⟩ := vCall_eq he3
              obtain ⟨f3, b3, rs3⟩ := e3
              simp only at h3 h8 h11 ex ⊢
              have g1 : rs = [] := by cases rs with | nil => rfl | cons => cases h9
              have g2 : rs2 = [] := by cases rs2 with | nil => rfl | cons => cases h10
              have g3 : rs3 = [] := by cases rs3 with | nil => rfl | cons => cases h11
              subst g1 g2 g3 h1 h2 h3
              match ps, hs with
              | [p], hs => exact pi_renumM G.K (G.calm h7) (G.glo h4) (G.blt _ (by decide +kernel)) (G.glo h5) (G.blt _ (by decide +kernel)) (G.glo h6) (G.blt _ (by decide +kernel)) (keep_fr ((hs.1 X c G).1 _ _ x ex)) h8
              | [], hs => exact hs.elim
              | _ :: _ :: _, hs => exact hs.2.elim
            · cases h
          · cases h
        · cases h
      · cases h
    · cases h
  · cases h

end

/-! ### what changes no slot -/
def PureP (p : M D × M Bool) : Prop := Pure p.1 ∧ Pure p.2
section
variable {α β : Type}
theorem Pure.bind {f : M α} {g : α → M β} (hf : Pure f) (hg : ∀ a, Pure (g a)) : Pure (M.bind f g) := fun e r e' h => by
  unfold M.bind at h
  cases e1 : f e with
  | no => rw [e1] at h; cases h
  | ex => rw [e1] at h; cases h
  | ok a e2 =>
    rw [e1] at h
    have := hf _ _ _ e1
    subst this
    exact hg a _ _ _ h
theorem Pure.ret {a : α} : Pure (M.ret a) := fun e r e' h => by cases h; rfl
theorem Pure.opt {a : Option α} : Pure (M.opt a) := fun e r e' h => by
  unfold M.opt at h
  cases a <;> cases h
  rfl
theorem Pure.no : Pure (fun _ => (R.no : R α)) := fun e r e' h => by cases h
theorem Pure.var {i : Nat} : Pure (varM i) := fun e r e' h => by
  unfold varM at h
  split at h <;> cases h
  rfl
theorem Pure.truth {f : M D} (h : Pure f) : Pure (truthM f) := h.bind fun _ => .opt
theorem PureP.val {f : M D} (h : Pure f) : PureP (val f) := ⟨h, h.truth⟩
theorem Pure.evs : ∀ {ps : List (M D × M Bool)}, (∀ p, p ∈ ps → PureP p) → Pure (evs ps)
  | [], _ => .ret
  | p :: ps, h => (h p List.mem_cons_self).1.bind fun _ => (Pure.evs fun q hq => h q (List.mem_cons_of_mem _ hq)).bind fun _ => .ret
theorem Pure.andT : ∀ {ps : List (M D × M Bool)}, (∀ p, p ∈ ps → PureP p) → Pure (Mp.andT ps)
  | [], _ => .no
  | [p], h => (h p List.mem_cons_self).2
  | p :: p2 :: ps, h => (h p List.mem_cons_self).2.bind fun b => by
    split
    · exact Pure.andT fun q hq => h q (List.mem_cons_of_mem _ hq)
    · exact .ret
theorem Pure.orT : ∀ {ps : List (M D × M Bool)}, (∀ p, p ∈ ps → PureP p) → Pure (Mp.orT ps)
  | [], _ => .no
  | [p], h => (h p List.mem_cons_self).2
  | p :: p2 :: ps, h => (h p List.mem_cons_self).2.bind fun b => by
    split
    · exact .ret
    · exact Pure.orT fun q hq => h q (List.mem_cons_of_mem _ hq)
theorem Pure.andV : ∀ {ps : List (M D × M Bool)}, (∀ p, p ∈ ps → PureP p) → Pure (Mp.andV ps)
  | [], _ => .no
  | [p], h => (h p List.mem_cons_self).1
  | p :: p2 :: ps, h => (h p List.mem_cons_self).1.bind fun b => by
    split
    · exact Pure.andV fun q hq => h q (List.mem_cons_of_mem _ hq)
    · exact .ret
    · exact .no
theorem Pure.orV : ∀ {ps : List (M D × M Bool)}, (∀ p, p ∈ ps → PureP p) → Pure (Mp.orV ps)
  | [], _ => .no
  | [p], h => (h p List.mem_cons_self).1
  | p :: p2 :: ps, h => (h p List.mem_cons_self).1.bind fun b => by
    split
    · exact .ret
    · exact Pure.orV fun q hq => h q (List.mem_cons_of_mem _ hq)
    · exact .no
theorem Pure.part {ps : List (M D × M Bool)} (h : ∀ p, p ∈ ps → PureP p) : Pure (partM ps) := by
  cases ps with
  | nil => exact .ret
  | cons p ps => exact (h p List.mem_cons_self).1.bind fun d => by split; exact .ret; exact .no
theorem Pure.call {C : Cs} {f : Str} {es : List E} {ps : List (M D × M Bool)} (hl : es.all noLn = true) (h : ∀ p, p ∈ ps → PureP p) : Pure (callM C f es ps) := fun e r e' hh => by
  unfold callM at hh
  cases e1 : Mp.evs ps e with
  | no => rw [e1] at hh; cases hh
  | ex => rw [e1] at hh; cases hh
  | ok ds e2 =>
    rw [e1] at hh
    have := Pure.evs h _ _ _ e1
    subst this
    simp only [rl_none hl] at hh
    cases e3 : C.cl f ds with
    | no => rw [e3] at hh; cases hh
    | ex => rw [e3] at hh; cases hh
    | ok r ls => rw [e3] at hh; simp only at hh; rw [wb_none hl] at hh; cases hh; rfl
end
mutual
def pureE : E → Bool
  | .v _ => true
  | .ln _ => true
  | .mv _ => false
  | .int _ => true
  | .str _ => true
  | .bl _ => true
  | .non => true
  | .g _ => true
  | .bin _ a b => pureE a && pureE b
  | .neg a => pureE a
  | .not a => pureE a
  | .cmp _ a b => pureE a && pureE b
  | .ch _ _ a b d => pureE a && (pureE b && pureE d)
  | .and es => pureEs es
  | .or es => pureEs es
  | .ite k a b => pureE k && (pureE a && pureE b)
  | .tup es => pureEs es
  | .lst es => pureEs es
  | .dic _ _ _ => false
  | .ix a i => pureE a && pureE i
  | .sl a lo hi => pureE a && (pureEs lo && pureEs hi)
  | .call _ es => es.all noLn && pureEs es
  | .bi _ es => pureEs es
  | .isi a _ => pureE a
  | .me _ o es => pureE o && pureEs es
  | .mu _ _ _ _ => false
  | .lc _ _ _ _ _ => false
  | .fs _ => false
  | .tin _ a _ => pureE a
  | .tix _ a => pureE a
  | .dc _ _ _ _ _ => false
  | .lct _ _ _ _ => false
def pureEs : List E → Bool
  | [] => true
  | e :: es => pureE e && pureEs es
end
mutual
theorem pureE_ok (C : Cs) : ∀ {e : E}, pureE e = true → PureP (den C e)
  | .v _, _ => by simp only [den]; exact .val .var
  | .ln _, _ => by simp only [den]; exact .val .var
  | .mv _, h => by cases h
  | .int _, _ => by simp only [den]; exact .val .ret
  | .str _, _ => by simp only [den]; exact .val .ret
  | .bl _, _ => by simp only [den]; exact .val .ret
  | .non, _ => by simp only [den]; exact .val .ret
  | .g _, _ => by simp only [den]; exact .val .opt
  | .bin _ a b, h => by
    simp only [pureE, Bool.and_eq_true] at h
    simp only [den]
    exact .val ((pureE_ok C h.1).1.bind fun _ => (pureE_ok C h.2).1.bind fun _ => .opt)
  | .neg a, h => by simp only [pureE] at h; simp only [den]; exact .val ((pureE_ok C h).1.bind fun _ => .opt)
  | .not a, h => by
    simp only [pureE] at h
    simp only [den]
    exact ⟨(pureE_ok C h).1.truth.bind fun _ => .ret, (pureE_ok C h).2.bind fun _ => .ret⟩
  | .cmp _ a b, h => by
    simp only [pureE, Bool.and_eq_true] at h
    simp only [den]
    exact .val ((pureE_ok C h.1).1.bind fun _ => (pureE_ok C h.2).1.bind fun _ => .opt)
  | .ch _ _ a b d, h => by
    simp only [pureE, Bool.and_eq_true] at h
    simp only [den]
    exact .val ((pureE_ok C h.1).1.bind fun _ => (pureE_ok C h.2.1).1.bind fun _ => Pure.opt.bind fun k => by
      split
      · exact (pureE_ok C h.2.2).1.bind fun _ => .opt
      · exact .ret)
  | .and es, h => by simp only [pureE] at h; simp only [den]; exact ⟨.andV (pureEs_ok C h), .andT (pureEs_ok C h)⟩
  | .or es, h => by simp only [pureE] at h; simp only [den]; exact ⟨.orV (pureEs_ok C h), .orT (pureEs_ok C h)⟩
  | .ite k a b, h => by
    simp only [pureE, Bool.and_eq_true] at h
    simp only [den]
    exact .val ((pureE_ok C h.1).2.bind fun _ => by split; exact (pureE_ok C h.2.1).1; exact (pureE_ok C h.2.2).1)
  | .tup es, h => by simp only [pureE] at h; simp only [den]; exact .val ((Pure.evs (pureEs_ok C h)).bind fun _ => .ret)
  | .lst es, h => by simp only [pureE] at h; simp only [den]; exact .val ((Pure.evs (pureEs_ok C h)).bind fun _ => .ret)
  | .dic _ _ _, h => by cases h
  | .ix a i, h => by
    simp only [pureE, Bool.and_eq_true] at h
    simp only [den]
    exact .val ((pureE_ok C h.1).1.bind fun _ => (pureE_ok C h.2).1.bind fun _ => .opt)
  | .sl a lo hi, h => by
    simp only [pureE, Bool.and_eq_true] at h
    simp only [den]
    exact .val ((pureE_ok C h.1).1.bind fun _ => (Pure.part (pureEs_ok C h.2.1)).bind fun _ => (Pure.part (pureEs_ok C h.2.2)).bind fun _ => .opt)
  | .call _ es, h => by
    simp only [pureE, Bool.and_eq_true] at h
    simp only [den]
    exact .val (.call h.1 (pureEs_ok C h.2))
  | .bi _ es, h => by simp only [pureE] at h; simp only [den]; exact .val ((Pure.evs (pureEs_ok C h)).bind fun _ => .opt)
  | .isi a _, h => by simp only [pureE] at h; simp only [den]; exact .val ((pureE_ok C h).1.bind fun _ => .opt)
  | .me _ o es, h => by
    simp only [pureE, Bool.and_eq_true] at h
    simp only [den]
    exact .val ((pureE_ok C h.1).1.bind fun _ => by
      split
      · exact (Pure.evs (pureEs_ok C h.2)).bind fun _ => .opt
      · exact .no)
  | .mu _ _ _ _, h => by cases h
  | .lc _ _ _ _ _, h => by cases h
  | .fs _, h => by cases h
  | .tin _ a _, h => by simp only [pureE] at h; simp only [den]; exact .val ((pureE_ok C h).1.bind fun _ => .opt)
  | .tix _ a, h => by simp only [pureE] at h; simp only [den]; exact .val ((pureE_ok C h).1.bind fun _ => .opt)
  | .dc _ _ _ _ _, h => by cases h
theorem pureEs_ok (C : Cs) : ∀ {es : List E}, pureEs es = true → ∀ p, p ∈ dens C es → PureP p
  | [], _, p, hp => by simp only [dens] at hp; cases hp
  | e :: es, h, p, hp => by
    simp only [pureEs, Bool.and_eq_true] at h
    simp only [dens, List.mem_cons] at hp
    rcases hp with rfl | hp
    · exact pureE_ok C h.1
    · exact pureEs_ok C h.2 p hp
end
end Mp
/-! Mq5: comprehensions, checked. -/
namespace Mp
open PySem PySem.Spec PyProof.Rows L2

def Sg.blk (S : Sg) (sc : Scope) : Sg := { S with sc := L2.relS sc S.sc, es := none, tr := false, fnl := fun _ => false }
section
variable {S : Sg} {C : Cs} {X : Cx} {c : Cc}
theorem GOk.blk (G : GOk X c C S) {sc : Scope} (hkd : sc.kind = .function) {s : Shared} {H : Hp} {a : Addr} {cl : List (Str × Addr)} {fp : List Addr} : GOk (X.blk s H sc (compEnvC sc cl a X.env) fp) c.blk C (S.blk sc) where
  N := G.N
  sc := by
    show L2.relS sc X.env.scope = L2.relS sc S.sc
    rw [G.sc]
  K := G.K
  nd := G.nd
  hu := G.hu
  calm := G.calm
  pas := fun _ => PassesOwn.never
  tkc := G.tkc
  blt := G.blt
  gl := G.gl
  kt := G.kt
  fn := fun h => ⟨takes0, (G.fn h).2⟩
  exc := G.exc
  exm := G.exm
  exx := G.exx
  kx := G.kx
  kv := G.kv
  ec := G.ec
  fnl := fun x h => by cases h
  kd := hkd
  stk := fun h => by cases h
  es := fun i h => by cases h
  x := G.x
  r := G.r
  ro := G.ro
  pn := G.pn
  pw := G.pw
theorem wPTs {ifs : List Expr} {t t' : TT} (h : PTs X ifs t) (k : ∀ σ H Q, t' σ H Q → t σ H Q) : PTs X ifs t' := ⟨fun pins s σ H Q I z => h.run pins s σ H Q I (k σ H Q z)⟩
end

def joinO : Ows → Ows → Ows
  | a :: as, b :: bs => (if a = b then a else .fr) :: joinO as bs
  | _, _ => []
def vLc : Expr → Option (Expr × Expr × Expr × List Expr × Scope)
  | .ListComp elt [⟨tg, iter, ifs, 0⟩] sc _ => some (elt, tg, iter, ifs, sc)
  | _ => none
theorem vLc_eq {e : Expr} {r : Expr × Expr × Expr × List Expr × Scope} (h : vLc e = some r) : ∃ p, e = .ListComp r.1 [⟨r.2.1, r.2.2.1, r.2.2.2.1, 0⟩] r.2.2.2.2 p := by
  unfold vLc at h
  split at h
  · cases h; exact ⟨_, rfl⟩
  · cases h
def ownOf (N : List Str) (is : List Nat) : List (Str × Nat) := is.map fun i => ((N[i]?).getD "", i)
theorem own_snd {N : List Str} {is : List Nat} : (ownOf N is).map (·.2) = is := by
  unfold ownOf
  rw [List.map_map]
  have : ((fun x : Str × Nat => x.2) ∘ fun i => ((N[i]?).getD "", i)) = id := rfl
  rw [this, List.map_id]
/-- the test of a comprehension -/
def ckTst (ks : List Ck) (ifs : List Expr) (ows : Ows) : TR := match ks, ifs with
  | [], [] => some (ows, true)
  | [k], [e] => k.t e ows
  | _, _ => none
/-- a turn: behind the test, behind the item; its owner; quiet -/
def lcTurn (kt : List Ck) (ke : Ck) (ifs : List Expr) (elt : Expr) (keep : Bool) (ows : Ows) : Option (Ows × Ows × Ow × Bool × Bool) := match ckTst kt ifs ows with
  | some x => (match ke.v elt x.1 with
    | some y => some (x.1, y.1, (if keep = true then y.2.1 else .fr), x.2, y.2.2)
    | none => none)
  | none => none
def fixC (f : Ows → Option (Ows × Ows × Ow × Bool × Bool)) : Nat → Ows → Option (Ows × Ows × Ows × Ow × Bool × Bool)
  | 0, _ => none
  | n + 1, h => match f h with
    | some r => if (weakB 0 r.1 h && weakB 0 r.2.1 h) = true then some (h, r) else fixC f n (joinO h (joinO r.1 r.2.1))
    | none => none
theorem fixC_ok {f : Ows → Option (Ows × Ows × Ow × Bool × Bool)} : ∀ {n : Nat} {h : Ows} {r : Ows × Ows × Ows × Ow × Bool × Bool}, fixC f n h = some r → f r.1 = some r.2 ∧ weakB 0 r.2.1 r.1 = true ∧ weakB 0 r.2.2.1 r.1 = true
  | 0, _, _, e => by cases e
  | n + 1, h, r, e => by
    unfold fixC at e
    split at e
    · rename_i x ex
      split at e
      · rename_i hw
        cases e
        simp only [Bool.and_eq_true] at hw
        exact ⟨ex, hw.1, hw.2⟩
      · exact fixC_ok e
    · cases e
/-- what a comprehension needs: its head, its result's owner, quiet -/
def lcX (S : Sg) (t : T) (k : IK) (ks : List Ck) (fe : Sg → Ck) (fc : Sg → List Ck) (pu keep : Bool) (pe : Expr) (ows : Ows) : Option (Ows × Ow × Bool) := match vLc pe with
  | some e => if (pu && (S.calm && (noSet' e.2.2.1 && (L2.blkC S.N S.sc e.2.2.2.2 (ownOf S.N t.slots) && (tgOk S.N (S.blk e.2.2.2.2).loc (fun i => S.pins.contains i) t e.2.1 && t.slots.all fun i => !S.pins.contains i))))) = true then
      (match ckI S k ks e.2.1 e.2.2.1 ows with
      | some i1 => (match fixC (fun h => lcTurn (fc (S.blk e.2.2.2.2)) (fe (S.blk e.2.2.2.2)) e.2.2.2.1 e.1 keep (frs h t.slots)) 8 i1.1 with
        | some r => if weakB 0 i1.1 r.1 = true then some (r.1, .ow r.2.2.2.1, i1.2 && (r.2.2.2.2.1 && r.2.2.2.2.2)) else none
        | none => none)
      | none => none) else none
  | none => none
section
variable {S : Sg} {C : Cs} {X : Cx} {c : Cc}
theorem ckTst_ok (G : GOk X c C S) {ks : List Ck} {ps : List (M D × M Bool)} {ifs : List Expr} {ows : Ows} {r : Ows × Bool} (hs : CksOk S C ks ps) (h : ckTst ks ifs ows = some r) : PTs X ifs (tB_ c (cM ps) ows r.1 r.2) := by
  unfold ckTst at h
  split at h
  · cases h
    match ps, hs with
    | [], _ =>
      refine wPTs pts_nil fun σ H Q ⟨w, env, hw, sr, z⟩ => ?_
      subst hw
      exact z w Ext.refl sr fun _ => fun _ _ e => e
    | _ :: _, hs => exact hs.elim
  · match ps, hs with
    | [p], hs => exact pts_one ((hs.1 X c G).2.2 _ _ _ h)
    | [], hs => exact hs.elim
    | _ :: _ :: _, hs => exact hs.2.elim
  · cases h
/-- the parts of a comprehension -/
theorem lcX_ok (G : GOk X c C S) {t : T} {k : IK} {ks : List Ck} {ps pc : List (M D × M Bool)} {fe : Sg → Ck} {fc : Sg → List Ck} {pe' : M D × M Bool} {pu keep : Bool} (hs : CksOk S C ks ps) (he : ∀ S', CkOk S' C (fe S') pe') (hc : ∀ S', CksOk S' C (fc S') pc) (hpu : pu = true → Pure pe'.1 ∧ Pure (cM pc))
    {pe : Expr} {ows : Ows} {r : Ows × Ow × Bool} (h : lcX S t k ks fe fc pu keep pe ows = some r) :
    ∃ elt tg iter ifs sc pos te wi tt, pe = .ListComp elt [⟨tg, iter, ifs, 0⟩] sc pos ∧ X.calm = true ∧ PI X tg iter wi ∧ BlkOk X.N X.env.scope sc (ownOf S.N t.slots) ∧
      (∃ g, (∀ (s : Shared) (H : Hp) (a : Addr) (cl : List (Str × Addr)) (fp : List Addr), PG (X.blk s H sc (compEnvC sc cl a X.env) fp) tg g) ∧ (∀ (s : Shared) (H : Hp) (a : Addr) (cl : List (Str × Addr)) (fp : List Addr), PTs (X.blk s H sc (compEnvC sc cl a X.env) fp) ifs tt) ∧
      (∀ (s : Shared) (H : Hp) (a : Addr) (cl : List (Str × Addr)) (fp : List Addr), PE (X.blk s H sc (compEnvC sc cl a X.env) fp) elt te) ∧ (∀ x, foldedSetIterable iter X.env x = pure x) ∧
      ∀ σ H Q, tV c (lcM pe'.1 t k ps pc) ows r.1 r.2.1 r.2.2 σ H Q → tLc wi g tt te ((ownOf S.N t.slots).map (·.2)) σ H Q) := by
  unfold lcX at h
  split at h
  · rename_i e hv
    split at h
    · rename_i hn
      split at h
      · rename_i i1 ei
        split at h
        · rename_i rr er
          split at h
          · rename_i hw
            cases h
            simp only [Bool.and_eq_true, List.all_eq_true, Bool.not_eq_true'] at hn
            obtain ⟨n1, n2, n3, n4, n5, n6⟩ := hn
            obtain ⟨pos, rfl⟩ := vLc_eq hv
            obtain ⟨f1, f2, f3⟩ := fixC_ok er
            unfold lcTurn at f1
            split at f1
            · rename_i x ex
              split at f1
              · rename_i y ey
                have e2 := Option.some.inj f1
                obtain ⟨pu1, pu2⟩ := hpu n1
                have hkd : e.2.2.2.2.kind = .function := (blkOk_by n4).kind
                have hp : ∀ i, i ∈ t.slots → c.pn i = none := fun i hi => G.pn i (by simpa using n6 i hi)
                have hel : ∀ (s : Shared) (H : Hp) (a : Addr) (cl : List (Str × Addr)) (fp : List Addr), PE (X.blk s H e.2.2.2.2 (compEnvC e.2.2.2.2 cl a X.env) fp) e.1 (tV c.blk pe'.1 rr.2.1 rr.2.2.1 rr.2.2.2.1 rr.2.2.2.2.2) := fun s H a cl fp => by
                  rw [← e2]
                  simp only
                  have hq := (he (S.blk e.2.2.2.2) _ _ (G.blk hkd (s := s) (H := H) (a := a) (cl := cl) (fp := fp))).1 _ _ y ey
                  split
                  · exact hq
                  · exact keep_fr hq
                have hts : ∀ (s : Shared) (H : Hp) (a : Addr) (cl : List (Str × Addr)) (fp : List Addr), PTs (X.blk s H e.2.2.2.2 (compEnvC e.2.2.2.2 cl a X.env) fp) e.2.2.2.1 (tB_ c.blk (cM pc) (frs rr.1 t.slots) rr.2.1 rr.2.2.2.2.1) := fun s H a cl fp => by
                  rw [← e2]
                  exact ckTst_ok (G.blk hkd (s := s) (H := H) (a := a) (cl := cl) (fp := fp)) (hc _) ex
                refine ⟨e.1, e.2.1, e.2.2.1, e.2.2.2.1, e.2.2.2.2, pos, _, _, _, rfl, G.calm n2, ckI_ok G hs ei, by rw [G.N, G.sc]; exact blkOk_by n4, tgT c.blk t rr.1, fun s H a cl fp => ?_, hts, hel, folded_no n3, ?_⟩
                · have GB := G.blk hkd (s := s) (H := H) (a := a) (cl := cl) (fp := fp)
                  exact pg_tg (pn := fun i => S.pins.contains i) GB.loc (G.calm n2) G.K G.nd (fun i h => G.pn i (by simpa using h)) (by rw [GB.N]; exact n5)
                · rw [own_snd]
                  exact lc_imp pu1 pu2 hp hw f2 f3
              · cases f1
            · cases f1
          · cases h
        · cases h
      · cases h
    · cases h
  · cases h
def ckLc (S : Sg) (t : T) (k : IK) (ks : List Ck) (fe : Sg → Ck) (fc : Sg → List Ck) (pu keep : Bool) : Ck := mkV fun pe ows => lcX S t k ks fe fc pu keep pe ows
theorem ckLc_ok {t : T} {k : IK} {ks : List Ck} {ps pc : List (M D × M Bool)} {fe : Sg → Ck} {fc : Sg → List Ck} {pe' : M D × M Bool} {pu keep : Bool} (hs : CksOk S C ks ps) (he : ∀ S', CkOk S' C (fe S') pe') (hc : ∀ S', CksOk S' C (fc S') pc) (hpu : pu = true → Pure pe'.1 ∧ Pure (cM pc)) :
    CkOk S C (ckLc S t k ks fe fc pu keep) (val (lcM pe'.1 t k ps pc)) := mkV_ok fun X c G pe ows r h => by
  obtain ⟨elt, tg, iter, ifs, sc, pos, te, wi, tt, rfl, h1, h2, h3, g, h4, h5, h6, h7, h8⟩ := lcX_ok G hs he hc hpu h
  exact wPE (pe_lc h1 G.nd h2 h3 h4 h5 h6 h7) h8
/-- items that are kept as their owner's -/
def ownE : E → Bool
  | .lst _ => true
  | .bi .list _ => true
  | .lc _ _ _ _ _ => true
  | _ => false
theorem pure_cM {C : Cs} {cs : List E} (h : pureEs cs = true) : Pure (cM (dens C cs)) := by
  cases cs with
  | nil => simp only [dens]; exact .ret
  | cons e es =>
    simp only [pureEs, Bool.and_eq_true] at h
    simp only [dens]
    exact (pureE_ok C h.1).2
end
end Mp
/-! Ms3: list comprehensions that change what is lent within them, checked. -/
namespace Mp
open PySem PySem.Spec PyProof.Rows L2
/-- what a comprehension needs: its head, its result's owner, quiet -/
def lctX (S : Sg) (t : T) (k : IK) (ks : List Ck) (fe : Sg → Ck) (keep : Bool) (pe : Expr) (ows : Ows) : Option (Ows × Ow × Bool) := match vLc pe with
  | some e => if (S.calm && (noSet' e.2.2.1 && (L2.blkC S.N S.sc e.2.2.2.2 (ownOf S.N t.slots) && (tgOk S.N (S.blk e.2.2.2.2).loc (fun i => S.pins.contains i) t e.2.1 && t.slots.all fun i => !S.pins.contains i)))) = true then
      (match ckI S k ks e.2.1 e.2.2.1 ows with
      | some i1 => (match fixC (fun h => lcTurn [] (fe (S.blk e.2.2.2.2)) e.2.2.2.1 e.1 keep (frs h t.slots)) 8 i1.1 with
        | some r => if weakB 0 i1.1 r.1 = true then some (r.1, .ow r.2.2.2.1, false) else none
        | none => none)
      | none => none) else none
  | none => none
section
variable {S : Sg} {C : Cs} {X : Cx} {c : Cc}
/-- the parts of a comprehension -/
theorem lctX_ok (G : GOk X c C S) {t : T} {k : IK} {ks : List Ck} {ps : List (M D × M Bool)} {fe : Sg → Ck} {pe' : M D × M Bool} {keep : Bool} (hs : CksOk S C ks ps) (he : ∀ S', CkOk S' C (fe S') pe')
    {pe : Expr} {ows : Ows} {r : Ows × Ow × Bool} (h : lctX S t k ks fe keep pe ows = some r) :
    ∃ elt tg iter ifs sc pos te wi tt, pe = .ListComp elt [⟨tg, iter, ifs, 0⟩] sc pos ∧ X.calm = true ∧ PI X tg iter wi ∧ BlkOk X.N X.env.scope sc (ownOf S.N t.slots) ∧
      (∃ g, (∀ (s : Shared) (H : Hp) (a : Addr) (cl : List (Str × Addr)) (fp : List Addr), PG (X.blk s H sc (compEnvC sc cl a X.env) fp) tg g) ∧ (∀ (s : Shared) (H : Hp) (a : Addr) (cl : List (Str × Addr)) (fp : List Addr), PTs (X.blk s H sc (compEnvC sc cl a X.env) fp) ifs tt) ∧
      (∀ (s : Shared) (H : Hp) (a : Addr) (cl : List (Str × Addr)) (fp : List Addr), PE (X.blk s H sc (compEnvC sc cl a X.env) fp) elt te) ∧ (∀ x, foldedSetIterable iter X.env x = pure x) ∧
      ∀ σ H Q, tV c (lctF pe'.1 t (M.bind (evs ps) fun as => M.opt (itF k as))) ows r.1 r.2.1 r.2.2 σ H Q → tLc wi g tt te ((ownOf S.N t.slots).map (·.2)) σ H Q) := by
  unfold lctX at h
  split at h
  · rename_i e hv
    split at h
    · rename_i hn
      split at h
      · rename_i i1 ei
        split at h
        · rename_i rr er
          split at h
          · rename_i hw
            cases h
            simp only [Bool.and_eq_true, List.all_eq_true, Bool.not_eq_true'] at hn
            obtain ⟨n2, n3, n4, n5, n6⟩ := hn
            obtain ⟨pos, rfl⟩ := vLc_eq hv
            obtain ⟨f1, f2, f3⟩ := fixC_ok er
            unfold lcTurn at f1
            split at f1
            · rename_i x ex
              split at f1
              · rename_i y ey
                have e2 := Option.some.inj f1
                have hkd : e.2.2.2.2.kind = .function := (blkOk_by n4).kind
                have hp : ∀ i, i ∈ t.slots → c.pn i = none := fun i hi => G.pn i (by simpa using n6 i hi)
                have hel : ∀ (s : Shared) (H : Hp) (a : Addr) (cl : List (Str × Addr)) (fp : List Addr), PE (X.blk s H e.2.2.2.2 (compEnvC e.2.2.2.2 cl a X.env) fp) e.1 (tV c.blk pe'.1 rr.2.1 rr.2.2.1 rr.2.2.2.1 rr.2.2.2.2.2) := fun s H a cl fp => by
                  rw [← e2]
                  simp only
                  have hq := (he (S.blk e.2.2.2.2) _ _ (G.blk hkd (s := s) (H := H) (a := a) (cl := cl) (fp := fp))).1 _ _ y ey
                  split
                  · exact hq
                  · exact keep_fr hq
                have hts : ∀ (s : Shared) (H : Hp) (a : Addr) (cl : List (Str × Addr)) (fp : List Addr), PTs (X.blk s H e.2.2.2.2 (compEnvC e.2.2.2.2 cl a X.env) fp) e.2.2.2.1 (tB_ c.blk (cM []) (frs rr.1 t.slots) rr.2.1 rr.2.2.2.2.1) := fun s H a cl fp => by
                  rw [← e2]
                  exact ckTst_ok (ks := []) (ps := []) (G.blk hkd (s := s) (H := H) (a := a) (cl := cl) (fp := fp)) (show CksOk _ _ [] [] from trivial) ex
                refine ⟨e.1, e.2.1, e.2.2.1, e.2.2.2.1, e.2.2.2.2, pos, _, _, _, rfl, G.calm n2, ckI_ok G hs ei, by rw [G.N, G.sc]; exact blkOk_by n4, tgT c.blk t rr.1, fun s H a cl fp => ?_, hts, hel, folded_no n3, ?_⟩
                · have GB := G.blk hkd (s := s) (H := H) (a := a) (cl := cl) (fp := fp)
                  exact pg_tg (pn := fun i => S.pins.contains i) GB.loc (G.calm n2) G.K G.nd (fun i h => G.pn i (by simpa using h)) (by rw [GB.N]; exact n5)
                · rw [own_snd]
                  exact lct_imp hp hw f2 f3
              · cases f1
            · cases f1
          · cases h
        · cases h
      · cases h
    · cases h
  · cases h
def ckLct (S : Sg) (t : T) (k : IK) (ks : List Ck) (fe : Sg → Ck) (keep : Bool) : Ck := mkV fun pe ows => lctX S t k ks fe keep pe ows
theorem ckLct_ok {t : T} {k : IK} {ks : List Ck} {ps : List (M D × M Bool)} {fe : Sg → Ck} {pe' : M D × M Bool} {keep : Bool} (hs : CksOk S C ks ps) (he : ∀ S', CkOk S' C (fe S') pe') :
    CkOk S C (ckLct S t k ks fe keep) (val (lctF pe'.1 t (M.bind (evs ps) fun as => M.opt (itF k as)))) := mkV_ok fun X c G pe ows r h => by
  obtain ⟨elt, tg, iter, ifs, sc, pos, te, wi, tt, rfl, h1, h2, h3, g, h4, h5, h6, h7, h8⟩ := lctX_ok G hs he h
  exact wPE (pe_lc h1 G.nd h2 h3 h4 h5 h6 h7) h8
end
end Mp
/-! Mq8: sorted of ints; d.get; written dicts. -/
namespace Mp
open PySem PySem.Spec PyProof.Rows L2

/-! ### the one arrangement -/
theorem insI_perm (x : Int) : ∀ xs : List Int, (insI x xs).Perm (x :: xs)
  | [] => .refl _
  | y :: ys => by
    unfold insI
    split
    · exact .refl _
    · exact ((insI_perm x ys).cons y).trans (.swap x y ys)
theorem sortI_perm : ∀ xs : List Int, (sortI xs).Perm xs
  | [] => .refl _
  | x :: xs => by
    unfold sortI
    exact (insI_perm x (sortI xs)).trans ((sortI_perm xs).cons x)
theorem insI_sorted (x : Int) : ∀ {xs : List Int}, xs.Pairwise (· ≤ ·) → (insI x xs).Pairwise (· ≤ ·)
  | [], _ => by simp [insI]
  | y :: ys, h => by
    unfold insI
    split
    · rename_i hle
      rw [List.pairwise_cons]
      refine ⟨fun z hz => ?_, h⟩
      rcases List.mem_cons.mp hz with rfl | hz
      · exact hle
      · exact Int.le_trans hle ((List.pairwise_cons.mp h).1 z hz)
    · rename_i hle
      have h' := List.pairwise_cons.mp h
      rw [List.pairwise_cons]
      refine ⟨fun z hz => ?_, insI_sorted x h'.2⟩
      rcases List.mem_cons.mp ((insI_perm x ys).mem_iff.mp hz) with rfl | hz
      · omega
      · exact h'.1 z hz
theorem sortI_sorted : ∀ xs : List Int, (sortI xs).Pairwise (· ≤ ·)
  | [] => .nil
  | x :: xs => insI_sorted x (sortI_sorted xs)
theorem sortI_only {ns ns' : List Int} (h1 : ns'.Perm ns) (h2 : ns'.Pairwise (· ≤ ·)) : ns' = sortI ns :=
  List.Perm.eq_of_pairwise (le := (· ≤ ·)) (fun a b _ _ h h' => Int.le_antisymm h h') h2 (sortI_sorted ns) (h1.trans (sortI_perm ns).symm)
theorem ltS_iff {a b : Str} : ltS a b = true ↔ a.cps.toList < b.cps.toList := by unfold ltS; exact decide_eq_true_iff
theorem insS_perm (x : Str) : ∀ xs : List Str, (insS x xs).Perm (x :: xs)
  | [] => .refl _
  | y :: ys => by
    unfold insS
    split
    · exact ((insS_perm x ys).cons y).trans (.swap x y ys)
    · exact .refl _
theorem sortS_perm : ∀ xs : List Str, (sortS xs).Perm xs
  | [] => .refl _
  | x :: xs => by
    unfold sortS
    exact (insS_perm x (sortS xs)).trans ((sortS_perm xs).cons x)
/-- not above -/
def leS (a b : Str) : Prop := ¬ b.cps.toList < a.cps.toList
theorem leS_trans {a b c : Str} (h : leS a b) (h' : leS b c) : leS a c := List.not_lt.mpr (List.le_trans (List.not_lt.mp h) (List.not_lt.mp h'))
theorem leS_anti {a b : Str} (h : leS a b) (h' : leS b a) : a = b := Str.ext' (Array.toList_inj.mp (List.le_antisymm (List.not_lt.mp h) (List.not_lt.mp h')))
theorem insS_sorted (x : Str) : ∀ {xs : List Str}, xs.Pairwise leS → (insS x xs).Pairwise leS
  | [], _ => by simp [insS]
  | y :: ys, h => by
    unfold insS
    have h' := List.pairwise_cons.mp h
    split
    · rename_i hlt
      have hlt' := ltS_iff.mp hlt
      rw [List.pairwise_cons]
      refine ⟨fun z hz => ?_, insS_sorted x h'.2⟩
      rcases List.mem_cons.mp ((insS_perm x ys).mem_iff.mp hz) with rfl | hz
      · exact List.not_lt.mpr (List.le_of_lt hlt')
      · exact h'.1 z hz
    · rename_i hlt
      have hle : leS x y := fun z => hlt (ltS_iff.mpr z)
      rw [List.pairwise_cons]
      refine ⟨fun z hz => ?_, h⟩
      rcases List.mem_cons.mp hz with rfl | hz
      · exact hle
      · exact leS_trans hle (h'.1 z hz)
theorem sortS_sorted : ∀ xs : List Str, (sortS xs).Pairwise leS
  | [] => .nil
  | x :: xs => insS_sorted x (sortS_sorted xs)
theorem rising_pw : ∀ {xs : List Str} {p : Str}, PyProof.Rows.risingS p xs = true → (p :: xs).Pairwise leS
  | [], p, _ => by simp
  | x :: r, p, h => by
    unfold PyProof.Rows.risingS at h
    rw [PyProof.Rows.ltCps_eq] at h
    simp only [Bool.and_eq_true, Bool.not_eq_true', decide_eq_false_iff_not] at h
    have ih := rising_pw h.2
    rw [List.pairwise_cons]
    refine ⟨fun z hz => ?_, ih⟩
    rcases List.mem_cons.mp hz with rfl | hz
    · exact h.1
    · exact leS_trans h.1 ((List.pairwise_cons.mp ih).1 z hz)
theorem sorted_pw {xs : List Str} (h : PyProof.Rows.sortedS xs = true) : xs.Pairwise leS := by
  cases xs with
  | nil => exact .nil
  | cons x r => exact rising_pw h
theorem sortS_only {ns ns' : List Str} (h1 : ns'.Perm ns) (h2 : PyProof.Rows.sortedS ns' = true) : ns' = sortS ns :=
  List.Perm.eq_of_pairwise (le := leS) (fun a b _ _ h h' => leS_anti h h') (sorted_pw h2) (sortS_sorted ns) (h1.trans (sortS_perm ns).symm)
theorem strs_eq : ∀ {xs : List D} {zs : List Str}, D.strs xs = some zs → xs = zs.map D.str
  | [], zs, h => by cases h; rfl
  | .str x :: r, zs, h => by
    obtain ⟨ys, h1, h2⟩ := Option.map_eq_some_iff.mp (show (D.strs r).map (x :: ·) = some zs from h)
    subst h2
    rw [strs_eq h1]; rfl
  | .non :: _, _, h => by cases h
  | .bl _ :: _, _, h => by cases h
  | .int _ :: _, _, h => by cases h
  | .tup _ :: _, _, h => by cases h
  | .lst _ :: _, _, h => by cases h
  | .rol _ :: _, _, h => by cases h
  | .dct _ _ _ :: _, _, h => by cases h
  | .exc _ :: _, _, h => by cases h
theorem reps_strs {K : PySem.W.Frag} {H : Hp} {Z : AS} {zs : List Str} {ys : List V} (h : Reps K H Z (zs.map D.str) ys) : ys = zs.map V.str := by
  apply List.ext_getElem?
  intro i
  rw [List.getElem?_map]
  cases e : zs[i]? with
  | none =>
    have hl := h.len
    rw [List.length_map] at hl
    rw [List.getElem?_eq_none_iff] at e
    rw [List.getElem?_eq_none_iff.mpr (by omega)]; rfl
  | some z =>
    obtain ⟨x, ex, rx⟩ := h.get (k := i) (d := .str z) (by rw [List.getElem?_map, e]; rfl)
    rw [ex]
    cases rx
    rfl
theorem reps_strs' {K : PySem.W.Frag} {H : Hp} {Z : AS} : ∀ {zs : List Str}, Reps K H Z (zs.map D.str) (zs.map V.str)
  | [] => by unfold Reps; rfl
  | n :: ns => by
    show Reps K H Z (D.str n :: ns.map D.str) (V.str n :: ns.map V.str)
    unfold Reps
    exact ⟨_, _, rfl, by unfold Rep; rfl, reps_strs'⟩
section
variable {X : Cx} {c : Cc} {f g : M D} {ows ows1 ows2 ows3 ows' : Ows} {o oa ok : Ow} {q : Bool} {b e1 e2 e pe : Expr} {pos : Pos}
abbrev rSortA0 (K : PySem.W.Frag) : RC := fun xs H Q => rSortedI K xs H Q ∨ (∃ (a : Addr) (kvs : List (Key × V)) (ks : List Int), xs = [.ref a] ∧ Rd H a (.dK kvs) ∧ kvs.map (·.1) = ks.map Sum.inl ∧ ks.length < 64 ∧
    ∀ (ys : List Int) (p : Addr), ys.Perm ks → ys.Pairwise (· ≤ ·) → H p = none → Q (.ref p) (upd H p (.lst (ys.map V.int))))
abbrev rSortA (K : PySem.W.Frag) : RC := fun xs H Q => rSortA0 K xs H Q ∨ rSortedS K xs H Q
theorem reps_ints {K : PySem.W.Frag} {H : Hp} {Z : AS} : ∀ {ns : List Int}, Reps K H Z (ns.map D.int) (ns.map V.int)
  | [] => by unfold Reps; rfl
  | n :: ns => by
    show Reps K H Z (D.int n :: ns.map D.int) (V.int n :: ns.map V.int)
    unfold Reps
    exact ⟨_, _, rfl, by unfold Rep; rfl, reps_ints⟩
theorem kD_ints : ∀ {kvs : List (Key × V)} {ks : List Int}, D.ints (kvs.map fun p => kD p.1) = some ks → kvs.map (·.1) = ks.map Sum.inl
  | [], ks, h => by cases h; rfl
  | (k, v) :: kvs, ks, h => by
    cases k with
    | inr x => simp [D.ints, kD] at h
    | inl i =>
      simp only [List.map_cons, kD, D.ints] at h
      obtain ⟨r, h1, rfl⟩ := Option.map_eq_some_iff.mp h
      simp [kD_ints h1]
theorem ok_sorted {K : PySem.W.Frag} : OkN K (bF .sorted) (.ow .fr) (rSortA K) shal := by
  intro w os ds vs d Q sh rr e k
  match ds, e with
  | [.lst xs], e =>
    obtain ⟨o, v, A, rfl, rfl, r⟩ := rr.one
    obtain ⟨ys, e1, rfl⟩ := Option.map_eq_some_iff.mp (show (sortD xs).map D.lst = some d from e)
    obtain ⟨a, us, rfl, h1, h2⟩ := r.lstR (by simpa using sh)
    unfold sortD at e1
    cases e0 : sortDI xs with
    | some ys' =>
      rw [e0] at e1
      cases e1
      obtain ⟨ns, e2, rfl⟩ := Option.map_eq_some_iff.mp (show (D.ints xs).map (fun ns => (sortI ns).map D.int) = some ys from e0)
      obtain ⟨rfl, _⟩ := ints_reps e2 h2
      refine .inl (.inl ⟨a, ns, rfl, SqL.of h1, fun ns' p hp hs hn => ?_⟩)
      rw [sortI_only hp hs]
      exact k (w.upd p (.lst ((sortI ns).map V.int))) _ _ (Alloc.new hn) (RO.newl hn reps_ints)
    | none =>
      rw [e0] at e1
      obtain ⟨zs, e2, e3⟩ := Option.bind_eq_some_iff.mp (show (D.strs xs).bind (fun zs => if zs.length < 64 then some ((sortS zs).map D.str) else none) = some ys from e1)
      split at e3
      · rename_i h64
        cases e3
        have hx := strs_eq e2
        subst hx
        have hu := reps_strs h2
        subst hu
        refine .inr ⟨a, zs, rfl, SqL.of h1, h64, fun ys' p hp hs hn => ?_⟩
        rw [sortS_only hp hs]
        exact k (w.upd p (.lst ((sortS zs).map V.str))) _ _ (Alloc.new hn) (RO.newl hn reps_strs')
      · cases e3
  | [.dct false ks us], e =>
    obtain ⟨o, v, A, rfl, rfl, r⟩ := rr.one
    have e' : (if ks.length < 64 then (sortDI ks).map D.lst else none) = some d := e
    by_cases h64 : ks.length < 64
    · rw [if_pos h64] at e'
      obtain ⟨ys, e1, rfl⟩ := Option.map_eq_some_iff.mp e'
      obtain ⟨ns, e2, rfl⟩ := Option.map_eq_some_iff.mp (show (D.ints ks).map (fun ns => (sortI ns).map D.int) = some ys from e1)
      obtain ⟨a, xs, rfl, h1, _⟩ := r.dctR (by simpa using sh)
      obtain ⟨_, ⟨_, kvs, g1, g2, _⟩ | ⟨z, _⟩⟩ := h1
      · rw [g2] at e2
        have hk := kD_ints e2
        have hlen : ns.length = ks.length := by
          have := congrArg List.length hk
          rw [List.length_map, List.length_map] at this
          rw [g2, List.length_map, this]
        refine .inl (.inr ⟨a, kvs, ns, rfl, .inl g1, hk, by omega, fun ys p hp hs hn => ?_⟩)
        rw [sortI_only hp hs]
        exact k (w.upd p (.lst ((sortI ns).map V.int))) _ _ (Alloc.new hn) (RO.newl hn reps_ints)
      · cases z
    · rw [if_neg h64] at e'; cases e'
theorem pv_sorted {os : List Ow} {fs : M (List D)} {p : Pos} (hc : X.calm = true) (hK : X.K = c.K) (hg : Gl X "sorted") (hm : X.mg "sorted" = none) (hst : noStar e = true) (ha : PA X [e] (tAR c fs ows ows' os q)) (hs : os.all shal = true) :
    PE X (.Call (.Name "sorted" p) [e] [] pos) (tV c (M.bind fs fun ds => M.opt (bF .sorted ds)) ows ows' (.ow .fr) q) :=
  pv_okN (r := rSortA c.K) (fun h => pe_callB (by rw [← hK]; exact (cr_sortedI.or (call_sortedDI hc)).or cr_sortedS) hg hm PyProof.Rows.boot_sorted h (by decide) (by decide) (star_cons hst) (star_any (es := []) rfl)) ha ok_sorted hs

/-! ### {} -/
theorem pv_dic0 : PE X (.Dict [] [] pos) (tV c (M.ret (.dct false [] [])) ows ows (.ow .fr) true) := by
  refine wPE pe_dnewK fun σ H Q ⟨w, env, hw, sr, z⟩ => ?_
  subst hw
  intro p hp
  have al : Alloc w (w.upd p (.dK [])) (fun a => a = p) := Alloc.new hp
  refine z (w.upd p (.dK [])) _ _ al.ext (al.sr sr) ?_ (al.tmp sr) fun _ => al.quiet
  exact ⟨p, [], _, _, rfl, ⟨.nil, .inl ⟨rfl, [], upd_same, rfl, rfl⟩⟩, Items.nil, fun z => z, fun b => by simp⟩

/-! ### d.get(k, x) -/
theorem dctD {K : PySem.W.Frag} {H : Hp} {a : Addr} {t : Bool} {ks : List D} {xs : List V} (h : DcAt H a t ks xs) : IsD H a := by
  obtain ⟨_, ⟨_, kvs, e, _⟩ | ⟨_, kvs, e, _⟩⟩ := h
  · exact .inl ⟨kvs, .inl e⟩
  · exact .inr ⟨kvs, .inl e⟩
theorem pv_get2 {p1 p2 : M D × M Bool} {fb : M D} {apos cpos : Pos} (hu : X.A.units + 1 < cLine) (hpb : plainB b = true) (hline : (apos.endLine == cpos.line) = true) (hs1 : noStar e1 = true) (hs2 : noStar e2 = true) (hb : PE X b (tR c fb ows ows1 oa q)) (h1 : PE X e1 (tR c p1.1 ows1 ows2 ok true)) (h2 : PE X e2 (tV c p2.1 ows2 ows3 .fr true)) (sh : shal oa = true) :
    PE X (.Call (.Attribute b "get" apos) [e1, e2] [] cpos) (tV c (M.bind fb fun x => if meOk .get2 x = true then M.bind (evs [p1, p2]) fun ds => M.opt (meF .get2 x ds) else fun _ => .no) ows ows3 .fr q) := by
  refine wPE (pe_dget2 hu hb h1 h2 ⟨base_of hpb, by rw [star_cons hs1, star_cons hs2]; rfl, hline, by rw [star_cons hs1, star_cons hs2]; rfl⟩) fun σ H Q ⟨w, env, hw, sr, z⟩ => ⟨w, env, hw, sr, ?_⟩
  unfold M.bind at z
  cases e1 : fb env with
  | no => rw [e1] at z; exact z
  | ex n env1 => rw [e1] at z; exact z
  | ok l env1 =>
    rw [e1] at z
    intro w1 v1 A1 x1 s1 r1 k1
    simp only at z
    by_cases hm : meOk .get2 l = true
    · rw [if_pos hm] at z
      have hl : ∃ t ks vs, l = .dct t ks vs := by cases l <;> simp [meOk] at hm; exact ⟨_, _, _, rfl⟩
      obtain ⟨t, ks, vs, rfl⟩ := hl
      obtain ⟨a, xs, rfl, hd, hr⟩ := r1.dctR sh
      refine ⟨a, rfl, dctD (K := c.K) hd, w1, env1, rfl, s1, ?_⟩
      simp only [evs, M.bind, M.ret] at z
      cases e2 : p1.1 env1 with
      | no => rw [e2] at z; exact z
      | ex n env2 => rw [e2] at z; exact exK.mono x1 z
      | ok dk env2 =>
        rw [e2] at z
        intro w2 vk Ak x2 s2 rk k2
        simp only at z
        refine ⟨w2, env2, rfl, s2, ?_⟩
        cases e3 : p2.1 env2 with
        | no => rw [e3] at z; exact z
        | ex n env3 => rw [e3] at z; exact exK.mono (x1.trans x2) z
        | ok dd env3 =>
          rw [e3] at z
          intro w3 vd Ad x3 s3 rd td k3
          have r1' : RO c.K w3.H w3.Z oa (.dct t ks vs) (.ref a) A1 := r1.keep (fun b h => x3.z b (x2.z b h)) fun b q e _ => k3 rfl b q (k2 rfl b q e)
          have rk' : RO c.K w3.H w3.Z ok dk vk Ak := rk.keep x3.z fun b q e _ => k3 rfl b q e
          obtain ⟨a', xs', ea, hd', hr'⟩ := r1'.dctR sh
          cases ea
          have em : meF .get2 (.dct t ks vs) [dk, dd] = if keyD t dk then some ((dGet ks vs dk).getD dd) else none := rfl
          simp only [M.opt] at z
          by_cases hk : keyD t dk = true
          · rw [em, if_pos hk] at z
            cases t with
            | true => cases hk
            | false =>
              obtain ⟨key, rfl, hv⟩ := kd_of hk
              cases hv _ _ _ _ _ _ rk'
              obtain ⟨kvs, g1, g2, g3, g4⟩ := dk_get (key := key) hd'
              refine ⟨valV kvs key, DGet.k g1, ?_⟩
              have qq : q = true → Quiet w w3 := fun h => fun a b e => k3 rfl a b (k2 rfl a b (k1 h a b e))
              cases eg : dGet ks vs (kD key) with
              | none =>
                have hn := dGet_no (by rw [← hr'.len, g2]) eg
                rw [g4 hn]
                rw [eg] at z
                exact z w3 vd (fun _ => False) ((x1.trans x2).trans x3) s3 ⟨rd.1, fun _ z => z⟩ Tmp.nil qq
              | some d =>
                obtain ⟨j, j1, j2, _⟩ := dGet_at eg
                obtain ⟨x, ex, rx⟩ := hr'.get j2
                rw [g3 j x j1 ex]
                rw [eg] at z
                exact z w3 x (fun _ => False) ((x1.trans x2).trans x3) s3 ⟨rx, fun _ z => z⟩ Tmp.nil qq
          · rw [em, if_neg hk] at z; exact z.elim
    · rw [if_neg hm] at z; exact z.elim
end

/-! ### checked -/
def vM2 : Expr → Option (Expr × Str × Pos × Expr × Expr × Pos)
  | .Call (.Attribute b m ap) [e, f] [] cp => some (b, m, ap, e, f, cp)
  | _ => none
theorem vM2_eq {e : Expr} {r : Expr × Str × Pos × Expr × Expr × Pos} (h : vM2 e = some r) : e = .Call (.Attribute r.1 r.2.1 r.2.2.1) [r.2.2.2.1, r.2.2.2.2.1] [] r.2.2.2.2.2 := by
  unfold vM2 at h
  split at h
  · cases h; rfl
  · cases h
def isDict0 : Expr → Bool
  | .Dict [] [] _ => true
  | _ => false
section
variable {S : Sg} {C : Cs} {X : Cx} {c : Cc}
def ckSorted (S : Sg) (ks : List Ck) : Ck := mkV fun pe ows => match vCall pe with
  | some e => if (decide (e.1 = ("sorted" : Str)) && (S.glo "sorted" && (S.calm && (e.2.2.isEmpty && noStar e.2.1)))) = true then (match ckAR ks [e.2.1] ows with
    | some x => if x.2.1.all shal = true then some (x.1, .ow .fr, x.2.2) else none
    | none => none) else none
  | none => none
theorem ckSorted_ok {ks : List Ck} {ps : List (M D × M Bool)} (hs : CksOk S C ks ps) : CkOk S C (ckSorted S ks) (val (M.bind (evs ps) fun ds => M.opt (bF .sorted ds))) := mkV_ok fun X c G pe ows r h => by
  split at h
  · rename_i e he
    split at h
    · rename_i hk
      split at h
      · rename_i x ex
        split at h
        · rename_i hw
          cases h
          simp only [Bool.and_eq_true, decide_eq_true_eq] at hk
          obtain ⟨h1, h2, h3, h4, h5⟩ := hk
          obtain ⟨p1, p2, rfl⟩ := vCall_eq he
          obtain ⟨i1, i2, i3⟩ := ckAR_ok G hs ex
          obtain ⟨f, b, rs⟩ := e
          have h4' : rs = [] := by cases rs with | nil => rfl | cons => cases h4
          subst h4' h1
          exact pv_sorted (G.calm h3) G.K (G.glo h2) (G.blt _ (by decide +kernel)) h5 i1 hw
        · cases h
      · cases h
    · cases h
  · cases h
def ckDic0 : Ck := mkV fun pe ows => if isDict0 pe = true then some (ows, .ow .fr, true) else none
theorem ckDic0_ok : CkOk S C ckDic0 (val (dicM false [] [])) := mkV_ok fun X c G pe ows r h => by
  split at h
  · rename_i hd
    cases h
    unfold isDict0 at hd
    split at hd
    · exact pv_dic0
    · cases hd
  · cases h
def ckGet2 (S : Sg) (a k1 k2 : Ck) : Ck := mkV fun pe ows => match vM2 pe with
  | some e => if (decide (e.2.1 = ("get" : Str)) && (plainB e.1 && ((e.2.2.1.endLine == e.2.2.2.2.2.line) && (noStar e.2.2.2.1 && noStar e.2.2.2.2.1)))) = true then (match a.r e.1 ows with
    | some x => (match k1.r e.2.2.2.1 x.1 with
      | some y => (match k2.v e.2.2.2.2.1 y.1 with
        | some z => if (y.2.2 && (z.2.2 && shal x.2.1)) = true then some (z.1, .fr, x.2.2) else none
        | none => none)
      | none => none)
    | none => none) else none
  | none => none
theorem ckGet2_ok {a k1 k2 : Ck} {p p1 p2 : M D × M Bool} (ha : CkOk S C a p) (h1 : CkOk S C k1 p1) (h2 : CkOk S C k2 p2) : CkOk S C (ckGet2 S a k1 k2) (val (M.bind p.1 fun x => if meOk .get2 x = true then M.bind (evs [p1, p2]) fun ds => M.opt (meF .get2 x ds) else fun _ => .no)) := mkV_ok fun X c G pe ows r h => by
  split at h
  · rename_i e he
    split at h
    · rename_i hn
      split at h
      · rename_i x ex
        split at h
        · rename_i y ey
          split at h
          · rename_i z ez
            split at h
            · rename_i hq
              cases h
              simp only [Bool.and_eq_true, decide_eq_true_eq] at hn hq
              obtain ⟨n1, n2, n3, n4, n5⟩ := hn
              have := vM2_eq he
              subst this
              rw [n1]
              have hv1 := (h1 X c G).2.1 _ _ y ey
              rw [hq.1] at hv1
              have hv2 := keep_fr ((h2 X c G).1 _ _ z ez)
              rw [hq.2.1] at hv2
              exact pv_get2 (by have := G.hu; omega) n2 n3 n4 n5 ((ha X c G).2.1 _ _ x ex) hv1 hv2 hq.2.2
            · cases h
          · cases h
        · cases h
      · cases h
    · cases h
  · cases h
end
end Mp
/-! Mr1: methods of texts: split, join, upper. -/
namespace Mp
open PySem PySem.Spec PyProof.Rows L2
section
variable {X : Cx} {c : Cc} {ows ows1 ows2 : Ows} {o oa : Ow} {q : Bool} {b e : Expr}
theorem few2 {e e2 : Expr} {env : PySem.Env} {cpos : Pos} (hs : noStar e = true) (hs2 : noStar e2 = true) : ((backTo cpos (starEach [e, e2] env)).all (fun x => !x.1) && (backToKw cpos (keywordEach [] env)).all (fun x => x.1.isSome)
      && decide (([e, e2] : List Expr).length + ([] : List Keyword).length + (if ([] : List Keyword).isEmpty then 0 else 1) < 30)) = true := by
  rw [star_cons hs, star_cons hs2]; rfl
theorem pv_sm {m : ME} {name : Str} {id : String} {r : V → List V → Hp → VK → Prop} {es : List Expr} {fb : M D} {ps : List (M D × M Bool)} {apos cpos : Pos} {os : List Ow} {sh : Ow → Bool} (slot : PySem.Slot "str" name id) (ty : typeOf (.builtin id) = pure (.type "method_descriptor")) (rule : MtR X id r)
    (hpb : plainB b = true) (hline : (apos.endLine == cpos.line) = true) (hst : (e :: es).all noStar = true) (hf : ((backTo cpos (starEach (e :: es) X.env)).all (fun x => !x.1) && (backToKw cpos (keywordEach [] X.env)).all (fun x => x.1.isSome)
      && decide ((e :: es).length + ([] : List Keyword).length + (if ([] : List Keyword).isEmpty then 0 else 1) < 30)) = true) (hm : ∀ x, meOk m x = true → ∃ z, x = .str z) (hb : PE X b (tR c fb ows ows1 oa q)) (ha : PA X (e :: es) (tAR c (evs ps) ows1 ows2 os true))
    (k : ∀ z, OkN c.K (meF m (.str z)) o (fun vs => r (.str z) vs) sh) (hs : os.all sh = true) :
    PE X (.Call (.Attribute b name apos) (e :: es) [] cpos) (tV c (M.bind fb fun x => if meOk m x = true then M.bind (evs ps) fun ds => M.opt (meF m x ds) else fun _ => .no) ows ows2 o q) := by
  simp only [List.all_cons, Bool.and_eq_true] at hst
  refine wPE (pe_bm PySem.F.plainAttrs_str slot ty rule hb ha (base_of hpb) hf hline (star_cons hst.1) (star_any (es := es) hst.2)) fun σ H Q ⟨w, env, hw, sr, z⟩ => ⟨w, env, hw, sr, ?_⟩
  unfold M.bind at z
  cases e1 : fb env with
  | no => rw [e1] at z; exact z
  | ex n env1 => rw [e1] at z; exact z
  | ok l env1 =>
    rw [e1] at z
    intro w1 v1 A1 x1 s1 r1 k1
    simp only at z
    by_cases hmm : meOk m l = true
    · rw [if_pos hmm] at z
      obtain ⟨t, rfl⟩ := hm l hmm
      have ev := r1.str
      subst ev
      refine ⟨rfl, w1, env1, rfl, s1, ?_⟩
      cases e2 : evs ps env1 with
      | no => rw [e2] at z; exact z
      | ex n env2 => rw [e2] at z; exact exK.mono x1 z
      | ok ds env2 =>
        rw [e2] at z
        intro w2 vs x2 s2 r2 k2
        simp only [M.opt] at z
        cases e3 : meF m (.str t) ds with
        | none => rw [e3] at z; exact z.elim
        | some d =>
          rw [e3] at z
          exact k t w2 os ds vs d Q hs r2 e3 fun w3 v A al ro => z w3 v A ((x1.trans x2).trans al.ext) (al.sr s2) ro ((al.tmp s2).pre (x1.trans x2)) fun h => fun a b e => al.h a b (k2 rfl a b (k1 h a b e))
    · rw [if_neg hmm] at z; exact z.elim
theorem pv_sm0 {m : ME} {name : Str} {id : String} {r : V → List V → Hp → VK → Prop} {fb : M D} {apos cpos : Pos} (slot : PySem.Slot "str" name id) (ty : typeOf (.builtin id) = pure (.type "method_descriptor")) (rule : MtR X id r)
    (hpb : plainB b = true) (hline : (apos.endLine == cpos.line) = true) (hm : ∀ x, meOk m x = true → ∃ z, x = .str z) (hb : PE X b (tR c fb ows ows1 oa q))
    (k : ∀ z, OkN c.K (meF m (.str z)) o (fun vs => r (.str z) vs) anyO) :
    PE X (.Call (.Attribute b name apos) [] [] cpos) (tV c (M.bind fb fun x => if meOk m x = true then M.bind (evs []) fun ds => M.opt (meF m x ds) else fun _ => .no) ows ows1 o q) := by
  refine wPE (pe_bm0 PySem.F.plainAttrs_str slot ty rule hb (base_of hpb) hline) fun σ H Q ⟨w, env, hw, sr, z⟩ => ⟨w, env, hw, sr, ?_⟩
  unfold M.bind at z
  cases e1 : fb env with
  | no => rw [e1] at z; exact z
  | ex n env1 => rw [e1] at z; exact z
  | ok l env1 =>
    rw [e1] at z
    intro w1 v1 A1 x1 s1 r1 k1
    simp only at z
    by_cases hmm : meOk m l = true
    · rw [if_pos hmm] at z
      obtain ⟨t, rfl⟩ := hm l hmm
      have ev := r1.str
      subst ev
      simp only [evs, M.ret, M.opt] at z
      cases e3 : meF m (.str t) [] with
      | none => rw [e3] at z; exact z.elim
      | some d =>
        rw [e3] at z
        exact ⟨rfl, k t w1 [] [] [] d Q rfl trivial e3 fun w3 v A al ro => z w3 v A (x1.trans al.ext) (al.sr s1) ro ((al.tmp s1).pre x1) fun h => fun a b e => al.h a b (k1 h a b e)⟩
    · rw [if_neg hmm] at z; exact z.elim
/-! ### what they give -/
theorem reps_mk {K : PySem.W.Frag} {H : Hp} {Z : AS} {ls : List (List Nat)} : Reps K H Z (ls.map fun l => D.str (mkS l)) ((ls.map mkS).map V.str) := Reps.of (by simp) fun k d x e1 e2 => by
  rw [List.getElem?_map] at e1
  rw [List.getElem?_map, List.getElem?_map] at e2
  cases e : ls[k]? with
  | none => rw [e] at e1; cases e1
  | some l =>
    rw [e] at e1 e2
    cases e1; cases e2
    rfl
abbrev rSplitA : V → List V → Hp → VK → Prop := fun x xs H Q => (∃ a b, x = .str a ∧ xs = [.str b] ∧ (b.length == 0) = false ∧ a.length + 2 ≤ sizeLine ∧ rNewStrs (Txt.split a b) H Q) ∨
  ∃ (a b : Str) (k : Int), x = .str a ∧ xs = [.str b, .int k] ∧ (b.length == 0) = false ∧ -(2 ^ 63) ≤ k ∧ k < 2 ^ 63 ∧ a.length + 2 ≤ sizeLine ∧ rNewStrs (Txt.splitMax a b k) H Q
theorem ok_split {K : PySem.W.Frag} {z : Str} : OkN K (meF .split1 (.str z)) (.ow .fr) (fun vs => rSplitA (.str z) vs) anyO := by
  intro w os ds vs d Q _ rr e k
  match ds, e with
  | [.str y], e =>
    obtain ⟨o, v, A, rfl, rfl, r⟩ := rr.one
    have e' : (if (sepB y && decide (z.length + 2 ≤ SZ)) = true then some (D.lst ((TL.spl (TL.tl y) 0 [] (TL.tl z)).map fun l => .str (mkS l))) else none) = some d := e
    split at e'
    · rename_i h
      simp only [Bool.and_eq_true, decide_eq_true_eq] at h
      refine .inl ⟨z, y, rfl, by rw [r.str], sep_len h.1, h.2, fun p hp => ?_⟩
      rw [split_mk h.1]
      cases e'
      exact k (w.upd p (.lst (((TL.spl (TL.tl y) 0 [] (TL.tl z)).map mkS).map V.str))) _ _ (Alloc.new hp) (RO.newl hp reps_mk)
    · cases e'
  | [.str y, .int j], e =>
    obtain ⟨o, v, A, o2, v2, A2, rfl, rfl, r, r2⟩ := rr.two
    have e' : (if (sepB y && decide (z.length + 2 ≤ SZ) && decide (0 ≤ j) && decide (j ≤ 1000)) = true then some (D.lst ((splN (TL.tl y) j.toNat (TL.tl z)).map fun l => .str (mkS l))) else none) = some d := e
    split at e'
    · rename_i h
      simp only [Bool.and_eq_true, decide_eq_true_eq] at h
      obtain ⟨⟨⟨h1, h2⟩, h3⟩, h4⟩ := h
      refine .inr ⟨z, y, j, rfl, by rw [r.str, r2.int], sep_len h1, by omega, by omega, h2, fun p hp => ?_⟩
      obtain ⟨n, rfl⟩ := Int.eq_ofNat_of_zero_le h3
      rw [splitMax_mk h1]
      rw [Int.toNat_natCast] at e'
      cases e'
      exact k (w.upd p (.lst (((splN (TL.tl y) n (TL.tl z)).map mkS).map V.str))) _ _ (Alloc.new hp) (RO.newl hp reps_mk)
    · cases e'
theorem ok_upper {K : PySem.W.Frag} {z : Str} : OkN K (meF .upper (.str z)) (.ow .fr) (fun vs => (fun x xs H Q => ∃ a, x = V.str a ∧ xs = [] ∧ a.length ≤ 5592405 ∧ Q (.str (Txt.upper a)) H) (.str z) vs) anyO := by
  intro w os ds vs d Q _ rr e k
  match ds, e with
  | [], e =>
    match os, vs, rr with
    | [], [], _ =>
      have e' : (if z.length ≤ 5592405 then some (D.str (Txt.upper z)) else none) = some d := e
      split at e'
      · rename_i h
        exact ⟨z, rfl, rfl, h, fin_str (Option.some.inj e') k⟩
      · cases e'
theorem ok_join {K : PySem.W.Frag} {z : Str} : OkN K (meF .join (.str z)) (.ow .fr) (fun vs => (fun x xs H Q => ∃ a p, ∃ ys : List Str, x = V.str a ∧ xs = [.ref p] ∧ (SqL K H p (ys.map V.str) ∨ SqT K H p (ys.map V.str)) ∧
    (ys.map (·.length)).sum + ys.length * a.length ≤ 16777216 ∧ Q (.str (Txt.join a ys)) H) (.str z) vs) shal := by
  intro w os ds vs d Q sh rr e k
  match ds, e with
  | [.lst xs], e =>
    obtain ⟨o, v, A, rfl, rfl, r⟩ := rr.one
    have e' : ((D.strs xs).bind fun zs => if (zs.map (·.length)).sum + zs.length * z.length ≤ SZ then some (D.str (Txt.join z zs)) else none) = some d := e
    obtain ⟨zs, h1, h2⟩ := Option.bind_eq_some_iff.mp e'
    have hx := strs_eq h1
    subst hx
    split at h2
    · rename_i hl
      obtain ⟨a, ys, rfl, g1, g2⟩ := r.lstR (by simpa using sh)
      have hy := reps_strs g2
      subst hy
      exact ⟨z, a, zs, rfl, rfl, .inl (SqL.of g1), hl, fin_str (Option.some.inj h2) k⟩
    · cases h2
end
/-! ### checked -/
def vM0 : Expr → Option (Expr × Str × Pos × Pos)
  | .Call (.Attribute b m ap) [] [] cp => some (b, m, ap, cp)
  | _ => none
theorem vM0_eq {e : Expr} {r : Expr × Str × Pos × Pos} (h : vM0 e = some r) : e = .Call (.Attribute r.1 r.2.1 r.2.2.1) [] [] r.2.2.2 := by
  unfold vM0 at h
  split at h
  · cases h; rfl
  · cases h
section
variable {S : Sg} {C : Cs} {X : Cx} {c : Cc}
def ckUpper (a : Ck) : Ck := mkV fun pe ows => match vM0 pe with
  | some e => if (decide (e.2.1 = ("upper" : Str)) && (plainB e.1 && (e.2.2.1.endLine == e.2.2.2.line))) = true then (match a.r e.1 ows with
    | some x => some (x.1, .ow .fr, x.2.2)
    | none => none) else none
  | none => none
theorem ckUpper_ok {a : Ck} {p : M D × M Bool} (ha : CkOk S C a p) : CkOk S C (ckUpper a) (val (M.bind p.1 fun x => if meOk .upper x = true then M.bind (evs []) fun ds => M.opt (meF .upper x ds) else fun _ => .no)) := mkV_ok fun X c G pe ows r h => by
  split at h
  · rename_i e he
    split at h
    · rename_i hn
      split at h
      · rename_i x ex
        cases h
        simp only [Bool.and_eq_true, decide_eq_true_eq] at hn
        obtain ⟨n1, n2, n3⟩ := hn
        have := vM0_eq he
        subst this
        rw [n1]
        exact pv_sm0 PySem.F.slot_str_upper PySem.F.type_str_upper mt_upper n2 n3 (fun x h => by cases x <;> first | exact ⟨_, rfl⟩ | cases h) ((ha X c G).2.1 _ _ x ex) fun z => ok_upper
      · cases h
    · cases h
  · cases h
def ckJoin (a k : Ck) : Ck := mkV fun pe ows => match vM1 pe with
  | some e => if (decide (e.2.1 = ("join" : Str)) && (plainB e.1 && ((e.2.2.1.endLine == e.2.2.2.2.line) && noStar e.2.2.2.1))) = true then (match a.r e.1 ows with
    | some x => (match ckAR [k] [e.2.2.2.1] x.1 with
      | some y => if (y.2.2 && y.2.1.all shal) = true then some (y.1, .ow .fr, x.2.2) else none
      | none => none)
    | none => none) else none
  | none => none
theorem ckJoin_ok {a k : Ck} {p q : M D × M Bool} (ha : CkOk S C a p) (hk : CkOk S C k q) : CkOk S C (ckJoin a k) (val (M.bind p.1 fun x => if meOk .join x = true then M.bind (evs [q]) fun ds => M.opt (meF .join x ds) else fun _ => .no)) := mkV_ok fun X c G pe ows r h => by
  split at h
  · rename_i e he
    split at h
    · rename_i hn
      split at h
      · rename_i x ex
        split at h
        · rename_i y ey
          split at h
          · rename_i hq
            cases h
            simp only [Bool.and_eq_true, decide_eq_true_eq] at hn hq
            obtain ⟨n1, n2, n3, n4⟩ := hn
            have := vM1_eq he
            subst this
            rw [n1]
            obtain ⟨i1, i2, i3⟩ := ckAR_ok (ks := [k]) (ps := [q]) G ⟨hk, trivial⟩ ey
            rw [hq.1] at i1
            exact pv_sm PySem.F.slot_str_join PySem.F.type_str_join (r := fun x xs H Q => ∃ a p, ∃ ys : List Str, x = .str a ∧ xs = [.ref p] ∧ (SqL c.K H p (ys.map V.str) ∨ SqT c.K H p (ys.map V.str)) ∧ (ys.map (·.length)).sum + ys.length * a.length ≤ 16777216 ∧ Q (.str (Txt.join a ys)) H) (by rw [← G.K]; exact mt_join) n2 n3 i2 (few1 n4) (fun x h => by cases x <;> first | exact ⟨_, rfl⟩ | cases h) ((ha X c G).2.1 _ _ x ex) i1 (fun z => ok_join) hq.2
          · cases h
        · cases h
      · cases h
    · cases h
  · cases h
def ckSplit1 (a k : Ck) : Ck := mkV fun pe ows => match vM1 pe with
  | some e => if (decide (e.2.1 = ("split" : Str)) && (plainB e.1 && ((e.2.2.1.endLine == e.2.2.2.2.line) && noStar e.2.2.2.1))) = true then (match a.r e.1 ows with
    | some x => (match ckAR [k] [e.2.2.2.1] x.1 with
      | some y => if y.2.2 = true then some (y.1, .ow .fr, x.2.2) else none
      | none => none)
    | none => none) else none
  | none => none
theorem ckSplit1_ok {a k : Ck} {p q : M D × M Bool} (ha : CkOk S C a p) (hk : CkOk S C k q) : CkOk S C (ckSplit1 a k) (val (M.bind p.1 fun x => if meOk .split1 x = true then M.bind (evs [q]) fun ds => M.opt (meF .split1 x ds) else fun _ => .no)) := mkV_ok fun X c G pe ows r h => by
  split at h
  · rename_i e he
    split at h
    · rename_i hn
      split at h
      · rename_i x ex
        split at h
        · rename_i y ey
          split at h
          · rename_i hq
            cases h
            simp only [Bool.and_eq_true, decide_eq_true_eq] at hn hq
            obtain ⟨n1, n2, n3, n4⟩ := hn
            have := vM1_eq he
            subst this
            rw [n1]
            obtain ⟨i1, i2, i3⟩ := ckAR_ok (ks := [k]) (ps := [q]) G ⟨hk, trivial⟩ ey
            rw [hq] at i1
            exact pv_sm PySem.F.slot_str_split PySem.F.type_str_split (r := rSplitA) (mt_split.or mt_splitMax) n2 n3 i2 (few1 n4) (fun x h => by cases x <;> first | exact ⟨_, rfl⟩ | cases h) ((ha X c G).2.1 _ _ x ex) i1 (fun z => ok_split) (List.all_eq_true.mpr fun _ _ => rfl)
          · cases h
        · cases h
      · cases h
    · cases h
  · cases h
def ckSplit2 (a k1 k2 : Ck) : Ck := mkV fun pe ows => match vM2 pe with
  | some e => if (decide (e.2.1 = ("split" : Str)) && (plainB e.1 && ((e.2.2.1.endLine == e.2.2.2.2.2.line) && (noStar e.2.2.2.1 && noStar e.2.2.2.2.1)))) = true then (match a.r e.1 ows with
    | some x => (match ckAR [k1, k2] [e.2.2.2.1, e.2.2.2.2.1] x.1 with
      | some y => if y.2.2 = true then some (y.1, .ow .fr, x.2.2) else none
      | none => none)
    | none => none) else none
  | none => none
theorem ckSplit2_ok {a k1 k2 : Ck} {p q1 q2 : M D × M Bool} (ha : CkOk S C a p) (h1 : CkOk S C k1 q1) (h2 : CkOk S C k2 q2) : CkOk S C (ckSplit2 a k1 k2) (val (M.bind p.1 fun x => if meOk .split1 x = true then M.bind (evs [q1, q2]) fun ds => M.opt (meF .split1 x ds) else fun _ => .no)) := mkV_ok fun X c G pe ows r h => by
  split at h
  · rename_i e he
    split at h
    · rename_i hn
      split at h
      · rename_i x ex
        split at h
        · rename_i y ey
          split at h
          · rename_i hq
            cases h
            simp only [Bool.and_eq_true, decide_eq_true_eq] at hn hq
            obtain ⟨n1, n2, n3, n4, n5⟩ := hn
            have := vM2_eq he
            subst this
            rw [n1]
            obtain ⟨i1, i2, i3⟩ := ckAR_ok (ks := [k1, k2]) (ps := [q1, q2]) G ⟨h1, h2, trivial⟩ ey
            rw [hq] at i1
            exact pv_sm PySem.F.slot_str_split PySem.F.type_str_split (r := rSplitA) (mt_split.or mt_splitMax) n2 n3 i2 (few2 n4 n5) (fun x h => by cases x <;> first | exact ⟨_, rfl⟩ | cases h) ((ha X c G).2.1 _ _ x ex) i1 (fun z => ok_split) (List.all_eq_true.mpr fun _ _ => rfl)
          · cases h
        · cases h
      · cases h
    · cases h
  · cases h
end
end Mp
/-! Mr2: in, not in, [..] of a module's dict with text keys. -/
namespace Mp
open PySem PySem.Spec PyProof.Rows L2
section
variable {S : Sg} {C : Cs} {X : Cx} {c : Cc} {ows ows1 : Ows} {oa : Ow} {q : Bool} {a b : Expr}
theorem noDbgD {x : Str} (h : noDbg x = true) : (x == ("__debug__" : Str)) = false := by
  unfold noDbg at h
  simp only [Bool.and_eq_true, Bool.not_eq_true'] at h
  exact h.1
def opT (n : Bool) : CmpOp := if n then .NotIn else .In
theorem opT_t : opT true = .NotIn := rfl
theorem opT_f : opT false = .In := rfl
abbrev rTin (K : PySem.W.Frag) (d : Addr) (n : Bool) : R2 := fun x y H Q => ∃ (z : Str) (r : Option Value), x = .str z ∧ y = .ref d ∧ PySem.W.nsIn K d z = some r ∧ Q (.bl (n != r.isSome)) H
theorem op_tin {d : Addr} {es : Array DictEntry} {m : Nat} (D : KDict X.K X.w d es m) : ∀ n, OpR X (compareOp (opT n)) (rTin X.K d n)
  | true => by
    intro pins s σ H x y v u Q I rx ry ⟨z, r, e1, e2, e3, e4⟩
    refine op_notIn_kd D pins s σ H x y v u Q I rx ry ⟨z, r, e1, e2, e3, ?_⟩
    cases hr : r.isSome <;> rw [hr] at e4 <;> exact e4
  | false => by
    intro pins s σ H x y v u Q I rx ry ⟨z, r, e1, e2, e3, e4⟩
    refine op_in_kd D pins s σ H x y v u Q I rx ry ⟨z, r, e1, e2, e3, ?_⟩
    cases hr : r.isSome <;> rw [hr] at e4 <;> exact e4
theorem tin_imp {f : M D} {n : Bool} {t : Bool} {ks vs : List D} {g : Option D} {d : Addr} (hg : g = some (.dct t ks vs)) (hz : ∀ z, ∃ r, PySem.W.nsIn X.K d z = some r ∧ r.isSome = (ks.any fun k => decide (k = .str z))) :
    ∀ σ H Q, tV c (op1 (tinD n g) f) ows ows1 (.ow .fr) q σ H Q → tOp (rTin X.K d n) (tR c f ows ows1 oa q) (tC (.ref d)) σ H Q := fun σ H Q ⟨w, env, hw, sr, z⟩ => by
  refine ⟨w, env, hw, sr, ?_⟩
  unfold op1 M.bind at z
  cases e1 : f env with
  | no => rw [e1] at z; exact z
  | ex m env1 => rw [e1] at z; exact z
  | ok x env1 =>
    rw [e1] at z
    intro w1 v1 A1 x1 s1 r1 k1
    subst hg
    cases x with
    | str y =>
      obtain ⟨r, h1, h2⟩ := hz y
      refine ⟨y, r, r1.str, rfl, h1, ?_⟩
      rw [h2]
      exact z w1 _ (fun _ => False) x1 s1 RO.mkbl Tmp.nil k1
    | _ => exact z.elim
theorem tin_bl {f : M D} {n : Bool} {g : Option D} : ∀ env d env', op1 (tinD n g) f env = .ok d env' → ∃ b, d = .bl b := by
  intro env d env' h
  unfold op1 M.bind at h
  cases e1 : f env with
  | no => rw [e1] at h; cases h
  | ex => rw [e1] at h; cases h
  | ok x env1 =>
    rw [e1] at h
    simp only [M.opt] at h
    cases e2 : tinD n g x with
    | none => rw [e2] at h; cases h
    | some r =>
      rw [e2] at h
      cases h
      unfold tinD at e2
      split at e2
      · cases e2; exact ⟨_, rfl⟩
      · cases e2
theorem noMark_name {op : CmpOp} {x : Str} {p : Pos} : behindInMarks op (.Name x p) = false := rfl
def ckTinX {α : Type} (S : Sg) (n : Bool) (a : Ck) (x : Str) (fin : Ows → Bool → α) : Expr → Ows → Option α := fun pe ows => match vCmp pe with
  | some e => if (decide (e.2.1 = opT n) && (decide (vName e.2.2 = some x) && (S.kt x && (S.glo x && noDbg x)))) = true then (match a.r e.1 ows with
    | some y => some (fin y.1 y.2.2)
    | none => none) else none
  | none => none
def ckTin (S : Sg) (n : Bool) (a : Ck) (x : Str) : Ck := ⟨ckTinX S n a x fun o q => (o, .ow .fr, q), ckTinX S n a x fun o q => (o, .ow .fr, q), ckTinX S n a x fun o q => (o, q)⟩
theorem ckTinX_ok {α : Type} {n : Bool} {a : Ck} {x : Str} {p : M D × M Bool} {fin : Ows → Bool → α} (ha : CkOk S C a p) (G : GOk X c C S) {pe : Expr} {ows : Ows} {r : α} (h : ckTinX S n a x fin pe ows = some r) :
    ∃ e1 pos p2 ows1 oa qa, pe = .Compare e1 [opT n] [.Name x p2] pos ∧ S.kt x = true ∧ Gl X x ∧ (x == ("__debug__" : Str)) = false ∧ PE X e1 (tR c p.1 ows ows1 oa qa) ∧ r = fin ows1 qa := by
  unfold ckTinX at h
  split at h
  · rename_i e he
    split at h
    · rename_i hn
      split at h
      · rename_i y ey
        cases h
        simp only [Bool.and_eq_true, decide_eq_true_eq] at hn
        obtain ⟨h1, h2, h3, h4, h5⟩ := hn
        obtain ⟨pos, rfl⟩ := vCmp_eq he
        obtain ⟨p2, e2⟩ := vName_eq h2
        rw [h1, e2]
        exact ⟨_, _, _, _, _, _, rfl, h3, G.glo h4, noDbgD h5, (ha X c G).2.1 _ _ y ey, rfl⟩
      · cases h
    · cases h
  · cases h
theorem ckTin_ok {n : Bool} {a : Ck} {x : Str} {p : M D × M Bool} (ha : CkOk S C a p) : CkOk S C (ckTin S n a x) (val (op1 (tinD n (C.gl x)) p.1)) := fun X c G => by
  have hv : ∀ pe ows r, (ckTin S n a x).v pe ows = some r → PE X pe (tV c (op1 (tinD n (C.gl x)) p.1) ows r.1 r.2.1 r.2.2) := fun pe ows r h => by
    obtain ⟨e1, pos, p2, ows1, oa, qa, rfl, hk, hg, hd, h1, rfl⟩ := ckTinX_ok ha G (show ckTinX S n a x (fun o q => (o, Ow.ow Ow.fr, q)) pe ows = some r from h)
    obtain ⟨t, ks, vs, d, es, m, g1, g2, g3, g4⟩ := G.kt x hk
    exact wPE (pe_cmpR (op_tin g3 n) h1 (pe_glob hg g2 (v := .ref d) rfl hd) noMark_name) (tin_imp g1 fun z => by obtain ⟨r, q1, q2, _⟩ := g4 z; exact ⟨r, q1, q2⟩)
  refine ⟨hv, fun pe ows r h => look_of (hv pe ows r h), fun pe ows r h => ?_⟩
  obtain ⟨e1, pos, p2, ows1, oa, qa, rfl, hk, hg, hd, h1, rfl⟩ := ckTinX_ok ha G (show ckTinX S n a x (fun o q => (o, q)) pe ows = some r from h)
  obtain ⟨t, ks, vs, d, es, m, g1, g2, g3, g4⟩ := G.kt x hk
  exact pt_bool (pt_cmpR (op_tin g3 n) h1 (pe_glob hg g2 (v := .ref d) rfl hd) noMark_name) (tin_imp g1 fun z => by obtain ⟨r, q1, q2, _⟩ := g4 z; exact ⟨r, q1, q2⟩) tin_bl
/-! ### NAME[x] -/
abbrev rTix (K : PySem.W.Frag) (w : World) (d : Addr) : R2 := rIxD K w
theorem tix_imp {f : M D} {t : Bool} {ks vs : List D} {g : Option D} {d : Addr} {es : Array DictEntry} {m : Nat} (hg : g = some (.dct t ks vs)) (D : KDict X.K X.w d es m) (hz : ∀ z, ∃ r, PySem.W.nsIn X.K d z = some r ∧ ∀ e, dGet ks vs (.str z) = some e → ∃ u v, r = some u ∧ RelV v u ∧ ∀ H Z, Rep c.K H Z e v) :
    ∀ σ H Q, tV c (op1 (tixD g) f) ows ows1 .fr q σ H Q → tOp (rIxD X.K X.w) (tC (.ref d)) (tR c f ows ows1 oa q) σ H Q := fun σ H Q ⟨w, env, hw, sr, z⟩ => by
  refine ⟨w, env, hw, sr, ?_⟩
  unfold op1 M.bind at z
  cases e1 : f env with
  | no => rw [e1] at z; exact z
  | ex m env1 => rw [e1] at z; exact z
  | ok x env1 =>
    rw [e1] at z
    intro w1 v1 A1 x1 s1 r1 k1
    subst hg
    cases x with
    | str y =>
      obtain ⟨r, h1, h2⟩ := hz y
      have et : tixD (some (.dct t ks vs)) (.str y) = dGet ks vs (.str y) := rfl
      simp only [M.opt] at z
      rw [et] at z
      cases e2 : dGet ks vs (.str y) with
      | none => rw [e2] at z; exact z.elim
      | some e =>
        rw [e2] at z
        obtain ⟨u, v, rfl, rv, rp⟩ := h2 e e2
        exact ⟨d, y, v, rfl, r1.str, ⟨es, _, u, D.at_, D.lit, h1, rv⟩, z w1 _ (fun _ => False) x1 s1 ⟨rp _ _, fun _ z => z⟩ Tmp.nil k1⟩
    | _ => exact z.elim
def ckTix (S : Sg) (x : Str) (a : Ck) : Ck := mkV fun pe ows => match vSub pe with
  | some e => if (noSl e.2 && (decide (vName e.1 = some x) && (S.kt x && (S.glo x && noDbg x)))) = true then (match a.r e.2 ows with
    | some y => some (y.1, .fr, y.2.2)
    | none => none) else none
  | none => none
theorem ckTix_ok {a : Ck} {x : Str} {p : M D × M Bool} (ha : CkOk S C a p) : CkOk S C (ckTix S x a) (val (op1 (tixD (C.gl x)) p.1)) := mkV_ok fun X c G pe ows r h => by
  split at h
  · rename_i e he
    split at h
    · rename_i hn
      split at h
      · rename_i y ey
        cases h
        simp only [Bool.and_eq_true, decide_eq_true_eq] at hn
        obtain ⟨h1, h2, h3, h4, h5⟩ := hn
        obtain ⟨pos, rfl⟩ := vSub_eq he
        obtain ⟨p2, e2⟩ := vName_eq h2
        rw [e2]
        obtain ⟨t, ks, vs, d, es, m, g1, g2, g3, g4⟩ := G.kt x h3
        exact wPE (pe_ix ix_kdict (pe_glob (G.glo h4) g2 (v := .ref d) rfl (noDbgD h5)) ((ha X c G).2.1 _ _ y ey) (plainIx h1)) (tix_imp g1 g3 fun z => by obtain ⟨r, q1, _, q2⟩ := g4 z; exact ⟨r, q1, q2⟩)
      · cases h
    · cases h
  · cases h
end
end Mp
/-! Mr5: x.extend(e). -/
namespace Mp
open PySem PySem.Spec PyProof.Rows L2
section
variable {X : Cx} {c : Cc} {ows ows' : Ows} {oa : Ow} {q : Bool} {b e : Expr}
theorem Items.more {K : PySem.W.Frag} {H : Hp} {Z : AS} : ∀ {ys : List D} {us : List V} {ds : List D} {xs : List V} {B : AS} {G : Nat → AS}, Items (RO K H Z .fr) ds xs B G → Reps K H Z ys us → ∃ G', Items (RO K H Z .fr) (ds ++ ys) (xs ++ us) B G'
  | [], us, ds, xs, B, G, I, r => by
    have : us = [] := by unfold Reps at r; exact r
    subst this
    exact ⟨G, by rw [List.append_nil, List.append_nil]; exact I⟩
  | y :: ys, us, ds, xs, B, G, I, r => by
    unfold Reps at r
    obtain ⟨x, r', rfl, r1, r2⟩ := r
    have I1 := I.snoc (d := y) (x := x) (A := fun _ => False) ⟨r1, fun _ z => z⟩ (fun _ z => z.elim)
    obtain ⟨G', I2⟩ := Items.more I1 r2
    refine ⟨G', ?_⟩
    have eB : (fun a => B a ∨ False) = B := funext fun a => propext ⟨fun z => z.elim id False.elim, .inl⟩
    rw [eB, List.append_assoc, List.append_assoc] at I2
    exact I2
theorem list_extend_tupG (l : Addr) (items : Array Value) (n : Nat) (b : Addr) (items2 : Array Value) (n2 : Nat) (dd : Option Addr) (sl : Array (Option Value)) (hs0 : ¬(!items.isEmpty && Builtin.List.listTooLong (items.size + items2.size)) = true) (hs1 : items.size ≤ sizeLine) (hs2 : items.size + items2.size ≤ sizeLine + 1) :
    Meets (Builtin.«list.extend» ⟨[.ref l, .ref b], []⟩) (fun _ R s => s.heap.get? l = some { cls := .type "list", dict := none, data := .seq items n, slots := #[] } ∧ s.heap.get? b = some { cls := .type "tuple", dict := dd, data := .seq items2 n2, slots := sl } ∧ R (.ok (.ret Value.none)) { s with heap := s.heap.update l (Obj.mapSeq fun x => x ++ items2), toks := s.toks }) :=
  .of_wp fun prog w A R s h => by
    obtain ⟨hp, g, d, tk, os⟩ := s; obtain ⟨hl, hb, h⟩ := h
    have f1 := AutoSeq1.idx_int; have f2 := AutoSeq1.sub_tuple_tuple; have f3 := AutoSeq1.sub_list_list; have f4 := AutoSeq1.sub_tuple_list; have f5 := AutoSeq1.sub_list_tuple
    have hz' : (items ++ items2).size ≤ sizeLine + 1 := by rw [Array.size_append]; exact hs2
    wp_walk using (wpAny_updateSeq hl rfl (hz := hs1) (_hz' := hz')), AutoSeq1.wpAny_loadPart' hl, AutoSeq1.wpAny_loadPart' hb
    exact ⟨_, rfl, h⟩
def rExtendT (K : PySem.W.Frag) : V → List V → Hp → VK → Prop := fun x vs H Q => ∃ l b xs zs, x = .ref l ∧ vs = [.ref b] ∧ H l = some (.lst xs) ∧ SqT K H b zs ∧ xs.length + zs.length ≤ sizeLine ∧ Q .non (upd H l (.lst (xs ++ zs)))
theorem mt_extendT : MtM X "list.extend" (rExtendT X.K) := by
  intro pins s σ H x vs v us Q I rx rv h
  obtain ⟨l, b, xs, zs, rfl, rfl, hH, hB, hz, q⟩ := h
  cases rx
  obtain ⟨u, rfl, ru⟩ := rv.one
  cases ru
  obtain ⟨z, its, n, r, hl, e⟩ := I.lstM hH
  obtain ⟨its2, r2, ⟨⟨cls, dd, data, sl⟩, ho, hc, n2, hd⟩, hs⟩ := I.tuple hB
  have hl2 := r2.length
  cases hc
  cases hd
  have hsz : its.toArray.size + its2.toArray.size ≤ sizeLine := by rw [List.size_toArray, List.size_toArray]; omega
  have hlong : ¬ (!its.toArray.isEmpty && Builtin.List.listTooLong (its.toArray.size + its2.toArray.size)) = true := by
    rw [L2.notLongL hsz, Bool.and_false]
    exact Bool.false_ne_true
  refine call_meets F.slot_list_extend ⟨_, e, rfl⟩ F.entry_list_extend (F.args_list_extend_2 _ _)
    (list_extend_tupG l its.toArray n b its2.toArray n2 dd sl hlong (by rw [List.size_toArray]; omega) (by omega)) ⟨e, ho, ?_⟩
  refine ⟨.non, _, I.lset (its' := its ++ its2) hH e (by simp) (r.append r2) ?_, rfl, q⟩
  rw [List.length_append]
  omega
/-- x.extend(e) -/
theorem pv_extend {i : Nat} {ps : List (M D × M Bool)} {fe : M D × M Bool} {apos cpos : Pos} (hb : PE X b (tPl c i (evs ps) ows)) (hpb : plainB b = true) (hline : (apos.endLine == cpos.line) = true) (hpl : ∀ e r e', evs ps e = .ok r e' → r.length = 0) (hpu : Pure (evs ps))
    (hs : noStar e = true) (he : PE X e (tR c fe.1 ows ows' oa q)) (sh : shal oa = true) (hd : owAt ows i = .ow .fr) (ho' : owAt ows' i = owAt ows i) (hp : ∀ p, c.pn i = some p → p.2 = none) (hM : MtR X "list.extend" rExtend) (hM2 : MtR X "list.extend" (rExtendT c.K)) :
    PE X (.Call (.Attribute b "extend" apos) [e] [] cpos) (tV c (muM .extend i ps [fe]) ows ows' .fr false) := by
  have hdp : deepO (owAt ows i) 0 = true := by rw [hd]; rfl
  refine wPE (pe_bm PySem.F.plainAttrs_list PySem.F.slot_list_extend PySem.F.type_list_extend (hM.or hM2) hb (pa_cons he pa_nil (star_cons hs)) (base_of hpb) (few1 hs) hline (star_cons hs) rfl) fun σ H Q ⟨w, env, hw, sr, z⟩ => ?_
  subst hw
  refine ⟨w, env, rfl, sr, ?_⟩
  rcases mu_head (P := fun r => match r with
    | .ok d env' => ∀ w' v A, Ext w w' → SR c.K c.pn ows' env' σ w' → RO c.K w'.H w'.Z .fr d v A → Tmp w w' A → (false = true → Quiet w w') → Q v w'.H
    | .ex n env' => exK c σ w n env'
    | .no => False) z (fun h => h) with ⟨m, e1, h1, h2⟩ | ⟨qs, env0, d, d1, h1, g1, g2, hm, z5⟩
  · rw [h1]; exact h2
  clear z
  rw [h1]
  have he0 := hpu _ _ _ h1
  subst he0
  refine ⟨rfl, d, d1, g1, g2, fun w1 v v1 x1 k1 s1 hσ at1 => ?_⟩
  have hqn := hpl _ _ _ h1
  have hdq : deepO (owAt ows i) qs.length = true := by rw [hqn]; exact hdp
  obtain ⟨v', v1', A1, p1, p2, p3, _⟩ := s1.place g1 g2 hdq
  rw [hσ] at p1
  cases p1
  cases at1.det p2
  have hq0 : qs = [] := List.length_eq_zero_iff.mp hqn
  subst hq0
  have hl : ∃ ds, d1 = .lst ds := by cases d1 <;> simp [muOk] at hm; exact ⟨_, rfl⟩
  obtain ⟨ds, rfl⟩ := hl
  obtain ⟨l, xs, rfl, hl1, _⟩ := p3.lst
  refine ⟨ty_list hl1, ?_⟩
  refine ⟨w1, env0, rfl, s1, ?_⟩
  have z := z5
  simp only [evs, M.bind, M.ret] at z
  cases e2 : fe.1 env0 with
  | no => rw [e2] at z; exact z
  | ex m env2 => rw [e2] at z; exact exK.mono x1 z
  | ok y env2 =>
    rw [e2] at z
    intro w2 vy Ay x2 s2 r2 k2
    obtain ⟨d', d1', d1'', yy, q1, q2, q3, q4⟩ := mu_tail (P := fun r => match r with
      | .ok d env' => ∀ w' v A, Ext w w' → SR c.K c.pn ows' env' σ w' → RO c.K w'.H w'.Z .fr d v A → Tmp w w' A → (false = true → Quiet w w') → Q v w'.H
      | .ex n env' => exK c σ w n env'
      | .no => False) z (fun h => h)
    cases d1' <;> cases y <;> simp only [muF, reduceCtorEq] at q3
    all_goals rename_i ds2 ys
    all_goals split at q3
    any_goals (cases q3; done)
    all_goals
      rename_i hlen
      cases q3
      have hd2 : deepO (owAt ows' i) ([] : List D).length = true := by rw [ho', hd]; rfl
      obtain ⟨A2, r3, a3, a4⟩ := mut_step s2 q1 q2 hd2 hp (x1.trans x2) hσ (at1.same rfl (.inl rfl))
      rw [ho', hd] at r3
      obtain ⟨l', zs, B, G, el, hl2, I, nb, hA⟩ := (show RO c.K w2.H w2.Z (.ow .fr) _ _ _ from r3)
      cases el
      have hub : ∃ lb us, vy = .ref lb ∧ Reps c.K w2.H w2.Z ys us ∧ (w2.H lb = some (.lst us) ∨ SqT c.K w2.H lb us) := by
        first
        | (obtain ⟨lb, us, e, hb1, hb2⟩ := r2.lstR sh; exact ⟨lb, us, e, hb2, .inl hb1⟩)
        | (obtain ⟨lb, us, e, hb1, hb2⟩ := r2.tup; exact ⟨lb, us, e, hb2, .inr hb1⟩)
      obtain ⟨lb, us, rfl, hb2, hb1⟩ := hub
      have hlF : A2 l := (hA l).mpr (.inl rfl)
      have kp := kp_upd (w := w2) (o' := .lst (zs ++ us)) (A1 := A2) hlF
      have ne : ∀ b q, w2.H b = some q → (w2.Z b ∨ B b ∨ mutO q = false) → L2.upd w2.H l (.lst (zs ++ us)) b = some q := fun b q e z => by
        rw [upd_ne]
        · exact e
        · rintro rfl
          rcases z with z | z | z
          · exact s2.zf i b (a3 b hlF) z
          · exact nb z
          · rw [hl2] at e; cases e; cases z
      have hb3 : Reps c.K (L2.upd w2.H l (.lst (zs ++ us))) w2.Z ys us := hb2.mono (fun _ z => z) fun b q e z => ne b q e (z.elim .inl fun z => .inr (.inr z))
      obtain ⟨G', I'⟩ := (I.keep (Z' := w2.Z) (fun _ z => z) ne).more hb3
      obtain ⟨d3, f1, f2, f3⟩ := a4 (d1' := .lst (ds2 ++ ys)) (A1' := A2) kp.1 kp.2 (by
        rw [ho', hd]
        exact ⟨l, zs ++ us, _, _, rfl, upd_same, I', nb, hA⟩) (fun b z => s2.zf i b (a3 b z))
        (fun b j z g => z) fun b z => (x1.trans x2).nw i b (a3 b z)
      have hq := q4 d3 f1 _ _ _ f3 f2 RO.mknon Tmp.nil fun h => nomatch h
      have hz : zs.length + us.length ≤ sizeLine := by rw [I.len, hb2.len, ← sz_eq]; exact hlen
      exact hb1.elim (fun hb1 => .inl ⟨l, lb, zs, us, rfl, rfl, hl2, hb1, hz, hq⟩) fun hb1 => .inr ⟨l, lb, zs, us, rfl, rfl, hl2, hb1, hz, hq⟩
end
end Mp
/-! Mr6: x.pop(), x.pop(k), x.insert(k, e): lists of frozen items. -/
namespace Mp
open PySem PySem.Spec PyProof.Rows L2
section
variable {X : Cx} {c : Cc} {ows ows' : Ows} {oa : Ow} {q : Bool} {b e : Expr}
/-- what a slot's list becomes -/
theorem lst_new {K : PySem.W.Frag} {w : Wd} {l : Addr} {ds2 ds' : List D} {zs us : List V} {B A : AS} {G : Nat → AS} (I : Items (RO K w.H w.Z .fr) ds2 zs B G) (hl : w.H l = some (.lst zs)) (nz : ¬ w.Z l)
    (hr : Reps K w.H w.Z ds2 zs → Reps K w.H w.Z ds' us) : RO K (L2.upd w.H l (.lst us)) w.Z (.ow .fr) (.lst ds') (.ref l) (fun a => a = l) := by
  have r0 : Reps K w.H w.Z ds2 zs := Reps.of I.len fun k d x e1 e2 => (I.at_ k d x e1 e2).1
  have ne : ∀ b q, w.H b = some q → (w.Z b ∨ mutO q = false) → L2.upd w.H l (.lst us) b = some q := fun b q e z => by
    rw [upd_ne]
    · exact e
    · rintro rfl
      rcases z with z | z
      · exact nz z
      · rw [hl] at e; cases e; cases z
  have r1 := (hr r0).mono (fun _ z => z) ne
  exact ⟨l, us, fun _ => False, fun _ _ => False, rfl, upd_same, Items.frs r1, fun z => z, fun b => ⟨.inl, fun z => z.elim id False.elim⟩⟩
/-- x.pop() -/
theorem pv_pop0 {i : Nat} {ps : List (M D × M Bool)} {apos cpos : Pos} (hb : PE X b (tPl c i (evs ps) ows)) (hpb : plainB b = true) (hline : (apos.endLine == cpos.line) = true) (hpl : ∀ e r e', evs ps e = .ok r e' → r.length = 0) (hpu : Pure (evs ps))
    (hd : owAt ows i = .ow .fr) (hp : ∀ p, c.pn i = some p → p.2 = none) (hM : MtR X "list.pop" rPop) :
    PE X (.Call (.Attribute b "pop" apos) [] [] cpos) (tV c (muM .pop0 i ps []) ows ows .fr false) := by
  have hdp : deepO (owAt ows i) 0 = true := by rw [hd]; rfl
  refine wPE (pe_bm0 PySem.F.plainAttrs_list PySem.F.slot_list_pop PySem.F.type_list_pop hM hb (base_of hpb) hline) fun σ H Q ⟨w, env, hw, sr, z⟩ => ?_
  subst hw
  refine ⟨w, env, rfl, sr, ?_⟩
  rcases mu_head (P := fun r => match r with
    | .ok d env' => ∀ w' v A, Ext w w' → SR c.K c.pn ows env' σ w' → RO c.K w'.H w'.Z .fr d v A → Tmp w w' A → (false = true → Quiet w w') → Q v w'.H
    | .ex n env' => exK c σ w n env'
    | .no => False) z (fun h => h) with ⟨m, e1, h1, h2⟩ | ⟨qs, env0, d, d1, h1, g1, g2, hm, z5⟩
  · rw [h1]; exact h2
  clear z
  rw [h1]
  have he0 := hpu _ _ _ h1
  subst he0
  refine ⟨rfl, d, d1, g1, g2, fun w1 v v1 x1 k1 s1 hσ at1 => ?_⟩
  have hqn := hpl _ _ _ h1
  have hdq : deepO (owAt ows i) qs.length = true := by rw [hqn]; exact hdp
  have hq0 : qs = [] := List.length_eq_zero_iff.mp hqn
  subst hq0
  have hl : ∃ ds, d1 = .lst ds := by cases d1 <;> simp [muOk] at hm; exact ⟨_, rfl⟩
  obtain ⟨ds, rfl⟩ := hl
  have z := z5
  simp only [evs, M.ret] at z
  obtain ⟨d', d1', d1'', yy, q1, q2, q3, q4⟩ := mu_tail (P := fun r => match r with
    | .ok d env' => ∀ w' v A, Ext w w' → SR c.K c.pn ows env' σ w' → RO c.K w'.H w'.Z .fr d v A → Tmp w w' A → (false = true → Quiet w w') → Q v w'.H
    | .ex n env' => exK c σ w n env'
    | .no => False) z (fun h => h)
  cases d1' <;> simp only [muF, reduceCtorEq] at q3
  rename_i ds2
  split at q3
  · rename_i y hy
    cases q3
    obtain ⟨A2, r3, a3, a4⟩ := mut_step s1 q1 q2 hdq hp x1 hσ at1
    rw [hd] at r3
    obtain ⟨l, zs, B, G, el, hl2, I, nb, hA⟩ := (show RO c.K w1.H w1.Z (.ow .fr) _ _ _ from r3)
    cases el
    have hlF : A2 l := (hA l).mpr (.inl rfl)
    have r0 : Reps c.K w1.H w1.Z ds2 zs := Reps.of I.len fun k d x e1 e2 => (I.at_ k d x e1 e2).1
    have nz : ¬ w1.Z l := s1.zf i l (a3 l hlF)
    have kp := kp_upd (w := w1) (o' := .lst zs.dropLast) (A1 := A2) hlF
    have hne : ds2 ≠ [] := fun e => by rw [e] at hy; cases hy
    have hlen : ds2.length ≠ 0 := fun e => hne (List.length_eq_zero_iff.mp e)
    have hyl : ds2[ds2.length - 1]? = some yy := by rw [← List.getLast?_eq_getElem?]; exact hy
    obtain ⟨vy, ev, rv⟩ := r0.get hyl
    have hrn := lst_new (A := A2) (ds' := ds2.dropLast) (us := zs.dropLast) I hl2 nz fun r => Reps.of (by rw [List.length_dropLast, List.length_dropLast, r.len]) fun k d x e1 e2 => by
      rw [List.getElem?_dropLast] at e1 e2
      split at e1
      · split at e2
        · obtain ⟨x', e3, r3⟩ := r.get e1
          rw [e3] at e2; cases e2
          exact r3
        · cases e2
      · cases e1
    obtain ⟨d3, f1, f2, f3⟩ := a4 (d1' := .lst ds2.dropLast) (A1' := fun a => a = l) kp.1 kp.2 (by rw [hd]; exact hrn) (fun b z => s1.zf i b (a3 b (by rw [show b = l from z]; exact hlF)))
      (fun b j z g => by rw [show b = l from z]; exact hlF) fun b z => x1.nw i b (a3 b (by rw [show b = l from z]; exact hlF))
    refine ⟨ty_list hl2, l, zs, vy, rfl, rfl, hl2, by rw [r0.len]; exact ev, ?_⟩
    refine q4 d3 f1 _ vy (fun _ => False) f3 f2 ⟨?_, fun _ z => z⟩ Tmp.nil fun h => nomatch h
    exact rv.mono (fun _ z => z) fun b q e z => by
      show L2.upd w1.H l (.lst zs.dropLast) b = some q
      rw [upd_ne]
      · exact e
      · rintro rfl
        rcases z with z | z
        · exact nz z
        · rw [hl2] at e; cases e; cases z
  · cases q3
theorem seq_ix {n : Nat} {i : Int} {j : Nat} (h : L2.ixN n i = some j) : seqIndex? i n = some j ∧ j < n ∧ -(n : Int) ≤ i ∧ i < n := ixN_seq h
/-- x.pop(k) -/
theorem pv_pop1 {i : Nat} {ps : List (M D × M Bool)} {fe : M D × M Bool} {apos cpos : Pos} (hb : PE X b (tPl c i (evs ps) ows)) (hpb : plainB b = true) (hline : (apos.endLine == cpos.line) = true) (hpl : ∀ e r e', evs ps e = .ok r e' → r.length = 0) (hpu : Pure (evs ps))
    (hs : noStar e = true) (he : PE X e (tR c fe.1 ows ows' oa q)) (hd : owAt ows i = .ow .fr) (ho' : owAt ows' i = owAt ows i) (hp : ∀ p, c.pn i = some p → p.2 = none) (hM : MtR X "list.pop" rPopAt) :
    PE X (.Call (.Attribute b "pop" apos) [e] [] cpos) (tV c (muM .pop1 i ps [fe]) ows ows' .fr false) := by
  have hdp : deepO (owAt ows i) 0 = true := by rw [hd]; rfl
  refine wPE (pe_bm PySem.F.plainAttrs_list PySem.F.slot_list_pop PySem.F.type_list_pop hM hb (pa_cons he pa_nil (star_cons hs)) (base_of hpb) (few1 hs) hline (star_cons hs) rfl) fun σ H Q ⟨w, env, hw, sr, z⟩ => ?_
  subst hw
  refine ⟨w, env, rfl, sr, ?_⟩
  rcases mu_head (P := fun r => match r with
    | .ok d env' => ∀ w' v A, Ext w w' → SR c.K c.pn ows' env' σ w' → RO c.K w'.H w'.Z .fr d v A → Tmp w w' A → (false = true → Quiet w w') → Q v w'.H
    | .ex n env' => exK c σ w n env'
    | .no => False) z (fun h => h) with ⟨m, e1, h1, h2⟩ | ⟨qs, env0, d, d1, h1, g1, g2, hm, z5⟩
  · rw [h1]; exact h2
  clear z
  rw [h1]
  have he0 := hpu _ _ _ h1
  subst he0
  refine ⟨rfl, d, d1, g1, g2, fun w1 v v1 x1 k1 s1 hσ at1 => ?_⟩
  have hqn := hpl _ _ _ h1
  have hdq : deepO (owAt ows i) qs.length = true := by rw [hqn]; exact hdp
  obtain ⟨v', v1', A1, p1, p2, p3, _⟩ := s1.place g1 g2 hdq
  rw [hσ] at p1
  cases p1
  cases at1.det p2
  have hq0 : qs = [] := List.length_eq_zero_iff.mp hqn
  subst hq0
  have hl : ∃ ds, d1 = .lst ds := by cases d1 <;> simp [muOk] at hm; exact ⟨_, rfl⟩
  obtain ⟨ds, rfl⟩ := hl
  obtain ⟨l, xs, rfl, hl1, _⟩ := p3.lst
  refine ⟨ty_list hl1, ?_⟩
  refine ⟨w1, env0, rfl, s1, ?_⟩
  have z := z5
  simp only [evs, M.bind, M.ret] at z
  cases e2 : fe.1 env0 with
  | no => rw [e2] at z; exact z
  | ex m env2 => rw [e2] at z; exact exK.mono x1 z
  | ok y env2 =>
    rw [e2] at z
    intro w2 vy Ay x2 s2 r2 k2
    obtain ⟨d', d1', d1'', yy, q1, q2, q3, q4⟩ := mu_tail (P := fun r => match r with
      | .ok d env' => ∀ w' v A, Ext w w' → SR c.K c.pn ows' env' σ w' → RO c.K w'.H w'.Z .fr d v A → Tmp w w' A → (false = true → Quiet w w') → Q v w'.H
      | .ex n env' => exK c σ w n env'
      | .no => False) z (fun h => h)
    cases d1' <;> cases y <;> simp only [muF, reduceCtorEq] at q3
    rename_i ds2 ii
    have hz : ds2.length ≤ SZ := by
      by_cases hz : ds2.length ≤ SZ
      · exact hz
      · rw [if_neg hz] at q3; cases q3
    rw [if_pos hz] at q3
    split at q3
    · rename_i j yv hj hy
      cases q3
      have hd2 : deepO (owAt ows' i) ([] : List D).length = true := by rw [ho', hd]; rfl
      obtain ⟨A2, r3, a3, a4⟩ := mut_step s2 q1 q2 hd2 hp (x1.trans x2) hσ (at1.same rfl (.inl rfl))
      rw [ho', hd] at r3
      obtain ⟨l', zs, B, G, el, hl2, I, nb, hA⟩ := (show RO c.K w2.H w2.Z (.ow .fr) _ _ _ from r3)
      cases el
      have hlF : A2 l := (hA l).mpr (.inl rfl)
      have r0 : Reps c.K w2.H w2.Z ds2 zs := Reps.of I.len fun k d x e1 e2 => (I.at_ k d x e1 e2).1
      have nz : ¬ w2.Z l := s2.zf i l (a3 l hlF)
      have kp := kp_upd (w := w2) (o' := .lst (zs.eraseIdx j)) (A1 := A2) hlF
      obtain ⟨j1, j2, j3, j4⟩ := seq_ix hj
      have hyl : ds2[j]? = some yy := by
        unfold L2.atI at hy
        rw [hj] at hy
        exact hy
      obtain ⟨vy, ev, rv⟩ := r0.get hyl
      have hsz : ds2.length ≤ 16777216 := hz
      have hrn := lst_new (A := A2) (ds' := ds2.eraseIdx j) (us := zs.eraseIdx j) I hl2 nz fun r => Reps.of (by rw [List.length_eraseIdx, List.length_eraseIdx, r.len]) fun k d x e1 e2 => by
        rw [List.getElem?_eraseIdx] at e1 e2
        split at e1
        · rename_i h
          rw [if_pos h] at e2
          obtain ⟨x', e3, r3⟩ := r.get e1
          rw [e3] at e2; cases e2
          exact r3
        · rename_i h
          rw [if_neg h] at e2
          obtain ⟨x', e3, r3⟩ := r.get e1
          rw [e3] at e2; cases e2
          exact r3
      obtain ⟨d3, f1, f2, f3⟩ := a4 (d1' := .lst (ds2.eraseIdx j)) (A1' := fun a => a = l) kp.1 kp.2 (by rw [ho', hd]; exact hrn) (fun b z => s2.zf i b (a3 b (by rw [show b = l from z]; exact hlF)))
        (fun b j z g => by rw [show b = l from z]; exact hlF) fun b z => (x1.trans x2).nw i b (a3 b (by rw [show b = l from z]; exact hlF))
      refine ⟨l, zs, ii, j, vy, rfl, by rw [r2.int], hl2, ?_, ?_, by rw [r0.len]; exact j1, ev, ?_⟩
      · omega
      · omega
      refine q4 d3 f1 _ vy (fun _ => False) f3 f2 ⟨?_, fun _ z => z⟩ Tmp.nil fun h => nomatch h
      exact rv.mono (fun _ z => z) fun b q e z => by
        show L2.upd w2.H l (.lst (zs.eraseIdx j)) b = some q
        rw [upd_ne]
        · exact e
        · rintro rfl
          rcases z with z | z
          · exact nz z
          · rw [hl2] at e; cases e; cases z
    · cases q3
end
end Mp
/-! Mr7: f-strings. -/
namespace Mp
open PySem PySem.Spec PyProof.Rows L2
section
variable {X : Cx} {c : Cc}
/-- the parts: written texts, values -/
inductive FsOk (X : Cx) (c : Cc) : List Expr → List (M D × M Bool) → Ows → Ows → List TE → Prop where
  | nil {ows : Ows} : FsOk X c [] [] ows ows []
  | txt {e : Expr} {p : M D × M Bool} {es : List Expr} {ps : List (M D × M Bool)} {ows ows1 ows2 : Ows} {o : Ow} {q : Bool} {ts : List TE} (h : PE X e (tR c p.1 ows ows1 o q)) (hs : ∀ env d env', p.1 env = .ok d env' → ∃ y, d = .str y) (r : FsOk X c es ps ows1 ows2 ts) : FsOk X c (e :: es) (p :: ps) ows ows2 (tR c p.1 ows ows1 o q :: ts)
  | fmt {e : Expr} {p : M D × M Bool} {es : List Expr} {ps : List (M D × M Bool)} {ows ows1 ows2 : Ows} {o : Ow} {q : Bool} {pos : Pos} {ts : List TE} (h : PE X e (tR c p.1 ows ows1 o q)) (r : FsOk X c es ps ows1 ows2 ts) : FsOk X c (.FormattedValue e (-1) none pos :: es) (p :: ps) ows ows2 (tFmt (tR c p.1 ows ows1 o q) :: ts)
theorem FsOk.pj {es : List Expr} {ps : List (M D × M Bool)} {ows ows' : Ows} {ts : List TE} (h : FsOk X c es ps ows ows' ts) : PJ X es ts := by
  induction h with
  | nil => exact .nil
  | txt h _ _ ih => exact .cons h ih
  | fmt h _ ih => exact .cons (pe_fmt h) ih
theorem str_len {a b : Str} : (a ++ b).length = a.length + b.length := by
  show (a ++ b).cps.size = _
  rw [Str.cps_append, Array.size_append]; rfl
theorem fs_imp {es : List Expr} {ps : List (M D × M Bool)} {ows ows' : Ows} {ts : List TE} (h : FsOk X c es ps ows ows' ts) {σ : L2.St} {Q : Str → Hp → Prop} {w0 : Wd} : ∀ (acc : Str) (w : Wd) (env : Env), Ext w0 w → SR c.K c.pn ows env σ w →
    (match fsA acc ps env with
      | .ok (.str y) env' => ∀ w', Ext w0 w' → SR c.K c.pn ows' env' σ w' → Q y w'.H
      | .ok _ _ => False
      | .ex n env' => exK c σ w n env'
      | .no => False) → tJs ts acc σ w.H Q := by
  induction h with
  | nil =>
    intro acc w env x0 sr z
    exact z w x0 sr
  | @txt e p es ps ows ows1 ows2 o q ts he hs r ih =>
    intro acc w env x0 sr z
    refine ⟨w, env, rfl, sr, ?_⟩
    simp only [fsA, M.bind] at z
    cases e1 : p.1 env with
    | no => rw [e1] at z; exact z
    | ex n env1 => rw [e1] at z; exact z
    | ok d env1 =>
      rw [e1] at z
      obtain ⟨y, rfl⟩ := hs _ _ _ e1
      intro w1 v A x1 s1 r1 k1
      have ev := r1.str
      subst ev
      simp only at z
      cases e3 : fmtD (.str y) with
      | none => rw [e3] at z; exact z.elim
      | some x =>
        rw [e3] at z
        simp only [fmtD] at e3
        split at e3
        · cases e3
          simp only at z
          by_cases hl : acc.length + y.length ≤ SZ
          · rw [if_pos hl] at z
            refine ⟨y, rfl, by rw [str_len, ← sz_eq]; exact hl, ih (acc ++ y) w1 env1 (x0.trans x1) s1 ?_⟩
            cases e2 : fsA (acc ++ y) ps env1 with
            | no => rw [e2] at z; exact z
            | ex n env2 => rw [e2] at z; exact exK.mono x1 z
            | ok d2 env2 => rw [e2] at z; cases d2 <;> exact z
          · rw [if_neg hl] at z; exact z.elim
        · cases e3
  | @fmt e p es ps ows ows1 ows2 o q pos ts he r ih =>
    intro acc w env x0 sr z
    refine ⟨w, env, rfl, sr, ?_⟩
    simp only [fsA, M.bind] at z
    cases e1 : p.1 env with
    | no => rw [e1] at z; exact z
    | ex n env1 => rw [e1] at z; exact z
    | ok d env1 =>
      rw [e1] at z
      intro w1 v A x1 s1 r1 k1
      simp only at z
      cases e3 : fmtD d with
      | none => rw [e3] at z; exact z.elim
      | some y =>
        rw [e3] at z
        simp only at z
        by_cases hl : acc.length + y.length ≤ SZ
        · rw [if_pos hl] at z
          have fin : ∃ y' : Str, V.str y = .str y' ∧ (acc ++ y').length ≤ sizeLine ∧ tJs ts (acc ++ y') σ w1.H Q := by
            refine ⟨y, rfl, by rw [str_len, ← sz_eq]; exact hl, ih (acc ++ y) w1 env1 (x0.trans x1) s1 ?_⟩
            cases e2 : fsA (acc ++ y) ps env1 with
            | no => rw [e2] at z; exact z
            | ex n env2 => rw [e2] at z; exact exK.mono x1 z
            | ok d2 env2 => rw [e2] at z; cases d2 <;> exact z
          cases d with
          | str x =>
            simp only [fmtD] at e3
            split at e3
            · rename_i hx
              cases e3
              exact .inl ⟨y, r1.str, by rw [← sz_eq]; exact hx, fin⟩
            · cases e3
          | int i =>
            simp only [fmtD] at e3
            split at e3
            · rename_i hx
              cases e3
              exact .inr ⟨i, r1.int, hx, fin⟩
            · cases e3
          | _ => cases e3
        · rw [if_neg hl] at z; exact z.elim
theorem fs_str {ps : List (M D × M Bool)} : ∀ {acc : Str} {env : Env} {d : D} {env' : Env}, fsA acc ps env = .ok d env' → ∃ y, d = .str y := by
  induction ps with
  | nil => intro acc env d env' h; cases h; exact ⟨_, rfl⟩
  | cons p ps ih =>
    intro acc env d env' h
    simp only [fsA, M.bind] at h
    cases e1 : p.1 env with
    | no => rw [e1] at h; cases h
    | ex => rw [e1] at h; cases h
    | ok d1 env1 =>
      rw [e1] at h
      simp only at h
      cases e3 : fmtD d1 with
      | none => rw [e3] at h; cases h
      | some x =>
        rw [e3] at h
        simp only at h
        by_cases hl : acc.length + x.length ≤ SZ
        · rw [if_pos hl] at h; exact ih h
        · rw [if_neg hl] at h; cases h
/-- f'..', two parts or more -/
theorem pv_fs {e1 e2 : Expr} {es : List Expr} {ps : List (M D × M Bool)} {ows ows' : Ows} {ts : List TE} {pos : Pos} (h : FsOk X c (e1 :: e2 :: es) ps ows ows' ts) : PE X (.JoinedStr (e1 :: e2 :: es) pos) (tV c (fsM ps) ows ows' (.ow .fr) false) := by
  refine wPE (pe_joined h.pj) fun σ H Q ⟨w, env, hw, sr, z⟩ => ?_
  subst hw
  refine fs_imp h (w0 := w) Str.empty w env Ext.refl sr ?_
  unfold fsM at z
  cases e3 : fsA Str.empty ps env with
  | no => rw [e3] at z; exact z
  | ex n env1 => rw [e3] at z; exact z
  | ok d env1 =>
    rw [e3] at z
    obtain ⟨y, rfl⟩ := fs_str e3
    exact fun w' x s => z w' _ (fun _ => False) x s RO.mkstr Tmp.nil fun h => nomatch h
end
/-! ### checked -/
def vFs : Expr → Option (List Expr)
  | .JoinedStr es _ => some es
  | _ => none
theorem vFs_eq {e : Expr} {r : List Expr} (h : vFs e = some r) : ∃ p, e = .JoinedStr r p := by
  unfold vFs at h
  split at h
  · cases h; exact ⟨_, rfl⟩
  · cases h
/-- a part: what is formatted, or none for a written text -/
def vFmt : Expr → Option Expr
  | .FormattedValue e (-1) none _ => some e
  | _ => none
theorem vFmt_eq {e r : Expr} (h : vFmt e = some r) : ∃ p, e = .FormattedValue r (-1) none p := by
  unfold vFmt at h
  split at h
  · cases h; exact ⟨_, rfl⟩
  · cases h
def isTxt : E → Bool
  | .str _ => true
  | _ => false
def ckFsL : List E → List Ck → List Expr → Ows → Option Ows
  | [], [], [], ows => some ows
  | a :: as, k :: ks, e :: es, ows => match vFmt e with
    | some e' => (match k.r e' ows with
      | some x => ckFsL as ks es x.1
      | none => none)
    | none => if isTxt a = true then (match k.r e ows with
      | some x => ckFsL as ks es x.1
      | none => none) else none
  | _, _, _, _ => none
section
variable {S : Sg} {C : Cs} {X : Cx} {c : Cc}
theorem ckFsL_ok (G : GOk X c C S) : ∀ {as : List E} {ks : List Ck} {es : List Expr} {ows ows' : Ows}, CksOk S C ks (dens C as) → ckFsL as ks es ows = some ows' → ∃ ts, FsOk X c es (dens C as) ows ows' ts
  | [], [], [], ows, ows', _, h => by cases h; exact ⟨_, by simp only [dens]; exact .nil⟩
  | a :: as, k :: ks, e :: es, ows, ows', hk, h => by
    simp only [dens] at hk ⊢
    unfold ckFsL at h
    split at h
    · rename_i e' he
      split at h
      · rename_i x ex
        obtain ⟨ts, i1⟩ := ckFsL_ok G hk.2 h
        obtain ⟨p, rfl⟩ := vFmt_eq he
        exact ⟨_, .fmt ((hk.1 X c G).2.1 _ _ x ex) i1⟩
      · cases h
    · split at h
      · rename_i ht
        split at h
        · rename_i x ex
          obtain ⟨ts, i1⟩ := ckFsL_ok G hk.2 h
          refine ⟨_, .txt ((hk.1 X c G).2.1 _ _ x ex) (fun env d env' hd => ?_) i1⟩
          cases a <;> first | (cases ht; done) | skip
          simp only [den, val, M.ret] at hd
          cases hd
          exact ⟨_, rfl⟩
        · cases h
      · cases h
  | [], _ :: _, _, _, _, hk, _ => by simp only [dens] at hk; exact hk.elim
  | _ :: _, [], _, _, _, hk, _ => by simp only [dens] at hk; exact hk.elim
  | [], [], _ :: _, _, _, _, h => by cases h
  | _ :: _, _ :: _, [], _, _, _, h => by cases h
def ckFs (as : List E) (ks : List Ck) : Ck := mkV fun pe ows => match vFs pe with
  | some (e1 :: e2 :: es) => (match ckFsL as ks (e1 :: e2 :: es) ows with
    | some x => some (x, .ow .fr, false)
    | none => none)
  | _ => none
theorem ckFs_ok {as : List E} {ks : List Ck} (hk : CksOk S C ks (dens C as)) : CkOk S C (ckFs as ks) (val (fsM (dens C as))) := mkV_ok fun X c G pe ows r h => by
  split at h
  · rename_i e1 e2 es he
    split at h
    · rename_i x ex
      cases h
      obtain ⟨pos, rfl⟩ := vFs_eq he
      obtain ⟨ts, i1⟩ := ckFsL_ok G hk ex
      exact pv_fs i1
    · cases h
  · cases h
end
end Mp
/-! Mr8: dicts written; dict comprehensions. -/
namespace Mp
open PySem PySem.Spec PyProof.Rows L2

/-! ### dicts written -/
theorem dPut_new : ∀ {ks vs : List D} {k y : D}, vs.length = ks.length → (∀ j : Nat, ks[j]? ≠ some k) → dPut ks vs k y = (ks ++ [k], vs ++ [y])
  | [], [], k, y, _, _ => rfl
  | [], _ :: _, _, _, h, _ => by simp at h
  | _ :: _, [], _, _, h, _ => by simp at h
  | k0 :: ks, v0 :: vs, k, y, h, n => by
    have e : k0 ≠ k := fun e => n 0 (by simp [e])
    have ih := dPut_new (ks := ks) (vs := vs) (k := k) (y := y) (by simpa using h) fun j e => n (j + 1) (by simpa using e)
    simp [dPut, e, ih]
theorem dk_put {H : Hp} {a : Addr} {ks vs : List D} {xs : List V} {key : Key} (h : DcAt H a false ks xs) (hl : vs.length = ks.length) (y : D) (vy : V) : ∃ kvs, H a = some (.dK kvs) ∧ kvs.length = ks.length ∧ ∀ {H' : Hp}, H' a = some (.dK (putK kvs key vy)) →
    ((∃ j, ks[j]? = some (kD key) ∧ dPut ks vs (kD key) y = (ks, vs.set j y) ∧ DcAt H' a false ks (xs.set j vy)) ∨ ((∀ j : Nat, ks[j]? ≠ some (kD key)) ∧ dPut ks vs (kD key) y = (ks ++ [kD key], vs ++ [y]) ∧ DcAt H' a false (ks ++ [kD key]) (xs ++ [vy]))) := by
  obtain ⟨nd, ⟨_, kvs, e1, e2, e3⟩ | ⟨z, _⟩⟩ := h
  · refine ⟨kvs, e1, by rw [e2, List.length_map], fun {H'} hH => ?_⟩
    by_cases hex : ∃ j : Nat, ks[j]? = some (kD key)
    · obtain ⟨j, hj⟩ := hex
      refine .inl ⟨j, hj, ?_, nd, .inl ⟨rfl, putK kvs key vy, hH, ?_, ?_⟩⟩
      · have hg : ∃ d, dGet ks vs (kD key) = some d := by
          cases e : dGet ks vs (kD key) with
          | none => exact absurd hj (dGet_no hl e j)
          | some d => exact ⟨d, rfl⟩
        obtain ⟨d, hg⟩ := hg
        obtain ⟨j', h1, _, h3⟩ := dGet_at hg
        have : j' = j := nodup_at nd h1 hj
        subst this
        exact h3 y
      · have hany : (kvs.any fun kv => decide (kv.1 = key)) = true := by
          have hj' := hj
          rw [e2, List.getElem?_map] at hj'
          obtain ⟨kv, hkv, hk⟩ := Option.map_eq_some_iff.mp hj'
          exact List.any_eq_true.mpr ⟨kv, List.mem_of_getElem? hkv, by simpa using kD_inj hk⟩
        unfold KeyK putK
        rw [if_pos hany, List.map_map, e2]
        apply List.map_congr_left
        intro kv _
        show kD kv.1 = kD (if kv.1 = key then (kv.1, vy) else kv).1
        split <;> rfl
      · have hj' := hj
        rw [e2, List.getElem?_map] at hj'
        obtain ⟨kv, hkv, hk⟩ := Option.map_eq_some_iff.mp hj'
        have hany : (kvs.any fun kv => decide (kv.1 = key)) = true := List.any_eq_true.mpr ⟨kv, List.mem_of_getElem? hkv, by simpa using kD_inj hk⟩
        unfold putK
        rw [if_pos hany, List.map_map, e3]
        apply List.ext_getElem?
        intro m
        rw [List.getElem?_map, List.getElem?_set]
        by_cases hm : j = m
        · subst hm
          rw [if_pos rfl, hkv]
          have hlt := (List.getElem?_eq_some_iff.mp hkv).1
          rw [if_pos (by rw [List.length_map]; exact hlt)]
          simp [kD_inj hk]
        · rw [if_neg hm, List.getElem?_map]
          cases e : kvs[m]? with
          | none => rfl
          | some kv2 =>
            have hne : kv2.1 ≠ key := fun z => hm (nodup_at nd hj (by rw [e2, List.getElem?_map, e]; simp [z]))
            simp [hne]
    · have hex' : ∀ j : Nat, ks[j]? ≠ some (kD key) := fun j e => hex ⟨j, e⟩
      have hany : (kvs.any fun kv => decide (kv.1 = key)) = false := by
        rw [List.any_eq_false]
        intro kv hkv hd
        obtain ⟨j, hj⟩ := List.getElem?_of_mem hkv
        exact hex' j (by rw [e2, List.getElem?_map, hj]; simp at hd; simp [hd])
      refine .inr ⟨hex', dPut_new hl hex', ?_, .inl ⟨rfl, putK kvs key vy, hH, ?_, ?_⟩⟩
      · rw [List.nodup_append]
        refine ⟨nd, by simp, fun a ha b hb => ?_⟩
        simp only [List.mem_cons, List.not_mem_nil, or_false] at hb
        subst hb
        rintro rfl
        obtain ⟨j, hj⟩ := List.getElem?_of_mem ha
        exact hex' j hj
      · unfold KeyK putK
        rw [hany, if_neg (by simp), e2]
        simp
      · unfold putK
        rw [hany, if_neg (by simp), e3]
        simp
  · cases z
end Mp
/-! Mr9: dict comprehensions. -/
namespace Mp
open PySem PySem.Spec PyProof.Rows L2
section
variable {X : Cx} {c : Cc} {ows ows1 oh ow2 ow3 : Ows} {ok : Ow} {qi qk qv : Bool}
theorem Reps.setR {K : PySem.W.Frag} {H : Hp} {Z : AS} {vs : List D} {xs : List V} {j : Nat} {y : D} {v : V} (r : Reps K H Z vs xs) (ry : Rep K H Z y v) : Reps K H Z (vs.set j y) (xs.set j v) := Reps.of (by rw [List.length_set, List.length_set, r.len]) fun k d x e1 e2 => by
  rw [List.getElem?_set] at e1 e2
  by_cases h : j = k
  · rw [if_pos h] at e1 e2
    split at e1
    · split at e2
      · cases e1; cases e2; exact ry
      · cases e2
    · cases e1
  · rw [if_neg h] at e1 e2
    obtain ⟨x', e3, r3⟩ := r.get e1
    rw [e3] at e2; cases e2
    exact r3
theorem Reps.snocR {K : PySem.W.Frag} {H : Hp} {Z : AS} : ∀ {vs : List D} {xs : List V} {y : D} {v : V}, Reps K H Z vs xs → Rep K H Z y v → Reps K H Z (vs ++ [y]) (xs ++ [v])
  | [], xs, y, v, r, ry => by
    have : xs = [] := by unfold Reps at r; exact r
    subst this
    show Reps K H Z [y] [v]
    unfold Reps
    exact ⟨v, [], rfl, ry, by unfold Reps; rfl⟩
  | d :: ds, xs, y, v, r, ry => by
    unfold Reps at r
    obtain ⟨x, r', rfl, r1, r2⟩ := r
    show Reps K H Z (d :: (ds ++ [y])) (x :: (r' ++ [v]))
    unfold Reps
    exact ⟨x, r' ++ [v], rfl, r1, Reps.snocR r2 ry⟩
theorem dc_imp {t : T} {fi : M (List D)} {fk fv : M D} (hpk : Pure fk) (hpv : Pure fv) (hp : ∀ i, i ∈ t.slots → c.pn i = none) (h0 : weakB 0 ows1 oh = true) (h3 : weakB 0 ow3 oh = true) :
    ∀ σ H Q, tV c (dcF fk fv t fi) ows oh (.ow .fr) false σ H Q → tDc (tI c fi ows ows1 qi) (tgT c.blk t oh) (fun σ H Q => Q true H) (tR c.blk fk (frs oh t.slots) ow2 ok qk) (tV c.blk fv ow2 ow3 .fr qv) t.slots σ H Q := by
  intro σ H Q ⟨w, env, hw, sr, z⟩
  refine ⟨w, env, hw, sr, ?_⟩
  unfold dcF M.bind at z
  cases e1 : fi env with
  | no => rw [e1] at z; exact z.elim
  | ex n env1 => rw [e1] at z; exact z
  | ok ds env1 =>
    rw [e1] at z
    intro w1 J x1 s1 src k1 D hD
    simp only at z
    cases e2 : dcL fk fv t (wipeE env1 t.slots) ds (.dct false [] []) with
    | none => rw [e2] at z; exact z.elim
    | some res =>
      rw [e2] at z
      simp only at z
      obtain ⟨w2, x2, eh, s2⟩ := s1.weak h0
      have s3 := s2.outs t.slots
      have x3 : Ext w1 (w2.outs t.slots) := x2.trans (Ext.outs _ _)
      have h3H : (w2.outs t.slots).H = w1.H := by rw [outs_H, eh]
      generalize hw3 : w2.outs t.slots = w3 at s3 x3 h3H
      have hD3 : w3.H D = none := by rw [h3H]; exact hD
      have al := Alloc.new (o := .dK []) hD3
      refine ⟨fun i m H => m = ds.length - i ∧ i ≤ ds.length ∧ ∃ w' ks vs xs, w'.H = H ∧ Ext w3 w' ∧ SR c.K c.pn oh (wipeE env1 t.slots) σ w' ∧ DcAt w'.H D false ks xs ∧ Reps c.K w'.H w'.Z vs xs ∧ vs.length = ks.length ∧ Tmp w3 w' (fun a => a = D) ∧
        dcL fk fv t (wipeE env1 t.slots) (ds.drop i) (.dct false ks vs) = some res, ⟨ds.length, by simp, Nat.zero_le _, w3.upd D (.dK []), [], [], [], by rw [← h3H]; rfl, al.ext, al.sr s3, ⟨.nil, .inl ⟨rfl, [], upd_same, rfl, rfl⟩⟩, by unfold Reps; rfl, rfl, al.tmp s3, by rw [List.drop_zero]; exact e2⟩, ?_⟩
      rintro i m H' ⟨rfl, hi, w4, ks, vs, xs, rfl, x4, s4, hDc, hR, hvl, tm, hrest⟩
      obtain ⟨sg, ss⟩ := src w4 oh _ σ (x3.trans x4) s4 i
      by_cases hlt : i < ds.length
      · have hd : ds[i]? = some ds[i] := List.getElem?_eq_getElem hlt
        obtain ⟨g1, g2⟩ := sg _ hd
        refine .inr ⟨g1, fun H' => ∃ w' ks vs xs, w'.H = H' ∧ Ext w3 w' ∧ SR c.K c.pn oh (wipeE env1 t.slots) σ w' ∧ DcAt w'.H D false ks xs ∧ Reps c.K w'.H w'.Z vs xs ∧ vs.length = ks.length ∧ Tmp w3 w' (fun a => a = D) ∧
          dcL fk fv t (wipeE env1 t.slots) (ds.drop (i + 1)) (.dct false ks vs) = some res, fun H' hh => ⟨ds.length - (i + 1), by omega, rfl, hlt, hh⟩, fun x H' y => ?_⟩
        obtain ⟨w5, rfl, al5, rp⟩ := g2 x H' y
        rw [List.drop_eq_getElem_cons hlt] at hrest
        have s5 := (al5.sr s4).wiped hp
        have x45 := al5.ext
        simp only [dcL] at hrest
        cases ea : asg t ds[i] (wipeE env1 t.slots) with
        | none => rw [ea] at hrest; cases hrest
        | some env5 =>
          rw [ea] at hrest
          simp only at hrest
          refine ⟨w5, _, ds[i], rfl, s5, rp, ?_⟩
          rw [ea]
          intro w6 σ6 x6 s6 sm6 h6
          have hw6 : wipe σ6 t.slots = wipe σ t.slots := wipe_same sm6
          refine ⟨hw6, ?_⟩
          dsimp only
          rw [if_pos rfl]
          refine ⟨w6, env5, rfl, s6, ?_⟩
          have he5 : ∀ j d, getS (wipeE env1 t.slots) j = some d → getS env5 j = some d := fun j d h => by rw [asg_ne ea j (getS_wipe h).1]; exact h
          have x46 := x45.trans x6
          obtain ⟨nd, hDd⟩ := hDc
          obtain ⟨kvs0, d1, d2, d3⟩ : ∃ kvs, w4.H D = some (.dK kvs) ∧ KeyK ks kvs ∧ xs = kvs.map (·.2) := by
            rcases hDd with ⟨_, kvs, g⟩ | ⟨zf, _⟩
            · exact ⟨kvs, g⟩
            · cases zf
          have hDc : DcAt w4.H D false ks xs := ⟨nd, .inl ⟨rfl, kvs0, d1, d2, d3⟩⟩
          have stay : ∀ {w7 : Wd}, Ext w4 w7 → ∀ a q, w4.H a = some q → (w4.Z a ∨ a = D ∨ mutO q = false) → w7.H a = some q := fun {w7} x a q e zz => x.fr a q e fun j hj => by
            rcases zz with zz | zz | zz
            · exact s4.zf j a hj zz
            · exact tm.f a j zz hj
            · obtain ⟨q', e', m⟩ := s4.fm j a hj
              rw [e] at e'; cases e'; rw [zz] at m; cases m
          have tmx : ∀ {w7 : Wd}, Ext w4 w7 → Tmp w3 w7 (fun a => a = D) := fun {w7} x => Tmp.ext s4 tm (fun a h => by rw [show a = D from h, d1]; simp) x4 x
          cases e6 : fk env5 with
          | no => rw [e6] at hrest; cases hrest
          | ex n e7 => rw [e6] at hrest; cases hrest
          | ok kd env6 =>
            have := hpk _ _ _ e6
            subst this
            rw [e6] at hrest
            simp only at hrest
            intro w7 vk Ak x7 s7 r7 k7
            have x47 := x46.trans x7
            refine ⟨w7, env6, rfl, s7, ?_⟩
            cases e7 : fv env6 with
            | no => rw [e7] at hrest; cases hrest
            | ex n e8 => rw [e7] at hrest; cases hrest
            | ok y env7 =>
              have := hpv _ _ _ e7
              subst this
              rw [e7] at hrest
              simp only at hrest
              intro w8 v A8 x8 s8 r8 t8 k8
              have x48 := x47.trans x8
              simp only [putI] at hrest
              split at hrest
              · rename_i acc' hput
                split at hput
                · rename_i hkk
                  cases hput
                  simp only [Bool.and_eq_true, decide_eq_true_eq] at hkk
                  obtain ⟨key, rfl, hv⟩ := kd_of hkk.1
                  have ev := hv _ _ _ _ _ _ r7
                  subst ev
                  have hD8 : w8.H D = some (.dK kvs0) := stay x48 D _ d1 (.inr (.inl rfl))
                  obtain ⟨w9, x9, eh9, s9⟩ := s8.weak h3
                  have x49 : Ext w4 (w9.outs t.slots) := (x48.trans x9).trans (Ext.outs _ _)
                  have s10 := s4.unblk s9 hp hw6 he5
                  have tm10 := tmx x49
                  have hH10 : (w9.outs t.slots).H = w8.H := by rw [outs_H, eh9]
                  have x89 : Ext w8 (w9.outs t.slots) := x9.trans (Ext.outs _ _)
                  have r10 : RO c.K (w9.outs t.slots).H (w9.outs t.slots).Z .fr y v A8 := RO.ext s8 t8.f x89 r8
                  generalize hw10 : w9.outs t.slots = w10 at s10 x49 tm10 hH10 r10 x89
                  have hD10 : w10.H D = some (.dK kvs0) := by rw [hH10]; exact hD8
                  have hDc10 : DcAt w10.H D false ks xs := ⟨nd, .inl ⟨rfl, kvs0, hD10, d2, d3⟩⟩
                  have hR10 : Reps c.K w10.H w10.Z vs xs := hR.mono (fun a z => x49.z a z) fun a q e zz => stay x49 a q e (zz.elim .inl fun z => .inr (.inr z))
                  have hzD : ¬ w10.Z D := tm10.z D rfl
                  have hfD : ∀ j, ¬ w10.F j D := fun j => tm10.f D j rfl
                  obtain ⟨kvs, p1, p2, p3⟩ := dk_put (key := key) hDc10 hvl y v
                  rw [hD10] at p1
                  cases p1
                  refine ⟨kvs0, key, rfl, hD8, by rw [p2, ← sz_eq]; exact hkk.2, ?_⟩
                  have s11 := s10.updT (o' := .dK (putK kvs0 key v)) hzD hfD hD10 rfl
                  have kD : ∀ a q, w10.H a = some q → (w10.Z a ∨ mutO q = false) → (w10.upd D (.dK (putK kvs0 key v))).H a = some q := fun a q e zz => by
                    show L2.upd w10.H D _ a = _
                    rw [upd_ne]
                    · exact e
                    · rintro rfl
                      rcases zz with zz | zz
                      · exact hzD zz
                      · rw [hD10] at e; cases e; cases zz
                  have hR11 := hR10.mono (Z' := w10.Z) (fun _ z => z) kD
                  have r11 := r10.1.mono (Z' := w10.Z) (fun _ z => z) kD
                  have tm11 : Tmp w3 (w10.upd D (.dK (putK kvs0 key v))) (fun a => a = D) := ⟨fun a h => tm10.z a h, fun a j h => tm10.f a j h, fun a h => tm10.nw a h⟩
                  have x11 : Ext w3 (w10.upd D (.dK (putK kvs0 key v))) := (x4.trans x49).updT hD3
                  rcases p3 (H' := (w10.upd D (.dK (putK kvs0 key v))).H) upd_same with ⟨j, hj, hdp, hdc⟩ | ⟨hj, hdp, hdc⟩
                  · rw [hdp] at hrest
                    exact ⟨w10.upd D (.dK (putK kvs0 key v)), ks, vs.set j y, xs.set j v, by rw [← hH10]; rfl, x11, s11, hdc, hR11.setR r11, by rw [List.length_set]; exact hvl, tm11, hrest⟩
                  · rw [hdp] at hrest
                    exact ⟨w10.upd D (.dK (putK kvs0 key v)), ks ++ [Mp.kD key], vs ++ [y], xs ++ [v], by rw [← hH10]; rfl, x11, s11, hdc, hR11.snocR r11, by simp [hvl], tm11, hrest⟩
                · cases hput
              · cases hrest
      · have e : i = ds.length := by omega
        subst e
        rw [List.drop_length] at hrest
        cases hrest
        exact .inl ⟨ss (Nat.le_refl _), z w4 (.ref D) (fun a => a = D) ((x1.trans x3).trans x4) s4 ⟨D, xs, fun _ => False, fun _ _ => False, rfl, hDc, Items.frs hR, fun z => z, fun b => ⟨.inl, fun z => z.elim id False.elim⟩⟩ (tm.pre (x1.trans x3)) fun hq => nomatch hq⟩
end
/-- name = {..} on one line, the name a local -/
theorem ps_setDc {X : Cx} {i : Nat} {y : Str} {py : Pos} {kx vx tg iter : Expr} {ifs : List Expr} {scope : Scope} {own : List (Str × Nat)} {pos spos : Pos} {wi : TI} {g : TG} {tt : TT} {tk tv : TE} (hc : X.calm = true) (hN : X.N.Nodup) (hy : X.N[i]? = some y) (hyl : X.env.scope.names.lookup y = some .local)
    (hsw : swapsWith (.DictComp kx vx [⟨tg, iter, ifs, 0⟩] scope pos) (some (.Name y py)) spos.line X.env = pure true) (hi : PI X tg iter wi) (ok : BlkOk X.N X.env.scope scope own)
    (hg : ∀ (s : Shared) (H : Hp) (C : Addr) (cl : List (Str × Addr)) (fp : List Addr), PG (X.blk s H scope (compEnvC scope cl C X.env) fp) tg g) (ht : ∀ (s : Shared) (H : Hp) (C : Addr) (cl : List (Str × Addr)) (fp : List Addr), PTs (X.blk s H scope (compEnvC scope cl C X.env) fp) ifs tt)
    (hk : ∀ (s : Shared) (H : Hp) (C : Addr) (cl : List (Str × Addr)) (fp : List Addr), PE (X.blk s H scope (compEnvC scope cl C X.env) fp) kx tk)
    (he : ∀ (s : Shared) (H : Hp) (C : Addr) (cl : List (Str × Addr)) (fp : List Addr), PE (X.blk s H scope (compEnvC scope cl C X.env) fp) vx tv) (hs : ∀ x, foldedSetIterable iter X.env x = pure x := by intro _; rfl) :
    PS X (.Assign [.Name y py] (.DictComp kx vx [⟨tg, iter, ifs, 0⟩] scope pos) spos) (tAsg (tDc wi g tt tk tv (own.map (·.2))) (gName i)) := by
  refine ⟨fun pins s σ H D I h => ?_⟩
  rw [exec_Assign_Name_used _ _ _ _ hsw]
  refine wpAny_bind (wpAny_standAt (wpAny_bind ?_))
  show wpAny _ X.A (do let _ ← comprehension (.DictComp kx vx [⟨tg, iter, ifs, 0⟩] scope pos) scope X.env (firstIterPos [⟨tg, iter, ifs, 0⟩] pos) newDict false (eval iter X.env) (some (assign (.Name y py) X.env))) _ _ s
  have h : tDc wi g tt tk tv (own.map (·.2)) σ H (fun x H1 => gName i x σ H1 D.nx) := h
  refine wpAny_bind (thn (dc_core (Qf := fun _ s' => SP X pins D .next s') hc hN I hi ok hg ht hk he hs h fun L C s' m H' I' q hn f => ?_) fun _ s' hq => wpAny_pure (wpAny_pure hq))
  show wpAny _ _ (assign (.Name y py) X.env (.ref L)) _ _ _
  refine wpAny_assign_Name (store_ok2 (v := V.ref L) I' hN hy (.inl hyl) rfl (fun s2 I2 ⟨a, sb, ha⟩ => ?_) (.inr hyl))
  obtain ⟨f0, f1, f2, f3, f4, f5⟩ := f
  have haC : C ≠ a := by
    rcases ha with z | z
    · rw [z]; exact f1
    · exact fun e => f4 y a z e.symm
  refine ⟨m, hn.sameBut sb haC, fun h3 sb3 => ?_⟩
  exact ⟨_, H', I2.turned (t' := s2.toks) (fun b o hb e => (sb3.2 b hb).trans e) f0 f1 f3 f4 f5, q⟩
theorem sw_trueD {kx vx : Expr} {gs : List Comprehension} {scope : Scope} {pos py : Pos} {y : Str} {l : Nat} {env : PySem.Env} (hk : env.scope.kind = .function) (hy : env.scope.names.lookup y = some .local) (hl : (py.line == pos.line) = true)
    (ha : (scope.names.any fun (n, k) => n == y && (k == .local || k == .cell)) = false) : swapsWith (.DictComp kx vx gs scope pos) (some (.Name y py)) l env = pure true := by
  have ky : env.kindOf y = some .local := hy
  have hb : env.blockKind = .function := by unfold PySem.Env.blockKind; rw [hk]; rfl
  unfold swapsWith
  simp only [hb, ky, ha, Expr.pos, hl]
  rfl
/-! ### checked -/
def vDc : Expr → Option (Expr × Expr × Expr × Expr × Scope)
  | .DictComp kx vx [⟨tg, iter, [], 0⟩] sc _ => some (kx, vx, tg, iter, sc)
  | _ => none
theorem vDc_eq {e : Expr} {r : Expr × Expr × Expr × Expr × Scope} (h : vDc e = some r) : ∃ p, e = .DictComp r.1 r.2.1 [⟨r.2.2.1, r.2.2.2.1, [], 0⟩] r.2.2.2.2 p := by
  unfold vDc at h
  split at h
  · cases h; exact ⟨_, rfl⟩
  · cases h
def fixD (f : Ows → Option Ows) : Nat → Ows → Option Ows
  | 0, _ => none
  | n + 1, h => match f h with
    | some r => if weakB 0 r h = true then some h else fixD f n (joinO h r)
    | none => none
theorem fixD_ok {f : Ows → Option Ows} : ∀ {n : Nat} {h r : Ows}, fixD f n h = some r → ∃ x, f r = some x ∧ weakB 0 x r = true
  | 0, _, _, e => by cases e
  | n + 1, h, r, e => by
    unfold fixD at e
    split at e
    · rename_i x ex
      split at e
      · rename_i hw
        cases e
        exact ⟨x, ex, hw⟩
      · exact fixD_ok e
    · cases e
def dcTurn (kk kv : Ck) (kx vx : Expr) (ows : Ows) : Option Ows := match kk.r kx ows with
  | some a => (match kv.v vx a.1 with
    | some b => some b.1
    | none => none)
  | none => none
def dcX (S : Sg) (t : T) (k : IK) (ks : List Ck) (fk fv : Sg → Ck) (pu : Bool) (pe : Expr) (ows : Ows) : Option (Ows × Ow × Bool) := match vDc pe with
  | some e => if (pu && (S.calm && (noSet' e.2.2.2.1 && (L2.blkC S.N S.sc e.2.2.2.2 (ownOf S.N t.slots) && (tgOk S.N (S.blk e.2.2.2.2).loc (fun i => S.pins.contains i) t e.2.2.1 && t.slots.all fun i => !S.pins.contains i))))) = true then
      (match ckI S k ks e.2.2.1 e.2.2.2.1 ows with
      | some i1 => (match fixD (fun h => dcTurn (fk (S.blk e.2.2.2.2)) (fv (S.blk e.2.2.2.2)) e.1 e.2.1 (frs h t.slots)) 8 i1.1 with
        | some r => if weakB 0 i1.1 r = true then some (r, .ow .fr, false) else none
        | none => none)
      | none => none) else none
  | none => none
def ckDc (S : Sg) (t : T) (k : IK) (ks : List Ck) (fk fv : Sg → Ck) (pu : Bool) : Ck := mkV (dcX S t k ks fk fv pu)
section
variable {S : Sg} {C : Cs} {X : Cx} {c : Cc}
theorem dcX_ok {t : T} {k : IK} {ks : List Ck} {ps : List (M D × M Bool)} {fk fv : Sg → Ck} {pk pv : M D × M Bool} {pu : Bool} {pe : Expr} {ows : Ows} {r : Ows × Ow × Bool} (G : GOk X c C S) (hs : CksOk S C ks ps) (hk : ∀ S', CkOk S' C (fk S') pk) (hv : ∀ S', CkOk S' C (fv S') pv) (hpu : pu = true → Pure pk.1 ∧ Pure pv.1)
    (h : dcX S t k ks fk fv pu pe ows = some r) : ∃ kx vx tg iter sc pos te, pe = .DictComp kx vx [⟨tg, iter, [], 0⟩] sc pos ∧ PE X pe te ∧
      (∀ i y py spos, X.N[i]? = some y → X.env.scope.names.lookup y = some .local → swapsWith pe (some (.Name y py)) spos.line X.env = pure true → PS X (.Assign [.Name y py] pe spos) (tAsg te (gName i))) ∧
      ∀ σ H Q, tV c (dcF pk.1 pv.1 t (M.bind (evs ps) fun as => M.opt (itF k as))) ows r.1 r.2.1 r.2.2 σ H Q → te σ H Q := by
  unfold dcX at h
  split at h
  · rename_i e hvv
    split at h
    · rename_i hn
      split at h
      · rename_i i1 ei
        split at h
        · rename_i rr er
          split at h
          · rename_i hw
            cases h
            simp only [Bool.and_eq_true, List.all_eq_true, Bool.not_eq_true'] at hn
            obtain ⟨n1, n2, n3, n4, n5, n6⟩ := hn
            obtain ⟨pos, rfl⟩ := vDc_eq hvv
            obtain ⟨x, f1, f2⟩ := fixD_ok er
            unfold dcTurn at f1
            split at f1
            · rename_i a ea
              split at f1
              · rename_i b eb
                cases f1
                obtain ⟨pu1, pu2⟩ := hpu n1
                have hkd : e.2.2.2.2.kind = .function := (blkOk_by n4).kind
                have hp : ∀ i, i ∈ t.slots → c.pn i = none := fun i hi => G.pn i (by simpa using n6 i hi)
                have bl : BlkOk X.N X.env.scope e.2.2.2.2 (ownOf S.N t.slots) := by rw [G.N, G.sc]; exact blkOk_by n4
                have hg : ∀ (s : Shared) (H : Hp) (C' : Addr) (cl : List (Str × Addr)) (fp : List Addr), PG (X.blk s H e.2.2.2.2 (compEnvC e.2.2.2.2 cl C' X.env) fp) e.2.2.1 (tgT c.blk t rr) := fun s H C' cl fp => by
                  have GB := G.blk hkd (s := s) (H := H) (a := C') (cl := cl) (fp := fp)
                  exact pg_tg (pn := fun i => S.pins.contains i) GB.loc (G.calm n2) G.K G.nd (fun i h => G.pn i (by simpa using h)) (by rw [GB.N]; exact n5)
                have g2 := fun (s : Shared) (H : Hp) (C' : Addr) (cl : List (Str × Addr)) (fp : List Addr) => ((hk (S.blk e.2.2.2.2)) _ _ (G.blk hkd (s := s) (H := H) (a := C') (cl := cl) (fp := fp))).2.1 _ _ a ea
                have g3 := fun (s : Shared) (H : Hp) (C' : Addr) (cl : List (Str × Addr)) (fp : List Addr) => keep_fr (((hv (S.blk e.2.2.2.2)) _ _ (G.blk hkd (s := s) (H := H) (a := C') (cl := cl) (fp := fp))).1 _ _ b eb)
                refine ⟨_, _, _, _, _, _, _, rfl, pe_dc (G.calm n2) G.nd (ckI_ok G hs ei) bl hg (fun s H C' cl fp => pts_nil) g2 g3 (folded_no n3), fun i y py spos h1 h2 h3 => ps_setDc (G.calm n2) G.nd h1 h2 h3 (ckI_ok G hs ei) bl hg (fun s H C' cl fp => pts_nil) g2 g3 (folded_no n3), ?_⟩
                rw [own_snd]
                exact dc_imp pu1 pu2 hp hw f2
              · cases f1
            · cases f1
          · cases h
        · cases h
      · cases h
    · cases h
  · cases h
theorem ckDc_ok {t : T} {k : IK} {ks : List Ck} {ps : List (M D × M Bool)} {fk fv : Sg → Ck} {pk pv : M D × M Bool} {pu : Bool} (hs : CksOk S C ks ps) (hk : ∀ S', CkOk S' C (fk S') pk) (hv : ∀ S', CkOk S' C (fv S') pv) (hpu : pu = true → Pure pk.1 ∧ Pure pv.1) :
    CkOk S C (ckDc S t k ks fk fv pu) (val (dcF pk.1 pv.1 t (M.bind (evs ps) fun as => M.opt (itF k as)))) := mkV_ok fun X c G pe ows r h => by
  obtain ⟨kx, vx, tg, iter, sc, pos, te, e, g1, _, g2⟩ := dcX_ok G hs hk hv hpu h
  exact wPE g1 g2
end
end Mp
/-! Mp16: the checker, construct by construct. -/
namespace Mp
open PySem PySem.Spec PyProof.Rows L2

theorem noDbg1 {x : Str} (h : noDbg x = true) : (x == ("__debug__" : Str)) = false := by
  unfold noDbg at h
  simp only [Bool.and_eq_true, Bool.not_eq_true'] at h
  exact h.1
theorem noDbg2 {x : Str} (h : noDbg x = true) : (x == ("__classdict__" : Str)) = false := by
  unfold noDbg at h
  simp only [Bool.and_eq_true, Bool.not_eq_true'] at h
  exact h.2
def nmOk (S : Sg) (i : Nat) (pe : Expr) : Bool := match vName pe with
  | some x => decide (S.N[i]? = some x) && (S.vis x && noDbg x)
  | none => false
def noCk : Ck := ⟨fun _ _ => none, fun _ _ => none, fun _ _ => none⟩
theorem noCk_ok {S : Sg} {C : Cs} {p : M D × M Bool} : CkOk S C noCk p := fun _ _ _ => ⟨fun _ _ _ h => (nomatch h), fun _ _ _ h => (nomatch h), fun _ _ _ h => (nomatch h)⟩
section
variable {S : Sg} {C : Cs} {X : Cx} {c : Cc}
theorem nmOk_eq (G : GOk X c C S) {i : Nat} {pe : Expr} (h : nmOk S i pe = true) : ∃ x p, pe = .Name x p ∧ X.N[i]? = some x ∧ Vis X.env.scope x ∧ (x == ("__debug__" : Str)) = false ∧ (x == ("__classdict__" : Str)) = false := by
  unfold nmOk at h
  split at h
  · rename_i x e
    obtain ⟨p, rfl⟩ := vName_eq e
    simp only [Bool.and_eq_true, decide_eq_true_eq] at h
    exact ⟨x, p, rfl, by rw [G.N]; exact h.1, G.vis h.2.1, noDbg1 h.2.2, noDbg2 h.2.2⟩
  · cases h
def ckVar (S : Sg) (i : Nat) : Ck := ⟨fun pe ows => if nmOk S i pe = true then some (ows.set i .fr, .fr, true) else none, fun pe ows => if nmOk S i pe = true then some (ows, owAt ows i, true) else none, mkT fun pe ows => if nmOk S i pe = true then some (ows, owAt ows i, true) else none⟩
theorem ckVar_ok {i : Nat} : CkOk S C (ckVar S i) (val (varM i)) := fun X c G => by
  have hr : ∀ pe ows r, (ckVar S i).r pe ows = some r → PE X pe (tR c (varM i) ows r.1 r.2.1 r.2.2) := fun pe ows r h => by
    simp only [ckVar] at h
    split at h
    · rename_i hn
      cases h
      obtain ⟨x, p, rfl, h1, h2, h3, h4⟩ := nmOk_eq G hn
      exact pr_var h1 h2 h3 h4
    · cases h
  refine ⟨fun pe ows r h => ?_, hr, mkT_ok G hr⟩
  simp only [ckVar] at h
  split at h
  · rename_i hn
    cases h
    obtain ⟨x, p, rfl, h1, h2, h3, h4⟩ := nmOk_eq G hn
    exact pv_var h1 h2 h3 h4
  · cases h
def ckMv (S : Sg) (i : Nat) : Ck := mkV fun pe ows => if nmOk S i pe = true then some (ows.set i .fr, owAt ows i, true) else none
theorem ckMv_ok {i : Nat} : CkOk S C (ckMv S i) (val (mvM i)) := mkV_ok fun X c G pe ows r h => by
  split at h
  · rename_i hn
    cases h
    obtain ⟨x, p, rfl, h1, h2, h3, h4⟩ := nmOk_eq G hn
    exact pv_mv h1 h2 h3 h4
  · cases h
def ckK (k : Const) : Ck := mkV fun pe ows => if decide (vConst pe = some k) = true then some (ows, .ow .fr, true) else none
theorem ckInt_ok {i : Int} : CkOk S C (ckK (.int i)) (val (M.ret (.int i))) := mkV_ok fun X c G pe ows r h => by
  split at h
  · rename_i hn
    cases h
    obtain ⟨j, p, rfl⟩ := vConst_eq (of_decide_eq_true hn)
    exact pv_int
  · cases h
theorem ckStr_ok {i : Str} : CkOk S C (ckK (.str i)) (val (M.ret (.str i))) := mkV_ok fun X c G pe ows r h => by
  split at h
  · rename_i hn
    cases h
    obtain ⟨j, p, rfl⟩ := vConst_eq (of_decide_eq_true hn)
    exact pv_str
  · cases h
theorem ckBl_ok {i : Bool} : CkOk S C (ckK (.bool i)) (val (M.ret (.bl i))) := mkV_ok fun X c G pe ows r h => by
  split at h
  · rename_i hn
    cases h
    obtain ⟨j, p, rfl⟩ := vConst_eq (of_decide_eq_true hn)
    exact pv_bl
  · cases h
theorem ckNon_ok : CkOk S C (ckK .none) (val (M.ret .non)) := mkV_ok fun X c G pe ows r h => by
  split at h
  · rename_i hn
    cases h
    obtain ⟨j, p, rfl⟩ := vConst_eq (of_decide_eq_true hn)
    exact pv_non
  · cases h
def ckG (S : Sg) (x : Str) : Ck := mkV fun pe ows => if (decide (vName pe = some x) && (S.gl x && (S.glo x && noDbg x))) = true then some (ows, .fr, true) else none
theorem ckG_ok {x : Str} : CkOk S C (ckG S x) (val (M.opt (C.gl x))) := mkV_ok fun X c G pe ows r h => by
  split at h
  · rename_i hn
    cases h
    simp only [Bool.and_eq_true, decide_eq_true_eq] at hn
    obtain ⟨p, rfl⟩ := vName_eq hn.1
    obtain ⟨d, v, u, h1, h2, h3, h4⟩ := G.gl x hn.2.1
    exact pv_glob (G.glo hn.2.2.1) h1 h2 h3 h4 (noDbg1 hn.2.2.2)
  · cases h
def ckBin (k : BO) (a b : Ck) : Ck := mkV fun pe ows => match vBin pe with
  | some e => if decide (e.2.1 = opB k) = true then (match a.r e.1 ows with
    | some x => (match b.r e.2.2 x.1 with
      | some y => if (y.2.2 && (shal x.2.1 && shal y.2.1)) = true then some (y.1, .ow .fr, x.2.2) else none
      | none => none)
    | none => none) else none
  | none => none
theorem ckBin_ok {k : BO} {a b : Ck} {p q : M D × M Bool} (ha : CkOk S C a p) (hb : CkOk S C b q) : CkOk S C (ckBin k a b) (val (op2 (binD k) p.1 q.1)) := mkV_ok fun X c G pe ows r h => by
  split at h
  · rename_i e he
    split at h
    · rename_i hk
      split at h
      · rename_i x ex
        split at h
        · rename_i y ey
          split at h
          · rename_i hs
            cases h
            simp only [Bool.and_eq_true] at hs
            obtain ⟨pos, rfl⟩ := vBin_eq he
            rw [of_decide_eq_true hk]
            have h2 := (hb X c G).2.1 _ _ y ey
            rw [hs.1] at h2
            exact pv_bin G.K ((ha X c G).2.1 _ _ x ex) h2 hs.2.1 hs.2.2
          · cases h
        · cases h
      · cases h
    · cases h
  · cases h
def ckNeg (a : Ck) : Ck := mkV fun pe ows => match vUn pe with
  | some e => if decide (e.1 = .USub) = true then (match a.r e.2 ows with
    | some x => some (x.1, .ow .fr, x.2.2)
    | none => none) else none
  | none => none
theorem ckNeg_ok {a : Ck} {p : M D × M Bool} (ha : CkOk S C a p) : CkOk S C (ckNeg a) (val (op1 negD p.1)) := mkV_ok fun X c G pe ows r h => by
  split at h
  · rename_i e he
    split at h
    · rename_i hk
      split at h
      · rename_i x ex
        cases h
        obtain ⟨pos, rfl⟩ := vUn_eq he
        rw [of_decide_eq_true hk]
        exact pv_neg ((ha X c G).2.1 _ _ x ex)
      · cases h
    · cases h
  · cases h
def vNot (pe : Expr) : Option Expr := match vUn pe with
  | some e => if decide (e.1 = .Not) = true then some e.2 else none
  | none => none
theorem vNot_eq {pe e : Expr} (h : vNot pe = some e) : ∃ p, pe = .UnaryOp .Not e p := by
  unfold vNot at h
  split at h
  · rename_i r he
    split at h
    · rename_i hk
      cases h
      obtain ⟨pos, rfl⟩ := vUn_eq he
      rw [of_decide_eq_true hk]
      exact ⟨_, rfl⟩
    · cases h
  · cases h
def ckNotV (a : Ck) : Expr → Ows → VR := fun pe ows => match vNot pe with
  | some e => (match a.r e ows with
    | some x => some (x.1, .ow .fr, x.2.2)
    | none => none)
  | none => none
def ckNot (a : Ck) : Ck := ⟨ckNotV a, ckNotV a, fun pe ows => match vNot pe with
  | some e => a.t e ows
  | none => none⟩
theorem ckNot_ok {a : Ck} {p : M D × M Bool} (ha : CkOk S C a (p.1, p.2)) : CkOk S C (ckNot a) (notT p) := fun X c G => by
  have hv : ∀ pe ows r, ckNotV a pe ows = some r → PE X pe (tV c (notT p).1 ows r.1 r.2.1 r.2.2) := fun pe ows r h => by
    unfold ckNotV at h
    split at h
    · rename_i e he
      split at h
      · rename_i x ex
        cases h
        obtain ⟨pos, rfl⟩ := vNot_eq he
        exact pv_notM ((ha X c G).2.1 _ _ x ex) G.K
      · cases h
    · cases h
  refine ⟨hv, fun pe ows r h => look_of (hv pe ows r h), fun pe ows r h => ?_⟩
  simp only [ckNot] at h
  split at h
  · rename_i e he
    obtain ⟨pos, rfl⟩ := vNot_eq he
    exact pt_notM ((ha X c G).2.2 _ _ _ h)
  · cases h
/-- both sides of a comparison -/
def ckCmpX {α : Type} (k : CO) (a b : Ck) (fin : Ows → Bool → α) : Expr → Ows → Option α := fun pe ows => match vCmp pe with
  | some e => if (decide (e.2.1 = opC k) && noSet e.2.2) = true then (match a.r e.1 ows with
    | some x => (match b.r e.2.2 x.1 with
      | some y => if y.2.2 = true then some (fin y.1 x.2.2) else none
      | none => none)
    | none => none) else none
  | none => none
theorem ckCmpX_ok {α : Type} {k : CO} {a b : Ck} {p q : M D × M Bool} {fin : Ows → Bool → α} (ha : CkOk S C a p) (hb : CkOk S C b q) (G : GOk X c C S) {pe : Expr} {ows : Ows} {r : α} (h : ckCmpX k a b fin pe ows = some r) :
    ∃ e1 e2 pos ows1 ows2 oa ob qa, pe = .Compare e1 [opC k] [e2] pos ∧ noSet e2 = true ∧ PE X e1 (tR c p.1 ows ows1 oa qa) ∧ PE X e2 (tR c q.1 ows1 ows2 ob true) ∧ r = fin ows2 qa := by
  unfold ckCmpX at h
  split at h
  · rename_i e he
    split at h
    · rename_i hk
      split at h
      · rename_i x ex
        split at h
        · rename_i y ey
          split at h
          · rename_i hq
            cases h
            simp only [Bool.and_eq_true, decide_eq_true_eq] at hk
            obtain ⟨pos, rfl⟩ := vCmp_eq he
            rw [hk.1]
            have h2 := (hb X c G).2.1 _ _ y ey
            rw [hq] at h2
            exact ⟨_, _, _, _, _, _, _, _, rfl, hk.2, (ha X c G).2.1 _ _ _ ex, h2, rfl⟩
          · cases h
        · cases h
      · cases h
    · cases h
  · cases h
def ckCmp (k : CO) (a b : Ck) : Ck := ⟨ckCmpX k a b fun o q => (o, .ow .fr, q), ckCmpX k a b fun o q => (o, .ow .fr, q), ckCmpX k a b fun o q => (o, q)⟩
theorem ckCmp_ok {k : CO} {a b : Ck} {p q : M D × M Bool} (ha : CkOk S C a p) (hb : CkOk S C b q) : CkOk S C (ckCmp k a b) (val (op2 (fun x y => (cmpD k x y).map .bl) p.1 q.1)) := fun X c G => by
  have hv : ∀ pe ows r, (ckCmp k a b).v pe ows = some r → PE X pe (tV c (op2 (cmpM k) p.1 q.1) ows r.1 r.2.1 r.2.2) := fun pe ows r h => by
    obtain ⟨e1, e2, pos, ows1, ows2, oa, ob, qa, rfl, h1, h2, h3, rfl⟩ := ckCmpX_ok ha hb G (show ckCmpX k a b (fun o q => (o, Ow.ow Ow.fr, q)) pe ows = some r from h)
    exact pv_cmp G.K G.hu h2 h3 h1
  refine ⟨hv, fun pe ows r h => look_of (hv pe ows r h), fun pe ows r h => ?_⟩
  obtain ⟨e1, e2, pos, ows1, ows2, oa, ob, qa, rfl, h1, h2, h3, rfl⟩ := ckCmpX_ok ha hb G (show ckCmpX k a b (fun o q => (o, q)) pe ows = some r from h)
  exact pt_cmp' G.K G.hu h2 h3 h1
def ckChX {α : Type} (k l : CO) (a b d : Ck) (fin : Ows → Bool → α) : Expr → Ows → Option α := fun pe ows => match vCh pe with
  | some e => if (decide (e.2.1 = opC k) && (decide (e.2.2.1 = opC l) && noSet e.2.2.2.2)) = true then (match a.r e.1 ows with
    | some x => (match b.r e.2.2.2.1 x.1 with
      | some y => (match d.r e.2.2.2.2 y.1 with
        | some z => if (y.2.2 && (z.2.2 && decide (z.1 = y.1))) = true then some (fin y.1 x.2.2) else none
        | none => none)
      | none => none)
    | none => none) else none
  | none => none
theorem ckChX_ok {α : Type} {k l : CO} {a b d : Ck} {p q s : M D × M Bool} {fin : Ows → Bool → α} (ha : CkOk S C a p) (hb : CkOk S C b q) (hd : CkOk S C d s) (G : GOk X c C S) {pe : Expr} {ows : Ows} {r : α} (h : ckChX k l a b d fin pe ows = some r) :
    ∃ e1 e2 e3 pos ows1 ows2 oa ob od qa, pe = .Compare e1 [opC k, opC l] [e2, e3] pos ∧ noSet e3 = true ∧ PE X e1 (tR c p.1 ows ows1 oa qa) ∧ PE X e2 (tR c q.1 ows1 ows2 ob true) ∧ PE X e3 (tR c s.1 ows2 ows2 od true) ∧ r = fin ows2 qa := by
  unfold ckChX at h
  split at h
  · rename_i e he
    split at h
    · rename_i hk
      split at h
      · rename_i x ex
        split at h
        · rename_i y ey
          split at h
          · rename_i z ez
            split at h
            · rename_i hq
              cases h
              simp only [Bool.and_eq_true, decide_eq_true_eq] at hk hq
              obtain ⟨pos, rfl⟩ := vCh_eq he
              rw [hk.1, hk.2.1]
              have h2 := (hb X c G).2.1 _ _ y ey
              rw [hq.1] at h2
              have h3 := (hd X c G).2.1 _ _ z ez
              rw [hq.2.1, hq.2.2] at h3
              exact ⟨_, _, _, _, _, _, _, _, _, _, rfl, hk.2.2, (ha X c G).2.1 _ _ _ ex, h2, h3, rfl⟩
            · cases h
          · cases h
        · cases h
      · cases h
    · cases h
  · cases h
def ckCh (k l : CO) (a b d : Ck) : Ck := ⟨ckChX k l a b d fun o q => (o, .ow .fr, q), ckChX k l a b d fun o q => (o, .ow .fr, q), ckChX k l a b d fun o q => (o, q)⟩
theorem ckCh_ok {k l : CO} {a b d : Ck} {p q s : M D × M Bool} (ha : CkOk S C a p) (hb : CkOk S C b q) (hd : CkOk S C d s) : CkOk S C (ckCh k l a b d) (val (chM k l p.1 q.1 s.1)) := fun X c G => by
  have hv : ∀ pe ows r, (ckCh k l a b d).v pe ows = some r → PE X pe (tV c (chM k l p.1 q.1 s.1) ows r.1 r.2.1 r.2.2) := fun pe ows r h => by
    obtain ⟨e1, e2, e3, pos, ows1, ows2, oa, ob, od, qa, rfl, h1, h2, h3, h4, rfl⟩ := ckChX_ok ha hb hd G (show ckChX k l a b d (fun o q => (o, Ow.ow Ow.fr, q)) pe ows = some r from h)
    exact pv_ch' G.K G.hu h2 h3 h4 h1
  refine ⟨hv, fun pe ows r h => look_of (hv pe ows r h), fun pe ows r h => ?_⟩
  obtain ⟨e1, e2, e3, pos, ows1, ows2, oa, ob, od, qa, rfl, h1, h2, h3, h4, rfl⟩ := ckChX_ok ha hb hd G (show ckChX k l a b d (fun o q => (o, q)) pe ows = some r from h)
  exact pt_ch' G.K G.hu h2 h3 h4 h1
def ckAnd (ks : List Ck) : Ck :=
  let v : Expr → Ows → VR := fun pe ows => match vBool pe with
    | some e => if decide (e.1 = .And) = true then ckBV ks e.2 ows else none
    | none => none
  ⟨v, v, fun pe ows => match vBool pe with
    | some e => if decide (e.1 = .And) = true then ckBT ks e.2 ows else none
    | none => none⟩
theorem ckAnd_ok {ks : List Ck} {ps : List (M D × M Bool)} (h : CksOk S C ks ps) : CkOk S C (ckAnd ks) (andV ps, andT ps) := fun X c G => by
  have hv : ∀ pe ows r, (ckAnd ks).v pe ows = some r → PE X pe (tV c (andV ps) ows r.1 r.2.1 r.2.2) := fun pe ows r hh => by
    simp only [ckAnd] at hh
    split at hh
    · rename_i e he
      split at hh
      · rename_i hk
        obtain ⟨pos, rfl⟩ := vBool_eq he
        rw [of_decide_eq_true hk]
        exact andV_ok G h hh
      · cases hh
    · cases hh
  refine ⟨hv, fun pe ows r hh => look_of (hv pe ows r hh), fun pe ows r hh => ?_⟩
  simp only [ckAnd] at hh
  split at hh
  · rename_i e he
    split at hh
    · rename_i hk
      obtain ⟨pos, rfl⟩ := vBool_eq he
      rw [of_decide_eq_true hk]
      exact (andT_ok G h hh).pt
    · cases hh
  · cases hh
def ckOr (ks : List Ck) : Ck :=
  let v : Expr → Ows → VR := fun pe ows => match vBool pe with
    | some e => if decide (e.1 = .Or) = true then ckBV ks e.2 ows else none
    | none => none
  ⟨v, v, fun pe ows => match vBool pe with
    | some e => if decide (e.1 = .Or) = true then ckBT ks e.2 ows else none
    | none => none⟩
theorem ckOr_ok {ks : List Ck} {ps : List (M D × M Bool)} (h : CksOk S C ks ps) : CkOk S C (ckOr ks) (orV ps, orT ps) := fun X c G => by
  have hv : ∀ pe ows r, (ckOr ks).v pe ows = some r → PE X pe (tV c (orV ps) ows r.1 r.2.1 r.2.2) := fun pe ows r hh => by
    simp only [ckOr] at hh
    split at hh
    · rename_i e he
      split at hh
      · rename_i hk
        obtain ⟨pos, rfl⟩ := vBool_eq he
        rw [of_decide_eq_true hk]
        exact orV_ok G h hh
      · cases hh
    · cases hh
  refine ⟨hv, fun pe ows r hh => look_of (hv pe ows r hh), fun pe ows r hh => ?_⟩
  simp only [ckOr] at hh
  split at hh
  · rename_i e he
    split at hh
    · rename_i hk
      obtain ⟨pos, rfl⟩ := vBool_eq he
      rw [of_decide_eq_true hk]
      exact (orT_ok G h hh).pt
    · cases hh
  · cases hh
def ckIte (k a b : Ck) : Ck := mkV fun pe ows => match vIf pe with
  | some e => (match k.t e.1 ows with
    | some z => (match a.v e.2.1 z.1, b.v e.2.2 z.1 with
      | some x, some y => if (weakB 0 x.1 (joinO x.1 y.1) && weakB 0 y.1 (joinO x.1 y.1)) = true then (if decide (x.2.1 = y.2.1) = true then some (joinO x.1 y.1, x.2.1, z.2 && (x.2.2 && y.2.2)) else some (joinO x.1 y.1, .fr, z.2 && (x.2.2 && y.2.2))) else none
      | _, _ => none)
    | none => none)
  | none => none
theorem ckIte_ok {k a b : Ck} {s p q : M D × M Bool} (hk : CkOk S C k s) (ha : CkOk S C a p) (hb : CkOk S C b q) : CkOk S C (ckIte k a b) (val (M.bind s.2 fun k => if k = true then p.1 else q.1)) := mkV_ok fun X c G pe ows r h => by
  split at h
  · rename_i e he
    split at h
    · rename_i z ez
      split at h
      · rename_i x y ex ey
        split at h
        · rename_i hw
          simp only [Bool.and_eq_true] at hw
          obtain ⟨pos, rfl⟩ := vIf_eq he
          have h1 := pv_weak ((ha X c G).1 _ _ x ex) hw.1
          have h2 := pv_weak ((hb X c G).1 _ _ y ey) hw.2
          split at h
          · rename_i ho
            cases h
            rw [← of_decide_eq_true ho] at h2
            exact pv_ite ((hk X c G).2.2 _ _ z ez) h1 h2
          · cases h
            exact pv_ite ((hk X c G).2.2 _ _ z ez) (keep_fr h1) (keep_fr h2)
        · cases h
      · cases h
    · cases h
  · cases h
def ckTup (ks : List Ck) : Ck := mkV fun pe ows => match vTup pe with
  | some es => if decide (es.length ≤ 1000) = true then (match ckAV ks es ows with
    | some x => some (x.1, .ow .fr, x.2)
    | none => none) else none
  | none => none
theorem ckTup_ok {ks : List Ck} {ps : List (M D × M Bool)} (hs : CksOk S C ks ps) : CkOk S C (ckTup ks) (val (M.bind (evs ps) fun ds => M.ret (.tup ds))) := mkV_ok fun X c G pe ows r h => by
  split at h
  · rename_i es he
    split at h
    · rename_i hl
      split at h
      · rename_i x ex
        cases h
        obtain ⟨j, pos, rfl⟩ := vTup_eq he
        obtain ⟨i1, i2, i3⟩ := ckAV_ok G hs ex
        exact pv_tup (of_decide_eq_true hl) (fun env ds env' e => by rw [evs_len e, i3]) i1
      · cases h
    · cases h
  · cases h
def ckLst (ks : List Ck) : Ck := mkV fun pe ows => match vLst pe with
  | some es => if decide (es.length ≤ 1000) = true then (match ckAV ks es ows with
    | some x => some (x.1, .ow .fr, x.2)
    | none => none) else none
  | none => none
theorem ckLst_ok {ks : List Ck} {ps : List (M D × M Bool)} (hs : CksOk S C ks ps) : CkOk S C (ckLst ks) (val (M.bind (evs ps) fun ds => M.ret (.lst ds))) := mkV_ok fun X c G pe ows r h => by
  split at h
  · rename_i es he
    split at h
    · rename_i hl
      split at h
      · rename_i x ex
        cases h
        obtain ⟨pos, rfl⟩ := vLst_eq he
        obtain ⟨i1, i2, i3⟩ := ckAV_ok G hs ex
        exact pv_lst (of_decide_eq_true hl) (fun env ds env' e => by rw [evs_len e, i3]) i1
      · cases h
    · cases h
  · cases h
def ckIx (a b : Ck) : Ck := mkV fun pe ows => match vSub pe with
  | some e => if noSl e.2 = true then (match a.r e.1 ows with
    | some x => (match b.r e.2 x.1 with
      | some y => if (y.2.2 && shal x.2.1) = true then some (y.1, .fr, x.2.2) else none
      | none => none)
    | none => none) else none
  | none => none
theorem ckIx_ok {a b : Ck} {p q : M D × M Bool} (ha : CkOk S C a p) (hb : CkOk S C b q) : CkOk S C (ckIx a b) (val (op2 ixD p.1 q.1)) := mkV_ok fun X c G pe ows r h => by
  split at h
  · rename_i e he
    split at h
    · rename_i hk
      split at h
      · rename_i x ex
        split at h
        · rename_i y ey
          split at h
          · rename_i hs
            cases h
            simp only [Bool.and_eq_true] at hs
            obtain ⟨pos, rfl⟩ := vSub_eq he
            have h2 := (hb X c G).2.1 _ _ y ey
            rw [hs.1] at h2
            exact pv_ix (by have := G.hu; omega) ((ha X c G).2.1 _ _ x ex) h2 hk hs.2 G.K
          · cases h
        · cases h
      · cases h
    · cases h
  · cases h
/-- the first one is kept -/
def ckIxK (a b : Ck) : Ck := mkV fun pe ows => match vSub pe with
  | some e => if noSl e.2 = true then (match a.v e.1 ows with
    | some x => (match b.r e.2 x.1 with
      | some y => some (y.1, .fr, x.2.2 && y.2.2)
      | none => none)
    | none => none) else none
  | none => none
theorem ckIxK_ok {a b : Ck} {p q : M D × M Bool} (ha : CkOk S C a p) (hb : CkOk S C b q) : CkOk S C (ckIxK a b) (val (op2 ixD p.1 q.1)) := mkV_ok fun X c G pe ows r h => by
  split at h
  · rename_i e he
    split at h
    · rename_i hk
      split at h
      · rename_i x ex
        split at h
        · rename_i y ey
          cases h
          obtain ⟨pos, rfl⟩ := vSub_eq he
          exact pv_ixK (by have := G.hu; omega) (keep_fr ((ha X c G).1 _ _ x ex)) ((hb X c G).2.1 _ _ y ey) hk G.K
        · cases h
      · cases h
    · cases h
  · cases h
def ckBinK (k : BO) (a b : Ck) : Ck := mkV fun pe ows => match vBin pe with
  | some e => if decide (e.2.1 = opB k) = true then (match a.v e.1 ows with
    | some x => (match b.r e.2.2 x.1 with
      | some y => if shal y.2.1 = true then some (y.1, .ow .fr, x.2.2 && y.2.2) else none
      | none => none)
    | none => none) else none
  | none => none
theorem ckBinK_ok {k : BO} {a b : Ck} {p q : M D × M Bool} (ha : CkOk S C a p) (hb : CkOk S C b q) : CkOk S C (ckBinK k a b) (val (op2 (binD k) p.1 q.1)) := mkV_ok fun X c G pe ows r h => by
  split at h
  · rename_i e he
    split at h
    · rename_i hk
      split at h
      · rename_i x ex
        split at h
        · rename_i y ey
          split at h
          · rename_i hs
            cases h
            obtain ⟨pos, rfl⟩ := vBin_eq he
            rw [of_decide_eq_true hk]
            exact pv_binK G.K (keep_fr ((ha X c G).1 _ _ x ex)) ((hb X c G).2.1 _ _ y ey) hs
          · cases h
        · cases h
      · cases h
    · cases h
  · cases h
def ckPart : List Ck → Option Expr → Ows → Option Ows
  | [], none, ows => some ows
  | [k], some e, ows => match k.r e ows with
    | some x => if x.2.2 = true then some x.1 else none
    | none => none
  | _, _, _ => none
theorem ckPart_ok (G : GOk X c C S) {ks : List Ck} {ps : List (M D × M Bool)} {e : Option Expr} {ows r : Ows} (hs : CksOk S C ks ps) (h : ckPart ks e ows = some r) : PO X e (tPO c (partM ps) ows r) := by
  unfold ckPart at h
  split at h
  · cases h
    cases ps with
    | nil => exact po_no
    | cons => exact hs.elim
  · rename_i k e
    split at h
    · rename_i x ex
      split at h
      · rename_i hq
        cases h
        cases ps with
        | nil => exact hs.elim
        | cons p ps =>
          cases ps with
          | cons => exact hs.2.elim
          | nil =>
            have h1 := (hs.1 X c G).2.1 _ _ x ex
            rw [hq] at h1
            exact po_at h1
      · cases h
    · cases h
  · cases h
def ckSl (a : Ck) (lo hi : List Ck) : Ck := mkV fun pe ows => match vSl pe with
  | some e => (match a.r e.1 ows with
    | some x => (match ckPart lo e.2.1 x.1 with
      | some y => (match ckPart hi e.2.2 y with
        | some z => if shal x.2.1 = true then some (z, .ow .fr, x.2.2) else none
        | none => none)
      | none => none)
    | none => none)
  | none => none
theorem ckSl_ok {a : Ck} {lo hi : List Ck} {p : M D × M Bool} {pl ph : List (M D × M Bool)} (ha : CkOk S C a p) (hl : CksOk S C lo pl) (hh : CksOk S C hi ph) :
    CkOk S C (ckSl a lo hi) (val (M.bind p.1 fun x => M.bind (partM pl) fun l => M.bind (partM ph) fun h => M.opt (slD x l h))) := mkV_ok fun X c G pe ows r h => by
  split at h
  · rename_i e he
    split at h
    · rename_i x ex
      split at h
      · rename_i y ey
        split at h
        · rename_i z ez
          split at h
          · rename_i hs
            cases h
            obtain ⟨p1, p2, rfl⟩ := vSl_eq he
            exact pv_sl ((ha X c G).2.1 _ _ x ex) (ckPart_ok G hl ey) (ckPart_ok G hh ez) hs G.K
          · cases h
        · cases h
      · cases h
    · cases h
  · cases h
def ckCall (S : Sg) (f : Str) (Es : List E) (ks : List Ck) : Ck := mkV fun pe ows => match vCall pe, S.fn f with
  | some e, some s => if (decide (e.1 = f) && (S.calls && (S.glo f && (noDbg f && (Es.all noLn && (decide (Es.length = s.1) && (S.lo f).isNone)))))) = true then (match ckAV ks (e.2.1 :: e.2.2) ows with
    | some x => if weakB 0 x.1 S.x = true then some (x.1, s.2, x.2) else none
    | none => none) else none
  | _, _ => none
theorem ckCall_ok {f : Str} {Es : List E} {ks : List Ck} {ps : List (M D × M Bool)} (hs : CksOk S C ks ps) (hl : ps.length = Es.length) : CkOk S C (ckCall S f Es ks) (val (callM C f Es ps)) := mkV_ok fun X c G pe ows r h => by
  split at h
  · rename_i e s he hf
    split at h
    · rename_i hk
      split at h
      · rename_i x ex
        split at h
        · rename_i hw
          cases h
          simp only [Bool.and_eq_true, decide_eq_true_eq] at hk
          obtain ⟨h1, h2, h3, h4, h5, h6, h7⟩ := hk
          obtain ⟨p1, p2, rfl⟩ := vCall_eq he
          obtain ⟨i1, i2, i3⟩ := ckAV_ok G hs ex
          obtain ⟨tk, fns⟩ := G.fn h2
          obtain ⟨k, fa, fd, pn, F, hr, hm, hkp, hb⟩ := fns f s.1 s.2 hf
          rw [Option.isNone_iff_eq_none.mp h7] at F
          rw [h1]
          exact pv_call F hr (G.glo h3) hm hkp hb tk h5 h6 i1 (fun env ds env' e => by rw [evs_len e, hl]) (by rw [G.x]; exact hw) i2 (noDbg1 h4)
        · cases h
      · cases h
    · cases h
  · cases h
/-- arguments one of which is lent -/
def ckAL (S : Sg) : List E → List Ck → List Expr → Ows → Option Ows
  | .ln i :: _, _ :: ks, e :: es, ows => if nmOk S i e = true then (ckAV ks es ows).map (·.1) else none
  | _ :: Es, k :: ks, e :: es, ows => if noStar e = true then (match k.v e ows with
    | some a => ckAL S Es ks es a.1
    | none => none) else none
  | _, _, _, _ => none
theorem ckAL_no {S : Sg} {x : E} {Es : List E} {k : Ck} {ks : List Ck} {e : Expr} {es : List Expr} {ows : Ows} (h : noLn x = true) : ckAL S (x :: Es) (k :: ks) (e :: es) ows = if noStar e = true then (match k.v e ows with
    | some a => ckAL S Es ks es a.1
    | none => none) else none := by
  cases x <;> first | rfl | cases h
theorem dens_len' {C : Cs} : ∀ {es : List E}, (dens C es).length = es.length
  | [] => rfl
  | e :: es => by simp [dens, dens_len']
theorem ckAL_ok (G : GOk X c C S) : ∀ {Es : List E} {ks : List Ck} {es : List Expr} {ows ows' : Ows} {r : Nat × Nat}, CksOk S C ks (dens C Es) → lnE Es = some r → ckAL S Es ks es ows = some ows' → PA X es (tAL c (evs (dens C Es)) r.1 r.2 ows ows') ∧ es.all noStar = true ∧ es.length = Es.length
  | [], _, _, _, _, _, _, h, _ => by cases h
  | x :: Es, [], _, _, _, _, hk, _, _ => by simp only [dens] at hk; exact hk.elim
  | x :: Es, k :: ks, [], ows, ows', r, _, _, h => by
    cases x <;> cases h
  | x :: Es, k :: ks, e :: es, ows, ows', r, hk, hl, h => by
    simp only [dens] at hk
    rcases lnE_cons hl with ⟨i, rfl, rfl, h2⟩ | ⟨h1, r', h2, rfl⟩
    · simp only [ckAL] at h
      split at h
      · rename_i hn
        obtain ⟨b, hb, rfl⟩ := Option.map_eq_some_iff.mp h
        obtain ⟨i1, i2, i3⟩ := ckAV_ok G hk.2 hb
        obtain ⟨y, p, rfl, n1, n2, n3, n4⟩ := nmOk_eq G hn
        exact ⟨by simp only [dens, den]; exact al_here n1 n2 n3 n4 i1, by simp [i2]; rfl, by simp [i3, dens_len']⟩
      · cases h
    · rw [ckAL_no h1] at h
      split at h
      · rename_i hs
        split at h
        · rename_i a ea
          obtain ⟨i1, i2, i3⟩ := ckAL_ok G hk.2 h2 h
          exact ⟨by simp only [dens]; exact al_cons hs (keep_fr ((hk.1 X c G).1 e ows a ea)) i1, by simp [hs, i2], by simp [i3]⟩
        · cases h
      · cases h
/-- a call that is lent the thing of a slot -/
def ckCallL (S : Sg) (f : Str) (Es : List E) (ks : List Ck) : Ck := mkV fun pe ows => match vCall pe, S.fn f, lnE Es, S.lo f with
  | some e, some s, some r, some l => if (decide (e.1 = f) && (S.calls && (S.glo f && (noDbg f && (decide (Es.length = s.1) && (decide (l.1 = r.1) && (!decide (l.2 = .fr) && !S.pinw.contains r.2))))))) = true then (match ckAL S Es ks (e.2.1 :: e.2.2) ows with
    | some ows' => if (weakB 0 (ows'.set r.2 .fr) S.x && decide (owAt ows' r.2 = l.2)) = true then some (ows', s.2, false) else none
    | none => none) else none
  | _, _, _, _ => none
theorem ckCallL_ok {f : Str} {Es : List E} {ks : List Ck} (hs : CksOk S C ks (dens C Es)) : CkOk S C (ckCallL S f Es ks) (val (callM C f Es (dens C Es))) := mkV_ok fun X c G pe ows r h => by
  split at h
  · rename_i e s rr l he hf hr hl
    split at h
    · rename_i hk
      split at h
      · rename_i ows' ex
        split at h
        · rename_i hw
          cases h
          simp only [Bool.and_eq_true, decide_eq_true_eq, Bool.not_eq_true', decide_eq_false_iff_not] at hk hw
          obtain ⟨h1, h2, h3, h4, h5, h6, h7, h8⟩ := hk
          obtain ⟨p1, p2, rfl⟩ := vCall_eq he
          obtain ⟨i1, i2, i3⟩ := ckAL_ok G hs hr ex
          obtain ⟨tk, fns⟩ := G.fn h2
          obtain ⟨k, fa, fd, pn, F, hrm, hm, hkp, hb⟩ := fns f s.1 s.2 hf
          rw [hl] at F
          have F' : FnOk X.prog X.w X.K X.mg X.base (L2.CX X.prog X.w) k fa fd pn (spOf c.K (C.cl f) (poP rr.1 l.2) s.2 s.1) := by
            have : poF (some l) = poP rr.1 l.2 := by rw [← h6]; rfl
            rw [this] at F
            exact F
          rw [h1]
          exact pv_callL F' h7 hrm (G.glo h3) hm hkp hb tk hr h5 i1 (fun env ds env' e => by rw [evs_len e, dens_len']) hw.2 (by rw [G.x]; exact hw.1) (G.pw rr.2 (by simpa using h8)) i2 (noDbg1 h4)
        · cases h
      · cases h
    · cases h
  · cases h
theorem biN_mem : ∀ k : BI, biN k ∈ bltNames := by intro k; cases k <;> decide +kernel
def ckBi (S : Sg) (k : BI) (ks : List Ck) : Ck := mkV fun pe ows => match vCall pe with
  | some e => if (decide (e.1 = biN k) && (biOk k && (S.glo (biN k) && (!biCalm k || S.calm)))) = true then (match ckAR ks (e.2.1 :: e.2.2) ows with
    | some x => if x.2.1.all shal = true then some (x.1, biO k, x.2.2) else none
    | none => none) else none
  | none => none
theorem ckBi_ok {k : BI} {ks : List Ck} {ps : List (M D × M Bool)} (hs : CksOk S C ks ps) : CkOk S C (ckBi S k ks) (val (M.bind (evs ps) fun ds => M.opt (bF k ds))) := mkV_ok fun X c G pe ows r h => by
  split at h
  · rename_i e he
    split at h
    · rename_i hk
      split at h
      · rename_i x ex
        split at h
        · rename_i hw
          cases h
          simp only [Bool.and_eq_true, decide_eq_true_eq, Bool.or_eq_true, Bool.not_eq_true'] at hk
          obtain ⟨h1, h2, h3, h4⟩ := hk
          obtain ⟨p1, p2, rfl⟩ := vCall_eq he
          obtain ⟨i1, i2, i3⟩ := ckAR_ok G hs ex
          rw [h1]
          exact pv_bi h2 (fun hb => G.calm (h4.elim (fun z => by rw [hb] at z; cases z) id)) G.K (G.glo h3) (G.blt _ (biN_mem k)) i2 i1 hw
        · cases h
      · cases h
    · cases h
  · cases h
def vIsi (pe : Expr) : Option (Expr × Str) := match vCall pe with
  | some (f, a, [b]) => if decide (f = ("isinstance" : Str)) = true then (match vName b with
    | some x => some (a, x)
    | none => none) else none
  | _ => none
theorem vIsi_eq {pe : Expr} {r : Expr × Str} (h : vIsi pe = some r) : ∃ p p2 pos, pe = .Call (.Name "isinstance" p) [r.1, .Name r.2 p2] [] pos := by
  unfold vIsi at h
  split at h
  · rename_i f a b he
    split at h
    · rename_i hf
      split at h
      · rename_i x hx
        cases h
        obtain ⟨p, p2, rfl⟩ := vCall_eq he
        obtain ⟨p3, rfl⟩ := vName_eq hx
        simp only at hf ⊢
        rw [of_decide_eq_true hf]
        exact ⟨_, _, _, rfl⟩
      · cases h
    · cases h
  · cases h
theorem tyN_mem {t : TY} (h : tyPl t = true) : nmS (tyN t) ∈ bltNames := by cases t <;> first | (cases h; done) | decide +kernel
def ckIsi (S : Sg) (a : Ck) (ts : List TY) : Ck := mkV fun pe ows => match vIsi pe, ts with
  | some e, [t] => if (tyPl t && (decide (e.2 = nmS (tyN t)) && (S.glo "isinstance" && (S.glo (nmS (tyN t)) && noStar e.1)))) = true then (match a.r e.1 ows with
    | some x => some (x.1, .ow .fr, x.2.2)
    | none => none) else none
  | _, _ => none
theorem ckIsi_ok {a : Ck} {ts : List TY} {p : M D × M Bool} (ha : CkOk S C a p) : CkOk S C (ckIsi S a ts) (val (M.bind p.1 fun x => M.opt ((tyAny C x ts).map .bl))) := mkV_ok fun X c G pe ows r h => by
  split at h
  · rename_i e t he
    split at h
    · rename_i hk
      split at h
      · rename_i x ex
        cases h
        simp only [Bool.and_eq_true, decide_eq_true_eq] at hk
        obtain ⟨h1, h2, h3, h4, h5⟩ := hk
        obtain ⟨p1, p2, p3, rfl⟩ := vIsi_eq he
        rw [h2]
        exact pv_isi h1 (G.glo h3) (G.blt _ (by decide +kernel)) (G.glo h4) (G.blt _ (tyN_mem h1)) G.K h5 ((ha X c G).2.1 _ _ x ex)
      · cases h
    · cases h
  · cases h
/-- isinstance(e, X), e the error that the suite holds -/
theorem pv_isE {i : Nat} {x y : Str} {p1 p2 p3 pos : Pos} {V' : V} {u : Value} {ows : Ows} {a : Addr} {n : Str} (hN : X.N[i]? = some x) (hv : Vis X.env.scope x) (hd : (x == ("__debug__" : Str)) = false) (hcd : (x == ("__classdict__" : Str)) = false)
    (hg : Gl X "isinstance") (hm : X.mg "isinstance" = none) (hy : ∀ {pos : Pos}, PE X (.Name y pos) (tC V')) (hu : ∀ w, L2.RelV V' w → w = u) (hp : c.pn i = some (.ref a, some (.exc n))) (hc : CallR X (.builtin "isinstance") (rIsE X.K (He.ga c.K n) a)) (hk : PySem.W.kitOne X.K (.ref (He.ga c.K n)) u = some (C.sub n y)) :
    PE X (.Call (.Name "isinstance" p1) [.Name x p2, .Name y p3] [] pos) (tV c (M.bind (varM i) fun x => M.opt ((tyAny C x [.exc y]).map .bl)) ows ows (.ow .fr) true) := by
  refine wPE (pe_callB hc hg hm PyProof.Rows.boot_isinstance (pa_cons (pe_var hN hv hd hcd) (pa_cons hy pa_nil (by rfl)) (by rfl)) (by decide) (by decide) (by rfl) (by rfl)) fun σ H Q ⟨w, env, hw, sr, z⟩ => ?_
  subst hw
  unfold M.bind varM at z
  cases e1 : getS env i with
  | none => rw [e1] at z; exact z.elim
  | some d =>
    rw [e1] at z
    obtain ⟨h1, h2⟩ := sr.pin i _ hp
    have hd' := h2 _ rfl d e1
    subst hd'
    have z' : ∀ w' v A, Ext w w' → SR c.K c.pn ows env σ w' → RO c.K w'.H w'.Z (.ow .fr) (.bl (C.sub n y)) v A → Tmp w w' A → (true = true → Quiet w w') → Q v w'.H := by
      have hz : tyAny C (.exc n) [.exc y] = some (C.sub n y) := by
        simp only [tyAny, tyIs]
        cases C.sub n y <;> rfl
      dsimp only at z
      rw [hz] at z
      exact z
    exact ⟨_, h1, V', u, _, rfl, hu, hk, z' w _ _ Ext.refl sr RO.mkbl Tmp.nil fun _ _ _ e => e⟩
def ckIsE (S : Sg) (i : Nat) (y : Str) : Ck := mkV fun pe ows => match vIsi pe with
  | some e => if (decide (S.es = some i) && (nmOk S i e.1 && (decide (e.2 = y) && (S.glo "isinstance" && (S.glo y && (noDbg y && (S.exc y || decide (y = ("ValueError" : Str))))))))) = true then some (ows, .ow .fr, true) else none
  | none => none
theorem ckIsE_ok {i : Nat} {y : Str} : CkOk S C (ckIsE S i y) (val (M.bind (varM i) fun x => M.opt ((tyAny C x [.exc y]).map .bl))) := mkV_ok fun X c G pe ows r h => by
  split at h
  · rename_i e he
    split at h
    · rename_i hk
      cases h
      simp only [Bool.and_eq_true, decide_eq_true_eq, Bool.or_eq_true] at hk
      obtain ⟨h1, h2, h3, h4, h5, h6, h7⟩ := hk
      obtain ⟨p1, p2, p3, rfl⟩ := vIsi_eq he
      obtain ⟨x', p', hx, n1, n2, n3, n4⟩ := nmOk_eq G h2
      obtain ⟨a, n, hn, hp, hc, _⟩ := G.es i h1
      rw [hx, h3]
      by_cases hy : S.exc y = true
      · exact pv_isE n1 n2 n3 n4 (G.glo h4) (G.blt _ (by decide +kernel)) (fun {pos} => pe_glob (G.glo h5) (G.exc y hy).1 (v := .ref (He.ga c.K y)) rfl (noDbg1 h6)) (fun w r => r) hp hc (G.kx n y hn hy)
      · have hy' : y = "ValueError" := h7.resolve_left hy
        subst hy'
        exact pv_isE n1 n2 n3 n4 (G.glo h4) (G.blt _ (by decide +kernel)) (fun {pos} => pe_bltn (G.glo h5) (G.blt _ (by decide +kernel)) (u := .type "ValueError") (by decide +kernel) (v := .ty "ValueError") rfl (by decide +kernel) (by decide +kernel)) (fun w r => r) hp hc (G.kv n hn)
    · cases h
  · cases h
/-- isinstance(e, (X, Y)) -/
def vIsi2 (pe : Expr) : Option (Expr × Str × Str) := match vCall pe with
  | some (f, a, [b]) => if decide (f = ("isinstance" : Str)) = true then (match vTup b with
    | some [x, y] => (match vName x, vName y with
      | some n, some m => some (a, n, m)
      | _, _ => none)
    | _ => none) else none
  | _ => none
theorem vIsi2_eq {pe : Expr} {r : Expr × Str × Str} (h : vIsi2 pe = some r) : ∃ p p2 p3 j p4 pos, pe = .Call (.Name "isinstance" p) [r.1, .Tuple [.Name r.2.1 p2, .Name r.2.2 p3] j p4] [] pos := by
  unfold vIsi2 at h
  split at h
  · rename_i f a b he
    split at h
    · rename_i hf
      split at h
      · rename_i x y ht
        split at h
        · rename_i n m hx hy
          cases h
          obtain ⟨p, pos, rfl⟩ := vCall_eq he
          obtain ⟨j, p4, rfl⟩ := vTup_eq ht
          obtain ⟨p2, rfl⟩ := vName_eq hx
          obtain ⟨p3, rfl⟩ := vName_eq hy
          simp only at hf ⊢
          rw [of_decide_eq_true hf]
          exact ⟨_, _, _, _, _, _, rfl⟩
        · cases h
      · cases h
    · cases h
  · cases h
def ckIsE2 (S : Sg) (i : Nat) (y z : Str) : Ck := mkV fun pe ows => match vIsi2 pe with
  | some e => if (decide (S.es = some i) && (nmOk S i e.1 && (decide (e.2.1 = y) && (decide (e.2.2 = z) && (S.glo "isinstance" && ((S.glo y && (noDbg y && S.exc y)) && (S.glo z && (noDbg z && S.exc z)))))))) = true then some (ows, .ow .fr, true) else none
  | none => none
theorem ckIsE2_ok {i : Nat} {y z : Str} : CkOk S C (ckIsE2 S i y z) (val (M.bind (varM i) fun x => M.opt ((tyAny C x [.exc y, .exc z]).map .bl))) := mkV_ok fun X c G pe ows r h => by
  split at h
  · rename_i e he
    split at h
    · rename_i hk
      cases h
      simp only [Bool.and_eq_true, decide_eq_true_eq] at hk
      obtain ⟨h1, h2, h3, h4, h5, ⟨h6, h7, h8⟩, h9, h10, h11⟩ := hk
      obtain ⟨p1, p2, p3, j, p4, pos, rfl⟩ := vIsi2_eq he
      obtain ⟨x', p', hx, n1, n2, n3, n4⟩ := nmOk_eq G h2
      obtain ⟨a, n, hn, hp, _, hc⟩ := G.es i h1
      rw [hx, h3, h4]
      have g1 : PE X (.Name y p2) (tC (.ref (He.ga c.K y))) := pe_glob (G.glo h6) (G.exc y h8).1 (v := .ref (He.ga c.K y)) rfl (noDbg1 h7)
      have g2 : PE X (.Name z p3) (tC (.ref (He.ga c.K z))) := pe_glob (G.glo h9) (G.exc z h11).1 (v := .ref (He.ga c.K z)) rfl (noDbg1 h10)
      refine wPE (pe_callB hc (G.glo h5) (G.blt _ (by decide +kernel)) PyProof.Rows.boot_isinstance (pa_cons (pe_var n1 n2 n3 n4) (pa_cons (pe_tup (x1 := j) (pa_cons g1 (pa_cons g2 pa_nil (by rfl)) (by rfl))) pa_nil (by rfl)) (by rfl)) (by decide) (by decide) (by rfl) (by rfl)) fun σ H Q ⟨w, env, hw, sr, zz⟩ => ?_
      subst hw
      unfold M.bind varM at zz
      cases e1 : getS env i with
      | none => rw [e1] at zz; exact zz.elim
      | some d =>
        rw [e1] at zz
        obtain ⟨q1, q2⟩ := sr.pin i _ hp
        have hd' := q2 _ rfl d e1
        subst hd'
        have hz : tyAny C (.exc n) [.exc y, .exc z] = some (C.sub n y || C.sub n z) := by
          simp only [tyAny, tyIs]
          cases C.sub n y <;> cases C.sub n z <;> rfl
        dsimp only at zz
        rw [hz] at zz
        have hka : PySem.W.kitAny X.K (.ref (He.ga c.K n)) [.ref (He.ga c.K y), .ref (He.ga c.K z)] = some (C.sub n y || C.sub n z) := by
          unfold PySem.W.kitAny
          rw [G.kx n y hn h8]
          cases C.sub n y with
          | true => rfl
          | false =>
            unfold PySem.W.kitAny
            rw [G.kx n z hn h11]
            cases C.sub n z <;> rfl
        refine ⟨_, q1, by show 2 ≤ sizeLine; decide, fun p hnew => ?_⟩
        have al : Alloc w (w.upd p (.tup [.ref (He.ga c.K y), .ref (He.ga c.K z)])) (fun _ => False) := Alloc.new0 hnew
        refine ⟨p, [.ref (He.ga c.K y), .ref (He.ga c.K z)], [.ref (He.ga c.K y), .ref (He.ga c.K z)], _, rfl, .inl (.inl upd_same), fun us hu => ?_, hka, zz (w.upd p (.tup [.ref (He.ga c.K y), .ref (He.ga c.K z)])) _ _ al.ext (al.sr sr) RO.mkbl Tmp.nil fun _ => al.quiet⟩
        cases hu with
        | cons r1 hu =>
          cases hu with
          | cons r2 hu =>
            cases hu
            cases r1
            cases r2
            rfl
    · cases h
  · cases h
/-- l.index(x) -/
def ckIndex (S : Sg) (a k : Ck) : Ck := mkV fun pe ows => match vM1 pe with
  | some e => if (decide (e.2.1 = ("index" : Str)) && (plainB e.1 && ((e.2.2.1.endLine == e.2.2.2.2.line) && noStar e.2.2.2.1))) = true then (match a.r e.1 ows with
    | some x => (match k.r e.2.2.2.1 x.1 with
      | some y => if y.2.2 = true then some (y.1, .ow .fr, x.2.2) else none
      | none => none)
    | none => none) else none
  | none => none
theorem ckIndex_ok {a k : Ck} {p q : M D × M Bool} (ha : CkOk S C a p) (hk : CkOk S C k q) : CkOk S C (ckIndex S a k) (val (M.bind p.1 fun x => if meOk .index x = true then M.bind (evs [q]) fun ds => M.opt (meF .index x ds) else fun _ => .no)) := mkV_ok fun X c G pe ows r h => by
  split at h
  · rename_i e he
    split at h
    · rename_i hn
      split at h
      · rename_i x ex
        split at h
        · rename_i y ey
          split at h
          · rename_i hq
            cases h
            simp only [Bool.and_eq_true, decide_eq_true_eq] at hn
            obtain ⟨h1, h2, h3, h4⟩ := hn
            have := vM1_eq he
            subst this
            rw [h1]
            have hv := (hk X c G).2.1 _ _ y ey
            rw [hq] at hv
            exact pv_index (by have := G.hu; omega) G.K h2 h3 h4 ((ha X c G).2.1 _ _ x ex) hv
          · cases h
        · cases h
      · cases h
    · cases h
  · cases h
/-- x.append(e) -/
def ckApp (S : Sg) (i : Nat) (k : Ck) : Ck := mkV fun pe ows => match vM1 pe with
  | some e => if (nmOk S i e.1 && (decide (e.2.1 = ("append" : Str)) && ((e.2.2.1.endLine == e.2.2.2.2.line) && (noStar e.2.2.2.1 && !S.pinw.contains i)))) = true then (match owAt ows i, k.v e.2.2.2.1 ows with
    | .ow o, some x => if decide (owAt x.1 i = .ow o) = true then (if (decide (x.2.1 = o) || decide (o = .fr)) = true then some (x.1, .fr, false) else none) else none
    | _, _ => none) else none
  | none => none
theorem ckApp_ok {i : Nat} {k : Ck} {p : M D × M Bool} (hk : CkOk S C k p) : CkOk S C (ckApp S i k) (val (muM .append i [] [p])) := mkV_ok fun X c G pe ows r h => by
  split at h
  · rename_i e he
    split at h
    · rename_i hn
      split at h
      · rename_i o x ho ex
        split at h
        · rename_i ho'
          split at h
          · rename_i hoo
            cases h
            simp only [Bool.and_eq_true, decide_eq_true_eq, Bool.not_eq_true'] at hn
            obtain ⟨h1, h2, h3, h4, h5⟩ := hn
            have := vM1_eq he
            subst this
            obtain ⟨x', p', hx, n1, n2, n3, n4⟩ := nmOk_eq G h1
            rw [h2]
            have hv := (hk X c G).1 _ _ x ex
            have hv' : PE X e.2.2.2.1 (tV c p.1 ows x.1 o x.2.2) := by
              simp only [Bool.or_eq_true, decide_eq_true_eq] at hoo
              rcases hoo with q | q
              · rw [← q]; exact hv
              · rw [q]; exact keep_fr hv
            rw [hx]
            exact pv_append (n := 0) (ps := []) (i := i) (pl_nil n1 n2 n3 n4) rfl h3 (fun e r e' h => by cases h; rfl) (fun e r e' h => by cases h; rfl) h4 (by rw [ho]; show PE X _ (tV c p.1 ows x.1 (oAt o 0) _); rw [oAt0]; exact hv') (by rw [ho]; rfl) (by rw [of_decide_eq_true ho', ho]) (.inl rfl) (G.pw i (by simpa using h5))
          · cases h
        · cases h
      · cases h
    · cases h
  · cases h
end

/-! x.extend(e), x.pop(), x.pop(e) -/
section
variable {S : Sg} {C : Cs} {X : Cx} {c : Cc}
def ckExt (S : Sg) (i : Nat) (k : Ck) : Ck := mkV fun pe ows => match vM1 pe with
  | some e => if (nmOk S i e.1 && (decide (e.2.1 = ("extend" : Str)) && ((e.2.2.1.endLine == e.2.2.2.2.line) && (noStar e.2.2.2.1 && !S.pinw.contains i)))) = true then (match k.r e.2.2.2.1 ows with
    | some x => if (decide (owAt ows i = .ow .fr) && (decide (owAt x.1 i = owAt ows i) && shal x.2.1)) = true then some (x.1, .fr, false) else none
    | none => none) else none
  | none => none
theorem ckExt_ok {i : Nat} {k : Ck} {p : M D × M Bool} (hk : CkOk S C k p) : CkOk S C (ckExt S i k) (val (muM .extend i [] [p])) := mkV_ok fun X c G pe ows r h => by
  split at h
  · rename_i e he
    split at h
    · rename_i hn
      split at h
      · rename_i x ex
        split at h
        · rename_i ho
          cases h
          simp only [Bool.and_eq_true, decide_eq_true_eq, Bool.not_eq_true'] at hn ho
          obtain ⟨h1, h2, h3, h4, h5⟩ := hn
          have := vM1_eq he
          subst this
          obtain ⟨x', p', hx, n1, n2, n3, n4⟩ := nmOk_eq G h1
          rw [h2, hx]
          exact pv_extend (ps := []) (i := i) (pl_nil n1 n2 n3 n4) rfl h3 (fun e r e' h => by cases h; rfl) (fun e r e' h => by cases h; rfl) h4 ((hk X c G).2.1 _ _ x ex) ho.2.2 ho.1 ho.2.1 (G.pw i (by simpa using h5)) mt_extend (G.K ▸ mt_extendT)
        · cases h
      · cases h
    · cases h
  · cases h
def ckPop0 (S : Sg) (i : Nat) : Ck := mkV fun pe ows => match vM0 pe with
  | some e => if (nmOk S i e.1 && (decide (e.2.1 = ("pop" : Str)) && ((e.2.2.1.endLine == e.2.2.2.line) && (!S.pinw.contains i && decide (owAt ows i = .ow .fr))))) = true then some (ows, .fr, false) else none
  | none => none
theorem ckPop0_ok {i : Nat} : CkOk S C (ckPop0 S i) (val (muM .pop0 i [] [])) := mkV_ok fun X c G pe ows r h => by
  split at h
  · rename_i e he
    split at h
    · rename_i hn
      cases h
      simp only [Bool.and_eq_true, decide_eq_true_eq, Bool.not_eq_true'] at hn
      obtain ⟨h1, h2, h3, h4, h5⟩ := hn
      have := vM0_eq he
      subst this
      obtain ⟨x', p', hx, n1, n2, n3, n4⟩ := nmOk_eq G h1
      rw [h2, hx]
      exact pv_pop0 (ps := []) (i := i) (pl_nil n1 n2 n3 n4) rfl h3 (fun e r e' h => by cases h; rfl) (fun e r e' h => by cases h; rfl) h5 (G.pw i (by simpa using h4)) mt_pop
    · cases h
  · cases h
def ckPop1 (S : Sg) (i : Nat) (k : Ck) : Ck := mkV fun pe ows => match vM1 pe with
  | some e => if (nmOk S i e.1 && (decide (e.2.1 = ("pop" : Str)) && ((e.2.2.1.endLine == e.2.2.2.2.line) && (noStar e.2.2.2.1 && !S.pinw.contains i)))) = true then (match k.r e.2.2.2.1 ows with
    | some x => if (decide (owAt ows i = .ow .fr) && decide (owAt x.1 i = owAt ows i)) = true then some (x.1, .fr, false) else none
    | none => none) else none
  | none => none
theorem ckPop1_ok {i : Nat} {k : Ck} {p : M D × M Bool} (hk : CkOk S C k p) : CkOk S C (ckPop1 S i k) (val (muM .pop1 i [] [p])) := mkV_ok fun X c G pe ows r h => by
  split at h
  · rename_i e he
    split at h
    · rename_i hn
      split at h
      · rename_i x ex
        split at h
        · rename_i ho
          cases h
          simp only [Bool.and_eq_true, decide_eq_true_eq, Bool.not_eq_true'] at hn ho
          obtain ⟨h1, h2, h3, h4, h5⟩ := hn
          have := vM1_eq he
          subst this
          obtain ⟨x', p', hx, n1, n2, n3, n4⟩ := nmOk_eq G h1
          rw [h2, hx]
          exact pv_pop1 (ps := []) (i := i) (pl_nil n1 n2 n3 n4) rfl h3 (fun e r e' h => by cases h; rfl) (fun e r e' h => by cases h; rfl) h4 ((hk X c G).2.1 _ _ x ex) ho.1 ho.2 (G.pw i (by simpa using h5)) mt_popAt
        · cases h
      · cases h
    · cases h
  · cases h
end
mutual
def ck : Sg → E → Ck
  | S, .v i => ckVar S i
  | S, .ln _ => noCk
  | S, .mv i => ckMv S i
  | S, .int i => ckK (.int i)
  | S, .str x => ckK (.str x)
  | S, .bl b => ckK (.bool b)
  | S, .non => ckK .none
  | S, .g x => ckG S x
  | S, .bin k a b => orCk (ckBin k (ck S a) (ck S b)) (ckBinK k (ck S a) (ck S b))
  | S, .neg a => ckNeg (ck S a)
  | S, .not a => ckNot (ck S a)
  | S, .cmp k a b => ckCmp k (ck S a) (ck S b)
  | S, .ch k l a b d => ckCh k l (ck S a) (ck S b) (ck S d)
  | S, .and es => ckAnd (cks S es)
  | S, .or es => ckOr (cks S es)
  | S, .ite k a b => ckIte (ck S k) (ck S a) (ck S b)
  | S, .tup es => ckTup (cks S es)
  | S, .lst es => ckLst (cks S es)
  | S, .dic t ks vs => match t, ks, vs with
    | false, [], [] => ckDic0
    | _, _, _ => noCk
  | S, .ix a i => orCk (ckIx (ck S a) (ck S i)) (ckIxK (ck S a) (ck S i))
  | S, .sl a lo hi => ckSl (ck S a) (cks S lo) (cks S hi)
  | S, .call f es => if es.all noLn = true then ckCall S f es (cks S es) else ckCallL S f es (cks S es)
  | S, .bi k es => match k with
    | .sorted => ckSorted S (cks S es)
    | k => ckBi S k (cks S es)
  | S, .isi a ts => match a, ts with
    | .v i, [.exc y] => ckIsE S i y
    | .v i, [.exc y, .exc z] => ckIsE2 S i y z
    | _, _ => ckIsi S (ck S a) ts
  | S, .me m o es => match m, cks S es with
    | .index, [k] => ckIndex S (ck S o) k
    | .get2, [k1, k2] => ckGet2 S (ck S o) k1 k2
    | .split1, [k] => ckSplit1 (ck S o) k
    | .split1, [k1, k2] => ckSplit2 (ck S o) k1 k2
    | .join, [k] => ckJoin (ck S o) k
    | .upper, [] => ckUpper (ck S o)
    | _, _ => noCk
  | S, .mu m i ps es => match m, ps, cks S es with
    | .append, [], [k] => ckApp S i k
    | .extend, [], [k] => ckExt S i k
    | .pop0, [], [] => ckPop0 S i
    | .pop1, [], [k] => ckPop1 S i k
    | _, _, _ => noCk
  | S, .lc elt t k ia cs => ckLc S t k (cks S ia) (fun S' => ck S' elt) (fun S' => cks S' cs) (pureE elt && pureEs cs) (ownE elt)
  | S, .fs es => ckFs es (cks S es)
  | S, .tin n a x => ckTin S n (ck S a) x
  | S, .tix x a => ckTix S x (ck S a)
  | S, .lct elt t k ia => ckLct S t k (cks S ia) (fun S' => ck S' elt) (ownE elt)
  | S, .dc k v t kk ia => ckDc S t kk (cks S ia) (fun S' => ck S' k) (fun S' => ck S' v) (pureE k && pureE v)
def cks : Sg → List E → List Ck
  | _, [] => []
  | S, e :: es => ck S e :: cks S es
end
theorem dens_len {C : Cs} : ∀ {es : List E}, (dens C es).length = es.length
  | [] => rfl
  | e :: es => by simp [dens, dens_len]
mutual
theorem ck_ok (C : Cs) : ∀ (S : Sg) (e : E), CkOk S C (ck S e) (den C e)
  | S, .v i => by simp only [ck, den]; exact ckVar_ok
  | S, .ln _ => by simp only [ck, den]; exact noCk_ok
  | S, .mv i => by simp only [ck, den]; exact ckMv_ok
  | S, .int i => by simp only [ck, den]; exact ckInt_ok
  | S, .str x => by simp only [ck, den]; exact ckStr_ok
  | S, .bl b => by simp only [ck, den]; exact ckBl_ok
  | S, .non => by simp only [ck, den]; exact ckNon_ok
  | S, .g x => by simp only [ck, den]; exact ckG_ok
  | S, .bin k a b => by simp only [ck, den]; exact orCk_ok (ckBin_ok (ck_ok C S a) (ck_ok C S b)) (ckBinK_ok (ck_ok C S a) (ck_ok C S b))
  | S, .neg a => by simp only [ck, den]; exact ckNeg_ok (ck_ok C S a)
  | S, .not a => by simp only [ck, den]; exact ckNot_ok (ck_ok C S a)
  | S, .cmp k a b => by simp only [ck, den]; exact ckCmp_ok (ck_ok C S a) (ck_ok C S b)
  | S, .ch k l a b d => by simp only [ck, den]; exact ckCh_ok (ck_ok C S a) (ck_ok C S b) (ck_ok C S d)
  | S, .and es => by simp only [ck, den]; exact ckAnd_ok (cks_ok C S es)
  | S, .or es => by simp only [ck, den]; exact ckOr_ok (cks_ok C S es)
  | S, .ite k a b => by simp only [ck, den]; exact ckIte_ok (ck_ok C S k) (ck_ok C S a) (ck_ok C S b)
  | S, .tup es => by simp only [ck, den]; exact ckTup_ok (cks_ok C S es)
  | S, .lst es => by simp only [ck, den]; exact ckLst_ok (cks_ok C S es)
  | S, .dic t ks vs => by
    simp only [ck, den]
    split
    · simp only [dens]; exact ckDic0_ok
    · exact noCk_ok
  | S, .ix a i => by simp only [ck, den]; exact orCk_ok (ckIx_ok (ck_ok C S a) (ck_ok C S i)) (ckIxK_ok (ck_ok C S a) (ck_ok C S i))
  | S, .sl a lo hi => by simp only [ck, den]; exact ckSl_ok (ck_ok C S a) (cks_ok C S lo) (cks_ok C S hi)
  | S, .call f es => by
    have h := cks_ok C S es
    simp only [ck, den]
    split
    · exact ckCall_ok h dens_len
    · exact ckCallL_ok h
  | S, .bi k es => by
    simp only [ck, den]
    split
    · exact ckSorted_ok (cks_ok C S es)
    · exact ckBi_ok (cks_ok C S es)
  | S, .isi a ts => by
    have h := ck_ok C S a
    simp only [ck, den]
    split
    · simp only [den]; exact ckIsE_ok
    · simp only [den]; exact ckIsE2_ok
    · exact ckIsi_ok h
  | S, .me m o es => by
    have h := cks_ok C S es
    have h0 := ck_ok C S o
    simp only [ck, den]
    split
    · rename_i k e
      rw [e] at h
      match hd : dens C es, h with
      | [p], h => exact ckIndex_ok h0 h.1
      | [], h => exact h.elim
      | _ :: _ :: _, h => exact h.2.elim
    · rename_i k1 k2 e
      rw [e] at h
      match hd : dens C es, h with
      | [p1, p2], h => exact ckGet2_ok h0 h.1 h.2.1
      | [], h => exact h.elim
      | [_], h => exact h.2.elim
      | _ :: _ :: _ :: _, h => exact h.2.2.elim
    · rename_i k e
      rw [e] at h
      match hd : dens C es, h with
      | [p], h => exact ckSplit1_ok h0 h.1
      | [], h => exact h.elim
      | _ :: _ :: _, h => exact h.2.elim
    · rename_i k1 k2 e
      rw [e] at h
      match hd : dens C es, h with
      | [p1, p2], h => exact ckSplit2_ok h0 h.1 h.2.1
      | [], h => exact h.elim
      | [_], h => exact h.2.elim
      | _ :: _ :: _ :: _, h => exact h.2.2.elim
    · rename_i k e
      rw [e] at h
      match hd : dens C es, h with
      | [p], h => exact ckJoin_ok h0 h.1
      | [], h => exact h.elim
      | _ :: _ :: _, h => exact h.2.elim
    · rename_i e
      rw [e] at h
      match hd : dens C es, h with
      | [], h => exact ckUpper_ok h0
      | _ :: _, h => exact h.elim
    · exact noCk_ok
  | S, .mu m i ps es => by
    have h := cks_ok C S es
    simp only [ck, den]
    split
    · rename_i k e
      rw [e] at h
      match hd : dens C es, h with
      | [p], h => simp only [dens]; exact ckApp_ok h.1
      | [], h => exact h.elim
      | _ :: _ :: _, h => exact h.2.elim
    · rename_i k e
      rw [e] at h
      match hd : dens C es, h with
      | [p], h => simp only [dens]; exact ckExt_ok h.1
      | [], h => exact h.elim
      | _ :: _ :: _, h => exact h.2.elim
    · rename_i e
      rw [e] at h
      match hd : dens C es, h with
      | [], h => simp only [dens]; exact ckPop0_ok
      | _ :: _, h => exact h.elim
    · rename_i k e
      rw [e] at h
      match hd : dens C es, h with
      | [p], h => simp only [dens]; exact ckPop1_ok h.1
      | [], h => exact h.elim
      | _ :: _ :: _, h => exact h.2.elim
    · exact noCk_ok
  | S, .lc elt t k ia cs => by
    simp only [ck, den]
    exact ckLc_ok (cks_ok C S ia) (fun S' => ck_ok C S' elt) (fun S' => cks_ok C S' cs) fun h => by
      simp only [Bool.and_eq_true] at h
      exact ⟨(pureE_ok C h.1).1, pure_cM h.2⟩
  | S, .lct elt t k ia => by
    simp only [ck, den]
    exact ckLct_ok (cks_ok C S ia) (fun S' => ck_ok C S' elt)
  | S, .fs es => by simp only [ck, den]; exact ckFs_ok (cks_ok C S es)
  | S, .tin n a x => by simp only [ck, den]; exact ckTin_ok (ck_ok C S a)
  | S, .tix x a => by simp only [ck, den]; exact ckTix_ok (ck_ok C S a)
  | S, .dc k v t kk ia => by
    simp only [ck, den]
    exact ckDc_ok (cks_ok C S ia) (fun S' => ck_ok C S' k) (fun S' => ck_ok C S' v) fun h => by
      simp only [Bool.and_eq_true] at h
      exact ⟨(pureE_ok C h.1).1, (pureE_ok C h.2).1⟩
theorem cks_ok (C : Cs) : ∀ (S : Sg) (es : List E), CksOk S C (cks S es) (dens C es)
  | S, [] => by simp only [cks, dens]; trivial
  | S, e :: es => by simp only [cks, dens]; exact ⟨ck_ok C S e, cks_ok C S es⟩
end
end Mp
/-! Mq6: stores at places. -/
namespace Mp
open PySem PySem.Spec PyProof.Rows L2

/-! ### what raises nothing -/
def NoEx {α : Type} (f : M α) : Prop := ∀ e n e', f e ≠ .ex n e'
theorem NoEx.bind {α β : Type} {f : M α} {g : α → M β} (hf : NoEx f) (hg : ∀ a, NoEx (g a)) : NoEx (M.bind f g) := fun e n e' h => by
  unfold M.bind at h
  cases e1 : f e with
  | no => rw [e1] at h; cases h
  | ex m e2 => exact hf _ _ _ e1
  | ok a e2 => rw [e1] at h; exact hg a _ _ _ h
theorem NoEx.ret {α : Type} {a : α} : NoEx (M.ret a) := fun _ _ _ h => by cases h
theorem NoEx.opt {α : Type} {a : Option α} : NoEx (M.opt a) := fun _ _ _ h => by
  unfold M.opt at h
  cases a <;> cases h
theorem NoEx.var {i : Nat} : NoEx (varM i) := fun _ _ _ h => by
  unfold varM at h
  split at h <;> cases h
theorem NoEx.evs : ∀ {ps : List (M D × M Bool)}, (∀ p, p ∈ ps → NoEx p.1) → NoEx (evs ps)
  | [], _ => .ret
  | p :: ps, h => (h p List.mem_cons_self).bind fun _ => (NoEx.evs fun q hq => h q (List.mem_cons_of_mem _ hq)).bind fun _ => .ret
mutual
/-- simple: it changes nothing, raises nothing -/
def simE : E → Bool
  | .v _ => true
  | .int _ => true
  | .str _ => true
  | .bl _ => true
  | .g _ => true
  | .bin _ a b => simE a && simE b
  | .neg a => simE a
  | .tup es => simEs es
  | .ix a i => simE a && simE i
  | .bi _ es => simEs es
  | _ => false
def simEs : List E → Bool
  | [] => true
  | e :: es => simE e && simEs es
end
mutual
theorem simE_ok (C : Cs) : ∀ {e : E}, simE e = true → Pure (den C e).1 ∧ NoEx (den C e).1
  | .v _, _ => by simp only [den]; exact ⟨.var, .var⟩
  | .int _, _ => by simp only [den]; exact ⟨.ret, .ret⟩
  | .str _, _ => by simp only [den]; exact ⟨.ret, .ret⟩
  | .bl _, _ => by simp only [den]; exact ⟨.ret, .ret⟩
  | .g _, _ => by simp only [den]; exact ⟨.opt, .opt⟩
  | .bin _ a b, h => by
    simp only [simE, Bool.and_eq_true] at h
    simp only [den]
    exact ⟨(simE_ok C h.1).1.bind fun _ => (simE_ok C h.2).1.bind fun _ => .opt, (simE_ok C h.1).2.bind fun _ => (simE_ok C h.2).2.bind fun _ => .opt⟩
  | .neg a, h => by
    simp only [simE] at h
    simp only [den]
    exact ⟨(simE_ok C h).1.bind fun _ => .opt, (simE_ok C h).2.bind fun _ => .opt⟩
  | .tup es, h => by
    simp only [simE] at h
    simp only [den]
    exact ⟨(simEs_ok C h).1.bind fun _ => .ret, (simEs_ok C h).2.bind fun _ => .ret⟩
  | .ix a i, h => by
    simp only [simE, Bool.and_eq_true] at h
    simp only [den]
    exact ⟨(simE_ok C h.1).1.bind fun _ => (simE_ok C h.2).1.bind fun _ => .opt, (simE_ok C h.1).2.bind fun _ => (simE_ok C h.2).2.bind fun _ => .opt⟩
  | .bi _ es, h => by
    simp only [simE] at h
    simp only [den]
    exact ⟨(simEs_ok C h).1.bind fun _ => .opt, (simEs_ok C h).2.bind fun _ => .opt⟩
theorem simEs_ok (C : Cs) : ∀ {es : List E}, simEs es = true → Pure (evs (dens C es)) ∧ NoEx (evs (dens C es))
  | [], _ => by simp only [dens]; exact ⟨.ret, .ret⟩
  | e :: es, h => by
    simp only [simEs, Bool.and_eq_true] at h
    simp only [dens]
    exact ⟨(simE_ok C h.1).1.bind fun _ => (simEs_ok C h.2).1.bind fun _ => .ret, (simE_ok C h.1).2.bind fun _ => (simEs_ok C h.2).2.bind fun _ => .ret⟩
end
/-- a key's place -/
theorem at_key {K : PySem.W.Frag} {H : Hp} {Z : AS} {ks vs : List D} {k d1 : D} {v0 vk : V} {A Ak : AS} {o ok : Ow} (r : RO K H Z (.ow o) (.dct false ks vs) v0 A) (h : getP (.dct false ks vs) [k] = some d1) (rk : RO K H Z ok k vk Ak) :
    ∃ a x, v0 = .ref a ∧ DGet H a vk (some x) ∧ At H v0 [k] x := by
  rw [getP] at h
  split at h
  · rename_i hk
    obtain ⟨d2, g1, _⟩ := Option.bind_eq_some_iff.mp h
    obtain ⟨a, xs, B, G, rfl, h1, I, _⟩ := r
    obtain ⟨key, rfl, hv⟩ := kd_of hk
    cases hv _ _ _ _ _ _ rk
    obtain ⟨j, j1, j2, _⟩ := dGet_at g1
    obtain ⟨x, hx⟩ : ∃ x, xs[j]? = some x := ⟨_, List.getElem?_eq_getElem (by rw [I.len]; exact (List.getElem?_eq_some_iff.mp j2).1)⟩
    obtain ⟨kvs, e1, hl, gg, _⟩ := dk_get (key := key) h1
    refine ⟨a, x, rfl, ?_, ⟨a, x, rfl, .inr ⟨false, ks, xs, j, h1, j1, hx⟩, rfl⟩⟩
    rw [← gg j x j1 hx]
    exact DGet.k e1
  · cases h

section
variable {X : Cx} {c : Cc} {f g : M D} {ows ows1 ows2 ows' : Ows} {o ok : Ow} {q : Bool} {b idx e : Expr} {pos p1 : Pos}
theorem evs_snoc1 {ps : List (M D × M Bool)} {p : M D × M Bool} {env : Env} (hpu : Pure (evs ps)) : evs (ps ++ [p]) env = match evs ps env with
    | .ok ds _ => (match p.1 env with
      | .ok d e2 => .ok (ds ++ [d]) e2
      | .ex n e2 => .ex n e2
      | .no => .no)
    | .ex n e => .ex n e
    | .no => .no := by
  rw [evs_snoc]
  unfold M.bind
  cases e1 : evs ps env with
  | no => rfl
  | ex => rfl
  | ok ds e2 =>
    have := hpu _ _ _ e1
    subst this
    simp only
    cases p.1 e2 <;> rfl
/-- one step further -/
theorem pl_ix {i n : Nat} {ps : List (M D × M Bool)} {fk : M D × M Bool} (hu : X.A.units + 1 < cLine) (hK : X.K = c.K) (hb : PE X b (tPl c i (evs ps) ows)) (hpl : ∀ e r e', evs ps e = .ok r e' → r.length = n) (hpu : Pure (evs ps)) (hpk : Pure fk.1) (hnx : NoEx fk.1) (hs : noSl idx = true)
    (hk : PE X idx (tR c fk.1 ows ows ok true)) (hd : deepO (owAt ows i) n = true) : PE X (.Subscript b idx pos) (tPl c i (evs (ps ++ [fk])) ows) := by
  refine wPE (pe_ix (r := fun x y H Q => rIxL c.K x y H Q ∨ rIxDc x y H Q) (by rw [← hK]; exact ix_list.or (ix_dict hu)) hb hk (plainIx hs)) fun σ H Q ⟨w, env, hw, sr, z⟩ => ⟨w, env, hw, sr, ?_⟩
  rw [evs_snoc1 hpu] at z
  cases e1 : evs ps env with
  | no => rw [e1] at z; exact z.elim
  | ex n env1 => rw [e1] at z; exact z
  | ok qs env1 =>
    have := hpu _ _ _ e1
    subst this
    rw [e1] at z
    simp only at z
    cases e2 : fk.1 env1 with
    | no => rw [e2] at z; exact z.elim
    | ex m env2 => exact absurd e2 (hnx _ _ _)
    | ok dk env2 =>
      have := hpk _ _ _ e2
      subst this
      rw [e2] at z
      simp only at z
      obtain ⟨_, d, d1, g1, g2, z⟩ := z
      obtain ⟨d0, g3, g4⟩ := getP_snoc g2
      refine ⟨rfl, d, d0, g1, g3, fun w1 v v0 x1 k1 s1 hσ at1 => ?_⟩
      refine ⟨w1, env2, rfl, s1, ?_⟩
      rw [e2]
      intro w2 vk Ak x2 s2 rk k2
      have hqn := hpl _ _ _ e1
      subst hqn
      obtain ⟨o', eo, eo'⟩ := oAt_snoc hd
      obtain ⟨v', v1', A1, p1, p2, p3, _⟩ := s2.place g1 g3 hd
      rw [hσ] at p1
      cases p1
      cases (at1.mono (k2 rfl)).det p2
      rw [eo] at p3
      have fin : ∀ {x : V}, At w2.H v0 [dk] x → Q x w2.H := fun {x} ha => z w2 v x (x1.trans x2) (fun a q e => k2 rfl a q (k1 a q e)) s2 hσ ((at1.mono (k2 rfl)).snoc ha)
      cases d0 with
      | lst ds =>
        cases dk with
        | int j =>
          obtain ⟨a, xs, x, rfl, h1, h2, h3⟩ := at_item p3 g4 (fun _ _ _ h => by cases h)
          exact .inl ⟨a, xs, j, x, rfl, rk.int, SqL.of h1, h2, fin h3⟩
        | _ => simp [getP] at g4
      | dct t ks vs =>
        cases t with
        | true => simp [getP, keyD] at g4
        | false =>
          obtain ⟨a, x, rfl, h1, h2⟩ := at_key p3 g4 rk
          exact .inr ⟨a, x, rfl, h1, fin h2⟩
      | _ => simp [getP] at g4

/-! ### stores -/
theorem M.bind_ok {α β : Type} {f : M α} {g : α → M β} {e e' : Env} {a : α} (h : f e = .ok a e') : M.bind f g e = g a e' := by unfold M.bind; rw [h]
theorem M.bind_ex {α β : Type} {f : M α} {g : α → M β} {e e' : Env} {n : Str} (h : f e = .ex n e') : M.bind f g e = .ex n e' := by unfold M.bind; rw [h]
theorem M.bind_no {α β : Type} {f : M α} {g : α → M β} {e : Env} (h : f e = .no) : M.bind f g e = .no := by unfold M.bind; rw [h]
abbrev rSetA : TSet := fun o i v H Q => rSetL o i v H Q ∨ rSetD o i v H Q
theorem set_A (hu : X.A.units + 1 < cLine) : PSet X rSetA := by
  intro pins s σ H o i v ov iv u Q I ro ri rv h
  rcases h with h | h
  · exact set_list pins s σ H o i v ov iv u Q I ro ri rv h
  · exact set_dict hu pins s σ H o i v ov iv u Q I ro ri rv h
theorem putM_inv {i : Nat} {qs : List D} {k y : D} {env : Env} {d d1 : D} {P : R Fl → Prop} (g1 : getS env i = some d) (g2 : getP d qs = some d1) (z : P (M.bind (putM i qs k y) (fun _ => M.ret .nx) env)) (hno : ¬ P .no) :
    ∃ d1', putI d1 k y = some d1' ∧ ∀ d', setP d qs d1' = some d' → P (.ok .nx (setS env i d')) := by
  unfold putM at z
  simp only [M.bind, getPM_of g1 g2] at z
  cases e : putI d1 k y with
  | none => rw [e] at z; exact absurd z hno
  | some d1' =>
    rw [e] at z
    refine ⟨d1', rfl, fun d' h => ?_⟩
    simp only [M.opt, setPM_of g1 h, M.ret] at z
    exact z
/-- what is stored at a place: the heap, the state behind -/
theorem put_step {i : Nat} {qs : List D} {dk y d d1 d1' : D} {env : Env} {σ : L2.St} {w w0 : Wd} {v v0 vk vy : V} {Ay Ak : AS} {ok : Ow} (s : SR c.K c.pn ows env σ w) (x0 : Ext w0 w) (g1 : getS env i = some d) (g2 : getP d qs = some d1) (hd : deepO (owAt ows i) qs.length = true) (hp : ∀ p, c.pn i = some p → p.2 = none)
    (hσ : σ[i]? = some (some v)) (ha : At w.H v qs v0) (rk : RO c.K w.H w.Z ok dk vk Ak) (ry : RO c.K w.H w.Z (oAt (owAt ows i) (qs.length + 1)) y vy Ay) (ty : Tmp w0 w Ay) (hput : putI d1 dk y = some d1') :
    ∃ d' H', setP d qs d1' = some d' ∧ (∀ Q : Hp → Prop, Q H' → rSetA v0 vk vy w.H Q) ∧ ∃ w', w'.H = H' ∧ SR c.K c.pn ows (setS env i d') σ w' ∧ Ext w0 w' := by
  obtain ⟨o', eo, eo'⟩ := oAt_snoc hd
  rw [eo'] at ry
  obtain ⟨A1, r1, hA1, step⟩ := mut_step s g1 g2 hd hp x0 hσ ha
  rw [eo] at r1
  -- the footprint behind
  have hz : ∀ {B' : AS} {a : Addr}, A1 a → (∀ b, B' b → A1 b ∨ Ay b) → (∀ b, (b = a ∨ B' b) → ¬ w.Z b) := fun {B' a} h h2 b hb => by
    rcases hb with rfl | hb
    · exact s.zf i b (hA1 b h)
    · rcases h2 b hb with h | h
      · exact s.zf i b (hA1 b h)
      · exact ty.z b h
  have hf : ∀ {B' : AS} {a : Addr}, A1 a → (∀ b, B' b → A1 b ∨ Ay b) → (∀ b j, (b = a ∨ B' b) → w.F j b → A1 b) := fun {B' a} h h2 b j hb hj => by
    rcases hb with rfl | hb
    · exact h
    · rcases h2 b hb with h | h
      · exact h
      · exact absurd hj (ty.f b j h)
  have hn : ∀ {B' : AS} {a : Addr}, A1 a → (∀ b, B' b → A1 b ∨ Ay b) → (∀ b, (b = a ∨ B' b) → (∃ j, w0.F j b) ∨ w0.H b = none) := fun {B' a} h h2 b hb => by
    rcases hb with rfl | hb
    · exact x0.nw i b (hA1 b h)
    · rcases h2 b hb with h | h
      · exact x0.nw i b (hA1 b h)
      · exact ty.nw b h
  -- data under the written thing stay
  have st : ∀ {a : Addr} {q0 q' : HO} {A : AS}, w.H a = some q0 → mutO q0 = true → A1 a → ¬ A a → ∀ b q, w.H b = some q → (w.Z b ∨ A b ∨ mutO q = false) → L2.upd w.H a q' b = some q := fun {a q0 q' A} e m h1 h2 b q eb zz => by
    rw [upd_ne]
    · exact eb
    · rintro rfl
      rcases zz with zz | zz | zz
      · exact s.zf i b (hA1 b h1) zz
      · exact h2 zz
      · rw [e] at eb; cases eb; rw [m] at zz; cases zz
  have nAy : ∀ {b : Addr}, A1 b → ¬ Ay b := fun {b} h h2 => ty.f b i h2 (hA1 b h)
  cases d1 with
  | lst ds =>
    cases dk with
    | int j =>
      obtain ⟨jj, hj, rfl⟩ := Option.map_eq_some_iff.mp (show (ixN ds.length j).map (fun j => D.lst (ds.set j y)) = some d1' from hput)
      obtain ⟨l, zs, B, G, rfl, hl, I, nb, hA⟩ := r1
      have hA1l : A1 l := (hA l).mpr (.inl rfl)
      have hjl : jj < ds.length := by
        unfold ixN at hj
        split at hj
        · split at hj
          · cases hj; omega
          · cases hj
        · split at hj
          · cases hj; omega
          · cases hj
      have gB : ∀ b, G jj b → B b := fun b g => (I.some_ b).mpr ⟨jj, hjl, g⟩
      have I' := I.setAt (R' := RO c.K (L2.upd w.H l (.lst (zs.set jj vy))) w.Z o') (d' := y) (x' := vy) hjl (fun k d x hk e1 e2 rx => rx.keep (fun _ z => z) (st (q0 := .lst zs) hl rfl hA1l fun g => nb ((I.some_ l).mpr ⟨k, (List.getElem?_eq_some_iff.mp e1).1, g⟩)))
        (ry.keep (fun _ z => z) (st (q0 := .lst zs) hl rfl hA1l (nAy hA1l))) (fun k a hk hkl h1 h2 => nAy ((hA a).mpr (.inr ((I.some_ a).mpr ⟨k, hkl, h2⟩))) h1)
      have hB' : ∀ b, ((B b ∧ ¬ G jj b) ∨ Ay b) → A1 b ∨ Ay b := fun b h => h.imp (fun h => (hA b).mpr (.inr h.1)) id
      obtain ⟨d', s1, s2, s3⟩ := step (H' := L2.upd w.H l (.lst (zs.set jj vy))) (d1' := .lst (ds.set jj y)) (A1' := fun a => a = l ∨ ((B a ∧ ¬ G jj a) ∨ Ay a)) (kp_upd (w := w) (A1 := A1) hA1l).1 (kp_upd (w := w) (A1 := A1) hA1l).2
        (by rw [eo]; exact ⟨l, _, _, _, rfl, upd_same, I', fun h => h.elim (fun h => nb h.1) (nAy hA1l), fun b => Iff.rfl⟩) (hz hA1l hB') (hf hA1l hB') (hn hA1l hB')
      exact ⟨d', _, s1, fun Q q => .inl ⟨l, zs, j, jj, rfl, rk.int, hl, by rw [I.len]; exact hj, q⟩, _, rfl, s2, s3⟩
    | _ => simp [putI] at hput
  | dct t ks vs =>
    cases t with
    | true => simp [putI, keyD] at hput
    | false =>
      simp only [putI] at hput
      split at hput
      · rename_i hkk
        cases hput
        simp only [Bool.and_eq_true, decide_eq_true_eq] at hkk
        obtain ⟨key, rfl, hv⟩ := kd_of hkk.1
        cases hv _ _ _ _ _ _ rk
        obtain ⟨a, xs, B, G, rfl, hl, I, nb, hA⟩ := r1
        have hA1l : A1 a := (hA a).mpr (.inl rfl)
        have hvl : vs.length = ks.length := by
          rw [← I.len]
          obtain ⟨_, ⟨_, kvs, _, e2, e3⟩ | ⟨z, _⟩⟩ := hl
          · rw [e2, e3]; simp
          · cases z
        obtain ⟨kvs, e1, e2, e3⟩ := dk_put (key := key) hl hvl y vy
        have hset : ∀ Q : Hp → Prop, Q (L2.upd w.H a (.dK (putK kvs key vy))) → rSetA (.ref a) (kV key) vy w.H Q := fun Q q => .inr ⟨a, _, rfl, DPut.k e1 (by rw [e2, ← sz_eq]; exact hkk.2), q⟩
        rcases e3 (H' := L2.upd w.H a (.dK (putK kvs key vy))) upd_same with ⟨j, hj, hdp, hdc⟩ | ⟨hj, hdp, hdc⟩
        · have hjl : j < vs.length := by rw [hvl]; exact (List.getElem?_eq_some_iff.mp hj).1
          have I' := I.setAt (R' := RO c.K (L2.upd w.H a (.dK (putK kvs key vy))) w.Z o') (d' := y) (x' := vy) hjl (fun k d x hk e1' e2' rx => rx.keep (fun _ z => z) (st (q0 := .dK kvs) e1 rfl hA1l fun g => nb ((I.some_ a).mpr ⟨k, (List.getElem?_eq_some_iff.mp e1').1, g⟩)))
            (ry.keep (fun _ z => z) (st (q0 := .dK kvs) e1 rfl hA1l (nAy hA1l))) (fun k b hk hkl h1 h2 => nAy ((hA b).mpr (.inr ((I.some_ b).mpr ⟨k, hkl, h2⟩))) h1)
          have hB' : ∀ b, ((B b ∧ ¬ G j b) ∨ Ay b) → A1 b ∨ Ay b := fun b h => h.imp (fun h => (hA b).mpr (.inr h.1)) id
          rw [hdp]
          obtain ⟨d', s1, s2, s3⟩ := step (H' := L2.upd w.H a (.dK (putK kvs key vy))) (d1' := .dct false ks (vs.set j y)) (A1' := fun b => b = a ∨ ((B b ∧ ¬ G j b) ∨ Ay b)) (kp_upd (w := w) (A1 := A1) hA1l).1 (kp_upd (w := w) (A1 := A1) hA1l).2
            (by rw [eo]; exact ⟨a, _, _, _, rfl, hdc, I', fun h => h.elim (fun h => nb h.1) (nAy hA1l), fun b => Iff.rfl⟩) (hz hA1l hB') (hf hA1l hB') (hn hA1l hB')
          exact ⟨d', _, s1, hset, _, rfl, s2, s3⟩
        · have I' := (I.keep (H' := L2.upd w.H a (.dK (putK kvs key vy))) (Z' := w.Z) (fun _ z => z) (st (q0 := .dK kvs) e1 rfl hA1l nb)).snoc (d := y) (x := vy) (A := Ay) (ry.keep (fun _ z => z) (st (q0 := .dK kvs) e1 rfl hA1l (nAy hA1l))) (fun b h1 h2 => nAy ((hA b).mpr (.inr h2)) h1)
          have hB' : ∀ b, (B b ∨ Ay b) → A1 b ∨ Ay b := fun b h => h.imp (fun h => (hA b).mpr (.inr h)) id
          rw [hdp]
          obtain ⟨d', s1, s2, s3⟩ := step (H' := L2.upd w.H a (.dK (putK kvs key vy))) (d1' := .dct false (ks ++ [kD key]) (vs ++ [y])) (A1' := fun b => b = a ∨ (B b ∨ Ay b)) (kp_upd (w := w) (A1 := A1) hA1l).1 (kp_upd (w := w) (A1 := A1) hA1l).2
            (by rw [eo]; exact ⟨a, _, _, _, rfl, hdc, I', fun h => h.elim nb (nAy hA1l), fun b => Iff.rfl⟩) (hz hA1l hB') (hf hA1l hB') (hn hA1l hB')
          exact ⟨d', _, s1, hset, _, rfl, s2, s3⟩
      · cases hput
  | _ => simp [putI] at hput
theorem assign_sub {o i : Expr} {pos : Pos} {env : PySem.Env} (h : noSl i = true) (v : Value) : assign (.Subscript o i pos) env v = (do
      let ov ← holding [v] (eval o env)
      let iv ← holding [v, ov] (eval i env)
      standAt pos
      holding [v, ov, iv] (setItem ov iv v)
      release [v, ov, iv] []) := by
  cases i <;> first | rfl | cases h
theorem ps_putM {i n : Nat} {ps : List (M D × M Bool)} {fk fe : M D × M Bool} (hu : X.A.units + 1 < cLine) (hb : PE X b (tPl c i (evs ps) ows1)) (hpl : ∀ e r e', evs ps e = .ok r e' → r.length = n) (hpu : Pure (evs ps)) (hpk : Pure fk.1) (hnx : NoEx fk.1) (hs : noSl idx = true)
    (he : PE X e (tV c fe.1 ows ows1 (oAt (owAt ows1 i) (n + 1)) q)) (hk : PE X idx (tR c fk.1 ows1 ows1 ok true)) (hd : deepO (owAt ows1 i) n = true) (hp : ∀ p, c.pn i = some p → p.2 = none) :
    PS X (.Assign [.Subscript b idx p1] e pos) (tS c (M.bind fe.1 fun y => M.bind (evs (ps ++ [fk])) fun qs => match qs.getLast? with
      | none => fun _ => .no
      | some k => M.bind (putM i qs.dropLast k y) fun _ => M.ret .nx) ows (some ows1) none none) := by
  refine wPS (ps_asg he (pg_sub hb hk (set_A hu) (assign_sub hs)) (by cases e <;> rfl)) fun D σ H z0 => ?_
  obtain ⟨w, env, hw, sr, z⟩ := tS_iff.mp z0
  clear z0
  subst hw
  refine ⟨w, env, rfl, sr, ?_⟩
  cases e1 : fe.1 env with
  | no => rw [M.bind_no e1] at z; exact z
  | ex m env1 => rw [M.bind_ex e1] at z; exact fun w' x s => z w' σ x s
  | ok y env1 =>
    rw [M.bind_ok e1] at z
    intro w1 vy Ay x1 s1 r1 t1 _
    refine ⟨w1, env1, rfl, s1, ?_⟩
    have es := evs_snoc1 (p := fk) (env := env1) hpu
    cases e2 : evs ps env1 with
    | no =>
      rw [e2] at es
      rw [M.bind_no es] at z; exact z
    | ex m env2 =>
      rw [e2] at es
      rw [M.bind_ex es] at z
      exact fun w' x s => z w' σ (x1.trans x) s
    | ok qs env2 =>
      have := hpu _ _ _ e2
      subst this
      rw [e2] at es
      simp only at es
      cases e3 : fk.1 env2 with
      | no =>
        rw [e3] at es
        rw [M.bind_no es] at z; exact z.elim
      | ex m env3 => exact absurd e3 (hnx _ _ _)
      | ok dk env3 =>
        have := hpk _ _ _ e3
        subst this
        rw [e3] at es
        rw [M.bind_ok es] at z
        simp only [List.getLast?_append, List.getLast?_singleton, Option.some_or, List.dropLast_concat] at z
        obtain ⟨d, d1, g1, g2, _⟩ | g3 := getPM_inv (e := env3) (i := i) (qs := qs)
        · obtain ⟨d1', h1, h2⟩ := putM_inv (P := tSz c w σ D (some ows1) none none) g1 g2 z (fun h => h)
          refine ⟨rfl, d, d1, g1, g2, fun w2 v v0 x2 k2 s2 hσ at2 => ?_⟩
          refine ⟨w2, env3, rfl, s2, ?_⟩
          rw [e3]
          intro w3 vk Ak x3 s3 rk k3
          have hqn := hpl _ _ _ e2
          subst hqn
          have r3 := RO.ext s1 t1.f (x2.trans x3) r1
          have t3 := Tmp.ext s1 t1 (fun a ha => r1.ne a ha) x1 (x2.trans x3)
          obtain ⟨d', H', f1, f2, w4, rfl, f3, f4⟩ := put_step s3 ((x1.trans x2).trans x3) g1 g2 hd hp hσ (at2.mono (k3 rfl)) rk r3 t3 h1
          exact f2 _ (h2 d' f1 w4 σ f4 ⟨_, rfl, f3⟩)
        · unfold putM at z
          simp only [M.bind, g3] at z
          exact z.elim
end
end Mp
/-! Mq7: x += e, x[..] += e; stores, checked. -/
namespace Mp
open PySem PySem.Spec PyProof.Rows L2

theorem get_list {X : Cx} : PGet X (rIxL X.K) := by
  intro pins s σ H x y v u Q I rx ry h
  obtain ⟨p, xs, i, z, rfl, rfl, hq, he, q⟩ := h
  cases rx
  obtain ⟨t, rfl⟩ := ry
  obtain ⟨its, r, pl, hz⟩ := I.list hq
  obtain ⟨j, h1, h2, h3, h4, h5⟩ := atI_get he
  obtain ⟨w, ew, rw'⟩ := r.get h2
  have hl := r.length
  have hn := line63
  have fin : EP X pins σ Q w s := ⟨z, H, I, rw', q⟩
  by_cases h0 : 0 ≤ i
  · have hj : i.toNat = j := by
      rw [seqIndex_of h0 h5] at h1
      exact Option.some.inj h1
    exact wpAny_getItem_list pl.isList h0 (by omega) (by rw [hj]; simpa using ew) fin
  · have hj : (i + (its.toArray.size : Int)).toNat = j := by
      rw [seqIndex_neg (by omega) h4] at h1
      rw [List.size_toArray, ← hl]
      exact Option.some.inj h1
    exact wpAny_getItem_list_neg pl.isList (by omega) (by rw [List.size_toArray] <;> omega) (by omega) (by rw [hj]; simpa using ew) fin
abbrev rGetA (K : PySem.W.Frag) : V → V → Hp → VK → Prop := fun x y H Q => rIxL K x y H Q ∨ rIxDc x y H Q
theorem get_A {X : Cx} (hu : X.A.units + 1 < cLine) : PGet X (rGetA X.K) := by
  intro pins s σ H x y v u Q I rx ry h
  rcases h with h | ⟨a, r, rfl, g, q⟩
  · exact get_list pins s σ H x y v u Q I rx ry h
  · cases rx
    exact d_getItem hu I g ry fun w' s' I' rw' => ⟨r, H, I', rw', q⟩
def augOp : BO → Option Operator
  | .add => some .Add
  | .sub => some .Sub
  | .mul => some .Mult
  | _ => none
abbrev ipA (k : BO) : TIp := fun x y H Q => ∃ i j z, x = .int i ∧ y = .int j ∧ augD k (.int i) (.int j) = some (.int z) ∧ Q (.int z) H
theorem ip_A {X : Cx} {k : BO} {op : Operator} (h : augOp k = some op) : PIp X op (ipA k) := by
  intro pins s σ H x y v u Q I r1 r2 ⟨i, j, z, e1, e2, e3, q⟩
  cases k <;> simp only [augOp, reduceCtorEq, Option.some.injEq] at h
  · subst h
    cases e3
    exact ip_add pins s σ H x y v u Q I r1 r2 ⟨i, j, e1, e2, q⟩
  · subst h
    cases e3
    exact ip_sub pins s σ H x y v u Q I r1 r2 ⟨i, j, e1, e2, q⟩
  · subst h
    simp only [augD, binD] at e3
    split at e3
    · rename_i hw
      cases e3
      exact iop_mul pins s σ H x y v u Q I r1 r2 ⟨i, j, e1, e2, w64_ok hw, q⟩
    · cases e3
theorem augD_int {k : BO} {x y z : D} (h : augD k x y = some z) {op : Operator} (ho : augOp k = some op) : ∃ i j r, x = .int i ∧ y = .int j ∧ z = .int r := by
  cases x <;> cases y <;> simp only [augD, reduceCtorEq] at h
  cases k <;> simp only [augOp, reduceCtorEq] at ho
  · cases h; exact ⟨_, _, _, rfl, rfl, rfl⟩
  · cases h; exact ⟨_, _, _, rfl, rfl, rfl⟩
  · simp only [binD] at h
    split at h
    · cases h; exact ⟨_, _, _, rfl, rfl, rfl⟩
    · cases h
section
variable {X : Cx} {c : Cc} {f g : M D} {ows ows1 ows2 ows' : Ows} {o ok oe : Ow} {q : Bool} {b idx e : Expr} {pos p1 : Pos}
/-- x += e -/
theorem ps_augM {i : Nat} {x : Str} {px : Pos} {k : BO} {op : Operator} {fe : M D} (hN : X.N.Nodup) (hi : X.N[i]? = some x) (hx : Loc X.env.scope x) (hf : X.fn x = true ∨ X.env.scope.names.lookup x = some .local) (hp : c.pn i = none) (hl : i < ows1.length) (ho : augOp k = some op) (hpu : Pure fe) (he : PE X e (tR c fe ows ows1 oe q)) :
    PS X (.AugAssign (.Name x px) op e pos) (tS c (M.bind (varM i) fun x => M.bind fe fun y => M.bind (M.opt (augD k x y)) fun z => fun s => .ok .nx (setS s i z)) ows (some (ows1.set i (.ow .fr))) none none) := by
  refine wPS (ps_aug hN hi hx he (ip_A ho) hf) fun D σ H z0 => ?_
  obtain ⟨w, env, hw, sr, z⟩ := tS_iff.mp z0
  clear z0
  subst hw
  cases e1 : getS env i with
  | none => rw [M.bind_no (show varM i env = .no by unfold varM; rw [e1])] at z; exact z.elim
  | some d =>
    rw [M.bind_ok (show varM i env = .ok d env by unfold varM; rw [e1])] at z
    obtain ⟨v, h1, h2⟩ := sr.at_ i d e1
    refine ⟨v, h1, w, env, rfl, sr, ?_⟩
    cases e2 : fe env with
    | no => rw [M.bind_no e2] at z; exact z
    | ex n env1 => rw [M.bind_ex e2] at z; exact fun w' x s => z w' σ x s
    | ok y env1 =>
      have := hpu _ _ _ e2
      subst this
      rw [M.bind_ok e2] at z
      intro w1 vy Ay x1 s1 r1 k1
      cases e3 : augD k d y with
      | none => rw [e3] at z; exact z.elim
      | some zz =>
        rw [e3] at z
        obtain ⟨a, b, r, rfl, rfl, rfl⟩ := augD_int e3 ho
        have hv : v = .int a := h2.int
        subst hv
        exact ⟨a, b, r, rfl, r1.int, e3, z (w1.put i fun _ => False) _ (Ext.put x1 Tmp.nil) ⟨_, rfl, s1.put i hp (fun j hj => owAt_set hj) (owAt_self' hl) RO.mkint (fun _ h => h.elim) (fun _ _ h => h.elim)⟩⟩
theorem augStore_no {i : Expr} (h : noSl i = true) : ∀ ov iv new, augStore i ov iv new = (do holding [new, ov, iv] (setItem ov iv new); release [new, ov, iv] []; pure .next) := by
  intros
  cases i <;> first | rfl | cases h
/-- x[..] += e -/
theorem ps_augPM {i n : Nat} {ps : List (M D × M Bool)} {fk fe : M D × M Bool} {k : BO} {op : Operator} (hu : X.A.units + 1 < cLine) (hK : X.K = c.K) (ho : augOp k = some op) (hb : PE X b (tPl c i (evs ps) ows)) (hpl : ∀ e r e', evs ps e = .ok r e' → r.length = n) (hpu : Pure (evs ps)) (hpk : Pure fk.1) (hnx : NoEx fk.1) (hpe : Pure fe.1) (hne : NoEx fe.1) (hs : noSl idx = true)
    (he : PE X e (tR c fe.1 ows ows oe true)) (hk : PE X idx (tR c fk.1 ows ows ok true)) (hd : deepO (owAt ows i) n = true) (hp : ∀ p, c.pn i = some p → p.2 = none) :
    PS X (.AugAssign (.Subscript b idx p1) op e pos) (tS c (M.bind (evs (ps ++ [fk])) fun qs => match qs.getLast? with
      | none => fun _ => .no
      | some kk => M.bind (getPM i qs.dropLast) fun d => M.bind (M.opt (ixD d kk)) fun x => M.bind fe.1 fun y => M.bind (M.opt (augD k x y)) fun z => M.bind (putM i qs.dropLast kk z) fun _ => M.ret .nx) ows (some ows) none none) := by
  refine wPS (ps_augS hb hk (get_A hu) he (ip_A ho) (set_A hu) (augStore_no hs)) fun D σ H z0 => ?_
  obtain ⟨w, env, hw, sr, z⟩ := tS_iff.mp z0
  clear z0
  subst hw
  refine ⟨w, env, rfl, sr, ?_⟩
  have es := evs_snoc1 (p := fk) (env := env) hpu
  cases e2 : evs ps env with
  | no =>
    rw [e2] at es
    rw [M.bind_no es] at z; exact z
  | ex m env2 =>
    rw [e2] at es
    rw [M.bind_ex es] at z
    exact fun w' x s => z w' σ x s
  | ok qs env2 =>
    have := hpu _ _ _ e2
    subst this
    rw [e2] at es
    simp only at es
    cases e3 : fk.1 env2 with
    | no =>
      rw [e3] at es
      rw [M.bind_no es] at z; exact z.elim
    | ex m env3 => exact absurd e3 (hnx _ _ _)
    | ok dk env3 =>
      have := hpk _ _ _ e3
      subst this
      rw [e3] at es
      rw [M.bind_ok es] at z
      simp only [List.getLast?_append, List.getLast?_singleton, Option.some_or, List.dropLast_concat] at z
      obtain ⟨d, d1, g1, g2, g3⟩ | g3 := getPM_inv (e := env3) (i := i) (qs := qs)
      · rw [M.bind_ok g3] at z
        cases e4 : ixD d1 dk with
        | none => rw [e4] at z; exact z.elim
        | some x =>
          rw [e4, M.bind_ok (show M.opt (some x) env3 = .ok x env3 from rfl)] at z
          cases e5 : fe.1 env3 with
          | no => rw [M.bind_no e5] at z; exact z.elim
          | ex m env4 => exact absurd e5 (hne _ _ _)
          | ok y env4 =>
            have := hpe _ _ _ e5
            subst this
            rw [M.bind_ok e5] at z
            cases e6 : augD k x y with
            | none => rw [e6] at z; exact z.elim
            | some zz =>
              rw [e6, M.bind_ok (show M.opt (some zz) env4 = .ok zz env4 from rfl)] at z
              obtain ⟨ia, ib, ir, rfl, rfl, rfl⟩ := augD_int e6 ho
              obtain ⟨d1', h1, h2⟩ := putM_inv (P := tSz c w σ D (some ows) none none) g1 g2 z (fun h => h)
              refine ⟨rfl, d, d1, g1, g2, fun w2 v v0 x2 k2 s2 hσ at2 => ?_⟩
              refine ⟨w2, env4, rfl, s2, ?_⟩
              rw [e3]
              intro w3 vk Ak x3 s3 rk k3
              have hqn := hpl _ _ _ e2
              subst hqn
              have at3 := at2.mono (k3 rfl)
              obtain ⟨o', eo, eo'⟩ := oAt_snoc hd
              -- what stands there
              have get : ∀ {Q : VK}, Q (.int ia) w3.H → rGetA X.K v0 vk w3.H Q := fun {Q} hQ => by
                obtain ⟨v', v1', A1, p1, p2, p3, _⟩ := s3.place g1 g2 hd
                rw [hσ] at p1
                cases p1
                cases at3.det p2
                rw [eo] at p3
                cases d1 with
                | lst ds =>
                  cases dk with
                  | int j =>
                    obtain ⟨a, xs, B, G, rfl, hl, I, _⟩ := p3
                    obtain ⟨jj, j1, j2⟩ := atI_at (show atI ds j = some (.int ia) from e4)
                    obtain ⟨xx, hx⟩ : ∃ xx, xs[jj]? = some xx := ⟨_, List.getElem?_eq_getElem (by rw [I.len]; exact (List.getElem?_eq_some_iff.mp j2).1)⟩
                    have hxx := (I.at_ jj _ xx j2 hx).int
                    subst hxx
                    exact .inl ⟨a, xs, j, .int ia, rfl, rk.int, SqL.of hl, by unfold atI; rw [I.len, j1]; exact hx, hQ⟩
                  | _ => cases e4
                | dct t ks vs =>
                  cases t with
                  | true => cases e4
                  | false =>
                    simp only [ixD] at e4
                    split at e4
                    · rename_i hk2
                      obtain ⟨key, rfl, hv⟩ := kd_of hk2
                      cases hv _ _ _ _ _ _ rk
                      obtain ⟨a, xs, B, G, rfl, hl, I, _⟩ := p3
                      obtain ⟨j, j1, j2, _⟩ := dGet_at e4
                      obtain ⟨xx, hx⟩ : ∃ xx, xs[j]? = some xx := ⟨_, List.getElem?_eq_getElem (by rw [I.len]; exact (List.getElem?_eq_some_iff.mp j2).1)⟩
                      have hxx := (I.at_ j _ xx j2 hx).int
                      subst hxx
                      obtain ⟨kvs, e1, hl', gg, _⟩ := dk_get (key := key) hl
                      refine .inr ⟨a, .int ia, rfl, ?_, hQ⟩
                      rw [← gg j _ j1 hx]
                      exact DGet.k e1
                    · cases e4
                | _ => simp [putI] at h1
              refine get ⟨w3, env4, rfl, s3, ?_⟩
              rw [e5]
              intro w4 vy Ay x4 s4 ry k4
              have rk4 : RO c.K w4.H w4.Z ok dk vk Ak := rk.keep x4.z fun a q e _ => k4 rfl a q e
              obtain ⟨d', H', f1, f2, w5, rfl, f3, f4⟩ := put_step (y := .int ir) (Ay := fun _ => False) s4 ((x2.trans x3).trans x4) g1 g2 hd hp hσ (at3.mono (k4 rfl)) rk4 RO.mkint Tmp.nil h1
              exact ⟨ia, ib, ir, rfl, ry.int, e6, f2 _ (h2 d' f1 w5 σ f4 ⟨_, rfl, f3⟩)⟩
      · unfold M.bind at z
        rw [g3] at z
        exact z.elim
end

/-! ### checked -/
def vAugS : Stmt → Option (Expr × Operator × Expr)
  | .AugAssign t k e _ => some (t, k, e)
  | _ => none
theorem vAugS_eq {s : Stmt} {r : Expr × Operator × Expr} (h : vAugS s = some r) : ∃ p, s = .AugAssign r.1 r.2.1 r.2.2 p := by
  unfold vAugS at h
  split at h
  · cases h; exact ⟨_, rfl⟩
  · cases h
def vAsgS : Stmt → Option (Expr × Expr)
  | .Assign [t] e _ => some (t, e)
  | _ => none
theorem vAsgS_eq {s : Stmt} {r : Expr × Expr} (h : vAsgS s = some r) : ∃ p, s = .Assign [r.1] r.2 p := by
  unfold vAsgS at h
  split at h
  · cases h; exact ⟨_, rfl⟩
  · cases h
/-- a step of a place: looked at, nothing changed -/
def stepOk (E1 : E) (k : Ck) (idx : Expr) (ows : Ows) : Bool := simE E1 && (noSl idx && (match k.r idx ows with
  | some x => x.2.2 && decide (x.1 = ows)
  | none => false))
/-- the thing that holds the place -/
def plOk (S : Sg) (i : Nat) : List E → List Ck → Expr → Ows → Bool
  | [], [], b, _ => nmOk S i b
  | [E1], [k], b, ows => (match vSub b with
    | some s => nmOk S i s.1 && (stepOk E1 k s.2 ows && deepO (owAt ows i) 0)
    | none => false)
  | _, _, _, _ => false
section
variable {S : Sg} {C : Cs} {X : Cx} {c : Cc}
theorem stepOk_ok (G : GOk X c C S) {E1 : E} {k : Ck} {idx : Expr} {ows : Ows} (hk : CkOk S C k (den C E1)) (h : stepOk E1 k idx ows = true) : Pure (den C E1).1 ∧ NoEx (den C E1).1 ∧ noSl idx = true ∧ ∃ ok, PE X idx (tR c (den C E1).1 ows ows ok true) := by
  unfold stepOk at h
  simp only [Bool.and_eq_true] at h
  obtain ⟨h1, h2, h3⟩ := h
  split at h3
  · rename_i x ex
    simp only [Bool.and_eq_true, decide_eq_true_eq] at h3
    have := (hk X c G).2.1 _ _ x ex
    rw [h3.1, h3.2] at this
    exact ⟨(simE_ok C h1).1, (simE_ok C h1).2, h2, _, this⟩
  · cases h3
theorem plOk_ok (G : GOk X c C S) {i : Nat} : ∀ {Es : List E} {ks : List Ck} {b : Expr} {ows : Ows}, CksOk S C ks (dens C Es) → plOk S i Es ks b ows = true → PE X b (tPl c i (evs (dens C Es)) ows) ∧ Pure (evs (dens C Es)) ∧ ∀ e r e', evs (dens C Es) e = .ok r e' → r.length = Es.length
  | [], [], b, ows, _, h => by
    obtain ⟨x, p, rfl, n1, n2, n3, n4⟩ := nmOk_eq G (show nmOk S i b = true from h)
    simp only [dens]
    exact ⟨pl_nil n1 n2 n3 n4, .ret, fun e r e' h => by cases h; rfl⟩
  | [E1], [k], b, ows, hs, h => by
    simp only [plOk] at h
    split at h
    · rename_i s hv
      simp only [Bool.and_eq_true] at h
      obtain ⟨h1, h2, h3⟩ := h
      obtain ⟨p, rfl⟩ := vSub_eq hv
      obtain ⟨x, p', e1, n1, n2, n3, n4⟩ := nmOk_eq G h1
      simp only [dens] at hs ⊢
      obtain ⟨g1, g2, g3, ok, g4⟩ := stepOk_ok G hs.1 h2
      rw [e1]
      refine ⟨pl_ix (n := 0) (ps := []) (by have := G.hu; omega) G.K (pl_nil n1 n2 n3 n4) (fun e r e' h => by cases h; rfl) .ret g1 g2 g3 g4 h3, g1.bind fun _ => Pure.ret.bind fun _ => .ret, fun e r e' h => ?_⟩
      rw [evs_len h]; rfl
    · cases h
  | [], _ :: _, _, _, _, h => by cases h
  | _ :: _, [], _, _, hs, _ => by simp only [dens] at hs; exact hs.elim
  | _ :: _ :: _, [_], _, _, hs, _ => by simp only [dens] at hs; exact hs.2.elim
  | _ :: _ :: _, _ :: _ :: _, _, _, _, h => by cases h
  | [_], _ :: _ :: _, _, _, hs, _ => by simp only [dens] at hs; exact hs.2.elim
def csPut (S : Sg) (i : Nat) (Es : List E) (ks : List Ck) (El : E) (kl : Ck) (k : Ck) : Stmt → Ows → Option Ows := fun st ows => match vAsgS st with
  | some a => (match vSub a.1, k.v a.2 ows with
    | some s, some x => if (plOk S i Es ks s.1 x.1 && (stepOk El kl s.2 x.1 && (deepO (owAt x.1 i) Es.length && ((decide (x.2.1 = oAt (owAt x.1 i) (Es.length + 1)) || decide (oAt (owAt x.1 i) (Es.length + 1) = .fr)) && !S.pinw.contains i)))) = true then some x.1 else none
    | _, _ => none)
  | none => none
theorem dens_app {C : Cs} : ∀ {a b : List E}, dens C (a ++ b) = dens C a ++ dens C b
  | [], b => by simp [dens]
  | e :: a, b => by simp [dens, dens_app]
theorem csPut_ok (G : GOk X c C S) {i : Nat} {Es : List E} {ks : List Ck} {El : E} {kl k : Ck} {p : M D × M Bool} (hs : CksOk S C ks (dens C Es)) (hl : CkOk S C kl (den C El)) (hk : CkOk S C k p) {st : Stmt} {ows r : Ows} (h : csPut S i Es ks El kl k st ows = some r) :
    PS X st (tS c (M.bind p.1 fun y => M.bind (evs (dens C (Es ++ [El]))) fun qs => match qs.getLast? with
      | none => fun _ => .no
      | some k => M.bind (putM i qs.dropLast k y) fun _ => M.ret .nx) ows (some r) none none) := by
  unfold csPut at h
  split at h
  · rename_i a ha
    split at h
    · rename_i s x hv ex
      split at h
      · rename_i hn
        cases h
        simp only [Bool.and_eq_true, Bool.or_eq_true, decide_eq_true_eq, Bool.not_eq_true'] at hn
        obtain ⟨n1, n2, n3, n4, n5⟩ := hn
        obtain ⟨pos, rfl⟩ := vAsgS_eq ha
        obtain ⟨p2, e1⟩ := vSub_eq hv
        obtain ⟨q1, q2, q3⟩ := plOk_ok G hs n1
        obtain ⟨g1, g2, g3, ok, g4⟩ := stepOk_ok G hl n2
        rw [e1, dens_app]
        have hv := (hk X c G).1 _ _ x ex
        have hv' : PE X a.2 (tV c p.1 ows x.1 (oAt (owAt x.1 i) (Es.length + 1)) x.2.2) := by
          rcases n4 with z | z
          · rw [← z]; exact hv
          · rw [z]; exact keep_fr hv
        simp only [dens]
        exact ps_putM (n := Es.length) (by have := G.hu; omega) q1 q3 q2 g1 g2 g3 hv' g4 n3 (G.pw i (by simpa using n5))
      · cases h
    · cases h
  · cases h
def csAugP (S : Sg) (i : Nat) (Es : List E) (ks : List Ck) (El : E) (kl : Ck) (k0 : BO) (Ee : E) (k : Ck) : Stmt → Ows → Option Ows := fun st ows => match vAugS st with
  | some a => (match vSub a.1 with
    | some s => if (plOk S i Es ks s.1 ows && (stepOk El kl s.2 ows && (deepO (owAt ows i) Es.length && (stepOk Ee k a.2.2 ows && (decide (augOp k0 = some a.2.1) && !S.pinw.contains i))))) = true then some ows else none
    | none => none)
  | none => none
theorem csAugP_ok (G : GOk X c C S) {i : Nat} {Es : List E} {ks : List Ck} {El Ee : E} {kl k : Ck} {k0 : BO} (hs : CksOk S C ks (dens C Es)) (hl : CkOk S C kl (den C El)) (hk : CkOk S C k (den C Ee)) {st : Stmt} {ows r : Ows} (h : csAugP S i Es ks El kl k0 Ee k st ows = some r) :
    PS X st (tS c (M.bind (evs (dens C (Es ++ [El]))) fun qs => match qs.getLast? with
      | none => fun _ => .no
      | some kk => M.bind (getPM i qs.dropLast) fun d => M.bind (M.opt (ixD d kk)) fun x => M.bind (den C Ee).1 fun y => M.bind (M.opt (augD k0 x y)) fun z => M.bind (putM i qs.dropLast kk z) fun _ => M.ret .nx) ows (some r) none none) := by
  unfold csAugP at h
  split at h
  · rename_i a ha
    split at h
    · rename_i s hv
      split at h
      · rename_i hn
        cases h
        simp only [Bool.and_eq_true, decide_eq_true_eq, Bool.not_eq_true'] at hn
        obtain ⟨n1, n2, n3, n4, n5, n6⟩ := hn
        obtain ⟨pos, rfl⟩ := vAugS_eq ha
        obtain ⟨p2, e1⟩ := vSub_eq hv
        obtain ⟨q1, q2, q3⟩ := plOk_ok G hs n1
        obtain ⟨g1, g2, g3, ok, g4⟩ := stepOk_ok G hl n2
        obtain ⟨f1, f2, f3, oe, f4⟩ := stepOk_ok G hk n4
        rw [e1, dens_app]
        simp only [dens]
        exact ps_augPM (n := Es.length) (by have := G.hu; omega) G.K n5 q1 q3 q2 g1 g2 f1 f2 g3 f4 g4 n3 (G.pw i (by simpa using n6))
      · cases h
    · cases h
  · cases h
def nmLoc (S : Sg) (i : Nat) (e : Expr) : Bool := match vName e with
  | some x => decide (S.N[i]? = some x) && (S.loc x && !S.pins.contains i)
  | none => false
def csAug (S : Sg) (i : Nat) (k0 : BO) (Ee : E) (k : Ck) : Stmt → Ows → Option Ows := fun st ows => match vAugS st with
  | some a => (match k.r a.2.2 ows with
    | some x => if (nmLoc S i a.1 && (pureE Ee && (decide (augOp k0 = some a.2.1) && decide (i < x.1.length)))) = true then some (x.1.set i (.ow .fr)) else none
    | none => none)
  | none => none
theorem csAug_ok (G : GOk X c C S) {i : Nat} {Ee : E} {k : Ck} {k0 : BO} (hk : CkOk S C k (den C Ee)) {st : Stmt} {ows r : Ows} (h : csAug S i k0 Ee k st ows = some r) :
    PS X st (tS c (M.bind (varM i) fun x => M.bind (den C Ee).1 fun y => M.bind (M.opt (augD k0 x y)) fun z => fun s => .ok .nx (setS s i z)) ows (some r) none none) := by
  unfold csAug at h
  split at h
  · rename_i a ha
    split at h
    · rename_i x ex
      split at h
      · rename_i hn
        cases h
        simp only [Bool.and_eq_true, decide_eq_true_eq] at hn
        obtain ⟨n1, n2, n3, n4⟩ := hn
        obtain ⟨pos, rfl⟩ := vAugS_eq ha
        unfold nmLoc at n1
        split at n1
        · rename_i y ey
          simp only [Bool.and_eq_true, decide_eq_true_eq, Bool.not_eq_true'] at n1
          obtain ⟨p, e1⟩ := vName_eq ey
          rw [e1]
          have hl := G.loc y n1.2.1
          exact ps_augM G.nd (by rw [G.N]; exact n1.1) hl.1 hl.2 (G.pn i (by simpa using n1.2.2)) n4 n3 (pureE_ok C n2).1 ((hk X c G).2.1 _ _ x ex)
        · cases n1
      · cases h
    · cases h
  · cases h
end
end Mp
/-! Mp17: the checker of statements. -/
namespace Mp
open PySem PySem.Spec PyProof.Rows L2

structure SF where
  nx : Option Ows
  bk : Option Ows
  ct : Option Ows
abbrev SC := Stmt → Ows → Option SF
abbrev BC := List Stmt → Ows → Option SF
def SCOk (S : Sg) (C : Cs) (k : SC) (f : M Fl) : Prop := ∀ (X : Cx) (c : Cc), GOk X c C S → ∀ st ows r, k st ows = some r → PS X st (tS c f ows r.nx r.bk r.ct)
def BCOk (S : Sg) (C : Cs) (k : BC) (f : M Fl) : Prop := ∀ (X : Cx) (c : Cc), GOk X c C S → ∀ st ows r, k st ows = some r → PSs X st (tS c f ows r.nx r.bk r.ct)
def noSC : SC := fun _ _ => none
def joinQ : Option Ows → Option Ows → Option Ows
  | none, b => b
  | some a, none => some a
  | some a, some b => some (joinO a b)

/-! ### views -/
def vAsg : Stmt → Option (Expr × Expr)
  | .Assign [t] e _ => some (t, e)
  | _ => none
theorem vAsg_eq {s : Stmt} {r : Expr × Expr} (h : vAsg s = some r) : ∃ p, s = .Assign [r.1] r.2 p := by
  unfold vAsg at h
  split at h
  · cases h; exact ⟨_, rfl⟩
  · cases h
def vExp : Stmt → Option Expr
  | .Expr e _ => some e
  | _ => none
theorem vExp_eq {s : Stmt} {r : Expr} (h : vExp s = some r) : ∃ p, s = .Expr r p := by
  unfold vExp at h
  split at h
  · cases h; exact ⟨_, rfl⟩
  · cases h
def vIfS : Stmt → Option (Expr × List Stmt × List Stmt)
  | .If c a b _ => some (c, a, b)
  | _ => none
theorem vIfS_eq {s : Stmt} {r : Expr × List Stmt × List Stmt} (h : vIfS s = some r) : ∃ p, s = .If r.1 r.2.1 r.2.2 p := by
  unfold vIfS at h
  split at h
  · cases h; exact ⟨_, rfl⟩
  · cases h
def vFor : Stmt → Option (Expr × Expr × List Stmt)
  | .For t i b [] _ => some (t, i, b)
  | _ => none
theorem vFor_eq {s : Stmt} {r : Expr × Expr × List Stmt} (h : vFor s = some r) : ∃ p, s = .For r.1 r.2.1 r.2.2 [] p := by
  unfold vFor at h
  split at h
  · cases h; exact ⟨_, rfl⟩
  · cases h
def vWh : Stmt → Option (Expr × List Stmt)
  | .While c b [] _ => some (c, b)
  | _ => none
theorem vWh_eq {s : Stmt} {r : Expr × List Stmt} (h : vWh s = some r) : ∃ p, s = .While r.1 r.2 [] p := by
  unfold vWh at h
  split at h
  · cases h; exact ⟨_, rfl⟩
  · cases h
def vRet : Stmt → Option (Option Expr)
  | .Return e _ => some e
  | _ => none
theorem vRet_eq {s : Stmt} {r : Option Expr} (h : vRet s = some r) : ∃ p, s = .Return r p := by
  unfold vRet at h
  split at h
  · cases h; exact ⟨_, rfl⟩
  · cases h
def vAug : Stmt → Option (Expr × Operator × Expr)
  | .AugAssign t k e _ => some (t, k, e)
  | _ => none
theorem vAug_eq {s : Stmt} {r : Expr × Operator × Expr} (h : vAug s = some r) : ∃ p, s = .AugAssign r.1 r.2.1 r.2.2 p := by
  unfold vAug at h
  split at h
  · cases h; exact ⟨_, rfl⟩
  · cases h
/-- raise X('..') -/
def vRaise : Stmt → Option Str
  | .Raise (some (.Call (.Name x _) [.Constant (.str _) _ _] [] _)) none _ => some x
  | _ => none
theorem vRaise_eq {s : Stmt} {x : Str} (h : vRaise s = some x) : ∃ p m j p2 p3 p4, s = .Raise (some (.Call (.Name x p) [.Constant (.str m) j p2] [] p3)) none p4 := by
  unfold vRaise at h
  split at h
  · cases h; exact ⟨_, _, _, _, _, _, rfl⟩
  · cases h
def isPass : Stmt → Bool
  | .Pass _ => true
  | _ => false
def isBrk : Stmt → Bool
  | .Break _ => true
  | _ => false
def isCont : Stmt → Bool
  | .Continue _ => true
  | _ => false

section
variable {S : Sg} {C : Cs} {X : Cx} {c : Cc}
/-! ### small statements -/
def locOk (S : Sg) (i : Nat) (e : Expr) : Bool := match vName e with
  | some x => decide (S.N[i]? = some x) && (S.loc x && !S.pins.contains i)
  | none => false
theorem locOk_eq (G : GOk X c C S) {i : Nat} {pe : Expr} (h : locOk S i pe = true) : ∃ x p, pe = .Name x p ∧ X.N[i]? = some x ∧ (L2.Loc X.env.scope x ∧ (X.fn x = true ∨ X.env.scope.names.lookup x = some .local)) ∧ c.pn i = none := by
  unfold locOk at h
  split at h
  · rename_i x e
    obtain ⟨p, rfl⟩ := vName_eq e
    simp only [Bool.and_eq_true, decide_eq_true_eq, Bool.not_eq_true'] at h
    exact ⟨x, p, rfl, by rw [G.N]; exact h.1, G.loc x h.2.1, G.pn i (by simpa using h.2.2)⟩
  · cases h
/-- the value is stored after its block has ended -/
def noSw (S : Sg) (t e : Expr) : Bool := match e with
  | .ListComp _ _ _ _ => (match vName t with
    | some x => decide (S.sc.names.lookup x = some .cell)
    | none => false)
  | _ => noComp e
theorem noSw_ok (G : GOk X c C S) {x : Str} {p : Pos} {e : Expr} {n : Nat} (h : noSw S (.Name x p) e = true) : swapsWith e (some (.Name x p)) n X.env = pure false := by
  unfold noSw at h
  split at h
  · simp only [vName, decide_eq_true_eq] at h
    have hk : (X.env.kindOf x == some .local) = false := by
      have : X.env.kindOf x = some .cell := by
        show X.env.scope.names.lookup x = _
        rw [G.sc]; exact h
      rw [this]; rfl
    unfold swapsWith
    simp only [hk, Bool.and_false, Bool.false_and]
    first | done | rfl
  · exact swaps_no h
theorem ps_setW {f : M D} {i : Nat} {x : Str} {px pos : Pos} {e : Expr} {ows ows' : Ows} {o : Ow} {q : Bool} {te : TE} (hs : PS X (.Assign [.Name x px] e pos) (tAsg te (gName i))) (hp : c.pn i = none) (hl : i < ows'.length) (k : ∀ σ H Q, tV c f ows ows' o q σ H Q → te σ H Q) :
    PS X (.Assign [.Name x px] e pos) (tS c (M.bind f fun d => fun s => .ok .nx (setS s i d)) ows (some (ows'.set i o)) none none) := by
  refine wPS hs fun D σ H ⟨w, env, hw, sr, z⟩ => k σ H _ ⟨w, env, hw, sr, ?_⟩
  unfold M.bind at z
  cases e1 : f env with
  | no => rw [e1] at z; exact z
  | ex n env1 => rw [e1] at z; exact fun w' x s => z w' σ x s
  | ok d env1 =>
    rw [e1] at z
    intro w1 v A x1 s1 r1 t1 k1
    exact z (w1.put i A) _ (Ext.put x1 t1) ⟨_, rfl, s1.put i hp (fun j hj => owAt_set hj) (owAt_self' hl) r1 t1.z t1.f⟩
def csSet (S : Sg) (i : Nat) (k : Ck) : SC := fun st ows => match vAsg st with
  | some a => if (locOk S i a.1 && noSw S a.1 a.2) = true then (match k.v a.2 ows with
    | some x => if decide (i < x.1.length) = true then some ⟨some (x.1.set i x.2.1), none, none⟩ else none
    | none => none) else none
  | none => none
theorem csSet_ok {i : Nat} {k : Ck} {p : M D × M Bool} (hk : CkOk S C k p) : SCOk S C (csSet S i k) (M.bind p.1 fun d => fun s => .ok .nx (setS s i d)) := fun X c G st ows r h => by
  unfold csSet at h
  split at h
  · rename_i a ha
    split at h
    · rename_i hn
      split at h
      · rename_i x ex
        split at h
        · rename_i hl
          cases h
          simp only [Bool.and_eq_true] at hn
          obtain ⟨pos, rfl⟩ := vAsg_eq ha
          obtain ⟨y, p', e1, h1, h2, h3⟩ := locOk_eq G hn.1
          have hsw := hn.2
          rw [e1] at hsw ⊢
          exact ps_setW (ps_set G.nd h1 h2.1 ((hk X c G).1 _ _ x ex) (noSw_ok G hsw) h2.2) h3 (of_decide_eq_true hl) fun _ _ _ z => z
        · cases h
      · cases h
    · cases h
  · cases h
/-- x = [..], x a local: stored within the block -/
def swT (S : Sg) (t e : Expr) : Bool := match vName t, e with
  | some x, .ListComp _ _ sc pos => decide (S.sc.names.lookup x = some .local) && ((t.pos.line == pos.line) && !(sc.names.any fun (n, k) => n == x && (k == .local || k == .cell)))
  | _, _ => false
def csSetLc (S : Sg) (i : Nat) (t : T) (k : IK) (ks : List Ck) (fe : Sg → Ck) (fc : Sg → List Ck) (pu keep : Bool) : SC := fun st ows => match vAsg st with
  | some a => if (locOk S i a.1 && swT S a.1 a.2) = true then (match lcX S t k ks fe fc pu keep a.2 ows with
    | some x => if decide (i < x.1.length) = true then some ⟨some (x.1.set i x.2.1), none, none⟩ else none
    | none => none) else csSet S i (ckLc S t k ks fe fc pu keep) st ows
  | none => none
theorem csSetLc_ok {i : Nat} {t : T} {k : IK} {ks : List Ck} {ps pc : List (M D × M Bool)} {fe : Sg → Ck} {fc : Sg → List Ck} {pe' : M D × M Bool} {pu keep : Bool} (hs : CksOk S C ks ps) (he : ∀ S', CkOk S' C (fe S') pe') (hc : ∀ S', CksOk S' C (fc S') pc) (hpu : pu = true → Pure pe'.1 ∧ Pure (cM pc)) :
    SCOk S C (csSetLc S i t k ks fe fc pu keep) (M.bind (lcM pe'.1 t k ps pc) fun d => fun s => .ok .nx (setS s i d)) := fun X c G st ows r h => by
  unfold csSetLc at h
  split at h
  · rename_i a ha
    split at h
    · rename_i hn
      split at h
      · rename_i x ex
        split at h
        · rename_i hl
          cases h
          simp only [Bool.and_eq_true] at hn
          obtain ⟨pos, rfl⟩ := vAsg_eq ha
          obtain ⟨y, p', e1, h1, h2, h3⟩ := locOk_eq G hn.1
          obtain ⟨elt, tg, iter, ifs, sc, pos2, te, wi, tt, e2, g1, g2, g3, g, g4, g5, g6, g7, g8⟩ := lcX_ok G hs he hc hpu ex
          have hsw := hn.2
          rw [e1, e2] at hsw
          rw [e1, e2]
          simp only [swT, vName, Bool.and_eq_true, decide_eq_true_eq, Bool.not_eq_true'] at hsw
          obtain ⟨w1, w2, w3⟩ := hsw
          have hk : X.env.scope.kind = .function := G.kd
          exact ps_setW (ps_setLc g1 G.nd h1 (by rw [G.sc]; exact w1) (sw_true hk (by rw [G.sc]; exact w1) w2 w3) g2 g3 g4 g5 g6 g7) h3 (of_decide_eq_true hl) g8
        · cases h
      · cases h
    · exact csSet_ok (ckLc_ok hs he hc hpu) X c G st ows r (by unfold csSet; rw [ha]; rename_i hn; exact (by simpa [csSet, ha] using h))
  · cases h
/-- x = {..}, x a local: stored within the block -/
def swTD (S : Sg) (t e : Expr) : Bool := match vName t, e with
  | some x, .DictComp _ _ _ sc pos => decide (S.sc.names.lookup x = some .local) && ((t.pos.line == pos.line) && !(sc.names.any fun (n, k) => n == x && (k == .local || k == .cell)))
  | _, _ => false
def csSetDc (S : Sg) (i : Nat) (t : T) (k : IK) (ks : List Ck) (fk fv : Sg → Ck) (pu : Bool) : SC := fun st ows => match vAsg st with
  | some a => if (locOk S i a.1 && swTD S a.1 a.2) = true then (match dcX S t k ks fk fv pu a.2 ows with
    | some x => if decide (i < x.1.length) = true then some ⟨some (x.1.set i x.2.1), none, none⟩ else none
    | none => none) else csSet S i (ckDc S t k ks fk fv pu) st ows
  | none => none
theorem csSetDc_ok {i : Nat} {t : T} {k : IK} {ks : List Ck} {ps : List (M D × M Bool)} {fk fv : Sg → Ck} {pk pv : M D × M Bool} {pu : Bool} (hs : CksOk S C ks ps) (hk : ∀ S', CkOk S' C (fk S') pk) (hv : ∀ S', CkOk S' C (fv S') pv) (hpu : pu = true → Pure pk.1 ∧ Pure pv.1) :
    SCOk S C (csSetDc S i t k ks fk fv pu) (M.bind (dcF pk.1 pv.1 t (M.bind (evs ps) fun as => M.opt (itF k as))) fun d => fun s => .ok .nx (setS s i d)) := fun X c G st ows r h => by
  unfold csSetDc at h
  split at h
  · rename_i a ha
    split at h
    · rename_i hn
      split at h
      · rename_i x ex
        split at h
        · rename_i hl
          cases h
          simp only [Bool.and_eq_true] at hn
          obtain ⟨pos, rfl⟩ := vAsg_eq ha
          obtain ⟨y, p', e1, h1, h2, h3⟩ := locOk_eq G hn.1
          obtain ⟨kx, vx, tg, iter, sc, pos2, te, e2, g1, g2, g3⟩ := dcX_ok G hs hk hv hpu ex
          have hsw := hn.2
          rw [e1, e2] at hsw
          rw [e2] at g2
          rw [e1, e2]
          simp only [swTD, vName, Bool.and_eq_true, decide_eq_true_eq, Bool.not_eq_true'] at hsw
          obtain ⟨w1, w2, w3⟩ := hsw
          have hkd : X.env.scope.kind = .function := G.kd
          exact ps_setW (g2 _ _ _ _ h1 (by rw [G.sc]; exact w1) (sw_trueD hkd (by rw [G.sc]; exact w1) w2 w3)) h3 (of_decide_eq_true hl) g3
        · cases h
      · cases h
    · exact csSet_ok (ckDc_ok hs hk hv hpu) X c G st ows r (by unfold csSet; rw [ha]; rename_i hn; exact (by simpa [csSet, ha] using h))
  · cases h
def noTup : Expr → Bool
  | .Tuple _ _ _ => false
  | _ => true
theorem swaps_tup {es : List Expr} {k : Nat} {p : Pos} {e : Expr} {n : Nat} {env : PySem.Env} : swapsWithSole [.Tuple es k p] e n env = pure false := by
  cases e <;> rfl
theorem swapped_no {es : List Expr} {k : Nat} {p : Pos} {e : Expr} {env : PySem.Env} (h : noTup e = true) : swappedStores [.Tuple es k p] e env = pure none := by
  cases e <;> first | rfl | cases h
theorem ps_tgtM {is : List Nat} {es : List Expr} {k : Nat} {p pos : Pos} {e : Expr} {f : M D} {ows ows1 : Ows} {q : Bool} (hK : X.K = c.K) {lc : Str → Bool} {pn : Nat → Bool} (hlc : LocB X lc) (hc : X.calm = true) (hN : X.N.Nodup) (hpn : ∀ i, pn i = false → c.pn i = none) (hn : nmsOk X.N lc pn is es = true) (hs : noTup e = true) (he : PE X e (tV c f ows ows1 .fr q)) :
    PS X (.Assign [.Tuple es k p] e pos) (tS c (M.bind f fun d => fun s => match asg (.tp is) d s with
      | some s' => .ok .nx s'
      | none => .no) ows (some (frs ows1 is)) none none) := by
  have hg : PG X (.Tuple es k p) (tgT c (.tp is) ows1) := pg_tg hlc hc hK hN hpn (by simpa [tgOk, vTup] using hn)
  refine wPS (ps_asg he hg swaps_tup (swapped_no hs) (by rfl)) fun D σ H ⟨w, env, hw, sr, z⟩ => ⟨w, env, hw, sr, ?_⟩
  unfold M.bind at z
  cases e1 : f env with
  | no => rw [e1] at z; exact z
  | ex n env1 => rw [e1] at z; exact fun w' x s => z w' σ x s
  | ok d env1 =>
    rw [e1] at z
    intro w1 v A x1 s1 r1 t1 k1
    refine ⟨w1, env1, d, rfl, s1, r1.1, ?_⟩
    simp only at z
    cases e2 : asg (.tp is) d env1 with
    | none => rw [e2] at z; exact z
    | some env2 =>
      rw [e2] at z
      exact fun w' σ' x s _ _ => z w' σ' (x1.trans x) ⟨_, rfl, s⟩
def csTgt (S : Sg) (is : List Nat) (k : Ck) : SC := fun st ows => match vAsg st with
  | some a => (match vTup a.1 with
    | some es => if (nmsOk S.N S.loc (fun i => S.pins.contains i) is es && (noTup a.2 && S.calm)) = true then (match k.v a.2 ows with
      | some x => some ⟨some (frs x.1 is), none, none⟩
      | none => none) else none
    | none => none)
  | none => none
theorem csTgt_ok {is : List Nat} {k : Ck} {p : M D × M Bool} (hk : CkOk S C k p) : SCOk S C (csTgt S is k) (M.bind p.1 fun d => fun s => match asg (.tp is) d s with
      | some s' => .ok .nx s'
      | none => .no) := fun X c G st ows r h => by
  unfold csTgt at h
  split at h
  · rename_i a ha
    split at h
    · rename_i es he
      split at h
      · rename_i hn
        split at h
        · rename_i x ex
          cases h
          simp only [Bool.and_eq_true] at hn
          obtain ⟨pos, rfl⟩ := vAsg_eq ha
          obtain ⟨j, p', e1⟩ := vTup_eq he
          rw [e1]
          exact ps_tgtM G.K G.loc (pn := fun i => S.pins.contains i) (G.calm hn.2.2) G.nd (fun i h => G.pn i (by simpa using h)) (by rw [G.N]; exact hn.1) hn.2.1 (keep_fr ((hk X c G).1 _ _ x ex))
        · cases h
      · cases h
    · cases h
  · cases h
def csEx (k : Ck) : SC := fun st ows => match vExp st with
  | some e => if noComp e = true then (match k.r e ows with
    | some x => some ⟨some x.1, none, none⟩
    | none => none) else none
  | none => none
theorem csEx_ok {k : Ck} {p : M D × M Bool} (hk : CkOk S C k p) : SCOk S C (csEx k) (M.bind p.1 fun _ => M.ret .nx) := fun X c G st ows r h => by
  unfold csEx at h
  split at h
  · rename_i e he
    split at h
    · rename_i hn
      split at h
      · rename_i x ex
        cases h
        obtain ⟨pos, rfl⟩ := vExp_eq he
        exact ps_exM hn ((hk X c G).2.1 _ _ x ex)
      · cases h
    · cases h
  · cases h
def csRet (S : Sg) (k : Ck) : SC := fun st ows => match vRet st with
  | some (some e) => (match k.v e ows with
    | some x => if (weakB 0 x.1 S.r && (decide (x.2.1 = S.ro) || decide (S.ro = .fr))) = true then some ⟨none, none, none⟩ else none
    | none => none)
  | _ => none
theorem csRet_ok {k : Ck} {p : M D × M Bool} (hk : CkOk S C k p) : SCOk S C (csRet S k) (M.bind p.1 fun d => M.ret (.rt d)) := fun X c G st ows r h => by
  unfold csRet at h
  split at h
  · rename_i e he
    split at h
    · rename_i x ex
      split at h
      · rename_i hw
        cases h
        simp only [Bool.and_eq_true, Bool.or_eq_true, decide_eq_true_eq] at hw
        obtain ⟨pos, rfl⟩ := vRet_eq he
        have hv := (hk X c G).1 _ _ x ex
        refine ps_retM (by rw [G.r]; exact hw.1) (q := x.2.2) ?_
        rw [G.ro]
        rcases hw.2 with q | q
        · rw [← q]; exact hv
        · rw [q]; exact keep_fr hv
      · cases h
    · cases h
  · cases h
def csRetN (S : Sg) : SC := fun st ows => match vRet st with
  | some none => if weakB 0 ows S.r = true then some ⟨none, none, none⟩ else none
  | _ => none
theorem csRetN_ok : SCOk S C (csRetN S) (M.ret (.rt .non)) := fun X c G st ows r h => by
  unfold csRetN at h
  split at h
  · rename_i he
    split at h
    · rename_i hw
      cases h
      obtain ⟨pos, rfl⟩ := vRet_eq he
      exact ps_retNM (by rw [G.r]; exact hw)
    · cases h
  · cases h
def csPass : SC := fun st ows => if isPass st = true then some ⟨some ows, none, none⟩ else none
theorem csPass_ok : SCOk S C csPass (M.ret .nx) := fun X c G st ows r h => by
  unfold csPass at h
  split at h
  · cases h
    cases st <;> first | exact ps_passM | (rename_i hp; cases hp)
  · cases h
def csBrk : SC := fun st ows => if isBrk st = true then some ⟨none, some ows, none⟩ else none
theorem csBrk_ok : SCOk S C csBrk (M.ret .bk) := fun X c G st ows r h => by
  unfold csBrk at h
  split at h
  · cases h
    cases st <;> first | exact ps_brkM | (rename_i hp; cases hp)
  · cases h
def csCont : SC := fun st ows => if isCont st = true then some ⟨none, none, some ows⟩ else none
theorem csCont_ok : SCOk S C csCont (M.ret .ct) := fun X c G st ows r h => by
  unfold csCont at h
  split at h
  · cases h
    cases st <;> first | exact ps_contM | (rename_i hp; cases hp)
  · cases h
/-- raise -/
def csRaise (S : Sg) (n : Str) : SC := fun st ows => match vRaise st with
  | some x => if (decide (x = n) && (S.exc n && (S.glo n && (noDbg n && (S.calls && weakB 0 ows S.x))))) = true then some ⟨none, none, none⟩ else none
  | none => none
theorem csRaise_ok {n : Str} : SCOk S C (csRaise S n) (fun e => .ex n e) := fun X c G st ows r h => by
  unfold csRaise at h
  split at h
  · rename_i x hx
    split at h
    · rename_i hn
      cases h
      simp only [Bool.and_eq_true, decide_eq_true_eq] at hn
      obtain ⟨rfl, h1, h2, h3, h4, h5⟩ := hn
      obtain ⟨p, m, j, p2, p3, p4, rfl⟩ := vRaise_eq hx
      obtain ⟨hm, hkp, hr, B, nw, ini, bm, F, hex⟩ := G.exc x h1
      refine wPS (ps_raise (G.calm (G.tkc h4)) (G.fn h4).1 (pmk_own F hex hm hkp hr (G.glo h2) (noDbg1 h3))) fun D σ H ⟨w, env, hw, sr, z⟩ => ?_
      subst hw
      obtain ⟨w', x', eh, s'⟩ := sr.weak (show weakB 0 ows c.x = true by rw [G.x]; exact h5)
      have := z w' σ x' s'
      rw [eh] at this
      exact this
    · cases h
  · cases h

/-! ### blocks -/
def bcNil : BC := fun sts ows => match sts with
  | [] => some ⟨some ows, none, none⟩
  | _ => none
theorem bcNil_ok : BCOk S C bcNil (M.ret .nx) := fun X c G sts ows r h => by
  unfold bcNil at h
  split at h
  · cases h; exact pss_nil'
  · cases h
def isDoc : Stmt → Bool
  | .Expr (.Constant (.str _) _ _) _ => true
  | _ => false
def bcCons (k : SC) (ks : BC) : BC := fun sts ows => match sts with
  | st :: rest => (match k st ows with
    | some a => (match a.nx with
      | some o => (match ks rest o with
        | some b => if (wk a.bk (joinQ a.bk b.bk) && (wk b.bk (joinQ a.bk b.bk) && (wk a.ct (joinQ a.ct b.ct) && wk b.ct (joinQ a.ct b.ct)))) = true then some ⟨b.nx, joinQ a.bk b.bk, joinQ a.ct b.ct⟩ else none
        | none => none)
      | none => some ⟨none, a.bk, a.ct⟩)
    | none => none)
  | [] => none
theorem wk_refl : ∀ {a : Option Ows}, wk a a = true
  | none => rfl
  | some a => by
    show weakB 0 a a = true
    suffices h : ∀ (n : Nat) (a : Ows), weakB n a a = true from h 0 a
    intro n a
    induction a generalizing n with
    | nil => rfl
    | cons x xs ih => simp [weakB, ih]
theorem bcCons_ok {k : SC} {ks : BC} {f g : M Fl} (h1 : SCOk S C k f) (h2 : BCOk S C ks g) : BCOk S C (bcCons k ks) (seqM f g) := fun X c G sts ows r h => by
  unfold bcCons at h
  split at h
  · rename_i st rest
    split at h
    · rename_i a ea
      have p1 := h1 X c G st ows a ea
      split at h
      · rename_i o eo
        rw [eo] at p1
        split at h
        · rename_i b eb
          split at h
          · rename_i hw
            cases h
            simp only [Bool.and_eq_true] at hw
            exact pss_cons' (PS.weaken p1 wk_refl hw.1 hw.2.2.1) (PSs.weaken (h2 X c G rest o b eb) wk_refl hw.2.1 hw.2.2.2)
          · cases h
        · cases h
      · rename_i eo
        cases h
        rw [eo] at p1
        exact pss_stop p1
    · cases h
  · cases h
def csIf (k : Ck) (a b : BC) : SC := fun st ows => match vIfS st with
  | some e => (match k.t e.1 ows with
    | some z => (match a e.2.1 z.1, b e.2.2 z.1 with
      | some x, some y => if (wk x.nx (joinQ x.nx y.nx) && (wk y.nx (joinQ x.nx y.nx) && (wk x.bk (joinQ x.bk y.bk) && (wk y.bk (joinQ x.bk y.bk) && (wk x.ct (joinQ x.ct y.ct) && wk y.ct (joinQ x.ct y.ct)))))) = true then
          some ⟨joinQ x.nx y.nx, joinQ x.bk y.bk, joinQ x.ct y.ct⟩ else none
      | _, _ => none)
    | none => none)
  | none => none
theorem csIf_ok {k : Ck} {a b : BC} {p : M D × M Bool} {f g : M Fl} (hk : CkOk S C k p) (ha : BCOk S C a f) (hb : BCOk S C b g) : SCOk S C (csIf k a b) (M.bind p.2 fun k => if k = true then f else g) := fun X c G st ows r h => by
  unfold csIf at h
  split at h
  · rename_i e he
    split at h
    · rename_i z ez
      split at h
      · rename_i x y ex ey
        split at h
        · rename_i hw
          cases h
          simp only [Bool.and_eq_true] at hw
          obtain ⟨w1, w2, w3, w4, w5, w6⟩ := hw
          obtain ⟨pos, rfl⟩ := vIfS_eq he
          exact ps_ifsM ((hk X c G).2.2 _ _ z ez) (PSs.weaken (ha X c G _ _ x ex) w1 w3 w5) (PSs.weaken (hb X c G _ _ y ey) w2 w4 w6)
        · cases h
      · cases h
    · cases h
  · cases h

/-! ### loops -/
/-- a head that the body keeps -/
def fixL (body : Ows → Option SF) : Nat → Ows → Option (Ows × SF)
  | 0, _ => none
  | n + 1, h => match body h with
    | some f => if (wk f.nx (some h) && wk f.ct (some h)) = true then some (h, f) else (match joinQ (some h) (joinQ f.nx f.ct) with
      | some h' => fixL body n h'
      | none => none)
    | none => none
theorem fixL_ok {body : Ows → Option SF} : ∀ {n : Nat} {h : Ows} {r : Ows × SF}, fixL body n h = some r → body r.1 = some r.2 ∧ wk r.2.nx (some r.1) = true ∧ wk r.2.ct (some r.1) = true
  | 0, _, _, e => by cases e
  | n + 1, h, r, e => by
    unfold fixL at e
    split at e
    · rename_i f ef
      split at e
      · rename_i hw
        cases e
        simp only [Bool.and_eq_true] at hw
        exact ⟨ef, hw.1, hw.2⟩
      · split at e
        · exact fixL_ok e
        · cases e
    · cases e
theorem forM_none {t : T} {k : IK} {ia : List (M D × M Bool)} {body : M Fl} : forM t k ia none body = M.bind (M.bind (evs ia) fun as => M.opt (itF k as)) fun ds => forL (fun _ => true) t body ds := by
  funext e
  unfold forM M.bind
  cases evs ia e with
  | no => rfl
  | ex => rfl
  | ok as e1 => rfl
def csFor (S : Sg) (t : T) (k : IK) (ks : List Ck) (w : Option Nat) (b : BC) : SC := fun st ows => match vFor st, w with
  | some e, none => if (noSet' e.2.1 && (S.calm && tgOk S.N S.loc (fun i => S.pins.contains i) t e.1)) = true then (match ckI S k ks e.1 e.2.1 ows with
    | some ows1 => (match fixL (fun h => b e.2.2 (frs h t.slots)) 8 ows1.1 with
      | some r => (match joinQ (some r.1) r.2.bk with
        | some oj => if (weakB 0 ows1.1 r.1 && (weakB 0 r.1 oj && wk r.2.bk (some oj))) = true then some ⟨some oj, none, none⟩ else none
        | none => none)
      | none => none)
    | none => none) else none
  | _, _ => none
theorem csFor_ok {t : T} {k : IK} {ks : List Ck} {ps : List (M D × M Bool)} {w : Option Nat} {b : BC} {f : M Fl} (hs : CksOk S C ks ps) (hb : BCOk S C b f) : SCOk S C (csFor S t k ks w b) (forM t k ps w f) := fun X c G st ows r h => by
  unfold csFor at h
  split at h
  · rename_i e he
    split at h
    · rename_i hn
      split at h
      · rename_i ows1 e1
        split at h
        · rename_i rr er
          split at h
          · rename_i oj ej
            split at h
            · rename_i hw
              cases h
              simp only [Bool.and_eq_true] at hn hw
              obtain ⟨pos, rfl⟩ := vFor_eq he
              obtain ⟨f1, f2, f3⟩ := fixL_ok er
              rw [forM_none]
              exact ps_forM (G.pas hn.2.1) (G.calm hn.2.1) (ckI_ok G hs e1) (pg_tg (pn := fun i => S.pins.contains i) G.loc (G.calm hn.2.1) G.K G.nd (fun i h => G.pn i (by simpa using h)) (by rw [G.N]; exact hn.2.2)) (hb X c G _ _ _ f1) (folded_no hn.1) hw.1 f2 f3 hw.2.1 hw.2.2
            · cases h
          · cases h
        · cases h
      · cases h
    · cases h
  · cases h
def csWh (S : Sg) (k : Ck) (b : BC) : SC := fun st ows => match vWh st with
  | some e => if S.calm = true then (match fixL (fun h => match k.t e.1 h with
      | some x => b e.2 x.1
      | none => none) 8 ows with
    | some r => (match k.t e.1 r.1 with
      | some x => (match joinQ (some x.1) r.2.bk with
        | some oj => if (weakB 0 ows r.1 && (weakB 0 x.1 oj && wk r.2.bk (some oj))) = true then some ⟨some oj, none, none⟩ else none
        | none => none)
      | none => none)
    | none => none) else none
  | none => none
theorem csWh_ok {k : Ck} {p : M D × M Bool} {b : BC} {f : M Fl} (hk : CkOk S C k p) (hb : BCOk S C b f) : SCOk S C (csWh S k b) (whileL p.2 f FUEL) := fun X c G st ows r h => by
  unfold csWh at h
  split at h
  · rename_i e he
    split at h
    · rename_i hn
      split at h
      · rename_i rr er
        split at h
        · rename_i x ex
          split at h
          · rename_i oj ej
            split at h
            · rename_i hw
              cases h
              simp only [Bool.and_eq_true] at hw
              obtain ⟨pos, rfl⟩ := vWh_eq he
              obtain ⟨f1, f2, f3⟩ := fixL_ok er
              rw [ex] at f1
              exact ps_whileM (G.pas hn) ((hk X c G).2.2 _ _ x ex) (hb X c G _ _ _ f1) hw.1 f2 f3 hw.2.1 hw.2.2
            · cases h
          · cases h
        · cases h
      · cases h
    · cases h
  · cases h
end
end Mp
/-! Mp18: try. -/
namespace Mp
open PySem PySem.Spec PyProof.Rows L2

section
variable {K : PySem.W.Frag} {pn : Pin} {ows : Ows} {env : Env} {σ : L2.St} {w : Wd}
/-- the slot of the error gets its pin -/
def pinE (pn : Pin) (i : Nat) (a : Addr) (n : Str) : Pin := fun j => if j = i then some (.ref a, some (.exc n)) else pn j
theorem SR.err {i : Nat} {a : Addr} {n : Str} (s : SR K pn ows env σ w) (hi : i < env.length) (hp : pn i = none) : SR K (pinE pn i a n) (ows.set i .fr) (setS env i (.exc n)) (σ.set i (some (.ref a))) (w.put i fun _ => False) := by
  have s1 : SR K pn (ows.set i .fr) (setS env i (.exc n)) (σ.set i (some (.ref a))) (w.put i fun _ => False) := s.bind (d := .exc n) (v := .ref a) ⟨a, rfl⟩ hp
  refine ⟨s1.len, s1.at_, s1.apart, s1.zf, s1.fm, s1.zt, fun j p h => ?_⟩
  unfold pinE at h
  split at h
  · rename_i e
    subst e
    cases h
    refine ⟨List.getElem?_set_self (by rw [s.len]; exact hi), fun d hd d' hg => ?_⟩
    cases hd
    rcases getS_set hg with ⟨_, e⟩ | ⟨e, _⟩
    · exact e
    · exact absurd rfl e
  · exact s1.pin j p h
theorem SR.unerr {i : Nat} {a : Addr} {n : Str} (s : SR K (pinE pn i a n) ows env σ w) (hp : pn i = none) : SR K pn ows (unS env i) (σ.set i none) (w.out i) := by
  have s1 := s.out i (ows' := ows) (fun _ _ => rfl)
  refine ⟨by rw [List.length_set]; exact s1.len, fun j d h => ?_, s1.apart, s1.zf, s1.fm, s1.zt, fun j p h => ?_⟩
  · obtain ⟨v, h1, h2⟩ := s1.at_ j d h
    exact ⟨v, by rw [List.getElem?_set_ne (Ne.symm (getS_un h).1)]; exact h1, h2⟩
  · have hj : j ≠ i := fun e => by subst e; rw [hp] at h; cases h
    have := s1.pin j p (by unfold pinE; rw [if_neg hj]; exact h)
    exact ⟨by rw [List.getElem?_set_ne (Ne.symm hj)]; exact this.1, this.2⟩
end
section
variable {S : Sg} {C : Cs} {X : Cx} {c : Cc}
/-- the try's body -/
def Cc.body (c : Cc) (W : WX) (xo : Ows) : Cc := { c with W := W, x := xo }
def Sg.body (S : Sg) (xo : Ows) : Sg := { S with x := xo, es := none }
theorem GOk.body (G : GOk X c C S) {xo : Ows} {W : WX} {pn : List (Addr × Obj)} {xe : Value → Shared → Prop} (tk : Takes (X.tr pn xe) W) (hp : PassesOwn (model X.prog X.w) X.A X.env xe) : GOk (X.tr pn xe) (c.body W xo) C (S.body xo) where
  N := G.N
  sc := G.sc
  K := G.K
  nd := G.nd
  hu := G.hu
  calm := G.calm
  pas := fun _ => hp
  tkc := G.tkc
  blt := G.blt
  gl := G.gl
  kt := G.kt
  fn := fun h => ⟨tk, (G.fn h).2⟩
  exc := G.exc
  exm := G.exm
  exx := G.exx
  kx := G.kx
  kv := G.kv
  ec := G.ec
  fnl := G.fnl
  kd := G.kd
  stk := G.stk
  es := fun j h => by cases h
  x := rfl
  r := G.r
  ro := G.ro
  pn := G.pn
  pw := G.pw
/-- the suite behind except X as e -/
def Cc.suiteE (c : Cc) (i : Nat) (a : Addr) (n : Str) : Cc := { c with W := fun _ _ _ _ => False, pn := pinE c.pn i a n }
def Sg.suiteE (S : Sg) (i : Nat) : Sg := { S with calm := false, calls := false, tr := false, pins := i :: S.pins, pinw := i :: S.pinw, es := some i }
theorem GOk.suiteE (G : GOk X c C S) {i : Nat} {a : Addr} {n : Str} {oe : Obj} {pn : List (Addr × Obj)} (hn : S.exc n = true) (hz : Zc (.ref (He.ga c.K n)) none oe) (hf : ∃ vs, oe.data = .fields vs) : GOk (X.suite a ((a, oe) :: pn)) (c.suiteE i a n) C (S.suiteE i) where
  N := G.N
  sc := G.sc
  K := G.K
  nd := G.nd
  hu := G.hu
  calm := fun h => by cases h
  pas := fun h => by cases h
  tkc := fun h => by cases h
  blt := G.blt
  gl := G.gl
  kt := G.kt
  fn := fun h => by cases h
  exc := G.exc
  exm := G.exm
  exx := G.exx
  kx := G.kx
  kv := G.kv
  ec := G.ec
  fnl := G.fnl
  kd := G.kd
  stk := fun h => by cases h
  es := fun j h => by
    cases h
    refine ⟨a, n, hn, by show pinE c.pn i a n i = _; unfold pinE; rw [if_pos rfl], ?_⟩
    have := G.ec n hn
    exact ⟨call_isE this hz hf, call_isET this hz hf⟩
  x := G.x
  r := G.r
  ro := G.ro
  pn := fun j h => by
    have h' : j ∉ i :: S.pins := h
    simp only [List.mem_cons, not_or] at h'
    show pinE c.pn i a n j = none
    unfold pinE
    rw [if_neg h'.1]
    exact G.pn j h'.2
  pw := fun j h p hp => by
    have h' : j ∉ i :: S.pinw := h
    simp only [List.mem_cons, not_or] at h'
    have hp' : pinE c.pn i a n j = some p := hp
    unfold pinE at hp'
    rw [if_neg h'.1] at hp'
    exact G.pw j h'.2 p hp'
/-- the suite behind except X -/
def Cc.suiteN (c : Cc) : Cc := { c with W := fun _ _ _ _ => False }
def Sg.suiteN (S : Sg) : Sg := { S with calm := false, calls := false, tr := false, es := none }
theorem GOk.suiteN (G : GOk X c C S) {a : Addr} {pn : List (Addr × Obj)} : GOk (X.suite a pn) c.suiteN C S.suiteN where
  N := G.N
  sc := G.sc
  K := G.K
  nd := G.nd
  hu := G.hu
  calm := fun h => by cases h
  pas := fun h => by cases h
  tkc := fun h => by cases h
  blt := G.blt
  gl := G.gl
  kt := G.kt
  fn := fun h => by cases h
  exc := G.exc
  exm := G.exm
  exx := G.exx
  kx := G.kx
  kv := G.kv
  ec := G.ec
  fnl := G.fnl
  kd := G.kd
  stk := fun h => by cases h
  es := fun j h => by cases h
  x := G.x
  r := G.r
  ro := G.ro
  pn := G.pn
  pw := G.pw

/-! ### the rules -/
theorem ps_tryAs {i : Nat} {x n : Str} {body suite : List Stmt} {b₀ : Stmt} {np pos pos' : Pos} {fb fh : M Fl} {ows xo : Ows} {onx obk oct : Option Ows} (G : GOk X c C S) (hcl : S.calls = true) (htr : S.tr = true) (hi : X.N[i]? = some n) (hln : X.env.scope.names.lookup n = some .local) (hpn : c.pn i = none) (hx : S.exc x = true) (hg : Gl X x) (hd : (x == ("__debug__" : Str)) = false)
    (hb : ∀ (W : WX) (pn : List (Addr × Obj)) (xe : Value → Shared → Prop), Takes (X.tr pn xe) W → PassesOwn (model X.prog X.w) X.A X.env xe → PSs (X.tr pn xe) body (tS (c.body W xo) fb ows onx obk oct))
    (hsu : ∀ (a : Addr) (m : Str) (oe : Obj) (pn : List (Addr × Obj)), S.exc m = true → Zc (.ref (He.ga c.K m)) none oe → (∃ vs, oe.data = .fields vs) → PSs (X.suite a ((a, oe) :: pn)) (b₀ :: suite) (tS (c.suiteE i a m) fh (xo.set i .fr) onx obk oct)) (hw : weakB 0 xo c.x = true) :
    PS X (.Try body [.ExceptHandler (some (.Name x np)) (some n) (b₀ :: suite) pos'] [] [] pos) (tS c (tryM C fb fun m e => if C.sub m x = true then (match (if i < e.length then fh (setS e i (.exc m)) else .no) with
      | .ok f e1 => .ok f (unS e1 i)
      | _ => .no) else .ex m e) ows onx obk oct) := by
  obtain ⟨tk, _⟩ := G.fn hcl
  obtain ⟨s1, s2⟩ := G.stk htr
  let ts : Addr → Value → Option Addr → TS := fun a cls d D σ H => ∃ m, S.exc m = true ∧ cls = .ref (He.ga c.K m) ∧ d = none ∧ tS (c.suiteE i a m) fh (xo.set i .fr) onx obk oct D σ H
  refine wPS (ps_try_as (ts := ts) s1 s2 G.nd hi hln ⟨hg, hd, .inl (G.exc x hx).1⟩ tk hb (fun a oe cls d pn hz hf => ⟨fun pins s σ H D I ⟨m, hm, hcls, hdn, h⟩ => by
    subst hcls hdn
    exact (hsu a m oe pn hm hz hf).run pins s σ H D I h⟩)) fun D σ H z => ?_
  obtain ⟨w, env, hw', sr, z⟩ := tS_iff.mp z
  refine tS_iff.mpr ⟨w, env, hw', sr, ?_⟩
  unfold tryM at z
  cases e1 : fb env with
  | no => rw [e1] at z; exact z
  | ok r env1 => rw [e1] at z; cases r <;> exact z
  | ex m env1 =>
    rw [e1] at z
    simp only at z
    by_cases hm : C.isx m = true
    · rw [if_pos hm] at z
      intro w1 σ1 x1 sr1
      refine ⟨C.sub m x, G.exm m x (G.exx m hm) hx, fun hb' a ha => ?_, fun hb' => ?_⟩
      · rw [if_pos hb'] at z
        by_cases hi2 : i < env1.length
        · rw [if_pos hi2] at z
          refine ⟨m, G.exx m hm, rfl, rfl, tS_iff.mpr ⟨w1.put i fun _ => False, setS env1 i (.exc m), rfl, sr1.err hi2 hpn, ?_⟩⟩
          cases e2 : fh (setS env1 i (.exc m)) with
          | no => rw [e2] at z; exact z
          | ex m2 e3 => rw [e2] at z; exact z.elim
          | ok f e3 =>
            rw [e2] at z
            have ext : ∀ {w2}, Ext (w1.put i fun _ => False) w2 → Ext w (w2.out i) := fun x2 => ((x1.trans Ext.bind).trans x2).trans (Ext.out _ i)
            cases f with
            | nx =>
              rintro w2 σ2 x2 ⟨o2, ho, s2⟩
              exact z (w2.out i) (σ2.set i none) (ext x2) ⟨o2, ho, s2.unerr hpn⟩
            | bk =>
              rintro w2 σ2 x2 ⟨o2, ho, s2⟩
              exact z (w2.out i) (σ2.set i none) (ext x2) ⟨o2, ho, s2.unerr hpn⟩
            | ct =>
              rintro w2 σ2 x2 ⟨o2, ho, s2⟩
              exact z (w2.out i) (σ2.set i none) (ext x2) ⟨o2, ho, s2.unerr hpn⟩
            | rt d =>
              intro w2 σ2 v A x2 s2 ro t
              exact z (w2.out i) (σ2.set i none) v A (ext x2) (s2.unerr hpn) ro ⟨t.z, fun a j ha h => t.f a j ha h.2, (t.pre (x1.trans Ext.bind)).nw⟩
        · rw [if_neg hi2] at z; exact z.elim
      · rw [if_neg (by rw [hb']; exact Bool.false_ne_true)] at z
        obtain ⟨w2, x2, eh, s2⟩ := sr1.weak hw
        have := z w2 σ1 (x1.trans x2) s2
        rw [eh] at this
        exact this
    · rw [if_neg hm] at z; exact z.elim
theorem ps_tryNo {x : Str} {body suite : List Stmt} {b₀ : Stmt} {np pos pos' : Pos} {fb fh : M Fl} {ows xo : Ows} {onx obk oct : Option Ows} (G : GOk X c C S) (hcl : S.calls = true) (htr : S.tr = true) (hx : S.exc x = true) (hg : Gl X x) (hd : (x == ("__debug__" : Str)) = false)
    (hb : ∀ (W : WX) (pn : List (Addr × Obj)) (xe : Value → Shared → Prop), Takes (X.tr pn xe) W → PassesOwn (model X.prog X.w) X.A X.env xe → PSs (X.tr pn xe) body (tS (c.body W xo) fb ows onx obk oct))
    (hsu : ∀ (a : Addr) (pn : List (Addr × Obj)), PSs (X.suite a pn) (b₀ :: suite) (tS c.suiteN fh xo onx obk oct)) (hw : weakB 0 xo c.x = true) :
    PS X (.Try body [.ExceptHandler (some (.Name x np)) none (b₀ :: suite) pos'] [] [] pos) (tS c (tryM C fb fun m e => if C.sub m x = true then (match fh e with
      | .ok f e1 => .ok f e1
      | _ => .no) else .ex m e) ows onx obk oct) := by
  obtain ⟨tk, _⟩ := G.fn hcl
  obtain ⟨s1, s2⟩ := G.stk htr
  let ts : Addr → Value → Option Addr → TS := fun a cls d => tS c.suiteN fh xo onx obk oct
  refine wPS (ps_try_only (ts := ts) s1 s2 ⟨hg, hd, .inl (G.exc x hx).1⟩ tk hb (fun a oe cls d pn hz hf => hsu a ((a, oe) :: pn))) fun D σ H z => ?_
  obtain ⟨w, env, hw', sr, z⟩ := tS_iff.mp z
  refine tS_iff.mpr ⟨w, env, hw', sr, ?_⟩
  unfold tryM at z
  cases e1 : fb env with
  | no => rw [e1] at z; exact z
  | ok r env1 => rw [e1] at z; cases r <;> exact z
  | ex m env1 =>
    rw [e1] at z
    simp only at z
    by_cases hm : C.isx m = true
    · rw [if_pos hm] at z
      intro w1 σ1 x1 sr1
      refine ⟨C.sub m x, G.exm m x (G.exx m hm) hx, fun hb' a ha => ?_, fun hb' => ?_⟩
      · rw [if_pos hb'] at z
        refine tS_iff.mpr ⟨w1, env1, rfl, sr1, ?_⟩
        cases e2 : fh env1 with
        | no => rw [e2] at z; exact z
        | ex m2 e3 => rw [e2] at z; exact z.elim
        | ok f e3 =>
          rw [e2] at z
          exact tSz.pre (c := c.suiteN) (σ := σ) x1 (by cases f <;> exact z)
      · rw [if_neg (by rw [hb']; exact Bool.false_ne_true)] at z
        obtain ⟨w2, x2, eh, s2⟩ := sr1.weak hw
        have := z w2 σ1 (x1.trans x2) s2
        rw [eh] at this
        exact this
    · rw [if_neg hm] at z; exact z.elim

/-! ### the checker -/
/-- one except clause: its class, its name -/
def vTry : Stmt → Option (List Stmt × Str × Option Str × Stmt × List Stmt)
  | .Try b [.ExceptHandler (some (.Name x _)) n (s :: ss) _] [] [] _ => some (b, x, n, s, ss)
  | _ => none
theorem vTry_eq {s : Stmt} {r : List Stmt × Str × Option Str × Stmt × List Stmt} (h : vTry s = some r) : ∃ np p' p, s = .Try r.1 [.ExceptHandler (some (.Name r.2.1 np)) r.2.2.1 (r.2.2.2.1 :: r.2.2.2.2) p'] [] [] p := by
  unfold vTry at h
  split at h
  · cases h; exact ⟨_, _, _, rfl⟩
  · cases h
/-- the body's and the suite's states behind -/
def meet (a b : SF) : Option SF := if (wk a.nx (joinQ a.nx b.nx) && (wk b.nx (joinQ a.nx b.nx) && (wk a.bk (joinQ a.bk b.bk) && (wk b.bk (joinQ a.bk b.bk) && (wk a.ct (joinQ a.ct b.ct) && wk b.ct (joinQ a.ct b.ct)))))) = true then
  some ⟨joinQ a.nx b.nx, joinQ a.bk b.bk, joinQ a.ct b.ct⟩ else none
theorem meet_ok {a b r : SF} (h : meet a b = some r) : (wk a.nx r.nx = true ∧ wk a.bk r.bk = true ∧ wk a.ct r.ct = true) ∧ (wk b.nx r.nx = true ∧ wk b.bk r.bk = true ∧ wk b.ct r.ct = true) := by
  unfold meet at h
  split at h
  · rename_i hw
    cases h
    simp only [Bool.and_eq_true] at hw
    obtain ⟨w1, w2, w3, w4, w5, w6⟩ := hw
    exact ⟨⟨w1, w3, w5⟩, ⟨w2, w4, w6⟩⟩
  · cases h
def csTry (S : Sg) (xo : Ows) (cs : List Str) (n : Option Nat) (kb : BC) (ks : BC) : SC := fun st ows => match vTry st, cs with
  | some t, [x] => if (decide (t.2.1 = x) && ((S.calls && S.tr) && (S.exc x && (S.glo x && (noDbg x && weakB 0 xo S.x))))) = true then (match n, t.2.2.1 with
    | some i, some y => if (decide (S.N[i]? = some y) && (decide (S.sc.names.lookup y = some .local) && !S.pins.contains i)) = true then (match kb t.1 ows, ks (t.2.2.2.1 :: t.2.2.2.2) (xo.set i .fr) with
      | some a, some b => meet a b
      | _, _ => none) else none
    | none, none => (match kb t.1 ows, ks (t.2.2.2.1 :: t.2.2.2.2) xo with
      | some a, some b => meet a b
      | _, _ => none)
    | _, _ => none) else none
  | _, _ => none
theorem csTry_ok {xo : Ows} {cs : List Str} {n : Option Nat} {kb ks : BC} {fb fh : M Fl} (hb : BCOk (S.body xo) C kb fb) (hs : match n with
    | some i => BCOk (S.suiteE i) C ks fh
    | none => BCOk S.suiteN C ks fh) : SCOk S C (csTry S xo cs n kb ks) (tryM C fb fun c e => if (cs.any fun x => C.sub c x) = true then (match (match n with
      | some i => if i < e.length then fh (setS e i (.exc c)) else .no
      | none => fh e) with
      | .ok f e1 => .ok f (match n with
        | some i => unS e1 i
        | none => e1)
      | _ => .no) else .ex c e) := fun X c G st ows r h => by
  unfold csTry at h
  split at h
  · rename_i t x ht
    split at h
    · rename_i hn
      simp only [Bool.and_eq_true, decide_eq_true_eq] at hn
      obtain ⟨h1, h2, h3, h4, h5, h6⟩ := hn
      obtain ⟨np, p', p, rfl⟩ := vTry_eq ht
      have e0 : ∀ m, ([x].any fun x => C.sub m x) = C.sub m x := fun m => by simp
      have hw : weakB 0 xo c.x = true := by rw [G.x]; exact h6
      split at h
      · rename_i i y hy
        split at h
        · rename_i hk
          simp only [Bool.and_eq_true, decide_eq_true_eq, Bool.not_eq_true'] at hk
          split at h
          · rename_i a b ea eb
            obtain ⟨⟨m1, m2, m3⟩, m4, m5, m6⟩ := meet_ok h
            have hpn := G.pn i (by simpa using hk.2.2)
            rw [h1, hy]
            simp only [e0]
            exact ps_tryAs G h2.1 h2.2 (by rw [G.N]; exact hk.1) (by rw [G.sc]; exact hk.2.1) hpn h3 (G.glo h4) (noDbg1 h5) (fun W pn xe tk hp => PSs.weaken (hb _ _ (G.body tk hp) _ _ a ea) m1 m2 m3)
              (fun a' m oe pn hm hz hf => PSs.weaken (hs _ _ (G.suiteE hm hz hf) _ _ b eb) m4 m5 m6) hw
          · cases h
        · cases h
      · rename_i hy
        split at h
        · rename_i a b ea eb
          obtain ⟨⟨m1, m2, m3⟩, m4, m5, m6⟩ := meet_ok h
          rw [h1, hy]
          simp only [e0]
          exact ps_tryNo G h2.1 h2.2 h3 (G.glo h4) (noDbg1 h5) (fun W pn xe tk hp => PSs.weaken (hb _ _ (G.body tk hp) _ _ a ea) m1 m2 m3)
            (fun a' pn => PSs.weaken (hs _ _ G.suiteN _ _ b eb) m4 m5 m6) hw
        · cases h
      · cases h
    · cases h
  · cases h
end

/-! ### several clauses -/
def vHd : ExceptHandler → Option (Str × Option Str × Stmt × List Stmt)
  | .ExceptHandler (some (.Name x _)) n (s :: ss) _ => some (x, n, s, ss)
  | _ => none
theorem vHd_eq {h : ExceptHandler} {r : Str × Option Str × Stmt × List Stmt} (e : vHd h = some r) : ∃ np p', h = .ExceptHandler (some (.Name r.1 np)) r.2.1 (r.2.2.1 :: r.2.2.2) p' := by
  unfold vHd at e
  split at e
  · cases e; exact ⟨_, _, rfl⟩
  · cases e
def vTryH : Stmt → Option (List Stmt × ExceptHandler × List ExceptHandler)
  | .Try b (h :: hs) [] [] _ => some (b, h, hs)
  | _ => none
theorem vTryH_eq {s : Stmt} {r : List Stmt × ExceptHandler × List ExceptHandler} (h : vTryH s = some r) : ∃ p, s = .Try r.1 (r.2.1 :: r.2.2) [] [] p := by
  unfold vTryH at h
  split at h
  · cases h; exact ⟨_, rfl⟩
  · cases h
abbrev HC := List ExceptHandler → Ows → Option SF
def HCOk (S : Sg) (C : Cs) (k : HC) (fh : Str → M Fl) : Prop := ∀ (X : Cx) (c : Cc), GOk X c C S → ∀ hds xo r, weakB 0 xo c.x = true → k hds xo = some r → ∃ l, HdsA X hds l ∧
  ∀ (D : Ends) (σ : L2.St) (w : Wd) (env : Env) (m : Str), SR c.K c.pn xo env σ w → C.isx m = true → tSz c w σ D r.nx r.bk r.ct (fh m env) → wH X.K c.W D l (.ref (He.ga c.K m)) none σ w.H
def hcNil : HC := fun hds xo => match hds with
  | [] => some ⟨none, none, none⟩
  | _ => none
section
variable {S : Sg} {C : Cs} {X : Cx} {c : Cc}
theorem hcNil_ok : HCOk S C hcNil (fun n e => .ex n e) := fun X c G hds xo r hx h => by
  unfold hcNil at h
  split at h
  · cases h
    refine ⟨[], .nil, fun D σ w env m sr _ z => ?_⟩
    obtain ⟨w2, x2, eh, s2⟩ := sr.weak hx
    have := z w2 σ x2 s2
    rw [eh] at this
    exact this
  · cases h
def hcCons (S : Sg) (cs : List Str) (n : Option Nat) (ks : BC) (kr : HC) : HC := fun hds xo => match hds, cs with
  | h :: hs, [x] => (match vHd h with
    | some t => if (decide (t.1 = x) && (S.exc x && (S.glo x && noDbg x))) = true then (match n, t.2.1 with
      | some i, some y => if (decide (S.N[i]? = some y) && (decide (S.sc.names.lookup y = some .local) && !S.pins.contains i)) = true then (match ks (t.2.2.1 :: t.2.2.2) (xo.set i .fr), kr hs xo with
        | some a, some b => meet a b
        | _, _ => none) else none
      | none, none => (match ks (t.2.2.1 :: t.2.2.2) xo, kr hs xo with
        | some a, some b => meet a b
        | _, _ => none)
      | _, _ => none) else none
    | none => none)
  | _, _ => none
theorem hcCons_ok {cs : List Str} {n : Option Nat} {ks : BC} {kr : HC} {fh : M Fl} {fr : Str → M Fl} (hs : match n with
    | some i => BCOk (S.suiteE i) C ks fh
    | none => BCOk S.suiteN C ks fh) (hr : HCOk S C kr fr) : HCOk S C (hcCons S cs n ks kr) (fun c e => if (cs.any fun x => C.sub c x) = true then (match (match n with
      | some i => if i < e.length then fh (setS e i (.exc c)) else .no
      | none => fh e) with
      | .ok f e1 => .ok f (match n with
        | some i => unS e1 i
        | none => e1)
      | _ => .no) else fr c e) := fun X c G hds xo r hx h => by
  unfold hcCons at h
  split at h
  · rename_i hd hds' x
    split at h
    · rename_i t ht
      split at h
      · rename_i hn
        simp only [Bool.and_eq_true, decide_eq_true_eq] at hn
        obtain ⟨h1, h2, h3, h4⟩ := hn
        obtain ⟨np, p', rfl⟩ := vHd_eq ht
        have e0 : ∀ m, ([x].any fun x => C.sub m x) = C.sub m x := fun m => by simp
        have hnm : Names X t.1 (.ref (He.ga c.K x)) := ⟨by rw [h1]; exact G.glo h3, by rw [h1]; exact noDbg1 h4, .inl (by rw [h1]; exact (G.exc x h2).1)⟩
        split at h
        · rename_i i y hy
          split at h
          · rename_i hk
            simp only [Bool.and_eq_true, decide_eq_true_eq, Bool.not_eq_true'] at hk
            split at h
            · rename_i a b ea eb
              obtain ⟨⟨m1, m2, m3⟩, m4, m5, m6⟩ := meet_ok h
              have hpn := G.pn i (by simpa using hk.2.2)
              obtain ⟨l, hl, hw⟩ := hr X c G hds' xo b hx eb
              let ts : Addr → Value → Option Addr → TS := fun a' cls d D σ H => ∃ m, S.exc m = true ∧ cls = .ref (He.ga c.K m) ∧ d = none ∧ tS (c.suiteE i a' m) fh (xo.set i .fr) r.nx r.bk r.ct D σ H
              rw [hy]
              refine ⟨(.ref (He.ga c.K x), some i, ts) :: l, .consA G.nd (by rw [G.N]; exact hk.1) (by show X.env.scope.names.lookup y = _; rw [G.sc]; exact hk.2.1) hnm (fun a' oe cls d pn hz hf => ⟨fun pins s σ H D I ⟨m, hm, hcls, hdn, hh⟩ => by
                subst hcls hdn
                exact (PSs.weaken (hs _ _ (G.suiteE (i := i) hm hz hf) _ _ a ea) m1 m2 m3).run pins s σ H D I hh⟩) hl, fun D σ w env m sr hm z => ?_⟩
              simp only [e0] at z
              refine ⟨C.sub m x, by rw [G.K]; exact (by have := G.exm m x (G.exx m hm) h2; rw [G.K] at this; exact this), fun hb' a' ha' => ?_, fun hb' => ?_⟩
              · rw [if_pos hb'] at z
                by_cases hi2 : i < env.length
                · rw [if_pos hi2] at z
                  refine ⟨m, G.exx m hm, rfl, rfl, tS_iff.mpr ⟨w.put i fun _ => False, setS env i (.exc m), rfl, sr.err hi2 hpn, ?_⟩⟩
                  cases e2 : fh (setS env i (.exc m)) with
                  | no => rw [e2] at z; exact z
                  | ex m2 e3 => rw [e2] at z; exact z.elim
                  | ok f e3 =>
                    rw [e2] at z
                    have ext : ∀ {w2}, Ext (w.put i fun _ => False) w2 → Ext w (w2.out i) := fun x2 => (Ext.bind.trans x2).trans (Ext.out _ i)
                    cases f with
                    | nx =>
                      rintro w2 σ2 x2 ⟨o2, ho, s2⟩
                      exact z (w2.out i) (σ2.set i none) (ext x2) ⟨o2, ho, s2.unerr hpn⟩
                    | bk =>
                      rintro w2 σ2 x2 ⟨o2, ho, s2⟩
                      exact z (w2.out i) (σ2.set i none) (ext x2) ⟨o2, ho, s2.unerr hpn⟩
                    | ct =>
                      rintro w2 σ2 x2 ⟨o2, ho, s2⟩
                      exact z (w2.out i) (σ2.set i none) (ext x2) ⟨o2, ho, s2.unerr hpn⟩
                    | rt d =>
                      intro w2 σ2 v A x2 s2 ro t
                      exact z (w2.out i) (σ2.set i none) v A (ext x2) (s2.unerr hpn) ro ⟨t.z, fun a j ha h => t.f a j ha h.2, (t.pre Ext.bind).nw⟩
                · rw [if_neg hi2] at z; exact z.elim
              · rw [if_neg (by rw [hb']; exact Bool.false_ne_true)] at z
                exact hw D σ w env m sr hm (tSz.weak m4 m5 m6 z)
            · cases h
          · cases h
        · rename_i hy
          split at h
          · rename_i a b ea eb
            obtain ⟨⟨m1, m2, m3⟩, m4, m5, m6⟩ := meet_ok h
            obtain ⟨l, hl, hw⟩ := hr X c G hds' xo b hx eb
            let ts : Addr → Value → Option Addr → TS := fun a' cls d => tS c.suiteN fh xo r.nx r.bk r.ct
            rw [hy]
            refine ⟨(.ref (He.ga c.K x), none, ts) :: l, .cons hnm (fun a' oe cls d pn hz hf => PSs.weaken (hs _ _ (G.suiteN) _ _ a ea) m1 m2 m3) hl, fun D σ w env m sr hm z => ?_⟩
            simp only [e0] at z
            refine ⟨C.sub m x, by rw [G.K]; exact (by have := G.exm m x (G.exx m hm) h2; rw [G.K] at this; exact this), fun hb' a' ha' => ?_, fun hb' => ?_⟩
            · rw [if_pos hb'] at z
              refine tS_iff.mpr ⟨w, env, rfl, sr, ?_⟩
              cases e2 : fh env with
              | no => rw [e2] at z; exact z
              | ex m2 e3 => rw [e2] at z; exact z.elim
              | ok f e3 =>
                rw [e2] at z
                exact tSz.pre (c := c.suiteN) (σ := σ) Ext.refl (by cases f <;> exact z)
            · rw [if_neg (by rw [hb']; exact Bool.false_ne_true)] at z
              exact hw D σ w env m sr hm (tSz.weak m4 m5 m6 z)
          · cases h
        · cases h
      · cases h
    · cases h
  · cases h
def csTryH (S : Sg) (xo : Ows) (kb : BC) (kh : HC) : SC := fun st ows => match vTryH st with
  | some t => if (S.calls && (S.tr && weakB 0 xo S.x)) = true then (match kb t.1 ows, kh (t.2.1 :: t.2.2) xo with
    | some a, some b => meet a b
    | _, _ => none) else none
  | none => none
theorem csTryH_ok {xo : Ows} {kb : BC} {kh : HC} {fb : M Fl} {fh : Str → M Fl} (hb : BCOk (S.body xo) C kb fb) (hh : HCOk S C kh fh) : SCOk S C (csTryH S xo kb kh) (tryM C fb fh) := fun X c G st ows r h => by
  unfold csTryH at h
  split at h
  · rename_i t ht
    split at h
    · rename_i hn
      simp only [Bool.and_eq_true] at hn
      obtain ⟨h1, h2, h3⟩ := hn
      obtain ⟨p, rfl⟩ := vTryH_eq ht
      split at h
      · rename_i a b ea eb
        obtain ⟨⟨m1, m2, m3⟩, m4, m5, m6⟩ := meet_ok h
        have hw : weakB 0 xo c.x = true := by rw [G.x]; exact h3
        obtain ⟨l, hl, hwh⟩ := hh X c G _ xo b hw eb
        obtain ⟨tk, _⟩ := G.fn h1
        obtain ⟨s1, s2⟩ := G.stk h2
        refine wPS (ps_try_hds s1 s2 tk (fun W pn xe tk hp => PSs.weaken (hb _ _ (G.body tk hp) _ _ a ea) m1 m2 m3) hl) fun D σ H z => ?_
        obtain ⟨w, env, hw', sr, z⟩ := tS_iff.mp z
        refine tS_iff.mpr ⟨w, env, hw', sr, ?_⟩
        unfold tryM at z
        cases e1 : fb env with
        | no => rw [e1] at z; exact z
        | ok r env1 => rw [e1] at z; cases r <;> exact z
        | ex m env1 =>
          rw [e1] at z
          simp only at z
          by_cases hm : C.isx m = true
          · rw [if_pos hm] at z
            intro w1 σ1 x1 sr1
            exact hwh D σ1 w1 env1 m sr1 hm (tSz.weak m4 m5 m6 (tSz.pre x1 z))
          · rw [if_neg hm] at z; exact z.elim
      · cases h
    · cases h
  · cases h
end
/-- only on to what stands behind -/
def nxSC (f : Stmt → Ows → Option Ows) : SC := fun st ows => match f st ows with
  | some o => some ⟨some o, none, none⟩
  | none => none
theorem nxSC_ok {S : Sg} {C : Cs} {f : Stmt → Ows → Option Ows} {g : M Fl} (h : ∀ (X : Cx) (c : Cc), GOk X c C S → ∀ st ows r, f st ows = some r → PS X st (tS c g ows (some r) none none)) : SCOk S C (nxSC f) g := fun X c G st ows r hh => by
  unfold nxSC at hh
  split at hh
  · rename_i o ho
    cases hh
    exact h X c G st ows o ho
  · cases hh
mutual
def cS (S : Sg) : Mp.S → SC
  | .set i e => (match e with
    | .lc elt t k ia cs => csSetLc S i t k (cks S ia) (fun S' => ck S' elt) (fun S' => cks S' cs) (pureE elt && pureEs cs) (ownE elt)
    | .dc kx vx t k ia => csSetDc S i t k (cks S ia) (fun S' => ck S' kx) (fun S' => ck S' vx) (pureE kx && pureE vx)
    | e => csSet S i (ck S e))
  | .tgt is e => csTgt S is (ck S e)
  | .put i ps e => (match ps with
    | [E1] => nxSC (csPut S i [] [] E1 (ck S E1) (ck S e))
    | [E0, E1] => nxSC (csPut S i [E0] [ck S E0] E1 (ck S E1) (ck S e))
    | _ => noSC)
  | .aug i k e => nxSC (csAug S i k e (ck S e))
  | .augp i ps k e => (match ps with
    | [E1] => nxSC (csAugP S i [] [] E1 (ck S E1) k e (ck S e))
    | [E0, E1] => nxSC (csAugP S i [E0] [ck S E0] E1 (ck S E1) k e (ck S e))
    | _ => noSC)
  | .ex e => csEx (ck S e)
  | .ifs k a b => csIf (ck S k) (cB S a) (cB S b)
  | .for_ t k ia w body => csFor S t k (cks S ia) w (cB S body)
  | .while_ k body => csWh S (ck S k) (cB S body)
  | .ret e => csRet S (ck S e)
  | .retN => csRetN S
  | .raise n => csRaise S n
  | .try_ xo body h => csTryH S xo (cB (S.body xo) body) (cH S h)
  | .hd _ _ _ _ => noSC
  | .hn => noSC
  | .pass => csPass
  | .brk => csBrk
  | .cont => csCont
  | .weak _ => noSC
def cB (S : Sg) : List Mp.S → BC
  | [] => bcNil
  | s :: ss => bcCons (cS S s) (cB S ss)
def cH (S : Sg) : Mp.S → HC
  | .hd cs n hb r => hcCons S cs n (cB (match n with
      | some i => S.suiteE i
      | none => S.suiteN) hb) (cH S r)
  | .hn => hcNil
  | _ => fun _ _ => none
end
theorem noSC_ok {S : Sg} {C : Cs} {f : M Fl} : SCOk S C noSC f := fun _ _ _ _ _ _ h => nomatch h
mutual
theorem cS_ok (C : Cs) : ∀ (S : Sg) (s : Mp.S), SCOk S C (cS S s) (dS C s)
  | S, .set i e => by
    by_cases hl : ∃ elt t k ia cs, e = .lc elt t k ia cs
    · obtain ⟨elt, t, k, ia, cs, rfl⟩ := hl
      simp only [cS, dS, den]
      exact csSetLc_ok (cks_ok C S ia) (fun S' => ck_ok C S' elt) (fun S' => cks_ok C S' cs) fun h => by
        simp only [Bool.and_eq_true] at h
        exact ⟨(pureE_ok C h.1).1, pure_cM h.2⟩
    · by_cases hd : ∃ kx vx t k ia, e = .dc kx vx t k ia
      · obtain ⟨kx, vx, t, k, ia, rfl⟩ := hd
        simp only [cS, dS, den]
        exact csSetDc_ok (cks_ok C S ia) (fun S' => ck_ok C S' kx) (fun S' => ck_ok C S' vx) fun h => by
          simp only [Bool.and_eq_true] at h
          exact ⟨(pureE_ok C h.1).1, (pureE_ok C h.2).1⟩
      · have : cS S (.set i e) = csSet S i (ck S e) := by
          cases e <;> first | rfl | exact absurd ⟨_, _, _, _, _, rfl⟩ hl | exact absurd ⟨_, _, _, _, _, rfl⟩ hd
        rw [this]
        simp only [dS]
        exact csSet_ok (ck_ok C S e)
  | S, .tgt is e => by simp only [cS, dS]; exact csTgt_ok (ck_ok C S e)
  | S, .put i ps e => by
    simp only [cS, dS]
    split
    · exact nxSC_ok fun X c G st ows r h => csPut_ok (Es := []) G (by simp only [dens]; trivial) (ck_ok C S _) (ck_ok C S e) h
    · exact nxSC_ok fun X c G st ows r h => csPut_ok (Es := [_]) G (by simp only [dens]; exact ⟨ck_ok C S _, trivial⟩) (ck_ok C S _) (ck_ok C S e) h
    · exact noSC_ok
  | S, .aug i k e => by simp only [cS, dS]; exact nxSC_ok fun X c G st ows r h => csAug_ok G (ck_ok C S e) h
  | S, .augp i ps k e => by
    simp only [cS, dS]
    split
    · exact nxSC_ok fun X c G st ows r h => csAugP_ok (Es := []) G (by simp only [dens]; trivial) (ck_ok C S _) (ck_ok C S e) h
    · exact nxSC_ok fun X c G st ows r h => csAugP_ok (Es := [_]) G (by simp only [dens]; exact ⟨ck_ok C S _, trivial⟩) (ck_ok C S _) (ck_ok C S e) h
    · exact noSC_ok
  | S, .ex e => by simp only [cS, dS]; exact csEx_ok (ck_ok C S e)
  | S, .ifs k a b => by simp only [cS, dS]; exact csIf_ok (ck_ok C S k) (cB_ok C S a) (cB_ok C S b)
  | S, .for_ t k ia w body => by simp only [cS, dS]; exact csFor_ok (cks_ok C S ia) (cB_ok C S body)
  | S, .while_ k body => by simp only [cS, dS]; exact csWh_ok (ck_ok C S k) (cB_ok C S body)
  | S, .ret e => by simp only [cS, dS]; exact csRet_ok (ck_ok C S e)
  | S, .retN => by simp only [cS, dS]; exact csRetN_ok
  | S, .raise n => by simp only [cS, dS]; exact csRaise_ok
  | S, .try_ xo body h => by
    simp only [cS, dS]
    exact csTryH_ok (cB_ok C (S.body xo) body) (cH_ok C S h)
  | S, .hd _ _ _ _ => by simp only [cS]; exact noSC_ok
  | S, .hn => by simp only [cS]; exact noSC_ok
  | S, .pass => by simp only [cS, dS]; exact csPass_ok
  | S, .brk => by simp only [cS, dS]; exact csBrk_ok
  | S, .cont => by simp only [cS, dS]; exact csCont_ok
  | S, .weak _ => by simp only [cS]; exact noSC_ok
theorem cB_ok (C : Cs) : ∀ (S : Sg) (ss : List Mp.S), BCOk S C (cB S ss) (dB C ss)
  | S, [] => by simp only [cB, dB]; exact bcNil_ok
  | S, s :: ss => by simp only [cB, dB]; exact bcCons_ok (cS_ok C S s) (cB_ok C S ss)
theorem cH_ok (C : Cs) : ∀ (S : Sg) (h : Mp.S), HCOk S C (cH S h) (dH C h)
  | S, .hd cs n hb r => by
    have := hcCons_ok (S := S) (cs := cs) (n := n) (ks := cB (match n with
        | some i => S.suiteE i
        | none => S.suiteN) hb) (fh := dB C hb) (by
          cases n with
          | some i => exact cB_ok C (S.suiteE i) hb
          | none => exact cB_ok C S.suiteN hb) (cH_ok C S r)
    simp only [cH]
    refine cast (congrArg (HCOk S C _) ?_) this
    funext m e
    simp only [dH]
    cases n <;> rfl
  | S, .hn => by
    simp only [cH]
    refine cast (congrArg (HCOk S C _) ?_) (hcNil_ok (S := S) (C := C))
    funext m e
    simp only [dH]
  | S, .set _ _ => fun _ _ _ _ _ _ _ h => by simp only [cH] at h; cases h
  | S, .tgt _ _ => fun _ _ _ _ _ _ _ h => by simp only [cH] at h; cases h
  | S, .put _ _ _ => fun _ _ _ _ _ _ _ h => by simp only [cH] at h; cases h
  | S, .aug _ _ _ => fun _ _ _ _ _ _ _ h => by simp only [cH] at h; cases h
  | S, .augp _ _ _ _ => fun _ _ _ _ _ _ _ h => by simp only [cH] at h; cases h
  | S, .ex _ => fun _ _ _ _ _ _ _ h => by simp only [cH] at h; cases h
  | S, .ifs _ _ _ => fun _ _ _ _ _ _ _ h => by simp only [cH] at h; cases h
  | S, .for_ _ _ _ _ _ => fun _ _ _ _ _ _ _ h => by simp only [cH] at h; cases h
  | S, .while_ _ _ => fun _ _ _ _ _ _ _ h => by simp only [cH] at h; cases h
  | S, .ret _ => fun _ _ _ _ _ _ _ h => by simp only [cH] at h; cases h
  | S, .retN => fun _ _ _ _ _ _ _ h => by simp only [cH] at h; cases h
  | S, .raise _ => fun _ _ _ _ _ _ _ h => by simp only [cH] at h; cases h
  | S, .try_ _ _ _ => fun _ _ _ _ _ _ _ h => by simp only [cH] at h; cases h
  | S, .pass => fun _ _ _ _ _ _ _ h => by simp only [cH] at h; cases h
  | S, .brk => fun _ _ _ _ _ _ _ h => by simp only [cH] at h; cases h
  | S, .cont => fun _ _ _ _ _ _ _ h => by simp only [cH] at h; cases h
  | S, .weak _ => fun _ _ _ _ _ _ _ h => by simp only [cH] at h; cases h
end
end Mp
/-! Mr3: the module's own tuples and dicts, as the head shows them. -/
namespace Mp
open PySem PySem.Spec PyProof.Rows L2
mutual
/-- the value stands for the data, whatever is made later -/
def repB (K : PySem.W.Frag) : D → Value → Bool
  | .non, .none => true
  | .bl a, .bool b => a == b
  | .int i, .int j _ => decide (i = j)
  | .str x, .str y _ => decide (x = y)
  | .tup ds, .ref a => (match K.lookup a with
    | some ⟨.type c, _, .seq its _, _⟩ => decide (c = "tuple") && (decide (its.size ≤ sizeLine) && repsB K ds its.toList)
    | _ => false)
  | _, _ => false
def repsB (K : PySem.W.Frag) : List D → List Value → Bool
  | [], [] => true
  | d :: ds, v :: vs => repB K d v && repsB K ds vs
  | _, _ => false
end
mutual
theorem repB_ok {K : PySem.W.Frag} : ∀ {d : D} {u : Value}, repB K d u = true → ∃ v, RelV v u ∧ ∀ H Z, Rep K H Z d v
  | .non, u, h => by
    cases u with
    | none => exact ⟨.non, rfl, fun _ _ => rfl⟩
    | _ => cases h
  | .bl a, u, h => by
    cases u with
    | bool b =>
      simp only [repB, beq_iff_eq] at h
      subst h
      exact ⟨.bl a, rfl, fun _ _ => rfl⟩
    | _ => cases h
  | .int i, u, h => by
    cases u with
    | int j t =>
      simp only [repB, decide_eq_true_eq] at h
      subst h
      exact ⟨.int i, ⟨t, rfl⟩, fun _ _ => rfl⟩
    | _ => cases h
  | .str x, u, h => by
    cases u with
    | str y t =>
      simp only [repB, decide_eq_true_eq] at h
      subst h
      exact ⟨.str x, ⟨t, rfl⟩, fun _ _ => rfl⟩
    | _ => cases h
  | .tup ds, u, h => by
    cases u with
    | ref a =>
      simp only [repB] at h
      split at h
      · rename_i c od its n sl hl
        simp only [Bool.and_eq_true, decide_eq_true_eq] at h
        obtain ⟨h1, h2, h3⟩ := h
        subst h1
        obtain ⟨xs, g1, g2⟩ := repsB_ok h3
        exact ⟨.ref a, rfl, fun H Z => ⟨a, xs, rfl, .inr ⟨_, its, n, hl, rfl, rfl, h2, g1⟩, g2 H Z⟩⟩
      · cases h
    | _ => cases h
  | .lst _, _, h => by simp [repB] at h
  | .rol _, _, h => by simp [repB] at h
  | .dct _ _ _, _, h => by simp [repB] at h
  | .exc _, _, h => by simp [repB] at h
theorem repsB_ok {K : PySem.W.Frag} : ∀ {ds : List D} {us : List Value}, repsB K ds us = true → ∃ vs, Vals vs us ∧ ∀ H Z, Reps K H Z ds vs
  | [], [], _ => ⟨[], .nil, fun _ _ => rfl⟩
  | d :: ds, u :: us, h => by
    simp only [repsB, Bool.and_eq_true] at h
    obtain ⟨v, h1, h2⟩ := repB_ok h.1
    obtain ⟨vs, h3, h4⟩ := repsB_ok h.2
    exact ⟨v :: vs, .cons h1 h3, fun H Z => ⟨v, vs, rfl, h2 H Z, h4 H Z⟩⟩
  | [], _ :: _, h => by cases h
  | _ :: _, [], h => by cases h
end
/-- the dict's values, by its keys -/
def valsD (K : PySem.W.Frag) (a : Addr) : List Str → List D → Bool
  | z :: zs, d :: ds => (match PySem.W.nsIn K a z with
    | some (some u) => repB K d u
    | _ => false) && valsD K a zs ds
  | [], [] => true
  | _, _ => false
theorem valsD_ok {K : PySem.W.Frag} {a : Addr} {z : Str} {d : D} : ∀ {zs : List Str} {ds : List D}, valsD K a zs ds = true → dGet (zs.map D.str) ds (.str z) = some d → ∃ u v, PySem.W.nsIn K a z = some (some u) ∧ RelV v u ∧ ∀ H Z, Rep K H Z d v
  | y :: zs, e :: ds, h, hg => by
    simp only [valsD, Bool.and_eq_true] at h
    simp only [List.map_cons, dGet] at hg
    split at hg
    · rename_i he
      cases he
      cases hg
      cases hn : PySem.W.nsIn K a z with
      | none => rw [hn] at h; cases h.1
      | some r =>
        rw [hn] at h
        cases r with
        | none => cases h.1
        | some u =>
          obtain ⟨v, h1, h2⟩ := repB_ok h.1
          exact ⟨u, v, rfl, h1, h2⟩
    · exact valsD_ok h.2 hg
  | [], [], _, hg => by cases hg
  | [], _ :: _, h, _ => by cases h
  | _ :: _, [], h, _ => by cases h
/-- which texts are keys -/
theorem keys_find {P : Params} {z : Str} : ∀ {l : List DictEntry} {zs : List Str}, l.map He.keyOf = He.keysIn P zs → (l.find? (·.key.isStr z)).isSome = decide (z ∈ zs) ∧ l.any (·.refKey) = false
  | [], [], _ => ⟨by simp, rfl⟩
  | [], _ :: _, h => by cases h
  | _ :: _, [], h => by cases h
  | e :: l, k :: zs, h => by
    have h1 : He.keyOf e :: l.map He.keyOf = some (k, PyData.keyHash P k) :: He.keysIn P zs := h
    injection h1 with h2 h3
    obtain ⟨i1, i2⟩ := keys_find (z := z) h3
    unfold He.keyOf at h2
    split at h2
    · rename_i x t q
      obtain ⟨h5, h6⟩ := Prod.mk.inj (Option.some.inj h2)
      subst h5
      have er : e.refKey = false := by unfold DictEntry.refKey; rw [q]
      have es : e.key.isStr z = decide (x = z) := by
        rw [q]
        show (x == z) = decide (x = z)
        by_cases hz : x = z
        · subst hz; simp
        · rw [decide_eq_false hz]; exact beq_false_of_ne hz
      refine ⟨?_, by rw [List.any_cons, er, i2]; rfl⟩
      rw [List.find?_cons, es]
      by_cases hz : x = z
      · subst hz; simp
      · rw [decide_eq_false hz]
        simp only [i1, List.mem_cons]
        have : ¬ z = x := fun y => hz y.symm
        simp [this]
    · cases h2
theorem any_str {z : Str} {zs : List Str} : ((zs.map D.str).any fun k => decide (k = .str z)) = decide (z ∈ zs) := by
  rw [Bool.eq_iff_iff, List.any_eq_true]
  simp
theorem dicW_find {K : PySem.W.Frag} {w : World} {a : Addr} {zs : List Str} (h : He.dicW K a = some (He.keysIn w.params zs)) (z : Str) : ∃ r, PySem.W.nsIn K a z = some r ∧ r.isSome = decide (z ∈ zs) := by
  unfold He.dicW at h
  split at h
  · rename_i c es n sl hl
    split at h
    · have hk := Option.some.inj h
      obtain ⟨i1, i2⟩ := keys_find (z := z) hk
      unfold PySem.W.nsIn
      rw [hl]
      simp only
      cases hf : es.toList.find? (·.key.isStr z) with
      | some e => rw [hf] at i1; exact ⟨some e.val, rfl, i1⟩
      | none =>
        rw [hf] at i1
        simp only [i2, Bool.false_eq_true, if_false]
        exact ⟨none, rfl, i1⟩
    · cases h
  · cases h
end Mp
/-! Mp19: a program, its defs, the law. -/
namespace Mp
open PySem PySem.Spec PyProof.Rows L2

/-- a def: as it stands in the text, its slots, its parameters, what it gives, what it says -/
structure Fd where
  d : He.DefD
  N : List Str
  ps : List Str
  ro : Ow
  body : List Mp.S
  lo : Option (Nat × Ow)
def Fd.fn (F : Fd) : Fn := ⟨F.d.name, F.ps.length, F.N.length, F.body, F.lo.map (·.1)⟩
/-- a program: its defs, constants, errors, which stands below which -/
structure Pg where
  fs : List Fd
  cs : List (Str × D)
  ex : List Str
  sub : List (Str × Str)
def Pg.subB (P : Pg) (x y : Str) : Bool := P.sub.any fun p => decide (p = (x, y))
def Pg.isx (P : Pg) (x : Str) : Bool := P.ex.any fun y => decide (y = x)
def Pg.gl (P : Pg) (x : Str) : Option D := P.cs.lookup x
def isDct : D → Bool
  | .dct _ _ _ => true
  | _ => false
/-- the module's dicts with text keys -/
def tabOf (p : Str × D) : Option He.Tab := match p.2 with
  | .dct _ ks _ => (D.strs ks).map fun zs => ((fun K => He.ga K p.1), zs)
  | _ => none
def Pg.ts (P : Pg) : List He.Tab := P.cs.filterMap tabOf
def glB : Option D → Bool
  | some d => !isDct d
  | none => false
def ktB : Option D → Bool
  | some d => isDct d
  | none => false
def Pg.find (P : Pg) (f : Str) : Option Fd := P.fs.find? fun F => decide (F.d.name = f)
def Pg.call (P : Pg) (n : Nat) (f : Str) (ds : List D) : CR := Mp.call (P.fs.map Fd.fn) P.gl P.subB P.isx n f ds
def Pg.cs_ (P : Pg) (n : Nat) : Cs := ⟨P.call n, P.gl, P.subB, P.isx⟩
def allFr (n : Nat) : Ows := List.replicate n .fr
/-- the slots' owners at a def's start and end -/
def Fd.st (F : Fd) : Ows := match F.lo with
  | none => allFr F.N.length
  | some r => (allFr F.N.length).set r.1 r.2
def Fd.pins (F : Fd) : List Nat := match F.lo with
  | none => []
  | some r => [r.1]
def Pg.sg (P : Pg) (F : Fd) : Sg where
  N := F.N
  sc := F.d.scope
  pins := F.pins
  pinw := []
  calm := true
  calls := true
  tr := true
  fnl := fun _ => true
  gl := fun x => glB (P.gl x)
  kt := fun x => ktB (P.gl x)
  fn := fun f => (P.find f).map fun G => (G.ps.length, G.ro)
  lo := fun f => (P.find f).bind Fd.lo
  exc := P.isx
  es := none
  x := allFr F.N.length
  r := F.st
  ro := F.ro
def scB (N ps : List Str) (sc : Scope) : Bool := decide (sc.kind = .function) && (!sc.isCoroutine && (!sc.isGenerator && (decide N.Nodup && (decide (N.take ps.length = ps) && (ps.all (fun x => decide (sc.names.lookup x = some .local) || decide (sc.names.lookup x = some .cell)) && sc.names.all fun y => decide (y.2 ≠ .free))))))
theorem scB_ok {N ps : List Str} {sc : Scope} (h : scB N ps sc = true) : FnScope N ps sc := by
  unfold scB at h
  simp only [Bool.and_eq_true, decide_eq_true_eq, Bool.not_eq_true', List.all_eq_true] at h
  obtain ⟨h1, h2, h3, h4, h5, h6, h7⟩ := h
  exact ⟨h1, h2, h3, h4, h5, fun x hx => by simpa using h6 x hx, h7⟩
/-- the def says what its text says -/
def Fd.loB (F : Fd) : Bool := match F.lo with
  | none => true
  | some r => decide (r.1 < F.ps.length) && !decide (r.2 = .fr)
def Fd.ok (P : Pg) (F : Fd) : Bool := (scB F.N F.ps F.d.scope && F.loB) && (match cB (P.sg F) F.body F.d.body F.st with
  | some r => wk r.nx (some F.st)
  | none => false)
def Pg.ok (P : Pg) : Bool := P.fs.all fun F => F.ok P && (decide (F.d.dfl.length = 0) && decide (F.d.kwd.length = 0))

/-! ### what the module must hold -/
def cstB (K : PySem.W.Frag) (p : Str × D) : Bool := match p.2 with
  | .int i => (He.Fa.int p.1 i).ok K
  | .str z => (He.Fa.str p.1 z).ok K
  | .dct _ ks vs => (He.Fa.glo p.1).ok K && (match D.strs ks with
    | some zs => valsD K (He.ga K p.1) zs vs
    | none => false)
  | d => (match PySem.W.nsIn K mainGlobals p.1 with
    | some (some u) => repB K d u
    | _ => false)
def okE (K : PySem.W.Frag) (C : Addr) (x : Str) (v : Option (Option Value)) : Bool := decide (PySem.W.findIn K (.ref C) x = v)
def excB (K : PySem.W.Frag) (x : Str) : Bool := (He.Fa.glo x).ok K && ((He.Fa.exc x).ok K &&
  (okE K (He.ga K x) "__getattribute__" (some (some (.builtin "BaseException.__getattribute__"))) && (okE K (He.ga K x) "__getattr__" (some none) && (PySem.W.hasDictIn K (He.ga K x) && (okE K (He.ga K x) "__class__" (some (some (.builtin "object.__class__"))) &&
    (decide (PySem.W.specialIn K (.builtin "object.__class__") "__get__" = some (some (.builtin "getset_descriptor.__get__"))) && (decide (PySem.W.takesIn K (.builtin "object.__class__") = some true) && decide (PySem.W.mroIn K (He.ga K x) (.type "object") = some true))))))))
def Pg.factB (P : Pg) (K : PySem.W.Frag) : Bool := (P.fs.all fun F => (He.Fa.glo F.d.name).ok K && decide (F.d.at_ = (F.d.name, none))) && (bltNames.all (fun x => (He.Fa.free x).ok K) && (P.cs.all (cstB K) && (P.ex.all (excB K) &&
  P.ex.all fun x => decide (PySem.W.kitOne K (.ref (He.ga K x)) (.type "ValueError") = some (P.subB x "ValueError")) && P.ex.all fun y => decide (PySem.W.exmOne K (.ref (He.ga K x)) (.ref (He.ga K y)) = some (P.subB x y)) && decide (PySem.W.kitOne K (.ref (He.ga K x)) (.ref (He.ga K y)) = some (P.subB x y)))))
section
variable {P : Pg} {Pr : Program} {w : World} {K : PySem.W.Frag} {mg : Str → Option Value}
theorem isx_mem {x : Str} (h : P.isx x = true) : x ∈ P.ex := by
  unfold Pg.isx at h
  simp only [List.any_eq_true, decide_eq_true_eq] at h
  obtain ⟨y, hy, rfl⟩ := h
  exact hy
structure PgOk (P : Pg) (w : World) (K : PySem.W.Frag) (mg : Str → Option Value) : Prop where
  fn : ∀ F ∈ P.fs, (∃ fd, FunD K F.d.name F.d.qual F.d.params F.d.body F.d.scope (F.d.dvs K) (F.d.kws K) (He.ga K F.d.name) fd ∧ Binds K fd F.ps []) ∧ mg F.d.name = some (.ref (He.ga K F.d.name))
  blt : ∀ x ∈ bltNames, mg x = none
  kt : ∀ x t ks vs, P.gl x = some (.dct t ks vs) → ∃ a es n, mg x = some (.ref a) ∧ L2.KDict K w a es n ∧ ∀ z, ∃ r, PySem.W.nsIn K a z = some r ∧ r.isSome = (ks.any fun k => decide (k = .str z)) ∧ ∀ d, dGet ks vs (.str z) = some d → ∃ u v, r = some u ∧ L2.RelV v u ∧ ∀ H Z, Rep K H Z d v
  cs : ∀ x d, P.gl x = some d → isDct d = false → ∃ v u, mg x = some u ∧ L2.RelV v u ∧ ∀ H Z, Rep K H Z d v
  ex : ∀ x, P.isx x = true → excB K x = true ∧ mg x = some (.ref (He.ga K x))
  exm : ∀ x y, P.isx x = true → P.isx y = true → PySem.W.exmOne K (.ref (He.ga K x)) (.ref (He.ga K y)) = some (P.subB x y)
  kx : ∀ x y, P.isx x = true → P.isx y = true → PySem.W.kitOne K (.ref (He.ga K x)) (.ref (He.ga K y)) = some (P.subB x y)
  kv : ∀ x, P.isx x = true → PySem.W.kitOne K (.ref (He.ga K x)) (.type "ValueError") = some (P.subB x "ValueError")
theorem find_mem {f : Str} {F : Fd} (h : P.find f = some F) : F ∈ P.fs ∧ F.d.name = f := by
  unfold Pg.find at h
  exact ⟨List.mem_of_find?_eq_some h, by simpa using List.find?_some h⟩
theorem find_fn {f : Str} : ((P.fs.map Fd.fn).find? fun G => decide (G.name = f)) = (P.find f).map Fd.fn := by
  unfold Pg.find
  rw [List.find?_map]
  rfl
theorem excC_of {x : Str} (h : excB K x = true) : ExcC K (He.ga K x) := by
  unfold excB okE at h
  simp only [Bool.and_eq_true, decide_eq_true_eq] at h
  obtain ⟨h0, h1, h2, h3, h4, h5, h6, h7, h8⟩ := h
  have := He.exc_ok h1
  exact ⟨h2, h3, this.2.2.1, h4, h5, h6, h7, h8⟩
theorem pinOf_none {po : Ows} {vs : List V} {i : Nat} {p : V × Option D} (h : pinOf po vs i = some p) : p.2 = none := by
  unfold pinOf at h
  split at h
  · cases h
  · cases hv : vs[i]? with
    | none => rw [hv] at h; cases h
    | some v => rw [hv] at h; cases h; rfl
theorem pinF_no {F : Fd} {vs : List V} {i : Nat} (h : i ∉ F.pins) : pinOf (poF F.lo) vs i = none := by
  unfold Fd.pins at h
  unfold pinOf
  cases hl : F.lo with
  | none => rw [if_pos]; unfold poF owAt; rfl
  | some r =>
    rw [hl] at h
    have hn : i ≠ r.1 := by simpa using h
    rw [if_pos]
    show owAt (poP r.1 r.2) i = .fr
    rw [poP_at, if_neg hn]
theorem owAt_fr {n i : Nat} : owAt (allFr n) i = .fr := by
  unfold owAt allFr
  rw [List.getD_eq_getElem?_getD, List.getElem?_replicate]
  split <;> rfl
theorem st_at {F : Fd} {i : Nat} (hl : F.loB = true) (hN : F.ps.length ≤ F.N.length) : owAt F.st i = owAt (poF F.lo) i := by
  unfold Fd.st
  unfold Fd.loB at hl
  cases h : F.lo with
  | none => rw [owAt_fr]; unfold poF owAt; rfl
  | some r =>
    rw [h] at hl
    simp only [Bool.and_eq_true, decide_eq_true_eq] at hl
    show owAt ((allFr F.N.length).set r.1 r.2) i = owAt (poP r.1 r.2) i
    rw [poP_at]
    by_cases hi : i = r.1
    · subst hi
      rw [if_pos rfl, owAt_self' (by unfold allFr; rw [List.length_replicate]; omega)]
    · rw [if_neg hi, owAt_set hi, owAt_fr]
/-- the context of a def's body -/
theorem gok_body (O : PgOk P w K mg) {n : Nat} {F : Fd} (hF : F ∈ P.fs) (hs : scB F.N F.ps F.d.scope = true)
    (ih : ∀ {base : Heap}, ∀ G ∈ P.fs, ∃ fd, FnOk Pr w K mg base (L2.CX Pr w) n (He.ga K G.d.name) fd G.ps (spOf K (P.call n G.d.name) (poF G.lo) G.ro G.ps.length) ∧ PySem.W.keepIn K (.ref (He.ga K G.d.name)) = true ∧ Binds K fd G.ps [])
    {base : Heap} {f : Addr} {cdv : Value} {A : Around} {outer : List PySem.Env} {s : Shared} {H : Hp} {E : XK} {vs : List V} (hr : Room n (A.deeper (envOfC F.d.qual F.d.scope s.heap.objs.size f cdv))) :
    GOk (cxOf (L2.CX Pr w) Pr w K mg base F.N F.d.qual F.d.scope f cdv A outer s H E) ⟨K, pinOf (poF F.lo) vs, allFr F.N.length, F.st, F.ro, fun cls d _ H => E cls d H⟩ (P.cs_ n) (P.sg F) where
  N := rfl
  sc := rfl
  K := rfl
  nd := (scB_ok hs).nd
  hu := by
    have h := hr.un
    show (A.deeper (envOfC F.d.qual F.d.scope s.heap.objs.size f cdv)).units + 66 < cLine
    omega
  calm := fun _ => rfl
  pas := fun _ => passes_of rfl
  tkc := fun _ => rfl
  blt := O.blt
  gl := fun x h => by
    obtain ⟨d, hd, hn⟩ : ∃ d, P.gl x = some d ∧ isDct d = false := by
      have h' : glB (P.gl x) = true := h
      cases e : P.gl x with
      | none => rw [e] at h'; cases h'
      | some d => rw [e] at h'; exact ⟨d, rfl, by simpa [glB] using h'⟩
    obtain ⟨v, u, h1, h2, h3⟩ := O.cs x d hd hn
    exact ⟨d, v, u, h1, h2, hd, h3⟩
  kt := fun x h => by
    obtain ⟨t, ks, vs, hd⟩ : ∃ t ks vs, P.gl x = some (.dct t ks vs) := by
      have h' : ktB (P.gl x) = true := h
      cases e : P.gl x with
      | none => rw [e] at h'; cases h'
      | some d =>
        rw [e] at h'
        cases d with
        | dct t ks vs => exact ⟨t, ks, vs, rfl⟩
        | _ => cases h'
    obtain ⟨a, es, n, h1, h2, h3⟩ := O.kt x t ks vs hd
    exact ⟨t, ks, vs, a, es, n, hd, h1, h2, h3⟩
  fn := fun _ => ⟨takes_of rfl rfl rfl rfl, fun g np ro h => by
    obtain ⟨G, hG, e⟩ := Option.map_eq_some_iff.mp (show (P.find g).map (fun G => (G.ps.length, G.ro)) = some (np, ro) from h)
    cases e
    obtain ⟨hm, rfl⟩ := find_mem hG
    obtain ⟨fd, h1, h2, h3⟩ := ih (base := base) G hm
    have hlo : (P.sg F).lo G.d.name = G.lo := by
      show (P.find G.d.name).bind Fd.lo = _
      rw [hG]; rfl
    exact ⟨n, _, fd, G.ps, by rw [hlo]; exact h1, hr, (O.fn G hm).2, h2, h3⟩⟩
  exc := fun x h => by
    obtain ⟨h1, h2⟩ := O.ex x h
    have h3 : (He.Fa.exc x).ok K = true := by
      unfold excB at h1
      simp only [Bool.and_eq_true] at h1
      exact h1.2.1
    obtain ⟨e1, e2, e3, e4⟩ := He.exc_ok h3
    exact ⟨h2, e2, raises_own e3 e4, _, _, _, _, PySem.F.excBase_ValueError, e1⟩
  exm := O.exm
  exx := fun x h => h
  kx := O.kx
  kv := O.kv
  ec := fun x h => excC_of (O.ex x h).1
  fnl := fun _ _ => rfl
  kd := (scB_ok hs).kind
  stk := fun _ => ⟨rfl, rfl⟩
  es := fun i h => by cases h
  x := rfl
  r := rfl
  ro := rfl
  pn := fun i hi => pinF_no hi
  pw := fun i _ p h => pinOf_none h

theorem getS_app {ds : List D} {m i : Nat} {d : D} (h : getS (ds.map some ++ List.replicate m none) i = some d) : ds[i]? = some d := by
  unfold getS at h
  by_cases hi : i < ds.length
  · rw [List.getElem?_append_left (by simpa using hi), List.getElem?_map] at h
    cases e : ds[i]? with
    | none => rw [e] at h; simp at h
    | some x => rw [e] at h; simpa using h
  · rw [List.getElem?_append_right (by simpa using hi), List.getElem?_replicate] at h
    split at h <;> simp at h
/-- the slots at a def's start -/
theorem SR.start {po ows : Ows} {w : Wd} {ds : List D} {vs : List V} {N : List Str} (s : SR K (pinOf po vs) po (ds.map some) (vs.map some) w) (hl : ds.length = vs.length) (ho : ∀ i, owAt ows i = owAt po i) : SR K (pinOf po vs) ows (ds.map some ++ List.replicate (N.length - ds.length) none) (L2.start N vs) w where
  len := by unfold L2.start; simp [hl]
  at_ := fun i d h => by
    have e := getS_app h
    obtain ⟨v, h1, h2⟩ := s.at_ i d (by unfold getS; rw [List.getElem?_map, e]; rfl)
    refine ⟨v, ?_, by rw [ho]; exact h2⟩
    unfold L2.start
    have hi : i < vs.length := by rw [← hl]; exact (List.getElem?_eq_some_iff.mp e).1
    rw [List.getElem?_append_left (by simpa using hi)]
    exact h1
  apart := s.apart
  zf := s.zf
  fm := s.fm
  zt := s.zt
  pin := fun i p h => by
    refine ⟨?_, fun d hd => by rw [pinOf_none h] at hd; cases hd⟩
    have h1 := (s.pin i p h).1
    unfold L2.start
    have hi : i < vs.length := by simpa using (List.getElem?_eq_some_iff.mp h1).1
    rw [List.getElem?_append_left (by simpa using hi)]
    exact h1
/-- what is given back: what was lent -/
theorem SR.back {lo : Option (Nat × Ow)} {ows : Ows} {env : Env} {σ : L2.St} {w : Wd} {np : Nat} {vs : List V} (s : SR K (pinOf (poF lo) vs) ows env σ w) (hl : np = vs.length) (ho : ∀ i, owAt ows i = owAt (poF lo) i) (hk : lnOk (lo.map (·.1)) env = true) : SR K (pinOf (poF lo) vs) (poF lo) (lsOf (poF lo) ((List.range np).map fun i => (getS env i).getD .non)) (vs.map some) w where
  len := by unfold lsOf; simp [hl]
  at_ := fun i d h => by
    have hlv : ∀ i, i < np → ((List.range np).map fun i => (getS env i).getD .non)[i]? = some ((getS env i).getD .non) := fun i hi => by simp [hi]
    have hll : ((List.range np).map fun i => (getS env i).getD .non).length = np := by simp
    generalize ((List.range np).map fun i => (getS env i).getD .non) = ls at h hlv hll
    unfold getS at h
    unfold lsOf at h
    rw [List.getElem?_map, hll] at h
    by_cases hi : i < np
    · have er : (List.range np)[i]? = some i := by simp [hi]
      rw [er] at h
      simp only [Option.map_some] at h
      by_cases hf : owAt (poF lo) i = .fr
      · rw [if_pos hf] at h; cases h
      · rw [if_neg hf, hlv i hi] at h
        have h' : (getS env i).getD .non = d := by simpa using h
        cases lo with
        | none => exact absurd (by unfold poF owAt; rfl) hf
        | some r =>
          have hp : i = r.1 := by
            by_cases hp : i = r.1
            · exact hp
            · exact absurd (by show owAt (poP r.1 r.2) i = .fr; rw [poP_at, if_neg hp]) hf
          obtain ⟨d', hd'⟩ := Option.isSome_iff_exists.mp (show (getS env i).isSome = true by rw [hp]; exact hk)
          rw [hd'] at h'
          have hdd : d' = d := h'
          subst hdd
          obtain ⟨v, g1, g2⟩ := s.at_ i d' hd'
          have hi2 : i < vs.length := by omega
          have hpin : pinOf (poF (some r)) vs i = some (vs[i], none) := by
            unfold pinOf
            rw [if_neg hf, List.getElem?_eq_getElem hi2]; rfl
          have g3 := (s.pin i _ hpin).1
          rw [g1] at g3
          cases g3
          exact ⟨vs[i], by simp [hi2], by rw [← ho]; exact g2⟩
    · have er : (List.range np)[i]? = none := by simp; omega
      rw [er] at h; cases h
  apart := s.apart
  zf := s.zf
  fm := s.fm
  zt := s.zt
  pin := fun i p h => by
    refine ⟨?_, fun d hd => by rw [pinOf_none h] at hd; cases hd⟩
    unfold pinOf at h
    split at h
    · cases h
    · cases hv : vs[i]? with
      | none => rw [hv] at h; cases h
      | some v => rw [hv] at h; cases h; simp [hv]
theorem call_succ {n : Nat} {F : Fd} {ds : List D} (h : P.find F.d.name = some F) (hl : F.ps.length = ds.length) : P.call (n + 1) F.d.name ds = (match dB (P.cs_ n) F.body (ds.map some ++ List.replicate (F.N.length - F.ps.length) none) with
      | .ok (.rt r) e => if lnOk (F.lo.map (·.1)) e = true then .ok r ((List.range F.ps.length).map fun i => (getS e i).getD .non) else .no
      | .ok .nx e => if lnOk (F.lo.map (·.1)) e = true then .ok .non ((List.range F.ps.length).map fun i => (getS e i).getD .non) else .no
      | .ok _ _ => .no
      | .ex c _ => .ex c
      | .no => .no) := by
  unfold Pg.call
  rw [Mp.call, find_fn, h]
  simp only [Option.map_some]
  show (if F.ps.length = ds.length then _ else _) = _
  rw [if_pos hl]
  rfl
theorem prog_ok (O : PgOk P w K mg) (hok : P.ok = true) (hnd : ∀ F ∈ P.fs, P.find F.d.name = some F) : ∀ (n : Nat) {base : Heap}, ∀ F ∈ P.fs, ∀ {fd : FuncData}, FunD K F.d.name F.d.qual F.d.params F.d.body F.d.scope (F.d.dvs K) (F.d.kws K) (He.ga K F.d.name) fd → FnOk Pr w K mg base (L2.CX Pr w) n (He.ga K F.d.name) fd F.ps (spOf K (P.call n F.d.name) (poF F.lo) F.ro F.ps.length)
  | 0, base, F, hF, fd, FD => by
    refine ⟨fun vs H Q E h => ?_, fun A outer s H args us vs Q E _ _ _ _ h => ?_⟩
    · obtain ⟨w, ds, _, h1, _⟩ := h
      exact h1
    · obtain ⟨w, ds, _, _, _, _, z⟩ := h
      exact z.elim
  | n + 1, base, F, hF, fd, FD => by
    have hFo : F.ok P = true := by
      have := List.all_eq_true.mp hok F hF
      simp only [Bool.and_eq_true] at this
      exact this.1
    unfold Fd.ok at hFo
    simp only [Bool.and_eq_true] at hFo
    obtain ⟨⟨hs, hlo⟩, hc⟩ := hFo
    have hNl : F.ps.length ≤ F.N.length := by
      have := congrArg List.length (scB_ok hs).pre
      rw [List.length_take] at this
      omega
    cases er : cB (P.sg F) F.body F.d.body F.st with
    | none => rw [er] at hc; cases hc
    | some r =>
      rw [er] at hc
      refine FD.ok (scB_ok hs) (fun vs H Q E h => ?_) fun cdv A outer s H vs Q E hr h => ?_
      · obtain ⟨w, ds, _, h1, _⟩ := h
        exact h1
      · have G := gok_body (Pr := Pr) (w := w) O hF hs (fun {base} G hG => by
          obtain ⟨⟨fd', FD', hb'⟩, _⟩ := O.fn G hG
          exact ⟨fd', prog_ok O hok hnd n (base := base) G hG FD', FD'.kp, hb'⟩) (base := base) (f := He.ga K F.d.name) (cdv := cdv) (A := A) (outer := outer) (s := s) (H := H) (E := E) (vs := vs) hr
        refine ⟨_, cB_ok (P.cs_ n) (P.sg F) F.body _ _ G F.d.body F.st r er, ?_⟩
        obtain ⟨w0, ds, hw, l1, l2, sr, z⟩ := h
        rw [call_succ (hnd F hF) l2.symm] at z
        refine tS_iff.mpr ⟨w0, ds.map some ++ List.replicate (F.N.length - F.ps.length) none, hw, ?_, ?_⟩
        · have := sr.start (ows := F.st) (N := F.N) (by rw [l1, l2]) (fun i => st_at hlo hNl)
          rw [l2] at this
          exact this
        · cases e1 : dB (P.cs_ n) F.body (ds.map some ++ List.replicate (F.N.length - F.ps.length) none) with
          | no => rw [e1] at z; exact z
          | ex m e2 => rw [e1] at z; exact fun w' σ' x s => z w' x
          | ok fl e2 =>
            rw [e1] at z
            cases fl with
            | bk => exact z.elim
            | ct => exact z.elim
            | nx =>
              rintro w' σ' x ⟨o, ho, s'⟩
              simp only at z
              by_cases hk : lnOk (F.lo.map (·.1)) e2 = true
              · rw [if_pos hk] at z
                obtain ⟨w2, x2, eh, o2, e2', s2⟩ := SRq.weak hc ⟨o, ho, s'⟩
                cases e2'
                have := z w2 .non (fun _ => False) (x.trans x2) (by simp) (s2.back l1.symm (fun i => st_at hlo hNl) hk) RO.mknon Tmp.nil
                rw [eh] at this
                exact this
              · rw [if_neg hk] at z; exact z.elim
            | rt d =>
              intro w' σ' v A' x s' ro t
              simp only at z
              by_cases hk : lnOk (F.lo.map (·.1)) e2 = true
              · rw [if_pos hk] at z
                exact z w' v A' x (by simp) (s'.back l1.symm (fun i => st_at hlo hNl) hk) ro t
              · rw [if_neg hk] at z; exact z.elim
end
end Mp
/-! Mp20: the end of a law. -/
namespace Mp
open PySem PySem.Spec PyProof.Rows L2
/-- a def's parameters are plain: each takes one value -/
def BindOk (F : Fd) : Prop := ∀ (kV doc pm : Value) (an : Option Addr) (cdv ct : Value) (us : List Value), us.length = F.ps.length →
  bindArgs (PySem.W.fnOf F.d.name F.d.qual F.d.params F.d.body F.d.scope .none kV doc pm an cdv ct) ⟨us, []⟩ = pure (F.ps.zip us)
section
variable {P : Pg} {w : World} {K : PySem.W.Frag} {mg : Str → Option Value} {h : Heap}
theorem lookup_mem {α β : Type} [BEq α] [LawfulBEq α] : ∀ {l : List (α × β)} {a : α} {b : β}, l.lookup a = some b → (a, b) ∈ l
  | [], _, _, h => by cases h
  | (x, y) :: l, a, b, h => by
    rw [List.lookup_cons] at h
    split at h
    · rename_i e
      cases h
      have := eq_of_beq e
      subst this
      exact List.mem_cons_self
    · exact List.mem_cons_of_mem _ (lookup_mem h)
theorem funD_of (c : He.SaysX [] (P.fs.map Fd.d) P.ts [] P.factB w h K) (hok : P.ok = true) {F : Fd} (hF : F ∈ P.fs) : ∃ fd, FunD K F.d.name F.d.qual F.d.params F.d.body F.d.scope [] [] (He.ga K F.d.name) fd ∧ F.d.dvs K = [] ∧ F.d.kws K = [] := by
  obtain ⟨fd, FD⟩ := He.SaysD.defs (He.SaysT.d c.t) (List.mem_map.mpr ⟨F, hF, rfl⟩)
  have hm := c.more
  unfold Pg.factB at hm
  simp only [Bool.and_eq_true, List.all_eq_true, decide_eq_true_eq] at hm
  have hat := (hm.1 F hF).2
  have hp := List.all_eq_true.mp hok F hF
  simp only [Bool.and_eq_true, decide_eq_true_eq] at hp
  have h1 : F.d.dvs K = [] := by
    unfold He.DefD.dvs
    rw [List.eq_nil_of_length_eq_zero hp.2.1]; rfl
  have h2 : F.d.kws K = [] := by
    unfold He.DefD.kws
    rw [List.eq_nil_of_length_eq_zero hp.2.2]; rfl
  rw [h1, h2, hat] at FD
  exact ⟨fd, FD, h1, h2⟩
theorem pgOk_of (X : K.In h) (G : h.Ns mainGlobals mg) (c : He.SaysX [] (P.fs.map Fd.d) P.ts [] P.factB w h K) (hok : P.ok = true) (hb : ∀ F ∈ P.fs, BindOk F) : PgOk P w K mg := by
  have hm := c.more
  unfold Pg.factB at hm
  simp only [Bool.and_eq_true, List.all_eq_true, decide_eq_true_eq] at hm
  obtain ⟨m1, m2, m3, m4, m5⟩ := hm
  refine ⟨fun F hF => ?_, fun x hx => He.free_ok X G (m2 x hx), fun x t ks vs hd => ?_, fun x d hd hn => ?_, fun x hx => ?_, fun x y hx hy => ((m5 x (isx_mem hx)).2 y (isx_mem hy)).1, fun x y hx hy => ((m5 x (isx_mem hx)).2 y (isx_mem hy)).2, fun x hx => (m5 x (isx_mem hx)).1⟩
  · obtain ⟨fd, FD, h1, h2⟩ := funD_of c hok hF
    exact ⟨⟨fd, by rw [h1, h2]; exact FD, FD.bindsN (hb F hF)⟩, He.glo_ok X G (m1 F hF).1⟩
  · have hm := lookup_mem hd
    have := m3 (x, .dct t ks vs) hm
    unfold cstB at this
    simp only [Bool.and_eq_true] at this
    obtain ⟨h1, h2⟩ := this
    cases hs : D.strs ks with
    | none => rw [hs] at h2; cases h2
    | some zs =>
      rw [hs] at h2
      have hks := strs_eq hs
      subst hks
      have ht : ((fun K => He.ga K x), zs) ∈ P.ts := List.mem_filterMap.mpr ⟨(x, .dct t (zs.map D.str) vs), hm, by unfold tabOf; simp only [hs, Option.map_some]⟩
      have e : P.ts.map (fun t => He.dicW K (t.1 K)) = P.ts.map fun t => some (He.keysIn w.params t.2) := congrArg (fun z : He.AlT => z.2) c.t
      have hd2 : He.dicW K (He.ga K x) = some (He.keysIn w.params zs) := List.map_inj_left.mp e _ ht
      obtain ⟨es, n, kd⟩ := He.dicW_ok hd2
      refine ⟨He.ga K x, es, n, He.glo_ok X G h1, kd, fun z => ?_⟩
      obtain ⟨r, g1, g2⟩ := dicW_find hd2 z
      refine ⟨r, g1, by rw [any_str, g2], fun d hg => ?_⟩
      obtain ⟨u, v, g3, g4, g5⟩ := valsD_ok h2 hg
      rw [g1] at g3
      exact ⟨u, v, Option.some.inj g3, g4, g5⟩
  · have := m3 (x, d) (lookup_mem hd)
    unfold cstB at this
    split at this
    · rename_i i e
      obtain ⟨t, h1⟩ := He.int_ok X G this
      cases (show d = .int i from e)
      exact ⟨.int i, _, h1, ⟨t, rfl⟩, fun _ _ => rfl⟩
    · rename_i z e
      obtain ⟨t, h1⟩ := He.str_ok X G this
      cases (show d = .str z from e)
      exact ⟨.str z, _, h1, ⟨t, rfl⟩, fun _ _ => rfl⟩
    · rename_i e
      cases (show d = _ from e)
      cases hn
    · cases hq : PySem.W.nsIn K mainGlobals x with
      | none => simp only [hq] at this; cases this
      | some r =>
        simp only [hq] at this
        cases r with
        | none => cases this
        | some u =>
          obtain ⟨v, h1, h2⟩ := repB_ok this
          exact ⟨v, u, PySem.W.mg_of X G hq, h1, h2⟩
  · have h1 := m4 x (isx_mem hx)
    refine ⟨h1, He.glo_ok X G ?_⟩
    unfold excB at h1
    simp only [Bool.and_eq_true] at h1
    exact h1.1
theorem findB_ok (h : (P.fs.all fun F => match P.find F.d.name with
    | some G => decide (G.d.name = F.d.name) && decide (G.N = F.N)
    | none => false) = true) : True := trivial
/-- names once each -/
theorem find_of : ∀ {fs : List Fd}, (fs.map fun F => F.d.name).Nodup → ∀ F ∈ fs, (fs.find? fun G => decide (G.d.name = F.d.name)) = some F
  | [], _, F, h => by cases h
  | G :: fs, nd, F, h => by
    rw [List.map_cons, List.nodup_cons] at nd
    rcases List.mem_cons.mp h with rfl | h
    · rw [List.find?_cons, decide_eq_true rfl]
    · have ne : G.d.name ≠ F.d.name := fun e => nd.1 (e ▸ List.mem_map.mpr ⟨F, h, rfl⟩)
      rw [List.find?_cons, decide_eq_false ne]
      exact find_of nd.2 F h
end
/-- the script, as the law gets it -/
theorem rol_of {K : PySem.W.Frag} {H : Hp} {a : Addr} {ns : List Int} (hO : Only H) (hS : SqL K H a (ns.map V.int)) (Z : AS) : Rep K H Z (.rol (ns.map D.int)) (.ref a) := by
  refine ⟨a, ns.map V.int, rfl, ?_, ?_⟩
  · rcases hS with (h | ⟨o, h⟩) | h
    · rcases hO a with z | ⟨o, xs, z⟩
      · rw [h] at z; cases z
      · rw [h] at z; cases z
    · exact .inl ⟨o, h⟩
    · exact .inr (.inr h)
  · exact Reps.of (by simp) fun k d x e1 e2 => by
      rw [List.getElem?_map] at e1 e2
      cases e : ns[k]? with
      | none => rw [e] at e1; cases e1
      | some i =>
        rw [e] at e1 e2
        cases e1; cases e2
        rfl
/-- a law whose def the program P says -/
theorem law_end {l : PySem.W.OpenLaw} {n k : Nat} {q : Program} {loose : List Str} {XP : (Str → Option Value) → Heap → Prop} {d : DefRec} {P : Pg} {L : Fd} {x : Str} (hn : l.most = some n) (hn2 : n ≤ sizeLine) (hdf : d.params.defaults = []) (hr : Room k callerA)
    (hname : d.name = L.d.name) (hL : L ∈ P.fs) (hps : L.ps = [x]) (hlo : L.lo = none) (hok : P.ok = true) (hnd : (P.fs.map fun F => F.d.name).Nodup) (hb : ∀ F ∈ P.fs, BindOk F)
    (law : ∀ ns : List Int, ns.length ≤ n → ∃ ls, P.call k L.d.name [.rol (ns.map D.int)] = .ok (.bl true) ls) :
    PySem.W.WalkO q loose XP (fun w h => ∃ K : PySem.W.Frag, K.In h ∧ He.SaysX [] (P.fs.map Fd.d) P.ts [] P.factB w h K) l.row.toRowW d [] (fun f vs => PySem.call f vs) := by
  refine Att.attach_call hn hdf fun w s₀ s₁ mg mb fa o pm cd doc a vs ns G Y ho hd hcd hmg hobj hints hlen hg => ?_
  obtain ⟨K, KX, c⟩ := Y
  have O := pgOk_of KX G.T.g c hok hb
  obtain ⟨fd, FD, h1, h2⟩ := funD_of c hok hL
  have efa : fa = He.ga K L.d.name := by
    have h1 := (O.fn L hL).2
    rw [← hname, hmg] at h1
    cases h1
    rw [hname]
  subst efa
  have hnd' : ∀ F ∈ P.fs, P.find F.d.name = some F := find_of hnd
  obtain ⟨ls, hlaw⟩ := law ns hlen
  have bA := FunD.bindsA (ps := L.ps) FD (hb L hL)
  refine law_call (fd := fd) (CX := L2.CX l.prog w) (x := x) (sp := spOf K (P.call k L.d.name) (poF L.lo) L.ro L.ps.length) KX G.T.g G.T.b G.T.builtins G.T.nolimit hg hobj hints (Nat.le_trans hlen hn2) hr (fun base _ _ => ?_) (fun s v => ?_) (fun H hO hS => ?_) fun H e s' z => ?_
  · have := prog_ok (Pr := l.prog) (w := w) O hok hnd' k (base := base) L hL (fd := fd) (by rw [h1, h2]; exact FD)
    rw [hps] at this ⊢
    exact this
  · have := bA s [v] (by rw [hps]; rfl)
    rw [hps] at this
    exact this
  · refine ⟨⟨fun _ => False, fun _ _ => False, H⟩, [.rol (ns.map D.int)], rfl, by rw [hps]; rfl, by rw [hps]; rfl, ?_, ?_⟩
    · have rr : Reps K H (fun _ => False) [.rol (ns.map D.int)] [.ref a] := by
        unfold Reps
        exact ⟨.ref a, [], rfl, rol_of hO hS _, by unfold Reps; rfl⟩
      rw [hlo]
      exact sr_args rr fun _ z => z.elim
    · rw [hlaw]
      intro w' v A x1 hl s ro t
      exact ro.bl
  · obtain ⟨_, _, _, _, _, _, _, _, _, _, _, _, z⟩ := z
    exact z
end Mp
/-! Mp21: words for the plain law. -/
namespace Mp
open PySem

theorem chkOf_none {as : List D} : chkOf none as = fun _ => true := rfl
theorem getS0 {o : Option D} {e : Env} : getS (o :: e) 0 = o := by simp [getS]
theorem getSs {o : Option D} {e : Env} {i : Nat} : getS (o :: e) (i + 1) = getS e i := by simp [getS]
theorem setS0 {o : Option D} {e : Env} {d : D} : setS (o :: e) 0 d = some d :: e := by simp [setS]
theorem setSs {o : Option D} {e : Env} {i : Nat} {d : D} : setS (o :: e) (i + 1) d = o :: setS e i d := by simp [setS]
theorem for_inv {t : T} {body : M Fl} (I : Nat → Env → Prop) : ∀ (ds : List D) (k : Nat) (e : Env), I k e → (∀ j d e, ds[j]? = some d → I (k + j) e → ∃ e1, asg t d e = some e1 ∧ ∃ e2, (body e1 = .ok .nx e2 ∨ body e1 = .ok .ct e2) ∧ I (k + j + 1) e2) →
    ∃ e', forL (fun _ => true) t body ds e = .ok .nx e' ∧ I (k + ds.length) e'
  | [], k, e, h, _ => ⟨e, by simp [forL], h⟩
  | d :: ds, k, e, h, st => by
    obtain ⟨e1, a1, e2, b1, h2⟩ := st 0 d e rfl h
    obtain ⟨e', f1, f2⟩ := for_inv I ds (k + 1) e2 h2 fun j d' e0 hj hi => by
      have := st (j + 1) d' e0 (by simpa using hj) (by rw [show k + (j + 1) = k + 1 + j by omega]; exact hi)
      rw [show k + (j + 1) + 1 = k + 1 + j + 1 by omega] at this
      exact this
    refine ⟨e', ?_, by rw [List.length_cons, show k + (ds.length + 1) = k + 1 + ds.length by omega]; exact f2⟩
    simp only [forL, if_true, a1]
    rcases b1 with b | b <;> rw [b] <;> exact f1
/-- the invariant as a family of environments -/
theorem for_env {α : Type} {t : T} {body : M Fl} (env : Nat → α → Env) (P : Nat → α → Prop) (ds : List D) (a0 : α) (h0 : P 0 a0) (st : ∀ j d a, ds[j]? = some d → P j a → ∃ e1, asg t d (env j a) = some e1 ∧ ∃ a', (body e1 = .ok .nx (env (j + 1) a') ∨ body e1 = .ok .ct (env (j + 1) a')) ∧ P (j + 1) a') :
    ∃ a', forL (fun _ => true) t body ds (env 0 a0) = .ok .nx (env ds.length a') ∧ P ds.length a' := by
  obtain ⟨e', f1, a', rfl, h⟩ := for_inv (fun k e => ∃ a, e = env k a ∧ P k a) ds 0 (env 0 a0) ⟨a0, rfl, h0⟩ fun j d e hj ⟨a, he, hp⟩ => by
    subst he
    simp only [Nat.zero_add] at hp ⊢
    obtain ⟨e1, x1, a', x2, x3⟩ := st j d a hj hp
    exact ⟨e1, x1, _, x2, a', rfl, x3⟩
  rw [Nat.zero_add] at f1 h
  exact ⟨a', f1, h⟩
theorem rngD_get {lo : Int} {n j : Nat} {d : D} (h : (rngD lo n)[j]? = some d) : j < n ∧ d = .int (lo + j) := by
  rw [rngD_at] at h
  split at h
  · cases h; exact ⟨‹_›, rfl⟩
  · cases h
theorem atI_nat {α : Type} {xs : List α} {j : Nat} (h : j < xs.length) : L2.atI xs (j : Int) = some xs[j] := by
  unfold L2.atI L2.ixN
  rw [if_pos (by omega), if_pos (by omega)]
  simp [h]
theorem atI_map {ns : List Int} {j : Nat} (h : j < ns.length) : L2.atI (ns.map D.int) (j : Int) = some (.int ns[j]) := by
  rw [atI_nat (by simpa using h)]
  simp
theorem dB_nil {C : Cs} {e : Mp.Env} : dB C [] e = .ok .nx e := by simp [dB, M.ret]
theorem dB_cons {C : Cs} {s : Mp.S} {ss : List Mp.S} {e e1 : Mp.Env} {r : R Fl} (h1 : dS C s e = .ok .nx e1) (h2 : dB C ss e1 = r) : dB C (s :: ss) e = r := by
  simp only [dB, seqM, M.bind, h1, h2]
theorem dB_ret {C : Cs} {s : Mp.S} {ss : List Mp.S} {e e1 : Mp.Env} {d : D} (h1 : dS C s e = .ok (.rt d) e1) : dB C (s :: ss) e = .ok (.rt d) e1 := by
  simp only [dB, seqM, M.bind, h1, M.ret]
theorem dS_set {C : Cs} {i : Nat} {x : E} {e e1 : Mp.Env} {d : D} (h : (den C x).1 e = .ok d e1) : dS C (.set i x) e = .ok .nx (setS e1 i d) := by
  simp only [dS, M.bind, h]
theorem dS_ret {C : Cs} {x : E} {e e1 : Mp.Env} {d : D} (h : (den C x).1 e = .ok d e1) : dS C (.ret x) e = .ok (.rt d) e1 := by
  simp only [dS, M.bind, h, M.ret]
theorem dS_if {C : Cs} {k : E} {a b : List Mp.S} {e e1 : Mp.Env} {t : Bool} (h : (den C k).2 e = .ok t e1) : dS C (.ifs k a b) e = if t = true then dB C a e1 else dB C b e1 := by
  simp only [dS, M.bind, h]
  cases t <;> rfl
theorem dS_for {C : Cs} {t : T} {k : IK} {ia : List E} {body : List Mp.S} {e e1 : Mp.Env} {as ds : List D} (h : evs (dens C ia) e = .ok as e1) (h2 : itF k as = some ds) : dS C (.for_ t k ia none body) e = forL (fun _ => true) t (dB C body) ds e1 := by
  simp only [dS, Mp.forM, M.bind, h, h2, M.opt, chkOf_none]
/-- a call whose body returns -/
theorem call_rt {P : Pg} {n : Nat} {F : Fd} {ds : List D} {r : D} {e : Mp.Env} (hf : P.find F.d.name = some F) (hl : F.ps.length = ds.length) (h : dB (P.cs_ n) F.body (ds.map some ++ List.replicate (F.N.length - F.ps.length) none) = .ok (.rt r) e) (hlo : F.lo = none := by rfl) : ∃ ls, P.call (n + 1) F.d.name ds = .ok r ls := by
  rw [call_succ hf hl, h, hlo]
  exact ⟨_, if_pos rfl⟩
/-- .. of a def that was lent its first argument's thing -/
theorem call_rtL {P : Pg} {n p : Nat} {F : Fd} {ds : List D} {r l : D} {e : Mp.Env} {o : Ow} (hf : P.find F.d.name = some F) (hl : F.ps.length = ds.length) (hlo : F.lo = some (p, o)) (hp : p < ds.length) (h : dB (P.cs_ n) F.body (ds.map some ++ List.replicate (F.N.length - F.ps.length) none) = .ok (.rt r) e) (hg : getS e p = some l) : ∃ ls, P.call (n + 1) F.d.name ds = .ok r ls ∧ ls[p]? = some l := by
  rw [call_succ hf hl, h, hlo]
  refine ⟨_, if_pos ?_, ?_⟩
  · show (getS e p).isSome = true
    rw [hg]; rfl
  · have : p < F.ps.length := by omega
    simp [this, hg]
end Mp
/-! Num: the numbers that the laws draw from the script. -/
namespace Lw
open PySem Mp
def b__law_numbers : List Mp.S := [
  .set 2 (.lst []),
  .for_ (.nm 3) .rng [.bi .len [.v 0]] none [
    .set 4 (.bi .abs [.bi .int [.ix (.v 0) (.v 3)]]),
    .ifs (.cmp .ge (.v 4) (.bin .pow (.int 10) (.int 18))) [
      .for_ (.nm 5) .rng [.int 60] none [
        .ifs (.and [.cmp .gt (.v 4) (.int 0), .cmp .lt (.bi .len [.v 2]) (.v 1)]) [
          .ex (.mu .append 2 [] [.bin .mod (.v 4) (.int 10007)]),
          .set 4 (.bin .fdiv (.v 4) (.int 10007))] []]] [
      .ifs (.cmp .lt (.bi .len [.v 2]) (.v 1)) [
        .set 6 (.bin .mod (.bi .int [.bin .add (.bin .add (.bin .mul (.v 4) (.int 48271)) (.bin .mul (.v 3) (.int 69621))) (.int 11)]) (.int 2147483647)),
        .ex (.mu .append 2 [] [.bin .fdiv (.bin .mod (.bi .int [.bin .add (.bin .add (.bin .mul (.v 6) (.int 16807)) (.bin .mul (.int 7) (.v 3))) (.int 3)]) (.int 2147483647)) (.int 3)])] []]],
  .set 7 (.bi .len [.v 2]),
  .set 8 (.bin .add (.int 5381) (.bi .len [.v 0])),
  .for_ (.nm 3) .rng [.bi .max2 [.int 0, .bin .sub (.v 1) (.v 7)]] none [
    .ifs (.cmp .gt (.v 7) (.int 0)) [
      .set 8 (.bin .add (.v 8) (.ix (.v 2) (.bin .mod (.v 3) (.v 7))))] [],
    .set 8 (.bin .mod (.bi .int [.bin .add (.bin .mul (.v 8) (.int 48271)) (.v 3)]) (.int 2147483647)),
    .ex (.mu .append 2 [] [.bin .fdiv (.v 8) (.int 7)])],
  .ret (.sl (.v 2) [] [.v 1])]

def body60 : List Mp.S := [
        .ifs (.and [.cmp .gt (.v 4) (.int 0), .cmp .lt (.bi .len [.v 2]) (.v 1)]) [
          .ex (.mu .append 2 [] [.bin .mod (.v 4) (.int 10007)]),
          .set 4 (.bin .fdiv (.v 4) (.int 10007))] []]
theorem b60 {C : Cs} {s : Option D} {m : Nat} {xs : List Int} {cell : Int} {o3 o5 : Option D} {r : Mp.Env} (hx : xs.length ≤ m) (hm : m ≤ 100000) : ∃ (ys : List Int) (c : Int), ys.length ≤ m ∧ dB C body60 (s :: some (.int m) :: some (.lst (xs.map .int)) :: o3 :: some (.int cell) :: o5 :: r) = .ok .nx (s :: some (.int m) :: some (.lst (ys.map .int)) :: o3 :: some (.int c) :: o5 :: r) := by
  have hs : xs.length < SZ := by unfold SZ; omega
  by_cases h1 : 0 < cell
  · by_cases h2 : (xs.length : Int) < m
    · refine ⟨xs ++ [cell % 10007], cell / 10007, by simp; omega, ?_⟩
      have h3 : xs.length < m := by omega
      simp [body60, dB, dS, seqM, M.bind, M.ret, den, dens, val, evs, op2, varM, truthM, andT, getS, M.opt, bF, cmpD, ltD, D.truth, h1, h2, h3, muM, getPM, setPM, muOk, muF, getP, setP, binD, setS, hs]
    · have h3 : ¬ xs.length < m := by omega
      refine ⟨xs, cell, hx, ?_⟩
      simp [body60, dB, dS, seqM, M.bind, M.ret, den, dens, val, evs, op2, varM, truthM, andT, getS, M.opt, bF, cmpD, ltD, D.truth, h1, h2, h3]
  · refine ⟨xs, cell, hx, ?_⟩
    simp [body60, dB, dS, seqM, M.bind, M.ret, den, dens, val, evs, op2, varM, truthM, andT, getS, M.opt, bF, cmpD, ltD, D.truth, h1]
def bodyA : List Mp.S := [
    .set 4 (.bi .abs [.bi .int [.ix (.v 0) (.v 3)]]),
    .ifs (.cmp .ge (.v 4) (.bin .pow (.int 10) (.int 18))) [
      .for_ (.nm 5) .rng [.int 60] none body60] [
      .ifs (.cmp .lt (.bi .len [.v 2]) (.v 1)) [
        .set 6 (.bin .mod (.bi .int [.bin .add (.bin .add (.bin .mul (.v 4) (.int 48271)) (.bin .mul (.v 3) (.int 69621))) (.int 11)]) (.int 2147483647)),
        .ex (.mu .append 2 [] [.bin .fdiv (.bin .mod (.bi .int [.bin .add (.bin .add (.bin .mul (.v 6) (.int 16807)) (.bin .mul (.int 7) (.v 3))) (.int 3)]) (.int 2147483647)) (.int 3)])] []]]
def bodyB : List Mp.S := [
    .ifs (.cmp .gt (.v 7) (.int 0)) [
      .set 8 (.bin .add (.v 8) (.ix (.v 2) (.bin .mod (.v 3) (.v 7))))] [],
    .set 8 (.bin .mod (.bi .int [.bin .add (.bin .mul (.v 8) (.int 48271)) (.v 3)]) (.int 2147483647)),
    .ex (.mu .append 2 [] [.bin .fdiv (.v 8) (.int 7)])]
theorem loop60 {C : Cs} {s : Option D} {m : Nat} {xs : List Int} {cell : Int} {o3 o5 : Option D} {r : Mp.Env} (hx : xs.length ≤ m) (hm : m ≤ 100000) : ∃ (ys : List Int) (c : Int) (o5' : Option D), ys.length ≤ m ∧ dS C (.for_ (.nm 5) .rng [.int 60] none body60) (s :: some (.int m) :: some (.lst (xs.map .int)) :: o3 :: some (.int cell) :: o5 :: r) = .ok .nx (s :: some (.int m) :: some (.lst (ys.map .int)) :: o3 :: some (.int c) :: o5' :: r) := by
  obtain ⟨e', f1, ys, c, o5', rfl, h⟩ := for_inv (t := .nm 5) (body := dB C body60) (fun _ e => ∃ (ys : List Int) (c : Int) (o5' : Option D), e = (s :: some (.int m) :: some (.lst (ys.map .int)) :: o3 :: some (.int c) :: o5' :: r) ∧ ys.length ≤ m) (rngD 0 60) 0 _ ⟨xs, cell, o5, rfl, hx⟩ fun j d e hj ⟨ys, c, o5', he, hy⟩ => by
    subst he
    obtain ⟨zs, c', hz, e2⟩ := b60 (C := C) (s := s) (o3 := o3) (o5 := some d) (r := r) (cell := c) hy hm
    exact ⟨_, rfl, _, .inl e2, zs, c', some d, rfl, hz⟩
  refine ⟨ys, c, o5', h, ?_⟩
  have : dS C (.for_ (.nm 5) .rng [.int 60] none body60) (s :: some (.int m) :: some (.lst (xs.map .int)) :: o3 :: some (.int cell) :: o5 :: r) = forL (fun _ => true) (.nm 5) (dB C body60) (rngD 0 60) (s :: some (.int m) :: some (.lst (xs.map .int)) :: o3 :: some (.int cell) :: o5 :: r) := by
    simp [dS, Mp.forM, dens, den, val, evs, M.bind, M.ret, M.opt, itF, B62, chkOf_none]
  rw [this]
  exact f1
theorem bA0 {C : Cs} {ns : List Int} {m : Nat} {xs : List Int} {j : Nat} {o4 o5 o6 : Option D} {r : Mp.Env} (hj : j < ns.length) : dS C (.set 4 (.bi .abs [.bi .int [.ix (.v 0) (.v 3)]])) (some (.rol (ns.map .int)) :: some (.int m) :: some (.lst (xs.map .int)) :: some (.int j) :: o4 :: o5 :: o6 :: r) = .ok .nx (some (.rol (ns.map .int)) :: some (.int m) :: some (.lst (xs.map .int)) :: some (.int j) :: some (.int (if ns[j] < 0 then -ns[j] else ns[j])) :: o5 :: o6 :: r) := by
  have hat := atI_map hj
  simp [dS, M.bind, M.ret, den, dens, val, evs, op2, varM, getS, M.opt, ixD, hat, bF, setS]
def elseA : List Mp.S := [
      .ifs (.cmp .lt (.bi .len [.v 2]) (.v 1)) [
        .set 6 (.bin .mod (.bi .int [.bin .add (.bin .add (.bin .mul (.v 4) (.int 48271)) (.bin .mul (.v 3) (.int 69621))) (.int 11)]) (.int 2147483647)),
        .ex (.mu .append 2 [] [.bin .fdiv (.bin .mod (.bi .int [.bin .add (.bin .add (.bin .mul (.v 6) (.int 16807)) (.bin .mul (.int 7) (.v 3))) (.int 3)]) (.int 2147483647)) (.int 3)])] []]
theorem mulc {a b : Int} (h : W64 b = true) : binD .mul (.int a) (.int b) = some (.int (a * b)) := by
  simp [binD, h]
theorem mulc' {a b : Int} (h : W64 a = true) : binD .mul (.int a) (.int b) = some (.int (a * b)) := by
  simp [binD, h]
theorem addI {a b : Int} : binD .add (.int a) (.int b) = some (.int (a + b)) := rfl
theorem modI {a b : Int} (h : 0 < b) : binD .mod (.int a) (.int b) = some (.int (a % b)) := by simp [binD, h]
theorem divI {a b : Int} (h : 0 < b) (h' : b < 1073741824) : binD .fdiv (.int a) (.int b) = some (.int (a / b)) := by simp [binD, h, h']
def e6 : E := .bin .mod (.bi .int [.bin .add (.bin .add (.bin .mul (.v 4) (.int 48271)) (.bin .mul (.v 3) (.int 69621))) (.int 11)]) (.int 2147483647)
def e7 : E := .bin .fdiv (.bin .mod (.bi .int [.bin .add (.bin .add (.bin .mul (.v 6) (.int 16807)) (.bin .mul (.int 7) (.v 3))) (.int 3)]) (.int 2147483647)) (.int 3)
theorem e6_ok {C : Cs} {e : Mp.Env} {a b : Int} (h3 : getS e 3 = some (.int a)) (h4 : getS e 4 = some (.int b)) : ∃ v : Int, (den C e6).1 e = .ok (.int v) e := by
  have m1 : ∀ a : Int, binD .mul (.int a) (.int 48271) = some (.int (a * 48271)) := fun a => mulc (by simp [W64])
  have m2 : ∀ a : Int, binD .mul (.int a) (.int 69621) = some (.int (a * 69621)) := fun a => mulc (by simp [W64])
  have d1 : ∀ a : Int, binD .mod (.int a) (.int 2147483647) = some (.int (a % 2147483647)) := fun a => modI (by omega)
  refine ⟨(b * 48271 + a * 69621 + 11) % 2147483647, ?_⟩
  simp only [e6, den, dens, val, evs, op2, varM, M.bind, M.ret, M.opt, h3, h4, m1, m2, d1, addI, bF]
theorem e7_ok {C : Cs} {e : Mp.Env} {a b : Int} (h3 : getS e 3 = some (.int a)) (h4 : getS e 6 = some (.int b)) : ∃ v : Int, (den C e7).1 e = .ok (.int v) e := by
  have m3 : ∀ a : Int, binD .mul (.int a) (.int 16807) = some (.int (a * 16807)) := fun a => mulc (by simp [W64])
  have m4 : ∀ a : Int, binD .mul (.int 7) (.int a) = some (.int (7 * a)) := fun a => mulc' (by simp [W64])
  have d1 : ∀ a : Int, binD .mod (.int a) (.int 2147483647) = some (.int (a % 2147483647)) := fun a => modI (by omega)
  have d2 : ∀ a : Int, binD .fdiv (.int a) (.int 3) = some (.int (a / 3)) := fun a => divI (by omega) (by omega)
  refine ⟨((b * 16807 + 7 * a + 3) % 2147483647) / 3, ?_⟩
  simp only [e7, den, dens, val, evs, op2, varM, M.bind, M.ret, M.opt, h3, h4, m3, m4, d1, d2, addI, bF]
/-- x.append(e), x a slot -/
theorem app_ok {C : Cs} {i : Nat} {e : E} {s s' : Mp.Env} {v : D} {xs : List D} (h : (den C e).1 s = .ok v s') (hs : getS s' i = some (.lst xs)) (h0 : getS s i = some (.lst xs)) (hl : xs.length < SZ) : dS C (.ex (.mu .append i [] [e])) s = .ok .nx (setS s' i (.lst (xs ++ [v]))) := by
  simp [dS, den, dens, val, muM, evs, M.bind, M.ret, getPM, h0, getP, muOk, h, hs, muF, hl, setPM, setP]
theorem bA1 {C : Cs} {s : Option D} {m : Nat} {xs : List Int} {j : Nat} {cell : Int} {o5 o6 : Option D} {r : Mp.Env} (hx : xs.length ≤ m) (hm : m ≤ 100000) : ∃ (ys : List Int) (p6 : Option D), ys.length ≤ m ∧ dB C elseA (s :: some (.int m) :: some (.lst (xs.map .int)) :: some (.int j) :: some (.int cell) :: o5 :: o6 :: r) = .ok .nx (s :: some (.int m) :: some (.lst (ys.map .int)) :: some (.int j) :: some (.int cell) :: o5 :: p6 :: r) := by
  have hs : (xs.map D.int).length < SZ := by rw [List.length_map]; unfold SZ; omega
  have ht : (den C (.cmp .lt (.bi .len [.v 2]) (.v 1))).2 (s :: some (.int m) :: some (.lst (xs.map .int)) :: some (.int j) :: some (.int cell) :: o5 :: o6 :: r) = .ok (decide (xs.length < m)) (s :: some (.int m) :: some (.lst (xs.map .int)) :: some (.int j) :: some (.int cell) :: o5 :: o6 :: r) := by
    simp [den, dens, val, truthM, op2, varM, evs, M.bind, M.ret, M.opt, getS, bF, cmpD, ltD, D.truth]
  obtain ⟨v6, h6⟩ := e6_ok (C := C) (e := s :: some (.int m) :: some (.lst (xs.map .int)) :: some (.int j) :: some (.int cell) :: o5 :: o6 :: r) (a := j) (b := cell) rfl rfl
  obtain ⟨v7, h7⟩ := e7_ok (C := C) (e := s :: some (.int m) :: some (.lst (xs.map .int)) :: some (.int j) :: some (.int cell) :: o5 :: some (.int v6) :: r) (a := j) (b := v6) rfl rfl
  have ha := app_ok (i := 2) h7 (xs := xs.map .int) rfl rfl hs
  have hset : dS C (.set 6 e6) (s :: some (.int m) :: some (.lst (xs.map .int)) :: some (.int j) :: some (.int cell) :: o5 :: o6 :: r) = .ok .nx (s :: some (.int m) :: some (.lst (xs.map .int)) :: some (.int j) :: some (.int cell) :: o5 :: some (.int v6) :: r) := by
    rw [dS]
    unfold M.bind
    rw [h6]
    rfl
  by_cases h2 : xs.length < m
  · refine ⟨xs ++ [v7], some (.int v6), by simp; omega, ?_⟩
    show dB C [.ifs (.cmp .lt (.bi .len [.v 2]) (.v 1)) [.set 6 e6, .ex (.mu .append 2 [] [e7])] []] _ = _
    rw [dB, dS]
    unfold seqM M.bind
    rw [ht, decide_eq_true h2]
    simp only [if_true, dB, seqM, M.bind, hset, ha, M.ret]
    simp [setS]
  · refine ⟨xs, o6, hx, ?_⟩
    show dB C [.ifs (.cmp .lt (.bi .len [.v 2]) (.v 1)) [.set 6 e6, .ex (.mu .append 2 [] [e7])] []] _ = _
    rw [dB, dS]
    unfold seqM M.bind
    rw [ht, decide_eq_false h2]
    rfl
theorem bAif {C : Cs} {s : Option D} {e : Mp.Env} {cell : Int} (hc : getS e 4 = some (.int cell)) : dS C (.ifs (.cmp .ge (.v 4) (.bin .pow (.int 10) (.int 18))) [.for_ (.nm 5) .rng [.int 60] none body60] elseA) e = if cell < 1000000000000000000 then dB C elseA e else dB C [.for_ (.nm 5) .rng [.int 60] none body60] e := by
  have hb : binD .pow (.int 10) (.int 18) = some (.int 1000000000000000000) := rfl
  have h1 : (den C (.cmp .ge (.v 4) (.bin .pow (.int 10) (.int 18)))).2 e = .ok (!decide (cell < 1000000000000000000)) e := by
    simp only [den, val, truthM, op2, varM, M.bind, M.ret, M.opt, hc, hb, cmpD, ltD, D.truth, Option.map_some]
  rw [dS]
  unfold M.bind
  rw [h1]
  by_cases h : cell < 1000000000000000000
  · rw [if_pos h, decide_eq_true h]; rfl
  · rw [if_neg h, decide_eq_false h]; rfl
theorem bA {C : Cs} {ns : List Int} {m : Nat} {xs : List Int} {j : Nat} {o4 o5 o6 : Option D} {r : Mp.Env} (hj : j < ns.length) (hx : xs.length ≤ m) (hm : m ≤ 100000) : ∃ (ys : List Int) (p4 p5 p6 : Option D), ys.length ≤ m ∧ dB C bodyA (some (.rol (ns.map .int)) :: some (.int m) :: some (.lst (xs.map .int)) :: some (.int j) :: o4 :: o5 :: o6 :: r) = .ok .nx (some (.rol (ns.map .int)) :: some (.int m) :: some (.lst (ys.map .int)) :: some (.int j) :: p4 :: p5 :: p6 :: r) := by
  have h0 := bA0 (C := C) (m := m) (xs := xs) (o4 := o4) (o5 := o5) (o6 := o6) (r := r) hj
  generalize (if ns[j] < 0 then -ns[j] else ns[j]) = cell at h0
  have hif := bAif (C := C) (s := none) (e := some (.rol (ns.map .int)) :: some (.int m) :: some (.lst (xs.map .int)) :: some (.int j) :: some (.int cell) :: o5 :: o6 :: r) (cell := cell) rfl
  by_cases h1 : cell < 1000000000000000000
  · rw [if_pos h1] at hif
    obtain ⟨ys, p6, hy, e2⟩ := bA1 (C := C) (s := some (.rol (ns.map .int))) (j := j) (cell := cell) (o5 := o5) (o6 := o6) (r := r) hx hm
    exact ⟨ys, some (.int cell), o5, p6, hy, dB_cons h0 (dB_cons (hif.trans e2) dB_nil)⟩
  · rw [if_neg h1] at hif
    obtain ⟨ys, c, o5', hy, e2⟩ := loop60 (C := C) (s := some (.rol (ns.map .int))) (o3 := some (.int j)) (o5 := o5) (r := o6 :: r) (cell := cell) hx hm
    exact ⟨ys, some (.int c), o5', o6, hy, dB_cons h0 (dB_cons (hif.trans (dB_cons e2 dB_nil)) dB_nil)⟩
theorem loopA {C : Cs} {ns : List Int} {m : Nat} {o3 o4 o5 o6 : Option D} {r : Mp.Env} (hm : m ≤ 100000) (hn : ns.length ≤ 100000) : ∃ (ys : List Int) (p3 p4 p5 p6 : Option D), ys.length ≤ m ∧ dS C (.for_ (.nm 3) .rng [.bi .len [.v 0]] none bodyA) (some (.rol (ns.map .int)) :: some (.int m) :: some (.lst []) :: o3 :: o4 :: o5 :: o6 :: r) = .ok .nx (some (.rol (ns.map .int)) :: some (.int m) :: some (.lst (ys.map .int)) :: p3 :: p4 :: p5 :: p6 :: r) := by
  obtain ⟨e', f1, ys, p3, p4, p5, p6, rfl, h⟩ := for_inv (t := .nm 3) (body := dB C bodyA) (fun _ e => ∃ (ys : List Int) (p3 p4 p5 p6 : Option D), e = (some (.rol (ns.map .int)) :: some (.int m) :: some (.lst (ys.map .int)) :: p3 :: p4 :: p5 :: p6 :: r) ∧ ys.length ≤ m) (rngD 0 ns.length) 0 (some (.rol (ns.map .int)) :: some (.int m) :: some (.lst []) :: o3 :: o4 :: o5 :: o6 :: r) ⟨[], o3, o4, o5, o6, rfl, Nat.zero_le _⟩ fun j d e hj ⟨ys, p3, p4, p5, p6, he, hy⟩ => by
    subst he
    obtain ⟨hj1, rfl⟩ := rngD_get hj
    obtain ⟨zs, q4, q5, q6, hz, e2⟩ := bA (C := C) (ns := ns) (o4 := p4) (o5 := p5) (o6 := p6) (r := r) hj1 hy hm
    rw [Int.zero_add]
    exact ⟨_, rfl, _, .inl e2, zs, _, q4, q5, q6, rfl, hz⟩
  refine ⟨ys, p3, p4, p5, p6, h, ?_⟩
  rw [dS_for (as := [.int ns.length]) (ds := rngD 0 ns.length) (e1 := some (.rol (ns.map .int)) :: some (.int m) :: some (.lst []) :: o3 :: o4 :: o5 :: o6 :: r)]
  · exact f1
  · simp [dens, den, val, evs, varM, M.bind, M.ret, M.opt, getS, bF]
  · have hb : B62 ns.length = true := by unfold B62; simp; omega
    simp [itF, hb]
theorem bB {C : Cs} {s : Option D} {m : Nat} {xs : List Int} {j base : Nat} {last : Int} {o4 o5 o6 : Option D} (hb : base ≤ xs.length) (hx : xs.length < SZ) : ∃ (v l : Int), dB C bodyB (s :: some (.int m) :: some (.lst (xs.map .int)) :: some (.int j) :: o4 :: o5 :: o6 :: some (.int base) :: some (.int last) :: []) = .ok .nx (s :: some (.int m) :: some (.lst ((xs ++ [v]).map .int)) :: some (.int j) :: o4 :: o5 :: o6 :: some (.int base) :: some (.int l) :: []) := by
  have hs : (xs.map D.int).length < SZ := by rw [List.length_map]; exact hx
  have m1 : ∀ a : Int, binD .mul (.int a) (.int 48271) = some (.int (a * 48271)) := fun a => mulc (by simp [W64])
  have d1 : ∀ a : Int, binD .mod (.int a) (.int 2147483647) = some (.int (a % 2147483647)) := fun a => modI (by omega)
  have d2 : ∀ a : Int, binD .fdiv (.int a) (.int 7) = some (.int (a / 7)) := fun a => divI (by omega) (by omega)
  have h1 : ∃ l1 : Int, dS C (.ifs (.cmp .gt (.v 7) (.int 0)) [.set 8 (.bin .add (.v 8) (.ix (.v 2) (.bin .mod (.v 3) (.v 7))))] []) (s :: some (.int m) :: some (.lst (xs.map .int)) :: some (.int j) :: o4 :: o5 :: o6 :: some (.int base) :: some (.int last) :: []) = .ok .nx (s :: some (.int m) :: some (.lst (xs.map .int)) :: some (.int j) :: o4 :: o5 :: o6 :: some (.int base) :: some (.int l1) :: []) := by
    have ht : (den C (.cmp .gt (.v 7) (.int 0))).2 (s :: some (.int m) :: some (.lst (xs.map .int)) :: some (.int j) :: o4 :: o5 :: o6 :: some (.int base) :: some (.int last) :: []) = .ok (decide (0 < base)) (s :: some (.int m) :: some (.lst (xs.map .int)) :: some (.int j) :: o4 :: o5 :: o6 :: some (.int base) :: some (.int last) :: []) := by
      simp [den, val, truthM, op2, varM, M.bind, M.ret, M.opt, getS, cmpD, ltD, D.truth]
    rw [dS_if ht]
    by_cases h : 0 < base
    · rw [decide_eq_true h, if_pos rfl]
      have hlt : j % base < xs.length := Nat.lt_of_lt_of_le (Nat.mod_lt _ h) hb
      have ea : L2.atI (xs.map D.int) ((j : Int) % (base : Int)) = some (.int xs[j % base]) := by
        rw [← Int.natCast_emod]
        exact atI_map hlt
      have em : binD .mod (.int j) (.int base) = some (.int ((j : Int) % base)) := modI (by omega)
      exact ⟨last + xs[j % base], dB_cons (dS_set (d := .int (last + xs[j % base])) (e1 := s :: some (.int m) :: some (.lst (xs.map .int)) :: some (.int j) :: o4 :: o5 :: o6 :: some (.int base) :: some (.int last) :: []) (by
        simp [den, val, op2, varM, M.bind, M.opt, getS, em, ixD, ea, addI])) dB_nil⟩
    · rw [decide_eq_false h]
      exact ⟨last, by rw [if_neg Bool.false_ne_true]; exact dB_nil⟩
  obtain ⟨l1, h1⟩ := h1
  have g8 : ∀ l : Int, getS (s :: some (.int m) :: some (.lst (xs.map .int)) :: some (.int j) :: o4 :: o5 :: o6 :: some (.int base) :: some (.int l) :: []) 8 = some (.int l) := fun _ => rfl
  have g3 : ∀ l : Int, getS (s :: some (.int m) :: some (.lst (xs.map .int)) :: some (.int j) :: o4 :: o5 :: o6 :: some (.int base) :: some (.int l) :: []) 3 = some (.int j) := fun _ => rfl
  have h2 : dS C (.set 8 (.bin .mod (.bi .int [.bin .add (.bin .mul (.v 8) (.int 48271)) (.v 3)]) (.int 2147483647))) (s :: some (.int m) :: some (.lst (xs.map .int)) :: some (.int j) :: o4 :: o5 :: o6 :: some (.int base) :: some (.int l1) :: []) = .ok .nx (s :: some (.int m) :: some (.lst (xs.map .int)) :: some (.int j) :: o4 :: o5 :: o6 :: some (.int base) :: some (.int ((l1 * 48271 + j) % 2147483647)) :: []) :=
    dS_set (d := .int ((l1 * 48271 + j) % 2147483647)) (e1 := s :: some (.int m) :: some (.lst (xs.map .int)) :: some (.int j) :: o4 :: o5 :: o6 :: some (.int base) :: some (.int l1) :: []) (by
      simp only [den, dens, val, evs, op2, varM, M.bind, M.ret, M.opt, getSs, getS0, m1, d1, addI, bF, g8 l1, g3 l1])
  generalize (l1 * 48271 + (j : Int)) % 2147483647 = l2 at h2
  have h3 := app_ok (C := C) (i := 2) (e := .bin .fdiv (.v 8) (.int 7)) (s := s :: some (.int m) :: some (.lst (xs.map .int)) :: some (.int j) :: o4 :: o5 :: o6 :: some (.int base) :: some (.int l2) :: []) (s' := s :: some (.int m) :: some (.lst (xs.map .int)) :: some (.int j) :: o4 :: o5 :: o6 :: some (.int base) :: some (.int l2) :: []) (v := .int (l2 / 7)) (xs := xs.map .int) (by
      simp only [den, val, op2, varM, M.bind, M.ret, M.opt, d2, g8 l2]) rfl rfl hs
  refine ⟨l2 / 7, l2, dB_cons h1 (dB_cons h2 (dB_cons (h3.trans ?_) dB_nil))⟩
  simp [setS]
theorem loopB {C : Cs} {s : Option D} {m : Nat} {xs : List Int} {last : Int} {o3 o4 o5 o6 : Option D} (hx : xs.length ≤ m) (hm : m ≤ 100000) : ∃ (ys : List Int) (p3 : Option D) (l : Int), ys.length = m ∧ dS C (.for_ (.nm 3) .rng [.bi .max2 [.int 0, .bin .sub (.v 1) (.v 7)]] none bodyB) (s :: some (.int m) :: some (.lst (xs.map .int)) :: o3 :: o4 :: o5 :: o6 :: some (.int xs.length) :: some (.int last) :: []) = .ok .nx (s :: some (.int m) :: some (.lst (ys.map .int)) :: p3 :: o4 :: o5 :: o6 :: some (.int xs.length) :: some (.int l) :: []) := by
  obtain ⟨e', f1, ys, p3, l, rfl, h⟩ := for_inv (t := .nm 3) (body := dB C bodyB) (fun k e => ∃ (ys : List Int) (p3 : Option D) (l : Int), e = (s :: some (.int m) :: some (.lst (ys.map .int)) :: p3 :: o4 :: o5 :: o6 :: some (.int xs.length) :: some (.int l) :: []) ∧ ys.length = xs.length + k) (rngD 0 (m - xs.length)) 0 (s :: some (.int m) :: some (.lst (xs.map .int)) :: o3 :: o4 :: o5 :: o6 :: some (.int xs.length) :: some (.int last) :: []) ⟨xs, o3, last, rfl, rfl⟩ fun j d e hj ⟨ys, p3, l, he, hy⟩ => by
    subst he
    obtain ⟨hj1, rfl⟩ := rngD_get hj
    obtain ⟨v, l', e2⟩ := bB (C := C) (s := s) (m := m) (xs := ys) (j := j) (base := xs.length) (last := l) (o4 := o4) (o5 := o5) (o6 := o6) (by omega) (by unfold SZ; omega)
    rw [Int.zero_add]
    exact ⟨_, rfl, _, .inl e2, ys ++ [v], _, l', rfl, by simp; omega⟩
  rw [rngD_len] at h
  refine ⟨ys, p3, l, by omega, ?_⟩
  rw [dS_for (as := [.int ((m - xs.length : Nat) : Int)]) (ds := rngD 0 (m - xs.length)) (e1 := s :: some (.int m) :: some (.lst (xs.map .int)) :: o3 :: o4 :: o5 :: o6 :: some (.int xs.length) :: some (.int last) :: [])]
  · exact f1
  · have e0 : (if (m : Int) - (xs.length : Int) > 0 then (m : Int) - (xs.length : Int) else 0) = ((m - xs.length : Nat) : Int) := by split <;> omega
    have g1 : getS (s :: some (.int m) :: some (.lst (xs.map .int)) :: o3 :: o4 :: o5 :: o6 :: some (.int xs.length) :: some (.int last) :: []) 1 = some (.int m) := rfl
    have g7 : getS (s :: some (.int m) :: some (.lst (xs.map .int)) :: o3 :: o4 :: o5 :: o6 :: some (.int xs.length) :: some (.int last) :: []) 7 = some (.int xs.length) := rfl
    simp only [dens, den, val, evs, op2, varM, M.bind, M.ret, M.opt, g1, g7, bF, binD, e0]
  · have hb : B62 ((m - xs.length : Nat) : Int) = true := by unfold B62; simp; omega
    simp only [itF, hb, if_true, Int.toNat_natCast]
theorem numbers_body {C : Cs} {ns : List Int} {m : Nat} (hm : m ≤ 100000) (hn : ns.length ≤ 100000) : ∃ (xs : List Int) (e : Mp.Env), xs.length = m ∧ dB C b__law_numbers (some (.rol (ns.map .int)) :: some (.int m) :: List.replicate 7 none) = .ok (.rt (.lst (xs.map .int))) e := by
  obtain ⟨ys, p3, p4, p5, p6, hy, hA⟩ := loopA (C := C) (ns := ns) (o3 := none) (o4 := none) (o5 := none) (o6 := none) (r := [none, none]) hm hn
  obtain ⟨zs, q3, l, hz, hB⟩ := loopB (C := C) (s := some (.rol (ns.map .int))) (xs := ys) (last := 5381 + ns.length) (o3 := p3) (o4 := p4) (o5 := p5) (o6 := p6) hy hm
  refine ⟨zs, _, hz, dB_cons (dS_set (d := .lst []) (e1 := some (.rol (ns.map .int)) :: some (.int m) :: List.replicate 7 none) rfl) (dB_cons hA (dB_cons (dS_set (d := .int ys.length) (e1 := some (.rol (ns.map .int)) :: some (.int m) :: some (.lst (ys.map .int)) :: p3 :: p4 :: p5 :: p6 :: [none, none]) ?_) (dB_cons (dS_set (d := .int (5381 + ns.length)) (e1 := some (.rol (ns.map .int)) :: some (.int m) :: some (.lst (ys.map .int)) :: p3 :: p4 :: p5 :: p6 :: [some (.int ys.length), none]) ?_) (dB_cons hB (dB_ret (dS_ret (d := .lst (zs.map .int)) (e1 := some (.rol (ns.map .int)) :: some (.int m) :: some (.lst (zs.map .int)) :: q3 :: p4 :: p5 :: p6 :: some (.int ys.length) :: some (.int l) :: []) ?_))))))⟩
  · simp [den, dens, val, evs, varM, M.bind, M.ret, M.opt, getS, bF]
  · simp [den, dens, val, evs, op2, varM, M.bind, M.ret, M.opt, getS, setS, bF, addI]
  · have hc : cutD (zs.map D.int) none (some (m : Int)) = zs.map D.int := by
      unfold cutD
      have h1 : HT.sIx (zs.map D.int).length 0 none = 0 := rfl
      have h2 : HT.sIx (zs.map D.int).length (zs.map D.int).length (some (m : Int)) = m := by
        rw [HT.sIx_nat, List.length_map, hz, Nat.min_self]
      rw [h1, h2]
      rw [List.drop_zero, Nat.sub_zero]
      exact List.take_of_length_le (by rw [List.length_map, hz]; exact Nat.le_refl m)
    have g2 : getS (some (.rol (ns.map .int)) :: some (.int m) :: some (.lst (zs.map .int)) :: q3 :: p4 :: p5 :: p6 :: some (.int ys.length) :: some (.int l) :: []) 2 = some (.lst (zs.map .int)) := rfl
    have g1 : getS (some (.rol (ns.map .int)) :: some (.int m) :: some (.lst (zs.map .int)) :: q3 :: p4 :: p5 :: p6 :: some (.int ys.length) :: some (.int l) :: []) 1 = some (.int m) := rfl
    simp only [den, dens, val, partM, varM, M.bind, M.ret, M.opt, g1, g2, slD, hc]
end Lw
/-! Pl1: words for plain laws. -/
namespace Lw
open PySem Mp
theorem eqI {a b : Int} : eqD (.int a) (.int b) = some (decide (a = b)) := by
  have h : PyData.eqv (.int a) (.int b) = decide (a = b) := by
    unfold PyData.eqv
    rfl
  unfold eqD
  rw [if_pos (by rfl)]
  simp only [D.toP, h]
theorem eqB {a b : Bool} : eqD (.bl a) (.bl b) = some (decide (a = b)) := by
  unfold eqD
  rw [if_pos (by rfl)]
  cases a <;> cases b <;> rfl
abbrev tI (xs : List Int) : D := .tup (xs.map .int)
abbrev lI (xs : List Int) : D := .lst (xs.map .int)
theorem bools_map : ∀ {bs : List Bool}, bools (bs.map .bl) = some bs
  | [] => rfl
  | b :: bs => by simp [bools, bools_map]
theorem ints_map : ∀ {ns : List Int}, D.ints (ns.map .int) = some ns
  | [] => rfl
  | n :: ns => by simp [D.ints, ints_map]
theorem ltI {a b : Int} : ltD (.int a) (.int b) = some (decide (a < b)) := rfl
theorem subI {a b : Int} : binD .sub (.int a) (.int b) = some (.int (a - b)) := rfl
theorem addT {a b : List D} (h : a.length + b.length ≤ SZ) : binD .add (.tup a) (.tup b) = some (.tup (a ++ b)) := if_pos h
theorem addL {a b : List D} (h : a.length + b.length ≤ SZ) : binD .add (.lst a) (.lst b) = some (.lst (a ++ b)) := if_pos h
theorem negI {a : Int} : negD (.int a) = some (.int (-a)) := rfl
theorem lenL {xs : List D} : bF .len [.lst xs] = some (.int xs.length) := rfl
theorem lenR {xs : List D} : bF .len [.rol xs] = some (.int xs.length) := rfl
theorem lenT {xs : List D} : bF .len [.tup xs] = some (.int xs.length) := rfl
theorem absI {i : Int} : bF .abs [.int i] = some (.int (if i < 0 then -i else i)) := rfl
theorem intI {i : Int} : bF .int [.int i] = some (.int i) := rfl
theorem intB {b : Bool} : bF .int [.bl b] = some (.int (if b then 1 else 0)) := rfl
theorem lstL {xs : List D} : bF .list [.lst xs] = some (.lst xs) := rfl
theorem lstT {xs : List D} : bF .list [.tup xs] = some (.lst xs) := rfl
theorem tupL {xs : List D} : bF .tuple [.lst xs] = some (.tup xs) := rfl
theorem tupT {xs : List D} : bF .tuple [.tup xs] = some (.tup xs) := rfl
theorem allB {bs : List Bool} : bF .all [.lst (bs.map .bl)] = some (.bl (bs.all id)) := by
  show (bools (bs.map .bl)).map _ = _
  rw [bools_map]; rfl
theorem sumI {ns : List Int} : bF .sum [.lst (ns.map .int)] = some (.int ns.sum) := by
  show (D.ints (ns.map .int)).map _ = _
  rw [ints_map]; rfl
theorem ixT {xs : List D} {i : Int} : ixD (.tup xs) (.int i) = L2.atI xs i := rfl
theorem ixL {xs : List D} {i : Int} : ixD (.lst xs) (.int i) = L2.atI xs i := rfl
theorem ixR {xs : List D} {i : Int} : ixD (.rol xs) (.int i) = L2.atI xs i := rfl
theorem truB {b : Bool} : D.truth (.bl b) = some b := rfl
theorem truI {i : Int} : D.truth (.int i) = some (i != 0) := rfl
theorem at0 {α : Type} {x : α} {xs : List α} : L2.atI (x :: xs) 0 = some x := by
  have := atI_nat (xs := x :: xs) (j := 0) (by simp)
  exact this
theorem at1 {α : Type} {x y : α} {xs : List α} : L2.atI (x :: y :: xs) 1 = some y := atI_nat (xs := x :: y :: xs) (j := 1) (by simp)
theorem at2 {α : Type} {x y z : α} {xs : List α} : L2.atI (x :: y :: z :: xs) 2 = some z := atI_nat (xs := x :: y :: z :: xs) (j := 2) (by simp)
theorem SZ_big : SZ = 16777216 := rfl
/-! ### one construct each -/
theorem ev_bin {C : Cs} {o : BO} {a b : E} {x y z : D} {e e1 e2 : Mp.Env} (ha : (den C a).1 e = .ok x e1) (hb : (den C b).1 e1 = .ok y e2) (hz : binD o x y = some z) : (den C (.bin o a b)).1 e = .ok z e2 := by
  simp only [den, val, op2, M.bind, ha, hb, hz, M.opt]
theorem ev_bi1 {C : Cs} {k : BI} {a : E} {x z : D} {e e1 : Mp.Env} (ha : (den C a).1 e = .ok x e1) (hz : bF k [x] = some z) : (den C (.bi k [a])).1 e = .ok z e1 := by
  simp only [den, dens, val, evs, M.bind, ha, M.ret, hz, M.opt]
theorem ev_ix {C : Cs} {a b : E} {x y z : D} {e e1 e2 : Mp.Env} (ha : (den C a).1 e = .ok x e1) (hb : (den C b).1 e1 = .ok y e2) (hz : ixD x y = some z) : (den C (.ix a b)).1 e = .ok z e2 := by
  simp only [den, val, op2, M.bind, ha, hb, hz, M.opt]
theorem ev_cmp {C : Cs} {o : CO} {a b : E} {x y : D} {k : Bool} {e e1 e2 : Mp.Env} (ha : (den C a).1 e = .ok x e1) (hb : (den C b).1 e1 = .ok y e2) (hz : cmpD o x y = some k) : (den C (.cmp o a b)).1 e = .ok (.bl k) e2 ∧ (den C (.cmp o a b)).2 e = .ok k e2 := by
  constructor
  · simp only [den, val, op2, M.bind, ha, hb, hz, M.opt, Option.map_some]
  · simp only [den, val, op2, truthM, M.bind, ha, hb, hz, M.opt, Option.map_some, truB]
theorem ev_v {C : Cs} {i : Nat} {d : D} {e : Mp.Env} (h : getS e i = some d) : (den C (.v i)).1 e = .ok d e := by
  simp only [den, val, varM, h]
theorem ev_int {C : Cs} {i : Int} {e : Mp.Env} : (den C (.int i)).1 e = .ok (.int i) e := by simp only [den, val, M.ret]
theorem ev_str {C : Cs} {x : Str} {e : Mp.Env} : (den C (.str x)).1 e = .ok (.str x) e := by simp only [den, val, M.ret]
theorem ev_bl {C : Cs} {b : Bool} {e : Mp.Env} : (den C (.bl b)).1 e = .ok (.bl b) e := by simp only [den, val, M.ret]
theorem ev_neg {C : Cs} {a : E} {i : Int} {e e1 : Mp.Env} (ha : (den C a).1 e = .ok (.int i) e1) : (den C (.neg a)).1 e = .ok (.int (-i)) e1 := by
  simp only [den, val, op1, M.bind, ha, negI, M.opt]
theorem evs_nil {C : Cs} {e : Mp.Env} : evs (dens C []) e = .ok [] e := by simp only [dens, evs, M.ret]
theorem evs_cons {C : Cs} {a : E} {as : List E} {d : D} {ds : List D} {e e1 e2 : Mp.Env} (h : (den C a).1 e = .ok d e1) (h' : evs (dens C as) e1 = .ok ds e2) : evs (dens C (a :: as)) e = .ok (d :: ds) e2 := by
  simp only [dens, evs, M.bind, h, h', M.ret]
theorem ev_tup {C : Cs} {as : List E} {ds : List D} {e e1 : Mp.Env} (h : evs (dens C as) e = .ok ds e1) : (den C (.tup as)).1 e = .ok (.tup ds) e1 := by
  simp only [den, val, M.bind, h, M.ret]
theorem ev_lst {C : Cs} {as : List E} {ds : List D} {e e1 : Mp.Env} (h : evs (dens C as) e = .ok ds e1) : (den C (.lst as)).1 e = .ok (.lst ds) e1 := by
  simp only [den, val, M.bind, h, M.ret]
/-- a call, nothing lent -/
theorem ev_call {C : Cs} {f : Str} {es : List E} {e e1 : Mp.Env} {ds : List D} {r : D} {ls : List D} (h : evs (dens C es) e = .ok ds e1) (hl : es.all noLn = true) (hc : C.cl f ds = .ok r ls) : (den C (.call f es)).1 e = .ok r e1 := by
  simp only [den, val, callM, h, rl_none hl, hc]
  rw [wb_none hl]
theorem ev_callx {C : Cs} {f : Str} {es : List E} {e e1 : Mp.Env} {ds : List D} {c : Str} (h : evs (dens C es) e = .ok ds e1) (hl : es.all noLn = true) (hc : C.cl f ds = .ex c) : (den C (.call f es)).1 e = .ex c e1 := by
  simp only [den, val, callM, h, rl_none hl, hc]
  rw [unl_none hl]
theorem valT {C : Cs} {x : E} {f : M D} (h : den C x = val f) : (den C x).2 = truthM (den C x).1 := by rw [h]
theorem tr_bl {f : M D} {b : Bool} {e e1 : Mp.Env} (h : f e = .ok (.bl b) e1) : truthM f e = .ok b e1 := by
  simp only [truthM, M.bind, h, M.opt, truB]
/-- x[i] = v -/
theorem dS_put1 {C : Cs} {i : Nat} {k x : E} {e e1 e2 : Mp.Env} {y kk d d' : D} (h : (den C x).1 e = .ok y e1) (hk : (den C k).1 e1 = .ok kk e2) (hd : getS e2 i = some d) (hp : putI d kk y = some d') : dS C (.put i [k] x) e = .ok .nx (setS e2 i d') := by
  simp only [dS, M.bind, h, dens, evs, hk, M.ret, List.getLast?_singleton, List.dropLast_singleton, putM, getPM, hd, Option.bind_some, getP_nil, hp, M.opt, setPM, setP_nil]
/-- x[i] += v -/
theorem dS_augp1 {C : Cs} {i : Nat} {k x : E} {o : BO} {e e1 e2 : Mp.Env} {y kk d v z d' : D} (hk : (den C k).1 e = .ok kk e1) (hd : getS e1 i = some d) (hx : ixD d kk = some v) (h : (den C x).1 e1 = .ok y e2) (hd2 : getS e2 i = some d) (ha : augD o v y = some z) (hp : putI d kk z = some d') : dS C (.augp i [k] o x) e = .ok .nx (setS e2 i d') := by
  simp only [dS, M.bind, h, dens, evs, hk, M.ret, List.getLast?_singleton, List.dropLast_singleton, putM, getPM, hd, hd2, Option.bind_some, getP_nil, hp, M.opt, setPM, setP_nil, hx, ha]
/-- x.append(v) -/
theorem dS_app {C : Cs} {i : Nat} {x : E} {e e1 : Mp.Env} {y : D} {xs : List D} (h0 : getS e i = some (.lst xs)) (h : (den C x).1 e = .ok y e1) (h1 : getS e1 i = some (.lst xs)) (hl : xs.length < SZ) : dS C (.ex (.mu .append i [] [x])) e = .ok .nx (setS e1 i (.lst (xs ++ [y]))) := by
  simp only [dS, den, dens, val, muM, M.bind, evs, M.ret, getPM, h0, Option.bind_some, getP_nil, muOk, h, h1, muF, if_pos hl, setPM, setP_nil, Bool.true_eq_false, if_false]
theorem not2 {C : Cs} {x : E} {b : Bool} {e e1 : Mp.Env} (h : (den C x).2 e = .ok b e1) : (den C (.not x)).2 e = .ok (!b) e1 := by
  simp only [den, notT, M.bind, h, M.ret]
theorem or2 {C : Cs} {x y : E} {b d : Bool} {e e1 e2 : Mp.Env} (h : (den C x).2 e = .ok b e1) (h' : b = false → (den C y).2 e1 = .ok d e2) : ∃ e3, (den C (.or [x, y])).2 e = .ok (b || d) e3 ∧ (e3 = e1 ∨ e3 = e2) := by
  simp only [den, dens, orT, M.bind, h, M.ret]
  cases b with
  | true => exact ⟨e1, rfl, .inl rfl⟩
  | false => exact ⟨e2, by simpa using h' rfl, .inr rfl⟩
/-- tests that hang on nothing -/
def EvT (C : Cs) (e : Mp.Env) : List E → List Bool → Prop
  | [], [] => True
  | x :: xs, b :: bs => (den C x).2 e = .ok b e ∧ EvT C e xs bs
  | _, _ => False
theorem EvT.nil {C : Cs} {e : Mp.Env} : EvT C e [] [] := trivial
theorem EvT.cons {C : Cs} {e : Mp.Env} {x : E} {xs : List E} {b : Bool} {bs : List Bool} (h : (den C x).2 e = .ok b e) (h' : EvT C e xs bs) : EvT C e (x :: xs) (b :: bs) := ⟨h, h'⟩
theorem or_t {C : Cs} {x y : E} {ys : List E} {e e1 : Mp.Env} (h : (den C x).2 e = .ok true e1) : (den C (.or (x :: y :: ys))).2 e = .ok true e1 := by
  simp only [den, dens, orT, M.bind, h, if_true, M.ret]
theorem or_f {C : Cs} {x y : E} {ys : List E} {e e1 : Mp.Env} (h : (den C x).2 e = .ok false e1) : (den C (.or (x :: y :: ys))).2 e = (den C (.or (y :: ys))).2 e1 := by
  simp only [den, dens, orT, M.bind, h, Bool.false_eq_true, if_false]
theorem and_f {C : Cs} {x y : E} {ys : List E} {e e1 : Mp.Env} (h : (den C x).2 e = .ok false e1) : (den C (.and (x :: y :: ys))).2 e = .ok false e1 := by
  simp only [den, dens, andT, M.bind, h, Bool.false_eq_true, if_false, M.ret]
theorem and_t {C : Cs} {x y : E} {ys : List E} {e e1 : Mp.Env} (h : (den C x).2 e = .ok true e1) : (den C (.and (x :: y :: ys))).2 e = (den C (.and (y :: ys))).2 e1 := by
  simp only [den, dens, andT, M.bind, h, if_true]
theorem or1 {C : Cs} {x : E} : (den C (.or [x])).2 = (den C x).2 := by simp only [den, dens, orT]
theorem and1 {C : Cs} {x : E} : (den C (.and [x])).2 = (den C x).2 := by simp only [den, dens, andT]
theorem orP {C : Cs} {e : Mp.Env} : ∀ {xs : List E} {bs : List Bool}, xs ≠ [] → EvT C e xs bs → (den C (.or xs)).2 e = .ok (bs.any id) e := by
  intro xs bs hn h
  rw [den]
  show orT (dens C xs) e = _
  induction xs generalizing bs with
  | nil => exact absurd rfl hn
  | cons x xs ih =>
    cases bs with
    | nil => exact h.elim
    | cons b bs =>
      obtain ⟨h1, h2⟩ := h
      cases xs with
      | nil =>
        cases bs with
        | nil => simpa [dens, orT] using h1
        | cons => exact h2.elim
      | cons y ys =>
        simp only [dens, orT, M.bind, h1]
        cases b with
        | true => rfl
        | false => simpa [dens] using ih (by simp) h2
theorem andP {C : Cs} {e : Mp.Env} : ∀ {xs : List E} {bs : List Bool}, xs ≠ [] → EvT C e xs bs → (den C (.and xs)).2 e = .ok (bs.all id) e := by
  intro xs bs hn h
  rw [den]
  show andT (dens C xs) e = _
  induction xs generalizing bs with
  | nil => exact absurd rfl hn
  | cons x xs ih =>
    cases bs with
    | nil => exact h.elim
    | cons b bs =>
      obtain ⟨h1, h2⟩ := h
      cases xs with
      | nil =>
        cases bs with
        | nil => simpa [dens, andT] using h1
        | cons => exact h2.elim
      | cons y ys =>
        simp only [dens, andT, M.bind, h1]
        cases b with
        | false => rfl
        | true => simpa [dens] using ih (by simp) h2
theorem dS_ex {C : Cs} {x : E} {e e1 : Mp.Env} {d : D} (h : (den C x).1 e = .ok d e1) : dS C (.ex x) e = .ok .nx e1 := by
  simp only [dS, M.bind, h, M.ret]
theorem raise1 {C : Cs} {c : Str} {e : Mp.Env} : dB C [.raise c] e = .ex c e := by simp only [dB, dS, seqM, M.bind]
theorem if_t {C : Cs} {k : E} {a b : List Mp.S} {e e1 : Mp.Env} {r : R Fl} (h : (den C k).2 e = .ok true e1) (h2 : dB C a e1 = r) : dS C (.ifs k a b) e = r := (dS_if h).trans (by rw [if_pos rfl]; exact h2)
theorem if_f {C : Cs} {k : E} {a b : List Mp.S} {e e1 : Mp.Env} {r : R Fl} (h : (den C k).2 e = .ok false e1) (h2 : dB C b e1 = r) : dS C (.ifs k a b) e = r := (dS_if h).trans (by rw [if_neg Bool.false_ne_true]; exact h2)
theorem dB_cex {C : Cs} {s : Mp.S} {ss : List Mp.S} {e e1 : Mp.Env} {c : Str} (h1 : dS C s e = .ex c e1) : dB C (s :: ss) e = .ex c e1 := by
  simp only [dB, seqM, M.bind, h1]
theorem dS_tgt {C : Cs} {is : List Nat} {x : E} {e e1 e2 : Mp.Env} {d : D} (h : (den C x).1 e = .ok d e1) (h2 : asg (.tp is) d e1 = some e2) : dS C (.tgt is x) e = .ok .nx e2 := by
  simp only [dS, M.bind, h, h2]
theorem call_nx {P : Pg} {n : Nat} {F : Fd} {ds : List D} {e : Mp.Env} (hf : P.find F.d.name = some F) (hl : F.ps.length = ds.length) (h : dB (P.cs_ n) F.body (ds.map some ++ List.replicate (F.N.length - F.ps.length) none) = .ok .nx e) (hlo : F.lo = none := by rfl) : ∃ ls, P.call (n + 1) F.d.name ds = .ok .non ls := by
  rw [call_succ hf hl, h, hlo]
  exact ⟨_, if_pos rfl⟩
theorem call_ex {P : Pg} {n : Nat} {F : Fd} {ds : List D} {e : Mp.Env} {c : Str} (hf : P.find F.d.name = some F) (hl : F.ps.length = ds.length) (h : dB (P.cs_ n) F.body (ds.map some ++ List.replicate (F.N.length - F.ps.length) none) = .ex c e) : P.call (n + 1) F.d.name ds = .ex c := by
  rw [call_succ hf hl, h]
/-- a comprehension without a test -/
theorem lcL_map {elt : M D} {t : T} {e : Mp.Env} {g : D → D} : ∀ {ds : List D}, (∀ d, d ∈ ds → ∃ e1, asg t d e = some e1 ∧ ∃ e2, elt e1 = .ok (g d) e2) → lcL elt t (M.ret true) e ds = some (ds.map g)
  | [], _ => rfl
  | d :: ds, h => by
    obtain ⟨e1, h1, e2, h2⟩ := h d List.mem_cons_self
    simp only [lcL, h1, M.ret, h2, lcL_map (ds := ds) fun d hd => h d (List.mem_cons_of_mem _ hd), Option.map_some, List.map_cons]
/-- .. with one -/
theorem lcL_flt {elt : M D} {c : M Bool} {t : T} {e : Mp.Env} {g : D → D} {p : D → Bool} : ∀ {ds : List D}, (∀ d, d ∈ ds → ∃ e1, asg t d e = some e1 ∧ ∃ e2, c e1 = .ok (p d) e2 ∧ (p d = true → ∃ e3, elt e2 = .ok (g d) e3)) → lcL elt t c e ds = some ((ds.filter p).map g)
  | [], _ => rfl
  | d :: ds, h => by
    obtain ⟨e1, h1, e2, h2, h3⟩ := h d List.mem_cons_self
    have ih := lcL_flt (ds := ds) fun d hd => h d (List.mem_cons_of_mem _ hd)
    cases hp : p d with
    | true =>
      obtain ⟨e3, h4⟩ := h3 hp
      rw [hp] at h2
      simp only [lcL, h1, h2, h4, ih, Option.map_some, List.filter_cons, hp, if_true, List.map_cons]
    | false =>
      rw [hp] at h2
      simp only [lcL, h1, h2, ih, List.filter_cons, hp, Bool.false_eq_true, if_false]
/-- what a comprehension gives -/
theorem lc_val {C : Cs} {elt : E} {t : T} {k : IK} {ia : List E} {c : List E} {e e1 : Mp.Env} {as ds ys : List D} (h1 : evs (dens C ia) e = .ok as e1) (h2 : itF k as = some ds) (h3 : ds.length ≤ SZ) (h4 : lcL (den C elt).1 t (cM (dens C c)) (wipeE e1 t.slots) ds = some ys) :
    (den C (.lc elt t k ia c)).1 e = .ok (.lst ys) (wipeE e1 t.slots) := by
  simp only [den, val, lcM, lcF, M.bind, h1, M.opt, h2, if_pos h3, h4]
end Lw
/-! Pl2: ints: ranges, sums, written lists and dicts. -/
namespace Lw
open PySem Mp
def rngI (s : Int) : Nat → List Int
  | 0 => []
  | n + 1 => s :: rngI (s + 1) n
theorem rngI_mem : ∀ {n : Nat} {s x : Int}, x ∈ rngI s n ↔ s ≤ x ∧ x < s + n
  | 0, s, x => by simp [rngI] <;> omega
  | n + 1, s, x => by
    simp only [rngI, List.mem_cons, rngI_mem (n := n)]
    omega
theorem rngI_nodup : ∀ {n : Nat} {s : Int}, (rngI s n).Nodup
  | 0, _ => List.nodup_nil
  | n + 1, s => by
    rw [rngI, List.nodup_cons]
    exact ⟨fun h => by have := rngI_mem.mp h; omega, rngI_nodup⟩
theorem rngI_len : ∀ {n : Nat} {s : Int}, (rngI s n).length = n
  | 0, _ => rfl
  | n + 1, s => by simp [rngI, rngI_len]
theorem rngD_int : ∀ {n : Nat} {s : Int}, rngD s n = (rngI s n).map .int
  | 0, _ => rfl
  | n + 1, s => by simp [rngD, rngI, rngD_int]
theorem perm_sum {α : Type} {g : α → Int} {a b : List α} (h : a.Perm b) : (a.map g).sum = (b.map g).sum := by
  induction h with
  | nil => rfl
  | cons x _ ih => simp [ih]
  | swap x y l => simp; omega
  | trans _ _ h1 h2 => exact h1.trans h2
theorem keys_perm {ks : List Int} {n : Nat} (nd : ks.Nodup) (h : ∀ k ∈ ks, 0 ≤ k ∧ k < n) : ks.Perm ((rngI 0 n).filter fun x => decide (x ∈ ks)) := by
  rw [List.perm_ext_iff_of_nodup nd (rngI_nodup.filter _)]
  intro a
  rw [List.mem_filter, rngI_mem]
  constructor
  · intro ha
    have := h a ha
    exact ⟨⟨this.1, by omega⟩, decide_eq_true ha⟩
  · intro ha
    exact of_decide_eq_true ha.2
theorem keys_len {ks : List Int} {n : Nat} (nd : ks.Nodup) (h : ∀ k ∈ ks, 0 ≤ k ∧ k < n) : ks.length ≤ n := by
  rw [(keys_perm nd h).length_eq]
  exact Nat.le_trans (List.length_filter_le _ _) (by rw [rngI_len]; exact Nat.le_refl _)
theorem filter_sum {g : Int → Int} {p : Int → Bool} : ∀ {xs : List Int}, (∀ x ∈ xs, p x = false → g x = 0) → ((xs.filter p).map g).sum = (xs.map g).sum
  | [], _ => rfl
  | x :: xs, h => by
    have ih := filter_sum (xs := xs) fun y hy => h y (List.mem_cons_of_mem _ hy)
    rw [List.filter_cons]
    cases hp : p x with
    | true => simp [ih]
    | false => simp [ih, h x List.mem_cons_self hp]
/-- over the keys, or over all -/
theorem sum_keys {ks : List Int} {n : Nat} {g : Int → Int} (nd : ks.Nodup) (h : ∀ k ∈ ks, 0 ≤ k ∧ k < n) (z : ∀ x : Int, 0 ≤ x → x < n → x ∉ ks → g x = 0) : (ks.map g).sum = ((rngI 0 n).map g).sum := by
  rw [perm_sum (keys_perm nd h), filter_sum]
  intro x hx hp
  have := rngI_mem.mp hx
  exact z x this.1 (by omega) (by simpa using hp)
/-! ### lists of ints by place -/
def getI (v : List Int) (x : Int) : Int := (v[x.toNat]?).getD 0
theorem getI_at {v : List Int} {x : Int} (h0 : 0 ≤ x) (h1 : x < v.length) : L2.atI (v.map D.int) x = some (.int (getI v x)) := by
  obtain ⟨k, rfl⟩ := Int.eq_ofNat_of_zero_le h0
  have hk : k < v.length := by omega
  rw [atI_map hk]
  unfold getI
  simp [hk]
def setI (v : List Int) (x y : Int) : List Int := v.set x.toNat y
theorem setI_len {v : List Int} {x y : Int} : (setI v x y).length = v.length := by simp [setI]
theorem getI_set {v : List Int} {x y z : Int} (h0 : 0 ≤ x) (h1 : x < v.length) (hz : 0 ≤ z) : getI (setI v x y) z = if z = x then y else getI v z := by
  unfold getI setI
  rw [List.getElem?_set]
  by_cases h : z = x
  · subst h
    rw [if_pos rfl, if_pos rfl, if_pos (by omega)]
    rfl
  · rw [if_neg h, if_neg (by omega)]
theorem ixN_nat {n : Nat} {x : Int} (h0 : 0 ≤ x) (h1 : x < n) : L2.ixN n x = some x.toNat := by
  unfold L2.ixN
  rw [if_pos h0, if_pos (by omega)]
/-- xs[k] = y -/
theorem putL {v : List Int} {x y : Int} (h0 : 0 ≤ x) (h1 : x < v.length) : putI (.lst (v.map .int)) (.int x) (.int y) = some (.lst ((setI v x y).map .int)) := by
  show (L2.ixN (v.map D.int).length x).map _ = _
  rw [List.length_map, ixN_nat h0 h1, Option.map_some, setI, List.map_set]
/-! ### dicts of ints -/
abbrev Ps := List (Int × Int)
def dD (ps : Ps) : D := .dct false (ps.map fun p => .int p.1) (ps.map fun p => .int p.2)
def keysP (ps : Ps) : List Int := ps.map (·.1)
def lk : Ps → Int → Int
  | [], _ => 0
  | p :: r, x => if p.1 = x then p.2 else lk r x
def putA : Ps → Int → Int → Ps
  | [], x, y => [(x, y)]
  | p :: r, x, y => if p.1 = x then (p.1, y) :: r else p :: putA r x y
theorem dPut_ps : ∀ {ps : Ps} {x y : Int}, dPut (ps.map fun p => .int p.1) (ps.map fun p => .int p.2) (.int x) (.int y) = ((putA ps x y).map (fun p => D.int p.1), (putA ps x y).map (fun p => D.int p.2))
  | [], x, y => rfl
  | p :: r, x, y => by
    simp only [List.map_cons, dPut, putA]
    by_cases h : p.1 = x
    · rw [if_pos (by rw [h]), if_pos h]; simp
    · rw [if_neg (fun e => h (by cases e; rfl)), if_neg h, dPut_ps]; simp
theorem dGet_ps : ∀ {ps : Ps} {x : Int}, (dGet (ps.map fun p => .int p.1) (ps.map fun p => .int p.2) (.int x)).getD (.int 0) = .int (lk ps x)
  | [], x => rfl
  | p :: r, x => by
    simp only [List.map_cons, dGet, lk]
    by_cases h : p.1 = x
    · rw [if_pos (by rw [h]), if_pos h]; rfl
    · rw [if_neg (fun e => h (by cases e; rfl)), if_neg h, dGet_ps]
theorem dGet_key : ∀ {ps : Ps} {x : Int}, x ∈ keysP ps → dGet (ps.map fun p => .int p.1) (ps.map fun p => .int p.2) (.int x) = some (.int (lk ps x))
  | [], x, h => by cases h
  | p :: r, x, h => by
    simp only [List.map_cons, dGet, lk]
    by_cases e : p.1 = x
    · rw [if_pos (by rw [e]), if_pos e]
    · rw [if_neg (fun z => e (by cases z; rfl)), if_neg e]
      exact dGet_key ((List.mem_cons.mp h).resolve_left (fun z => e z.symm))
theorem lk_put : ∀ {ps : Ps} {t y x : Int}, lk (putA ps t y) x = if x = t then y else lk ps x
  | [], t, y, x => by
    simp only [putA, lk]
    by_cases h : t = x
    · simp [h]
    · rw [if_neg h, if_neg (fun z => h z.symm)]
  | p :: r, t, y, x => by
    simp only [putA]
    by_cases h : p.1 = t
    · rw [if_pos h]
      simp only [lk]
      by_cases hx : p.1 = x
      · rw [if_pos hx, if_pos (by omega)]
      · rw [if_neg hx, if_neg (by omega), if_neg hx]
    · rw [if_neg h]
      simp only [lk, lk_put (ps := r)]
      by_cases hx : p.1 = x
      · rw [if_pos hx, if_neg (by omega), if_pos hx]
      · rw [if_neg hx, if_neg hx]
theorem keys_put : ∀ {ps : Ps} {t y x : Int}, x ∈ keysP (putA ps t y) ↔ x ∈ keysP ps ∨ x = t
  | [], t, y, x => by simp [putA, keysP]
  | p :: r, t, y, x => by
    simp only [putA]
    by_cases h : p.1 = t
    · rw [if_pos h]
      simp only [keysP, List.map_cons, List.mem_cons]
      constructor
      · exact fun z => .inl z
      · rintro (z | z)
        · exact z
        · exact .inl (by omega)
    · rw [if_neg h]
      have ih := keys_put (ps := r) (t := t) (y := y) (x := x)
      unfold keysP at ih ⊢
      simp only [List.map_cons, List.mem_cons, ih]
      exact or_assoc.symm
theorem keys_nodup : ∀ {ps : Ps} {t y : Int}, (keysP ps).Nodup → (keysP (putA ps t y)).Nodup
  | [], t, y, _ => by simp [putA, keysP]
  | p :: r, t, y, nd => by
    have nd' := List.nodup_cons.mp (show (p.1 :: keysP r).Nodup from nd)
    simp only [putA]
    by_cases h : p.1 = t
    · rw [if_pos h]; exact nd
    · rw [if_neg h]
      show (p.1 :: keysP (putA r t y)).Nodup
      rw [List.nodup_cons]
      refine ⟨fun z => ?_, keys_nodup nd'.2⟩
      rcases keys_put.mp z with z | z
      · exact nd'.1 z
      · exact h z
theorem putA_len : ∀ {ps : Ps} {t y : Int}, (putA ps t y).length ≤ ps.length + 1
  | [], t, y => by simp [putA]
  | p :: r, t, y => by
    simp only [putA]
    split
    · simp
    · have := putA_len (ps := r) (t := t) (y := y)
      simp; omega
theorem putD {ps : Ps} {x y : Int} (h : ps.length < SZ) : putI (dD ps) (.int x) (.int y) = some (dD (putA ps x y)) := by
  show (if keyD false (.int x) && decide ((ps.map fun p => D.int p.1).length < SZ) then _ else _) = _
  rw [if_pos (by simp [keyD, D.flat, h]), dPut_ps]
  rfl
theorem ixDi {ps : Ps} {x : Int} (h : x ∈ keysP ps) : ixD (dD ps) (.int x) = some (.int (lk ps x)) := by
  show (if keyD false (.int x) then dGet (ps.map fun p => .int p.1) (ps.map fun p => .int p.2) (.int x) else none) = _
  rw [if_pos (by rfl), dGet_key h]
theorem lk_no : ∀ {ps : Ps} {x : Int}, x ∉ keysP ps → lk ps x = 0
  | [], _, _ => rfl
  | p :: r, x, h => by
    unfold keysP at h
    rw [List.map_cons, List.mem_cons, not_or] at h
    simp only [lk, if_neg (fun z => h.1 (Eq.symm z))]
    exact lk_no h.2
theorem get2I {ps : Ps} {x : Int} : meF .get2 (dD ps) [.int x, .int 0] = some (.int (lk ps x)) := by
  show (if keyD false (.int x) then some ((dGet (ps.map fun p => .int p.1) (ps.map fun p => .int p.2) (.int x)).getD (.int 0)) else none) = _
  rw [if_pos (by rfl), dGet_ps]
theorem sortedD {ps : Ps} (h : ps.length < 64) : bF .sorted [dD ps] = some (lI (sortI (keysP ps))) := by
  show (if (ps.map fun p => D.int p.1).length < 64 then (sortDI (ps.map fun p => D.int p.1)).map D.lst else none) = _
  rw [if_pos (by simpa using h)]
  have e : (ps.map fun p => D.int p.1) = (keysP ps).map .int := by unfold keysP; rw [List.map_map]; rfl
  rw [e]
  unfold sortDI
  rw [ints_map]
  rfl
end Lw
/-! Pl3: texts and equality in plain laws. -/
namespace Lw
open PySem Mp TL
def okS (z : Str) : Prop := ∀ c ∈ tl z, c < 1114112
theorem okS_sh {z : Str} (h : okS z) : (D.str z).shp = true := by
  have : (z.cps.all fun c => decide (c < 0x110000)) = true := by
    rw [← Array.all_toList, List.all_eq_true]
    intro c hc
    exact decide_eq_true (h c hc)
  show SeqAt.shaped (.str z) = true
  unfold SeqAt.shaped
  rw [Bool.and_eq_true]
  exact ⟨this, by rfl⟩
theorem eqS {a b : Str} (ha : okS a) (hb : okS b) : eqD (.str a) (.str b) = some (decide (a = b)) := by
  have h : PyData.eqv (.str a) (.str b) = decide (a = b) := by
    unfold PyData.eqv
    rfl
  unfold eqD
  rw [if_pos (by rw [okS_sh ha, okS_sh hb]; rfl)]
  simp only [D.toP, h]
theorem okS_app {a b : Str} (ha : okS a) (hb : okS b) : okS (a ++ b) := fun c hc => by
  rw [tl_append] at hc
  rcases List.mem_append.mp hc with h | h
  · exact ha c h
  · exact hb c h
theorem okS_of {z : Str} (h : ((tl z).all fun c => decide (c < 1114112)) = true) : okS z := fun c hc => of_decide_eq_true (List.all_eq_true.mp h c hc)
/-- may be compared; at most k deep -/
def dpB (k : Nat) (d : D) : Bool := d.toP.canLay0 && decide (d.toP.depth ≤ k)
theorem dpB_shp {k : Nat} {d : D} (h : dpB k d = true) (hk : k ≤ 64) : d.shp = true := by
  unfold dpB at h
  rw [Bool.and_eq_true, decide_eq_true_eq] at h
  show SeqAt.shaped d.toP = true
  unfold SeqAt.shaped
  rw [h.1, decide_eq_true (by omega)]
  rfl
theorem dpBs {k : Nat} : ∀ {xs : List D}, (∀ d ∈ xs, dpB k d = true) → PyData.canLayAll0 (D.toPs xs) = true ∧ PyData.depthAll (D.toPs xs) ≤ k
  | [], _ => by simp [D.toPs, PyData.canLayAll0, PyData.depthAll]
  | d :: xs, h => by
    obtain ⟨h1, h2⟩ := dpBs fun y hy => h y (List.mem_cons_of_mem _ hy)
    have h0 := h d List.mem_cons_self
    unfold dpB at h0
    rw [Bool.and_eq_true, decide_eq_true_eq] at h0
    refine ⟨by simp [D.toPs, PyData.canLayAll0, h0.1, h1], ?_⟩
    simp only [D.toPs, PyData.depthAll]
    omega
theorem dpB_lst {k : Nat} {xs : List D} (h : ∀ d ∈ xs, dpB k d = true) : dpB (k + 1) (.lst xs) = true := by
  obtain ⟨h1, h2⟩ := dpBs h
  unfold dpB
  simp only [D.toP, PyData.canLay0, PyData.depth, h1, Bool.true_and]
  exact decide_eq_true (by omega)
theorem dpB_tup {k : Nat} {xs : List D} (h : ∀ d ∈ xs, dpB k d = true) : dpB (k + 1) (.tup xs) = true := by
  obtain ⟨h1, h2⟩ := dpBs h
  unfold dpB
  simp only [D.toP, PyData.canLay0, PyData.depth, h1, Bool.true_and]
  exact decide_eq_true (by omega)
theorem dpB_int {k : Nat} {i : Int} : dpB k (.int i) = true := by
  unfold dpB
  simp [D.toP, PyData.canLay0, PyData.depth]
theorem dpB_bl {k : Nat} {i : Bool} : dpB k (.bl i) = true := by
  unfold dpB
  simp [D.toP, PyData.canLay0, PyData.depth]
theorem dpB_str {k : Nat} {z : Str} (h : okS z) : dpB k (.str z) = true := by
  have := okS_sh h
  have h1 : SeqAt.shaped (.str z) = true := this
  unfold SeqAt.shaped at h1
  rw [Bool.and_eq_true] at h1
  unfold dpB
  simp only [D.toP]
  rw [h1.1]
  simp [PyData.depth]
theorem eqD_refl {d : D} (h : d.shp = true) : eqD d d = some true := by
  unfold eqD
  rw [if_pos (by rw [h]; rfl), SeqAt.eqv_refl _ (SeqAt.canLay_of_shaped h)]
/-! ### texts cut and joined -/
def mk1 (c : Nat) : Str := ⟨#[c]⟩
theorem mkS_tl1 {z : Str} : mkS (tl z) = z := mk_tl z
theorem sep_sp : sepB " " = true := by decide +kernel
theorem tl_sp : tl " " = [32] := by decide +kernel
theorem strs_map {zs : List Str} : D.strs (zs.map .str) = some zs := by
  induction zs with
  | nil => rfl
  | cons z zs ih => show (D.strs (zs.map .str)).map (z :: ·) = _; rw [ih]; rfl
theorem sum_len {k : Nat} : ∀ {zs : List Str}, (∀ z ∈ zs, z.length ≤ k) → (zs.map (·.length)).sum ≤ k * zs.length
  | [], _ => Nat.le_refl _
  | z :: zs, h => by
    have := sum_len fun y hy => h y (List.mem_cons_of_mem _ hy)
    have := h z List.mem_cons_self
    simp only [List.map_cons, List.sum_cons, List.length_cons, Nat.mul_add, Nat.mul_one]
    omega
theorem ev_non {C : Cs} {e : Mp.Env} : (den C .non).1 e = .ok .non e := by simp only [den, val, M.ret]
theorem ev_g {C : Cs} {x : Str} {d : D} {e : Mp.Env} (h : C.gl x = some d) : (den C (.g x)).1 e = .ok d e := by simp only [den, val, h, M.opt]
theorem ev_join {C : Cs} {a : E} {zs : List Str} {e e1 : Mp.Env} (h : (den C a).1 e = .ok (.lst (zs.map .str)) e1) (hl : (zs.map (·.length)).sum + zs.length ≤ SZ) : (den C (.me .join (.str " ") [a])).1 e = .ok (.str (Txt.join " " zs)) e1 := by
  have hm : meF .join (.str " ") [.lst (zs.map .str)] = some (.str (Txt.join " " zs)) := by
    show ((D.strs (zs.map .str)).bind fun zs => if (zs.map (·.length)).sum + zs.length * (" " : Str).length ≤ SZ then some (D.str (Txt.join " " zs)) else none) = _
    rw [strs_map]
    have h4 : (" " : Str).length = 1 := by rw [len_tl, tl_sp]; rfl
    simp only [Option.bind_some]
    rw [if_pos (by rw [h4]; omega)]
  rw [den]
  simp only [val, M.bind, ev_str (C := C) (x := " ") (e := e), show meOk .join (.str " ") = true from rfl, if_true, evs_cons (C := C) (as := []) (e := e) h evs_nil, hm, M.opt]
theorem ev_split {C : Cs} {a : E} {t : Str} {e : Mp.Env} (h : (den C a).1 e = .ok (.str t) e) (hz : t.length ≤ 100000) : (den C (.me .split1 a [.str " "])).1 e = .ok (.lst ((spl [32] 0 [] (tl t)).map fun l => .str (mkS l))) e := by
  have hm : meF .split1 (.str t) [.str " "] = some (.lst ((spl [32] 0 [] (tl t)).map fun l => .str (mkS l))) := by
    show (if (sepB " " && decide (t.length + 2 ≤ SZ)) = true then some (D.lst ((spl (tl " ") 0 [] (tl t)).map fun l => .str (mkS l))) else none) = _
    rw [sep_sp, tl_sp, decide_eq_true (show t.length + 2 ≤ SZ by rw [SZ_big]; omega)]; rfl
  rw [den]
  simp only [val, M.bind, h, show meOk .split1 (.str t) = true from rfl, if_true, evs_cons (C := C) (as := []) (e := e) (ev_str (x := " ") (e := e)) evs_nil, hm, M.opt]
theorem ev_lenS {C : Cs} {a : E} {z : Str} {e e1 : Mp.Env} (ha : (den C a).1 e = .ok (.str z) e1) (hz : z.length ≤ SZ) : (den C (.bi .len [a])).1 e = .ok (.int (tl z).length) e1 := ev_bi1 ha (by rw [← len_tl]; exact if_pos hz)
theorem atI0 {α : Type} {xs : List α} {x : α} {k : Nat} (h : xs[k]? = some x) : L2.atI xs (k : Int) = some x := by
  obtain ⟨h1, h2⟩ := List.getElem?_eq_some_iff.mp h
  rw [atI_nat h1, h2]
/-- x.extend(v) -/
theorem dS_ext {C : Cs} {i : Nat} {x : E} {e e1 : Mp.Env} {xs ys : List D} (h0 : getS e i = some (.lst xs)) (h : (den C x).1 e = .ok (.lst ys) e1) (h1 : getS e1 i = some (.lst xs)) (hl : xs.length + ys.length ≤ SZ) : dS C (.ex (.mu .extend i [] [x])) e = .ok .nx (setS e1 i (.lst (xs ++ ys))) := by
  simp only [dS, den, dens, val, muM, M.bind, evs, M.ret, getPM, h0, Option.bind_some, getP_nil, muOk, h, h1, muF, if_pos hl, setPM, setP_nil, Bool.true_eq_false, if_false]
/-- a loop as a fold: env a is the frame at the state a -/
theorem forL_fold {α : Type} {t : T} {body : M Fl} (I : α → Mp.Env → Prop) (step : α → D → α) : ∀ (ds : List D) (a : α) (e : Mp.Env), I a e → (∀ a e d, d ∈ ds → I a e → ∃ e1, asg t d e = some e1 ∧ ∃ e2, (body e1 = .ok .nx e2 ∨ body e1 = .ok .ct e2) ∧ I (step a d) e2) →
    ∃ e', forL (fun _ => true) t body ds e = .ok .nx e' ∧ I (ds.foldl step a) e'
  | [], a, e, h, _ => ⟨e, by simp [forL], h⟩
  | d :: ds, a, e, h, st => by
    obtain ⟨e1, a1, e2, b1, h2⟩ := st a e d List.mem_cons_self h
    obtain ⟨e', f1, f2⟩ := forL_fold I step ds (step a d) e2 h2 fun a e d' hd => st a e d' (List.mem_cons_of_mem _ hd)
    refine ⟨e', ?_, f2⟩
    simp only [forL, if_true, a1]
    rcases b1 with b | b <;> rw [b] <;> exact f1
theorem valV {C : Cs} {i : Nat} {e : Mp.Env} {b : Bool} (h : getS e i = some (.bl b)) : (den C (.v i)).2 e = .ok b e := by
  rw [valT (f := varM i) (by rw [den])]
  exact tr_bl (ev_v h)
theorem fold_app {α β : Type} {f : β → List α} : ∀ {ds : List β} {a : List α}, ds.foldl (fun a d => a ++ f d) a = a ++ ds.flatMap f
  | [], a => by simp
  | d :: ds, a => by rw [List.foldl_cons, fold_app, List.flatMap_cons, List.append_assoc]
theorem atI_mod {α : Type} {zs : List α} {m : Nat} (h : zs.length = m) (h0 : 0 < m) (v : Int) : ∃ z, z ∈ zs ∧ L2.atI zs (v % m) = some z := by
  have h1 : 0 ≤ v % m := Int.emod_nonneg _ (by omega)
  have h2 : v % m < m := Int.emod_lt_of_pos _ (by omega)
  obtain ⟨j, hj⟩ := Int.eq_ofNat_of_zero_le h1
  rw [hj]
  have h3 : j < zs.length := by omega
  exact ⟨zs[j], List.getElem_mem h3, atI_nat h3⟩
/-- a comprehension whose values are only known to be such -/
theorem lcL_ex {elt : M D} {t : T} {e : Mp.Env} {Q : D → Prop} : ∀ {ds : List D}, (∀ d, d ∈ ds → ∃ e1, asg t d e = some e1 ∧ ∃ y e2, elt e1 = .ok y e2 ∧ Q y) → ∃ ys, lcL elt t (M.ret true) e ds = some ys ∧ ys.length = ds.length ∧ ∀ y ∈ ys, Q y
  | [], _ => ⟨[], rfl, rfl, fun _ h => by cases h⟩
  | d :: ds, h => by
    obtain ⟨e1, h1, y, e2, h2, hq⟩ := h d List.mem_cons_self
    obtain ⟨ys, g1, g2, g3⟩ := lcL_ex (ds := ds) fun d hd => h d (List.mem_cons_of_mem _ hd)
    refine ⟨y :: ys, by simp only [lcL, h1, h2, g1, Option.map_some, show (M.ret true : M Bool) e1 = .ok true e1 from rfl], by simp [g2], fun z hz => ?_⟩
    rcases List.mem_cons.mp hz with rfl | hz
    · exact hq
    · exact g3 z hz
theorem map_of {α β : Type} {f : α → β} {S : α → Prop} : ∀ {ys : List β}, (∀ y ∈ ys, ∃ t, S t ∧ y = f t) → ∃ ts : List α, ys = ts.map f ∧ ∀ t ∈ ts, S t
  | [], _ => ⟨[], rfl, fun _ h => by cases h⟩
  | y :: ys, h => by
    obtain ⟨t, h1, h2⟩ := h y List.mem_cons_self
    obtain ⟨ts, g1, g2⟩ := map_of fun y hy => h y (List.mem_cons_of_mem _ hy)
    refine ⟨t :: ts, by rw [h2, g1]; rfl, fun z hz => ?_⟩
    rcases List.mem_cons.mp hz with rfl | hz
    · exact h1
    · exact g2 z hz
/-- a comprehension over a range -/
theorem lc_rng {C : Cs} {elt : E} {i : Nat} {ia : List E} {e e1 : Mp.Env} {m : Nat} {ys : List D} (h1 : evs (dens C ia) e = .ok [.int m] e1) (hm : m ≤ 100000) (h4 : lcL (den C elt).1 (.nm i) (M.ret true) (wipeE e1 [i]) (rngD 0 m) = some ys) :
    (den C (.lc elt (.nm i) .rng ia [])).1 e = .ok (.lst ys) (wipeE e1 [i]) := by
  have hb : B62 (m : Int) = true := by unfold B62; simp; omega
  exact lc_val (t := .nm i) (as := [.int m]) (ds := rngD 0 m) h1 (by simp only [itF, hb, if_true, Int.toNat_natCast]) (by rw [rngD_len, SZ_big]; omega) h4
theorem rngD_mem {m : Nat} {d : D} (h : d ∈ rngD 0 m) : ∃ j : Nat, j < m ∧ d = .int j := by
  obtain ⟨j, hj⟩ := List.getElem?_of_mem h
  obtain ⟨h1, h2⟩ := rngD_get hj
  exact ⟨j, h1, by rw [h2, Int.zero_add]⟩
theorem sorted_strs {zs : List Str} (h : zs.length < 64) : bF .sorted [.lst (zs.map .str)] = some (.lst ((sortS zs).map .str)) := by
  have hs : sortS_ (zs.map .str) = some ((sortS zs).map .str) := by
    unfold sortS_
    rw [strs_map, Option.bind_some, if_pos h]
  show (sortD (zs.map .str)).map D.lst = _
  cases zs with
  | nil => rfl
  | cons z zs =>
    have : sortDI ((z :: zs).map D.str) = none := rfl
    unfold sortD
    rw [this, hs]
    rfl
theorem dB_app {C : Cs} {b : List Mp.S} {r : R Fl} : ∀ {a : List Mp.S} {e e1 : Mp.Env}, dB C a e = .ok .nx e1 → dB C b e1 = r → dB C (a ++ b) e = r
  | [], e, e1, h, h2 => by
    rw [dB_nil] at h
    cases h
    exact h2
  | s :: a, e, e1, h, h2 => by
    rw [List.cons_append, dB]
    rw [dB] at h
    unfold seqM M.bind at h ⊢
    cases hs : dS C s e with
    | ok f e2 =>
      rw [hs] at h
      cases f with
      | nx => exact dB_app h h2
      | _ => cases h
    | ex c e2 => rw [hs] at h; cases h
    | no => rw [hs] at h; cases h
theorem muA {xs : List D} {y : D} (h : xs.length < SZ) : muF .append (.lst xs) [y] = some (.lst (xs ++ [y]), .non) := if_pos h
theorem muE {xs ys : List D} (h : xs.length + ys.length ≤ SZ) : muF .extend (.lst xs) [.lst ys] = some (.lst (xs ++ ys), .non) := if_pos h
/-! ### texts built up -/
def evS (C : Cs) (e : Mp.Env) (a : E) (z : Str) (n : Nat) : Prop := (den C a).1 e = .ok (.str z) e ∧ z.length ≤ n
section
variable {C : Cs} {e : Mp.Env} {a b : E} {x y : Str} {n m : Nat}
theorem len_app {x y : Str} : (x ++ y).length = x.length + y.length := by rw [len_tl, tl_append, List.length_append, ← len_tl, ← len_tl]
theorem evS.add (h : evS C e a x n) (h' : evS C e b y m) (hb : n + m ≤ 100000) : evS C e (.bin .add a b) (x ++ y) (n + m) := by
  have hl : (x ++ y).length = x.length + y.length := len_app
  have h1 := h.2
  have h2 := h'.2
  refine ⟨ev_bin h.1 h'.1 ?_, by rw [hl]; omega⟩
  show (if x.length + y.length ≤ SZ then some (D.str (x ++ y)) else none) = _
  rw [if_pos (by rw [SZ_big]; omega)]
theorem evS.lit (h : x.length ≤ n) : evS C e (.str x) x n := ⟨ev_str, h⟩
theorem evS.v {i : Nat} (h : getS e i = some (.str x)) (hl : x.length ≤ n) : evS C e (.v i) x n := ⟨ev_v h, hl⟩
end
theorem dS_try_ok {C : Cs} {x : Ows} {b : List Mp.S} {h : Mp.S} {e e1 : Mp.Env} {f : Fl} (hb : dB C b e = .ok f e1) : dS C (.try_ x b h) e = .ok f e1 := by
  simp only [dS, tryM, hb]
theorem dS_try_ex {C : Cs} {x : Ows} {b : List Mp.S} {h : Mp.S} {e e1 : Mp.Env} {c : Str} {r : R Fl} (hb : dB C b e = .ex c e1) (hx : C.isx c = true) (hr : dH C h c e1 = r) : dS C (.try_ x b h) e = r := by
  simp only [dS, tryM, hb, hx, if_true, hr]
theorem forL_c {t : T} {body : M Fl} {d : D} {ds : List D} {e e1 e2 : Mp.Env} {r : R Fl} (ha : asg t d e = some e1) (hb : body e1 = .ok .nx e2) (hr : forL (fun _ => true) t body ds e2 = r) : forL (fun _ => true) t body (d :: ds) e = r := by
  simp only [forL, if_true, ha, hb]
  exact hr
theorem forL_n {t : T} {body : M Fl} {e : Mp.Env} : forL (fun _ => true) t body [] e = .ok .nx e := by simp [forL]
theorem call_t {C : Cs} {f : Str} {es : List E} {e e1 : Mp.Env} {b : Bool} (h : (den C (.call f es)).1 e = .ok (.bl b) e1) : (den C (.call f es)).2 e = .ok b e1 := by
  rw [valT (f := callM C f es (dens C es)) (by rw [den])]
  exact tr_bl h
end Lw
namespace Lw
open PySem PySem.Spec PyProof.Rows L2 Mp
def top (i : Nat) : Stmt := PySem.Challenge.pw_doppelganger_k75_clients_refused.main.body.getD i (.Pass ⟨0, 0, 0, 0⟩)
def dfn (x : Str) (i : Nat) : He.DefD := ⟨(x, none), x, x, defArgs (top i), defBody (top i), defScope (top i), [], []⟩
def b_part_kind : List Mp.S := [
  .ifs (.cmp .eq (.v 0) (.str "e")) [
    .ret (.str "exp")] [],
  .ifs (.cmp .eq (.v 0) (.str "c")) [
    .ret (.str "com")] [],
  .ifs (.cmp .eq (.v 0) (.str "b")) [
    .ret (.ix (.v 2) (.int 3))] [],
  .ret (.v 1)]
def f_part_kind : Fd := ⟨dfn "part_kind" 10, ["sign", "kind", "term"], ["sign", "kind", "term"], .fr, b_part_kind, none⟩
def b_kids : List Mp.S := [
  .ifs (.cmp .eq (.ix (.v 0) (.int 0)) (.str "seq")) [
    .ret (.lst [.tup [.str "com", .ix (.v 0) (.int 1)], .tup [.str "com", .ix (.v 0) (.int 2)]])] [],
  .set 2 (.lst []),
  .for_ (.tp [3, 4]) .enum [.ix (.tix "FORMS" (.ix (.v 0) (.int 0))) (.int 1)] none [
    .ifs (.cmp .eq (.v 4) (.str "a")) [
      .ex (.mu .extend 2 [] [.ix (.v 0) (.bin .add (.v 3) (.int 1))])] [
      .ifs (.cmp .in_ (.v 4) (.str "ectb")) [
        .ex (.mu .append 2 [] [.tup [.call "part_kind" [.v 4, .v 1, .v 0], .ix (.v 0) (.bin .add (.v 3) (.int 1))]])] []]],
  .ret (.v 2)]
def f_kids : Fd := ⟨dfn "kids" 11, ["term", "kind", "found", "at", "sign"], ["term", "kind"], .fr, b_kids, none⟩
def b_nodes : List Mp.S := [
  .set 2 (.lst []),
  .set 3 (.lst [.tup [.v 1, .v 0, .int 1]]),
  .while_ (.cmp .gt (.bi .len [.v 3]) (.int 0)) [
    .set 4 (.mu .pop0 3 [] []),
    .ex (.mu .append 2 [] [.v 4]),
    .for_ (.tp [5, 6]) .renum [.call "kids" [.ix (.v 4) (.int 1), .ix (.v 4) (.int 0)]] none [
      .set 7 (.and [.cmp .eq (.v 5) (.int 0), .cmp .eq (.ix (.ix (.v 4) (.int 1)) (.int 0)) (.str "seq"), .cmp .eq (.ix (.ix (.v 6) (.int 1)) (.int 0)) (.str "seq")]),
      .set 8 (.ite (.v 7) (.ix (.v 4) (.int 2)) (.bin .add (.ix (.v 4) (.int 2)) (.int 1))),
      .ex (.mu .append 3 [] [.tup [.ix (.v 6) (.int 0), .ix (.v 6) (.int 1), .v 8]])]],
  .ret (.v 2)]
def f_nodes : Fd := ⟨dfn "nodes" 12, ["term", "kind", "found", "waiting", "node", "at", "part", "same", "level"], ["term", "kind"], .fr, b_nodes, none⟩
def b_check_size : List Mp.S := [
  .set 1 (.call "nodes" [.ix (.v 0) (.int 2), .ix (.v 0) (.int 1)]),
  .ifs (.or [.cmp .gt (.bi .len [.v 1]) (.g "MAX_NODES"), .cmp .gt (.bi .max1 [.lc (.ix (.v 2) (.int 2)) (.nm 2) .seq [.v 1] []]) (.g "MAX_LEVEL")]) [
    .raise "TooLarge"] []]
def f_check_size : Fd := ⟨dfn "check_size" 14, ["piece", "found", "node"], ["piece"], .fr, b_check_size, none⟩
def b_wrapped : List Mp.S := [
  .for_ (.nm 4) .rng [.bin .sub (.bi .len [.v 0]) (.int 1), .neg (.int 1), .neg (.int 1)] none [
    .set 3 (.tup [.str "new", .ix (.ix (.v 0) (.v 4)) (.int 0), .tup [.str "num", .ix (.v 1) (.v 4)], .v 3])],
  .ret (.v 3)]
def f_wrapped : Fd := ⟨dfn "wrapped" 16, ["variables", "values", "kind", "term", "at"], ["variables", "values", "kind", "term"], .fr, b_wrapped, none⟩
def b_first_state : List Mp.S := [
  .ret (.bi .tuple [.lc (.ix (.v 1) (.int 1)) (.nm 1) .seq [.ix (.v 0) (.int 0)] []])]
def f_first_state : Fd := ⟨dfn "first_state" 17, ["module", "row"], ["module"], .fr, b_first_state, none⟩
def b_check_client : List Mp.S := [
  .set 2 (.dc (.v 3) (.v 7) (.tp [3, 7, 4]) .seq [.ix (.v 0) (.int 1)]),
  .for_ (.tp [3, 4, 4]) .seq [.ix (.v 1) (.int 0)] none [
    .ifs (.cmp .nin (.v 3) (.v 2)) [
      .raise "BadName"] []],
  .ifs (.cmp .ne (.ix (.v 1) (.int 1)) (.str "com")) [
    .raise "BadKind"] [],
  .for_ (.tp [3, 5, 6]) .seq [.ix (.v 1) (.int 0)] none [
    .ifs (.or [.cmp .ne (.v 5) (.tup []), .cmp .ne (.v 6) (.ix (.v 2) (.v 3))]) [
      .raise "BadKind"] []]]
def f_check_client : Fd := ⟨dfn "check_client" 19, ["module", "client", "kinds", "name", "_", "types", "result", "kind"], ["module", "client"], .fr, b_check_client, none⟩
def b_link : List Mp.S := [
  .ex (.call "check_client" [.v 0, .v 1]),
  .set 2 (.ix (.v 1) (.int 2)),
  .for_ (.tp [3, 4, 5]) .rev [.ix (.v 0) (.int 1)] none [
    .set 2 (.tup [.str "proc", .v 3, .tup [], .v 4, .v 5, .v 2])],
  .set 6 (.tup [.tup [], .str "com", .call "wrapped" [.ix (.v 0) (.int 0), .call "first_state" [.v 0], .str "com", .v 2]]),
  .ex (.call "check_size" [.v 6]),
  .ret (.v 6)]
def f_link : Fd := ⟨dfn "link" 20, ["module", "client", "term", "name", "kind", "body", "piece"], ["module", "client"], .fr, b_link, none⟩
def b__law_stream : List Mp.S := [
  .set 1 (.lst []),
  .for_ (.nm 2) .seq [.sl (.v 0) [] [.int 63]] none [
    .set 3 (.bi .int [.v 2]),
    .ifs (.cmp .ge (.v 3) (.bin .pow (.int 10) (.int 18))) [
      .for_ (.nm 4) .rng [.int 60] none [
        .ex (.mu .append 1 [] [.bin .mod (.bi .int [.v 3]) (.int 1009)]),
        .set 3 (.bin .fdiv (.v 3) (.int 1009)),
        .ifs (.cmp .eq (.v 3) (.int 0)) [
          .brk] []]] [
      .set 5 (.bin .mod (.bi .int [.v 3]) (.int 2147483647)),
      .for_ (.nm 4) .rng [.int 10] none [
        .set 5 (.bin .mod (.bi .int [.bin .add (.bin .add (.bin .mul (.v 5) (.int 48271)) (.bin .mul (.int 7) (.v 4))) (.int 11)]) (.int 2147483647)),
        .ex (.mu .append 1 [] [.bin .mod (.bin .mod (.bi .int [.bin .add (.bin .mul (.v 5) (.int 69621)) (.v 4)]) (.int 2147483629)) (.int 1009)])]]],
  .ifs (.cmp .eq (.bi .len [.v 1]) (.int 0)) [
    .ex (.mu .append 1 [] [.int 0])] [],
  .ret (.v 1)]
def f__law_stream : Fd := ⟨dfn "_law_stream" 22, ["_law_script", "_law_numbers", "_law_cell", "_law_rest", "_law_k", "_law_mixed"], ["_law_script"], .fr, b__law_stream, none⟩
def b__law_pick : List Mp.S := [
  .ret (.bin .mod (.bi .int [.ix (.v 0) (.bin .mod (.v 1) (.bi .len [.v 0]))]) (.v 2))]
def f__law_pick : Fd := ⟨dfn "_law_pick" 23, ["_law_numbers", "_law_at", "_law_many"], ["_law_numbers", "_law_at", "_law_many"], .fr, b__law_pick, none⟩
def b__law_next : List Mp.S := [
  .put 0 [.int 1] (.bin .add (.ix (.v 0) (.int 1)) (.int 1)),
  .ret (.bin .mod (.bi .int [.ix (.ix (.v 0) (.int 0)) (.bin .mod (.ix (.v 0) (.int 1)) (.bi .len [.ix (.v 0) (.int 0)]))]) (.v 1))]
def f__law_next : Fd := ⟨dfn "_law_next" 24, ["_law_state", "_law_many"], ["_law_state", "_law_many"], .fr, b__law_next, some (0, .ow .fr)⟩
def b__law_exp : List Mp.S := [
  .set 3 (.call "_law_next" [.ln 0, .ix (.lst [.int 3, .int 9]) (.bi .int [.cmp .gt (.v 2) (.int 0)])]),
  .ifs (.or [.cmp .eq (.v 3) (.int 0), .and [.cmp .eq (.bi .len [.v 1]) (.int 0), .cmp .lt (.v 3) (.int 3)]]) [
    .ret (.tup [.str "num", .call "_law_next" [.ln 0, .int 3]])] [],
  .ifs (.cmp .lt (.v 3) (.int 3)) [
    .ret (.tup [.str "read", .ix (.v 1) (.call "_law_next" [.ln 0, .bi .len [.v 1]])])] [],
  .ifs (.and [.cmp .eq (.v 3) (.int 3), .cmp .eq (.call "_law_next" [.ln 0, .int 4]) (.int 0)]) [
    .ret (.ix (.lst [.tup [.str "stop"], .tup [.str "fault"]]) (.call "_law_next" [.ln 0, .int 2]))] [],
  .set 4 (.call "_law_exp" [.ln 0, .v 1, .bin .sub (.v 2) (.int 1)]),
  .ifs (.cmp .eq (.v 3) (.int 4)) [
    .set 5 (.call "_law_exp" [.ln 0, .v 1, .bin .sub (.v 2) (.int 1)]),
    .ret (.tup [.str "if", .v 4, .v 5, .call "_law_exp" [.ln 0, .v 1, .bin .sub (.v 2) (.int 1)]])] [],
  .ifs (.cmp .eq (.v 3) (.int 5)) [
    .ret (.tup [.str "do", .call "_law_com" [.ln 0, .v 1, .bin .sub (.v 2) (.int 1)], .v 4])] [],
  .ifs (.cmp .eq (.v 3) (.int 6)) [
    .ret (.tup [.str "new", .str "loc", .v 4, .call "_law_exp" [.ln 0, .bin .add (.v 1) (.lst [.str "loc"]), .bin .sub (.v 2) (.int 1)]])] [],
  .set 6 (.ix (.lst [.str "add", .str "sub", .str "mul", .str "equal", .str "less"]) (.call "_law_next" [.ln 0, .int 5])),
  .ret (.tup [.v 6, .v 4, .call "_law_exp" [.ln 0, .v 1, .bin .sub (.v 2) (.int 1)]])]
def f__law_exp : Fd := ⟨dfn "_law_exp" 25, ["_law_state", "_law_names", "_law_depth", "_law_way", "_law_first", "_law_second", "_law_tag"], ["_law_state", "_law_names", "_law_depth"], .fr, b__law_exp, some (0, .ow .fr)⟩
def b__law_com : List Mp.S := [
  .set 3 (.call "_law_next" [.ln 0, .ix (.lst [.int 2, .int 9]) (.bi .int [.cmp .gt (.v 2) (.int 0)])]),
  .ifs (.or [.cmp .eq (.v 3) (.int 0), .and [.cmp .eq (.bi .len [.v 1]) (.int 0), .cmp .lt (.v 3) (.int 3)]]) [
    .ret (.ix (.lst [.tup [.str "skip"], .tup [.str "skip"], .tup [.str "skip"], .tup [.str "fault"], .tup [.str "stop"]]) (.bin .mul (.call "_law_next" [.ln 0, .int 5]) (.bi .int [.cmp .gt (.v 2) (.int 0)])))] [],
  .ifs (.or [.cmp .lt (.v 3) (.int 3), .cmp .le (.v 2) (.int 0)]) [
    .ret (.tup [.str "set", .ix (.v 1) (.call "_law_next" [.ln 0, .bi .len [.v 1]]), .call "_law_exp" [.ln 0, .v 1, .bin .sub (.v 2) (.int 1)]])] [],
  .ifs (.cmp .lt (.v 3) (.int 5)) [
    .set 4 (.call "_law_com" [.ln 0, .v 1, .bin .sub (.v 2) (.int 1)]),
    .set 5 (.call "_law_com" [.ln 0, .v 1, .bin .sub (.v 2) (.int 1)]),
    .ifs (.cmp .eq (.ix (.v 5) (.int 0)) (.str "seq")) [
      .ret (.tup [.str "seq", .tup [.str "block", .str "lab", .v 4], .tup [.str "block", .str "lab", .v 5]])] [],
    .ret (.tup [.str "seq", .v 4, .v 5])] [],
  .set 6 (.call "_law_exp" [.ln 0, .v 1, .bin .sub (.v 2) (.int 1)]),
  .ifs (.cmp .eq (.v 3) (.int 5)) [
    .ret (.tup [.str "while", .v 6, .call "_law_com" [.ln 0, .v 1, .bin .sub (.v 2) (.int 1)]])] [],
  .ifs (.cmp .eq (.v 3) (.int 6)) [
    .ret (.tup [.str "new", .str "loc", .v 6, .call "_law_com" [.ln 0, .bin .add (.v 1) (.lst [.str "loc"]), .bin .sub (.v 2) (.int 1)]])] [],
  .set 4 (.call "_law_com" [.ln 0, .v 1, .bin .sub (.v 2) (.int 1)]),
  .ret (.tup [.str "if", .v 6, .v 4, .call "_law_com" [.ln 0, .v 1, .bin .sub (.v 2) (.int 1)]])]
def f__law_com : Fd := ⟨dfn "_law_com" 26, ["_law_state", "_law_names", "_law_depth", "_law_way", "_law_first", "_law_second", "_law_value"], ["_law_state", "_law_names", "_law_depth"], .fr, b__law_com, some (0, .ow .fr)⟩
def b__law_module : List Mp.S := [
  .set 2 (.bin .add (.call "_law_next" [.ln 0, .int 3]) (.bi .int [.cmp .eq (.call "_law_next" [.ln 0, .int 4]) (.int 0)])),
  .set 3 (.sl (.ix (.lst [.lst [.str "v", .str "vw", .str "q"], .lst [.str "q", .str "qq", .str "v"], .lst [.str "qq", .str "q", .str "qqq"]]) (.call "_law_next" [.ln 0, .int 3])) [] [.v 2]),
  .set 4 (.bi .tuple [.lct (.tup [.v 9, .call "_law_next" [.ln 0, .int 3]]) (.nm 9) .seq [.v 3]]),
  .set 5 (.lst []),
  .for_ (.nm 6) .rng [.bin .add (.int 1) (.call "_law_next" [.ln 0, .int 2])] none [
    .set 7 (.ix (.lst [.str "com", .str "exp"]) (.call "_law_next" [.ln 0, .int 2])),
    .set 8 (.tup [.str "skip"]),
    .ifs (.cmp .eq (.v 7) (.str "com")) [
      .set 8 (.call "_law_com" [.ln 0, .v 3, .v 1])] [
      .set 8 (.call "_law_exp" [.ln 0, .v 3, .v 1])],
    .ex (.mu .append 5 [] [.tup [.ix (.lst [.str "go", .str "get"]) (.v 6), .v 7, .v 8]])],
  .ret (.tup [.v 4, .bi .tuple [.v 5]])]
def f__law_module : Fd := ⟨dfn "_law_module" 27, ["_law_state", "_law_depth", "_law_count", "_law_names", "_law_variables", "_law_operations", "_law_k", "_law_kind", "_law_term", "_law_name"], ["_law_state", "_law_depth"], .fr, b__law_module, some (0, .ow .fr)⟩
def b__law_linked : List Mp.S := [
  .set 2 (.ix (.v 1) (.int 2)),
  .for_ (.nm 3) .rng [.bi .len [.ix (.v 0) (.int 1)]] none [
    .set 4 (.ix (.ix (.v 0) (.int 1)) (.bin .sub (.bin .sub (.bi .len [.ix (.v 0) (.int 1)]) (.int 1)) (.v 3))),
    .set 2 (.tup [.str "proc", .ix (.v 4) (.int 0), .tup [], .ix (.v 4) (.int 1), .ix (.v 4) (.int 2), .v 2])],
  .for_ (.nm 3) .rng [.bi .len [.ix (.v 0) (.int 0)]] none [
    .set 4 (.ix (.ix (.v 0) (.int 0)) (.bin .sub (.bin .sub (.bi .len [.ix (.v 0) (.int 0)]) (.int 1)) (.v 3))),
    .set 2 (.tup [.str "new", .ix (.v 4) (.int 0), .tup [.str "num", .ix (.v 4) (.int 1)], .v 2])],
  .ret (.tup [.tup [], .str "com", .v 2])]
def f__law_linked : Fd := ⟨dfn "_law_linked" 28, ["_law_module_here", "_law_client", "_law_term", "_law_k", "_law_row"], ["_law_module_here", "_law_client"], .fr, b__law_linked, none⟩
def b__law_told : List Mp.S := [
  .try_ (Mp.allFr 4) [
    .set 2 (.call "link" [.v 0, .v 1])] (.hd ["BadName"] (some 3) [
    .ret (.ix (.lst [.str "name", .str "odd"]) (.bi .int [.or [.not (.isi (.v 3) [.exc "DoppelError"]), .isi (.v 3) [.exc "BadKind", .exc "NotAllowed"]]]))] (.hd ["BadKind"] (some 3) [
    .ret (.ix (.lst [.str "bad kind", .str "odd"]) (.bi .int [.or [.not (.isi (.v 3) [.exc "DoppelError"]), .isi (.v 3) [.exc "BadName", .exc "TooLarge"]]]))] (.hd ["TooLarge"] none [
    .ret (.str "large")] .hn))),
  .ret (.ix (.lst [.str "other", .str "right"]) (.bi .int [.cmp .eq (.v 2) (.call "_law_linked" [.v 0, .v 1])]))]
def f__law_told : Fd := ⟨dfn "_law_told" 29, ["_law_module_here", "_law_client", "_law_told_here", "e"], ["_law_module_here", "_law_client"], .fr, b__law_told, none⟩
def b__law_long : List Mp.S := [
  .set 1 (.tup [.str "skip"]),
  .for_ (.nm 2) .rng [.v 0] none [
    .set 1 (.tup [.str "seq", .v 1, .tup [.str "skip"]])],
  .ret (.tup [.tup [], .str "com", .v 1])]
def f__law_long : Fd := ⟨dfn "_law_long" 30, ["_law_many", "_law_term", "_law_k"], ["_law_many"], .fr, b__law_long, none⟩
def b__law_deep : List Mp.S := [
  .set 1 (.tup [.str "skip"]),
  .for_ (.nm 2) .rng [.bin .sub (.v 0) (.int 1)] none [
    .set 1 (.tup [.str "block", .str "lab", .v 1])],
  .ret (.tup [.tup [], .str "com", .v 1])]
def f__law_deep : Fd := ⟨dfn "_law_deep" 31, ["_law_levels", "_law_term", "_law_k"], ["_law_levels"], .fr, b__law_deep, none⟩
def b_law : List Mp.S := [
  .set 1 (.lst [.call "_law_stream" [.v 0], .int 0]),
  .set 2 (.call "_law_module" [.ln 1, .bin .add (.int 1) (.call "_law_next" [.ln 1, .int 2])]),
  .tgt [3, 4, 5] (.ix (.ix (.v 2) (.int 1)) (.call "_law_next" [.ln 1, .bi .len [.ix (.v 2) (.int 1)]])),
  .set 6 (.ix (.lst [.str "com", .str "exp"]) (.bi .int [.cmp .eq (.v 4) (.str "com")])),
  .set 7 (.ix (.lst [.tup [.str "call", .v 3, .tup []], .tup [.str "while", .tup [.str "call", .v 3, .tup []], .tup [.str "skip"]]]) (.bi .int [.cmp .eq (.v 4) (.str "exp")])),
  .set 8 (.tup [.tup [.tup [.v 3, .tup [], .v 4]], .str "com", .tup [.str "new", .str "v", .tup [.str "num", .int 1], .tup [.str "seq", .v 7, .tup [.str "set", .str "v", .tup [.str "num", .int 2]]]]]),
  .for_ (.nm 9) .seq [.lst [.v 8, .tup [.tup [], .str "com", .tup [.str "stop"]], .tup [.tup [.tup [.v 3, .tup [], .v 4]], .str "com", .tup [.str "skip"]], .call "_law_long" [.call "_law_next" [.ln 1, .int 40]]]] none [
    .ifs (.cmp .ne (.call "_law_told" [.v 2, .v 9]) (.str "right")) [
      .ret (.bl false)] []],
  .ifs (.cmp .ne (.call "_law_told" [.v 2, .tup [.tup [.tup [.v 3, .tup [], .v 4], .tup [.str "none", .tup [], .str "com"]], .str "com", .tup [.str "skip"]]]) (.str "name")) [
    .ret (.bl false)] [],
  .ifs (.cmp .ne (.call "_law_told" [.v 2, .tup [.tup [.tup [.v 3, .tup [], .v 6], .tup [.str "zz", .tup [], .str "com"]], .str "exp", .tup [.str "num", .int 1]]]) (.str "name")) [
    .ret (.bl false)] [],
  .for_ (.nm 10) .seq [.lst [.tup [.tup [.tup [.v 3, .tup [], .v 6]], .str "com", .tup [.str "skip"]], .tup [.tup [.tup [.v 3, .tup [.str "com"], .v 4]], .str "com", .tup [.str "skip"]], .tup [.tup [], .str "exp", .tup [.str "num", .int 0]]]] none [
    .ifs (.cmp .ne (.call "_law_told" [.v 2, .v 10]) (.str "bad kind")) [
      .ret (.bl false)] []],
  .set 11 (.bin .add (.bi .len [.ix (.v 2) (.int 0)]) (.bi .len [.ix (.v 2) (.int 1)])),
  .ifs (.or [.cmp .ne (.call "_law_told" [.v 2, .call "_law_long" [.int 199]]) (.str "large"), .cmp .ne (.call "_law_told" [.v 2, .call "_law_deep" [.bin .sub (.int 31) (.v 11)]]) (.str "large")]) [
    .ret (.bl false)] [],
  .ret (.cmp .eq (.call "_law_told" [.v 2, .call "_law_deep" [.bin .sub (.int 30) (.v 11)]]) (.str "right"))]
def f_law : Fd := ⟨dfn "law" 32, ["_law_script", "_law_state", "_law_module_here", "_law_name", "_law_kind", "_law_term", "_law_other", "_law_use", "_law_client", "_law_good", "_law_bad", "_law_around"], ["_law_script"], .fr, b_law, none⟩
def P : Pg := ⟨[f_part_kind, f_kids, f_nodes, f_check_size, f_wrapped, f_first_state, f_check_client, f_link, f__law_stream, f__law_pick, f__law_next, f__law_exp, f__law_com, f__law_module, f__law_linked, f__law_told, f__law_long, f__law_deep, f_law], [("MAX_NODES", .int 400), ("MAX_LEVEL", .int 30), ("FORMS", .dct false [.str "skip", .str "set", .str "while", .str "block", .str "num", .str "read", .str "add", .str "sub", .str "mul", .str "equal", .str "less", .str "do", .str "stop", .str "fault", .str "exit", .str "if", .str "new", .str "call", .str "proc"] [.tup [.str "com", .str ""], .tup [.str "com", .str "ne"], .tup [.str "com", .str "ec"], .tup [.str "com", .str "nc"], .tup [.str "exp", .str "v"], .tup [.str "exp", .str "n"], .tup [.str "exp", .str "ee"], .tup [.str "exp", .str "ee"], .tup [.str "exp", .str "ee"], .tup [.str "exp", .str "ee"], .tup [.str "exp", .str "ee"], .tup [.str "exp", .str "ce"], .tup [.str "", .str ""], .tup [.str "", .str ""], .tup [.str "", .str "n"], .tup [.str "", .str "ett"], .tup [.str "", .str "net"], .tup [.str "", .str "na"], .tup [.str "", .str "nprbt"]])], ["DoppelError", "NotAllowed", "BadName", "BadKind", "TooLarge"], [("DoppelError", "DoppelError"), ("DoppelError", "ValueError"), ("NotAllowed", "NotAllowed"), ("NotAllowed", "DoppelError"), ("NotAllowed", "ValueError"), ("BadName", "BadName"), ("BadName", "DoppelError"), ("BadName", "ValueError"), ("BadKind", "BadKind"), ("BadKind", "DoppelError"), ("BadKind", "ValueError"), ("TooLarge", "TooLarge"), ("TooLarge", "DoppelError"), ("TooLarge", "ValueError")]⟩
theorem bd_part_kind : BindOk f_part_kind := fun _ _ _ _ _ _ us hl => match us, hl with | [_, _, _], _ => rfl
theorem bd_kids : BindOk f_kids := fun _ _ _ _ _ _ us hl => match us, hl with | [_, _], _ => rfl
theorem bd_nodes : BindOk f_nodes := fun _ _ _ _ _ _ us hl => match us, hl with | [_, _], _ => rfl
theorem bd_check_size : BindOk f_check_size := fun _ _ _ _ _ _ us hl => match us, hl with | [_], _ => rfl
theorem bd_wrapped : BindOk f_wrapped := fun _ _ _ _ _ _ us hl => match us, hl with | [_, _, _, _], _ => rfl
theorem bd_first_state : BindOk f_first_state := fun _ _ _ _ _ _ us hl => match us, hl with | [_], _ => rfl
theorem bd_check_client : BindOk f_check_client := fun _ _ _ _ _ _ us hl => match us, hl with | [_, _], _ => rfl
theorem bd_link : BindOk f_link := fun _ _ _ _ _ _ us hl => match us, hl with | [_, _], _ => rfl
theorem bd__law_stream : BindOk f__law_stream := fun _ _ _ _ _ _ us hl => match us, hl with | [_], _ => rfl
theorem bd__law_pick : BindOk f__law_pick := fun _ _ _ _ _ _ us hl => match us, hl with | [_, _, _], _ => rfl
theorem bd__law_next : BindOk f__law_next := fun _ _ _ _ _ _ us hl => match us, hl with | [_, _], _ => rfl
theorem bd__law_exp : BindOk f__law_exp := fun _ _ _ _ _ _ us hl => match us, hl with | [_, _, _], _ => rfl
theorem bd__law_com : BindOk f__law_com := fun _ _ _ _ _ _ us hl => match us, hl with | [_, _, _], _ => rfl
theorem bd__law_module : BindOk f__law_module := fun _ _ _ _ _ _ us hl => match us, hl with | [_, _], _ => rfl
theorem bd__law_linked : BindOk f__law_linked := fun _ _ _ _ _ _ us hl => match us, hl with | [_, _], _ => rfl
theorem bd__law_told : BindOk f__law_told := fun _ _ _ _ _ _ us hl => match us, hl with | [_, _], _ => rfl
theorem bd__law_long : BindOk f__law_long := fun _ _ _ _ _ _ us hl => match us, hl with | [_], _ => rfl
theorem bd__law_deep : BindOk f__law_deep := fun _ _ _ _ _ _ us hl => match us, hl with | [_], _ => rfl
theorem bd_law : BindOk f_law := fun _ _ _ _ _ _ us hl => match us, hl with | [_], _ => rfl
theorem bds : ∀ F ∈ P.fs, BindOk F := by
  intro F hF
  simp only [P, List.mem_cons, List.not_mem_nil, or_false] at hF
  rcases hF with rfl | rfl | rfl | rfl | rfl | rfl | rfl | rfl | rfl | rfl | rfl | rfl | rfl | rfl | rfl | rfl | rfl | rfl | rfl
  · exact bd_part_kind
  · exact bd_kids
  · exact bd_nodes
  · exact bd_check_size
  · exact bd_wrapped
  · exact bd_first_state
  · exact bd_check_client
  · exact bd_link
  · exact bd__law_stream
  · exact bd__law_pick
  · exact bd__law_next
  · exact bd__law_exp
  · exact bd__law_com
  · exact bd__law_module
  · exact bd__law_linked
  · exact bd__law_told
  · exact bd__law_long
  · exact bd__law_deep
  · exact bd_law
end Lw
namespace Lw
open PySem Mp TL
/-- a loop that may be left -/
theorem for_invB {t : T} {body : M Fl} (I : Nat → Mp.Env → Prop) : ∀ (ds : List D) (k : Nat) (e : Mp.Env), I k e → (∀ j d e, ds[j]? = some d → I (k + j) e → ∃ e1, asg t d e = some e1 ∧ ∃ e2, (body e1 = .ok .nx e2 ∨ body e1 = .ok .ct e2 ∨ body e1 = .ok .bk e2) ∧ I (k + j + 1) e2) →
    ∃ e' n, forL (fun _ => true) t body ds e = .ok .nx e' ∧ n ≤ k + ds.length ∧ I n e'
  | [], k, e, h, _ => ⟨e, k, by simp [forL], by simp, h⟩
  | d :: ds, k, e, h, st => by
    obtain ⟨e1, a1, e2, b1, h2⟩ := st 0 d e rfl h
    rcases b1 with b | b | b
    · obtain ⟨e', n, f1, f2, f3⟩ := for_invB I ds (k + 1) e2 h2 fun j d' e0 hj hi => by
        have := st (j + 1) d' e0 (by simpa using hj) (by rw [show k + (j + 1) = k + 1 + j by omega]; exact hi)
        rw [show k + (j + 1) + 1 = k + 1 + j + 1 by omega] at this
        exact this
      exact ⟨e', n, by simp only [forL, if_true, a1, b]; exact f1, by rw [List.length_cons]; omega, f3⟩
    · obtain ⟨e', n, f1, f2, f3⟩ := for_invB I ds (k + 1) e2 h2 fun j d' e0 hj hi => by
        have := st (j + 1) d' e0 (by simpa using hj) (by rw [show k + (j + 1) = k + 1 + j by omega]; exact hi)
        rw [show k + (j + 1) + 1 = k + 1 + j + 1 by omega] at this
        exact this
      exact ⟨e', n, by simp only [forL, if_true, a1, b]; exact f1, by rw [List.length_cons]; omega, f3⟩
    · exact ⟨e2, k + 0 + 1, by simp only [forL, if_true, a1, b], by rw [List.length_cons]; omega, h2⟩
def sA : List Mp.S := [
        .ex (.mu .append 1 [] [.bin .mod (.bi .int [.v 3]) (.int 1009)]),
        .set 3 (.bin .fdiv (.v 3) (.int 1009)),
        .ifs (.cmp .eq (.v 3) (.int 0)) [
          .brk] []]
def sB : List Mp.S := [
        .set 5 (.bin .mod (.bi .int [.bin .add (.bin .add (.bin .mul (.v 5) (.int 48271)) (.bin .mul (.int 7) (.v 4))) (.int 11)]) (.int 2147483647)),
        .ex (.mu .append 1 [] [.bin .mod (.bin .mod (.bi .int [.bin .add (.bin .mul (.v 5) (.int 69621)) (.v 4)]) (.int 2147483629)) (.int 1009)])]
def sC : List Mp.S := [
    .set 3 (.bi .int [.v 2]),
    .ifs (.cmp .ge (.v 3) (.bin .pow (.int 10) (.int 18))) [
      .for_ (.nm 4) .rng [.int 60] none sA] [
      .set 5 (.bin .mod (.bi .int [.v 3]) (.int 2147483647)),
      .for_ (.nm 4) .rng [.int 10] none sB]]
theorem sA_ok {C : Cs} {o0 o2 o4 o5 : Option D} {xs : List Int} {c : Int} (hx : xs.length ≤ 4000) : ∃ e2, (dB C sA [o0, some (lI xs), o2, some (.int c), o4, o5] = .ok .nx e2 ∨ dB C sA [o0, some (lI xs), o2, some (.int c), o4, o5] = .ok .ct e2 ∨ dB C sA [o0, some (lI xs), o2, some (.int c), o4, o5] = .ok .bk e2) ∧ ∃ (v c' : Int), e2 = [o0, some (lI (xs ++ [v])), o2, some (.int c'), o4, o5] := by
  have d1 : ∀ a : Int, binD .mod (.int a) (.int 1009) = some (.int (a % 1009)) := fun a => modI (by omega)
  have f1 : ∀ a : Int, binD .fdiv (.int a) (.int 1009) = some (.int (a / 1009)) := fun a => divI (by omega) (by omega)
  have hl : (xs.map D.int).length < SZ := by rw [List.length_map, SZ_big]; omega
  let E1 : Mp.Env := [o0, some (lI (xs ++ [c % 1009])), o2, some (.int c), o4, o5]
  let E2 : Mp.Env := [o0, some (lI (xs ++ [c % 1009])), o2, some (.int (c / 1009)), o4, o5]
  have s1 : dS C (.ex (.mu .append 1 [] [.bin .mod (.bi .int [.v 3]) (.int 1009)])) [o0, some (lI xs), o2, some (.int c), o4, o5] = .ok .nx E1 := by
    have := dS_app (C := C) (i := 1) (e := [o0, some (lI xs), o2, some (.int c), o4, o5]) (e1 := [o0, some (lI xs), o2, some (.int c), o4, o5]) (x := .bin .mod (.bi .int [.v 3]) (.int 1009)) (y := .int (c % 1009)) (xs := xs.map .int) rfl (ev_bin (ev_bi1 (x := .int c) (ev_v rfl) intI) ev_int (d1 c)) rfl hl
    rw [this]
    simp [E1, setS, lI]
  have s2 : dS C (.set 3 (.bin .fdiv (.v 3) (.int 1009))) E1 = .ok .nx E2 := dS_set (e1 := E1) (ev_bin (x := .int c) (ev_v rfl) ev_int (f1 c))
  have t := (ev_cmp (C := C) (o := .eq) (a := .v 3) (b := .int 0) (x := .int (c / 1009)) (y := .int 0) (k := decide (c / 1009 = 0)) (e := E2) (e1 := E2) (e2 := E2) (ev_v rfl) ev_int (by simp only [cmpD, eqI])).2
  refine ⟨E2, ?_, _, _, rfl⟩
  cases hb : decide (c / 1009 = 0) with
  | true =>
    rw [hb] at t
    refine .inr (.inr (dB_cons s1 (dB_cons s2 ?_)))
    simp only [dB, seqM, M.bind, if_t (b := []) t (show dB C [.brk] E2 = .ok .bk E2 by simp only [dB, dS, seqM, M.bind, M.ret]), M.ret]
  | false =>
    rw [hb] at t
    exact .inl (dB_cons s1 (dB_cons s2 (dB_cons (if_f t dB_nil) dB_nil)))
theorem sB_ok {C : Cs} {o0 o2 o3 : Option D} {xs : List Int} {c : Int} {j : Nat} (hx : xs.length ≤ 4000) : ∃ (v c' : Int), dB C sB [o0, some (lI xs), o2, o3, some (.int (0 + (j : Int))), some (.int c)] = .ok .nx [o0, some (lI (xs ++ [v])), o2, o3, some (.int (0 + (j : Int))), some (.int c')] := by
  have d1 : ∀ a : Int, binD .mod (.int a) (.int 1009) = some (.int (a % 1009)) := fun a => modI (by omega)
  have d2 : ∀ a : Int, binD .mod (.int a) (.int 2147483647) = some (.int (a % 2147483647)) := fun a => modI (by omega)
  have d3 : ∀ a : Int, binD .mod (.int a) (.int 2147483629) = some (.int (a % 2147483629)) := fun a => modI (by omega)
  have w1 : ∀ a : Int, binD .mul (.int a) (.int 48271) = some (.int (a * 48271)) := fun a => mulc (by decide +kernel)
  have w2 : ∀ a : Int, binD .mul (.int a) (.int 69621) = some (.int (a * 69621)) := fun a => mulc (by decide +kernel)
  have w3 : ∀ a : Int, binD .mul (.int 7) (.int a) = some (.int (7 * a)) := fun a => mulc' (by decide +kernel)
  have hl : (xs.map D.int).length < SZ := by rw [List.length_map, SZ_big]; omega
  refine ⟨(((c * 48271 + 7 * (0 + (j : Int)) + 11) % 2147483647) * 69621 + (0 + (j : Int))) % 2147483629 % 1009, (c * 48271 + 7 * (0 + (j : Int)) + 11) % 2147483647, ?_⟩
  simp only [sB, setSs, setS0, d1, d2, d3, w1, w2, w3, muA hl, dB, dS, seqM, M.bind, M.ret, M.opt, den, dens, val, evs, op1, op2, varM, truthM, andT, orT, andV, orV, notT, negI, getS0, getSs, setS0, setSs, cmpD, ltI, truB, truI, addI, subI, lenL, lenT, lenR, intI, intB, lstL, lstT, tupL, tupT, ixT, ixL, ixR, at0, at1, at2, partM, slD, asg, muM, getPM, setPM, muOk, getP, setP, chM, eqI, eqB, Option.map_some, Option.bind_some, if_true, Bool.false_eq_true, if_false, putM, augD, Bool.true_eq_false, List.map_append, List.map_cons, List.map_nil, lI]
theorem sC_ok {C : Cs} {o0 o3 o4 o5 : Option D} {xs : List Int} {c : Int} (hx : xs.length ≤ 3900) : ∃ (ys : List Int) (p3 p4 p5 : Option D), ys.length ≤ xs.length + 60 ∧ dB C sC [o0, some (lI xs), some (.int c), o3, o4, o5] = .ok .nx [o0, some (lI ys), some (.int c), p3, p4, p5] := by
  let E1 : Mp.Env := [o0, some (lI xs), some (.int c), some (.int c), o4, o5]
  have s1 : dS C (.set 3 (.bi .int [.v 2])) [o0, some (lI xs), some (.int c), o3, o4, o5] = .ok .nx E1 := dS_set (e1 := [o0, some (lI xs), some (.int c), o3, o4, o5]) (ev_bi1 (x := .int c) (ev_v rfl) intI)
  have t : (den C (.cmp .ge (.v 3) (.bin .pow (.int 10) (.int 18)))).2 E1 = .ok (!decide (c < 1000000000000000000)) E1 := by
    have hb : binD .pow (.int 10) (.int 18) = some (.int 1000000000000000000) := rfl
    simp only [E1, hb, dB, dS, seqM, M.bind, M.ret, M.opt, den, dens, val, evs, op1, op2, varM, truthM, andT, orT, andV, orV, notT, negI, getS0, getSs, setS0, setSs, cmpD, ltI, truB, truI, addI, subI, lenL, lenT, lenR, intI, intB, lstL, lstT, tupL, tupT, ixT, ixL, ixR, at0, at1, at2, partM, slD, asg, muM, getPM, setPM, muOk, muF, getP, setP, chM, eqI, eqB, Option.map_some, Option.bind_some, if_true, Bool.false_eq_true, if_false, putM, augD]
  by_cases h : c < 1000000000000000000
  · rw [decide_eq_true h] at t
    have d2 : ∀ a : Int, binD .mod (.int a) (.int 2147483647) = some (.int (a % 2147483647)) := fun a => modI (by omega)
    have s2 : dS C (.set 5 (.bin .mod (.bi .int [.v 3]) (.int 2147483647))) E1 = .ok .nx [o0, some (lI xs), some (.int c), some (.int c), o4, some (.int (c % 2147483647))] := dS_set (e1 := E1) (ev_bin (ev_bi1 (x := .int c) (ev_v rfl) intI) ev_int (d2 c))
    obtain ⟨e', g1, ys, v5, p4, rfl, g2⟩ := for_inv (t := .nm 4) (body := dB C sB) (fun j e => ∃ (ys : List Int) (v5 : Int) (o4 : Option D), e = [o0, some (lI ys), some (.int c), some (.int c), o4, some (.int v5)] ∧ ys.length ≤ xs.length + j) (rngD 0 10) 0 [o0, some (lI xs), some (.int c), some (.int c), o4, some (.int (c % 2147483647))] ⟨xs, _, o4, rfl, Nat.le_refl _⟩ fun j d e hj ⟨ys, v5, o4, he, hy⟩ => by
      subst he
      obtain ⟨hj1, rfl⟩ := rngD_get hj
      obtain ⟨v, c', hb⟩ := sB_ok (C := C) (o0 := o0) (o2 := some (.int c)) (o3 := some (.int c)) (xs := ys) (c := v5) (j := j) (by omega)
      exact ⟨_, rfl, _, .inl hb, ys ++ [v], c', _, rfl, by simp; omega⟩
    rw [rngD_len, Nat.zero_add] at g2
    have s3 : dS C (.for_ (.nm 4) .rng [.int 10] none sB) [o0, some (lI xs), some (.int c), some (.int c), o4, some (.int (c % 2147483647))] = .ok .nx [o0, some (lI ys), some (.int c), some (.int c), p4, some (.int v5)] :=
      (dS_for (as := [.int 10]) (ds := rngD 0 10) (e1 := [o0, some (lI xs), some (.int c), some (.int c), o4, some (.int (c % 2147483647))]) (evs_cons ev_int evs_nil) (by decide +kernel)).trans g1
    exact ⟨ys, _, _, _, by omega, dB_cons s1 (dB_cons (if_f t (dB_cons s2 (dB_cons s3 dB_nil))) dB_nil)⟩
  · rw [decide_eq_false h] at t
    obtain ⟨e', n, g1, gn, ys, v3, p4, rfl, g2⟩ := for_invB (t := .nm 4) (body := dB C sA) (fun j e => ∃ (ys : List Int) (v3 : Int) (o4 : Option D), e = [o0, some (lI ys), some (.int c), some (.int v3), o4, o5] ∧ ys.length ≤ xs.length + j ∧ j ≤ 60) (rngD 0 60) 0 E1 ⟨xs, _, o4, rfl, Nat.le_refl _, Nat.zero_le _⟩ fun j d e hj ⟨ys, v3, o4, he, hy, hj6⟩ => by
      subst he
      obtain ⟨hj1, rfl⟩ := rngD_get hj
      obtain ⟨e2, hb, v, c', rfl⟩ := sA_ok (C := C) (o0 := o0) (o2 := some (.int c)) (o4 := some (.int (0 + (j : Int)))) (o5 := o5) (xs := ys) (c := v3) (by omega)
      exact ⟨_, rfl, _, hb, ys ++ [v], c', _, rfl, by simp; omega, by omega⟩
    have s3 : dS C (.for_ (.nm 4) .rng [.int 60] none sA) E1 = .ok .nx [o0, some (lI ys), some (.int c), some (.int v3), p4, o5] :=
      (dS_for (as := [.int 60]) (ds := rngD 0 60) (e1 := E1) (evs_cons ev_int evs_nil) (by decide +kernel)).trans g1
    exact ⟨ys, _, _, _, by omega, dB_cons s1 (dB_cons (if_t t (dB_cons s3 dB_nil)) dB_nil)⟩
theorem find_stream : P.find f__law_stream.d.name = some f__law_stream := by kernel_rfl
theorem cut_len {α : Type} {xs : List α} {lo hi : Option Int} : (cutD xs lo hi).length ≤ xs.length := by
  unfold cutD
  rw [List.length_take, List.length_drop]; omega
theorem cut_mem {α : Type} {xs : List α} {lo hi : Option Int} {x : α} (h : x ∈ cutD xs lo hi) : x ∈ xs := by
  unfold cutD at h
  exact List.mem_of_mem_drop (List.mem_of_mem_take h)
theorem stream_ok {n : Nat} {ns : List Int} (hn : ns.length ≤ 63) : ∃ (xs : List Int) (ls : List D), xs ≠ [] ∧ xs.length ≤ 4000 ∧ P.call (n + 1) "_law_stream" [.rol (ns.map .int)] = .ok (lI xs) ls := by
  let C := P.cs_ n
  let sc := some (D.rol (ns.map .int))
  let E0 : Mp.Env := [sc, some (lI []), none, none, none, none]
  have s1 : dS C (.set 1 (.lst [])) [sc, none, none, none, none, none] = .ok .nx E0 := dS_set (e1 := [sc, none, none, none, none, none]) (ev_lst evs_nil)
  let L := cutD (ns.map D.int) none (some 63)
  have hL : L.length ≤ 63 := by have := cut_len (xs := ns.map D.int) (lo := none) (hi := some 63); rw [List.length_map] at this; show (cutD (ns.map D.int) none (some 63)).length ≤ 63; omega
  obtain ⟨e', g1, ys, p2, p3, p4, p5, rfl, g2⟩ := for_inv (t := .nm 2) (body := dB C sC) (fun j e => ∃ (ys : List Int) (o2 o3 o4 o5 : Option D), e = [sc, some (lI ys), o2, o3, o4, o5] ∧ ys.length ≤ 60 * j) L 0 E0 ⟨[], none, none, none, none, rfl, Nat.le_refl _⟩ fun j d e hj ⟨ys, o2, o3, o4, o5, he, hy⟩ => by
    subst he
    have hjl := (List.getElem?_eq_some_iff.mp hj).1
    obtain ⟨c, _, rfl⟩ := List.mem_map.mp (cut_mem (List.mem_of_getElem? hj))
    obtain ⟨zs, q3, q4, q5, hz, hb⟩ := sC_ok (C := C) (o0 := sc) (o3 := o3) (o4 := o4) (o5 := o5) (xs := ys) (c := c) (by omega)
    exact ⟨_, rfl, _, .inl hb, zs, _, _, _, _, rfl, by omega⟩
  rw [Nat.zero_add] at g2
  have s2 : dS C (.for_ (.nm 2) .seq [.sl (.v 0) [] [.int 63]] none sC) E0 = .ok .nx [sc, some (lI ys), p2, p3, p4, p5] := by
    refine (dS_for (as := [.lst L]) (ds := L) (e1 := E0) (evs_cons ?_ evs_nil) rfl).trans g1
    rw [den]
    simp only [val, M.bind, ev_v (C := C) (i := 0) (e := E0) (d := .rol (ns.map .int)) rfl, dens, partM, M.ret, ev_int (C := C) (i := 63) (e := E0), M.opt, slD]
    rfl
  let E1 : Mp.Env := [sc, some (lI ys), p2, p3, p4, p5]
  have t := (ev_cmp (C := C) (o := .eq) (a := .bi .len [.v 1]) (b := .int 0) (x := .int (ys.map D.int).length) (y := .int 0) (k := decide (((ys.map D.int).length : Int) = 0)) (e := E1) (e1 := E1) (e2 := E1) (ev_bi1 (x := lI ys) (ev_v rfl) lenL) ev_int (by simp only [cmpD, eqI])).2
  rw [List.length_map] at t
  by_cases h0 : ys.length = 0
  · rw [decide_eq_true (by omega)] at t
    have hys : ys = [] := List.length_eq_zero_iff.mp h0
    subst hys
    have sa := dS_app (C := C) (i := 1) (e := E1) (e1 := E1) (x := .int 0) (y := .int 0) (xs := []) rfl ev_int rfl (by decide)
    obtain ⟨ls, hc⟩ := call_rt (P := P) (n := n) (F := f__law_stream) (ds := [.rol (ns.map .int)]) (r := lI [0]) find_stream rfl (dB_cons s1 (dB_cons s2 (dB_cons (if_t (b := []) t (dB_cons sa dB_nil)) (dB_ret (dS_ret (ev_v rfl))))))
    exact ⟨[0], ls, by simp, by simp, hc⟩
  · rw [decide_eq_false (by omega)] at t
    obtain ⟨ls, hc⟩ := call_rt (P := P) (n := n) (F := f__law_stream) (ds := [.rol (ns.map .int)]) (r := lI ys) find_stream rfl (dB_cons s1 (dB_cons s2 (dB_cons (if_f (a := [.ex (.mu .append 1 [] [.int 0])]) t dB_nil) (dB_ret (dS_ret (ev_v rfl))))))
    exact ⟨ys, ls, fun h => h0 (by rw [h]; rfl), by omega, hc⟩
/-! ### the next number -/
/-- the state: the numbers, the place -/
def stD (xs : List Int) (p : Nat) : D := .lst [lI xs, .int p]
theorem find_next : P.find f__law_next.d.name = some f__law_next := by kernel_rfl
theorem next_ok {n : Nat} {xs : List Int} {p m : Nat} (hx : xs ≠ []) (hm : 0 < m) : ∃ (v : Nat) (ls : List D), v < m ∧ P.call (n + 1) "_law_next" [stD xs p, .int m] = .ok (.int v) (stD xs (p + 1) :: ls) := by
  let C := P.cs_ n
  let E0 : Mp.Env := [some (stD xs p), some (.int m)]
  let E1 : Mp.Env := [some (stD xs (p + 1)), some (.int m)]
  have hl : 0 < xs.length := List.length_pos_iff.mpr hx
  have s1 : dS C (.put 0 [.int 1] (.bin .add (.ix (.v 0) (.int 1)) (.int 1))) E0 = .ok .nx E1 := by
    refine dS_put1 (e1 := E0) (e2 := E0) (y := .int ((p + 1 : Nat) : Int)) (kk := .int 1) (d := stD xs p) (d' := stD xs (p + 1)) (ev_bin (ev_ix (x := stD xs p) (y := .int 1) (ev_v rfl) ev_int at1) ev_int (by rw [addI]; rfl)) ev_int rfl ?_
    simp only [stD, putI]
    trace_state
    rw [ixN_nat (by omega) (by simp)]
    rfl
  have i0 : (den C (.ix (.v 0) (.int 0))).1 E1 = .ok (lI xs) E1 := ev_ix (x := stD xs (p + 1)) (y := .int 0) (ev_v rfl) ev_int at0
  have i1 : (den C (.ix (.v 0) (.int 1))).1 E1 = .ok (.int ((p + 1 : Nat) : Int)) E1 := ev_ix (x := stD xs (p + 1)) (y := .int 1) (ev_v rfl) ev_int at1
  have il : (den C (.bi .len [.ix (.v 0) (.int 0)])).1 E1 = .ok (.int (xs.length : Int)) E1 := by
    have := ev_bi1 i0 lenL
    rwa [List.length_map] at this
  have im := ev_bin i1 il (modI (a := ((p + 1 : Nat) : Int)) (b := (xs.length : Int)) (by omega))
  obtain ⟨z, z1, z2⟩ := atI_mod (zs := xs.map D.int) (m := xs.length) (by simp) hl ((p + 1 : Nat) : Int)
  obtain ⟨v, _, rfl⟩ := List.mem_map.mp z1
  have ir := ev_bin (ev_bi1 (ev_ix (x := lI xs) i0 im z2) intI) (ev_v (C := C) (i := 1) (e := E1) (d := .int m) rfl) (modI (a := v) (b := (m : Int)) (by omega))
  have p1 := Int.emod_nonneg v (show (m : Int) ≠ 0 by omega)
  have p2 := Int.emod_lt_of_pos v (show (0 : Int) < m by omega)
  obtain ⟨ls, hc, hl0⟩ := call_rtL (P := P) (n := n) (F := f__law_next) (ds := [stD xs p, .int m]) (r := .int (v % (m : Int))) (l := stD xs (p + 1)) (p := 0) (e := E1) find_next rfl rfl (by simp) (dB_cons s1 (dB_ret (dS_ret ir))) rfl
  cases ls with
  | nil => simp at hl0
  | cons a ls =>
    simp at hl0
    subst hl0
    refine ⟨(v % (m : Int)).toNat, ls, by omega, ?_⟩
    rw [Int.toNat_of_nonneg p1]
    exact hc
/-- a call that is lent the thing of its first argument -/
theorem ev_callL {C : Cs} {f : Str} {i : Nat} {es : List E} {e e1 : Mp.Env} {d0 d : D} {ds : List D} {r l : D} {ls : List D} (h0 : getS e i = some d0) (h : evs (dens C es) e = .ok ds e1) (hn : es.all noLn = true) (hg : getS e1 i = some d) (hc : C.cl f (d :: ds) = .ok r (l :: ls)) : (den C (.call f (.ln i :: es))).1 e = .ok r (setS e1 i l) := by
  have h1 : evs (dens C (.ln i :: es)) e = .ok (d0 :: ds) e1 := by
    simp only [dens, den, val, evs, M.bind, varM, h0, h, M.ret]
  have h2 : rl (.ln i :: es) (d0 :: ds) e1 = some (d :: ds) := by
    simp only [rl, hg, rl_none hn]
  rw [den]
  simp only [val, callM, h1, h2, hc]
  show R.ok r (wb es ls (setS e1 i l)) = _
  rw [wb_none hn]
end Lw
namespace Lw
open PySem Mp TL
/-! ### terms -/
inductive Tm where
  | z (w : Fin 3)
  | num (n : Int)
  | read (x : Str)
  | cal (x : Str)
  | set (x : Str) (a : Tm)
  | blk (x : Str) (a : Tm)
  | b2 (w : Fin 7) (a b : Tm)
  | seq (a b : Tm)
  | ite (a b c : Tm)
  | new (x : Str) (a b : Tm)
  | prc (x k : Str) (a b : Tm)
def zN : Fin 3 → Str
  | 0 => "skip"
  | 1 => "stop"
  | 2 => "fault"
def bN : Fin 7 → Str
  | 0 => "while"
  | 1 => "add"
  | 2 => "sub"
  | 3 => "mul"
  | 4 => "equal"
  | 5 => "less"
  | 6 => "do"
def k1 : Fin 7 → Str
  | 6 => "com"
  | _ => "exp"
def k2 : Fin 7 → Str
  | 0 => "com"
  | _ => "exp"
def Tm.D : Tm → D
  | z w => .tup [.str (zN w)]
  | num n => .tup [.str "num", .int n]
  | read x => .tup [.str "read", .str x]
  | cal x => .tup [.str "call", .str x, .tup []]
  | set x a => .tup [.str "set", .str x, a.D]
  | blk x a => .tup [.str "block", .str x, a.D]
  | b2 w a b => .tup [.str (bN w), a.D, b.D]
  | seq a b => .tup [.str "seq", a.D, b.D]
  | ite a b c => .tup [.str "if", a.D, b.D, c.D]
  | new x a b => .tup [.str "new", .str x, a.D, b.D]
  | prc x k a b => .tup [.str "proc", .str x, .tup [], .str k, a.D, b.D]
def Tm.tag : Tm → Str
  | z w => zN w
  | num n => "num"
  | read x => "read"
  | cal x => "call"
  | set x a => "set"
  | blk x a => "block"
  | b2 w a b => bN w
  | seq a b => "seq"
  | ite a b c => "if"
  | new x a b => "new"
  | prc x k a b => "proc"
def Tm.isSeq : Tm → Bool
  | seq _ _ => true
  | _ => false
def Tm.kids (κ : Str) : Tm → List (Str × Tm)
  | set x a => [("exp", a)]
  | blk x a => [("com", a)]
  | b2 w a b => [(k1 w, a), (k2 w, b)]
  | seq a b => [("com", a), ("com", b)]
  | ite a b c => [("exp", a), (κ, b), (κ, c)]
  | new x a b => [("exp", a), (κ, b)]
  | prc x k a b => [(k, a), (κ, b)]
  | _ => []
theorem tag_D (t : Tm) : ∃ r, t.D = .tup (.str t.tag :: r) := by
  cases t <;> exact ⟨_, rfl⟩
def pr (p : Str × Tm) : D := .tup [.str p.1, p.2.D]
def okv : CR → Option D
  | .ok r _ => some r
  | _ => none
theorem okv_ok {c : CR} {r : D} (h : okv c = some r) : ∃ ls, c = .ok r ls := by
  cases c with
  | ok r' ls => cases h; exact ⟨ls, rfl⟩
  | ex c => cases h
  | no => cases h
theorem kids_ok {n : Nat} (t : Tm) (κ : Str) : ∃ ls, P.call (n + 2) "kids" [t.D, .str κ] = .ok (.lst ((t.kids κ).map pr)) ls := by
  apply okv_ok
  cases t with
  | z w => revert w; intro w; match w with
    | 0 => kernel_rfl
    | 1 => kernel_rfl
    | 2 => kernel_rfl
  | num m => kernel_rfl
  | read x => kernel_rfl
  | cal x => kernel_rfl
  | set x a => show okv (P.call (n + 2) "kids" [.tup [.str "set", .str x, a.D], .str κ]) = some (.lst [.tup [.str "exp", a.D]]); generalize a.D = A; kernel_rfl
  | blk x a => show okv (P.call (n + 2) "kids" [.tup [.str "block", .str x, a.D], .str κ]) = some (.lst [.tup [.str "com", a.D]]); generalize a.D = A; kernel_rfl
  | b2 w a b =>
    show okv (P.call (n + 2) "kids" [.tup [.str (bN w), a.D, b.D], .str κ]) = some (.lst [.tup [.str (k1 w), a.D], .tup [.str (k2 w), b.D]])
    generalize a.D = A
    generalize b.D = B
    match w with
    | 0 => kernel_rfl
    | 1 => kernel_rfl
    | 2 => kernel_rfl
    | 3 => kernel_rfl
    | 4 => kernel_rfl
    | 5 => kernel_rfl
    | 6 => kernel_rfl
  | seq a b =>
    show okv (P.call (n + 2) "kids" [.tup [.str "seq", a.D, b.D], .str κ]) = some (.lst [.tup [.str "com", a.D], .tup [.str "com", b.D]])
    generalize a.D = A
    generalize b.D = B
    kernel_rfl
  | ite a b c =>
    show okv (P.call (n + 2) "kids" [.tup [.str "if", a.D, b.D, c.D], .str κ]) = some (.lst [.tup [.str "exp", a.D], .tup [.str κ, b.D], .tup [.str κ, c.D]])
    generalize a.D = A
    generalize b.D = B
    generalize c.D = B2
    kernel_rfl
  | new x a b =>
    show okv (P.call (n + 2) "kids" [.tup [.str "new", .str x, a.D, b.D], .str κ]) = some (.lst [.tup [.str "exp", a.D], .tup [.str κ, b.D]])
    generalize a.D = A
    generalize b.D = B
    kernel_rfl
  | prc x k a b =>
    show okv (P.call (n + 2) "kids" [.tup [.str "proc", .str x, .tup [], .str k, a.D, b.D], .str κ]) = some (.lst [.tup [.str k, a.D], .tup [.str κ, b.D]])
    generalize a.D = A
    generalize b.D = B
    kernel_rfl
theorem tag_ok (t : Tm) : okS t.tag := by
  cases t with
  | z w => match w with
    | 0 => exact okS_of (by kernel_rfl)
    | 1 => exact okS_of (by kernel_rfl)
    | 2 => exact okS_of (by kernel_rfl)
  | b2 w a b => match w with
    | 0 => exact okS_of (by kernel_rfl)
    | 1 => exact okS_of (by kernel_rfl)
    | 2 => exact okS_of (by kernel_rfl)
    | 3 => exact okS_of (by kernel_rfl)
    | 4 => exact okS_of (by kernel_rfl)
    | 5 => exact okS_of (by kernel_rfl)
    | 6 => exact okS_of (by kernel_rfl)
  | _ => exact okS_of (by kernel_rfl)
theorem tag_seq (t : Tm) : eqD (.str t.tag) (.str "seq") = some t.isSeq := by
  rw [eqS (tag_ok t) (okS_of (by decide +kernel))]
  cases t with
  | z w => match w with
    | 0 => exact congrArg some (by decide +kernel)
    | 1 => exact congrArg some (by decide +kernel)
    | 2 => exact congrArg some (by decide +kernel)
  | b2 w a b => match w with
    | 0 => exact congrArg some (by show decide (("while" : Str) = "seq") = false; decide +kernel)
    | 1 => exact congrArg some (by show decide (("add" : Str) = "seq") = false; decide +kernel)
    | 2 => exact congrArg some (by show decide (("sub" : Str) = "seq") = false; decide +kernel)
    | 3 => exact congrArg some (by show decide (("mul" : Str) = "seq") = false; decide +kernel)
    | 4 => exact congrArg some (by show decide (("equal" : Str) = "seq") = false; decide +kernel)
    | 5 => exact congrArg some (by show decide (("less" : Str) = "seq") = false; decide +kernel)
    | 6 => exact congrArg some (by show decide (("do" : Str) = "seq") = false; decide +kernel)
  | seq a b => exact congrArg some (by show decide (("seq" : Str) = "seq") = true; decide +kernel)
  | num m => exact congrArg some (by show decide (("num" : Str) = "seq") = false; decide +kernel)
  | read x => exact congrArg some (by show decide (("read" : Str) = "seq") = false; decide +kernel)
  | cal x => exact congrArg some (by show decide (("call" : Str) = "seq") = false; decide +kernel)
  | set x a => exact congrArg some (by show decide (("set" : Str) = "seq") = false; decide +kernel)
  | blk x a => exact congrArg some (by show decide (("block" : Str) = "seq") = false; decide +kernel)
  | ite a b c => exact congrArg some (by show decide (("if" : Str) = "seq") = false; decide +kernel)
  | new x a b => exact congrArg some (by show decide (("new" : Str) = "seq") = false; decide +kernel)
  | prc x k a b => exact congrArg some (by show decide (("proc" : Str) = "seq") = false; decide +kernel)
end Lw
namespace Lw
open PySem Mp TL
/-! ### nodes -/
def Tm.sz : Tm → Nat
  | set _ a => a.sz + 1
  | blk _ a => a.sz + 1
  | b2 _ a b => a.sz + b.sz + 1
  | seq a b => a.sz + b.sz + 1
  | ite a b c => a.sz + b.sz + c.sz + 1
  | new _ a b => a.sz + b.sz + 1
  | prc _ _ a b => a.sz + b.sz + 1
  | _ => 1
theorem sz_pos (t : Tm) : 1 ≤ t.sz := by cases t <;> simp only [Tm.sz] <;> omega
abbrev It := Str × Tm × Nat
abbrev Ek := Nat × Str × Tm
def itm (t : Tm) (l : Nat) (q : Ek) : It := (q.2.1, q.2.2, if q.1 = 0 ∧ t.isSeq = true ∧ q.2.2.isSeq = true then l else l + 1)
def enumK (k : Nat) : List (Str × Tm) → List Ek
  | [] => []
  | p :: ps => (k, p.1, p.2) :: enumK (k + 1) ps
def dE (q : Ek) : D := .tup [.int q.1, .tup [.str q.2.1, q.2.2.D]]
def itD (x : It) : D := .tup [.str x.1, x.2.1.D, .int x.2.2]
def Tm.lk (κ : Str) (l : Nat) (t : Tm) : List It := (enumK 0 (t.kids κ)).map (itm t l)
theorem enum_dE : ∀ {ps : List (Str × Tm)} {k : Nat}, enumD k (ps.map pr) = (enumK k ps).map dE
  | [], _ => rfl
  | p :: ps, k => by
    have := enum_dE (ps := ps) (k := k + 1)
    simp only [List.map_cons, enumD, enumK]
    rw [← this]
    rfl
def Tm.its (κ : Str) (l : Nat) : Tm → List It
  | set x a => (κ, set x a, l) :: a.its "exp" (l + 1)
  | blk x a => (κ, blk x a, l) :: a.its "com" (l + 1)
  | b2 w a b => (κ, b2 w a b, l) :: (a.its (k1 w) (l + 1) ++ b.its (k2 w) (l + 1))
  | seq a b => (κ, seq a b, l) :: (a.its "com" (if a.isSeq = true then l else l + 1) ++ b.its "com" (l + 1))
  | ite a b c => (κ, ite a b c, l) :: (a.its "exp" (l + 1) ++ (b.its κ (l + 1) ++ c.its κ (l + 1)))
  | new x a b => (κ, new x a b, l) :: (a.its "exp" (l + 1) ++ b.its κ (l + 1))
  | prc x k a b => (κ, prc x k a b, l) :: (a.its k (l + 1) ++ b.its κ (l + 1))
  | z w => [(κ, z w, l)]
  | num n => [(κ, num n, l)]
  | read x => [(κ, read x, l)]
  | cal x => [(κ, cal x, l)]
def it1 (x : It) : List It := x.2.1.its x.1 x.2.2
theorem its_lk (κ : Str) (l : Nat) (t : Tm) : t.its κ l = (κ, t, l) :: (t.lk κ l).flatMap it1 := by
  cases t <;> simp [Tm.its, Tm.lk, Tm.kids, enumK, itm, it1, Tm.isSeq] <;> rfl
def szW (W : List It) : Nat := (W.map fun x => x.2.1.sz).sum
theorem szW_app {a b : List It} : szW (a ++ b) = szW a + szW b := by simp [szW]
theorem szW_rev {a : List It} : szW a.reverse = szW a := by simp [szW, List.sum_reverse]
theorem szW_lk (κ : Str) (l : Nat) (t : Tm) : szW (t.lk κ l) + 1 = t.sz := by
  cases t <;> simp [szW, Tm.lk, Tm.kids, enumK, itm, Tm.sz] <;> omega
theorem szW_len : ∀ {W : List It}, W.length ≤ szW W
  | [] => Nat.le_refl _
  | x :: W => by
    have := szW_len (W := W)
    have := sz_pos x.2.1
    simp only [szW, List.map_cons, List.sum_cons, List.length_cons] at *
    omega
theorem its_len (κ : Str) (l : Nat) (t : Tm) : (t.its κ l).length = t.sz := by
  induction t generalizing κ l with
  | set x a ih => simp [Tm.its, Tm.sz, ih]
  | blk x a ih => simp [Tm.its, Tm.sz, ih]
  | b2 w a b ia ib => simp [Tm.its, Tm.sz, ia, ib]
  | seq a b ia ib => simp [Tm.its, Tm.sz, ia, ib]
  | ite a b c ia ib ic => simp [Tm.its, Tm.sz, ia, ib, ic]; omega
  | new x a b ia ib => simp [Tm.its, Tm.sz, ia, ib]
  | prc x k a b ia ib => simp [Tm.its, Tm.sz, ia, ib]
  | _ => simp [Tm.its, Tm.sz]
def nB : List Mp.S := [
      .set 7 (.and [.cmp .eq (.v 5) (.int 0), .cmp .eq (.ix (.ix (.v 4) (.int 1)) (.int 0)) (.str "seq"), .cmp .eq (.ix (.ix (.v 6) (.int 1)) (.int 0)) (.str "seq")]),
      .set 8 (.ite (.v 7) (.ix (.v 4) (.int 2)) (.bin .add (.ix (.v 4) (.int 2)) (.int 1))),
      .ex (.mu .append 3 [] [.tup [.ix (.v 6) (.int 0), .ix (.v 6) (.int 1), .v 8]])]
theorem nB_ok {C : Cs} {o0 o1 o2 o7 o8 : Option D} {W : List D} {κ : Str} {t : Tm} {l : Nat} {q : Ek} (hW : W.length ≤ 20000) :
    ∃ o7' o8', dB C nB [o0, o1, o2, some (.lst W), some (itD (κ, t, l)), some (.int q.1), some (.tup [.str q.2.1, q.2.2.D]), o7, o8] = .ok .nx [o0, o1, o2, some (.lst (W ++ [itD (itm t l q)])), some (itD (κ, t, l)), some (.int q.1), some (.tup [.str q.2.1, q.2.2.D]), o7', o8'] := by
  obtain ⟨j, k, a⟩ := q
  obtain ⟨r, hr⟩ := tag_D t
  obtain ⟨r', hr'⟩ := tag_D a
  have e1 : eqD (.int (j : Int)) (.int 0) = some (decide (j = 0)) := by
    rw [eqI]
    congr 1
    exact decide_eq_decide.mpr (by omega)
  have e2 := tag_seq t
  have e3 := tag_seq a
  have hl : W.length < SZ := by rw [SZ_big]; omega
  have hi : itm t l (j, k, a) = (k, a, if (decide (j = 0) && (t.isSeq && a.isSeq)) = true then l else l + 1) := by
    simp only [itm, Bool.and_eq_true, decide_eq_true_eq]
  rw [hi]
  simp only [itD]
  have g1 : ∀ xs : List D, ixD (.tup (.str t.tag :: xs)) (.int 0) = some (.str t.tag) := fun xs => at0
  have g2 : ∀ xs : List D, ixD (.tup (.str a.tag :: xs)) (.int 0) = some (.str a.tag) := fun xs => at0
  refine ⟨some (.bl (decide (j = 0) && (t.isSeq && a.isSeq))), some (.int ((if (decide (j = 0) && (t.isSeq && a.isSeq)) = true then l else l + 1 : Nat) : Int)), ?_⟩
  generalize decide (j = 0) = b1 at *
  generalize t.isSeq = b2 at *
  generalize a.isSeq = b3 at *
  cases b1 <;> cases b2 <;> cases b3 <;> simp only [nB, muA hl, e1, e2, e3, hr, hr', g1, g2, cmpD, dB, dS, seqM, M.bind, M.ret, M.opt, den, dens, val, evs, op1, op2, varM, truthM, andT, orT, andV, orV, notT, negI, getS0, getSs, setS0, setSs, cmpD, ltI, truB, truI, addI, subI, lenL, lenT, lenR, intI, intB, lstL, lstT, tupL, tupT, ixT, ixL, ixR, at0, at1, at2, partM, slD, asg, muM, getPM, setPM, muOk, getP, setP, chM, eqI, eqB, Option.map_some, Option.bind_some, if_true, Bool.false_eq_true, if_false, putM, augD, Bool.true_eq_false, Bool.and_true, Bool.and_false, Bool.true_and, Bool.false_and, Int.natCast_add, Int.cast_ofNat_Int] <;> rfl
def Tm.ek (κ : Str) (t : Tm) : List Ek := (enumK 0 (t.kids κ)).reverse
def nE (o0 o1 : Option D) (F W : List It) (o4 o5 o6 o7 o8 : Option D) : Mp.Env := [o0, o1, some (.lst (F.map itD)), some (.lst (W.map itD)), o4, o5, o6, o7, o8]
theorem nFor {C : Cs} {o0 o1 : Option D} {F : List It} {κ : Str} {t : Tm} {l : Nat} : ∀ {L : List Ek} {W : List It} {o5 o6 o7 o8 : Option D}, W.length + L.length ≤ 20000 → ∃ p5 p6 p7 p8,
    forL (fun _ => true) (.tp [5, 6]) (dB C nB) (L.map dE) (nE o0 o1 F W (some (itD (κ, t, l))) o5 o6 o7 o8) = .ok .nx (nE o0 o1 F (W ++ L.map (itm t l)) (some (itD (κ, t, l))) p5 p6 p7 p8)
  | [], W, o5, o6, o7, o8, _ => ⟨o5, o6, o7, o8, by rw [List.map_nil, List.map_nil, List.append_nil]; exact forL_n⟩
  | q :: L, W, o5, o6, o7, o8, h => by
    rw [List.length_cons] at h
    obtain ⟨o7', o8', hb⟩ := nB_ok (C := C) (o0 := o0) (o1 := o1) (o2 := some (.lst (F.map itD))) (o7 := o7) (o8 := o8) (W := W.map itD) (κ := κ) (t := t) (l := l) (q := q) (by rw [List.length_map]; omega)
    obtain ⟨p5, p6, p7, p8, hr⟩ := nFor (C := C) (o0 := o0) (o1 := o1) (F := F) (κ := κ) (t := t) (l := l) (L := L) (W := W ++ [itm t l q]) (o5 := some (.int q.1)) (o6 := some (.tup [.str q.2.1, q.2.2.D])) (o7 := o7') (o8 := o8') (by simp; omega)
    refine ⟨p5, p6, p7, p8, forL_c (d := dE q) (e1 := nE o0 o1 F W (some (itD (κ, t, l))) (some (.int q.1)) (some (.tup [.str q.2.1, q.2.2.D])) o7 o8) rfl hb ?_⟩
    rw [List.append_assoc] at hr
    simp only [nE, List.map_append, List.map_cons, List.map_nil, List.cons_append, List.nil_append] at hr ⊢
    exact hr
def nW : List Mp.S := [
    .set 4 (.mu .pop0 3 [] []),
    .ex (.mu .append 2 [] [.v 4]),
    .for_ (.tp [5, 6]) .renum [.call "kids" [.ix (.v 4) (.int 1), .ix (.v 4) (.int 0)]] none nB]
theorem nW_ok {C : Cs} (hk : ∀ (t : Tm) (κ : Str), ∃ ls, C.cl "kids" [t.D, .str κ] = .ok (.lst ((t.kids κ).map pr)) ls) {o0 o1 o4 o5 o6 o7 o8 : Option D} {F W : List It} {κ : Str} {t : Tm} {l : Nat} (hF : F.length ≤ 20000) (hW : W.length + t.sz ≤ 20000) :
    ∃ p4 p5 p6 p7 p8, dB C nW (nE o0 o1 F (W ++ [(κ, t, l)]) o4 o5 o6 o7 o8) = .ok .nx (nE o0 o1 (F ++ [(κ, t, l)]) (W ++ (t.lk κ l).reverse) p4 p5 p6 p7 p8) := by
  have hl : (F.map itD).length < SZ := by rw [List.length_map, SZ_big]; omega
  have s1 : dS C (.set 4 (.mu .pop0 3 [] [])) (nE o0 o1 F (W ++ [(κ, t, l)]) o4 o5 o6 o7 o8) = .ok .nx (nE o0 o1 F W (some (itD (κ, t, l))) o5 o6 o7 o8) := by
    have hm : muF .pop0 (.lst (W.map itD ++ [itD (κ, t, l)])) [] = some (.lst (W.map itD), itD (κ, t, l)) := by
      simp only [muF, List.getLast?_append, List.getLast?_singleton, Option.some_or, List.dropLast_concat]
    simp only [nE, List.map_append, List.map_cons, List.map_nil, hm, dB, dS, seqM, M.bind, M.ret, M.opt, den, dens, val, evs, op1, op2, varM, truthM, andT, orT, andV, orV, notT, negI, getS0, getSs, setS0, setSs, cmpD, ltI, truB, truI, addI, subI, lenL, lenT, lenR, intI, intB, lstL, lstT, tupL, tupT, ixT, ixL, ixR, at0, at1, at2, partM, slD, asg, muM, getPM, setPM, muOk, getP, setP, chM, eqI, eqB, Option.map_some, Option.bind_some, if_true, Bool.false_eq_true, if_false, putM, augD, Bool.true_eq_false]
  have s2 : dS C (.ex (.mu .append 2 [] [.v 4])) (nE o0 o1 F W (some (itD (κ, t, l))) o5 o6 o7 o8) = .ok .nx (nE o0 o1 (F ++ [(κ, t, l)]) W (some (itD (κ, t, l))) o5 o6 o7 o8) := by
    simp only [nE, List.map_append, List.map_cons, List.map_nil, muA hl, dB, dS, seqM, M.bind, M.ret, M.opt, den, dens, val, evs, op1, op2, varM, truthM, andT, orT, andV, orV, notT, negI, getS0, getSs, setS0, setSs, cmpD, ltI, truB, truI, addI, subI, lenL, lenT, lenR, intI, intB, lstL, lstT, tupL, tupT, ixT, ixL, ixR, at0, at1, at2, partM, slD, asg, muM, getPM, setPM, muOk, getP, setP, chM, eqI, eqB, Option.map_some, Option.bind_some, if_true, Bool.false_eq_true, if_false, putM, augD, Bool.true_eq_false]
  obtain ⟨ls, hk⟩ := hk t κ
  let E1 := nE o0 o1 (F ++ [(κ, t, l)]) W (some (itD (κ, t, l))) o5 o6 o7 o8
  have c1 : (den C (.call "kids" [.ix (.v 4) (.int 1), .ix (.v 4) (.int 0)])).1 E1 = .ok (.lst ((t.kids κ).map pr)) E1 :=
    ev_call (evs_cons (ev_ix (x := itD (κ, t, l)) (y := .int 1) (ev_v rfl) ev_int at1) (evs_cons (ev_ix (x := itD (κ, t, l)) (y := .int 0) (ev_v rfl) ev_int at0) evs_nil)) rfl hk
  have hek : (t.ek κ).map (itm t l) = (t.lk κ l).reverse := by rw [Tm.ek, Tm.lk, List.map_reverse]
  have hlen : (t.ek κ).length ≤ t.sz := by
    have := szW_lk κ l t
    have := szW_len (W := t.lk κ l)
    have h3 : (t.ek κ).length = (t.lk κ l).length := by rw [← List.length_reverse (as := t.lk κ l), ← hek, List.length_map]
    omega
  obtain ⟨p5, p6, p7, p8, hr⟩ := nFor (C := C) (o0 := o0) (o1 := o1) (F := F ++ [(κ, t, l)]) (κ := κ) (t := t) (l := l) (L := t.ek κ) (W := W) (o5 := o5) (o6 := o6) (o7 := o7) (o8 := o8) (by omega)
  rw [hek] at hr
  refine ⟨some (itD (κ, t, l)), p5, p6, p7, p8, dB_cons s1 (dB_cons s2 (dB_cons ?_ dB_nil))⟩
  refine (dS_for (as := [.lst ((t.kids κ).map pr)]) (ds := (t.ek κ).map dE) (e1 := E1) (evs_cons c1 evs_nil) ?_).trans hr
  show some (enumD 0 ((t.kids κ).map pr)).reverse = _
  rw [Tm.ek, List.map_reverse, ← enum_dE]
  rfl
theorem nLoop {C : Cs} (hk : ∀ (t : Tm) (κ : Str), ∃ ls, C.cl "kids" [t.D, .str κ] = .ok (.lst ((t.kids κ).map pr)) ls) {o0 o1 : Option D} : ∀ (N fuel : Nat) (F W : List It) (o4 o5 o6 o7 o8 : Option D), szW W = N → N < fuel → F.length + N ≤ 20000 →
    ∃ p4 p5 p6 p7 p8, whileL (den C (.cmp .gt (.bi .len [.v 3]) (.int 0))).2 (dB C nW) fuel (nE o0 o1 F W o4 o5 o6 o7 o8) = .ok .nx (nE o0 o1 (F ++ W.reverse.flatMap it1) [] p4 p5 p6 p7 p8) := by
  intro N
  induction N using Nat.strongRecOn with
  | ind N ih =>
    intro fuel F W o4 o5 o6 o7 o8 hN hf hF
    obtain ⟨fuel, rfl⟩ : ∃ m, fuel = m + 1 := ⟨fuel - 1, by omega⟩
    have t := (ev_cmp (C := C) (o := .gt) (a := .bi .len [.v 3]) (b := .int 0) (x := .int (W.map itD).length) (y := .int 0) (k := decide ((0 : Int) < (W.map itD).length)) (e := nE o0 o1 F W o4 o5 o6 o7 o8) (ev_bi1 (x := .lst (W.map itD)) (ev_v rfl) lenL) ev_int (by simp only [cmpD, ltI])).2
    rw [List.length_map] at t
    rcases List.eq_nil_or_concat W with rfl | ⟨W', x, rfl⟩
    · rw [decide_eq_false (by simp)] at t
      refine ⟨o4, o5, o6, o7, o8, ?_⟩
      unfold whileL
      simp only [t]
      simp
    · rw [List.concat_eq_append] at *
      rw [decide_eq_true (by simp)] at t
      obtain ⟨κ, tm, l⟩ := x
      have h1 : szW (W' ++ [(κ, tm, l)]) = szW W' + tm.sz := by rw [szW_app]; simp [szW]
      have h2 := szW_len (W := W')
      have h3 := szW_lk κ l tm
      have h4 := sz_pos tm
      obtain ⟨p4, p5, p6, p7, p8, hb⟩ := nW_ok hk (o0 := o0) (o1 := o1) (o4 := o4) (o5 := o5) (o6 := o6) (o7 := o7) (o8 := o8) (F := F) (W := W') (κ := κ) (t := tm) (l := l) (by omega) (by omega)
      have h5 : szW (W' ++ (tm.lk κ l).reverse) = N - 1 := by rw [szW_app, szW_rev]; omega
      obtain ⟨q4, q5, q6, q7, q8, hr⟩ := ih (N - 1) (by omega) fuel (F ++ [(κ, tm, l)]) (W' ++ (tm.lk κ l).reverse) p4 p5 p6 p7 p8 h5 (by omega) (by rw [List.length_append, List.length_singleton]; omega)
      refine ⟨q4, q5, q6, q7, q8, ?_⟩
      unfold whileL
      simp only [t, hb]
      rw [hr]
      have : F ++ [(κ, tm, l)] ++ (W' ++ (tm.lk κ l).reverse).reverse.flatMap it1 = F ++ (W' ++ [(κ, tm, l)]).reverse.flatMap it1 := by
        rw [List.reverse_append, List.reverse_reverse, List.reverse_append, List.reverse_singleton, List.singleton_append, List.flatMap_append, List.flatMap_cons, List.append_assoc]
        rw [show it1 (κ, tm, l) = (κ, tm, l) :: (tm.lk κ l).flatMap it1 from its_lk κ l tm]
        simp
      rw [this]
theorem find_nodes : P.find f_nodes.d.name = some f_nodes := by kernel_rfl
theorem nodes_ok {n : Nat} (t : Tm) (κ : Str) (h : t.sz ≤ 20000) : ∃ ls, P.call (n + 3) "nodes" [t.D, .str κ] = .ok (.lst ((t.its κ 1).map itD)) ls := by
  let C := P.cs_ (n + 2)
  have s1 : dS C (.set 2 (.lst [])) [some t.D, some (.str κ), none, none, none, none, none, none, none] = .ok .nx [some t.D, some (.str κ), some (.lst []), none, none, none, none, none, none] := dS_set (e1 := [some t.D, some (.str κ), none, none, none, none, none, none, none]) (ev_lst evs_nil)
  let E2 : Mp.Env := [some t.D, some (.str κ), some (.lst []), none, none, none, none, none, none]
  have s2 : dS C (.set 3 (.lst [.tup [.v 1, .v 0, .int 1]])) E2 = .ok .nx (nE (some t.D) (some (.str κ)) [] [(κ, t, 1)] none none none none none) :=
    dS_set (e1 := E2) (ev_lst (evs_cons (ev_tup (evs_cons (ev_v rfl) (evs_cons (ev_v rfl) (evs_cons ev_int evs_nil)))) evs_nil))
  obtain ⟨p4, p5, p6, p7, p8, hr⟩ := nLoop (C := C) (fun t κ => kids_ok (n := n) t κ) (o0 := some t.D) (o1 := some (.str κ)) t.sz FUEL [] [(κ, t, 1)] none none none none none (by simp [szW]) (by unfold FUEL; omega) (by simp; omega)
  have s3 : dS C (.while_ (.cmp .gt (.bi .len [.v 3]) (.int 0)) nW) (nE (some t.D) (some (.str κ)) [] [(κ, t, 1)] none none none none none) = _ := (by rw [dS] : dS C (.while_ (.cmp .gt (.bi .len [.v 3]) (.int 0)) nW) _ = _).trans hr
  have hl : ([] : List It) ++ [(κ, t, 1)].reverse.flatMap it1 = t.its κ 1 := by simp [it1]
  rw [hl] at s3
  exact call_rt (P := P) (n := n + 2) (F := f_nodes) (ds := [t.D, .str κ]) (r := .lst ((t.its κ 1).map itD)) find_nodes rfl (dB_cons s1 (dB_cons s2 (dB_cons s3 (dB_ret (dS_ret (ev_v rfl))))))
end Lw
namespace Lw
open PySem Mp TL
/-! ### how high a term is -/
def Tm.hg : Tm → Nat
  | set _ a => a.hg + 1
  | blk _ a => a.hg + 1
  | b2 _ a b => max a.hg b.hg + 1
  | seq a b => max (if a.isSeq = true then a.hg else a.hg + 1) (b.hg + 1)
  | ite a b c => max a.hg (max b.hg c.hg) + 1
  | new _ a b => max a.hg b.hg + 1
  | prc _ _ a b => max a.hg b.hg + 1
  | _ => 0
theorem lv_le {t : Tm} : ∀ {κ : Str} {l : Nat} {x : It}, x ∈ t.its κ l → x.2.2 ≤ l + t.hg := by
  induction t with
  | set x a ih =>
    intro κ l y hy
    simp only [Tm.its, List.mem_cons] at hy
    rcases hy with rfl | hy
    · simp only [Tm.hg]; omega
    · have := ih hy; simp only [Tm.hg]; omega
  | blk x a ih =>
    intro κ l y hy
    simp only [Tm.its, List.mem_cons] at hy
    rcases hy with rfl | hy
    · simp only [Tm.hg]; omega
    · have := ih hy; simp only [Tm.hg]; omega
  | b2 w a b ia ib =>
    intro κ l y hy
    simp only [Tm.its, List.mem_cons, List.mem_append] at hy
    rcases hy with rfl | hy | hy
    · simp only [Tm.hg]; omega
    · have := ia hy; simp only [Tm.hg]; omega
    · have := ib hy; simp only [Tm.hg]; omega
  | seq a b ia ib =>
    intro κ l y hy
    simp only [Tm.its, List.mem_cons, List.mem_append] at hy
    rcases hy with rfl | hy | hy
    · simp only [Tm.hg]; omega
    · have h1 := ia hy; simp only [Tm.hg]; cases hs : a.isSeq <;> simp only [hs, Bool.false_eq_true, if_false, if_true] at h1 ⊢ <;> omega
    · have := ib hy; simp only [Tm.hg]; omega
  | ite a b c ia ib ic =>
    intro κ l y hy
    simp only [Tm.its, List.mem_cons, List.mem_append] at hy
    rcases hy with rfl | hy | hy | hy
    · simp only [Tm.hg]; omega
    · have := ia hy; simp only [Tm.hg]; omega
    · have := ib hy; simp only [Tm.hg]; omega
    · have := ic hy; simp only [Tm.hg]; omega
  | new x a b ia ib =>
    intro κ l y hy
    simp only [Tm.its, List.mem_cons, List.mem_append] at hy
    rcases hy with rfl | hy | hy
    · simp only [Tm.hg]; omega
    · have := ia hy; simp only [Tm.hg]; omega
    · have := ib hy; simp only [Tm.hg]; omega
  | prc x k a b ia ib =>
    intro κ l y hy
    simp only [Tm.its, List.mem_cons, List.mem_append] at hy
    rcases hy with rfl | hy | hy
    · simp only [Tm.hg]; omega
    · have := ia hy; simp only [Tm.hg]; omega
    · have := ib hy; simp only [Tm.hg]; omega
  | _ =>
    intro κ l y hy
    simp only [Tm.its, List.mem_singleton] at hy
    subst hy
    simp only [Tm.hg]; omega
theorem lv_ex (t : Tm) : ∀ (κ : Str) (l : Nat), ∃ x ∈ t.its κ l, x.2.2 = l + t.hg := by
  induction t with
  | set x a ih =>
    intro κ l
    obtain ⟨y, h1, h2⟩ := ih "exp" (l + 1)
    exact ⟨y, by simp only [Tm.its]; exact List.mem_cons_of_mem _ h1, by simp only [Tm.hg]; omega⟩
  | blk x a ih =>
    intro κ l
    obtain ⟨y, h1, h2⟩ := ih "com" (l + 1)
    exact ⟨y, by simp only [Tm.its]; exact List.mem_cons_of_mem _ h1, by simp only [Tm.hg]; omega⟩
  | b2 w a b ia ib =>
    intro κ l
    obtain ⟨y, h1, h2⟩ := ia (k1 w) (l + 1)
    obtain ⟨z, g1, g2⟩ := ib (k2 w) (l + 1)
    rcases Nat.le_total a.hg b.hg with h | h
    · exact ⟨z, by simp [Tm.its, g1], by simp only [Tm.hg]; omega⟩
    · exact ⟨y, by simp [Tm.its, h1], by simp only [Tm.hg]; omega⟩
  | seq a b ia ib =>
    intro κ l
    obtain ⟨y, h1, h2⟩ := ia "com" (if a.isSeq = true then l else l + 1)
    obtain ⟨z, g1, g2⟩ := ib "com" (l + 1)
    rcases Nat.le_total (if a.isSeq = true then a.hg else a.hg + 1) (b.hg + 1) with h | h
    · exact ⟨z, by simp [Tm.its, g1], by simp only [Tm.hg]; omega⟩
    · exact ⟨y, by simp only [Tm.its]; exact List.mem_cons_of_mem _ (List.mem_append_left _ h1), by simp only [Tm.hg]; split at h2 <;> simp_all <;> omega⟩
  | ite a b c ia ib ic =>
    intro κ l
    obtain ⟨y, h1, h2⟩ := ia "exp" (l + 1)
    obtain ⟨z, g1, g2⟩ := ib κ (l + 1)
    obtain ⟨u, f1, f2⟩ := ic κ (l + 1)
    by_cases e1 : b.hg ≤ a.hg ∧ c.hg ≤ a.hg
    · exact ⟨y, by simp [Tm.its, h1], by simp only [Tm.hg]; omega⟩
    · by_cases e2 : c.hg ≤ b.hg
      · exact ⟨z, by simp [Tm.its, g1], by simp only [Tm.hg]; omega⟩
      · exact ⟨u, by simp [Tm.its, f1], by simp only [Tm.hg]; omega⟩
  | new x a b ia ib =>
    intro κ l
    obtain ⟨y, h1, h2⟩ := ia "exp" (l + 1)
    obtain ⟨z, g1, g2⟩ := ib κ (l + 1)
    rcases Nat.le_total a.hg b.hg with h | h
    · exact ⟨z, by simp [Tm.its, g1], by simp only [Tm.hg]; omega⟩
    · exact ⟨y, by simp [Tm.its, h1], by simp only [Tm.hg]; omega⟩
  | prc x k a b ia ib =>
    intro κ l
    obtain ⟨y, h1, h2⟩ := ia k (l + 1)
    obtain ⟨z, g1, g2⟩ := ib κ (l + 1)
    rcases Nat.le_total a.hg b.hg with h | h
    · exact ⟨z, by simp [Tm.its, g1], by simp only [Tm.hg]; omega⟩
    · exact ⟨y, by simp [Tm.its, h1], by simp only [Tm.hg]; omega⟩
  | _ =>
    intro κ l
    exact ⟨_, by simp only [Tm.its]; exact List.mem_singleton.mpr rfl, by simp only [Tm.hg]; rfl⟩
theorem maxI_ok : ∀ {ns : List Int}, ns ≠ [] → ∃ m, maxI ns = some m ∧ m ∈ ns ∧ ∀ x ∈ ns, x ≤ m
  | [], h => absurd rfl h
  | [x], _ => ⟨x, rfl, by simp, by simp⟩
  | x :: y :: ns, _ => by
    obtain ⟨m, h1, h2, h3⟩ := maxI_ok (ns := y :: ns) (by simp)
    refine ⟨if x ≤ m then m else x, ?_, ?_, ?_⟩
    · show (maxI (y :: ns)).map _ = _
      rw [h1]; rfl
    · split
      · exact List.mem_cons_of_mem _ h2
      · simp
    · intro z hz
      rcases List.mem_cons.mp hz with rfl | hz
      · split <;> omega
      · have := h3 z hz
        split <;> omega
/-! ### check_size -/
def pcD (t : Tm) : D := .tup [.tup [], .str "com", t.D]
theorem find_size : P.find f_check_size.d.name = some f_check_size := by kernel_rfl
theorem size_ev {n : Nat} {t : Tm} (h : t.sz ≤ 20000) : ∃ e, dB (P.cs_ (n + 3)) b_check_size [some (pcD t), none, none] = (if 400 < t.sz ∨ 30 < 1 + t.hg then R.ex "TooLarge" e else .ok .nx e) := by
  obtain ⟨ls, hn⟩ := nodes_ok (n := n) t "com" h
  let C := P.cs_ (n + 3)
  let E0 : Mp.Env := [some (pcD t), none, none]
  let ns := t.its "com" 1
  let E1 : Mp.Env := [some (pcD t), some (.lst (ns.map itD)), none]
  have hnl : ns.length = t.sz := its_len _ _ _
  have s1 : dS C (.set 1 (.call "nodes" [.ix (.v 0) (.int 2), .ix (.v 0) (.int 1)])) E0 = .ok .nx E1 :=
    dS_set (e1 := E0) (ev_call (evs_cons (ev_ix (x := pcD t) (y := .int 2) (ev_v rfl) ev_int at2) (evs_cons (ev_ix (x := pcD t) (y := .int 1) (ev_v rfl) ev_int at1) evs_nil)) rfl hn)
  have t1 := (ev_cmp (C := C) (o := .gt) (a := .bi .len [.v 1]) (b := .g "MAX_NODES") (x := .int (ns.map itD).length) (y := .int 400) (k := decide ((400 : Int) < (ns.map itD).length)) (e := E1) (e1 := E1) (e2 := E1) (ev_bi1 (x := .lst (ns.map itD)) (ev_v rfl) lenL) (ev_g (by kernel_rfl)) (by simp only [cmpD, ltI])).2
  rw [List.length_map, hnl] at t1
  by_cases h4 : 400 < t.sz
  · rw [decide_eq_true (by omega)] at t1
    refine ⟨E1, ?_⟩
    rw [if_pos (.inl h4)]
    refine dB_cons s1 (dB_cex ?_)
    exact if_t (or_t t1) raise1
  · rw [decide_eq_false (by omega)] at t1
    have hne : (ns.map fun x => (x.2.2 : Int)) ≠ [] := by
      intro hc
      have h1 := congrArg List.length hc
      have h2 := sz_pos t
      rw [List.length_map, hnl, List.length_nil] at h1
      omega
    obtain ⟨m, m1, m2, m3⟩ := maxI_ok hne
    have hm : m = ((1 + t.hg : Nat) : Int) := by
      obtain ⟨x, hx, hm2⟩ := List.mem_map.mp m2
      obtain ⟨y, hy, hm3⟩ := lv_ex t "com" 1
      have a1 := lv_le hx
      have a2 := m3 (y.2.2 : Int) (List.mem_map.mpr ⟨y, hy, rfl⟩)
      omega
    have hlc : (den C (.lc (.ix (.v 2) (.int 2)) (.nm 2) .seq [.v 1] [])).1 E1 = .ok (.lst ((ns.map itD).map fun d => (ixD d (.int 2)).getD .non)) E1 := by
      refine lc_val (t := .nm 2) (as := [.lst (ns.map itD)]) (ds := ns.map itD) (e1 := E1) (evs_cons (ev_v rfl) evs_nil) rfl (by rw [List.length_map, hnl, SZ_big]; omega) (lcL_map fun d hd => ?_)
      obtain ⟨x, _, rfl⟩ := List.mem_map.mp hd
      exact ⟨[some (pcD t), some (.lst (ns.map itD)), some (itD x)], rfl, _, ev_ix (x := itD x) (y := .int 2) (z := .int x.2.2) (ev_v rfl) ev_int at2⟩
    have hmap : ((ns.map itD).map fun d => (ixD d (.int 2)).getD .non) = (ns.map fun x => (x.2.2 : Int)).map .int := by
      rw [List.map_map, List.map_map]
      refine List.map_congr_left fun x _ => ?_
      show (ixD (itD x) (.int 2)).getD .non = _
      rw [show ixD (itD x) (.int 2) = some (.int x.2.2) from at2]
      rfl
    rw [hmap] at hlc
    have hmx : bF .max1 [.lst ((ns.map fun x => (x.2.2 : Int)).map .int)] = some (.int m) := by
      show (D.ints _).bind (fun ns => (maxI ns).map D.int) = _
      rw [ints_map, Option.bind_some, m1]
      rfl
    have t2 := (ev_cmp (C := C) (o := .gt) (a := .bi .max1 [.lc (.ix (.v 2) (.int 2)) (.nm 2) .seq [.v 1] []]) (b := .g "MAX_LEVEL") (x := .int m) (y := .int 30) (k := decide ((30 : Int) < m)) (e := E1) (e1 := E1) (e2 := E1) (ev_bi1 hlc hmx) (ev_g (by kernel_rfl)) (by simp only [cmpD, ltI])).2
    rw [hm] at t2
    refine ⟨E1, ?_⟩
    by_cases h5 : 30 < 1 + t.hg
    · rw [decide_eq_true (by omega)] at t2
      rw [if_pos (.inr h5)]
      refine dB_cons s1 (dB_cex (if_t ?_ raise1))
      rw [or_f t1, or1]
      exact t2
    · rw [decide_eq_false (by omega)] at t2
      rw [if_neg (by omega)]
      refine dB_cons s1 (dB_cons (if_f (e1 := E1) ?_ dB_nil) dB_nil)
      rw [or_f t1, or1]
      exact t2
theorem size_ok {n : Nat} {t : Tm} (h : t.sz ≤ 400) (h2 : t.hg ≤ 29) : ∃ ls, P.call (n + 4) "check_size" [pcD t] = .ok .non ls := by
  obtain ⟨e, he⟩ := size_ev (n := n) (t := t) (by omega)
  rw [if_neg (by omega)] at he
  exact call_nx (n := n + 3) (ds := [pcD t]) find_size rfl he
theorem size_no {n : Nat} {t : Tm} (h : t.sz ≤ 20000) (h2 : 400 < t.sz ∨ 30 < 1 + t.hg) : P.call (n + 4) "check_size" [pcD t] = .ex "TooLarge" := by
  obtain ⟨e, he⟩ := size_ev (n := n) (t := t) h
  rw [if_pos h2] at he
  exact call_ex (n := n + 3) (ds := [pcD t]) find_size rfl he
end Lw
namespace Lw
open PySem Mp TL
/-! ### modules, links -/
def vD (v : Str × Int) : D := .tup [.str v.1, .int v.2]
def oD (o : Str × Str × Tm) : D := .tup [.str o.1, .str o.2.1, o.2.2.D]
def md (vs : List (Str × Int)) (os : List (Str × Str × Tm)) : D := .tup [.tup (vs.map vD), .tup (os.map oD)]
def wr (vs : List (Str × Int)) (t : Tm) : Tm := vs.foldr (fun v t => .new v.1 (.num v.2) t) t
def prcs (os : List (Str × Str × Tm)) (t : Tm) : Tm := os.foldr (fun o t => .prc o.1 o.2.1 o.2.2 t) t
def clD (sg : D) (k : Str) (t : Tm) : D := .tup [sg, .str k, t.D]
def resE (i : Nat) : R Fl → Option D
  | .ok .nx e => getS e i
  | _ => none
theorem resE_ok {i : Nat} {r : R Fl} {d : D} (h : resE i r = some d) : ∃ e, r = .ok .nx e ∧ getS e i = some d := by
  cases r with
  | ok f e => cases f with
    | nx => exact ⟨e, rfl, h⟩
    | _ => cases h
  | ex c e => cases h
  | no => cases h
def rtv : R Fl → Option D
  | .ok (.rt d) _ => some d
  | _ => none
theorem rtv_ok {r : R Fl} {d : D} (h : rtv r = some d) : ∃ e, r = .ok (.rt d) e := by
  cases r with
  | ok f e => cases f with
    | rt x => cases h; exact ⟨e, rfl⟩
    | _ => cases h
  | ex c e => cases h
  | no => cases h
/-- at most three variables, one or two operations -/
structure Sh (vs : List (Str × Int)) (os : List (Str × Str × Tm)) : Prop where
  v : vs.length ≤ 3
  o : os.length = 1 ∨ os.length = 2
theorem Sh.vs {vs : List (Str × Int)} {os : List (Str × Str × Tm)} (h : Sh vs os) : vs = [] ∨ (∃ a, vs = [a]) ∨ (∃ a b, vs = [a, b]) ∨ ∃ a b c, vs = [a, b, c] := by
  have := h.v
  match vs with
  | [] => exact .inl rfl
  | [a] => exact .inr (.inl ⟨a, rfl⟩)
  | [a, b] => exact .inr (.inr (.inl ⟨a, b, rfl⟩))
  | [a, b, c] => exact .inr (.inr (.inr ⟨a, b, c, rfl⟩))
  | _ :: _ :: _ :: _ :: _ => simp at this
theorem Sh.os {vs : List (Str × Int)} {os : List (Str × Str × Tm)} (h : Sh vs os) : (∃ p, os = [p]) ∨ ∃ p q, os = [p, q] := by
  have := h.o
  match os with
  | [] => simp at this
  | [a] => exact .inl ⟨a, rfl⟩
  | [a, b] => exact .inr ⟨a, b, rfl⟩
  | _ :: _ :: _ :: _ => simp at this
def linkB : List Mp.S := [
  .set 2 (.ix (.v 1) (.int 2)),
  .for_ (.tp [3, 4, 5]) .rev [.ix (.v 0) (.int 1)] none [
    .set 2 (.tup [.str "proc", .v 3, .tup [], .v 4, .v 5, .v 2])],
  .set 6 (.tup [.tup [], .str "com", .call "wrapped" [.ix (.v 0) (.int 0), .call "first_state" [.v 0], .str "com", .v 2]])]
theorem linkB_ok {n : Nat} {vs : List (Str × Int)} {os : List (Str × Str × Tm)} (h : Sh vs os) {sg : D} {k : Str} {t : Tm} : resE 6 (dB (P.cs_ (n + 4)) linkB [some (md vs os), some (clD sg k t), none, none, none, none, none]) = some (pcD (wr vs (prcs os t))) := by
  rcases h.vs with rfl | ⟨a, rfl⟩ | ⟨a, b, rfl⟩ | ⟨a, b, c, rfl⟩ <;> rcases h.os with ⟨p, rfl⟩ | ⟨p, q, rfl⟩ <;> kernel_rfl
theorem linked_ok {n : Nat} {vs : List (Str × Int)} {os : List (Str × Str × Tm)} (h : Sh vs os) {sg : D} {k : Str} {t : Tm} : ∃ ls, P.call (n + 5) "_law_linked" [md vs os, clD sg k t] = .ok (pcD (wr vs (prcs os t))) ls := by
  apply okv_ok
  rcases h.vs with rfl | ⟨a, rfl⟩ | ⟨a, b, rfl⟩ | ⟨a, b, c, rfl⟩ <;> rcases h.os with ⟨p, rfl⟩ | ⟨p, q, rfl⟩ <;> kernel_rfl
theorem find_link : P.find f_link.d.name = some f_link := by kernel_rfl
theorem linkB_env {n : Nat} {vs : List (Str × Int)} {os : List (Str × Str × Tm)} (h : Sh vs os) {sg : D} {k : Str} {t : Tm} : resE 0 (dB (P.cs_ (n + 4)) linkB [some (md vs os), some (clD sg k t), none, none, none, none, none]) = some (md vs os) := by
  rcases h.vs with rfl | ⟨a, rfl⟩ | ⟨a, b, rfl⟩ | ⟨a, b, c, rfl⟩ <;> rcases h.os with ⟨p, rfl⟩ | ⟨p, q, rfl⟩ <;> kernel_rfl
section
variable {n : Nat} {vs : List (Str × Int)} {os : List (Str × Str × Tm)} {sg : D} {k : Str} {t : Tm} {ls : List D}
theorem link_s1 {E0 : Mp.Env} {m c : D} (h0 : getS E0 0 = some m) (h1 : getS E0 1 = some c) (hcc : P.call (n + 4) "check_client" [m, c] = .ok .non ls) : dS (P.cs_ (n + 4)) (.ex (.call "check_client" [.v 0, .v 1])) E0 = .ok .nx E0 :=
  dS_ex (ev_call (C := P.cs_ (n + 4)) (evs_cons (ev_v h0) (evs_cons (ev_v h1) evs_nil)) rfl hcc)
theorem link_ok (h : Sh vs os) (hcc : P.call (n + 4) "check_client" [md vs os, clD sg k t] = .ok .non ls) (h1 : (wr vs (prcs os t)).sz ≤ 400) (h2 : (wr vs (prcs os t)).hg ≤ 29) : ∃ ls, P.call (n + 5) "link" [md vs os, clD sg k t] = .ok (pcD (wr vs (prcs os t))) ls := by
  obtain ⟨e, hb, he⟩ := resE_ok (linkB_ok (n := n) h (sg := sg) (k := k) (t := t))
  obtain ⟨ls', hs⟩ := size_ok (n := n) h1 h2
  have s3 : dS (P.cs_ (n + 4)) (.ex (.call "check_size" [.v 6])) e = .ok .nx e := dS_ex (ev_call (C := P.cs_ (n + 4)) (evs_cons (ev_v he) evs_nil) rfl hs)
  exact call_rt (P := P) (n := n + 4) (F := f_link) (ds := [md vs os, clD sg k t]) find_link rfl (dB_cons (link_s1 rfl rfl hcc) (dB_app (a := linkB) hb (dB_cons s3 (dB_ret (dS_ret (ev_v he))))))
theorem dS_exx {C : Cs} {x : E} {e e1 : Mp.Env} {c : Str} (h : (den C x).1 e = .ex c e1) : dS C (.ex x) e = .ex c e1 := by
  simp only [dS, M.bind, h]
theorem dS_setx {C : Cs} {i : Nat} {x : E} {e e1 : Mp.Env} {c : Str} (h : (den C x).1 e = .ex c e1) : dS C (.set i x) e = .ex c e1 := by
  simp only [dS, M.bind, h]
theorem link_large (h : Sh vs os) (hcc : P.call (n + 4) "check_client" [md vs os, clD sg k t] = .ok .non ls) (h1 : (wr vs (prcs os t)).sz ≤ 20000) (h2 : 400 < (wr vs (prcs os t)).sz ∨ 30 < 1 + (wr vs (prcs os t)).hg) : P.call (n + 5) "link" [md vs os, clD sg k t] = .ex "TooLarge" := by
  obtain ⟨e, hb, he⟩ := resE_ok (linkB_ok (n := n) h (sg := sg) (k := k) (t := t))
  have hs := size_no (n := n) h1 h2
  have s3 : dS (P.cs_ (n + 4)) (.ex (.call "check_size" [.v 6])) e = .ex "TooLarge" e := dS_exx (ev_callx (C := P.cs_ (n + 4)) (evs_cons (ev_v he) evs_nil) rfl hs)
  exact call_ex (P := P) (n := n + 4) (F := f_link) (ds := [md vs os, clD sg k t]) find_link rfl (dB_cons (link_s1 rfl rfl hcc) (dB_app (a := linkB) hb (dB_cex s3)))
theorem link_cc {m c : D} {x : Str} (hcc : P.call (n + 4) "check_client" [m, c] = .ex x) : P.call (n + 5) "link" [m, c] = .ex x :=
  call_ex (P := P) (n := n + 4) (F := f_link) (ds := [m, c]) (e := [some m, some c, none, none, none, none, none]) find_link rfl (dB_cex (dS_exx (ev_callx (C := P.cs_ (n + 4)) (evs_cons (ev_v rfl) (evs_cons (ev_v rfl) evs_nil)) rfl hcc)))
/-! ### what is told -/
theorem find_told : P.find f__law_told.d.name = some f__law_told := by kernel_rfl
def hdT : Mp.S := .hd ["BadName"] (some 3) [
    .ret (.ix (.lst [.str "name", .str "odd"]) (.bi .int [.or [.not (.isi (.v 3) [.exc "DoppelError"]), .isi (.v 3) [.exc "BadKind", .exc "NotAllowed"]]]))] (.hd ["BadKind"] (some 3) [
    .ret (.ix (.lst [.str "bad kind", .str "odd"]) (.bi .int [.or [.not (.isi (.v 3) [.exc "DoppelError"]), .isi (.v 3) [.exc "BadName", .exc "TooLarge"]]]))] (.hd ["TooLarge"] none [
    .ret (.str "large")] .hn))
theorem told_ex {m c : D} {x r : Str} (hl : P.call (n + 5) "link" [m, c] = .ex x) (hx : (P.cs_ (n + 5)).isx x = true) (hh : rtv (dH (P.cs_ (n + 5)) hdT x [some m, some c, none, none]) = some (.str r)) : ∃ ls, P.call (n + 6) "_law_told" [m, c] = .ok (.str r) ls := by
  obtain ⟨e, he⟩ := rtv_ok hh
  have s1 : dB (P.cs_ (n + 5)) [.set 2 (.call "link" [.v 0, .v 1])] [some m, some c, none, none] = .ex x [some m, some c, none, none] := dB_cex (dS_setx (ev_callx (C := P.cs_ (n + 5)) (evs_cons (ev_v rfl) (evs_cons (ev_v rfl) evs_nil)) rfl hl))
  exact call_rt (P := P) (n := n + 5) (F := f__law_told) (ds := [m, c]) find_told rfl (dB_ret (dS_try_ex s1 hx he))
theorem told_name {m c : D} (hcc : P.call (n + 4) "check_client" [m, c] = .ex "BadName") : ∃ ls, P.call (n + 6) "_law_told" [m, c] = .ok (.str "name") ls :=
  told_ex (link_cc hcc) (by kernel_rfl) (by kernel_rfl)
theorem told_kind {m c : D} (hcc : P.call (n + 4) "check_client" [m, c] = .ex "BadKind") : ∃ ls, P.call (n + 6) "_law_told" [m, c] = .ok (.str "bad kind") ls :=
  told_ex (link_cc hcc) (by kernel_rfl) (by kernel_rfl)
theorem told_large (h : Sh vs os) (hcc : P.call (n + 4) "check_client" [md vs os, clD sg k t] = .ok .non ls) (h1 : (wr vs (prcs os t)).sz ≤ 20000) (h2 : 400 < (wr vs (prcs os t)).sz ∨ 30 < 1 + (wr vs (prcs os t)).hg) : ∃ ls, P.call (n + 6) "_law_told" [md vs os, clD sg k t] = .ok (.str "large") ls :=
  told_ex (link_large h hcc h1 h2) (by kernel_rfl) (by kernel_rfl)
theorem told_right (h : Sh vs os) (hcc : P.call (n + 4) "check_client" [md vs os, clD sg k t] = .ok .non ls) (h1 : (wr vs (prcs os t)).sz ≤ 400) (h2 : (wr vs (prcs os t)).hg ≤ 29) (h3 : (pcD (wr vs (prcs os t))).shp = true) : ∃ ls, P.call (n + 6) "_law_told" [md vs os, clD sg k t] = .ok (.str "right") ls := by
  obtain ⟨l1, hl⟩ := link_ok h hcc h1 h2
  obtain ⟨l2, hk⟩ := linked_ok (n := n) h (sg := sg) (k := k) (t := t)
  let C := P.cs_ (n + 5)
  let m := md vs os
  let c := clD sg k t
  let X := pcD (wr vs (prcs os t))
  let E1 : Mp.Env := [some m, some c, some X, none]
  have s1 : dB C [.set 2 (.call "link" [.v 0, .v 1])] [some m, some c, none, none] = .ok .nx E1 := dB_cons (dS_set (e1 := [some m, some c, none, none]) (ev_call (C := C) (evs_cons (ev_v rfl) (evs_cons (ev_v rfl) evs_nil)) rfl hl)) dB_nil
  have c1 : (den C (.call "_law_linked" [.v 0, .v 1])).1 E1 = .ok X E1 := ev_call (C := C) (evs_cons (ev_v rfl) (evs_cons (ev_v rfl) evs_nil)) rfl hk
  have c2 := (ev_cmp (C := C) (o := .eq) (a := .v 2) (b := .call "_law_linked" [.v 0, .v 1]) (x := X) (y := X) (k := true) (e := E1) (e1 := E1) (e2 := E1) (ev_v rfl) c1 (eqD_refl h3)).1
  exact call_rt (P := P) (n := n + 5) (F := f__law_told) (ds := [m, c]) (r := .str "right") find_told rfl (dB_cons (dS_try_ok s1) (dB_ret (dS_ret (ev_ix (x := .lst [.str "other", .str "right"]) (ev_lst (evs_cons ev_str (evs_cons ev_str evs_nil))) (ev_bi1 c2 intB) at1))))
end
end Lw
namespace Lw
open PySem Mp TL
/-! ### depth, names -/
def Tm.ht : Tm → Nat
  | set _ a => a.ht + 1
  | blk _ a => a.ht + 1
  | b2 _ a b => max a.ht b.ht + 1
  | seq a b => max a.ht b.ht + 1
  | ite a b c => max a.ht (max b.ht c.ht) + 1
  | new _ a b => max a.ht b.ht + 1
  | prc _ _ a b => max a.ht b.ht + 1
  | _ => 2
def Tm.ok : Tm → Prop
  | read x => okS x
  | cal x => okS x
  | set x a => okS x ∧ a.ok
  | blk x a => okS x ∧ a.ok
  | b2 _ a b => a.ok ∧ b.ok
  | seq a b => a.ok ∧ b.ok
  | ite a b c => a.ok ∧ b.ok ∧ c.ok
  | new x a b => okS x ∧ a.ok ∧ b.ok
  | prc x k a b => okS x ∧ okS k ∧ a.ok ∧ b.ok
  | _ => True
theorem ht_pos (t : Tm) : 2 ≤ t.ht := by
  induction t <;> simp only [Tm.ht] <;> omega
theorem hg_ht (t : Tm) : t.hg ≤ t.ht := by
  induction t with
  | seq a b ia ib => simp only [Tm.hg, Tm.ht]; split <;> omega
  | _ => simp only [Tm.hg, Tm.ht]; omega
theorem dpB_mono {k k' : Nat} {d : D} (h : dpB k d = true) (hk : k ≤ k') : dpB k' d = true := by
  unfold dpB at h ⊢
  rw [Bool.and_eq_true, decide_eq_true_eq] at h ⊢
  exact ⟨h.1, by omega⟩
theorem tg {t : Tm} {k : Nat} : dpB k (.str t.tag) = true := dpB_str (tag_ok t)
theorem dpT {t : Tm} : t.ok → dpB t.ht t.D = true := by
  induction t with
  | z w => intro _; exact dpB_tup (k := 1) fun d hd => by simp only [List.mem_cons, List.not_mem_nil, or_false] at hd; subst hd; exact tg (t := .z w)
  | num m =>
    intro _
    exact dpB_tup (k := 1) fun d hd => by
      simp only [List.mem_cons, List.not_mem_nil, or_false] at hd
      rcases hd with rfl | rfl
      · exact tg (t := .num m)
      · exact dpB_int
  | read x =>
    intro h
    exact dpB_tup (k := 1) fun d hd => by
      simp only [List.mem_cons, List.not_mem_nil, or_false] at hd
      rcases hd with rfl | rfl
      · exact tg (t := .read x)
      · exact dpB_str h
  | cal x =>
    intro h
    exact dpB_tup (k := 1) fun d hd => by
      simp only [List.mem_cons, List.not_mem_nil, or_false] at hd
      rcases hd with rfl | rfl | rfl
      · exact tg (t := .cal x)
      · exact dpB_str h
      · exact dpB_tup (k := 0) fun d hd => by cases hd
  | set x a ia =>
    intro h
    exact dpB_tup (k := a.ht) fun d hd => by
      simp only [List.mem_cons, List.not_mem_nil, or_false] at hd
      rcases hd with rfl | rfl | rfl
      · exact tg (t := .set x a)
      · exact dpB_str h.1
      · exact ia h.2
  | blk x a ia =>
    intro h
    exact dpB_tup (k := a.ht) fun d hd => by
      simp only [List.mem_cons, List.not_mem_nil, or_false] at hd
      rcases hd with rfl | rfl | rfl
      · exact tg (t := .blk x a)
      · exact dpB_str h.1
      · exact ia h.2
  | b2 w a b ia ib =>
    intro h
    exact dpB_tup (k := max a.ht b.ht) fun d hd => by
      simp only [List.mem_cons, List.not_mem_nil, or_false] at hd
      rcases hd with rfl | rfl | rfl
      · exact tg (t := .b2 w a b)
      · exact dpB_mono (ia h.1) (by omega)
      · exact dpB_mono (ib h.2) (by omega)
  | seq a b ia ib =>
    intro h
    exact dpB_tup (k := max a.ht b.ht) fun d hd => by
      simp only [List.mem_cons, List.not_mem_nil, or_false] at hd
      rcases hd with rfl | rfl | rfl
      · exact tg (t := .seq a b)
      · exact dpB_mono (ia h.1) (by omega)
      · exact dpB_mono (ib h.2) (by omega)
  | ite a b c ia ib ic =>
    intro h
    exact dpB_tup (k := max a.ht (max b.ht c.ht)) fun d hd => by
      simp only [List.mem_cons, List.not_mem_nil, or_false] at hd
      rcases hd with rfl | rfl | rfl | rfl
      · exact tg (t := .ite a b c)
      · exact dpB_mono (ia h.1) (by omega)
      · exact dpB_mono (ib h.2.1) (by omega)
      · exact dpB_mono (ic h.2.2) (by omega)
  | new x a b ia ib =>
    intro h
    exact dpB_tup (k := max a.ht b.ht) fun d hd => by
      simp only [List.mem_cons, List.not_mem_nil, or_false] at hd
      rcases hd with rfl | rfl | rfl | rfl
      · exact tg (t := .new x a b)
      · exact dpB_str h.1
      · exact dpB_mono (ia h.2.1) (by omega)
      · exact dpB_mono (ib h.2.2) (by omega)
  | prc x k a b ia ib =>
    intro h
    exact dpB_tup (k := max a.ht b.ht) fun d hd => by
      have := ht_pos a
      simp only [List.mem_cons, List.not_mem_nil, or_false] at hd
      rcases hd with rfl | rfl | rfl | rfl | rfl | rfl
      · exact tg (t := .prc x k a b)
      · exact dpB_str h.1
      · exact dpB_mono (dpB_tup (k := 0) (xs := []) fun d hd => by cases hd) (by omega)
      · exact dpB_str h.2.1
      · exact dpB_mono (ia h.2.2.1) (by omega)
      · exact dpB_mono (ib h.2.2.2) (by omega)
theorem okC : okS "com" := okS_of (by decide +kernel)
theorem pc_shp {t : Tm} (h : t.ok) (hh : t.ht ≤ 63) : (pcD t).shp = true := by
  refine dpB_shp (k := t.ht + 1) (dpB_tup fun d hd => ?_) (by omega)
  have := ht_pos t
  simp only [List.mem_cons, List.not_mem_nil, or_false] at hd
  rcases hd with rfl | rfl | rfl
  · exact dpB_mono (dpB_tup (k := 0) (xs := []) fun d hd => by cases hd) (by omega)
  · exact dpB_str okC
  · exact dpT h
/-! ### the module's part -/
def kS : Bool → Str
  | true => "com"
  | false => "exp"
/-- a generated term -/
structure Gd (s h : Nat) (t : Tm) : Prop where
  s : t.sz ≤ s
  h : t.ht ≤ h
  k : t.ok
theorem kS_ok (b : Bool) : okS (kS b) := by
  cases b
  · exact okS_of (by decide +kernel)
  · exact okS_of (by decide +kernel)
structure Mo (vs : List (Str × Int)) (os : List (Str × Str × Tm)) : Prop extends Sh vs os where
  vk : ∀ v ∈ vs, okS v.1
  ok : ∀ o ∈ os, okS o.1 ∧ okS o.2.1 ∧ Gd 30 10 o.2.2
theorem wr_sz {vs : List (Str × Int)} {t : Tm} : (wr vs t).sz = 2 * vs.length + t.sz := by
  induction vs with
  | nil => simp [wr]
  | cons v vs ih =>
    show (Tm.new v.1 (.num v.2) (wr vs t)).sz = _
    simp only [Tm.sz, ih, List.length_cons]; omega
theorem wr_hg {vs : List (Str × Int)} {t : Tm} : (wr vs t).hg = vs.length + t.hg := by
  induction vs with
  | nil => simp [wr]
  | cons v vs ih =>
    show (Tm.new v.1 (.num v.2) (wr vs t)).hg = _
    simp only [Tm.hg, ih, List.length_cons]; omega
theorem wr_ht {vs : List (Str × Int)} {t : Tm} : (wr vs t).ht = vs.length + t.ht := by
  have := ht_pos t
  induction vs with
  | nil => simp [wr]
  | cons v vs ih =>
    show (Tm.new v.1 (.num v.2) (wr vs t)).ht = _
    simp only [Tm.ht, ih, List.length_cons]; omega
theorem wr_ok {vs : List (Str × Int)} {t : Tm} (h : ∀ v ∈ vs, okS v.1) (ht : t.ok) : (wr vs t).ok := by
  induction vs with
  | nil => exact ht
  | cons v vs ih => exact ⟨h v List.mem_cons_self, trivial, ih fun w hw => h w (List.mem_cons_of_mem _ hw)⟩
theorem prcs_b {os : List (Str × Str × Tm)} {t : Tm} (h : ∀ o ∈ os, okS o.1 ∧ okS o.2.1 ∧ Gd 30 10 o.2.2) (ht : t.ok) : (prcs os t).sz ≤ 31 * os.length + t.sz ∧ 2 * os.length + t.sz ≤ (prcs os t).sz ∧ (prcs os t).hg ≤ max (10 + os.length) (os.length + t.hg) ∧ os.length + t.hg ≤ (prcs os t).hg ∧ (prcs os t).ht ≤ max (10 + os.length) (os.length + t.ht) ∧ (prcs os t).ok := by
  induction os with
  | nil => simp only [prcs, List.foldr_nil, List.length_nil]; exact ⟨by omega, by omega, by omega, by omega, by omega, ht⟩
  | cons o os ih =>
    obtain ⟨a1, a2, a3, a4, a5, a6⟩ := ih fun w hw => h w (List.mem_cons_of_mem _ hw)
    obtain ⟨b1, b2, b3, b4, b5⟩ := h o List.mem_cons_self
    have b6 := hg_ht o.2.2
    have b7 := sz_pos o.2.2
    show (Tm.prc o.1 o.2.1 o.2.2 (prcs os t)).sz ≤ _ ∧ _ ≤ (Tm.prc o.1 o.2.1 o.2.2 (prcs os t)).sz ∧ (Tm.prc o.1 o.2.1 o.2.2 (prcs os t)).hg ≤ _ ∧ _ ≤ (Tm.prc o.1 o.2.1 o.2.2 (prcs os t)).hg ∧ (Tm.prc o.1 o.2.1 o.2.2 (prcs os t)).ht ≤ _ ∧ (Tm.prc o.1 o.2.1 o.2.2 (prcs os t)).ok
    simp only [Tm.sz, Tm.hg, Tm.ht, List.length_cons]
    exact ⟨by omega, by omega, by omega, by omega, by omega, b1, b2, b5, a6⟩
section
variable {n : Nat} {vs : List (Str × Int)} {os : List (Str × Str × Tm)} {sg : D} {k : Str} {t : Tm} {ls : List D}
theorem right_of (h : Mo vs os) (hcc : P.call (n + 4) "check_client" [md vs os, clD sg k t] = .ok .non ls) (hk : t.ok) (h1 : t.sz ≤ 200) (h2 : vs.length + os.length + t.hg ≤ 29) (h3 : t.ht ≤ 45) : ∃ ls, P.call (n + 6) "_law_told" [md vs os, clD sg k t] = .ok (.str "right") ls := by
  obtain ⟨a1, a2, a3, a4, a5, a6⟩ := prcs_b h.ok hk
  have hv := h.v
  have ho := h.o
  exact told_right h.toSh hcc (by rw [wr_sz]; omega) (by rw [wr_hg]; omega) (pc_shp (wr_ok h.vk a6) (by rw [wr_ht]; omega))
theorem large_of (h : Mo vs os) (hcc : P.call (n + 4) "check_client" [md vs os, clD sg k t] = .ok .non ls) (hk : t.ok) (h1 : t.sz ≤ 1000) (h2 : 399 ≤ t.sz ∨ vs.length + os.length + t.hg = 30) : ∃ ls, P.call (n + 6) "_law_told" [md vs os, clD sg k t] = .ok (.str "large") ls := by
  obtain ⟨a1, a2, a3, a4, a5, a6⟩ := prcs_b h.ok hk
  have hv := h.v
  have ho := h.o
  exact told_large h.toSh hcc (by rw [wr_sz]; omega) (by rw [wr_sz, wr_hg]; omega)
end
/-! ### long and deep -/
def longT : Nat → Tm
  | 0 => .z 0
  | m + 1 => .seq (longT m) (.z 0)
def deepT : Nat → Tm
  | 0 => .z 0
  | m + 1 => .blk "lab" (deepT m)
theorem long_b : ∀ m, (longT m).sz = 2 * m + 1 ∧ (longT m).hg ≤ 1 ∧ (longT m).ht = m + 2 ∧ (longT m).ok
  | 0 => ⟨rfl, by decide, rfl, trivial⟩
  | m + 1 => by
    obtain ⟨h1, h2, h3, h4⟩ := long_b m
    refine ⟨by simp only [longT, Tm.sz, h1]; omega, ?_, by simp only [longT, Tm.ht, h3]; omega, h4, trivial⟩
    cases m with
    | zero => decide
    | succ m =>
      simp only [longT, Tm.hg, Tm.isSeq, if_true] at h2 ⊢
      omega
theorem deep_b : ∀ m, (deepT m).sz = m + 1 ∧ (deepT m).hg = m ∧ (deepT m).ht = m + 2 ∧ (deepT m).ok
  | 0 => ⟨rfl, rfl, rfl, trivial⟩
  | m + 1 => by
    obtain ⟨h1, h2, h3, h4⟩ := deep_b m
    exact ⟨by simp only [deepT, Tm.sz, h1], by simp only [deepT, Tm.hg, h2], by simp only [deepT, Tm.ht, h3], okS_of (by decide +kernel), h4⟩
theorem find_long : P.find f__law_long.d.name = some f__law_long := by kernel_rfl
theorem find_deep : P.find f__law_deep.d.name = some f__law_deep := by kernel_rfl
theorem b62 {m : Nat} (h : m ≤ 100000) : B62 (m : Int) = true := by unfold B62; simp; omega
theorem long_ok {n m : Nat} (hm : m ≤ 1000) : ∃ ls, P.call (n + 1) "_law_long" [.int m] = .ok (clD (.tup []) "com" (longT m)) ls := by
  let C := P.cs_ n
  let E0 : Mp.Env := [some (.int m), some (longT 0).D, none]
  have s1 : dS C (.set 1 (.tup [.str "skip"])) [some (.int m), none, none] = .ok .nx E0 := dS_set (e1 := [some (.int m), none, none]) (ev_tup (evs_cons ev_str evs_nil))
  obtain ⟨e', g1, o2, rfl⟩ := for_inv (t := .nm 2) (body := dB C [.set 1 (.tup [.str "seq", .v 1, .tup [.str "skip"]])]) (fun j e => ∃ o2, e = [some (.int m), some (longT j).D, o2]) (rngD 0 m) 0 E0 ⟨none, rfl⟩ fun j d e hj ⟨o2, he⟩ => by
    subst he
    obtain ⟨hj1, rfl⟩ := rngD_get hj
    let E1 : Mp.Env := [some (.int m), some (longT (0 + j)).D, some (.int (0 + (j : Int)))]
    exact ⟨E1, rfl, _, .inl (dB_cons (dS_set (e1 := E1) (ev_tup (evs_cons ev_str (evs_cons (ev_v rfl) (evs_cons (ev_tup (evs_cons ev_str evs_nil)) evs_nil))))) dB_nil), _, rfl⟩
  rw [rngD_len, Nat.zero_add] at g1
  have s2 : dS C (.for_ (.nm 2) .rng [.v 0] none [.set 1 (.tup [.str "seq", .v 1, .tup [.str "skip"]])]) E0 = .ok .nx [some (.int m), some (longT m).D, o2] :=
    (dS_for (as := [.int m]) (ds := rngD 0 m) (e1 := E0) (evs_cons (ev_v rfl) evs_nil) (by simp only [itF, b62 (show m ≤ 100000 by omega), if_true, Int.toNat_natCast])).trans g1
  exact call_rt (P := P) (n := n) (F := f__law_long) (ds := [.int m]) (r := clD (.tup []) "com" (longT m)) find_long rfl (dB_cons s1 (dB_cons s2 (dB_ret (dS_ret (ev_tup (evs_cons (ev_tup evs_nil) (evs_cons ev_str (evs_cons (ev_v rfl) evs_nil))))))))
theorem deep_ok {n m : Nat} {k : Int} (hm : m ≤ 1000) (hk : k = m + 1) : ∃ ls, P.call (n + 1) "_law_deep" [.int k] = .ok (clD (.tup []) "com" (deepT m)) ls := by
  subst hk
  let C := P.cs_ n
  let E0 : Mp.Env := [some (.int (m + 1)), some (deepT 0).D, none]
  have s1 : dS C (.set 1 (.tup [.str "skip"])) [some (.int (m + 1)), none, none] = .ok .nx E0 := dS_set (e1 := [some (.int (m + 1)), none, none]) (ev_tup (evs_cons ev_str evs_nil))
  obtain ⟨e', g1, o2, rfl⟩ := for_inv (t := .nm 2) (body := dB C [.set 1 (.tup [.str "block", .str "lab", .v 1])]) (fun j e => ∃ o2, e = [some (.int (m + 1)), some (deepT j).D, o2]) (rngD 0 m) 0 E0 ⟨none, rfl⟩ fun j d e hj ⟨o2, he⟩ => by
    subst he
    obtain ⟨hj1, rfl⟩ := rngD_get hj
    let E1 : Mp.Env := [some (.int (m + 1)), some (deepT (0 + j)).D, some (.int (0 + (j : Int)))]
    exact ⟨E1, rfl, _, .inl (dB_cons (dS_set (e1 := E1) (ev_tup (evs_cons ev_str (evs_cons ev_str (evs_cons (ev_v rfl) evs_nil))))) dB_nil), _, rfl⟩
  rw [rngD_len, Nat.zero_add] at g1
  have s2 : dS C (.for_ (.nm 2) .rng [.bin .sub (.v 0) (.int 1)] none [.set 1 (.tup [.str "block", .str "lab", .v 1])]) E0 = .ok .nx [some (.int (m + 1)), some (deepT m).D, o2] := by
    refine (dS_for (as := [.int m]) (ds := rngD 0 m) (e1 := E0) (evs_cons (ev_bin (x := .int (m + 1)) (ev_v rfl) ev_int ?_) evs_nil) (by simp only [itF, b62 (show m ≤ 100000 by omega), if_true, Int.toNat_natCast])).trans g1
    rw [subI]
    congr 2
    omega
  exact call_rt (P := P) (n := n) (F := f__law_deep) (ds := [.int (m + 1)]) (r := clD (.tup []) "com" (deepT m)) find_deep rfl (dB_cons s1 (dB_cons s2 (dB_ret (dS_ret (ev_tup (evs_cons (ev_tup evs_nil) (evs_cons ev_str (evs_cons (ev_v rfl) evs_nil))))))))
/-! ### check_client upon what the law hands it -/
def sg1 (x k : Str) (ts : List D) : D := .tup [.str x, .tup ts, .str k]
def go : Str := "go"
def get : Str := "get"
def Os (os : List (Str × Str × Tm)) : Prop := (∃ b t, os = [(go, kS b, t)]) ∨ ∃ b t c u, os = [(go, kS b, t), (get, kS c, u)]
/-- the operation chosen -/
def Ch (os : List (Str × Str × Tm)) (x : Str) (b : Bool) : Prop := ∃ t, (x, kS b, t) ∈ os
def exv : CR → Option Str
  | .ex c => some c
  | _ => none
theorem exv_ok {c : CR} {x : Str} (h : exv c = some x) : c = .ex x := by
  cases c with
  | ex c => cases h; rfl
  | ok r ls => cases h
  | no => cases h
theorem ch_cases {os : List (Str × Str × Tm)} (h : Os os) : ∀ (R : List (Str × Str × Tm) → Str → Bool → Prop), (∀ b t, R [(go, kS b, t)] go b) → (∀ b t c u, R [(go, kS b, t), (get, kS c, u)] go b) → (∀ b t c u, R [(go, kS b, t), (get, kS c, u)] get c) → ∀ (j : Nat) (x y : Str) (t : Tm), os[j]? = some (x, y, t) → ∃ b, y = kS b ∧ R os x b := by
  intro R h1 h2 h3 j x y t hj
  rcases h with ⟨b, t', rfl⟩ | ⟨b, t', c, u, rfl⟩
  · match j, hj with
    | 0, hj => cases hj; exact ⟨b, rfl, h1 _ _⟩
    | j + 1, hj => cases hj
  · match j, hj with
    | 0, hj => cases hj; exact ⟨b, rfl, h2 _ _ _ _⟩
    | 1, hj => cases hj; exact ⟨c, rfl, h3 _ _ _ _⟩
    | j + 2, hj => cases hj
/-- what check_client answers -/
structure Cc (n : Nat) (vs : List (Str × Int)) (os : List (Str × Str × Tm)) (x : Str) (b : Bool) : Prop where
  a1 : ∀ t : Tm, okv (P.call (n + 4) "check_client" [md vs os, clD (.tup [sg1 x (kS b) []]) "com" t]) = some .non
  a2 : ∀ t : Tm, okv (P.call (n + 4) "check_client" [md vs os, clD (.tup []) "com" t]) = some .non
  b1 : ∀ t : Tm, exv (P.call (n + 4) "check_client" [md vs os, clD (.tup [sg1 x (kS b) [], sg1 "none" "com" []]) "com" t]) = some "BadName"
  b2 : ∀ t : Tm, exv (P.call (n + 4) "check_client" [md vs os, clD (.tup [sg1 x (kS !b) [], sg1 "zz" "com" []]) "exp" t]) = some "BadName"
  c1 : ∀ t : Tm, exv (P.call (n + 4) "check_client" [md vs os, clD (.tup [sg1 x (kS !b) []]) "com" t]) = some "BadKind"
  c2 : ∀ t : Tm, exv (P.call (n + 4) "check_client" [md vs os, clD (.tup [sg1 x (kS b) [.str "com"]]) "com" t]) = some "BadKind"
  c3 : ∀ t : Tm, exv (P.call (n + 4) "check_client" [md vs os, clD (.tup []) "exp" t]) = some "BadKind"
theorem cc_all {n : Nat} {vs : List (Str × Int)} {os : List (Str × Str × Tm)} (h : Os os) : ∀ (j : Nat) (x y : Str) (t : Tm), os[j]? = some (x, y, t) → ∃ b, y = kS b ∧ Cc n vs os x b := by
  refine ch_cases h (Cc n vs) ?_ ?_ ?_
  · intro b t
    cases b <;> constructor <;> intro t' <;> kernel_rfl
  · intro b t c u
    cases b <;> cases c <;> constructor <;> intro t' <;> kernel_rfl
  · intro b t c u
    cases b <;> cases c <;> constructor <;> intro t' <;> kernel_rfl
end Lw
namespace Lw
open PySem Mp TL
/-! ### terms drawn -/
def nmD (zs : List Str) : D := .lst (zs.map .str)
structure Nm (k : Nat) (zs : List Str) : Prop where
  l : zs.length ≤ k
  k : ∀ z ∈ zs, okS z
def loc : Str := "loc"
theorem okLoc : okS loc := okS_of (by decide +kernel)
theorem Nm.loc {k : Nat} {zs : List Str} (h : Nm k zs) : Nm (k + 1) (zs ++ [loc]) :=
  ⟨by have := h.l; simp; omega, fun z hz => (List.mem_append.mp hz).elim (h.k z) fun hz => by rw [List.mem_singleton.mp hz]; exact okLoc⟩
theorem Nm.up {k : Nat} {zs : List Str} (h : Nm k zs) : Nm (k + 1) zs := ⟨by have := h.l; omega, h.k⟩
def NX (C : Cs) (xs : List Int) : Prop := ∀ p m : Nat, 0 < m → ∃ (v : Nat) (ls : List D), v < m ∧ C.cl "_law_next" [stD xs p, .int m] = .ok (.int v) (stD xs (p + 1) :: ls)
def GE (C : Cs) (xs : List Int) (f : Str) (d : Int) (s h k : Nat) : Prop := ∀ (zs : List Str) (p : Nat), Nm k zs → ∃ (t : Tm) (p' : Nat) (ls : List D), Gd s h t ∧ C.cl f [stD xs p, nmD zs, .int d] = .ok t.D (stD xs p' :: ls)
def ge (xs : List Int) (zs : List Str) (d : Int) (p : Nat) (o3 o4 o5 o6 : Option D) : Mp.Env := [some (stD xs p), some (nmD zs), some (.int d), o3, o4, o5, o6]
/-- the suite gives a term of these bounds -/
def RB (C : Cs) (xs : List Int) (s h : Nat) (b : List Mp.S) (e : Mp.Env) : Prop := ∃ (t : Tm) (e' : Mp.Env) (p' : Nat), Gd s h t ∧ dB C b e = .ok (.rt t.D) e' ∧ getS e' 0 = some (stD xs p')
section
variable {C : Cs} {xs : List Int} {s h : Nat} {b a : List Mp.S} {e e1 : Mp.Env} {st : Mp.S} {k : E} {zs : List Str} {d : Int} {p : Nat} {o3 o4 o5 o6 : Option D}
theorem RB.nx (h1 : dS C st e = .ok .nx e1) (h2 : RB C xs s h b e1) : RB C xs s h (st :: b) e := by
  obtain ⟨t, e', p', g, hb, hp⟩ := h2
  exact ⟨t, e', p', g, dB_cons h1 hb, hp⟩
theorem RB.t {b' : List Mp.S} (h1 : (den C k).2 e = .ok true e1) (h2 : RB C xs s h a e1) : RB C xs s h (.ifs k a b' :: b) e := by
  obtain ⟨t, e', p', g, hb, hp⟩ := h2
  exact ⟨t, e', p', g, dB_ret (if_t h1 hb), hp⟩
theorem RB.f (h1 : (den C k).2 e = .ok false e1) (h2 : RB C xs s h b e1) : RB C xs s h (.ifs k a [] :: b) e := by
  obtain ⟨t, e', p', g, hb, hp⟩ := h2
  exact ⟨t, e', p', g, dB_cons (if_f h1 dB_nil) hb, hp⟩
theorem RB.r {x : E} {t : Tm} (h1 : (den C x).1 e = .ok t.D (ge xs zs d p o3 o4 o5 o6)) (g : Gd s h t) : RB C xs s h (.ret x :: b) e := ⟨t, _, p, g, dB_ret (dS_ret h1), rfl⟩
theorem ev_nx (nx : NX C xs) {x : E} {m : Nat} (hm : 0 < m) (hx : (den C x).1 (ge xs zs d p o3 o4 o5 o6) = .ok (.int m) (ge xs zs d p o3 o4 o5 o6)) (hn : noLn x = true) : ∃ v : Nat, v < m ∧ (den C (.call "_law_next" [.ln 0, x])).1 (ge xs zs d p o3 o4 o5 o6) = .ok (.int v) (ge xs zs d (p + 1) o3 o4 o5 o6) := by
  obtain ⟨v, ls, hv, hc⟩ := nx p m hm
  exact ⟨v, hv, ev_callL (e := ge xs zs d p o3 o4 o5 o6) (e1 := ge xs zs d p o3 o4 o5 o6) rfl (evs_cons hx evs_nil) (by simp [hn]) rfl hc⟩
theorem ev_rc {f : Str} {kk : Nat} {zs' : List Str} {ze : E} (H : GE C xs f (d - 1) s h kk) (hz : Nm kk zs') (hze : (den C ze).1 (ge xs zs d p o3 o4 o5 o6) = .ok (nmD zs') (ge xs zs d p o3 o4 o5 o6)) (hn : noLn ze = true) : ∃ (t : Tm) (p' : Nat), Gd s h t ∧ (den C (.call f [.ln 0, ze, .bin .sub (.v 2) (.int 1)])).1 (ge xs zs d p o3 o4 o5 o6) = .ok t.D (ge xs zs d p' o3 o4 o5 o6) := by
  obtain ⟨t, p', ls, g, hc⟩ := H zs' p hz
  exact ⟨t, p', g, ev_callL (e := ge xs zs d p o3 o4 o5 o6) (e1 := ge xs zs d p o3 o4 o5 o6) rfl (evs_cons hze (evs_cons (ev_bin (x := .int d) (ev_v rfl) ev_int subI) evs_nil)) (by simp [hn]; rfl) rfl hc⟩
theorem ev_zs : (den C (.v 1)).1 (ge xs zs d p o3 o4 o5 o6) = .ok (nmD zs) (ge xs zs d p o3 o4 o5 o6) := ev_v rfl
theorem ev_zl (hz : zs.length ≤ 1000) : (den C (.bin .add (.v 1) (.lst [.str "loc"]))).1 (ge xs zs d p o3 o4 o5 o6) = .ok (nmD (zs ++ [loc])) (ge xs zs d p o3 o4 o5 o6) := by
  have := ev_bin (C := C) (o := .add) (a := .v 1) (b := .lst [.str "loc"]) (x := nmD zs) (y := .lst [.str "loc"]) (z := nmD (zs ++ [loc])) (e := ge xs zs d p o3 o4 o5 o6) (ev_v rfl) (ev_lst (evs_cons ev_str evs_nil)) (by
    show binD .add (.lst (zs.map .str)) _ = _
    rw [addL (by simp [SZ_big]; omega), nmD, List.map_append]; rfl)
  exact this
theorem ev_len : (den C (.bi .len [.v 1])).1 (ge xs zs d p o3 o4 o5 o6) = .ok (.int (zs.length : Int)) (ge xs zs d p o3 o4 o5 o6) := by
  have := ev_bi1 (C := C) (e := ge xs zs d p o3 o4 o5 o6) (a := .v 1) (x := nmD zs) (ev_v rfl) lenL
  rwa [List.length_map] at this
/-- `.v 3` against a number -/
theorem ev_w {o : CO} {v : Nat} {j : Int} {kb : Bool} (hk : cmpD o (.int (v : Int)) (.int j) = some kb) : (den C (.cmp o (.v 3) (.int j))).2 (ge xs zs d p (some (.int v)) o4 o5 o6) = .ok kb (ge xs zs d p (some (.int v)) o4 o5 o6) :=
  (ev_cmp (e1 := ge xs zs d p (some (.int v)) o4 o5 o6) (ev_v rfl) ev_int hk).2
theorem cmp_eq {v j : Nat} : cmpD .eq (.int (v : Int)) (.int (j : Int)) = some (decide (v = j)) := by
  simp only [cmpD, eqI]
  congr 1
  exact decide_eq_decide.mpr (by omega)
theorem cmp_lt {v j : Nat} : cmpD .lt (.int (v : Int)) (.int (j : Int)) = some (decide (v < j)) := by
  simp only [cmpD, ltI]
  congr 1
  exact decide_eq_decide.mpr (by omega)
theorem ev_first {v : Nat} : (den C (.or [.cmp .eq (.v 3) (.int 0), .and [.cmp .eq (.bi .len [.v 1]) (.int 0), .cmp .lt (.v 3) (.int 3)]])).2 (ge xs zs d p (some (.int v)) o4 o5 o6) = .ok (decide (v = 0 ∨ (zs.length = 0 ∧ v < 3))) (ge xs zs d p (some (.int v)) o4 o5 o6) := by
  have a1 := ev_w (C := C) (j := 0) (o := .eq) (xs := xs) (zs := zs) (d := d) (p := p) (o4 := o4) (o5 := o5) (o6 := o6) (v := v) (cmp_eq (j := 0))
  have a2 : (den C (.cmp .eq (.bi .len [.v 1]) (.int 0))).2 (ge xs zs d p (some (.int v)) o4 o5 o6) = .ok (decide (zs.length = 0)) (ge xs zs d p (some (.int v)) o4 o5 o6) := (ev_cmp ev_len ev_int (cmp_eq (j := 0))).2
  have a3 := ev_w (C := C) (j := 3) (o := .lt) (xs := xs) (zs := zs) (d := d) (p := p) (o4 := o4) (o5 := o5) (o6 := o6) (v := v) (cmp_lt (j := 3))
  have a4 := andP (C := C) (xs := [.cmp .eq (.bi .len [.v 1]) (.int 0), .cmp .lt (.v 3) (.int 3)]) (by simp) (EvT.cons a2 (EvT.cons a3 EvT.nil))
  have a5 := orP (C := C) (xs := [.cmp .eq (.v 3) (.int 0), .and [.cmp .eq (.bi .len [.v 1]) (.int 0), .cmp .lt (.v 3) (.int 3)]]) (by simp) (EvT.cons a1 (EvT.cons a4 EvT.nil))
  rw [a5]
  congr 1
  simp
theorem ev_way (nx : NX C xs) {lo : Int} {l : Nat} (hlo : lo = (l : Int)) (hl : 0 < l) : ∃ v : Nat, v < (if 0 < d then 9 else l) ∧ (den C (.call "_law_next" [.ln 0, .ix (.lst [.int lo, .int 9]) (.bi .int [.cmp .gt (.v 2) (.int 0)])])).1 (ge xs zs d p o3 o4 o5 o6) = .ok (.int v) (ge xs zs d (p + 1) o3 o4 o5 o6) := by
  refine ev_nx nx (m := if 0 < d then 9 else l) (by split <;> omega) ?_ rfl
  have c := (ev_cmp (C := C) (o := .gt) (a := .v 2) (b := .int 0) (x := .int d) (y := .int 0) (k := decide (0 < d)) (e := ge xs zs d p o3 o4 o5 o6) (e1 := ge xs zs d p o3 o4 o5 o6) (e2 := ge xs zs d p o3 o4 o5 o6) (ev_v rfl) ev_int (by simp only [cmpD, ltI])).1
  refine ev_ix (x := .lst [.int lo, .int 9]) (ev_lst (evs_cons ev_int (evs_cons ev_int evs_nil))) (ev_bi1 c intB) ?_
  by_cases hd : 0 < d
  · simp only [hd, decide_true, if_true]; exact at1
  · simp only [hd, decide_false, Bool.false_eq_true, if_false, hlo]; exact at0
end
theorem okzN (w : Fin 3) : (Tm.z w).ok := trivial
theorem bN_at {v : Nat} (hv : v < 5) : ∃ w : Fin 7, L2.atI [D.str "add", .str "sub", .str "mul", .str "equal", .str "less"] (v : Int) = some (.str (bN w)) := by
  match v, hv with
  | 0, _ => exact ⟨1, by kernel_rfl⟩
  | 1, _ => exact ⟨2, by kernel_rfl⟩
  | 2, _ => exact ⟨3, by kernel_rfl⟩
  | 3, _ => exact ⟨4, by kernel_rfl⟩
  | 4, _ => exact ⟨5, by kernel_rfl⟩
theorem name_at {k v : Nat} {zs : List Str} (hz : Nm k zs) (hv : v < zs.length) : ∃ z, okS z ∧ L2.atI (zs.map D.str) (v : Int) = some (.str z) :=
  ⟨zs[v], hz.k _ (List.getElem_mem hv), atI0 (by rw [List.getElem?_map, List.getElem?_eq_getElem hv]; rfl)⟩
theorem exp_step {C : Cs} {xs : List Int} {d : Int} {k se he sc hc s h : Nat} (nx : NX C xs) (hd : 0 < d → GE C xs "_law_exp" (d - 1) se he (k + 1) ∧ GE C xs "_law_com" (d - 1) sc hc (k + 1)) (b0 : 1 ≤ s) (b1 : 2 ≤ h)
    (b2 : 0 < d → 3 * se + 1 ≤ s ∧ sc + se + 1 ≤ s ∧ 2 * se + 2 ≤ s ∧ he + 1 ≤ h ∧ hc + 1 ≤ h) {zs : List Str} {p : Nat} (hz : Nm k zs) (hk : k ≤ 100) :
    RB C xs s h b__law_exp (ge xs zs d p none none none none) := by
  have hl := hz.l
  have g1 : ∀ w, Gd s h (.z w) := fun w => ⟨b0, b1, trivial⟩
  obtain ⟨v, hv, w1⟩ := ev_way (C := C) (zs := zs) (d := d) (p := p) (o3 := none) (o4 := none) (o5 := none) (o6 := none) nx (lo := 3) (l := 3) rfl (by omega)
  refine RB.nx (e1 := ge xs zs d (p + 1) (some (.int v)) none none none) (dS_set w1) ?_
  have t1 := ev_first (C := C) (xs := xs) (zs := zs) (d := d) (p := p + 1) (o4 := none) (o5 := none) (o6 := none) (v := v)
  by_cases c1 : v = 0 ∨ (zs.length = 0 ∧ v < 3)
  · rw [decide_eq_true c1] at t1
    obtain ⟨u, hu, w2⟩ := ev_nx nx (zs := zs) (d := d) (p := p + 1) (o3 := some (.int v)) (o4 := none) (o5 := none) (o6 := none) (x := .int 3) (m := 3) (by omega) ev_int rfl
    exact RB.t t1 (RB.r (t := .num u) (ev_tup (evs_cons ev_str (evs_cons w2 evs_nil))) ⟨b0, b1, trivial⟩)
  rw [decide_eq_false c1] at t1
  refine RB.f t1 ?_
  have t2 := ev_w (C := C) (j := 3) (o := .lt) (xs := xs) (zs := zs) (d := d) (p := p + 1) (o4 := none) (o5 := none) (o6 := none) (v := v) (cmp_lt (j := 3))
  by_cases c2 : v < 3
  · rw [decide_eq_true c2] at t2
    obtain ⟨u, hu, w2⟩ := ev_nx nx (zs := zs) (d := d) (p := p + 1) (o3 := some (.int v)) (o4 := none) (o5 := none) (o6 := none) (x := .bi .len [.v 1]) (m := zs.length) (by omega) ev_len rfl
    obtain ⟨z, zk, hz2⟩ := name_at hz hu
    exact RB.t t2 (RB.r (t := .read z) (ev_tup (evs_cons ev_str (evs_cons (ev_ix (x := nmD zs) ev_zs w2 hz2) evs_nil))) ⟨b0, b1, zk⟩)
  rw [decide_eq_false c2] at t2
  refine RB.f t2 ?_
  have hd0 : 0 < d := by
    by_cases hd0 : 0 < d
    · exact hd0
    · rw [if_neg hd0] at hv; omega
  obtain ⟨hE, hC⟩ := hd hd0
  obtain ⟨b3, b4, b5, b6, b7⟩ := b2 hd0
  have t3 := ev_w (C := C) (j := 3) (o := .eq) (xs := xs) (zs := zs) (d := d) (p := p + 1) (o4 := none) (o5 := none) (o6 := none) (v := v) (cmp_eq (j := 3))
  obtain ⟨u4, hu4, w4⟩ := ev_nx nx (zs := zs) (d := d) (p := p + 1) (o3 := some (.int v)) (o4 := none) (o5 := none) (o6 := none) (x := .int 4) (m := 4) (by omega) ev_int rfl
  have t4 := (ev_cmp (o := .eq) w4 (ev_int (i := 0)) (cmp_eq (j := 0))).2
  have hq : ∃ q, (den C (.and [.cmp .eq (.v 3) (.int 3), .cmp .eq (.call "_law_next" [.ln 0, .int 4]) (.int 0)])).2 (ge xs zs d (p + 1) (some (.int v)) none none none) = .ok (decide (v = 3 ∧ u4 = 0)) (ge xs zs d q (some (.int v)) none none none) := by
    by_cases c3 : v = 3
    · rw [decide_eq_true c3] at t3
      refine ⟨p + 1 + 1, ?_⟩
      rw [and_t t3, and1, t4]
      simp [c3]
    · rw [decide_eq_false c3] at t3
      exact ⟨p + 1, by rw [and_f t3]; simp [c3]⟩
  obtain ⟨q, t5⟩ := hq
  by_cases c5 : v = 3 ∧ u4 = 0
  · rw [decide_eq_true c5] at t5
    obtain ⟨u, hu, w5⟩ := ev_nx nx (zs := zs) (d := d) (p := q) (o3 := some (.int v)) (o4 := none) (o5 := none) (o6 := none) (x := .int 2) (m := 2) (by omega) ev_int rfl
    refine RB.t t5 ?_
    have hlst : (den C (.lst [.tup [.str "stop"], .tup [.str "fault"]])).1 (ge xs zs d q (some (.int v)) none none none) = .ok (.lst [(Tm.z 1).D, (Tm.z 2).D]) (ge xs zs d q (some (.int v)) none none none) := ev_lst (evs_cons (ev_tup (evs_cons ev_str evs_nil)) (evs_cons (ev_tup (evs_cons ev_str evs_nil)) evs_nil))
    match u, hu, w5 with
    | 0, _, w5 => exact RB.r (t := .z 1) (ev_ix hlst w5 at0) (g1 1)
    | 1, _, w5 => exact RB.r (t := .z 2) (ev_ix hlst w5 at1) (g1 2)
  rw [decide_eq_false c5] at t5
  refine RB.f t5 ?_
  obtain ⟨t, p1, gt, w6⟩ := ev_rc (C := C) (zs := zs) (p := q) (o3 := some (.int v)) (o4 := none) (o5 := none) (o6 := none) hE hz.up ev_zs rfl
  refine RB.nx (e1 := ge xs zs d p1 (some (.int v)) (some t.D) none none) (dS_set w6) ?_
  have gts := gt.s
  have gth := gt.h
  have t7 := ev_w (C := C) (j := 4) (o := .eq) (xs := xs) (zs := zs) (d := d) (p := p1) (o4 := some t.D) (o5 := none) (o6 := none) (v := v) (cmp_eq (j := 4))
  by_cases c7 : v = 4
  · rw [decide_eq_true c7] at t7
    refine RB.t t7 ?_
    obtain ⟨t', p2, gt', w8⟩ := ev_rc (C := C) (zs := zs) (p := p1) (o3 := some (.int v)) (o4 := some t.D) (o5 := none) (o6 := none) hE hz.up ev_zs rfl
    refine RB.nx (e1 := ge xs zs d p2 (some (.int v)) (some t.D) (some t'.D) none) (dS_set w8) ?_
    obtain ⟨u, p3, gu, w9⟩ := ev_rc (C := C) (zs := zs) (p := p2) (o3 := some (.int v)) (o4 := some t.D) (o5 := some t'.D) (o6 := none) hE hz.up ev_zs rfl
    exact RB.r (t := .ite t t' u) (ev_tup (evs_cons ev_str (evs_cons (ev_v rfl) (evs_cons (ev_v rfl) (evs_cons w9 evs_nil))))) ⟨by have := gt'.s; have := gu.s; simp only [Tm.sz]; omega, by have := gt'.h; have := gu.h; simp only [Tm.ht]; omega, gt.k, gt'.k, gu.k⟩
  rw [decide_eq_false c7] at t7
  refine RB.f t7 ?_
  have t8 := ev_w (C := C) (j := 5) (o := .eq) (xs := xs) (zs := zs) (d := d) (p := p1) (o4 := some t.D) (o5 := none) (o6 := none) (v := v) (cmp_eq (j := 5))
  by_cases c8 : v = 5
  · rw [decide_eq_true c8] at t8
    refine RB.t t8 ?_
    obtain ⟨u, p3, gu, w9⟩ := ev_rc (C := C) (zs := zs) (p := p1) (o3 := some (.int v)) (o4 := some t.D) (o5 := none) (o6 := none) hC hz.up ev_zs rfl
    exact RB.r (t := .b2 6 u t) (ev_tup (evs_cons ev_str (evs_cons w9 (evs_cons (ev_v rfl) evs_nil)))) ⟨by have := gu.s; simp only [Tm.sz]; omega, by have := gu.h; simp only [Tm.ht]; omega, gu.k, gt.k⟩
  rw [decide_eq_false c8] at t8
  refine RB.f t8 ?_
  have t9 := ev_w (C := C) (j := 6) (o := .eq) (xs := xs) (zs := zs) (d := d) (p := p1) (o4 := some t.D) (o5 := none) (o6 := none) (v := v) (cmp_eq (j := 6))
  by_cases c9 : v = 6
  · rw [decide_eq_true c9] at t9
    refine RB.t t9 ?_
    obtain ⟨u, p3, gu, w9⟩ := ev_rc (C := C) (zs := zs) (p := p1) (o3 := some (.int v)) (o4 := some t.D) (o5 := none) (o6 := none) hE hz.loc (ev_zl (by omega)) rfl
    exact RB.r (t := .new loc t u) (ev_tup (evs_cons ev_str (evs_cons ev_str (evs_cons (ev_v rfl) (evs_cons w9 evs_nil))))) ⟨by have := gu.s; simp only [Tm.sz]; omega, by have := gu.h; simp only [Tm.ht]; omega, okLoc, gt.k, gu.k⟩
  rw [decide_eq_false c9] at t9
  refine RB.f t9 ?_
  obtain ⟨r, hr, wr5⟩ := ev_nx nx (zs := zs) (d := d) (p := p1) (o3 := some (.int v)) (o4 := some t.D) (o5 := none) (o6 := none) (x := .int 5) (m := 5) (by omega) ev_int rfl
  obtain ⟨w, hw⟩ := bN_at hr
  refine RB.nx (e1 := ge xs zs d (p1 + 1) (some (.int v)) (some t.D) none (some (.str (bN w)))) (dS_set (ev_ix (x := .lst [.str "add", .str "sub", .str "mul", .str "equal", .str "less"]) (ev_lst (evs_cons ev_str (evs_cons ev_str (evs_cons ev_str (evs_cons ev_str (evs_cons ev_str evs_nil)))))) wr5 hw)) ?_
  obtain ⟨u, p3, gu, w9⟩ := ev_rc (C := C) (zs := zs) (p := p1 + 1) (o3 := some (.int v)) (o4 := some t.D) (o5 := none) (o6 := some (.str (bN w))) hE hz.up ev_zs rfl
  exact RB.r (t := .b2 w t u) (ev_tup (evs_cons (ev_v rfl) (evs_cons (ev_v rfl) (evs_cons w9 evs_nil)))) ⟨by have := gu.s; simp only [Tm.sz]; omega, by have := gu.h; simp only [Tm.ht]; omega, gt.k, gu.k⟩
end Lw
namespace Lw
open PySem Mp TL
def lab : Str := "lab"
theorem okLab : okS lab := okS_of (by decide +kernel)
theorem com_step {C : Cs} {xs : List Int} {d : Int} {k se he sc hc s h : Nat} (nx : NX C xs) (hE : GE C xs "_law_exp" (d - 1) se he (k + 1)) (hd : 0 < d → GE C xs "_law_com" (d - 1) sc hc (k + 1)) (b0 : se + 1 ≤ s) (b1 : he + 1 ≤ h) (b8 : 1 ≤ se) (b9 : 2 ≤ he)
    (b2 : 0 < d → 2 * sc + 3 ≤ s ∧ se + 2 * sc + 1 ≤ s ∧ hc + 2 ≤ h) {zs : List Str} {p : Nat} (hz : Nm k zs) (hk : k ≤ 100) :
    RB C xs s h b__law_com (ge xs zs d p none none none none) := by
  have hl := hz.l
  have g1 : ∀ w, Gd s h (.z w) := fun w => ⟨by show 1 ≤ s; omega, by show 2 ≤ h; omega, trivial⟩
  obtain ⟨v, hv, w1⟩ := ev_way (C := C) (zs := zs) (d := d) (p := p) (o3 := none) (o4 := none) (o5 := none) (o6 := none) nx (lo := 2) (l := 2) rfl (by omega)
  refine RB.nx (e1 := ge xs zs d (p + 1) (some (.int v)) none none none) (dS_set w1) ?_
  have t1 := ev_first (C := C) (xs := xs) (zs := zs) (d := d) (p := p + 1) (o4 := none) (o5 := none) (o6 := none) (v := v)
  have cg : ∀ q o4 o5 o6, (den C (.cmp .gt (.v 2) (.int 0))).1 (ge xs zs d q (some (.int v)) o4 o5 o6) = .ok (.bl (decide (0 < d))) (ge xs zs d q (some (.int v)) o4 o5 o6) := fun q o4 o5 o6 => (ev_cmp (C := C) (o := .gt) (a := .v 2) (b := .int 0) (x := .int d) (y := .int 0) (k := decide (0 < d)) (e := ge xs zs d q (some (.int v)) o4 o5 o6) (e1 := ge xs zs d q (some (.int v)) o4 o5 o6) (ev_v rfl) ev_int (by simp only [cmpD, ltI])).1
  by_cases c1 : v = 0 ∨ (zs.length = 0 ∧ v < 3)
  · rw [decide_eq_true c1] at t1
    obtain ⟨u, hu, w2⟩ := ev_nx nx (zs := zs) (d := d) (p := p + 1) (o3 := some (.int v)) (o4 := none) (o5 := none) (o6 := none) (x := .int 5) (m := 5) (by omega) ev_int rfl
    refine RB.t t1 ?_
    have hlst : (den C (.lst [.tup [.str "skip"], .tup [.str "skip"], .tup [.str "skip"], .tup [.str "fault"], .tup [.str "stop"]])).1 (ge xs zs d (p + 1) (some (.int v)) none none none) = .ok (.lst [(Tm.z 0).D, (Tm.z 0).D, (Tm.z 0).D, (Tm.z 2).D, (Tm.z 1).D]) (ge xs zs d (p + 1) (some (.int v)) none none none) := by
      have q : ∀ x : Str, (den C (.tup [.str x])).1 (ge xs zs d (p + 1) (some (.int v)) none none none) = .ok (.tup [.str x]) (ge xs zs d (p + 1) (some (.int v)) none none none) := fun x => ev_tup (evs_cons ev_str evs_nil)
      exact ev_lst (evs_cons (q _) (evs_cons (q _) (evs_cons (q _) (evs_cons (q _) (evs_cons (q _) evs_nil)))))
    have hm : ∃ j : Nat, j < 5 ∧ (den C (.bin .mul (.call "_law_next" [.ln 0, .int 5]) (.bi .int [.cmp .gt (.v 2) (.int 0)]))).1 (ge xs zs d (p + 1) (some (.int v)) none none none) = .ok (.int j) (ge xs zs d (p + 1 + 1) (some (.int v)) none none none) := by
      have w3 := ev_bi1 (cg (p + 1 + 1) none none none) intB
      by_cases c2 : 0 < d
      · rw [decide_eq_true c2] at w3
        refine ⟨u, hu, ev_bin w2 w3 ?_⟩
        have := mulc (a := (u : Int)) (b := 1) (by decide +kernel)
        rw [Int.mul_one] at this
        exact this
      · rw [decide_eq_false c2] at w3
        refine ⟨0, by omega, ev_bin w2 w3 ?_⟩
        have := mulc (a := (u : Int)) (b := 0) (by decide +kernel)
        rw [Int.mul_zero] at this
        exact this
    obtain ⟨j, hj, w3⟩ := hm
    have fin : ∀ w, L2.atI [(Tm.z 0).D, (Tm.z 0).D, (Tm.z 0).D, (Tm.z 2).D, (Tm.z 1).D] (j : Int) = some (Tm.z w).D → RB C xs s h [.ret (.ix (.lst [.tup [.str "skip"], .tup [.str "skip"], .tup [.str "skip"], .tup [.str "fault"], .tup [.str "stop"]]) (.bin .mul (.call "_law_next" [.ln 0, .int 5]) (.bi .int [.cmp .gt (.v 2) (.int 0)])))] (ge xs zs d (p + 1) (some (.int v)) none none none) := fun w hw => RB.r (t := .z w) (ev_ix hlst w3 hw) (g1 w)
    match j, hj, fin with
    | 0, _, fin => exact fin 0 (atI0 (k := 0) rfl)
    | 1, _, fin => exact fin 0 (atI0 (k := 1) rfl)
    | 2, _, fin => exact fin 0 (atI0 (k := 2) rfl)
    | 3, _, fin => exact fin 2 (atI0 (k := 3) rfl)
    | 4, _, fin => exact fin 1 (atI0 (k := 4) rfl)
  rw [decide_eq_false c1] at t1
  refine RB.f t1 ?_
  have t2a := ev_w (C := C) (j := 3) (o := .lt) (xs := xs) (zs := zs) (d := d) (p := p + 1) (o4 := none) (o5 := none) (o6 := none) (v := v) (cmp_lt (j := 3))
  have t2b : (den C (.cmp .le (.v 2) (.int 0))).2 (ge xs zs d (p + 1) (some (.int v)) none none none) = .ok (!decide (0 < d)) (ge xs zs d (p + 1) (some (.int v)) none none none) := (ev_cmp (C := C) (o := .le) (a := .v 2) (b := .int 0) (x := .int d) (y := .int 0) (e := ge xs zs d (p + 1) (some (.int v)) none none none) (e1 := ge xs zs d (p + 1) (some (.int v)) none none none) (ev_v rfl) ev_int (by simp only [cmpD, ltI, Option.map_some])).2
  have t2 := orP (C := C) (xs := [.cmp .lt (.v 3) (.int 3), .cmp .le (.v 2) (.int 0)]) (by simp) (EvT.cons t2a (EvT.cons t2b EvT.nil))
  have e2 : ([decide (v < 3), !decide (0 < d)].any id) = decide (v < 3 ∨ ¬ 0 < d) := by by_cases q1 : v < 3 <;> by_cases q2 : 0 < d <;> simp only [q1, q2] <;> rfl
  rw [e2] at t2
  by_cases c2 : v < 3 ∨ ¬ 0 < d
  · rw [decide_eq_true c2] at t2
    have hzl : 0 < zs.length := by
      rcases c2 with c2 | c2
      · omega
      · rw [if_neg c2] at hv; omega
    obtain ⟨u, hu, w2⟩ := ev_nx nx (zs := zs) (d := d) (p := p + 1) (o3 := some (.int v)) (o4 := none) (o5 := none) (o6 := none) (x := .bi .len [.v 1]) (m := zs.length) (by omega) ev_len rfl
    obtain ⟨z, zk, hz2⟩ := name_at hz hu
    obtain ⟨t, p3, gt, w9⟩ := ev_rc (C := C) (zs := zs) (p := p + 1 + 1) (o3 := some (.int v)) (o4 := none) (o5 := none) (o6 := none) hE hz.up ev_zs rfl
    exact RB.t t2 (RB.r (t := .set z t) (ev_tup (evs_cons ev_str (evs_cons (ev_ix (x := nmD zs) ev_zs w2 hz2) (evs_cons w9 evs_nil)))) ⟨by have := gt.s; simp only [Tm.sz]; omega, by have := gt.h; simp only [Tm.ht]; omega, zk, gt.k⟩)
  rw [decide_eq_false c2] at t2
  refine RB.f t2 ?_
  have hd0 : 0 < d := by omega
  have hC := hd hd0
  obtain ⟨b3, b4, b5⟩ := b2 hd0
  have t3 := ev_w (C := C) (j := 5) (o := .lt) (xs := xs) (zs := zs) (d := d) (p := p + 1) (o4 := none) (o5 := none) (o6 := none) (v := v) (cmp_lt (j := 5))
  by_cases c3 : v < 5
  · rw [decide_eq_true c3] at t3
    refine RB.t t3 ?_
    obtain ⟨t, p2, gt, w5⟩ := ev_rc (C := C) (zs := zs) (p := p + 1) (o3 := some (.int v)) (o4 := none) (o5 := none) (o6 := none) hC hz.up ev_zs rfl
    refine RB.nx (e1 := ge xs zs d p2 (some (.int v)) (some t.D) none none) (dS_set w5) ?_
    obtain ⟨u, p3, gu, w6⟩ := ev_rc (C := C) (zs := zs) (p := p2) (o3 := some (.int v)) (o4 := some t.D) (o5 := none) (o6 := none) hC hz.up ev_zs rfl
    refine RB.nx (e1 := ge xs zs d p3 (some (.int v)) (some t.D) (some u.D) none) (dS_set w6) ?_
    have a1 := gt.s
    have a2 := gt.h
    have a3 := gu.s
    have a4 := gu.h
    obtain ⟨r, hr⟩ := tag_D u
    have t4 := (ev_cmp (C := C) (o := .eq) (a := .ix (.v 5) (.int 0)) (b := .str "seq") (x := .str u.tag) (y := .str "seq") (k := u.isSeq) (e := ge xs zs d p3 (some (.int v)) (some t.D) (some u.D) none) (e1 := ge xs zs d p3 (some (.int v)) (some t.D) (some u.D) none) (e2 := ge xs zs d p3 (some (.int v)) (some t.D) (some u.D) none) (ev_ix (x := u.D) (y := .int 0) (ev_v rfl) ev_int (by rw [hr]; exact at0)) ev_str (tag_seq u)).2
    cases hs : u.isSeq with
    | true =>
      rw [hs] at t4
      exact RB.t t4 (RB.r (t := .seq (.blk lab t) (.blk lab u)) (ev_tup (evs_cons ev_str (evs_cons (ev_tup (evs_cons ev_str (evs_cons ev_str (evs_cons (ev_v rfl) evs_nil)))) (evs_cons (ev_tup (evs_cons ev_str (evs_cons ev_str (evs_cons (ev_v rfl) evs_nil)))) evs_nil))))
        ⟨by simp only [Tm.sz]; omega, by simp only [Tm.ht]; omega, ⟨okLab, gt.k⟩, okLab, gu.k⟩)
    | false =>
      rw [hs] at t4
      exact RB.f t4 (RB.r (t := .seq t u) (ev_tup (evs_cons ev_str (evs_cons (ev_v rfl) (evs_cons (ev_v rfl) evs_nil)))) ⟨by simp only [Tm.sz]; omega, by simp only [Tm.ht]; omega, gt.k, gu.k⟩)
  rw [decide_eq_false c3] at t3
  refine RB.f t3 ?_
  obtain ⟨t, p1, gt, w6⟩ := ev_rc (C := C) (zs := zs) (p := p + 1) (o3 := some (.int v)) (o4 := none) (o5 := none) (o6 := none) hE hz.up ev_zs rfl
  refine RB.nx (e1 := ge xs zs d p1 (some (.int v)) none none (some t.D)) (dS_set w6) ?_
  have gts := gt.s
  have gth := gt.h
  have t8 := ev_w (C := C) (j := 5) (o := .eq) (xs := xs) (zs := zs) (d := d) (p := p1) (o4 := none) (o5 := none) (o6 := some t.D) (v := v) (cmp_eq (j := 5))
  by_cases c8 : v = 5
  · rw [decide_eq_true c8] at t8
    refine RB.t t8 ?_
    obtain ⟨u, p3, gu, w9⟩ := ev_rc (C := C) (zs := zs) (p := p1) (o3 := some (.int v)) (o4 := none) (o5 := none) (o6 := some t.D) hC hz.up ev_zs rfl
    exact RB.r (t := .b2 0 t u) (ev_tup (evs_cons ev_str (evs_cons (ev_v rfl) (evs_cons w9 evs_nil)))) ⟨by have := gu.s; simp only [Tm.sz]; omega, by have := gu.h; simp only [Tm.ht]; omega, gt.k, gu.k⟩
  rw [decide_eq_false c8] at t8
  refine RB.f t8 ?_
  have t9 := ev_w (C := C) (j := 6) (o := .eq) (xs := xs) (zs := zs) (d := d) (p := p1) (o4 := none) (o5 := none) (o6 := some t.D) (v := v) (cmp_eq (j := 6))
  by_cases c9 : v = 6
  · rw [decide_eq_true c9] at t9
    refine RB.t t9 ?_
    obtain ⟨u, p3, gu, w9⟩ := ev_rc (C := C) (zs := zs) (p := p1) (o3 := some (.int v)) (o4 := none) (o5 := none) (o6 := some t.D) hC hz.loc (ev_zl (by omega)) rfl
    exact RB.r (t := .new loc t u) (ev_tup (evs_cons ev_str (evs_cons ev_str (evs_cons (ev_v rfl) (evs_cons w9 evs_nil))))) ⟨by have := gu.s; simp only [Tm.sz]; omega, by have := gu.h; simp only [Tm.ht]; omega, okLoc, gt.k, gu.k⟩
  rw [decide_eq_false c9] at t9
  refine RB.f t9 ?_
  obtain ⟨u, p3, gu, w7⟩ := ev_rc (C := C) (zs := zs) (p := p1) (o3 := some (.int v)) (o4 := none) (o5 := none) (o6 := some t.D) hC hz.up ev_zs rfl
  refine RB.nx (e1 := ge xs zs d p3 (some (.int v)) (some u.D) none (some t.D)) (dS_set w7) ?_
  obtain ⟨u', p4, gu', w9⟩ := ev_rc (C := C) (zs := zs) (p := p3) (o3 := some (.int v)) (o4 := some u.D) (o5 := none) (o6 := some t.D) hC hz.up ev_zs rfl
  exact RB.r (t := .ite t u u') (ev_tup (evs_cons ev_str (evs_cons (ev_v rfl) (evs_cons (ev_v rfl) (evs_cons w9 evs_nil))))) ⟨by have := gu.s; have := gu'.s; simp only [Tm.sz]; omega, by have := gu.h; have := gu'.h; simp only [Tm.ht]; omega, gt.k, gu.k, gu'.k⟩
/-! ### the calls -/
theorem find_exp : P.find f__law_exp.d.name = some f__law_exp := by kernel_rfl
theorem find_com : P.find f__law_com.d.name = some f__law_com := by kernel_rfl
theorem ge_exp {n : Nat} {xs : List Int} {d : Int} {s h k : Nat} (H : ∀ (zs : List Str) (p : Nat), Nm k zs → RB (P.cs_ n) xs s h b__law_exp (ge xs zs d p none none none none)) : GE (P.cs_ (n + 1)) xs "_law_exp" d s h k := fun zs p hz => by
  obtain ⟨t, e, p', g, hb, he⟩ := H zs p hz
  obtain ⟨ls, hc, hl0⟩ := call_rtL (P := P) (n := n) (F := f__law_exp) (ds := [stD xs p, nmD zs, .int d]) (r := t.D) (l := stD xs p') (p := 0) (e := e) find_exp rfl rfl (by simp) hb he
  cases ls with
  | nil => simp at hl0
  | cons a ls =>
    simp at hl0
    subst hl0
    exact ⟨t, p', ls, g, hc⟩
theorem ge_com {n : Nat} {xs : List Int} {d : Int} {s h k : Nat} (H : ∀ (zs : List Str) (p : Nat), Nm k zs → RB (P.cs_ n) xs s h b__law_com (ge xs zs d p none none none none)) : GE (P.cs_ (n + 1)) xs "_law_com" d s h k := fun zs p hz => by
  obtain ⟨t, e, p', g, hb, he⟩ := H zs p hz
  obtain ⟨ls, hc, hl0⟩ := call_rtL (P := P) (n := n) (F := f__law_com) (ds := [stD xs p, nmD zs, .int d]) (r := t.D) (l := stD xs p') (p := 0) (e := e) find_com rfl rfl (by simp) hb he
  cases ls with
  | nil => simp at hl0
  | cons a ls =>
    simp at hl0
    subst hl0
    exact ⟨t, p', ls, g, hc⟩
theorem nxP {n : Nat} {xs : List Int} (hx : xs ≠ []) : NX (P.cs_ (n + 1)) xs := fun p m hm => next_ok hx hm
theorem GE.mono {C : Cs} {xs : List Int} {f : Str} {d : Int} {s h k s' h' k' : Nat} (H : GE C xs f d s h k) (hs : s ≤ s') (hh : h ≤ h') (hk : k' ≤ k) : GE C xs f d s' h' k' := fun zs p hz => by
  obtain ⟨t, p', ls, g, hc⟩ := H zs p ⟨Nat.le_trans hz.l hk, hz.k⟩
  exact ⟨t, p', ls, ⟨Nat.le_trans g.s hs, Nat.le_trans g.h hh, g.k⟩, hc⟩
section
variable {n : Nat} {xs : List Int}
theorem e_low (hx : xs ≠ []) {d : Int} (hd : d ≤ 0) {k : Nat} (hk : k ≤ 100) : GE (P.cs_ (n + 2)) xs "_law_exp" d 1 2 k :=
  ge_exp fun zs p hz => exp_step (se := 0) (he := 0) (sc := 0) (hc := 0) (nxP hx) (fun h => absurd h (by omega)) (by omega) (by omega) (fun h => absurd h (by omega)) hz hk
theorem c_low (hx : xs ≠ []) {k : Nat} (hk : k ≤ 99) : GE (P.cs_ (n + 3)) xs "_law_com" 0 2 3 k :=
  ge_com fun zs p hz => com_step (se := 1) (he := 2) (sc := 0) (hc := 0) (nxP (n := n + 1) hx) (e_low hx (by omega) (by omega)) (fun h => absurd h (by omega)) (by omega) (by omega) (by omega) (by omega) (fun h => absurd h (by omega)) hz (by omega)
theorem e_one (hx : xs ≠ []) {k : Nat} (hk : k ≤ 98) : GE (P.cs_ (n + 4)) xs "_law_exp" 1 4 4 k :=
  ge_exp fun zs p hz => exp_step (se := 1) (he := 2) (sc := 2) (hc := 3) (nxP (n := n + 2) hx) (fun h => ⟨e_low (n := n + 1) hx (by omega) (by omega), c_low hx (by omega)⟩) (by omega) (by omega) (fun h => by omega) hz (by omega)
theorem c_one (hx : xs ≠ []) {k : Nat} (hk : k ≤ 98) : GE (P.cs_ (n + 4)) xs "_law_com" 1 7 5 k :=
  ge_com fun zs p hz => com_step (se := 1) (he := 2) (sc := 2) (hc := 3) (nxP (n := n + 2) hx) (e_low (n := n + 1) hx (by omega) (by omega)) (fun h => c_low hx (by omega)) (by omega) (by omega) (by omega) (by omega) (fun h => by omega) hz (by omega)
theorem e_two (hx : xs ≠ []) {k : Nat} (hk : k ≤ 97) : GE (P.cs_ (n + 5)) xs "_law_exp" 2 13 6 k :=
  ge_exp fun zs p hz => exp_step (se := 4) (he := 4) (sc := 7) (hc := 5) (nxP (n := n + 3) hx) (fun h => ⟨e_one hx (by omega), c_one hx (by omega)⟩) (by omega) (by omega) (fun h => by omega) hz (by omega)
theorem c_two (hx : xs ≠ []) {k : Nat} (hk : k ≤ 97) : GE (P.cs_ (n + 5)) xs "_law_com" 2 19 7 k :=
  ge_com fun zs p hz => com_step (se := 4) (he := 4) (sc := 7) (hc := 5) (nxP (n := n + 3) hx) (e_one hx (by omega)) (fun h => c_one hx (by omega)) (by omega) (by omega) (by omega) (by omega) (fun h => by omega) hz (by omega)
theorem e_all (hx : xs ≠ []) {d : Int} (hd : d = 1 ∨ d = 2) : GE (P.cs_ (n + 5)) xs "_law_exp" d 30 10 3 := by
  rcases hd with rfl | rfl
  · exact (e_one (n := n + 1) hx (k := 3) (by omega)).mono (by omega) (by omega) (by omega)
  · exact (e_two hx (k := 3) (by omega)).mono (by omega) (by omega) (by omega)
theorem c_all (hx : xs ≠ []) {d : Int} (hd : d = 1 ∨ d = 2) : GE (P.cs_ (n + 5)) xs "_law_com" d 30 10 3 := by
  rcases hd with rfl | rfl
  · exact (c_one (n := n + 1) hx (k := 3) (by omega)).mono (by omega) (by omega) (by omega)
  · exact (c_two hx (k := 3) (by omega)).mono (by omega) (by omega) (by omega)
end
end Lw
namespace Lw
open PySem Mp TL
/-! ### modules drawn -/
theorem ev_nxG {C : Cs} {xs : List Int} {p : Nat} (nx : NX C xs) {r : List (Option D)} {x : E} {m : Nat} (hm : 0 < m) (hx : (den C x).1 (some (stD xs p) :: r) = .ok (.int m) (some (stD xs p) :: r)) (hn : noLn x = true) : ∃ v : Nat, v < m ∧ (den C (.call "_law_next" [.ln 0, x])).1 (some (stD xs p) :: r) = .ok (.int v) (some (stD xs (p + 1)) :: r) := by
  obtain ⟨v, ls, hv, hc⟩ := nx p m hm
  exact ⟨v, hv, ev_callL (e := some (stD xs p) :: r) (e1 := some (stD xs p) :: r) rfl (evs_cons hx evs_nil) (by simp [hn]) rfl hc⟩
theorem ev_lct {C : Cs} {elt : E} {t : T} {k : IK} {ia : List E} {e e1 e' : Mp.Env} {as ds ys : List D} (h1 : evs (dens C ia) e = .ok as e1) (h2 : itF k as = some ds) (h3 : ds.length ≤ SZ) (h4 : lctL (den C elt).1 t ds (wipeE e1 t.slots) = .ok ys e') : (den C (.lct elt t k ia)).1 e = .ok (.lst ys) e' := by
  simp only [den, val, lctF, M.bind, h1, h2, M.opt, if_pos h3, h4]
theorem vars_ok {C : Cs} {xs : List Int} (nx : NX C xs) {o1 o2 o3 o4 o5 o6 o7 o8 : Option D} : ∀ (zs : List Str) (p : Nat), (∀ z ∈ zs, okS z) → ∃ (vs : List (Str × Int)) (p' : Nat), vs.length = zs.length ∧ (∀ v ∈ vs, okS v.1) ∧
    lctL (den C (.tup [.v 9, .call "_law_next" [.ln 0, .int 3]])).1 (.nm 9) (zs.map .str) [some (stD xs p), o1, o2, o3, o4, o5, o6, o7, o8, none] = .ok (vs.map vD) [some (stD xs p'), o1, o2, o3, o4, o5, o6, o7, o8, none]
  | [], p, _ => ⟨[], p, rfl, (fun _ h => by cases h), rfl⟩
  | z :: zs, p, h => by
    obtain ⟨u, hu, w⟩ := ev_nxG nx (p := p) (r := [o1, o2, o3, o4, o5, o6, o7, o8, some (.str z)]) (x := .int 3) (m := 3) (by omega) ev_int rfl
    obtain ⟨vs, p', h1, h2, h3⟩ := vars_ok nx (o1 := o1) (o2 := o2) (o3 := o3) (o4 := o4) (o5 := o5) (o6 := o6) (o7 := o7) (o8 := o8) zs (p + 1) fun z hz => h z (List.mem_cons_of_mem _ hz)
    refine ⟨(z, (u : Int)) :: vs, p', by simp [h1], fun v hv => ?_, ?_⟩
    · rcases List.mem_cons.mp hv with rfl | hv
      · exact h z List.mem_cons_self
      · exact h2 v hv
    · have he : (den C (.tup [.v 9, .call "_law_next" [.ln 0, .int 3]])).1 [some (stD xs p), o1, o2, o3, o4, o5, o6, o7, o8, some (.str z)] = .ok (vD (z, (u : Int))) [some (stD xs (p + 1)), o1, o2, o3, o4, o5, o6, o7, o8, some (.str z)] := ev_tup (evs_cons (ev_v rfl) (evs_cons w evs_nil))
      rw [List.map_cons, lctL]
      show (match (den C (.tup [.v 9, .call "_law_next" [.ln 0, .int 3]])).1 [some (stD xs p), o1, o2, o3, o4, o5, o6, o7, o8, some (.str z)] with
        | .ok y e2 => (match lctL (den C (.tup [.v 9, .call "_law_next" [.ln 0, .int 3]])).1 (.nm 9) (zs.map .str) (wipeE e2 (T.nm 9).slots) with
          | .ok ys e3 => R.ok (y :: ys) e3
          | _ => .no)
        | _ => .no) = _
      rw [he]
      show (match lctL (den C (.tup [.v 9, .call "_law_next" [.ln 0, .int 3]])).1 (.nm 9) (zs.map .str) [some (stD xs (p + 1)), o1, o2, o3, o4, o5, o6, o7, o8, none] with
          | .ok ys e3 => R.ok (vD (z, (u : Int)) :: ys) e3
          | _ => .no) = _
      rw [h3]
      rfl
def mB : List Mp.S := [
    .set 7 (.ix (.lst [.str "com", .str "exp"]) (.call "_law_next" [.ln 0, .int 2])),
    .set 8 (.tup [.str "skip"]),
    .ifs (.cmp .eq (.v 7) (.str "com")) [
      .set 8 (.call "_law_com" [.ln 0, .v 3, .v 1])] [
      .set 8 (.call "_law_exp" [.ln 0, .v 3, .v 1])],
    .ex (.mu .append 5 [] [.tup [.ix (.lst [.str "go", .str "get"]) (.v 6), .v 7, .v 8]])]
def mE (xs : List Int) (d : Int) (zs : List Str) (o2 o4 : Option D) (p : Nat) (os : List (Str × Str × Tm)) (o6 o7 o8 : Option D) : Mp.Env := [some (stD xs p), some (.int d), o2, some (nmD zs), o4, some (.lst (os.map oD)), o6, o7, o8, none]
theorem mB_ok {n : Nat} {xs : List Int} (hx : xs ≠ []) {d : Int} (hd : d = 1 ∨ d = 2) {zs : List Str} (hz : Nm 3 zs) {o2 o4 o7 o8 : Option D} {p : Nat} {os : List (Str × Str × Tm)} {j : Int} {x : Str} (hj : L2.atI [D.str "go", .str "get"] j = some (.str x)) (ho : os.length ≤ 10) :
    ∃ (b : Bool) (t : Tm) (p' : Nat) (p7 p8 : Option D), Gd 30 10 t ∧ dB (P.cs_ (n + 5)) mB (mE xs d zs o2 o4 p os (some (.int j)) o7 o8) = .ok .nx (mE xs d zs o2 o4 p' (os ++ [(x, kS b, t)]) (some (.int j)) p7 p8) := by
  let C := P.cs_ (n + 5)
  have nx : NX C xs := nxP (n := n + 4) hx
  obtain ⟨u, hu, w⟩ := ev_nxG nx (p := p) (r := [some (.int d), o2, some (nmD zs), o4, some (.lst (os.map oD)), some (.int j), o7, o8, none]) (x := .int 2) (m := 2) (by omega) ev_int rfl
  have hl2 : (den C (.lst [.str "com", .str "exp"])).1 (mE xs d zs o2 o4 p os (some (.int j)) o7 o8) = .ok (.lst [.str "com", .str "exp"]) (mE xs d zs o2 o4 p os (some (.int j)) o7 o8) := ev_lst (evs_cons ev_str (evs_cons ev_str evs_nil))
  have s1 : ∃ b : Bool, dS C (.set 7 (.ix (.lst [.str "com", .str "exp"]) (.call "_law_next" [.ln 0, .int 2]))) (mE xs d zs o2 o4 p os (some (.int j)) o7 o8) = .ok .nx (mE xs d zs o2 o4 (p + 1) os (some (.int j)) (some (.str (kS b))) o8) := by
    match u, hu, w with
    | 0, _, w => exact ⟨true, dS_set (e1 := mE xs d zs o2 o4 (p + 1) os (some (.int j)) o7 o8) (ev_ix hl2 w at0)⟩
    | 1, _, w => exact ⟨false, dS_set (e1 := mE xs d zs o2 o4 (p + 1) os (some (.int j)) o7 o8) (ev_ix hl2 w at1)⟩
  obtain ⟨b, s1⟩ := s1
  let E2 := mE xs d zs o2 o4 (p + 1) os (some (.int j)) (some (.str (kS b))) (some (.tup [.str "skip"]))
  have s2 : dS C (.set 8 (.tup [.str "skip"])) (mE xs d zs o2 o4 (p + 1) os (some (.int j)) (some (.str (kS b))) o8) = .ok .nx E2 := dS_set (e1 := mE xs d zs o2 o4 (p + 1) os (some (.int j)) (some (.str (kS b))) o8) (ev_tup (evs_cons ev_str evs_nil))
  have t := (ev_cmp (C := C) (o := .eq) (a := .v 7) (b := .str "com") (x := .str (kS b)) (y := .str "com") (k := b) (e := E2) (e1 := E2) (e2 := E2) (ev_v rfl) ev_str (by cases b <;> kernel_rfl)).2
  have fin : ∀ (f : Str) (s3 : dS C (.ifs (.cmp .eq (.v 7) (.str "com")) [.set 8 (.call "_law_com" [.ln 0, .v 3, .v 1])] [.set 8 (.call "_law_exp" [.ln 0, .v 3, .v 1])]) E2 = dB C [.set 8 (.call f [.ln 0, .v 3, .v 1])] E2) (G : GE C xs f d 30 10 3), ∃ (t : Tm) (p' : Nat) (p7 p8 : Option D), Gd 30 10 t ∧ dB C mB (mE xs d zs o2 o4 p os (some (.int j)) o7 o8) = .ok .nx (mE xs d zs o2 o4 p' (os ++ [(x, kS b, t)]) (some (.int j)) p7 p8) := by
    intro f s3 G
    obtain ⟨t, p', ls, g, hc⟩ := G zs (p + 1) hz
    have c1 : (den C (.call f [.ln 0, .v 3, .v 1])).1 E2 = .ok t.D (mE xs d zs o2 o4 p' os (some (.int j)) (some (.str (kS b))) (some (.tup [.str "skip"]))) := ev_callL (e := E2) (e1 := E2) rfl (evs_cons (ev_v rfl) (evs_cons (ev_v rfl) evs_nil)) rfl rfl hc
    let E3 := mE xs d zs o2 o4 p' os (some (.int j)) (some (.str (kS b))) (some t.D)
    have s4 : dB C [.set 8 (.call f [.ln 0, .v 3, .v 1])] E2 = .ok .nx E3 := dB_cons (dS_set c1) dB_nil
    rw [s4] at s3
    have s5 := dS_app (C := C) (i := 5) (e := E3) (e1 := E3) (x := .tup [.ix (.lst [.str "go", .str "get"]) (.v 6), .v 7, .v 8]) (y := oD (x, kS b, t)) (xs := os.map oD) rfl (ev_tup (evs_cons (ev_ix (x := .lst [.str "go", .str "get"]) (y := .int j) (ev_lst (evs_cons ev_str (evs_cons ev_str evs_nil))) (ev_v rfl) hj) (evs_cons (ev_v rfl) (evs_cons (ev_v rfl) evs_nil)))) rfl (by rw [List.length_map, SZ_big]; omega)
    have e5 : setS E3 5 (.lst (os.map oD ++ [oD (x, kS b, t)])) = mE xs d zs o2 o4 p' (os ++ [(x, kS b, t)]) (some (.int j)) (some (.str (kS b))) (some t.D) := by
      simp only [mE, List.map_append, List.map_cons, List.map_nil]
      rfl
    rw [e5] at s5
    exact ⟨t, p', _, _, g, dB_cons s1 (dB_cons s2 (dB_cons s3 (dB_cons s5 dB_nil)))⟩
  cases b with
  | true =>
    obtain ⟨t, p', p7, p8, g, h⟩ := fin "_law_com" (if_t t rfl) (c_all hx hd)
    exact ⟨true, t, p', p7, p8, g, h⟩
  | false =>
    obtain ⟨t, p', p7, p8, g, h⟩ := fin "_law_exp" (if_f t rfl) (e_all hx hd)
    exact ⟨false, t, p', p7, p8, g, h⟩
theorem find_mod : P.find f__law_module.d.name = some f__law_module := by kernel_rfl
theorem okOf {l : List D} (h : (l.all fun d => match d with | .str z => (tl z).all fun c => decide (c < 1114112) | _ => false) = true) : ∀ y ∈ l, ∃ z, okS z ∧ y = .str z := fun y hy => by
  have := List.all_eq_true.mp h y hy
  cases y with
  | str z => exact ⟨z, okS_of this, rfl⟩
  | _ => simp at this
theorem mod_ok {n : Nat} {xs : List Int} (hx : xs ≠ []) {d : Int} (hd : d = 1 ∨ d = 2) {p : Nat} : ∃ (vs : List (Str × Int)) (os : List (Str × Str × Tm)) (p' : Nat) (ls : List D), Mo vs os ∧ Os os ∧ P.call (n + 6) "_law_module" [stD xs p, .int d] = .ok (md vs os) (stD xs p' :: ls) := by
  let C := P.cs_ (n + 5)
  have nx : NX C xs := nxP (n := n + 4) hx
  let dd := some (D.int d)
  -- count
  obtain ⟨v1, h1, w1⟩ := ev_nxG nx (p := p) (r := [dd, none, none, none, none, none, none, none, none]) (x := .int 3) (m := 3) (by omega) ev_int rfl
  obtain ⟨v2, h2, w2⟩ := ev_nxG nx (p := p + 1) (r := [dd, none, none, none, none, none, none, none, none]) (x := .int 4) (m := 4) (by omega) ev_int rfl
  have w3 := ev_bi1 (ev_cmp (o := .eq) w2 (ev_int (i := 0)) (cmp_eq (j := 0))).1 intB
  obtain ⟨c, hc, w4⟩ : ∃ c : Int, (0 ≤ c ∧ c ≤ 3) ∧ (den C (.bin .add (.call "_law_next" [.ln 0, .int 3]) (.bi .int [.cmp .eq (.call "_law_next" [.ln 0, .int 4]) (.int 0)]))).1 [some (stD xs p), dd, none, none, none, none, none, none, none, none] = .ok (.int c) [some (stD xs (p + 1 + 1)), dd, none, none, none, none, none, none, none, none] :=
    ⟨(v1 : Int) + (if decide (v2 = 0) = true then 1 else 0), by split <;> omega, ev_bin w1 w3 addI⟩
  have s1 : dS C (.set 2 (.bin .add (.call "_law_next" [.ln 0, .int 3]) (.bi .int [.cmp .eq (.call "_law_next" [.ln 0, .int 4]) (.int 0)]))) [some (stD xs p), dd, none, none, none, none, none, none, none, none] = .ok .nx [some (stD xs (p + 1 + 1)), dd, some (.int c), none, none, none, none, none, none, none] := dS_set w4
  -- names
  let r2 : List (Option D) := [dd, some (.int c), none, none, none, none, none, none, none]
  obtain ⟨v3, h3, w5⟩ := ev_nxG nx (p := p + 1 + 1) (r := r2) (x := .int 3) (m := 3) (by omega) ev_int rfl
  let LL : List (List D) := [[.str "v", .str "vw", .str "q"], [.str "q", .str "qq", .str "v"], [.str "qq", .str "q", .str "qqq"]]
  have hL : (den C (.lst [.lst [.str "v", .str "vw", .str "q"], .lst [.str "q", .str "qq", .str "v"], .lst [.str "qq", .str "q", .str "qqq"]])).1 (some (stD xs (p + 1 + 1)) :: r2) = .ok (.lst (LL.map .lst)) (some (stD xs (p + 1 + 1)) :: r2) := by
    have q : ∀ x y z : Str, (den C (.lst [.str x, .str y, .str z])).1 (some (stD xs (p + 1 + 1)) :: r2) = .ok (.lst [.str x, .str y, .str z]) (some (stD xs (p + 1 + 1)) :: r2) := fun x y z => ev_lst (evs_cons ev_str (evs_cons ev_str (evs_cons ev_str evs_nil)))
    exact ev_lst (evs_cons (q _ _ _) (evs_cons (q _ _ _) (evs_cons (q _ _ _) evs_nil)))
  obtain ⟨l0, hl0, w6, hlen⟩ : ∃ l0 : List D, (∀ y ∈ l0, ∃ z, okS z ∧ y = .str z) ∧ L2.atI (LL.map D.lst) (v3 : Int) = some (.lst l0) ∧ l0.length = 3 := by
    match v3, h3 with
    | 0, _ => exact ⟨_, okOf (by decide +kernel), atI0 (k := 0) rfl, rfl⟩
    | 1, _ => exact ⟨_, okOf (by decide +kernel), atI0 (k := 1) rfl, rfl⟩
    | 2, _ => exact ⟨_, okOf (by decide +kernel), atI0 (k := 2) rfl, rfl⟩
  obtain ⟨zs, hzs, hzk⟩ := map_of (f := D.str) (S := okS) (ys := cutD l0 none (some c)) fun y hy => by
    obtain ⟨z, a, b⟩ := hl0 y (cut_mem hy)
    exact ⟨z, a, b⟩
  have hz : Nm 3 zs := ⟨by have := cut_len (xs := l0) (lo := none) (hi := some c); rw [hzs, List.length_map] at this; omega, hzk⟩
  let q3 := p + 1 + 1 + 1
  have s2 : dS C (.set 3 (.sl (.ix (.lst [.lst [.str "v", .str "vw", .str "q"], .lst [.str "q", .str "qq", .str "v"], .lst [.str "qq", .str "q", .str "qqq"]]) (.call "_law_next" [.ln 0, .int 3])) [] [.v 2])) (some (stD xs (p + 1 + 1)) :: r2) = .ok .nx [some (stD xs q3), dd, some (.int c), some (nmD zs), none, none, none, none, none, none] := by
    refine dS_set (e1 := some (stD xs q3) :: r2) ?_
    rw [den]
    have w7 := ev_ix (x := .lst (LL.map D.lst)) hL w5 w6
    simp only [val, M.bind, w7, dens, partM, M.ret, ev_v (C := C) (i := 2) (e := some (stD xs (p + 1 + 1 + 1)) :: r2) (d := .int c) rfl, M.opt, slD, hzs]
    rfl
  -- variables
  obtain ⟨vs, p4, hv1, hv2, w8⟩ := vars_ok nx (o1 := dd) (o2 := some (.int c)) (o3 := some (nmD zs)) (o4 := none) (o5 := none) (o6 := none) (o7 := none) (o8 := none) zs q3 hzk
  have s3 : dS C (.set 4 (.bi .tuple [.lct (.tup [.v 9, .call "_law_next" [.ln 0, .int 3]]) (.nm 9) .seq [.v 3]])) [some (stD xs q3), dd, some (.int c), some (nmD zs), none, none, none, none, none, none] = .ok .nx [some (stD xs p4), dd, some (.int c), some (nmD zs), some (.tup (vs.map vD)), none, none, none, none, none] :=
    dS_set (e1 := [some (stD xs p4), dd, some (.int c), some (nmD zs), none, none, none, none, none, none]) (ev_bi1 (ev_lct (t := .nm 9) (as := [nmD zs]) (ds := zs.map .str) (e1 := [some (stD xs q3), dd, some (.int c), some (nmD zs), none, none, none, none, none, none]) (evs_cons (ev_v rfl) evs_nil) rfl (by have := hz.l; rw [List.length_map, SZ_big]; omega) w8) tupL)
  have s4 : dS C (.set 5 (.lst [])) [some (stD xs p4), dd, some (.int c), some (nmD zs), some (.tup (vs.map vD)), none, none, none, none, none] = .ok .nx (mE xs d zs (some (.int c)) (some (.tup (vs.map vD))) p4 [] none none none) := dS_set (e1 := [some (stD xs p4), dd, some (.int c), some (nmD zs), some (.tup (vs.map vD)), none, none, none, none, none]) (ev_lst evs_nil)
  -- operations
  obtain ⟨v6, h6, w9⟩ := ev_nxG nx (p := p4) (r := [dd, some (.int c), some (nmD zs), some (.tup (vs.map vD)), some (.lst []), none, none, none, none]) (x := .int 2) (m := 2) (by omega) ev_int rfl
  have w10 := ev_bin (o := .add) (ev_int (i := 1)) w9 addI
  obtain ⟨b1, t1, p5, a7, a8, g1, i1⟩ := mB_ok (n := n) hx hd hz (o2 := some (.int c)) (o4 := some (.tup (vs.map vD))) (o7 := none) (o8 := none) (p := p4 + 1) (os := []) (j := 0) (x := go) at0 (by simp)
  have okgo : okS go := okS_of (by decide +kernel)
  have okget : okS get := okS_of (by decide +kernel)
  have fin : ∀ (os : List (Str × Str × Tm)) (ds : List D) (p6 : Nat) (c6 c7 c8 : Option D), itF .rng [.int (1 + (v6 : Int))] = some ds → forL (fun _ => true) (.nm 6) (dB C mB) ds (mE xs d zs (some (.int c)) (some (.tup (vs.map vD))) (p4 + 1) [] none none none) = .ok .nx (mE xs d zs (some (.int c)) (some (.tup (vs.map vD))) p6 os c6 c7 c8) → ∃ (ls : List D), P.call (n + 6) "_law_module" [stD xs p, .int d] = .ok (md vs os) (stD xs p6 :: ls) := by
    intro os ds p6 c6 c7 c8 hr hf
    have s5 : dS C (.for_ (.nm 6) .rng [.bin .add (.int 1) (.call "_law_next" [.ln 0, .int 2])] none mB) (mE xs d zs (some (.int c)) (some (.tup (vs.map vD))) p4 [] none none none) = .ok .nx (mE xs d zs (some (.int c)) (some (.tup (vs.map vD))) p6 os c6 c7 c8) :=
      (dS_for (as := [.int (1 + (v6 : Int))]) (ds := ds) (e1 := mE xs d zs (some (.int c)) (some (.tup (vs.map vD))) (p4 + 1) [] none none none) (evs_cons w10 evs_nil) hr).trans hf
    have s6 : dS C (.ret (.tup [.v 4, .bi .tuple [.v 5]])) (mE xs d zs (some (.int c)) (some (.tup (vs.map vD))) p6 os c6 c7 c8) = .ok (.rt (md vs os)) _ := dS_ret (ev_tup (evs_cons (ev_v rfl) (evs_cons (ev_bi1 (x := .lst (os.map oD)) (ev_v rfl) tupL) evs_nil)))
    obtain ⟨ls, hc, hl0⟩ := call_rtL (P := P) (n := n + 5) (F := f__law_module) (ds := [stD xs p, .int d]) (r := md vs os) (l := stD xs p6) (p := 0) find_mod rfl rfl (by simp) (dB_cons s1 (dB_cons s2 (dB_cons s3 (dB_cons s4 (dB_cons s5 (dB_ret s6)))))) rfl
    cases ls with
    | nil => simp at hl0
    | cons a ls =>
      simp at hl0
      subst hl0
      exact ⟨ls, hc⟩
  have hv3 : vs.length ≤ 3 := by have := hz.l; omega
  match v6, h6, fin with
  | 0, _, fin =>
    obtain ⟨ls, hc⟩ := fin [(go, kS b1, t1)] [.int 0] p5 _ a7 a8 (by decide +kernel) (forL_c (e1 := mE xs d zs (some (.int c)) (some (.tup (vs.map vD))) (p4 + 1) [] (some (.int 0)) none none) rfl i1 forL_n)
    exact ⟨vs, _, p5, ls, ⟨⟨hv3, .inl rfl⟩, hv2, fun o ho => by
      rw [List.mem_singleton.mp ho]
      exact ⟨okgo, kS_ok b1, g1⟩⟩, .inl ⟨b1, t1, rfl⟩, hc⟩
  | 1, _, fin =>
    obtain ⟨b2, t2, p7, c7, c8, g2, i2⟩ := mB_ok (n := n) hx hd hz (o2 := some (.int c)) (o4 := some (.tup (vs.map vD))) (o7 := a7) (o8 := a8) (p := p5) (os := [(go, kS b1, t1)]) (j := 1) (x := get) at1 (by simp)
    obtain ⟨ls, hc⟩ := fin [(go, kS b1, t1), (get, kS b2, t2)] [.int 0, .int 1] p7 _ c7 c8 (by decide +kernel) (forL_c (e1 := mE xs d zs (some (.int c)) (some (.tup (vs.map vD))) (p4 + 1) [] (some (.int 0)) none none) rfl i1 (forL_c (e1 := mE xs d zs (some (.int c)) (some (.tup (vs.map vD))) p5 [(go, kS b1, t1)] (some (.int 1)) a7 a8) rfl i2 forL_n))
    exact ⟨vs, _, p7, ls, ⟨⟨hv3, .inr rfl⟩, hv2, fun o ho => by
      simp only [List.mem_cons, List.not_mem_nil, or_false] at ho
      rcases ho with rfl | rfl
      · exact ⟨okgo, kS_ok b1, g1⟩
      · exact ⟨okget, kS_ok b2, g2⟩⟩, .inr ⟨b1, t1, b2, t2, rfl⟩, hc⟩
end Lw
namespace Lw
open PySem Mp TL
/-! ### the law -/
def useT (x : Str) (b : Bool) : Tm := if b then .cal x else .b2 0 (.cal x) (.z 0)
def cliT (x : Str) (b : Bool) : Tm := .new "v" (.num 1) (.seq (useT x b) (.set "v" (.num 2)))
theorem okV : okS "v" := okS_of (by decide +kernel)
theorem use_D {x : Str} {b : Bool} : (useT x b).D = if b then .tup [.str "call", .str x, .tup []] else .tup [.str "while", .tup [.str "call", .str x, .tup []], .tup [.str "skip"]] := by
  cases b <;> rfl
theorem cli_b {x : Str} {b : Bool} (hx : okS x) : (cliT x b).sz ≤ 200 ∧ (cliT x b).hg ≤ 4 ∧ (cliT x b).ht ≤ 45 ∧ (cliT x b).ok := by
  cases b with
  | true => exact ⟨by simp [cliT, useT, Tm.sz], by simp [cliT, useT, Tm.hg, Tm.isSeq], by simp [cliT, useT, Tm.ht], okV, trivial, hx, okV, trivial⟩
  | false => exact ⟨by simp [cliT, useT, Tm.sz], by simp [cliT, useT, Tm.hg, Tm.isSeq], by simp [cliT, useT, Tm.ht], okV, trivial, ⟨hx, trivial⟩, okV, trivial⟩
theorem find_law : P.find f_law.d.name = some f_law := by kernel_rfl
theorem law75 (ns : List Int) (hn : ns.length ≤ 63) : ∃ ls, P.call 7 f_law.d.name [.rol (ns.map .int)] = .ok (.bl true) ls := by
  obtain ⟨C, hC⟩ : ∃ C : Cs, C = P.cs_ 6 := ⟨_, rfl⟩
  have cf : ∀ {f : Str} {ds : List D} {r : D} {ls : List D}, P.call 6 f ds = .ok r ls → C.cl f ds = .ok r ls := fun h => by rw [hC]; exact h
  let sc := some (D.rol (ns.map .int))
  obtain ⟨xs, l0, hx, hxl, hst⟩ := stream_ok (n := 5) hn
  have nx : NX C xs := by rw [hC]; exact nxP (n := 5) hx
  -- the state
  have s1 : dS C (.set 1 (.lst [.call "_law_stream" [.v 0], .int 0])) [sc, none, none, none, none, none, none, none, none, none, none, none] = .ok .nx [sc, some (stD xs 0), none, none, none, none, none, none, none, none, none, none] :=
    dS_set (e1 := [sc, none, none, none, none, none, none, none, none, none, none, none]) (ev_lst (evs_cons (ev_call (C := C) (evs_cons (ev_v rfl) evs_nil) rfl (cf hst)) (evs_cons ev_int evs_nil)))
  -- the module
  have nx1 : ∀ {p m : Nat} {r : List (Option D)} {x : E}, 0 < m → (den C x).1 (sc :: some (stD xs p) :: r) = .ok (.int m) (sc :: some (stD xs p) :: r) → noLn x = true → ∃ v : Nat, v < m ∧ (den C (.call "_law_next" [.ln 1, x])).1 (sc :: some (stD xs p) :: r) = .ok (.int v) (sc :: some (stD xs (p + 1)) :: r) := by
    intro p m r x hm hx hn
    obtain ⟨v, ls, hv, hc⟩ := nx p m hm
    exact ⟨v, hv, ev_callL (e := sc :: some (stD xs p) :: r) (e1 := sc :: some (stD xs p) :: r) rfl (evs_cons hx evs_nil) (by simp [hn]) rfl hc⟩
  obtain ⟨v0, hv0, w0⟩ := nx1 (p := 0) (r := [none, none, none, none, none, none, none, none, none, none]) (x := .int 2) (m := 2) (by omega) ev_int rfl
  have w1 := ev_bin (o := .add) (ev_int (i := 1)) w0 addI
  obtain ⟨vs, os, p1, l1, hM, hO, hmd⟩ := mod_ok (n := 0) hx (d := 1 + (v0 : Int)) (p := 1) (by omega)
  have s2 : dS C (.set 2 (.call "_law_module" [.ln 1, .bin .add (.int 1) (.call "_law_next" [.ln 1, .int 2])])) [sc, some (stD xs 0), none, none, none, none, none, none, none, none, none, none] = .ok .nx [sc, some (stD xs p1), some (md vs os), none, none, none, none, none, none, none, none, none] :=
    dS_set (e1 := [sc, some (stD xs p1), none, none, none, none, none, none, none, none, none, none]) (ev_callL (e := [sc, some (stD xs 0), none, none, none, none, none, none, none, none, none, none]) (e1 := [sc, some (stD xs 1), none, none, none, none, none, none, none, none, none, none]) rfl (evs_cons w1 evs_nil) rfl rfl (cf hmd))
  -- the operation
  let E2 : Mp.Env := [sc, some (stD xs p1), some (md vs os), none, none, none, none, none, none, none, none, none]
  have m0 : ∀ {e : Mp.Env}, getS e 2 = some (md vs os) → (den C (.ix (.v 2) (.int 0))).1 e = .ok (.tup (vs.map vD)) e := fun h => ev_ix (x := md vs os) (y := .int 0) (ev_v h) ev_int at0
  have m1 : ∀ {e : Mp.Env}, getS e 2 = some (md vs os) → (den C (.ix (.v 2) (.int 1))).1 e = .ok (.tup (os.map oD)) e := fun h => ev_ix (x := md vs os) (y := .int 1) (ev_v h) ev_int at1
  have m2 : ∀ {e : Mp.Env}, getS e 2 = some (md vs os) → (den C (.bi .len [.ix (.v 2) (.int 1)])).1 e = .ok (.int (os.length : Int)) e := fun h => by
    have := ev_bi1 (m1 h) lenT
    rwa [List.length_map] at this
  have m3 : ∀ {e : Mp.Env}, getS e 2 = some (md vs os) → (den C (.bi .len [.ix (.v 2) (.int 0)])).1 e = .ok (.int (vs.length : Int)) e := fun h => by
    have := ev_bi1 (m0 h) lenT
    rwa [List.length_map] at this
  have hol := hM.o
  have hvl := hM.v
  obtain ⟨j, hj, w2⟩ := nx1 (p := p1) (r := [some (md vs os), none, none, none, none, none, none, none, none, none]) (x := .bi .len [.ix (.v 2) (.int 1)]) (m := os.length) (by omega) (m2 rfl) rfl
  obtain ⟨x, y, t, ho⟩ : ∃ x y t, os[j]? = some (x, y, t) := ⟨_, _, _, List.getElem?_eq_getElem hj⟩
  obtain ⟨b, rfl, hcc⟩ := cc_all (n := 0) (vs := vs) hO j x y t ho
  have hxo : okS x := (hM.ok _ (List.mem_of_getElem? ho)).1
  have hat : L2.atI (os.map oD) (j : Int) = some (oD (x, kS b, t)) := atI0 (by rw [List.getElem?_map, ho]; rfl)
  let m := some (md vs os)
  let E3 : Mp.Env := [sc, some (stD xs (p1 + 1)), m, some (.str x), some (.str (kS b)), some t.D, none, none, none, none, none, none]
  have s3 : dS C (.tgt [3, 4, 5] (.ix (.ix (.v 2) (.int 1)) (.call "_law_next" [.ln 1, .bi .len [.ix (.v 2) (.int 1)]]))) E2 = .ok .nx E3 :=
    dS_tgt (e1 := [sc, some (stD xs (p1 + 1)), m, none, none, none, none, none, none, none, none, none]) (ev_ix (m1 rfl) w2 hat) rfl
  have q4 : ∀ {e : Mp.Env}, getS e 4 = some (.str (kS b)) → (den C (.cmp .eq (.v 4) (.str "com"))).1 e = .ok (.bl b) e := fun {e} h => (ev_cmp (o := .eq) (x := .str (kS b)) (y := .str "com") (k := b) (e1 := e) (ev_v h) ev_str (by cases b <;> kernel_rfl)).1
  have q5 : ∀ {e : Mp.Env}, getS e 4 = some (.str (kS b)) → (den C (.cmp .eq (.v 4) (.str "exp"))).1 e = .ok (.bl !b) e := fun {e} h => (ev_cmp (o := .eq) (x := .str (kS b)) (y := .str "exp") (k := !b) (e1 := e) (ev_v h) ev_str (by cases b <;> kernel_rfl)).1
  let E4 : Mp.Env := [sc, some (stD xs (p1 + 1)), m, some (.str x), some (.str (kS b)), some t.D, some (.str (kS !b)), none, none, none, none, none]
  have s4 : dS C (.set 6 (.ix (.lst [.str "com", .str "exp"]) (.bi .int [.cmp .eq (.v 4) (.str "com")]))) E3 = .ok .nx E4 :=
    dS_set (e1 := E3) (ev_ix (x := .lst [.str "com", .str "exp"]) (ev_lst (evs_cons ev_str (evs_cons ev_str evs_nil))) (ev_bi1 (q4 rfl) intB) (by cases b; exact at0; exact at1))
  let E5 : Mp.Env := [sc, some (stD xs (p1 + 1)), m, some (.str x), some (.str (kS b)), some t.D, some (.str (kS !b)), some (useT x b).D, none, none, none, none]
  have s5 : dS C (.set 7 (.ix (.lst [.tup [.str "call", .v 3, .tup []], .tup [.str "while", .tup [.str "call", .v 3, .tup []], .tup [.str "skip"]]]) (.bi .int [.cmp .eq (.v 4) (.str "exp")]))) E4 = .ok .nx E5 := by
    have c1 : (den C (.tup [.str "call", .v 3, .tup []])).1 E4 = .ok (.tup [.str "call", .str x, .tup []]) E4 := ev_tup (evs_cons ev_str (evs_cons (ev_v rfl) (evs_cons (ev_tup evs_nil) evs_nil)))
    exact dS_set (e1 := E4) (ev_ix (x := .lst [.tup [.str "call", .str x, .tup []], .tup [.str "while", .tup [.str "call", .str x, .tup []], .tup [.str "skip"]]]) (ev_lst (evs_cons c1 (evs_cons (ev_tup (evs_cons ev_str (evs_cons c1 (evs_cons (ev_tup (evs_cons ev_str evs_nil)) evs_nil)))) evs_nil))) (ev_bi1 (q5 rfl) intB) (by rw [use_D]; cases b; exact at1; exact at0))
  let cl := clD (.tup [sg1 x (kS b) []]) "com" (cliT x b)
  let En (p : Nat) (o9 o10 o11 : Option D) : Mp.Env := [sc, some (stD xs p), m, some (.str x), some (.str (kS b)), some t.D, some (.str (kS !b)), some (useT x b).D, some cl, o9, o10, o11]
  have sgv : ∀ {e : Mp.Env} {i : Nat} {k : Str}, getS e 3 = some (.str x) → getS e i = some (.str k) → (den C (.tup [.v 3, .tup [], .v i])).1 e = .ok (sg1 x k []) e := fun h1 h2 => ev_tup (evs_cons (ev_v h1) (evs_cons (ev_tup evs_nil) (evs_cons (ev_v h2) evs_nil)))
  have s6 : dS C (.set 8 (.tup [.tup [.tup [.v 3, .tup [], .v 4]], .str "com", .tup [.str "new", .str "v", .tup [.str "num", .int 1], .tup [.str "seq", .v 7, .tup [.str "set", .str "v", .tup [.str "num", .int 2]]]]])) E5 = .ok .nx (En (p1 + 1) none none none) := by
    have n1 : ∀ i : Int, (den C (.tup [.str "num", .int i])).1 E5 = .ok (Tm.num i).D E5 := fun i => ev_tup (evs_cons ev_str (evs_cons ev_int evs_nil))
    exact dS_set (e1 := E5) (ev_tup (evs_cons (ev_tup (evs_cons (sgv rfl rfl) evs_nil)) (evs_cons ev_str (evs_cons (ev_tup (evs_cons ev_str (evs_cons ev_str (evs_cons (n1 1) (evs_cons (ev_tup (evs_cons ev_str (evs_cons (ev_v rfl) (evs_cons (ev_tup (evs_cons ev_str (evs_cons ev_str (evs_cons (n1 2) evs_nil)))) evs_nil)))) evs_nil))))) evs_nil))))
  -- what is told
  obtain ⟨b1, b2, b3, b4⟩ := cli_b (b := b) hxo
  obtain ⟨la1, ha1⟩ := okv_ok (hcc.a1 (cliT x b))
  obtain ⟨lr1, hr1⟩ := right_of (n := 0) hM ha1 b4 b1 (by omega) b3
  obtain ⟨la2, ha2⟩ := okv_ok (hcc.a2 (.z 1))
  obtain ⟨lr2, hr2⟩ := right_of (n := 0) hM ha2 trivial (by decide) (by show _ + 0 ≤ 29; omega) (by decide)
  obtain ⟨la3, ha3⟩ := okv_ok (hcc.a1 (.z 0))
  obtain ⟨lr3, hr3⟩ := right_of (n := 0) hM ha3 trivial (by decide) (by show _ + 0 ≤ 29; omega) (by decide)
  obtain ⟨u, hu, w4⟩ := nx1 (p := p1 + 1) (r := [m, some (.str x), some (.str (kS b)), some t.D, some (.str (kS !b)), some (useT x b).D, some cl, none, none, none]) (x := .int 40) (m := 40) (by omega) ev_int rfl
  obtain ⟨g1, g2, g3, g4⟩ := long_b u
  obtain ⟨la4, ha4⟩ := okv_ok (hcc.a2 (longT u))
  obtain ⟨lr4, hr4⟩ := right_of (n := 0) hM ha4 g4 (by omega) (by omega) (by omega)
  obtain ⟨lg, hlg⟩ := long_ok (n := 5) (m := u) (by omega)
  let bA : List Mp.S := [.ifs (.cmp .ne (.call "_law_told" [.v 2, .v 9]) (.str "right")) [.ret (.bl false)] []]
  have ne_ : ∀ {a : E} {e : Mp.Env} {z z' : Str} {k : Bool}, (den C a).1 e = .ok (.str z) e → cmpD .ne (.str z) (.str z') = some k → (den C (.cmp .ne a (.str z'))).2 e = .ok k e := fun {a e z z' k} h hk => (ev_cmp (e1 := e) h ev_str hk).2
  have tv : ∀ {e : Mp.Env} {i : Nat} {c : D} {z : Str} {ls : List D}, getS e 2 = m → getS e i = some c → C.cl "_law_told" [md vs os, c] = .ok (.str z) ls → (den C (.call "_law_told" [.v 2, .v i])).1 e = .ok (.str z) e := fun h1 h2 h3 => ev_call (C := C) (evs_cons (ev_v h1) (evs_cons (ev_v h2) evs_nil)) rfl h3
  have bA_ok : ∀ {p : Nat} {c : D} {ls : List D}, C.cl "_law_told" [md vs os, c] = .ok (.str "right") ls → dB C bA (En p (some c) none none) = .ok .nx (En p (some c) none none) := fun h => dB_cons (if_f (ne_ (tv rfl rfl h) (by kernel_rfl)) dB_nil) dB_nil
  have s7 : dS C (.for_ (.nm 9) .seq [.lst [.v 8, .tup [.tup [], .str "com", .tup [.str "stop"]], .tup [.tup [.tup [.v 3, .tup [], .v 4]], .str "com", .tup [.str "skip"]], .call "_law_long" [.call "_law_next" [.ln 1, .int 40]]]] none bA) (En (p1 + 1) none none none) = .ok .nx (En (p1 + 1 + 1) (some (clD (.tup []) "com" (longT u))) none none) := by
    have hl7 : (den C (.lst [.v 8, .tup [.tup [], .str "com", .tup [.str "stop"]], .tup [.tup [.tup [.v 3, .tup [], .v 4]], .str "com", .tup [.str "skip"]], .call "_law_long" [.call "_law_next" [.ln 1, .int 40]]])).1 (En (p1 + 1) none none none) = .ok (.lst [cl, clD (.tup []) "com" (.z 1), clD (.tup [sg1 x (kS b) []]) "com" (.z 0), clD (.tup []) "com" (longT u)]) (En (p1 + 1 + 1) none none none) := by
      have a1 : (den C (.tup [.tup [], .str "com", .tup [.str "stop"]])).1 (En (p1 + 1) none none none) = .ok (clD (.tup []) "com" (.z 1)) (En (p1 + 1) none none none) := ev_tup (evs_cons (ev_tup evs_nil) (evs_cons ev_str (evs_cons (ev_tup (evs_cons ev_str evs_nil)) evs_nil)))
      have a2 : (den C (.tup [.tup [.tup [.v 3, .tup [], .v 4]], .str "com", .tup [.str "skip"]])).1 (En (p1 + 1) none none none) = .ok (clD (.tup [sg1 x (kS b) []]) "com" (.z 0)) (En (p1 + 1) none none none) := ev_tup (evs_cons (ev_tup (evs_cons (sgv rfl rfl) evs_nil)) (evs_cons ev_str (evs_cons (ev_tup (evs_cons ev_str evs_nil)) evs_nil)))
      have a3 : (den C (.call "_law_long" [.call "_law_next" [.ln 1, .int 40]])).1 (En (p1 + 1) none none none) = .ok (clD (.tup []) "com" (longT u)) (En (p1 + 1 + 1) none none none) := ev_call (evs_cons w4 evs_nil) rfl (cf hlg)
      exact ev_lst (evs_cons (ev_v rfl) (evs_cons a1 (evs_cons a2 (evs_cons a3 evs_nil))))
    refine (dS_for (as := [.lst [cl, clD (.tup []) "com" (.z 1), clD (.tup [sg1 x (kS b) []]) "com" (.z 0), clD (.tup []) "com" (longT u)]]) (ds := [cl, clD (.tup []) "com" (.z 1), clD (.tup [sg1 x (kS b) []]) "com" (.z 0), clD (.tup []) "com" (longT u)]) (e1 := En (p1 + 1 + 1) none none none) (evs_cons hl7 evs_nil) rfl).trans ?_
    exact forL_c (e1 := En (p1 + 1 + 1) (some cl) none none) rfl (bA_ok (cf hr1)) (forL_c (e1 := En (p1 + 1 + 1) (some (clD (.tup []) "com" (.z 1))) none none) rfl (bA_ok (cf hr2)) (forL_c (e1 := En (p1 + 1 + 1) (some (clD (.tup [sg1 x (kS b) []]) "com" (.z 0))) none none) rfl (bA_ok (cf hr3)) (forL_c (e1 := En (p1 + 1 + 1) (some (clD (.tup []) "com" (longT u))) none none) rfl (bA_ok (cf hr4)) forL_n)))
  let o9 := some (clD (.tup []) "com" (longT u))
  let q := p1 + 1 + 1
  -- names
  obtain ⟨ln1, hn1⟩ := told_name (n := 0) (exv_ok (hcc.b1 (.z 0)))
  obtain ⟨ln2, hn2⟩ := told_name (n := 0) (exv_ok (hcc.b2 (.num 1)))
  have s8 : dS C (.ifs (.cmp .ne (.call "_law_told" [.v 2, .tup [.tup [.tup [.v 3, .tup [], .v 4], .tup [.str "none", .tup [], .str "com"]], .str "com", .tup [.str "skip"]]]) (.str "name")) [.ret (.bl false)] []) (En q o9 none none) = .ok .nx (En q o9 none none) :=
    if_f (ne_ (ev_call (C := C) (evs_cons (ev_v rfl) (evs_cons (ev_tup (evs_cons (ev_tup (evs_cons (sgv rfl rfl) (evs_cons (ev_tup (evs_cons ev_str (evs_cons (ev_tup evs_nil) (evs_cons ev_str evs_nil)))) evs_nil))) (evs_cons ev_str (evs_cons (ev_tup (evs_cons ev_str evs_nil)) evs_nil)))) evs_nil)) rfl (cf hn1)) (by kernel_rfl)) dB_nil
  have s9 : dS C (.ifs (.cmp .ne (.call "_law_told" [.v 2, .tup [.tup [.tup [.v 3, .tup [], .v 6], .tup [.str "zz", .tup [], .str "com"]], .str "exp", .tup [.str "num", .int 1]]]) (.str "name")) [.ret (.bl false)] []) (En q o9 none none) = .ok .nx (En q o9 none none) :=
    if_f (ne_ (ev_call (C := C) (evs_cons (ev_v rfl) (evs_cons (ev_tup (evs_cons (ev_tup (evs_cons (sgv rfl rfl) (evs_cons (ev_tup (evs_cons ev_str (evs_cons (ev_tup evs_nil) (evs_cons ev_str evs_nil)))) evs_nil))) (evs_cons ev_str (evs_cons (ev_tup (evs_cons ev_str (evs_cons ev_int evs_nil))) evs_nil)))) evs_nil)) rfl (cf hn2)) (by kernel_rfl)) dB_nil
  -- kinds
  obtain ⟨lk1, hk1⟩ := told_kind (n := 0) (exv_ok (hcc.c1 (.z 0)))
  obtain ⟨lk2, hk2⟩ := told_kind (n := 0) (exv_ok (hcc.c2 (.z 0)))
  obtain ⟨lk3, hk3⟩ := told_kind (n := 0) (exv_ok (hcc.c3 (.num 0)))
  let bB : List Mp.S := [.ifs (.cmp .ne (.call "_law_told" [.v 2, .v 10]) (.str "bad kind")) [.ret (.bl false)] []]
  have bB_ok : ∀ {p : Nat} {c : D} {ls : List D}, C.cl "_law_told" [md vs os, c] = .ok (.str "bad kind") ls → dB C bB (En p o9 (some c) none) = .ok .nx (En p o9 (some c) none) := fun h => dB_cons (if_f (ne_ (tv rfl rfl h) (by kernel_rfl)) dB_nil) dB_nil
  let k1 := clD (.tup [sg1 x (kS !b) []]) "com" (.z 0)
  let k2 := clD (.tup [sg1 x (kS b) [.str "com"]]) "com" (.z 0)
  let k3 := clD (.tup []) "exp" (.num 0)
  have s10 : dS C (.for_ (.nm 10) .seq [.lst [.tup [.tup [.tup [.v 3, .tup [], .v 6]], .str "com", .tup [.str "skip"]], .tup [.tup [.tup [.v 3, .tup [.str "com"], .v 4]], .str "com", .tup [.str "skip"]], .tup [.tup [], .str "exp", .tup [.str "num", .int 0]]]] none bB) (En q o9 none none) = .ok .nx (En q o9 (some k3) none) := by
    have a1 : (den C (.tup [.tup [.tup [.v 3, .tup [], .v 6]], .str "com", .tup [.str "skip"]])).1 (En q o9 none none) = .ok k1 (En q o9 none none) := ev_tup (evs_cons (ev_tup (evs_cons (sgv rfl rfl) evs_nil)) (evs_cons ev_str (evs_cons (ev_tup (evs_cons ev_str evs_nil)) evs_nil)))
    have a2 : (den C (.tup [.tup [.tup [.v 3, .tup [.str "com"], .v 4]], .str "com", .tup [.str "skip"]])).1 (En q o9 none none) = .ok k2 (En q o9 none none) := ev_tup (evs_cons (ev_tup (evs_cons (ev_tup (evs_cons (ev_v rfl) (evs_cons (ev_tup (evs_cons ev_str evs_nil)) (evs_cons (ev_v rfl) evs_nil)))) evs_nil)) (evs_cons ev_str (evs_cons (ev_tup (evs_cons ev_str evs_nil)) evs_nil)))
    have a3 : (den C (.tup [.tup [], .str "exp", .tup [.str "num", .int 0]])).1 (En q o9 none none) = .ok k3 (En q o9 none none) := ev_tup (evs_cons (ev_tup evs_nil) (evs_cons ev_str (evs_cons (ev_tup (evs_cons ev_str (evs_cons ev_int evs_nil))) evs_nil)))
    have hl10 : (den C (.lst [.tup [.tup [.tup [.v 3, .tup [], .v 6]], .str "com", .tup [.str "skip"]], .tup [.tup [.tup [.v 3, .tup [.str "com"], .v 4]], .str "com", .tup [.str "skip"]], .tup [.tup [], .str "exp", .tup [.str "num", .int 0]]])).1 (En q o9 none none) = .ok (.lst [k1, k2, k3]) (En q o9 none none) := ev_lst (evs_cons a1 (evs_cons a2 (evs_cons a3 evs_nil)))
    refine (dS_for (as := [.lst [k1, k2, k3]]) (ds := [k1, k2, k3]) (e1 := En q o9 none none) (evs_cons hl10 evs_nil) rfl).trans ?_
    exact forL_c (e1 := En q o9 (some k1) none) rfl (bB_ok (cf hk1)) (forL_c (e1 := En q o9 (some k2) none) rfl (bB_ok (cf hk2)) (forL_c (e1 := En q o9 (some k3) none) rfl (bB_ok (cf hk3)) forL_n))
  -- sizes
  let ar : Int := (vs.length : Int) + (os.length : Int)
  let E11 := En q o9 (some k3) (some (.int ar))
  have s11 : dS C (.set 11 (.bin .add (.bi .len [.ix (.v 2) (.int 0)]) (.bi .len [.ix (.v 2) (.int 1)]))) (En q o9 (some k3) none) = .ok .nx E11 := dS_set (e1 := En q o9 (some k3) none) (ev_bin (m3 rfl) (m2 rfl) addI)
  obtain ⟨f1, f2, f3, f4⟩ := long_b 199
  obtain ⟨la5, ha5⟩ := okv_ok (hcc.a2 (longT 199))
  obtain ⟨ll1, hl1⟩ := large_of (n := 0) hM ha5 f4 (by omega) (.inl (by omega))
  obtain ⟨lg5, hlg5⟩ := long_ok (n := 5) (m := 199) (by omega)
  let dm := 30 - (vs.length + os.length)
  obtain ⟨d1, d2, d3, d4⟩ := deep_b dm
  obtain ⟨la6, ha6⟩ := okv_ok (hcc.a2 (deepT dm))
  obtain ⟨ll2, hl2⟩ := large_of (n := 0) hM ha6 d4 (by omega) (.inr (by omega))
  obtain ⟨lg6, hlg6⟩ := deep_ok (n := 5) (m := dm) (k := 31 - ar) (by omega) (by simp only [ar, dm]; omega)
  let dn := 29 - (vs.length + os.length)
  obtain ⟨c1, c2, c3, c4⟩ := deep_b dn
  obtain ⟨la7, ha7⟩ := okv_ok (hcc.a2 (deepT dn))
  obtain ⟨ll3, hl3⟩ := right_of (n := 0) hM ha7 c4 (by omega) (by omega) (by omega)
  obtain ⟨lg7, hlg7⟩ := deep_ok (n := 5) (m := dn) (k := 30 - ar) (by omega) (by simp only [ar, dn]; omega)
  have t1 : (den C (.cmp .ne (.call "_law_told" [.v 2, .call "_law_long" [.int 199]]) (.str "large"))).2 E11 = .ok false E11 := ne_ (ev_call (C := C) (evs_cons (ev_v rfl) (evs_cons (ev_call (C := C) (evs_cons ev_int evs_nil) rfl (cf hlg5)) evs_nil)) rfl (cf hl1)) (by kernel_rfl)
  have t2 : (den C (.cmp .ne (.call "_law_told" [.v 2, .call "_law_deep" [.bin .sub (.int 31) (.v 11)]]) (.str "large"))).2 E11 = .ok false E11 := ne_ (ev_call (C := C) (evs_cons (ev_v rfl) (evs_cons (ev_call (C := C) (evs_cons (ev_bin (y := .int ar) ev_int (ev_v rfl) subI) evs_nil) rfl (cf hlg6)) evs_nil)) rfl (cf hl2)) (by kernel_rfl)
  have s12 : dS C (.ifs (.or [.cmp .ne (.call "_law_told" [.v 2, .call "_law_long" [.int 199]]) (.str "large"), .cmp .ne (.call "_law_told" [.v 2, .call "_law_deep" [.bin .sub (.int 31) (.v 11)]]) (.str "large")]) [.ret (.bl false)] []) E11 = .ok .nx E11 :=
    if_f (e1 := E11) ((or_f t1).trans (by rw [or1]; exact t2)) dB_nil
  have c3 : (den C (.call "_law_told" [.v 2, .call "_law_deep" [.bin .sub (.int 30) (.v 11)]])).1 E11 = .ok (.str "right") E11 := ev_call (C := C) (evs_cons (ev_v rfl) (evs_cons (ev_call (C := C) (evs_cons (ev_bin (y := .int ar) ev_int (ev_v rfl) subI) evs_nil) rfl (cf hlg7)) evs_nil)) rfl (cf hl3)
  have t3 : (den C (.cmp .eq (.call "_law_told" [.v 2, .call "_law_deep" [.bin .sub (.int 30) (.v 11)]]) (.str "right"))).1 E11 = .ok (.bl true) E11 :=
    (ev_cmp (e1 := E11) c3 ev_str (by kernel_rfl)).1
  subst hC
  exact call_rt (P := P) (n := 6) (F := f_law) (ds := [.rol (ns.map .int)]) (r := .bl true) find_law rfl
    (dB_cons s1 (dB_cons s2 (dB_cons s3 (dB_cons s4 (dB_cons s5 (dB_cons s6 (dB_cons s7 (dB_cons s8 (dB_cons s9 (dB_cons s10 (dB_cons s11 (dB_cons s12 (dB_ret (dS_ret t3))))))))))))))
end Lw
namespace Lw
open PySem Mp
theorem pok : P.ok = true := by decide +kernel
theorem pnd : (P.fs.map fun F => F.d.name).Nodup := by decide +kernel
abbrev Rr : PySem.W.OpenRow := PySem.W.OpenLaw.row PySem.Challenge.rw_doppelganger_k75_clients_refused
abbrev hk : PySem.W.Hook := He.hookX 4 [] (P.fs.map Fd.d) P.ts [] P.factB
def ob (s : PySem.W.SharedT) : He.AlX := He.obsX 4 [] (P.fs.map Fd.d) P.ts [] P.factB (HandSHeadRun.getT s)
theorem ob_eq (s : PySem.W.SharedT) : ob s = hk.obs s.abs := He.obsX_eq (HandSHeadRun.getT_eq s)
abbrev loose : List Str := ["__name__", "DoppelError", "NotAllowed", "BadName", "BadKind", "TooLarge", "MAX_NODES", "MAX_LEVEL", "FORMS", "part_kind", "kids", "nodes", "check_size", "wrapped", "first_state", "check_client", "link", "_law_stream", "_law_pick", "_law_next", "_law_exp", "_law_com", "_law_module", "_law_linked", "_law_told", "_law_long", "_law_deep"]
theorem run (w : World) : HandSHeadRun.RunEq Rr (PySem.W.view Rr.prog [32]) hk ob 4000 loose w :=
  PySem.W.byRow2 "special-get-raises" (P := fun w => HandSHeadRun.RunEq Rr (PySem.W.view Rr.prog [32]) hk ob 4000 loose w) (fun w => by intro os; kernel_rfl) (fun w => by intro os; kernel_rfl) w
end Lw
open PySem PySem.W PySem.Calls PyProof.Rows
theorem PySem.Challenge.cw_doppelganger_k75_clients_refused_holds : PySem.Challenge.rw_doppelganger_k75_clients_refused.Holds := by
  w_on; o_law
  refine HandSHeadRun.head_any (r := OpenLaw.row PySem.Challenge.rw_doppelganger_k75_clients_refused) (q := view (OpenLaw.row PySem.Challenge.rw_doppelganger_k75_clients_refused).prog [32]) (H := Lw.hk) (ob := Lw.ob) (M := 4000) (loose := Lw.loose) (d := HandSHeadRun.topDef (OpenLaw.row PySem.Challenge.rw_doppelganger_k75_clients_refused).prog 32) (kwd := []) Lw.ob_eq
    (by kernel_rfl) (fun s => by kernel_rfl) Lw.run (by kernel_rfl) (by kernel_rfl) (by kernel_rfl) (by rfl) (by first | assumption | decide +kernel) (by decide +kernel) ⟨rfl, rfl, rfl, rfl, rfl, by decide +kernel⟩ ?hw ?hc
  case hw => w_witness2
  case hc =>
    exact Mp.law_end (l := PySem.Challenge.rw_doppelganger_k75_clients_refused) (n := 63) (k := 7) (P := Lw.P) (L := Lw.f_law) (x := "_law_script") rfl (by decide) (by kernel_rfl) ⟨rfl, by decide, by decide⟩ (by kernel_rfl) (by simp [Lw.P]) rfl rfl Lw.pok Lw.pnd Lw.bds Lw.law75
