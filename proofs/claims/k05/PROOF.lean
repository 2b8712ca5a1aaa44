import PyProof.Rows.All
import Wide.All
import OpenK.AllK
import Wide.FinOn
import HandS.ForMost
import HandS.ForExc
import HandS.Wide
import HandS.Deep
import HandS.Walk
import HandS.TupLe
import HandS.TupSets
import HandS.Conv
import HandS.Style
import HandS.IsInst
import HandS.SortRule
import PyProof.Rows.Chain
import PySem.Challenge.RW_dyeweb_k05_worths
/-! The words that the mirrors are written in: plain Lean, no library. -/
namespace Dv
set_option linter.all false
variable {α β S R : Type}
/-- what leaves a loop's turn -/
inductive Stp (S R : Type) where
  | go (s : S)
  | ret (r : R)
def Stp.elim {T : Type} (st : Stp S R) (f : S → T) (g : R → T) : T := match st with
  | .go s => f s
  | .ret r => g r
@[simp] theorem Stp.elim_go {T : Type} (s : S) (f : S → T) (g : R → T) : (Stp.go s : Stp S R).elim f g = f s := rfl
@[simp] theorem Stp.elim_ret {T : Type} (r : R) (f : S → T) (g : R → T) : (Stp.ret r : Stp S R).elim f g = g r := rfl
def loopG (f : S → α → Option S) : S → List α → Option S
  | s, [] => some s
  | s, x :: xs => (f s x).bind fun s' => loopG f s' xs
def loopR (f : S → α → Option (Stp S R)) : S → List α → Option (Stp S R)
  | s, [] => some (.go s)
  | s, x :: xs => (f s x).bind fun st => st.elim (fun s' => loopR f s' xs) fun r => some (.ret r)
def whileG (c : S → Option Bool) (f : S → Option S) : Nat → S → Option S
  | 0, _ => none
  | n + 1, s => (c s).bind fun b => if b then (f s).bind fun s' => whileG c f n s' else some s
def whileR (c : S → Option Bool) (f : S → Option (Stp S R)) : Nat → S → Option (Stp S R)
  | 0, _ => none
  | n + 1, s => (c s).bind fun b => if b then (f s).bind fun st => st.elim (fun s' => whileR c f n s') fun r => some (.ret r) else some (.go s)
def lcG (c : α → Option Bool) (f : α → Option β) : List α → Option (List β)
  | [] => some []
  | x :: xs => (c x).bind fun b => if b then (f x).bind fun y => (lcG c f xs).bind fun ys => some (y :: ys) else lcG c f xs
/-- a list comprehension over a list that is not too long -/
def lc (c : α → Option Bool) (f : α → Option β) (xs : List α) : Option (List β) := if xs.length < 10000000 then lcG c f xs else none
def ixZ (n : Nat) (i : Int) : Option Nat := if 0 ≤ i then (if i < n then some i.toNat else none) else if -(n : Int) ≤ i then some (i + n).toNat else none
def atZ (xs : List α) (i : Int) : Option α := (ixZ xs.length i).bind fun j => xs[j]?
def setZ (xs : List α) (i : Int) (x : α) : Option (List α) := (ixZ xs.length i).bind fun j => some (xs.set j x)
def rng (a b : Int) : Option (List Int) := if (-4000000000000000000 ≤ a ∧ a ≤ 4000000000000000000) ∧ (-4000000000000000000 ≤ b ∧ b ≤ 4000000000000000000) then some ((List.range (b - a).toNat).map fun i => a + (i : Nat)) else none
def mulZ (i j : Int) : Option Int := if (-(2 ^ 64) < i ∧ i < 2 ^ 64) ∨ (-(2 ^ 64) < j ∧ j < 2 ^ 64) then some (i * j) else none
def divZ (i j : Int) : Option Int := if 0 < j ∧ j < 1073741824 then some (i / j) else none
def divW (i j : Int) : Option Int := if 0 < j ∧ j.natAbs.log2 < 9000 then some (i / j) else none
def modZ (i j : Int) : Option Int := if 0 < j then some (i % j) else none
def addL (xs : List α) (y : α) : Option (List α) := if xs.length < 10000000 then some (xs ++ [y]) else none
def catL (xs ys : List α) : Option (List α) := if xs.length + ys.length ≤ 10000000 then some (xs ++ ys) else none
def cutIx (n d : Nat) : Option Int → Nat
  | none => d
  | some i => if i < 0 then (i + n).toNat else min i.toNat n
def memL [DecidableEq α] (x : α) (xs : List α) : Bool := decide (x ∈ xs)
/-- a part of a list -/
def cutZ (xs : List α) (lo hi : Option Int) : List α := (xs.drop (cutIx xs.length 0 lo)).take (cutIx xs.length xs.length hi - cutIx xs.length 0 lo)
/-- the order of pairs -/
def leP (a b : Int × Int) : Bool := if a.1 = b.1 then decide (a.2 ≤ b.2) else decide (a.1 ≤ b.1)
def ins {γ : Type} (le : γ → γ → Bool) (x : γ) : List γ → List γ
  | [] => [x]
  | y :: ys => if le x y then x :: y :: ys else y :: ins le x ys
def srt {γ : Type} (le : γ → γ → Bool) : List γ → List γ
  | [] => []
  | x :: xs => ins le x (srt le xs)
end Dv
namespace Dv
theorem leP_total (a b : Int × Int) : leP a b = true ∨ leP b a = true := by
  unfold leP
  by_cases h : a.1 = b.1
  · simp only [h, ↓reduceIte, decide_eq_true_eq]
    omega
  · have h' : ¬ b.1 = a.1 := fun e => h e.symm
    simp only [h, h', ↓reduceIte, decide_eq_true_eq]
    omega
theorem leP_trans {a b c : Int × Int} (h1 : leP a b = true) (h2 : leP b c = true) : leP a c = true := by
  unfold leP at *
  split at h1 <;> split at h2 <;> split <;> simp_all <;> omega
theorem leP_anti {a b : Int × Int} (h1 : leP a b = true) (h2 : leP b a = true) : a = b := by
  obtain ⟨a1, a2⟩ := a
  obtain ⟨b1, b2⟩ := b
  unfold leP at *
  dsimp only at *
  split at h1 <;> split at h2 <;> simp_all <;> omega
/-- a total order -/
structure Ord {γ : Type} (le : γ → γ → Bool) : Prop where
  total : ∀ a b, le a b = true ∨ le b a = true
  trans : ∀ a b c, le a b = true → le b c = true → le a c = true
  anti : ∀ a b, le a b = true → le b a = true → a = b
theorem ordP : Ord leP := ⟨leP_total, fun _ _ _ => leP_trans, fun _ _ => leP_anti⟩
def leI (a b : Int) : Bool := decide (a ≤ b)
theorem ordI : Ord leI := ⟨fun a b => by simp only [leI, decide_eq_true_eq]; omega, fun a b c => by simp only [leI, decide_eq_true_eq]; omega, fun a b => by simp only [leI, decide_eq_true_eq]; omega⟩
section
variable {γ : Type} {le : γ → γ → Bool}
theorem ins_perm (x : γ) : ∀ l, (ins le x l).Perm (x :: l)
  | [] => .refl _
  | y :: l => by
    unfold ins
    split
    · exact .refl _
    · exact ((ins_perm x l).cons y).trans (List.Perm.swap x y l)
theorem srt_perm : ∀ l, (srt le l).Perm l
  | [] => .refl _
  | x :: l => (ins_perm x _).trans ((srt_perm l).cons x)
theorem ins_sorted (O : Ord le) (x : γ) : ∀ l, l.Pairwise (fun a b => le a b = true) → (ins le x l).Pairwise (fun a b => le a b = true)
  | [], _ => by simp [ins]
  | y :: l, h => by
    unfold ins
    by_cases c : le x y = true
    · rw [if_pos c]
      refine List.pairwise_cons.mpr ⟨fun z hz => ?_, h⟩
      rcases List.mem_cons.mp hz with rfl | hz
      · exact c
      · exact O.trans _ _ _ c ((List.pairwise_cons.mp h).1 z hz)
    · rw [if_neg c]
      refine List.pairwise_cons.mpr ⟨fun z hz => ?_, ins_sorted O x l (List.pairwise_cons.mp h).2⟩
      rcases List.mem_cons.mp ((ins_perm x l).mem_iff.mp hz) with rfl | hz
      · rcases O.total z y with q | q
        · exact absurd q c
        · exact q
      · exact (List.pairwise_cons.mp h).1 z hz
theorem srt_sorted (O : Ord le) : ∀ l, (srt le l).Pairwise (fun a b => le a b = true)
  | [] => .nil
  | x :: l => ins_sorted O x _ (srt_sorted O l)
theorem sorted_uniq (O : Ord le) : ∀ {l m : List γ}, l.Perm m → l.Pairwise (fun a b => le a b = true) → m.Pairwise (fun a b => le a b = true) → l = m
  | [], m, h, _, _ => (List.Perm.eq_nil h.symm).symm
  | x :: l, [], h, _, _ => absurd h.length_eq (by simp)
  | x :: l, y :: m, h, hl, hm => by
    have e : x = y := by
      rcases List.mem_cons.mp (h.mem_iff.mp (List.mem_cons_self (a := x) (l := l))) with e | hx
      · exact e
      · rcases List.mem_cons.mp (h.mem_iff.mpr (List.mem_cons_self (a := y) (l := m))) with e | hy
        · exact e.symm
        · exact O.anti _ _ ((List.pairwise_cons.mp hl).1 y hy) ((List.pairwise_cons.mp hm).1 x hx)
    subst e
    rw [sorted_uniq O h.cons_inv (List.pairwise_cons.mp hl).2 (List.pairwise_cons.mp hm).2]
theorem srt_uniq (O : Ord le) {l m : List γ} (h : l.Perm m) (hl : l.Pairwise (fun a b => le a b = true)) : l = srt le m :=
  sorted_uniq O (h.trans (srt_perm m).symm) hl (srt_sorted O m)
end
/-- keys of a dict, in the order in which they came -/
def putD {γ : Type} [DecidableEq γ] (ks : List γ) (k : γ) : List γ := if k ∈ ks then ks else ks ++ [k]
end Dv

set_option linter.all false
/-! Pure lemmas about the vocabulary. -/
namespace Q
open Dv
variable {α β S R : Type}
theorem loopR_any {f : Unit → α → Option (Stp Unit R)} (bad : α → Bool) (r : R) : ∀ {xs : List α}, (∀ x ∈ xs, f () x = some (if bad x = true then .ret r else .go ())) →
    loopR f () xs = some (if xs.any bad = true then .ret r else .go ())
  | [], _ => rfl
  | x :: xs, h => by
    have h1 := h x List.mem_cons_self
    have h2 := loopR_any bad r fun y hy => h y (List.mem_cons_of_mem _ hy)
    show (f () x).bind _ = _
    rw [h1]
    cases hb : bad x
    · simp [hb, h2]
    · simp [hb]
theorem loopG_inv {f : S → α → Option S} (I : List α → S → Prop) : ∀ {xs : List α} {pre : List α} {s : S}, I pre s →
    (∀ pre x s, I pre s → x ∈ xs → ∃ s', f s x = some s' ∧ I (pre ++ [x]) s') → ∃ s', loopG f s xs = some s' ∧ I (pre ++ xs) s'
  | [], pre, s, h, _ => ⟨s, rfl, by rw [List.append_nil]; exact h⟩
  | x :: xs, pre, s, h, hs => by
    obtain ⟨s1, e1, h1⟩ := hs pre x s h List.mem_cons_self
    obtain ⟨s2, e2, h2⟩ := loopG_inv I (xs := xs) h1 fun p y s i m => hs p y s i (List.mem_cons_of_mem _ m)
    refine ⟨s2, ?_, ?_⟩
    · show (f s x).bind _ = _
      rw [e1]
      exact e2
    · rw [show pre ++ x :: xs = pre ++ [x] ++ xs by simp]
      exact h2
/-- a loop that folds -/
theorem loopG_fold {f : S → α → Option S} (g : S → α → S) (I : S → Prop) : ∀ {xs : List α} {s : S}, I s → (∀ s x, I s → x ∈ xs → f s x = some (g s x) ∧ I (g s x)) → loopG f s xs = some (xs.foldl g s) ∧ I (xs.foldl g s)
  | [], s, h, _ => ⟨rfl, h⟩
  | x :: xs, s, h, hs => by
    obtain ⟨e1, h1⟩ := hs s x h List.mem_cons_self
    obtain ⟨e2, h2⟩ := loopG_fold g I (xs := xs) h1 fun s y i m => hs s y i (List.mem_cons_of_mem _ m)
    refine ⟨?_, h2⟩
    show (f s x).bind _ = _
    rw [e1]
    exact e2
theorem rng_nat {a b : Int} (h1 : -1000000 ≤ a) (h2 : a ≤ 1000000) (h3 : -1000000 ≤ b) (h4 : b ≤ 1000000) : rng a b = some ((List.range (b - a).toNat).map fun i => a + (i : Nat)) := by
  unfold rng
  rw [if_pos (by omega)]
theorem rng0 {n : Nat} (h : n ≤ 1000000) : rng 0 (n : Int) = some ((List.range n).map fun i => ((i : Nat) : Int)) := by
  rw [rng_nat (by omega) (by omega) (by omega) (by omega)]
  have e : ((n : Int) - 0).toNat = n := by omega
  rw [e]
  congr 1
  exact List.map_congr_left fun i _ => by omega
theorem mem_rng {a b : Int} {xs : List Int} (h : rng a b = some xs) (x : Int) : x ∈ xs ↔ a ≤ x ∧ x < b := by
  unfold rng at h
  split at h
  · cases h
    rw [List.mem_map]
    constructor
    · rintro ⟨i, hi, rfl⟩
      have := List.mem_range.mp hi
      omega
    · rintro ⟨h1, h2⟩
      exact ⟨(x - a).toNat, List.mem_range.mpr (by omega), by omega⟩
  · cases h
theorem atZ_nat (xs : List α) (k : Nat) : atZ xs (k : Int) = xs[k]? := by
  unfold atZ ixZ
  rw [if_pos (by omega)]
  by_cases h : k < xs.length
  · rw [if_pos (by omega)]
    simp
  · rw [if_neg (by omega)]
    simp [Nat.not_lt.mp h]
theorem atZ_get {xs : List α} {i : Int} (h0 : 0 ≤ i) (h1 : i < xs.length) : ∃ x, atZ xs i = some x ∧ xs[i.toNat]? = some x := by
  have e : ((i.toNat : Nat) : Int) = i := by omega
  have e2 := atZ_nat xs i.toNat
  rw [e] at e2
  have e3 : xs[i.toNat]? = some (xs[i.toNat]'(by omega)) := by simp
  exact ⟨_, e2.trans e3, e3⟩
theorem atZ_mem {xs : List α} {i : Int} {x : α} (h : atZ xs i = some x) : x ∈ xs := by
  unfold atZ at h
  obtain ⟨j, _, e⟩ := Option.bind_eq_some_iff.mp h
  exact List.mem_of_getElem? e
theorem lcG_all {c : α → Option Bool} {f : α → Option β} (p : α → Bool) (g : α → β) : ∀ {xs : List α}, (∀ x ∈ xs, c x = some (p x)) → (∀ x ∈ xs, p x = true → f x = some (g x)) → lcG c f xs = some ((xs.filter p).map g)
  | [], _, _ => rfl
  | x :: xs, h1, h2 => by
    have e := lcG_all p g (fun y hy => h1 y (List.mem_cons_of_mem _ hy)) fun y hy => h2 y (List.mem_cons_of_mem _ hy)
    show (c x).bind _ = _
    rw [h1 x List.mem_cons_self]
    cases hp : p x
    · simp [hp, e]
    · simp [hp, e, h2 x List.mem_cons_self hp]
theorem lc_all {c : α → Option Bool} {f : α → Option β} (p : α → Bool) (g : α → β) {xs : List α} (hl : xs.length < 10000000) (h1 : ∀ x ∈ xs, c x = some (p x)) (h2 : ∀ x ∈ xs, p x = true → f x = some (g x)) : lc c f xs = some ((xs.filter p).map g) := by
  unfold lc
  rw [if_pos hl]
  exact lcG_all p g h1 h2
theorem lc_map {f : α → Option β} (g : α → β) {xs : List α} (hl : xs.length < 10000000) (h2 : ∀ x ∈ xs, f x = some (g x)) : lc (fun _ => some true) f xs = some (xs.map g) := by
  rw [lc_all (fun _ => true) g hl (fun _ _ => rfl) fun x hx _ => h2 x hx]
  rw [List.filter_eq_self.mpr fun _ _ => rfl]
theorem modZ_pos {i j : Int} (h : 0 < j) : modZ i j = some (i % j) := if_pos h
theorem divZ_pos {i j : Int} (h : 0 < j) (h2 : j < 1073741824) : divZ i j = some (i / j) := if_pos ⟨h, h2⟩
theorem mulZ_r {i j : Int} (h : -1000000000000000000 < j) (h2 : j < 1000000000000000000) : mulZ i j = some (i * j) := if_pos (.inr (by omega))
theorem mulZ_l {i j : Int} (h : -1000000000000000000 < i) (h2 : i < 1000000000000000000) : mulZ i j = some (i * j) := if_pos (.inl (by omega))
theorem addL_ok {xs : List α} {y : α} (h : xs.length < 1000000) : addL xs y = some (xs ++ [y]) := if_pos (by omega)
theorem catL_ok {xs ys : List α} (h : xs.length + ys.length < 1000000) : catL xs ys = some (xs ++ ys) := if_pos (by omega)
theorem emod_bd (a : Int) {b : Int} (h : 0 < b) : 0 ≤ a % b ∧ a % b < b := ⟨Int.emod_nonneg _ (by omega), Int.emod_lt_of_pos _ h⟩
theorem cutZ_len (xs : List α) (lo hi : Option Int) : (cutZ xs lo hi).length ≤ xs.length := by
  unfold cutZ
  rw [List.length_take, List.length_drop]
  omega
theorem cutIx_nat (n d k : Nat) : cutIx n d (some (k : Int)) = min k n := by
  show (if (k : Int) < 0 then ((k : Int) + (n : Int)).toNat else min (k : Int).toNat n) = _
  rw [if_neg (by omega)]
  simp
theorem cutZ_upto (xs : List α) (k : Nat) : cutZ xs none (some (k : Int)) = xs.take k := by
  unfold cutZ
  rw [cutIx_nat]
  show List.take (min k xs.length - 0) (xs.drop 0) = _
  rw [List.drop_zero, Nat.sub_zero]
  by_cases h : k ≤ xs.length
  · rw [Nat.min_eq_left h]
  · rw [Nat.min_eq_right (by omega), List.take_of_length_le (Nat.le_refl _), List.take_of_length_le (by omega)]
theorem cutZ_from (xs : List α) (k : Nat) : cutZ xs (some (k : Int)) none = xs.drop k := by
  unfold cutZ
  rw [cutIx_nat]
  show List.take (xs.length - min k xs.length) _ = _
  rw [List.take_of_length_le (by rw [List.length_drop]; omega)]
  by_cases h : k ≤ xs.length
  · rw [Nat.min_eq_left h]
  · rw [Nat.min_eq_right (by omega), List.drop_of_length_le (Nat.le_refl _), List.drop_of_length_le (by omega)]
end Q
namespace Q
open Dv
variable {α β S R : Type}
/-- a loop by what is still to come -/
theorem loopG_rem {f : S → α → Option S} (I : List α → S → Prop) : ∀ {xs : List α} {s : S}, I xs s → (∀ x rest s, I (x :: rest) s → ∃ s', f s x = some s' ∧ I rest s') → ∃ s', loopG f s xs = some s' ∧ I [] s'
  | [], s, h, _ => ⟨s, rfl, h⟩
  | x :: xs, s, h, hs => by
    obtain ⟨s1, e1, h1⟩ := hs x xs s h
    obtain ⟨s2, e2, h2⟩ := loopG_rem I (xs := xs) h1 hs
    refine ⟨s2, ?_, h2⟩
    show (f s x).bind _ = _
    rw [e1]
    exact e2
theorem rng_lt {a b : Int} {xs : List Int} (h : rng a b = some xs) : xs.Pairwise (· < ·) := by
  unfold rng at h
  split at h
  · cases h
    rw [List.pairwise_map]
    exact List.Pairwise.imp (fun {i j} h => by omega) List.pairwise_lt_range
  · cases h
theorem pairwise_adj {r : α → α → Prop} (tr : ∀ a b c, r a b → r b c → r a c) : ∀ {l : List α}, (∀ k a b, l[k]? = some a → l[k + 1]? = some b → r a b) → l.Pairwise r
  | [], _ => .nil
  | [x], _ => by simp
  | x :: y :: l, h => by
    have ih := pairwise_adj tr (l := y :: l) fun k a b h1 h2 => h (k + 1) a b (by simpa using h1) (by simpa using h2)
    have h0 : r x y := h 0 x y rfl rfl
    refine List.pairwise_cons.mpr ⟨fun z hz => ?_, ih⟩
    rcases List.mem_cons.mp hz with rfl | hz
    · exact h0
    · exact tr _ _ _ h0 ((List.pairwise_cons.mp ih).1 z hz)
theorem pairwise_get {r : α → α → Prop} {l : List α} (h : l.Pairwise r) {i j : Nat} {a b : α} (hij : i < j) (ha : l[i]? = some a) (hb : l[j]? = some b) : r a b := by
  obtain ⟨h1, rfl⟩ := List.getElem?_eq_some_iff.mp ha
  obtain ⟨h2, rfl⟩ := List.getElem?_eq_some_iff.mp hb
  exact List.pairwise_iff_getElem.mp h i j h1 h2 hij
end Q

set_option linter.all false
/-! Webs: drawn by a law, and looked at. -/
namespace Q
open Dv
def is_web (points : Int) (ties : List (Int × Int)) : Option Bool :=
  ((if (decide (points < 0)) = true then some true else (if (decide (7 < points)) = true then some true else some (decide (12 < (ties.length : Int)))))).bind fun b1 => if b1 = true then
    some false
  else
  (rng 0 (ties.length : Int)).bind fun xs2 => (loopR (S := Unit) (R := Bool) (fun (s3 : Unit) (q4 : Int) =>
      (atZ ties q4).bind fun p8 =>
      ((if (decide (p8.1 < 0)) = true then some true else (if (decide (p8.2 ≤ p8.1)) = true then some true else some (decide (points ≤ p8.2))))).bind fun b9 => if b9 = true then
        (some false).bind fun y10 => some (.ret y10)
      else
      ((if (decide (0 < q4)) = true then (atZ ties q4).bind fun y11 => (atZ ties (q4 - 1)).bind fun y12 => some (leP y11 y12) else some false)).bind fun b13 => if b13 = true then
        (some false).bind fun y14 => some (.ret y14)
      else
      some (.go ())) () xs2).bind fun st5 => st5.elim (fun s6 =>
  some true) (fun y7 => some y7)
def cell_at (script : List Int) (k : Int) : Option Int :=
  (some (decide (k < (script.length : Int)))).bind fun b15 => if b15 = true then
    atZ script k
  else
  some 0
def next (seed : Int) : Option Int :=
  ((mulZ seed 48271).bind fun y17 => some (y17 + 12345)).bind fun y18 => modZ y18 2147483647
def web_by (script : List Int) (k : Int) (most : Int) (cap : Int) : Option (Int × (List (Int × Int))) :=
  ((cell_at script k).bind fun y19 => modZ y19 (most + 1)).bind fun points_20 =>
  (((cell_at script (k + 1)).bind fun y21 => some (y21, ())).bind fun a22 => next a22.1).bind fun seed_23 =>
  (((cell_at script (k + 2)).bind fun y24 => modZ y24 4).bind fun y25 => some (1 + y25)).bind fun thick_26 =>
  (some []).bind fun ties_27 =>
  (rng 0 points_20).bind fun xs28 => (loopG (S := Int × (List (Int × Int))) (fun (s29 : Int × (List (Int × Int))) (q30 : Int) =>
      (rng (q30 + 1) points_20).bind fun xs34 => (loopG (S := Int × (List (Int × Int))) (fun (s35 : Int × (List (Int × Int))) (q36 : Int) =>
          ((
            ((((divZ s35.1 16).bind fun y45 => modZ y45 4).bind fun y46 => some (decide (y46 < thick_26))).bind fun y47 => (if y47 = true then some (decide ((s35.2.length : Int) < cap)) else some false)).bind fun b48 => if b48 = true then
              (addL s35.2 (q30, q36)).bind fun ties_49 =>
              some ties_49
            else
              some s35.2 : Option ((List (Int × Int))))).bind fun s44 =>
          (next s35.1).bind fun seed_50 =>
          some (seed_50, s44)) (s29.1, s29.2) xs34).bind fun s38 =>
      some (s38.1, s38.2)) (seed_23, ties_27) xs28).bind fun s32 =>
  some (points_20, s32.2)
/-- the order of ties -/
def ltT (a b : Int × Int) : Prop := a.1 < b.1 ∨ (a.1 = b.1 ∧ a.2 < b.2)
instance (a b : Int × Int) : Decidable (ltT a b) := inferInstanceAs (Decidable (_ ∨ _))
theorem ltT_trans (a b c : Int × Int) (h1 : ltT a b) (h2 : ltT b c) : ltT a c := by
  unfold ltT at *
  omega
theorem ltT_not_le (a b : Int × Int) : leP a b = false ↔ ltT b a := by
  unfold leP ltT
  split <;> simp only [decide_eq_false_iff_not] <;> omega
/-- a tie of p points -/
def Tie (p : Int) (t : Int × Int) : Prop := 0 ≤ t.1 ∧ t.1 < t.2 ∧ t.2 < p
instance (p : Int) (t : Int × Int) : Decidable (Tie p t) := inferInstanceAs (Decidable (_ ∧ _ ∧ _))
structure Ties (p : Int) (ts : List (Int × Int)) : Prop where
  tie : ∀ t ∈ ts, Tie p t
  ord : ts.Pairwise ltT
instance (p : Int) (ts : List (Int × Int)) : Decidable (Ties p ts) := decidable_of_iff ((∀ t ∈ ts, Tie p t) ∧ ts.Pairwise ltT) ⟨fun h => ⟨h.1, h.2⟩, fun h => ⟨h.1, h.2⟩⟩
def Web (p : Int) (ts : List (Int × Int)) : Prop := (0 ≤ p ∧ p ≤ 7) ∧ ts.length ≤ 12 ∧ Ties p ts
instance (p : Int) (ts : List (Int × Int)) : Decidable (Web p ts) := inferInstanceAs (Decidable (_ ∧ _ ∧ _))
def badAt (p : Int) (ts : List (Int × Int)) (k : Int) : Bool := match atZ ts k with
  | some t => decide (¬ Tie p t) || (decide (0 < k) && match atZ ts (k - 1) with
    | some u => leP t u
    | none => false)
  | none => false
theorem is_web_eq (p : Int) (ts : List (Int × Int)) (h : ts.length ≤ 1000) : is_web p ts = some (decide (Web p ts)) := by
  unfold is_web
  by_cases c : (p < 0 ∨ 7 < p) ∨ 12 < ts.length
  · have n : ¬ Web p ts := fun ⟨h1, h2, _⟩ => by omega
    have e : (if decide (p < 0) = true then some true else if decide (7 < p) = true then some true else some (decide (12 < (ts.length : Int)))) = some true := by
      by_cases h1 : p < 0
      · simp [h1]
      · by_cases h2 : 7 < p
        · simp [h1, h2]
        · have : 12 < (ts.length : Int) := by omega
          simp [h1, h2, this]
    rw [e, Option.bind_some, if_pos rfl, decide_eq_false n]
  · have e : (if decide (p < 0) = true then some true else if decide (7 < p) = true then some true else some (decide (12 < (ts.length : Int)))) = some false := by
      have h1 : ¬ p < 0 := by omega
      have h2 : ¬ 7 < p := by omega
      have h3 : ¬ 12 < (ts.length : Int) := by omega
      simp [h1, h2, h3]
    rw [e, Option.bind_some, if_neg Bool.false_ne_true, rng0 (by omega), Option.bind_some]
    rw [loopR_any (badAt p ts) false]
    · have key : ((List.range ts.length).map fun i => ((i : Nat) : Int)).any (badAt p ts) = decide (¬ Web p ts) := by
        rw [Bool.eq_iff_iff, List.any_eq_true, decide_eq_true_iff]
        constructor
        · rintro ⟨k, hk, hb⟩ ⟨_, _, w⟩
          obtain ⟨i, hi, rfl⟩ := List.mem_map.mp hk
          have hi := List.mem_range.mp hi
          unfold badAt at hb
          rw [atZ_nat] at hb
          have ei : ts[i]? = some ts[i] := by simp [hi]
          rw [ei] at hb
          simp only [Bool.or_eq_true, decide_eq_true_eq, Bool.and_eq_true] at hb
          rcases hb with hb | ⟨h0, hb⟩
          · exact hb (w.tie _ (List.mem_of_getElem? ei))
          · have e1 : ((i : Int) - 1) = ((i - 1 : Nat) : Int) := by omega
            rw [e1, atZ_nat] at hb
            have ej : ts[i - 1]? = some (ts[i - 1]'(by omega)) := by simp
            rw [ej] at hb
            have := (ltT_not_le _ _).mpr (pairwise_get w.ord (show i - 1 < i by omega) ej ei)
            dsimp only at hb
            rw [this] at hb
            cases hb
        · intro nw
          refine Decidable.byContradiction fun no => nw ⟨by omega, by omega, ?_⟩
          have all : ∀ i, i < ts.length → badAt p ts (i : Int) = false := fun i hi => by
            refine Bool.eq_false_iff.mpr fun q => no ⟨(i : Int), List.mem_map.mpr ⟨i, List.mem_range.mpr hi, rfl⟩, q⟩
          refine ⟨fun t ht => ?_, pairwise_adj ltT_trans fun k a b ha hb => ?_⟩
          · obtain ⟨i, hi⟩ := List.mem_iff_getElem?.mp ht
            have hl := (List.getElem?_eq_some_iff.mp hi).1
            have q := all i hl
            unfold badAt at q
            rw [atZ_nat, hi] at q
            simp only [Bool.or_eq_false_iff, decide_eq_false_iff_not, Decidable.not_not] at q
            exact q.1
          · have hl := (List.getElem?_eq_some_iff.mp hb).1
            have q := all (k + 1) hl
            unfold badAt at q
            rw [atZ_nat, hb] at q
            have e1 : (((k + 1 : Nat) : Int) - 1) = ((k : Nat) : Int) := by omega
            simp only [e1, atZ_nat, ha, Bool.or_eq_false_iff, Bool.and_eq_false_iff, decide_eq_false_iff_not] at q
            refine (ltT_not_le _ _).mp ?_
            rcases q.2 with q | q
            · omega
            · exact q
      rw [key]
      by_cases w : Web p ts
      · simp [w]
      · simp [w]
    · intro k hk
      obtain ⟨i, hi, rfl⟩ := List.mem_map.mp hk
      have hi := List.mem_range.mp hi
      obtain ⟨t, ei⟩ : ∃ t, ts[i]? = some t := ⟨ts[i], by simp [hi]⟩
      unfold badAt
      rw [atZ_nat, ei, Option.bind_some]
      by_cases ht : Tie p t
      · obtain ⟨h1, h2, h3⟩ := id ht
        have g1 : ¬ t.1 < 0 := by omega
        have g2 : ¬ t.2 ≤ t.1 := by omega
        have g3 : ¬ p ≤ t.2 := by omega
        simp only [g1, g2, g3, decide_false, Bool.false_eq_true, ↓reduceIte, Option.bind_some, ht, not_true_eq_false, Bool.false_or]
        by_cases h0 : 0 < (i : Int)
        · have e1 : ((i : Int) - 1) = ((i - 1 : Nat) : Int) := by omega
          have ej : ts[i - 1]? = some (ts[i - 1]'(by omega)) := by simp
          simp only [h0, decide_true, ↓reduceIte, e1, atZ_nat, ei, ej, Option.bind_some, Bool.true_and]
          split <;> rfl
        · simp only [h0, decide_false, Bool.false_eq_true, ↓reduceIte, Option.bind_some, Bool.false_and]
      · have e2 : (if decide (t.1 < 0) = true then some true else if decide (t.2 ≤ t.1) = true then some true else some (decide (p ≤ t.2))) = some true := by
          unfold Tie at ht
          by_cases g1 : t.1 < 0
          · simp [g1]
          · by_cases g2 : t.2 ≤ t.1
            · simp [g1, g2]
            · have g3 : p ≤ t.2 := by omega
              simp [g1, g2, g3]
        rw [e2, Option.bind_some, if_pos rfl]
        simp [ht]
def cell (ns : List Int) (k : Int) : Int := ns.getD k.toNat 0
theorem cell_at_eq (ns : List Int) {k : Int} (h : 0 ≤ k) : cell_at ns k = some (cell ns k) := by
  unfold cell_at cell
  rw [Option.bind_some]
  by_cases c : k < (ns.length : Int)
  · obtain ⟨x, e1, e2⟩ := atZ_get h c
    rw [decide_eq_true c, if_pos rfl, e1, List.getD_eq_getElem?_getD, e2]
    rfl
  · rw [decide_eq_false c, if_neg Bool.false_ne_true, List.getD_eq_getElem?_getD, List.getElem?_eq_none (by omega)]
    rfl
def nxt (s : Int) : Int := (s * 48271 + 12345) % 2147483647
theorem next_eq (s : Int) : next s = some (nxt s) := by
  unfold next nxt
  rw [mulZ_r (by decide) (by decide), Option.bind_some, Option.bind_some, modZ_pos (by decide)]
/-- what a turn of the inner loop keeps -/
structure Inn (p lo : Int) (cap : Int) (rem : List Int) (s : Int × List (Int × Int)) : Prop where
  tie : ∀ t ∈ s.2, Tie p t
  ord : s.2.Pairwise ltT
  len : (s.2.length : Int) ≤ max cap 0
  small : s.2.length ≤ 100000
  lt : ∀ t ∈ s.2, t.1 < lo ∨ (t.1 = lo ∧ ∀ y ∈ rem, t.2 < y)
  rp : rem.Pairwise (· < ·)
  bd : ∀ y ∈ rem, lo < y ∧ y < p
structure Out (p : Int) (cap : Int) (rem : List Int) (s : Int × List (Int × Int)) : Prop where
  tie : ∀ t ∈ s.2, Tie p t
  ord : s.2.Pairwise ltT
  len : (s.2.length : Int) ≤ max cap 0
  small : s.2.length ≤ 100000
  lt : ∀ t ∈ s.2, ∀ x ∈ rem, t.1 < x
  rp : rem.Pairwise (· < ·)
  bd : ∀ x ∈ rem, 0 ≤ x ∧ x < p
theorem web_by_spec (ns : List Int) {k most cap : Int} (hk : 0 ≤ k) (h0 : 0 ≤ most) (h1 : most ≤ 1000) (hc : cap ≤ 1000) :
    ∃ p ts, web_by ns k most cap = some (p, ts) ∧ (0 ≤ p ∧ p ≤ most) ∧ (ts.length : Int) ≤ max cap 0 ∧ Ties p ts := by
  unfold web_by
  rw [cell_at_eq ns hk, Option.bind_some, modZ_pos (by omega), Option.bind_some, cell_at_eq ns (show 0 ≤ k + 1 by omega), Option.bind_some, Option.bind_some, next_eq, Option.bind_some, cell_at_eq ns (show 0 ≤ k + 2 by omega), Option.bind_some, modZ_pos (by decide),
    Option.bind_some, Option.bind_some, Option.bind_some]
  obtain ⟨p0, p1⟩ := emod_bd (cell ns k) (show 0 < most + 1 by omega)
  generalize cell ns k % (most + 1) = p at *
  generalize 1 + cell ns (k + 2) % 4 = thick
  rw [rng_nat (by omega) (by omega) (by omega) (by omega), Option.bind_some]
  generalize hxs : (List.range (p - 0).toNat).map (fun i => (0 : Int) + (i : Nat)) = xs
  have hx : rng 0 p = some xs := by rw [rng_nat (by omega) (by omega) (by omega) (by omega), hxs]
  have L1 := fun hs => loopG_rem (f := (fun (s29 : Int × (List (Int × Int))) (q30 : Int) =>
      (rng (q30 + 1) p).bind fun xs34 => (loopG (S := Int × (List (Int × Int))) (fun (s35 : Int × (List (Int × Int))) (q36 : Int) =>
          ((
            ((((divZ s35.1 16).bind fun y45 => modZ y45 4).bind fun y46 => some (decide (y46 < thick))).bind fun y47 => (if y47 = true then some (decide ((s35.2.length : Int) < cap)) else some false)).bind fun b48 => if b48 = true then
              (addL s35.2 (q30, q36)).bind fun ties_49 =>
              some ties_49
            else
              some s35.2 : Option ((List (Int × Int))))).bind fun s44 =>
          (next s35.1).bind fun seed_50 =>
          some (seed_50, s44)) (s29.1, s29.2) xs34).bind fun s38 =>
      some (s38.1, s38.2))) (Out p cap) (xs := xs) (s := (nxt (cell ns (k + 1)), [])) ⟨by simp, by simp, by simp; omega, by simp, by simp, rng_lt hx, fun x hx' => by
      have := (mem_rng hx x).mp hx'
      omega⟩ hs
  refine Exists.elim (L1 ?_) ?_
  rotate_left
  · rintro s' ⟨e, o⟩
    rw [e, Option.bind_some]
    exact ⟨p, s'.2, rfl, by omega, o.len, o.tie, o.ord⟩
  · intro x rest s O
    obtain ⟨bx0, bx1⟩ := O.bd x List.mem_cons_self
    have hr : rng (x + 1) p = some ((List.range (p - (x + 1)).toNat).map fun i => (x + 1) + (i : Nat)) := rng_nat (by omega) (by omega) (by omega) (by omega)
    generalize hys : (List.range (p - (x + 1)).toNat).map (fun i => (x + 1) + ((i : Nat) : Int)) = ys at hr
    rw [hr, Option.bind_some]
    have L2 := fun hs => loopG_rem (f := (fun (s35 : Int × (List (Int × Int))) (q36 : Int) =>
          ((
            ((((divZ s35.1 16).bind fun y45 => modZ y45 4).bind fun y46 => some (decide (y46 < thick))).bind fun y47 => (if y47 = true then some (decide ((s35.2.length : Int) < cap)) else some false)).bind fun b48 => if b48 = true then
              (addL s35.2 (x, q36)).bind fun ties_49 =>
              some ties_49
            else
              some s35.2 : Option ((List (Int × Int))))).bind fun s44 =>
          (next s35.1).bind fun seed_50 =>
          some (seed_50, s44))) (Inn p x cap) (xs := ys) (s := (s.1, s.2)) ⟨O.tie, O.ord, O.len, O.small, fun t ht => .inl (O.lt t ht x List.mem_cons_self), rng_lt hr, fun y hy => by
        have := (mem_rng hr y).mp hy
        omega⟩ hs
    refine Exists.elim (L2 ?_) ?_
    rotate_left
    · rintro s2 ⟨e2, o2⟩
      rw [e2, Option.bind_some]
      refine ⟨_, rfl, o2.tie, o2.ord, o2.len, o2.small, fun t ht z hz => ?_, (List.pairwise_cons.mp O.rp).2, fun z hz => O.bd z (List.mem_cons_of_mem _ hz)⟩
      have hxz := (List.pairwise_cons.mp O.rp).1 z hz
      rcases o2.lt t ht with q | ⟨q, _⟩ <;> omega
    · intro y rest2 s3 O3
      obtain ⟨by0, by1⟩ := O3.bd y List.mem_cons_self
      have rest : ∀ t ∈ s3.2, t.1 < x ∨ (t.1 = x ∧ ∀ z ∈ rest2, t.2 < z) := fun t ht => by
        rcases O3.lt t ht with q | ⟨q1, q2⟩
        · exact .inl q
        · exact .inr ⟨q1, fun z hz => q2 z (List.mem_cons_of_mem _ hz)⟩
      rw [divZ_pos (by decide) (by decide), Option.bind_some, modZ_pos (by decide), Option.bind_some, Option.bind_some, next_eq]
      by_cases c1 : s3.1 / 16 % 4 < thick
      · by_cases c2 : (s3.2.length : Int) < cap
        · simp only [c1, c2, decide_true, ↓reduceIte, Option.bind_some]
          rw [addL_ok (by have := O3.small; omega), Option.bind_some, Option.bind_some]
          refine ⟨_, rfl, fun t ht => ?_, ?_, ?_, ?_, fun t ht => ?_, (List.pairwise_cons.mp O3.rp).2, fun z hz => O3.bd z (List.mem_cons_of_mem _ hz)⟩
          · rcases List.mem_append.mp ht with ht | ht
            · exact O3.tie t ht
            · rw [List.mem_singleton.mp ht]
              exact ⟨by dsimp only; omega, by dsimp only; omega, by dsimp only; omega⟩
          · refine List.pairwise_append.mpr ⟨O3.ord, by simp, fun a ha b hb => ?_⟩
            rw [List.mem_singleton.mp hb]
            rcases O3.lt a ha with q | ⟨q1, q2⟩
            · exact .inl q
            · exact .inr ⟨q1, q2 y List.mem_cons_self⟩
          · rw [List.length_append, List.length_singleton]
            omega
          · rw [List.length_append, List.length_singleton]
            omega
          · rcases List.mem_append.mp ht with ht | ht
            · exact rest t ht
            · rw [List.mem_singleton.mp ht]
              exact .inr ⟨rfl, (List.pairwise_cons.mp O3.rp).1⟩
        · simp only [c1, c2, decide_true, decide_false, ↓reduceIte, Option.bind_some, Bool.false_eq_true]
          exact ⟨_, rfl, O3.tie, O3.ord, O3.len, O3.small, rest, (List.pairwise_cons.mp O3.rp).2, fun z hz => O3.bd z (List.mem_cons_of_mem _ hz)⟩
      · simp only [c1, decide_false, ↓reduceIte, Option.bind_some, Bool.false_eq_true]
        exact ⟨_, rfl, O3.tie, O3.ord, O3.len, O3.small, rest, (List.pairwise_cons.mp O3.rp).2, fun z hz => O3.bd z (List.mem_cons_of_mem _ hz)⟩
end Q

set_option linter.all false
/-! The worth of a row at a number. -/
namespace Q
open Dv
def worth (numbers : List Int) (q : Int) : Option Int :=
  (some 0).bind fun total_1 =>
  (some numbers.reverse).bind fun xs2 => (loopG (S := Int) (fun (s3 : Int) (q4 : Int) =>
      ((mulZ s3 q).bind fun y8 => some (y8 + q4)).bind fun total_9 =>
      some total_9) total_1 xs2).bind fun s6 =>
  some s6
def at_ (numbers : List Int) (q : Int) : Option Int :=
  (some 0).bind fun total_10 =>
  (some 1).bind fun power_11 =>
  (some numbers).bind fun xs12 => (loopG (S := Int × Int) (fun (s13 : Int × Int) (q14 : Int) =>
      ((mulZ q14 s13.2).bind fun y18 => some (s13.1 + y18)).bind fun total_19 =>
      (mulZ s13.2 q).bind fun power_20 =>
      some (total_19, power_20)) (total_10, power_11) xs12).bind fun s16 =>
  some s16.1
def whole (found : Int) : Option Bool :=
  (if true = true then some (!false) else some false)
/-- x0 + x1 q + x2 q q .. -/
def ev : List Int → Int → Int
  | [], _ => 0
  | x :: xs, q => x + q * ev xs q
theorem worth_eq (xs : List Int) {q : Int} (h : -1000 ≤ q) (h2 : q ≤ 1000) : worth xs q = some (ev xs q) := by
  unfold worth
  simp only [Option.bind_some]
  have e := loopG_fold (f := fun (s3 : Int) (q4 : Int) => ((mulZ s3 q).bind fun y8 => some (y8 + q4)).bind fun total_9 => some total_9) (fun s x => s * q + x) (fun _ => True) (xs := xs.reverse) (s := 0) trivial
    (fun s x _ _ => ⟨by rw [mulZ_r (by omega) (by omega)]; rfl, trivial⟩)
  rw [e.1, Option.bind_some]
  congr 1
  rw [List.foldl_reverse]
  have : ∀ ys : List Int, ys.foldr (fun x s => s * q + x) 0 = ev ys q := fun ys => by
    induction ys with
    | nil => rfl
    | cons y ys ih =>
      show ys.foldr (fun x s => s * q + x) 0 * q + y = y + q * ev ys q
      rw [ih, Int.mul_comm, Int.add_comm]
  exact this xs
theorem pow_bd {a q : Int} {B : Nat} (h : a.natAbs ≤ B) (hq : q.natAbs ≤ 100) : (a * q).natAbs ≤ B * 100 := by
  rw [Int.natAbs_mul]
  exact Nat.mul_le_mul h hq
theorem at_loop (q : Int) (hq : q.natAbs ≤ 100) : ∀ (xs : List Int) (t pw : Int) (n : Nat), xs.length ≤ n → n ≤ 8 → pw.natAbs ≤ 100 ^ (8 - n) →
    loopG (S := Int × Int) (fun (s14 : Int × Int) (q15 : Int) =>
      ((mulZ q15 s14.2).bind fun y19 => some (s14.1 + y19)).bind fun total_20 =>
      (mulZ s14.2 q).bind fun power_21 =>
      some (total_20, power_21)) (t, pw) xs = some (t + pw * ev xs q, pw * q ^ xs.length)
  | [], t, pw, n, _, _, _ => by simp [loopG, ev]
  | x :: xs, t, pw, 0, h, _, _ => by simp at h
  | x :: xs, t, pw, n + 1, h, hn, hp => by
    have hp2 : pw.natAbs ≤ 100 ^ 7 := Nat.le_trans hp (Nat.pow_le_pow_right (by decide) (by omega))
    have h7 : (100 : Nat) ^ 7 = 100000000000000 := by decide
    rw [h7] at hp2
    have hb := pow_bd hp hq
    have e1 : 100 ^ (8 - (n + 1)) * 100 = 100 ^ (8 - n) := by
      rw [← Nat.pow_succ]
      congr 1
      omega
    rw [e1] at hb
    show ((((mulZ x pw).bind fun y19 => some (t + y19)).bind fun total_20 => (mulZ pw q).bind fun power_21 => some (total_20, power_21)).bind _) = _
    rw [mulZ_r (by omega) (by omega), Option.bind_some, Option.bind_some, mulZ_r (by omega) (by omega), Option.bind_some, Option.bind_some,
      at_loop q hq xs (t + x * pw) (pw * q) n (by simpa using h) (by omega) hb]
    congr 2
    · show t + x * pw + pw * q * ev xs q = t + pw * (x + q * ev xs q)
      rw [Int.mul_add, Int.mul_comm x pw, Int.mul_assoc, Int.add_assoc]
    · rw [List.length_cons, Int.pow_succ, Int.mul_assoc, Int.mul_comm (q ^ xs.length) q]
theorem at_eq (xs : List Int) {q : Int} (hl : xs.length ≤ 8) (h : -100 ≤ q) (h2 : q ≤ 100) : at_ xs q = some (ev xs q) := by
  unfold at_
  simp only [Option.bind_some]
  rw [at_loop q (by omega) xs 0 1 8 hl (by omega) (by decide)]
  simp
theorem whole_eq (n : Int) : whole n = some true := rfl
end Q

set_option linter.all false
namespace Q
open Dv
def law (script : List Int) : Option Bool :=
  (some []).bind fun numbers_1 =>
  (((cell_at script 0).bind fun y2 => modZ y2 9).bind fun y3 => rng 0 y3).bind fun xs4 => (loopG (S := (List Int)) (fun (s5 : (List Int)) (q6 : Int) =>
      (((((cell_at script (2 + q6)).bind fun y11 => divW y11 (1000000000000000000000000000000)).bind fun y12 => modZ y12 2).bind fun y13 => mulZ 2 y13).bind fun y14 => some (1 - y14)).bind fun sign_15 =>
      ((((cell_at script (2 + q6)).bind fun y16 => modZ y16 (1000000000000000000000000000000)).bind fun y17 => mulZ sign_15 y17).bind fun y18 => addL s5 y18).bind fun numbers_19 =>
      some numbers_19) numbers_1 xs4).bind fun s8 =>
  (((cell_at script 1).bind fun y21 => modZ y21 201).bind fun y22 => some (y22 - 100)).bind fun q_23 =>
  (some s8).bind fun handed_24 =>
  (worth handed_24 q_23).bind fun found_25 =>
  (whole found_25).bind fun y28 => (if y28 = true then ((at_ s8 q_23).bind fun y26 => some (decide (found_25 = y26))).bind fun y27 => (if y27 = true then some (decide (handed_24 = s8)) else some false) else some false)
theorem law_true (ns : List Int) (_ : ns.length ≤ 63) : law ns = some true := by
  unfold law
  obtain ⟨c0, c1⟩ := emod_bd (cell ns 0) (show (0 : Int) < 9 by decide)
  rw [cell_at_eq ns (by decide)]
  simp only [Option.bind_some]
  rw [modZ_pos (by decide), Option.bind_some]
  generalize cell ns 0 % 9 = c at *
  have hr : rng 0 c = some ((List.range (c - 0).toNat).map fun i => (0 : Int) + (i : Nat)) := rng_nat (by omega) (by omega) (by omega) (by omega)
  generalize hxs : (List.range (c - 0).toNat).map (fun i => (0 : Int) + ((i : Nat) : Int)) = xs at hr
  rw [hr, Option.bind_some]
  have hl : xs.length ≤ 8 := by
    rw [← hxs]
    simp
    omega
  have L := fun hs => loopG_rem (f := fun (s26 : (List Int)) (q27 : Int) =>
      (((((cell_at ns (2 + q27)).bind fun y32 => divW y32 (1000000000000000000000000000000)).bind fun y33 => modZ y33 2).bind fun y34 => mulZ 2 y34).bind fun y35 => some (1 - y35)).bind fun sign_36 =>
      ((((cell_at ns (2 + q27)).bind fun y37 => modZ y37 (1000000000000000000000000000000)).bind fun y38 => mulZ sign_36 y38).bind fun y39 => addL s26 y39).bind fun numbers_40 =>
      some numbers_40) (fun rem s => s.length + rem.length ≤ 8 ∧ ∀ x ∈ rem, 0 ≤ x) (xs := xs) (s := []) ⟨by simpa using hl, fun x hx => ((mem_rng hr x).mp hx).1⟩ hs
  refine Exists.elim (L ?_) ?_
  · rintro x rest s ⟨h1, h2⟩
    have hx := h2 x List.mem_cons_self
    rw [List.length_cons] at h1
    have hd : ∀ i : Int, divW i 1000000000000000000000000000000 = some (i / 1000000000000000000000000000000) := fun i => if_pos ⟨by decide, by decide⟩
    rw [cell_at_eq ns (show 0 ≤ 2 + x by omega)]
    simp only [Option.bind_some]
    rw [hd, Option.bind_some, modZ_pos (by decide), Option.bind_some, mulZ_l (by decide) (by decide), Option.bind_some, Option.bind_some, modZ_pos (by decide), Option.bind_some]
    obtain ⟨b0, b1⟩ := emod_bd (cell ns (2 + x) / 1000000000000000000000000000000) (show (0 : Int) < 2 by decide)
    rw [mulZ_l (by omega) (by omega), Option.bind_some, addL_ok (by omega), Option.bind_some]
    exact ⟨_, rfl, by rw [List.length_append, List.length_singleton]; omega, fun y hy => h2 y (List.mem_cons_of_mem _ hy)⟩
  · rintro s ⟨e, h1, _⟩
    simp only [List.length_nil, Nat.add_zero] at h1
    rw [e, Option.bind_some, cell_at_eq ns (by decide)]
    simp only [Option.bind_some]
    rw [modZ_pos (by decide)]
    simp only [Option.bind_some]
    obtain ⟨b0, b1⟩ := emod_bd (cell ns 1) (show (0 : Int) < 201 by decide)
    rw [worth_eq s (by omega) (by omega), at_eq s h1 (by omega) (by omega), Option.bind_some, whole_eq]
    simp
end Q

set_option Elab.async false
set_option linter.all false
set_option maxRecDepth 100000
set_option maxHeartbeats 4000000
/-! The layer between the readings of HandS and mirrors in plain Lean. -/
namespace Dw
open PySem L2 Dv

/-! ### what is known stays -/
/-- what may change -/
def Chg : HO → Prop
  | .lst _ => True
  | .dT _ => True
  | _ => False
structure Lat (F H F' H' : Hp) : Prop where
  f : Same F F'
  h : Same H H'
  fh : Same F' H'
  nw : ∀ a o, H a = some o → Chg o → F a = none → F' a = none
theorem Lat.nwl {F H F' H' : Hp} (l : Lat F H F' H') {a : Addr} {vs : List V} (e : H a = some (.lst vs)) (f : F a = none) : F' a = none := l.nw a _ e trivial f
theorem Lat.refl {F H : Hp} (s : Same F H) : Lat F H F H := ⟨.refl _, .refl _, s, fun _ _ _ _ h => h⟩
theorem Lat.trans {F H F1 H1 F2 H2 : Hp} (a : Lat F H F1 H1) (b : Lat F1 H1 F2 H2) : Lat F H F2 H2 :=
  ⟨a.f.trans b.f, a.h.trans b.h, b.fh, fun p o e c f => b.nw p o (a.h _ _ e) c (a.nw p o e c f)⟩
theorem Lat.s0 {F H F' H' : Hp} (a : Lat F H F' H') (s : Same F H) : Same F H' := s.trans a.h
/-- all of the heap held for known -/
theorem Lat.all {F H F' H' : Hp} (a : Lat F H F' H') : Lat H H H' H' := ⟨a.h, a.h, .refl _, fun _ _ e _ f => by rw [e] at f; cases f⟩
/-- the heap grew, nothing new is known -/
theorem Lat.grow {F H H' : Hp} (s : Same F H) (h : Same H H') : Lat F H F H' := ⟨.refl _, h, s.trans h, fun _ _ _ _ f => f⟩
theorem same_upd {H : Hp} {p : Addr} {o : HO} (h : H p = none) : Same H (upd H p o) := fun a u e => by
  rw [upd_ne (ne_of_none e h)]
  exact e
/-- what stands is held for known -/
theorem Lat.know {F H F1 H1 : Hp} {p : Addr} {o : HO} (l : Lat F H F1 H1) (hp : ∀ u, H p = some u → Chg u → F p = none → False) (h1 : F1 p = none) (e : H1 p = some o) : Lat F H (upd F1 p o) H1 := by
  refine ⟨l.f.trans (same_upd h1), l.h, fun a u q => ?_, fun a u q c f => ?_⟩
  · by_cases z : a = p
    · subst z
      rw [upd_same] at q
      rw [e]
      exact q
    · rw [upd_ne z] at q
      exact l.fh _ _ q
  · by_cases z : a = p
    · subst z
      exact (hp u q c f).elim
    · rw [upd_ne z]
      exact l.nw _ _ q c f
/-- what was made is held for known -/
theorem Lat.hold {F H F1 H1 : Hp} {p : Addr} {o : HO} (l : Lat F H F1 H1) (hp : H p = none) (h1 : F1 p = none) (e : H1 p = some o) : Lat F H (upd F1 p o) H1 :=
  l.know (fun u q _ _ => by rw [hp] at q; cases q) h1 e
/-- a new object, not held for known -/
theorem Lat.made {F H : Hp} {p : Addr} {o : HO} (s : Same F H) (h : H p = none) : Lat F H F (upd H p o) := Lat.grow s (same_upd h)
/-- a new object, known from now on -/
theorem Lat.new {F H : Hp} {p : Addr} {o : HO} (s : Same F H) (h : H p = none) : Lat F H (upd F p o) (upd H p o) :=
  (Lat.made s h).hold h (s.free h) upd_same
/-- a list that was made behind H changes -/
theorem Lat.put {F H F1 H1 : Hp} {p : Addr} {o : HO} (l : Lat F H F1 H1) (hp : H p = none) (h1 : F1 p = none) : Lat F H F1 (upd H1 p o) := by
  refine ⟨l.f, fun a u e => ?_, fun a u e => ?_, l.nw⟩
  · rw [upd_ne (ne_of_none e hp)]
    exact l.h _ _ e
  · rw [upd_ne (ne_of_none e h1)]
    exact l.fh _ _ e

/-! ### data in the heap -/
class Rep (α : Type) where
  rp : α → V → Hp → Prop
  mono : ∀ {x : α} {v : V} {F F' : Hp}, Same F F' → rp x v F → rp x v F'
open Rep (rp)
theorem up {α : Type} [Rep α] {x : α} {v : V} {F F' H H' : Hp} (h : rp x v F) (l : Lat F H F' H') : rp x v F' := Rep.mono l.f h
/-- what does not look at the heap -/
class Flat (α : Type) [Rep α] : Prop where
  any : ∀ {x : α} {v : V} {F F' : Hp}, rp x v F → rp x v F'
instance : Rep Int := ⟨fun x v _ => v = .int x, fun _ h => h⟩
instance : Rep Bool := ⟨fun x v _ => v = .bl x, fun _ h => h⟩
instance : Rep Str := ⟨fun x v _ => v = .str x, fun _ h => h⟩
instance : Rep Unit := ⟨fun _ v _ => v = .non, fun _ h => h⟩
instance : Flat Int := ⟨fun h => h⟩
instance : Flat Bool := ⟨fun h => h⟩
instance : Flat Str := ⟨fun h => h⟩
instance : Flat Unit := ⟨fun h => h⟩
def rpO {α : Type} [Rep α] : Option α → V → Hp → Prop
  | none, v, _ => v = .non
  | some x, v, F => rp x v F
instance {α : Type} [Rep α] : Rep (Option α) := ⟨rpO, fun {x} => by
  cases x with
  | none => exact fun _ h => h
  | some x => exact fun s h => Rep.mono (α := α) s h⟩
def rpL {α : Type} [Rep α] : List α → List V → Hp → Prop
  | [], [], _ => True
  | x :: xs, v :: vs, F => rp x v F ∧ rpL xs vs F
  | _, _, _ => False
theorem rpL.mono {α : Type} [Rep α] {F F' : Hp} (s : Same F F') : ∀ {xs : List α} {vs : List V}, rpL xs vs F → rpL xs vs F'
  | [], [], _ => trivial
  | _ :: _, _ :: _, h => ⟨Rep.mono s h.1, rpL.mono s h.2⟩
  | [], _ :: _, h => h
  | _ :: _, [], h => h
theorem rpL.any {α : Type} [Rep α] [Flat α] {F F' : Hp} : ∀ {xs : List α} {vs : List V}, rpL xs vs F → rpL xs vs F'
  | [], [], _ => trivial
  | _ :: _, _ :: _, h => ⟨Flat.any h.1, rpL.any h.2⟩
  | [], _ :: _, h => h
  | _ :: _, [], h => h
theorem rpL.length {α : Type} [Rep α] {F : Hp} : ∀ {xs : List α} {vs : List V}, rpL xs vs F → vs.length = xs.length
  | [], [], _ => rfl
  | _ :: _, _ :: _, h => by simp [rpL.length h.2]
  | [], _ :: _, h => h.elim
  | _ :: _, [], h => h.elim
theorem rpL.get {α : Type} [Rep α] {F : Hp} : ∀ {xs : List α} {vs : List V}, rpL xs vs F → ∀ {i : Nat} {x : α}, xs[i]? = some x → ∃ v, vs[i]? = some v ∧ rp x v F
  | [], [], _, _, _, e => by simp at e
  | a :: _, v :: _, h, 0, x, e => by
    have : a = x := by simpa using e
    subst this
    exact ⟨v, by simp, h.1⟩
  | _ :: _, _ :: _, h, i + 1, x, e => by
    obtain ⟨v, e', r⟩ := rpL.get h.2 (i := i) (x := x) (by simpa using e)
    exact ⟨v, by simpa using e', r⟩
  | [], _ :: _, h, _, _, _ => h.elim
  | _ :: _, [], h, _, _, _ => h.elim
theorem rpL.get' {α : Type} [Rep α] {F : Hp} : ∀ {xs : List α} {vs : List V}, rpL xs vs F → ∀ {i : Nat} {v : V}, vs[i]? = some v → ∃ x, xs[i]? = some x ∧ rp x v F
  | [], [], _, _, _, e => by simp at e
  | a :: _, b :: _, h, 0, v, e => by
    have : b = v := by simpa using e
    subst this
    exact ⟨a, by simp, h.1⟩
  | _ :: _, _ :: _, h, i + 1, x, e => by
    obtain ⟨v, e', r⟩ := rpL.get' h.2 (i := i) (v := x) (by simpa using e)
    exact ⟨v, by simpa using e', r⟩
  | [], _ :: _, h, _, _, _ => h.elim
  | _ :: _, [], h, _, _, _ => h.elim
theorem rpL.append {α : Type} [Rep α] {F : Hp} : ∀ {xs ys : List α} {vs ws : List V}, rpL xs vs F → rpL ys ws F → rpL (xs ++ ys) (vs ++ ws) F
  | [], _, [], _, _, h => h
  | _ :: _, _, _ :: _, _, h, k => ⟨h.1, rpL.append h.2 k⟩
  | [], _, _ :: _, _, h, _ => h.elim
  | _ :: _, _, [], _, h, _ => h.elim
theorem rpL.set {α : Type} [Rep α] {F : Hp} {y : α} {w : V} (hy : rp y w F) : ∀ {xs : List α} {vs : List V} (i : Nat), rpL xs vs F → rpL (xs.set i y) (vs.set i w) F
  | [], [], _, _ => trivial
  | _ :: _, _ :: _, 0, h => ⟨hy, h.2⟩
  | _ :: _, _ :: _, i + 1, h => ⟨h.1, rpL.set hy i h.2⟩
  | [], _ :: _, _, h => h.elim
  | _ :: _, [], _, h => h.elim
theorem rpL.drop {α : Type} [Rep α] {F : Hp} : ∀ {xs : List α} {vs : List V} (i : Nat), rpL xs vs F → rpL (xs.drop i) (vs.drop i) F
  | [], [], i, _ => by simp [rpL]
  | _ :: _, _ :: _, 0, h => h
  | _ :: _, _ :: _, i + 1, h => by simpa using rpL.drop i h.2
  | [], _ :: _, _, h => h.elim
  | _ :: _, [], _, h => h.elim
theorem rpL.take {α : Type} [Rep α] {F : Hp} : ∀ {xs : List α} {vs : List V} (i : Nat), rpL xs vs F → rpL (xs.take i) (vs.take i) F
  | [], [], i, _ => by simp [rpL]
  | _ :: _, _ :: _, 0, h => by simp [rpL]
  | _ :: _, _ :: _, i + 1, h => ⟨h.1, rpL.take i h.2⟩
  | [], _ :: _, _, h => h.elim
  | _ :: _, [], _, h => h.elim
theorem rpL.reverse {α : Type} [Rep α] {F : Hp} : ∀ {xs : List α} {vs : List V}, rpL xs vs F → rpL xs.reverse vs.reverse F
  | [], [], _ => trivial
  | x :: xs, v :: vs, h => by
    rw [List.reverse_cons, List.reverse_cons]
    exact rpL.append (rpL.reverse h.2) ⟨h.1, trivial⟩
  | [], _ :: _, h => h.elim
  | _ :: _, [], h => h.elim
theorem rpL_ints {F : Hp} : ∀ {xs : List Int} {vs : List V}, rpL xs vs F → vs = xs.map V.int
  | [], [], _ => rfl
  | _ :: _, _ :: _, h => by
    rw [List.map_cons, ← rpL_ints h.2]
    exact congrArg (· :: _) h.1
  | [], _ :: _, h => h.elim
  | _ :: _, [], h => h.elim
theorem rpL_ints' {F : Hp} : ∀ (xs : List Int), rpL xs (xs.map V.int) F
  | [] => trivial
  | _ :: xs => ⟨rfl, rpL_ints' xs⟩
instance {α : Type} [Rep α] : Rep (List α) := ⟨fun xs v F => ∃ a vs, v = .ref a ∧ F a = some (.lst vs) ∧ rpL xs vs F, fun s ⟨a, vs, e, h, r⟩ => ⟨a, vs, e, s _ _ h, rpL.mono s r⟩⟩
instance {α β : Type} [Rep α] [Rep β] : Rep (α × β) := ⟨fun x v F => ∃ a v1 v2, v = .ref a ∧ F a = some (.tup [v1, v2]) ∧ rp x.1 v1 F ∧ rp x.2 v2 F,
  fun s ⟨a, v1, v2, e, h, r1, r2⟩ => ⟨a, v1, v2, e, s _ _ h, Rep.mono s r1, Rep.mono s r2⟩⟩
/-- one of two kinds -/
def rpS {α β : Type} [Rep α] [Rep β] : α ⊕ β → V → Hp → Prop
  | .inl x, v, F => rp x v F
  | .inr x, v, F => rp x v F
instance {α β : Type} [Rep α] [Rep β] : Rep (α ⊕ β) := ⟨rpS, fun {x} => by
  cases x with
  | inl x => exact fun s h => Rep.mono (α := α) s h
  | inr x => exact fun s h => Rep.mono (α := β) s h⟩
/-- a list of two things of unlike kinds -/
structure Duo (α β : Type) where
  a : α
  b : β
instance {α β : Type} [Rep α] [Rep β] : Rep (Duo α β) := ⟨fun x v F => ∃ p v1 v2, v = .ref p ∧ F p = some (.lst [v1, v2]) ∧ rp x.a v1 F ∧ rp x.b v2 F,
  fun s ⟨a, v1, v2, e, h, r1, r2⟩ => ⟨a, v1, v2, e, s _ _ h, Rep.mono s r1, Rep.mono s r2⟩⟩
/-- the script, or a list in its place -/
structure Scr (K : PySem.W.Frag) where
  l : List Int
theorem same_rd {H H' : Hp} {a : Addr} {u : HO} (e : Same H H') (h : Rd H a u) : Rd H' a u := by
  rcases h with h | ⟨o, h⟩
  · exact Or.inl (e a _ h)
  · exact Or.inr ⟨o, e a _ h⟩
theorem same_l {K : PySem.W.Frag} {H H' : Hp} {a : Addr} {xs : List V} (e : Same H H') (h : SqL K H a xs) : SqL K H' a xs := by
  rcases h with h | h
  · exact Or.inl (same_rd e h)
  · exact Or.inr h
instance {K : PySem.W.Frag} : Rep (Scr K) := ⟨fun x v F => ∃ a, v = .ref a ∧ SqL K F a (x.l.map V.int), fun s ⟨a, e, h⟩ => ⟨a, e, same_l s h⟩⟩
theorem sqL {K : PySem.W.Frag} {H : Hp} {a : Addr} {xs : List V} (h : H a = some (.lst xs)) : SqL K H a xs := Or.inl (Or.inl h)
theorem sqT {K : PySem.W.Frag} {H : Hp} {a : Addr} {xs : List V} (h : H a = some (.tup xs)) : SqT K H a xs := Or.inl (Or.inl h)

/-! ### arguments -/
class RepA (α : Type) where
  ra : α → List V → Hp → Prop
  mono : ∀ {x : α} {v : List V} {F F' : Hp}, Same F F' → ra x v F → ra x v F'
open RepA (ra)
instance : RepA Unit := ⟨fun _ vs _ => vs = [], fun _ h => h⟩
instance {α β : Type} [Rep α] [RepA β] : RepA (α × β) := ⟨fun x vs F => ∃ v ws, vs = v :: ws ∧ rp x.1 v F ∧ ra x.2 ws F,
  fun s ⟨v, ws, e, h, k⟩ => ⟨v, ws, e, Rep.mono s h, RepA.mono s k⟩⟩

/-! ### what an expression is worth -/
section
variable {α β γ : Type} [Rep α] [Rep β] [Rep γ]
def EV (t : TE) (σ : L2.St) (F H : Hp) (m : Option α) : Prop :=
  ∀ F1 H1, Lat F H F1 H1 → ∀ x, m = some x → ∀ Q : VK, (∀ v F2 H2, Lat F1 H1 F2 H2 → rp x v F2 → Q v H2) → t σ H1 Q
/-- a new list -/
def EVN (t : TE) (σ : L2.St) (F H : Hp) (m : Option (List α)) : Prop :=
  ∀ F1 H1, Lat F H F1 H1 → ∀ xs, m = some xs → ∀ Q : VK, (∀ p vs F2 H2, Lat F1 H1 F2 H2 → H1 p = none → F2 p = none → H2 p = some (.lst vs) → rpL xs vs F2 → Q (.ref p) H2) → t σ H1 Q
def EVT (t : TT) (σ : L2.St) (F H : Hp) (m : Option Bool) : Prop :=
  ∀ F1 H1, Lat F H F1 H1 → ∀ x, m = some x → ∀ Q : Bool → Hp → Prop, (∀ F2 H2, Lat F1 H1 F2 H2 → Q x H2) → t σ H1 Q
def EVA {δ : Type} [RepA δ] (t : TA) (σ : L2.St) (F H : Hp) (m : Option δ) : Prop :=
  ∀ F1 H1, Lat F H F1 H1 → ∀ x, m = some x → ∀ Q : List V → Hp → Prop, (∀ vs F2 H2, Lat F1 H1 F2 H2 → ra x vs F2 → Q vs H2) → t σ H1 Q
/-- a display's items, n of them -/
def EVL (t : TA) (σ : L2.St) (F H : Hp) (n : Nat) (m : Option (List α)) : Prop :=
  (∀ xs, m = some xs → xs.length = n) ∧ ∀ F1 H1, Lat F H F1 H1 → ∀ xs, m = some xs → ∀ Q : List V → Hp → Prop, (∀ vs F2 H2, Lat F1 H1 F2 H2 → rpL xs vs F2 → Q vs H2) → t σ H1 Q
variable {t : TE} {σ : L2.St} {F H : Hp}
theorem EV.at {m : Option α} (h : EV t σ F H m) {F1 H1 : Hp} (l : Lat F H F1 H1) : EV t σ F1 H1 m := fun F2 H2 l2 => h F2 H2 (l.trans l2)
theorem EVN.at {m : Option (List α)} (h : EVN t σ F H m) {F1 H1 : Hp} (l : Lat F H F1 H1) : EVN t σ F1 H1 m := fun F2 H2 l2 => h F2 H2 (l.trans l2)
theorem EVT.at {t : TT} {m : Option Bool} (h : EVT t σ F H m) {F1 H1 : Hp} (l : Lat F H F1 H1) : EVT t σ F1 H1 m := fun F2 H2 l2 => h F2 H2 (l.trans l2)
theorem EVA.at {δ : Type} [RepA δ] {t : TA} {m : Option δ} (h : EVA t σ F H m) {F1 H1 : Hp} (l : Lat F H F1 H1) : EVA t σ F1 H1 m := fun F2 H2 l2 => h F2 H2 (l.trans l2)
theorem EVN.ev {m : Option (List α)} (h : EVN t σ F H m) : EV t σ F H m := fun F1 H1 l x e Q q =>
  h F1 H1 l x e Q fun p vs F2 H2 l2 h1 h2 h3 r => q (.ref p) (upd F2 p (.lst vs)) H2 (l2.hold h1 h2 h3) ⟨p, vs, rfl, upd_same, rpL.mono (same_upd h2) r⟩
/-- flat answers may look at all that stands -/
theorem EV.flat [Flat α] {m : Option α} (h : EV t σ H H m) (s : Same F H) : EV t σ F H m := fun F1 H1 l x e Q q =>
  h H1 H1 l.all x e Q fun v F2 H2 l2 r => q v F1 H2 (.grow l.fh l2.h) (Flat.any r)
theorem EVT.flat {t : TT} {m : Option Bool} (h : EVT t σ H H m) (s : Same F H) : EVT t σ F H m := fun F1 H1 l x e Q q =>
  h H1 H1 l.all x e Q fun F2 H2 l2 => q F1 H2 (.grow l.fh l2.h)
theorem EVN.flat [Flat α] {m : Option (List α)} (h : EVN t σ H H m) (s : Same F H) : EVN t σ F H m := fun F1 H1 l x e Q q =>
  h H1 H1 l.all x e Q fun p vs F2 H2 l2 h1 _ h3 r => q p vs F1 H2 (.grow l.fh l2.h) h1 (l.fh.free h1) h3 (rpL.any r)

theorem ev_var {i : Nat} {x : α} {v : V} (h : σ[i]? = some (some v)) (r : rp x v F) : EV (tVar i) σ F H (some x) := fun F1 H1 l y e Q q => by
  cases e
  exact ⟨v, h, q v F1 H1 (.refl l.fh) (up r l)⟩
theorem ev_c {x : α} {v : V} (r : ∀ F, rp x v F) : EV (tC v) σ F H (some x) := fun F1 H1 l y e Q q => by
  cases e
  exact q v F1 H1 (.refl l.fh) (r _)
theorem ev_int {n : Int} : EV (tC (.int n)) σ F H (some n) := ev_c fun _ => rfl
theorem ev_bl {b : Bool} : EV (tC (.bl b)) σ F H (some b) := ev_c fun _ => rfl
theorem ev_str {z : Str} : EV (tC (.str z)) σ F H (some z) := ev_c fun _ => rfl
theorem ev_non : EV (tC .non) σ F H (some (none : Option α)) := ev_c fun _ => rfl
theorem ev_some {m : Option α} (h : EV t σ F H m) : EV t σ F H (m.bind fun x => some (some x)) := fun F1 H1 l y e Q q => by
  obtain ⟨x, ex, ey⟩ := Option.bind_eq_some_iff.mp e
  cases ey
  exact h F1 H1 l x ex Q q
theorem ev_inl {m : Option α} (h : EV t σ F H m) : EV t σ F H (m.bind fun x => some (Sum.inl x : α ⊕ β)) := fun F1 H1 l y e Q q => by
  obtain ⟨x, ex, ey⟩ := Option.bind_eq_some_iff.mp e
  cases ey
  exact h F1 H1 l x ex Q q
theorem ev_inr {m : Option β} (h : EV t σ F H m) : EV t σ F H (m.bind fun x => some (Sum.inr x : α ⊕ β)) := fun F1 H1 l y e Q q => by
  obtain ⟨x, ex, ey⟩ := Option.bind_eq_some_iff.mp e
  cases ey
  exact h F1 H1 l x ex Q q
/-- an answer that may be None is none here -/
def unO (x : Option α) : Option α := x
theorem ev_un {m : Option (Option α)} (h : EV t σ F H m) : EV t σ F H (m.bind fun x => unO x) := fun F1 H1 l y e Q q => by
  obtain ⟨x, ex, ey⟩ := Option.bind_eq_some_iff.mp e
  refine h F1 H1 l x ex Q fun v F2 H2 l2 r => q v F2 H2 l2 ?_
  have ey' : x = some y := ey
  subst ey'
  exact r
theorem ev_scr {K : PySem.W.Frag} {m : Option (List Int)} (h : EV t σ F H m) : EV t σ F H (m.bind fun x => some (Scr.mk x : Scr K)) := fun F1 H1 l y e Q q => by
  obtain ⟨x, ex, ey⟩ := Option.bind_eq_some_iff.mp e
  cases ey
  refine h F1 H1 l x ex Q fun v F2 H2 l2 r => ?_
  obtain ⟨a, vs, e1, e2, r2⟩ := r
  exact q v F2 H2 l2 ⟨a, e1, sqL (by rw [rpL_ints r2] at e2; exact e2)⟩

/-! ### operators -/
def RV (r : R2) (x : α) (y : β) (m : Option γ) : Prop :=
  ∀ F H v w, Same F H → rp x v F → rp y w F → ∀ z, m = some z → ∀ Q : VK, (∀ u F2 H2, Lat F H F2 H2 → rp z u F2 → Q u H2) → r v w H Q
theorem ev_op {ta tb : TE} {r : R2} {ma : Option α} {mb : Option β} {k : α → β → Option γ} (ha : EV ta σ F H ma) (hb : EV tb σ F H mb) (hr : ∀ x y, RV r x y (k x y)) :
    EV (tOp r ta tb) σ F H (ma.bind fun x => mb.bind fun y => k x y) := fun F1 H1 l z e Q q => by
  obtain ⟨x, ex, e⟩ := Option.bind_eq_some_iff.mp e
  obtain ⟨y, ey, e⟩ := Option.bind_eq_some_iff.mp e
  refine ha F1 H1 l x ex _ fun v F2 H2 l2 rv => hb F2 H2 (l.trans l2) y ey _ fun w F3 H3 l3 rw' => ?_
  exact hr x y F3 H3 v w l3.fh (up rv l3) rw' z e Q fun u F4 H4 l4 ru => q u F4 H4 ((l2.trans l3).trans l4) ru
/-- the same, the answer a new list -/
def RVN (r : R2) (x : α) (y : β) (m : Option (List γ)) : Prop :=
  ∀ F H v w, Same F H → rp x v F → rp y w F → ∀ zs, m = some zs → ∀ Q : VK, (∀ p vs F2 H2, Lat F H F2 H2 → H p = none → F2 p = none → H2 p = some (.lst vs) → rpL zs vs F2 → Q (.ref p) H2) → r v w H Q
theorem evn_op {ta tb : TE} {r : R2} {ma : Option α} {mb : Option β} {k : α → β → Option (List γ)} (ha : EV ta σ F H ma) (hb : EV tb σ F H mb) (hr : ∀ x y, RVN r x y (k x y)) :
    EVN (tOp r ta tb) σ F H (ma.bind fun x => mb.bind fun y => k x y) := fun F1 H1 l z e Q q => by
  obtain ⟨x, ex, e⟩ := Option.bind_eq_some_iff.mp e
  obtain ⟨y, ey, e⟩ := Option.bind_eq_some_iff.mp e
  refine ha F1 H1 l x ex _ fun v F2 H2 l2 rv => hb F2 H2 (l.trans l2) y ey _ fun w F3 H3 l3 rw' => ?_
  refine hr x y F3 H3 v w l3.fh (up rv l3) rw' z e Q fun p vs F4 H4 l4 h1 h2 h3 r => q p vs F4 H4 ((l2.trans l3).trans l4) ?_ h2 h3 r
  exact (l2.trans l3).h.free h1
theorem rv_I0 {g : Int → Int → V} {f : Int → Int → γ} (hg : ∀ i j F, rp (f i j) (g i j) F) (x y : Int) : RV (rI0 g) x y (some (f x y)) := fun F H v w s rv rw' z e Q q => by
  cases e
  exact ⟨x, y, rv, rw', q _ F H (.refl s) (hg _ _ _)⟩
theorem rv_add (x y : Int) : RV (rI0 fun i j => .int (i + j)) x y (some (x + y)) := rv_I0 (fun _ _ _ => rfl) x y
theorem rv_sub (x y : Int) : RV (rI0 fun i j => .int (i - j)) x y (some (x - y)) := rv_I0 (fun _ _ _ => rfl) x y
theorem rv_I {C : Int → Int → Prop} {g : Int → Int → Int} (x y : Int) {m : Option Int} (h : ∀ z, m = some z → C x y ∧ z = g x y) : RV (rI C fun i j => .int (g i j)) x y m := fun F H v w s rv rw' z e Q q => by
  obtain ⟨h1, rfl⟩ := h z e
  exact ⟨x, y, rv, rw', h1, q _ F H (.refl s) rfl⟩
theorem rv_mul (x y : Int) : RV (rI CMul fun i j => .int (i * j)) x y (mulZ x y) := rv_I x y fun z e => by
  unfold mulZ at e
  split at e
  · cases e
    exact ⟨by assumption, rfl⟩
  · cases e
theorem rv_div (x y : Int) : RV (rI CDiv fun i j => .int (i / j)) x y (divZ x y) := rv_I x y fun z e => by
  unfold divZ at e
  split at e
  · cases e
    exact ⟨by assumption, rfl⟩
  · cases e
theorem rv_mod (x y : Int) : RV (rI (fun _ j => 0 < j) fun i j => .int (i % j)) x y (modZ x y) := rv_I x y fun z e => by
  unfold modZ at e
  split at e
  · cases e
    exact ⟨by assumption, rfl⟩
  · cases e
/-- comparisons of ints by pe_cmpR, pt_cmpR -/
theorem rv_cmp {g : Int → Int → Bool} (x y : Int) : RV (rI0 fun i j => .bl (g i j)) x y (some (g x y)) := rv_I0 (fun _ _ _ => rfl) x y
theorem rv_eqI (x y : Int) : RV rEq x y (some (decide (x = y))) := fun F H v w s rv rw' z e Q q => by
  cases e
  cases rv
  cases rw'
  exact ⟨rfl, q _ F H (.refl s) (show V.bl _ = V.bl _ by congr 1; simp)⟩
theorem rv_neI (x y : Int) : RV rNe x y (some (!decide (x = y))) := fun F H v w s rv rw' z e Q q => by
  cases e
  cases rv
  cases rw'
  exact ⟨rfl, q _ F H (.refl s) (show V.bl _ = V.bl _ by congr 1; simp)⟩
theorem rv_eqB (x y : Bool) : RV rEq x y (some (x == y)) := fun F H v w s rv rw' z e Q q => by
  cases e
  cases rv
  cases rw'
  exact ⟨rfl, q _ F H (.refl s) (show V.bl _ = V.bl _ by congr 1; exact dec_bl)⟩
theorem rv_neB (x y : Bool) : RV rNe x y (some (!(x == y))) := fun F H v w s rv rw' z e Q q => by
  cases e
  cases rv
  cases rw'
  exact ⟨rfl, q _ F H (.refl s) (show V.bl _ = V.bl _ by congr 2; exact dec_bl)⟩
theorem rv_eqS (x y : Str) : RV rEq x y (some (decide (x = y))) := fun F H v w s rv rw' z e Q q => by
  cases e
  cases rv
  cases rw'
  exact ⟨rfl, q _ F H (.refl s) (show V.bl _ = V.bl _ by congr 1; simp)⟩
theorem rv_neS (x y : Str) : RV rNe x y (some (!decide (x = y))) := fun F H v w s rv rw' z e Q q => by
  cases e
  cases rv
  cases rw'
  exact ⟨rfl, q _ F H (.refl s) (show V.bl _ = V.bl _ by congr 1; simp)⟩
theorem ixZ_eq (n : Nat) (i : Int) : ixZ n i = ixN n i := rfl
theorem rv_ixL {K : PySem.W.Frag} (xs : List α) (i : Int) : RV (rIxL K) xs i (atZ xs i) := fun F H v w s rv rw' z e Q q => by
  obtain ⟨a, vs, e1, e2, r⟩ := rv
  unfold atZ at e
  obtain ⟨j, ej, e3⟩ := Option.bind_eq_some_iff.mp e
  obtain ⟨u, eu, ru⟩ := r.get e3
  refine ⟨a, vs, i, u, e1, rw', sqL (s _ _ e2), ?_, q u F H (.refl s) ru⟩
  unfold atI
  rw [r.length, ← ixZ_eq, ej]
  exact eu
theorem rv_ixS {K : PySem.W.Frag} (xs : Scr K) (i : Int) : RV (rIxL K) xs i (atZ xs.l i) := fun F H v w s rv rw' z e Q q => by
  obtain ⟨a, e1, e2⟩ := rv
  unfold atZ at e
  obtain ⟨j, ej, e3⟩ := Option.bind_eq_some_iff.mp e
  obtain ⟨u, eu, ru⟩ := (rpL_ints' (F := F) xs.l).get e3
  refine ⟨a, _, i, u, e1, rw', same_l s e2, ?_, q u F H (.refl s) ru⟩
  unfold atI
  rw [List.length_map, ← ixZ_eq, ej]
  exact eu
theorem ev_fst {K : PySem.W.Frag} {m : Option (α × β)} (h : EV t σ F H m) : EV (tOp (rIxT K) t (tC (.int 0))) σ F H (m.bind fun x => some x.1) := fun F1 H1 l z e Q q => by
  obtain ⟨x, ex, e⟩ := Option.bind_eq_some_iff.mp e
  cases e
  refine h F1 H1 l x ex _ fun v F2 H2 l2 ⟨a, v1, v2, e1, e2, r1, r2⟩ => ?_
  exact ⟨a, _, 0, v1, e1, rfl, sqT (l2.fh _ _ e2), rfl, q v1 F2 H2 l2 r1⟩
theorem ev_snd {K : PySem.W.Frag} {m : Option (α × β)} (h : EV t σ F H m) : EV (tOp (rIxT K) t (tC (.int 1))) σ F H (m.bind fun x => some x.2) := fun F1 H1 l z e Q q => by
  obtain ⟨x, ex, e⟩ := Option.bind_eq_some_iff.mp e
  cases e
  refine h F1 H1 l x ex _ fun v F2 H2 l2 ⟨a, v1, v2, e1, e2, r1, r2⟩ => ?_
  exact ⟨a, _, 1, v2, e1, rfl, sqT (l2.fh _ _ e2), rfl, q v2 F2 H2 l2 r2⟩
theorem ev_duoA {K : PySem.W.Frag} {m : Option (Duo α β)} (h : EV t σ F H m) : EV (tOp (rIxL K) t (tC (.int 0))) σ F H (m.bind fun x => some x.a) := fun F1 H1 l z e Q q => by
  obtain ⟨x, ex, e⟩ := Option.bind_eq_some_iff.mp e
  cases e
  refine h F1 H1 l x ex _ fun v F2 H2 l2 ⟨a, v1, v2, e1, e2, r1, r2⟩ => ?_
  exact ⟨a, _, 0, v1, e1, rfl, sqL (l2.fh _ _ e2), rfl, q v1 F2 H2 l2 r1⟩
theorem ev_duoB {K : PySem.W.Frag} {m : Option (Duo α β)} (h : EV t σ F H m) : EV (tOp (rIxL K) t (tC (.int 1))) σ F H (m.bind fun x => some x.b) := fun F1 H1 l z e Q q => by
  obtain ⟨x, ex, e⟩ := Option.bind_eq_some_iff.mp e
  cases e
  refine h F1 H1 l x ex _ fun v F2 H2 l2 ⟨a, v1, v2, e1, e2, r1, r2⟩ => ?_
  exact ⟨a, _, 1, v2, e1, rfl, sqL (l2.fh _ _ e2), rfl, q v2 F2 H2 l2 r2⟩
theorem ev_neg {m : Option Int} (h : EV t σ F H m) : EV (tUn (rU fun i => .int (-i)) t) σ F H (m.bind fun x => some (-x)) := fun F1 H1 l z e Q q => by
  obtain ⟨x, ex, e⟩ := Option.bind_eq_some_iff.mp e
  cases e
  exact h F1 H1 l x ex _ fun v F2 H2 l2 r => ⟨x, r, q _ F2 H2 l2 rfl⟩

/-! ### arguments, displays -/
theorem eva_nil : EVA tNil σ F H (some ()) := fun F1 H1 l z e Q q => q [] F1 H1 (.refl l.fh) rfl
theorem eva_cons {δ : Type} [RepA δ] {tr : TA} {m : Option α} {mr : Option δ} (h : EV t σ F H m) (hr : EVA tr σ F H mr) : EVA (tCons t tr) σ F H (m.bind fun x => mr.bind fun y => some (x, y)) := fun F1 H1 l z e Q q => by
  obtain ⟨x, ex, e⟩ := Option.bind_eq_some_iff.mp e
  obtain ⟨y, ey, e⟩ := Option.bind_eq_some_iff.mp e
  cases e
  exact h F1 H1 l x ex _ fun v F2 H2 l2 rv => hr F2 H2 (l.trans l2) y ey _ fun ws F3 H3 l3 rw' => q (v :: ws) F3 H3 (l2.trans l3) ⟨v, ws, rfl, (up rv l3), rw'⟩
theorem evl_nil : EVL tNil σ F H 0 (some ([] : List α)) := ⟨fun xs e => by cases e; rfl, fun F1 H1 l z e Q q => by
  cases e
  exact q [] F1 H1 (.refl l.fh) trivial⟩
theorem evl_cons {tr : TA} {n : Nat} {m : Option α} {mr : Option (List α)} (h : EV t σ F H m) (hr : EVL tr σ F H n mr) : EVL (tCons t tr) σ F H (n + 1) (m.bind fun x => mr.bind fun y => some (x :: y)) := ⟨fun xs e => by
  obtain ⟨x, ex, e⟩ := Option.bind_eq_some_iff.mp e
  obtain ⟨y, ey, e⟩ := Option.bind_eq_some_iff.mp e
  cases e
  rw [List.length_cons, hr.1 y ey], fun F1 H1 l z e Q q => by
  obtain ⟨x, ex, e⟩ := Option.bind_eq_some_iff.mp e
  obtain ⟨y, ey, e⟩ := Option.bind_eq_some_iff.mp e
  cases e
  exact h F1 H1 l x ex _ fun v F2 H2 l2 rv => hr.2 F2 H2 (l.trans l2) y ey _ fun ws F3 H3 l3 rw' => q (v :: ws) F3 H3 (l2.trans l3) ⟨(up rv l3), rw'⟩⟩
theorem sz_ok {n : Nat} (h : n ≤ 10000000) : n ≤ sizeLine := Nat.le_trans h (by decide)
theorem sz_lt {n : Nat} (h : n < 10000000) : n < sizeLine := Nat.lt_of_lt_of_le h (by decide)
/-- [a, b, ..] -/
theorem evn_lst {tr : TA} {n : Nat} {mr : Option (List α)} (hr : EVL tr σ F H n mr) (hs : n ≤ 10000000 := by decide) : EVN (tLst tr) σ F H mr := fun F1 H1 l xs e Q q =>
  hr.2 F1 H1 l xs e _ fun vs F2 H2 l2 r => ⟨sz_ok (by rw [r.length, hr.1 xs e]; exact hs), fun p hp => q p vs F2 (upd H2 p (.lst vs)) (l2.trans (.made l2.fh hp)) (l2.h.free hp) (l2.fh.free hp) upd_same r⟩
theorem evn_nil : EVN (tLst tNil) σ F H (some ([] : List α)) := evn_lst evl_nil
theorem ev_tup {ta tb : TE} {ma : Option α} {mb : Option β} (ha : EV ta σ F H ma) (hb : EV tb σ F H mb) : EV (tTup (tCons ta (tCons tb tNil))) σ F H (ma.bind fun x => mb.bind fun y => some (x, y)) := fun F1 H1 l z e Q q => by
  obtain ⟨x, ex, e⟩ := Option.bind_eq_some_iff.mp e
  obtain ⟨y, ey, e⟩ := Option.bind_eq_some_iff.mp e
  cases e
  refine ha F1 H1 l x ex _ fun v F2 H2 l2 rv => hb F2 H2 (l.trans l2) y ey _ fun w F3 H3 l3 rw' => ⟨by show 2 ≤ sizeLine; decide, fun p hp => ?_⟩
  refine q (.ref p) (upd F3 p (.tup [v, w])) (upd H3 p (.tup [v, w])) ((l2.trans l3).trans (.new l3.fh hp)) ⟨p, v, w, rfl, upd_same, ?_, ?_⟩
  · exact Rep.mono (same_upd (l3.fh.free hp)) (up rv l3)
  · exact Rep.mono (same_upd (l3.fh.free hp)) rw'
theorem ev_duo {ta tb : TE} {ma : Option α} {mb : Option β} (ha : EV ta σ F H ma) (hb : EV tb σ F H mb) : EV (tLst (tCons ta (tCons tb tNil))) σ F H (ma.bind fun x => mb.bind fun y => some (Duo.mk x y)) := fun F1 H1 l z e Q q => by
  obtain ⟨x, ex, e⟩ := Option.bind_eq_some_iff.mp e
  obtain ⟨y, ey, e⟩ := Option.bind_eq_some_iff.mp e
  cases e
  refine ha F1 H1 l x ex _ fun v F2 H2 l2 rv => hb F2 H2 (l.trans l2) y ey _ fun w F3 H3 l3 rw' => ⟨by show 2 ≤ sizeLine; decide, fun p hp => ?_⟩
  refine q (.ref p) (upd F3 p (.lst [v, w])) (upd H3 p (.lst [v, w])) ((l2.trans l3).trans (.new l3.fh hp)) ⟨p, v, w, rfl, upd_same, ?_, ?_⟩
  · exact Rep.mono (same_upd (l3.fh.free hp)) (up rv l3)
  · exact Rep.mono (same_upd (l3.fh.free hp)) rw'

/-! ### tests -/
theorem evt_of {m : Option Bool} (h : EV t σ F H m) : EVT (tTest t) σ F H m := fun F1 H1 l x e Q q => h F1 H1 l x e _ fun v F2 H2 l2 r => ⟨x, r, q F2 H2 l2⟩
theorem evt_b {m : Option Bool} (h : EV t σ F H m) : EVT (tB t) σ F H m := fun F1 H1 l x e Q q => h F1 H1 l x e _ fun v F2 H2 l2 r => ⟨x, r, q F2 H2 l2⟩
theorem evt_not {c : TT} {m : Option Bool} (h : EVT c σ F H m) : EVT (tNot c) σ F H (m.bind fun b => some (!b)) := fun F1 H1 l x e Q q => by
  obtain ⟨b, eb, e⟩ := Option.bind_eq_some_iff.mp e
  cases e
  exact h F1 H1 l b eb _ fun F2 H2 l2 => q F2 H2 l2
theorem evt_and {c d : TT} {m n : Option Bool} (h : EVT c σ F H m) (k : EVT d σ F H n) : EVT (tAnd c d) σ F H (m.bind fun b => if b then n else some false) := fun F1 H1 l x e Q q => by
  obtain ⟨b, eb, e⟩ := Option.bind_eq_some_iff.mp e
  refine h F1 H1 l b eb _ fun F2 H2 l2 => ?_
  cases b with
  | true => exact iteT (k F2 H2 (l.trans l2) x e _ fun F3 H3 l3 => q F3 H3 (l2.trans l3))
  | false =>
    have e' : false = x := Option.some.inj e
    subst e'
    exact iteF (q F2 H2 l2)
theorem evt_or {c d : TT} {m n : Option Bool} (h : EVT c σ F H m) (k : EVT d σ F H n) : EVT (tOr c d) σ F H (m.bind fun b => if b then some true else n) := fun F1 H1 l x e Q q => by
  obtain ⟨b, eb, e⟩ := Option.bind_eq_some_iff.mp e
  refine h F1 H1 l b eb _ fun F2 H2 l2 => ?_
  cases b with
  | false => exact iteF (k F2 H2 (l.trans l2) x e _ fun F3 H3 l3 => q F3 H3 (l2.trans l3))
  | true =>
    have e' : true = x := Option.some.inj e
    subst e'
    exact iteT (q F2 H2 l2)
theorem ev_andV {ta tb : TE} {m n : Option Bool} (h : EV ta σ F H m) (k : EV tb σ F H n) : EV (tAndV ta tb) σ F H (m.bind fun b => if b then n else some false) := fun F1 H1 l x e Q q => by
  obtain ⟨b, eb, e⟩ := Option.bind_eq_some_iff.mp e
  refine h F1 H1 l b eb _ fun v F2 H2 l2 r => ⟨b, r, ?_⟩
  cases b with
  | true => exact iteT (k F2 H2 (l.trans l2) x e _ fun w F3 H3 l3 r3 => q w F3 H3 (l2.trans l3) r3)
  | false =>
    have e' : false = x := Option.some.inj e
    subst e'
    exact iteF (q _ F2 H2 l2 rfl)
theorem ev_orV {ta tb : TE} {m n : Option Bool} (h : EV ta σ F H m) (k : EV tb σ F H n) : EV (tOrV ta tb) σ F H (m.bind fun b => if b then some true else n) := fun F1 H1 l x e Q q => by
  obtain ⟨b, eb, e⟩ := Option.bind_eq_some_iff.mp e
  refine h F1 H1 l b eb _ fun v F2 H2 l2 r => ⟨b, r, ?_⟩
  cases b with
  | false => exact iteF (k F2 H2 (l.trans l2) x e _ fun w F3 H3 l3 r3 => q w F3 H3 (l2.trans l3) r3)
  | true =>
    have e' : true = x := Option.some.inj e
    subst e'
    exact iteT (q _ F2 H2 l2 rfl)
theorem ev_notV {m : Option Bool} (h : EV t σ F H m) : EV (tNotV t) σ F H (m.bind fun b => some (!b)) := fun F1 H1 l x e Q q => by
  obtain ⟨b, eb, e⟩ := Option.bind_eq_some_iff.mp e
  cases e
  exact h F1 H1 l b eb _ fun v F2 H2 l2 r => ⟨b, r, q _ F2 H2 l2 rfl⟩
theorem ev_isN {m : Option (Option α)} (nn : ∀ (x : α) v F, rp x v F → v ≠ .non) (h : EV t σ F H m) : EV (tIsN t) σ F H (m.bind fun x => some x.isNone) := fun F1 H1 l x e Q q => by
  obtain ⟨b, eb, e⟩ := Option.bind_eq_some_iff.mp e
  cases e
  refine h F1 H1 l b eb _ fun v F2 H2 l2 r => q _ F2 H2 l2 ?_
  show V.bl (decide (v = .non)) = V.bl b.isNone
  cases b with
  | none =>
    have : v = .non := r
    simp [this]
  | some x => simp [nn x v F2 r]
theorem ev_notN {m : Option (Option α)} (nn : ∀ (x : α) v F, rp x v F → v ≠ .non) (h : EV t σ F H m) : EV (tNotN t) σ F H (m.bind fun x => some (!x.isNone)) := fun F1 H1 l x e Q q => by
  obtain ⟨b, eb, e⟩ := Option.bind_eq_some_iff.mp e
  cases e
  refine h F1 H1 l b eb _ fun v F2 H2 l2 r => q _ F2 H2 l2 ?_
  show V.bl (!decide (v = .non)) = V.bl (!b.isNone)
  cases b with
  | none =>
    have : v = .non := r
    simp [this]
  | some x => simp [nn x v F2 r]
theorem nn_list (x : List α) (v : V) (F : Hp) (h : rp x v F) : v ≠ .non := by
  obtain ⟨a, vs, rfl, _⟩ := h
  intro e
  cases e
theorem nn_pair (x : α × β) (v : V) (F : Hp) (h : rp x v F) : v ≠ .non := by
  obtain ⟨a, v1, v2, rfl, _⟩ := h
  intro e
  cases e
theorem ev_if {c : TT} {ta tb : TE} {m : Option Bool} {ma mb : Option α} (hc : EVT c σ F H m) (ha : EV ta σ F H ma) (hb : EV tb σ F H mb) : EV (tIf c ta tb) σ F H (m.bind fun b => if b then ma else mb) := fun F1 H1 l x e Q q => by
  obtain ⟨b, eb, e⟩ := Option.bind_eq_some_iff.mp e
  refine hc F1 H1 l b eb _ fun F2 H2 l2 => ?_
  cases b with
  | true => exact iteT (ha F2 H2 (l.trans l2) x e _ fun w F3 H3 l3 r3 => q w F3 H3 (l2.trans l3) r3)
  | false => exact iteF (hb F2 H2 (l.trans l2) x e _ fun w F3 H3 l3 r3 => q w F3 H3 (l2.trans l3) r3)
/-- a op b op c -/
theorem ev_chain {δ : Type} [Rep δ] {ta tb tc : TE} {r r' : R2} {ma : Option α} {mb : Option β} {mc : Option δ} {k : α → β → Option Bool} {k' : β → δ → Option Bool} (ha : EV ta σ F H ma) (hb : EV tb σ F H mb) (hc : EV tc σ F H mc)
    (hr : ∀ x y, RV r x y (k x y)) (hr' : ∀ x y, RV r' x y (k' x y)) : EV (tChain r r' ta tb tc) σ F H (ma.bind fun x => mb.bind fun y => (k x y).bind fun b => if b then mc.bind fun z => k' y z else some false) := fun F1 H1 l z e Q q => by
  obtain ⟨x, ex, e⟩ := Option.bind_eq_some_iff.mp e
  obtain ⟨y, ey, e⟩ := Option.bind_eq_some_iff.mp e
  obtain ⟨b, eb, e⟩ := Option.bind_eq_some_iff.mp e
  refine ha F1 H1 l x ex _ fun v F2 H2 l2 rv => hb F2 H2 (l.trans l2) y ey _ fun w F3 H3 l3 rw' => ?_
  refine hr x y F3 H3 v w l3.fh (up rv l3) rw' b eb _ fun u F4 H4 l4 ru => ⟨b, ru, ?_⟩
  cases b with
  | true =>
    refine iteT ?_
    obtain ⟨z1, ez1, e⟩ := Option.bind_eq_some_iff.mp e
    refine hc F4 H4 (((l.trans l2).trans l3).trans l4) z1 ez1 _ fun w2 F5 H5 l5 r5 => ?_
    exact hr' y z1 F5 H5 w w2 l5.fh (up (up rw' l4) l5) r5 z e Q fun u F6 H6 l6 r6 => q u F6 H6 ((((l2.trans l3).trans l4).trans l5).trans l6) r6
  | false =>
    have e' : false = z := Option.some.inj e
    subst e'
    exact iteF (q _ F4 H4 ((l2.trans l3).trans l4) rfl)
end
end Dw

set_option Elab.async false
set_option linter.all false
set_option maxRecDepth 100000
set_option maxHeartbeats 4000000
/-! The layer, second part: walks, loops, comprehensions, statements, calls. -/
namespace Dw
open PySem L2 Dv
open Rep (rp)
open RepA (ra)

/-! ### what is walked -/
structure Wk {α : Type} [Rep α] (J : It) (xs : List α) (F : Hp) : Prop where
  stop : ∀ H, Same F H → J.stop xs.length H
  go : ∀ i x H, xs[i]? = some x → Same F H → J.go i H
  yld : ∀ i x H v H', xs[i]? = some x → Same F H → J.yld i H v H' → ∀ F1, Same F F1 → Same F1 H → ∃ F2, Lat F1 H F2 H' ∧ rp x v F2
section
variable {α β γ S R T : Type} [Rep α] [Rep β] [Rep γ] {K : PySem.W.Frag}
def EI (wi : TI) (σ : L2.St) (F H : Hp) (m : Option (List α)) : Prop :=
  ∀ F1 H1, Lat F H F1 H1 → ∀ xs, m = some xs → ∀ R : It → Hp → Prop, (∀ J F2 H2, Lat F1 H1 F2 H2 → Wk J xs F2 → R J H2) → wi σ H1 R
variable {t : TE} {σ : L2.St} {F H : Hp}
theorem EI.flat [Flat α] {wi : TI} {m : Option (List α)} (h : EI wi σ H H m) (s : Same F H) (hJ : ∀ J xs F2 H2, Lat H H F2 H2 → Wk J xs F2 → Wk J (xs : List α) F) : EI wi σ F H m := fun F1 H1 l xs e R q =>
  h H1 H1 l.all xs e R fun J F2 H2 l2 w => q J F1 H2 (.grow l.fh l2.h) (by
    have w2 := hJ J xs F2 H2 (l.all.trans l2) w
    exact ⟨fun H' s' => w2.stop H' (l.f.trans s'), fun i x H' e s' => w2.go i x H' e (l.f.trans s'), fun i x H' v H'' e s' y F1 s1 s2 => w2.yld i x H' v H'' e (l.f.trans s') y F1 (l.f.trans s1) s2⟩)
theorem wk_list {a : Addr} {xs : List α} {vs : List V} (h : F a = some (.lst vs)) (r : rpL xs vs F) : Wk (Itl K a) xs F := by
  refine ⟨fun H s => ⟨vs, sqL (s _ _ h), Nat.le_of_eq r.length⟩, fun i x H e s => ?_, fun i x H v H' e s y F1 s1 s2 => ?_⟩
  · obtain ⟨v, ev, _⟩ := r.get e
    exact ⟨vs, v, sqL (s _ _ h), ev⟩
  · obtain ⟨rfl, y2⟩ := y
    obtain ⟨v', ev, rv⟩ := r.get e
    have := y2 vs (sqL (s _ _ h))
    rw [ev] at this
    cases this
    exact ⟨F1, .refl s2, Rep.mono s1 rv⟩
theorem ei_list {m : Option (List α)} (h : EV t σ F H m) : EI (iList K t) σ F H m := fun F1 H1 l xs e R q =>
  h F1 H1 l xs e _ fun v F2 H2 l2 ⟨a, vs, ev, ea, r⟩ => ⟨a, ev, ⟨vs, sqL (l2.fh _ _ ea)⟩, q _ F2 H2 l2 (wk_list ea r)⟩
theorem wk_range {lo : Int} {n : Nat} : Wk (Itr lo n) ((List.range n).map fun i => lo + ((i : Nat) : Int)) F := by
  refine ⟨fun H s => ?_, fun i x H e s => ?_, fun i x H v H' e s y F1 s1 s2 => ?_⟩
  · show n ≤ _
    simp
  · have := (List.getElem?_eq_some_iff.mp e).1
    show i < n
    simpa using this
  · obtain ⟨rfl, rfl⟩ := y
    have hi : i < n := by simpa using (List.getElem?_eq_some_iff.mp e).1
    refine ⟨F1, .refl s2, ?_⟩
    rw [List.getElem?_map, List.getElem?_range hi] at e
    cases e
    rfl
theorem ei_range1 {m : Option Int} (h : EV t σ F H m) : EI (iRng1 (tCons t tNil)) σ F H (m.bind fun n => rng 0 n) := fun F1 H1 l xs e R q => by
  obtain ⟨n, en, e⟩ := Option.bind_eq_some_iff.mp e
  unfold rng at e
  split at e
  · rename_i c
    cases e
    refine h F1 H1 l n en _ fun v F2 H2 l2 r => ⟨n, by rw [show v = V.int n from r], by omega, by omega, ?_⟩
    refine q _ F2 H2 l2 ?_
    have z : (n - 0).toNat = n.toNat := by rw [Int.sub_zero]
    rw [z]
    exact wk_range
  · cases e
theorem ei_range2 {ta tb : TE} {ma mb : Option Int} (ha : EV ta σ F H ma) (hb : EV tb σ F H mb) : EI (iRng2 (tCons ta (tCons tb tNil))) σ F H (ma.bind fun a => mb.bind fun b => rng a b) := fun F1 H1 l xs e R q => by
  obtain ⟨a, en, e⟩ := Option.bind_eq_some_iff.mp e
  obtain ⟨b, eb, e⟩ := Option.bind_eq_some_iff.mp e
  unfold rng at e
  split at e
  · rename_i c
    cases e
    refine ha F1 H1 l a en _ fun v F2 H2 l2 r => hb F2 H2 (l.trans l2) b eb _ fun w F3 H3 l3 r3 => ⟨a, b, by rw [show v = V.int a from r, show w = V.int b from r3], ⟨by omega, by omega, by omega, by omega⟩, ?_⟩
    exact q _ F3 H3 (l2.trans l3) wk_range
  · cases e
theorem ei_rev {m : Option (List α)} (h : EV t σ F H m) : EI (iRev K (tCons t tNil)) σ F H (m.bind fun xs => some xs.reverse) := fun F1 H1 l ys e R q => by
  obtain ⟨xs, en, e⟩ := Option.bind_eq_some_iff.mp e
  cases e
  refine h F1 H1 l xs en _ fun v F2 H2 l2 ⟨a, vs, ev, ea, r⟩ => ⟨a, vs, by rw [ev], sqL (l2.fh _ _ ea), q _ F2 H2 l2 ?_⟩
  have w := walk_rev (K := K) (a := a) (xs := vs)
  have hl := r.length
  refine ⟨fun H s => ?_, fun i x H e s => w.goes i H ?_ (sqL (s _ _ ea)), fun i x H v H' e s y F1 s1 s2 => ?_⟩
  · have := w.stops H (sqL (s _ _ ea))
    rw [hl] at this
    rw [List.length_reverse, hl]
    exact this
  · rw [hl]
    have := (List.getElem?_eq_some_iff.mp e).1
    simpa using this
  · have hi : i < xs.length := by
      have := (List.getElem?_eq_some_iff.mp e).1
      simpa using this
    obtain ⟨rfl, y2⟩ := w.yields i H v H' (by rw [hl]; exact hi) (sqL (s _ _ ea)) y
    rw [List.getElem?_reverse hi] at e
    obtain ⟨v', ev', rv⟩ := r.get e
    rw [hl, ev'] at y2
    cases y2
    exact ⟨F1, .refl s2, Rep.mono s1 rv⟩
theorem ei_zip {ta tb : TE} {ma : Option (List α)} {mb : Option (List β)} (ha : EV ta σ F H ma) (hb : EV tb σ F H mb) :
    EI (iZip K (tCons ta (tCons tb tNil))) σ F H (ma.bind fun a => mb.bind fun b => some (a.zip b)) := fun F1 H1 l zs e R q => by
  obtain ⟨xs, en, e⟩ := Option.bind_eq_some_iff.mp e
  obtain ⟨ys, eb, e⟩ := Option.bind_eq_some_iff.mp e
  cases e
  refine ha F1 H1 l xs en _ fun v F2 H2 l2 ⟨a, vs, ev, ea, r⟩ => hb F2 H2 (l.trans l2) ys eb _ fun w F3 H3 l3 ⟨b, ws, ew, eb, r3⟩ => ⟨a, b, vs, ws, by rw [ev, ew], sqL (l3.fh _ _ (l3.f _ _ ea)), sqL (l3.fh _ _ eb), q _ F3 H3 (l2.trans l3) ?_⟩
  have w := walk_zip (K := K) (a := a) (b := b) (xs := vs) (ys := ws) rfl
  have ea := l3.f _ _ ea
  have r := rpL.mono l3.f r
  have h1 := r.length
  have h2 := r3.length
  refine ⟨fun H s => ?_, fun i x H e s => w.goes i H ?_ ⟨sqL (s _ _ ea), sqL (s _ _ eb)⟩, fun i x H v H' e s y F1 s1 s2 => ?_⟩
  · have := w.stops H ⟨sqL (s _ _ ea), sqL (s _ _ eb)⟩
    rw [List.length_zip, ← h1, ← h2]
    exact this
  · have := (List.getElem?_eq_some_iff.mp e).1
    rw [List.length_zip] at this
    rw [h1, h2]
    exact this
  · have hi := (List.getElem?_eq_some_iff.mp e).1
    rw [List.length_zip] at hi
    obtain ⟨T, x1, y1, rfl, hT, rfl, e1, e2⟩ := w.yields i H v H' (by rw [h1, h2]; exact hi) ⟨sqL (s _ _ ea), sqL (s _ _ eb)⟩ y
    obtain ⟨u1, eu1⟩ : ∃ u, xs[i]? = some u := ⟨xs[i], by simp [show i < xs.length by omega]⟩
    obtain ⟨u2, eu2⟩ : ∃ u, ys[i]? = some u := ⟨ys[i], by simp [show i < ys.length by omega]⟩
    have ex : x = (u1, u2) := by
      have z : (xs.zip ys)[i]? = some (u1, u2) := by
        rw [List.getElem?_zip_eq_some]
        exact ⟨eu1, eu2⟩
      rw [z] at e
      exact (Option.some.inj e).symm
    subst ex
    obtain ⟨v1, ev1, rv1⟩ := r.get eu1
    obtain ⟨v2, ev2, rv2⟩ := r3.get eu2
    dsimp only at e1 e2
    rw [ev1] at e1
    rw [ev2] at e2
    cases e1
    cases e2
    refine ⟨upd F1 T (.tup [x1, y1]), .new s2 hT, T, x1, y1, rfl, upd_same, ?_, ?_⟩
    · exact Rep.mono (s1.trans (same_upd (s2.free hT))) rv1
    · exact Rep.mono (s1.trans (same_upd (s2.free hT))) rv2

/-! ### targets -/
theorem gt_name {i : Nat} {v : V} {Q : L2.St → Hp → Prop} (h : Q (σ.set i (some v)) H) : gName i v σ H Q := h
theorem gt_pair {i j : Nat} {v : V} {x : α × β} {Q : L2.St → Hp → Prop} (r : rp x v F) (s : Same F H) (h : ∀ v1 v2, rp x.1 v1 F → rp x.2 v2 F → Q ((σ.set i (some v1)).set j (some v2)) H) :
    gTup K 2 (gCons (gName i) (gCons (gName j) gNil)) v σ H Q := by
  obtain ⟨a, v1, v2, rfl, e, r1, r2⟩ := r
  exact ⟨a, [v1, v2], rfl, sqT (s _ _ e), rfl, v1, [v2], rfl, v2, [], rfl, rfl, h v1 v2 r1 r2⟩

/-! ### loops -/
def tLoop (J : It) (g : TG) (tb : TS) : TS := fun D σ H1 => ∃ W : Nat → Nat → L2.St → Hp → Prop, (∃ m, W 0 m σ H1) ∧ ∀ i m σ H, W i m σ H →
  (J.stop i H ∧ D.nx σ H) ∨ (J.go i H ∧ ∃ N : L2.St → Hp → Prop, (∀ σ' H', N σ' H' → ∃ m', m' < m ∧ W (i + 1) m' σ' H') ∧ ∀ x H', J.yld i H x H' → g x σ H' fun σ2 H2 => tb { D with nx := N, ct := N, bk := D.nx } σ2 H2)
theorem rd_for {wi : TI} {g : TG} {tb u : TS} {D : Ends} {r : R} {mi : Option (List α)} {k : List α → Option R} (hF : Same F H) (ei : EI wi σ F H mi) (hm : mi.bind k = some r)
    (c : ∀ xs J F1 H1, k xs = some r → Lat F H F1 H1 → Wk J xs F1 → tLoop J g tb { D with nx := u D } σ H1) : tSeq (tFor wi g tb) u D σ H := by
  obtain ⟨xs, e1, e2⟩ := Option.bind_eq_some_iff.mp hm
  exact ei F H (.refl hF) xs e1 _ fun J F1 H1 l w => c xs J F1 H1 e2 l w
theorem rd_forL {wi : TI} {g : TG} {tb : TS} {D : Ends} {r : R} {mi : Option (List α)} {k : List α → Option R} (hF : Same F H) (ei : EI wi σ F H mi) (hm : mi.bind k = some r)
    (c : ∀ xs J F1 H1, k xs = some r → Lat F H F1 H1 → Wk J xs F1 → tLoop J g tb D σ H1) : tFor wi g tb D σ H := by
  obtain ⟨xs, e1, e2⟩ := Option.bind_eq_some_iff.mp hm
  exact ei F H (.refl hF) xs e1 _ fun J F1 H1 l w => c xs J F1 H1 e2 l w
theorem rd_loopG {J : It} {g : TG} {tb : TS} {D : Ends} {r : R} {xs : List α} {f : S → α → Option S} {s0 : S} {k : S → Option R} (wk : Wk J xs F) (hm : (loopG f s0 xs).bind k = some r)
    (P : S → L2.St → Hp → Hp → Prop) (h0 : P s0 σ F H) (hS : ∀ s σ' F' H', P s σ' F' H' → Same F F' ∧ Same F' H')
    (hb : ∀ x s σ' F' H' v F2 H2, P s σ' F' H' → Lat F' H' F2 H2 → rp x v F2 → ∀ s', f s x = some s' → ∀ (D' : Ends), (∀ σ3 F3 H3, P s' σ3 F3 H3 → D'.nx σ3 H3) → g v σ' H2 fun σ2 H3 => tb D' σ2 H3)
    (hd : ∀ s σ' F' H', k s = some r → P s σ' F' H' → D.nx σ' H') : tLoop J g tb D σ H := by
  refine ⟨fun i m σ' H' => m = xs.length - i ∧ i ≤ xs.length ∧ ∃ s F', P s σ' F' H' ∧ (loopG f s (xs.drop i)).bind k = some r, ⟨xs.length, by simp, Nat.zero_le _, s0, F, h0, by simpa using hm⟩, ?_⟩
  rintro i m σ' H' ⟨rfl, hi, s, F', hP, hl⟩
  obtain ⟨s1, s2⟩ := hS _ _ _ _ hP
  by_cases hlt : i < xs.length
  · have ex : xs[i]? = some xs[i] := by simp [hlt]
    rw [List.drop_eq_getElem_cons hlt] at hl
    obtain ⟨sE, hl, hk⟩ := Option.bind_eq_some_iff.mp hl
    obtain ⟨s', h1, h2⟩ := Option.bind_eq_some_iff.mp (show (f s xs[i]).bind (fun s' => loopG f s' (xs.drop (i + 1))) = some sE from hl)
    refine .inr ⟨wk.go i _ H' ex (s1.trans s2), fun σ3 H3 => ∃ F3, P s' σ3 F3 H3, fun σ3 H3 ⟨F3, hp⟩ => ⟨xs.length - (i + 1), by omega, rfl, hlt, s', F3, hp, Option.bind_eq_some_iff.mpr ⟨sE, h2, hk⟩⟩, fun v H2 y => ?_⟩
    obtain ⟨F2, l2, rv⟩ := wk.yld i _ H' v H2 ex (s1.trans s2) y F' s1 s2
    exact hb _ s σ' F' H' v F2 H2 hP l2 rv s' h1 _ fun σ3 F3 H3 hp => ⟨F3, hp⟩
  · have e : i = xs.length := by omega
    subst e
    rw [List.drop_length] at hl
    exact .inl ⟨wk.stop H' (s1.trans s2), hd s σ' F' H' hl hP⟩
/-- with a return in the body: E tells what a return may hand back -/
theorem rd_loopR {J : It} {g : TG} {tb : TS} {D : Ends} {r : T} {xs : List α} {f : S → α → Option (Stp S R)} {s0 : S} {k : S → Option T} {k' : R → Option T} (wk : Wk J xs F) (hm : (loopR f s0 xs).bind (fun st => st.elim k k') = some r)
    (P : S → L2.St → Hp → Hp → Prop) (h0 : P s0 σ F H) (hS : ∀ s σ' F' H', P s σ' F' H' → Same F F' ∧ Same F' H')
    (hb : ∀ x s σ' F' H' v F2 H2, P s σ' F' H' → Lat F' H' F2 H2 → rp x v F2 → ∀ st, f s x = some st → ∀ (D' : Ends), D'.rt = D.rt → (∀ s', st = .go s' → ∀ σ3 F3 H3, P s' σ3 F3 H3 → D'.nx σ3 H3) → (∀ y, st = .ret y → k' y = some r) → g v σ' H2 fun σ2 H3 => tb D' σ2 H3)
    (hd : ∀ s σ' F' H', k s = some r → P s σ' F' H' → D.nx σ' H') : tLoop J g tb D σ H := by
  refine ⟨fun i m σ' H' => m = xs.length - i ∧ i ≤ xs.length ∧ ∃ s F', P s σ' F' H' ∧ (loopR f s (xs.drop i)).bind (fun st => st.elim k k') = some r, ⟨xs.length, by simp, Nat.zero_le _, s0, F, h0, by simpa using hm⟩, ?_⟩
  rintro i m σ' H' ⟨rfl, hi, s, F', hP, hl⟩
  obtain ⟨s1, s2⟩ := hS _ _ _ _ hP
  by_cases hlt : i < xs.length
  · have ex : xs[i]? = some xs[i] := by simp [hlt]
    rw [List.drop_eq_getElem_cons hlt] at hl
    obtain ⟨sE, hl, hk⟩ := Option.bind_eq_some_iff.mp hl
    obtain ⟨st, h1, h2⟩ := Option.bind_eq_some_iff.mp (show (f s xs[i]).bind (fun st => st.elim (fun s' => loopR f s' (xs.drop (i + 1))) fun y => some (.ret y)) = some sE from hl)
    refine .inr ⟨wk.go i _ H' ex (s1.trans s2), fun σ3 H3 => ∃ s' F3, st = .go s' ∧ P s' σ3 F3 H3, fun σ3 H3 ⟨s', F3, es, hp⟩ => ⟨xs.length - (i + 1), by omega, rfl, hlt, s', F3, hp, Option.bind_eq_some_iff.mpr ⟨sE, by subst es; exact h2, hk⟩⟩, fun v H2 y => ?_⟩
    obtain ⟨F2, l2, rv⟩ := wk.yld i _ H' v H2 ex (s1.trans s2) y F' s1 s2
    refine hb _ s σ' F' H' v F2 H2 hP l2 rv st h1 _ rfl (fun s' es σ3 F3 H3 hp => ⟨s', F3, es, hp⟩) fun y ey => ?_
    subst ey
    cases h2
    exact hk
  · have e : i = xs.length := by omega
    subst e
    rw [List.drop_length] at hl
    exact .inl ⟨wk.stop H' (s1.trans s2), hd s σ' F' H' hl hP⟩
theorem rd_whileG {tc : TT} {tb u : TS} {D : Ends} {r : R} {n : Nat} {c : S → Option Bool} {f : S → Option S} {s0 : S} {k : S → Option R} (hm : (whileG c f n s0).bind k = some r)
    (P : S → L2.St → Hp → Hp → Prop) (h0 : P s0 σ F H) (hS : ∀ s σ' F' H', P s σ' F' H' → Same F' H')
    (hc : ∀ s σ' F' H', P s σ' F' H' → EVT tc σ' F' H' (c s))
    (hb : ∀ s σ' F' H' F2 H2, P s σ' F' H' → Lat F' H' F2 H2 → ∀ s', f s = some s' → ∀ (D' : Ends), (∀ σ3 F3 H3, P s' σ3 F3 H3 → D'.nx σ3 H3) → tb D' σ' H2)
    (hd : ∀ s σ' F' H' F2 H2, k s = some r → P s σ' F' H' → Lat F' H' F2 H2 → u D σ' H2) : tSeq (tWhile tc tb) u D σ H := by
  refine ⟨fun m σ' H' => ∃ s F', P s σ' F' H' ∧ (whileG c f m s).bind k = some r, ⟨n, s0, F, h0, hm⟩, ?_⟩
  rintro m σ' H' ⟨s, F', hP, hl⟩
  cases m with
  | zero => cases hl
  | succ m =>
    obtain ⟨sE, hl, hk⟩ := Option.bind_eq_some_iff.mp hl
    obtain ⟨b, h1, h2⟩ := Option.bind_eq_some_iff.mp (show (c s).bind (fun b => if b then (f s).bind fun s' => whileG c f m s' else some s) = some sE from hl)
    refine hc s σ' F' H' hP F' H' (.refl (hS _ _ _ _ hP)) b h1 _ fun F2 H2 l2 => ?_
    cases b with
    | true =>
      refine iteT ?_
      obtain ⟨s', h3, h4⟩ := Option.bind_eq_some_iff.mp (show (f s).bind (fun s' => whileG c f m s') = some sE from h2)
      exact ⟨fun σ3 H3 => ∃ F3, P s' σ3 F3 H3, fun σ3 H3 ⟨F3, hp⟩ => ⟨m, Nat.lt_succ_self m, s', F3, hp, Option.bind_eq_some_iff.mpr ⟨sE, h4, hk⟩⟩, hb s σ' F' H' F2 H2 hP l2 s' h3 _ fun σ3 F3 H3 hp => ⟨F3, hp⟩⟩
    | false =>
      have e : s = sE := Option.some.inj h2
      subst e
      exact iteF (hd s σ' F' H' F2 H2 hk hP l2)
theorem rd_whileR {tc : TT} {tb u : TS} {D : Ends} {r : T} {n : Nat} {c : S → Option Bool} {f : S → Option (Stp S R)} {s0 : S} {k : S → Option T} {k' : R → Option T} (hm : (whileR c f n s0).bind (fun st => st.elim k k') = some r)
    (P : S → L2.St → Hp → Hp → Prop) (h0 : P s0 σ F H) (hS : ∀ s σ' F' H', P s σ' F' H' → Same F' H')
    (hc : ∀ s σ' F' H', P s σ' F' H' → EVT tc σ' F' H' (c s))
    (hb : ∀ s σ' F' H' F2 H2, P s σ' F' H' → Lat F' H' F2 H2 → ∀ st, f s = some st → ∀ (D' : Ends), D'.rt = D.rt → (∀ s', st = .go s' → ∀ σ3 F3 H3, P s' σ3 F3 H3 → D'.nx σ3 H3) → (∀ y, st = .ret y → k' y = some r) → tb D' σ' H2)
    (hd : ∀ s σ' F' H' F2 H2, k s = some r → P s σ' F' H' → Lat F' H' F2 H2 → u D σ' H2) : tSeq (tWhile tc tb) u D σ H := by
  refine ⟨fun m σ' H' => ∃ s F', P s σ' F' H' ∧ (whileR c f m s).bind (fun st => st.elim k k') = some r, ⟨n, s0, F, h0, hm⟩, ?_⟩
  rintro m σ' H' ⟨s, F', hP, hl⟩
  cases m with
  | zero => cases hl
  | succ m =>
    obtain ⟨sE, hl, hk⟩ := Option.bind_eq_some_iff.mp hl
    obtain ⟨b, h1, h2⟩ := Option.bind_eq_some_iff.mp (show (c s).bind (fun b => if b then (f s).bind fun st => st.elim (fun s' => whileR c f m s') (fun y => some (.ret y)) else some (.go s)) = some sE from hl)
    refine hc s σ' F' H' hP F' H' (.refl (hS _ _ _ _ hP)) b h1 _ fun F2 H2 l2 => ?_
    cases b with
    | true =>
      refine iteT ?_
      obtain ⟨st, h3, h4⟩ := Option.bind_eq_some_iff.mp (show (f s).bind (fun st => st.elim (fun s' => whileR c f m s') fun y => some (.ret y)) = some sE from h2)
      refine ⟨fun σ3 H3 => ∃ s' F3, st = .go s' ∧ P s' σ3 F3 H3, fun σ3 H3 ⟨s', F3, es, hp⟩ => ⟨m, Nat.lt_succ_self m, s', F3, hp, Option.bind_eq_some_iff.mpr ⟨sE, by subst es; exact h4, hk⟩⟩, hb s σ' F' H' F2 H2 hP l2 st h3 _ rfl (fun s' es σ3 F3 H3 hp => ⟨s', F3, es, hp⟩) fun y ey => ?_⟩
      subst ey
      cases h4
      exact hk
    | false =>
      have e : Stp.go s = sE := Option.some.inj h2
      subst e
      exact iteF (hd s σ' F' H' F2 H2 hk hP l2)

/-! ### comprehensions -/
theorem evn_lc {wi : TI} {g : TG} {tt : TT} {te : TE} {vs : List Nat} {mi : Option (List α)} {c : α → Option Bool} {f : α → Option β} (ei : EI wi σ F H mi)
    (hg : ∀ x v F1 H1 (Q : L2.St → Hp → Prop), Lat F H F1 H1 → rp x v F1 → (∀ σ2, wipe σ2 vs = wipe σ vs → EVT tt σ2 F1 H1 (c x) → EV te σ2 F1 H1 (f x) → Q σ2 H1) → g v (wipe σ vs) H1 Q) :
    EVN (tLc wi g tt te vs) σ F H (mi.bind fun xs => lc c f xs) := fun F1 H1 l ys e Q q => by
  obtain ⟨xs, exs, e⟩ := Option.bind_eq_some_iff.mp e
  unfold lc at e
  split at e
  · rename_i hlen
    refine ei F1 H1 l xs exs _ fun J F2 H2 l2 wk D hD => ?_
    have fD : F2 D = none := l2.fh.free hD
    refine ⟨fun i m H' => m = xs.length - i ∧ i ≤ xs.length ∧ ∃ (acc : List V) (as zs : List β) (F' : Hp), Lat F2 H2 F' H' ∧ F' D = none ∧ H' D = some (.lst acc) ∧ rpL as acc F' ∧ as.length ≤ i ∧ lcG c f (xs.drop i) = some zs ∧ ys = as ++ zs,
      ⟨xs.length, by simp, Nat.zero_le _, [], [], ys, F2, .made l2.fh hD, fD, upd_same, trivial, Nat.zero_le _, by simpa using e, rfl⟩, ?_⟩
    rintro i m H' ⟨rfl, hi, acc, as, zs, F', l3, f3, h3, r3, len3, e3, rfl⟩
    have s1 := l3.f
    have s2 := l3.fh
    by_cases hlt : i < xs.length
    · have ex : xs[i]? = some xs[i] := by simp [hlt]
      rw [List.drop_eq_getElem_cons hlt] at e3
      obtain ⟨b, eb, e4⟩ := Option.bind_eq_some_iff.mp (show (c xs[i]).bind (fun b => if b then (f xs[i]).bind fun y => (lcG c f (xs.drop (i + 1))).bind fun ys => some (y :: ys) else lcG c f (xs.drop (i + 1))) = some zs from e3)
      refine .inr ⟨wk.go i _ H' ex (s1.trans s2), fun H' => i + 1 ≤ xs.length ∧ ∃ (acc : List V) (as' zs' : List β) (F' : Hp), Lat F2 H2 F' H' ∧ F' D = none ∧ H' D = some (.lst acc) ∧ rpL as' acc F' ∧ as'.length ≤ i + 1 ∧ lcG c f (xs.drop (i + 1)) = some zs' ∧ as ++ zs = as' ++ zs',
        fun H4 h4 => ⟨xs.length - (i + 1), by omega, rfl, h4⟩, fun v H4 y => ?_⟩
      obtain ⟨F4, l4, rv⟩ := wk.yld i _ H' v H4 ex (s1.trans s2) y F' s1 s2
      have lAll := (l2.trans l3).trans l4
      refine hg _ v F4 H4 _ (l.trans lAll) rv fun σ2 hw ht he => ⟨hw, ?_⟩
      refine ht F4 H4 (.refl l4.fh) b eb _ fun F5 H5 l5 => ?_
      have hD5 : H5 D = some (.lst acc) := l5.h _ _ (l4.h _ _ h3)
      have fD5 : F5 D = none := l5.nwl (l4.h _ _ h3) (l4.nwl h3 f3)
      have r5 : rpL as acc F5 := rpL.mono (l4.f.trans l5.f) r3
      cases b with
      | true =>
        refine iteT ?_
        obtain ⟨y1, ey1, e5⟩ := Option.bind_eq_some_iff.mp (show (f xs[i]).bind (fun y => (lcG c f (xs.drop (i + 1))).bind fun ys => some (y :: ys)) = some zs from e4)
        obtain ⟨zs', ez, e6⟩ := Option.bind_eq_some_iff.mp e5
        cases e6
        refine he F5 H5 l5 y1 ey1 _ fun w F6 H6 l6 rw' => ⟨acc, l6.h _ _ hD5, sz_lt (by rw [r5.length]; omega), ?_⟩
        have fD6 : F6 D = none := l6.nwl hD5 fD5
        refine ⟨hlt, acc ++ [w], as ++ [y1], zs', F6, ((l3.trans l4).trans (l5.trans l6)).put hD fD6, fD6, upd_same, ?_, ?_, ez, by simp⟩
        · exact rpL.append (rpL.mono l6.f r5) ⟨rw', trivial⟩
        · rw [List.length_append, List.length_singleton]
          omega
      | false =>
        refine iteF ⟨hlt, acc, as, zs, F5, (l3.trans l4).trans l5, fD5, hD5, r5, by omega, e4, rfl⟩
    · have ei : i = xs.length := by omega
      subst ei
      rw [List.drop_length] at e3
      have ez : zs = [] := (Option.some.inj e3).symm
      subst ez
      rw [List.append_nil] at q
      exact .inl ⟨wk.stop H' (s1.trans s2), q D acc F' H' (l2.trans l3) (l2.h.free hD) f3 h3 r3⟩
  · cases e
theorem evt_yes : EVT tYes σ F H (some true) := fun F1 H1 l x e Q q => by
  cases e
  exact q F1 H1 (.refl l.fh)

/-! ### statements -/
variable {te : TE} {u : TS} {D : Ends} {r : R} {i : Nat}
theorem rd_asg {m : Option α} {k : α → Option R} (hF : Same F H) (ev : EV te σ F H m) (hm : m.bind k = some r) (c : ∀ x v F1 H1, k x = some r → Lat F H F1 H1 → rp x v F1 → u D (σ.set i (some v)) H1) : tSeq (tAsg te (gName i)) u D σ H := by
  obtain ⟨x, e1, e2⟩ := Option.bind_eq_some_iff.mp hm
  exact ev F H (.refl hF) x e1 _ fun v F1 H1 l rv => c x v F1 H1 e2 l rv
theorem rd_asgL {m : Option α} {k : α → Option R} (hF : Same F H) (ev : EV te σ F H m) (hm : m.bind k = some r) (c : ∀ x v F1 H1, k x = some r → Lat F H F1 H1 → rp x v F1 → D.nx (σ.set i (some v)) H1) : tAsg te (gName i) D σ H := by
  obtain ⟨x, e1, e2⟩ := Option.bind_eq_some_iff.mp hm
  exact ev F H (.refl hF) x e1 _ fun v F1 H1 l rv => c x v F1 H1 e2 l rv
/-- a new list that will change -/
theorem rd_asgN {m : Option (List α)} {k : List α → Option R} (hF : Same F H) (ev : EVN te σ F H m) (hm : m.bind k = some r)
    (c : ∀ xs p vs F1 H1, k xs = some r → Lat F H F1 H1 → H p = none → F1 p = none → H1 p = some (.lst vs) → rpL xs vs F1 → u D (σ.set i (some (.ref p))) H1) : tSeq (tAsg te (gName i)) u D σ H := by
  obtain ⟨x, e1, e2⟩ := Option.bind_eq_some_iff.mp hm
  exact ev F H (.refl hF) x e1 _ fun p vs F1 H1 l h1 h2 h3 rv => c x p vs F1 H1 e2 l h1 h2 h3 rv
theorem rd_asg2 {j : Nat} {m : Option (α × β)} {k : α × β → Option R} (hF : Same F H) (ev : EV te σ F H m) (hm : m.bind k = some r)
    (c : ∀ x v w F1 H1, k x = some r → Lat F H F1 H1 → rp x.1 v F1 → rp x.2 w F1 → u D ((σ.set i (some v)).set j (some w)) H1) : tSeq (tAsg te (gTup K 2 (gCons (gName i) (gCons (gName j) gNil)))) u D σ H := by
  obtain ⟨x, e1, e2⟩ := Option.bind_eq_some_iff.mp hm
  exact ev F H (.refl hF) x e1 _ fun v F1 H1 l rv => gt_pair rv l.fh fun v1 v2 r1 r2 => c x v1 v2 F1 H1 e2 l r1 r2
theorem rd_ret {m : Option α} {k : α → Option R} (hF : Same F H) (ev : EV te σ F H m) (hm : m.bind k = some r) (c : ∀ x v F1 H1, k x = some r → Lat F H F1 H1 → rp x v F1 → D.rt v H1) : tRet te D σ H := by
  obtain ⟨x, e1, e2⟩ := Option.bind_eq_some_iff.mp hm
  exact ev F H (.refl hF) x e1 _ fun v F1 H1 l rv => c x v F1 H1 e2 l rv
theorem rd_ret0 {m : Option α} {x : α} (hF : Same F H) (ev : EV te σ F H m) (hm : m = some x) (c : ∀ v F1 H1, Lat F H F1 H1 → rp x v F1 → D.rt v H1) : tRet te D σ H :=
  ev F H (.refl hF) x hm _ fun v F1 H1 l rv => c v F1 H1 l rv
theorem rd_retN {m : Option (List α)} {x : List α} (hF : Same F H) (ev : EVN te σ F H m) (hm : m = some x) (c : ∀ p vs F1 H1, Lat F H F1 H1 → H p = none → F1 p = none → H1 p = some (.lst vs) → rpL x vs F1 → D.rt (.ref p) H1) : tRet te D σ H :=
  ev F H (.refl hF) x hm _ fun p vs F1 H1 l h1 h2 h3 rv => c p vs F1 H1 l h1 h2 h3 rv
theorem rd_if {c : TT} {t1 t2 : TS} {m : Option Bool} {A B : Option R} (hF : Same F H) (ev : EVT c σ F H m) (hm : (m.bind fun b => if b then A else B) = some r)
    (ct : ∀ F1 H1, m = some true → A = some r → Lat F H F1 H1 → t1 D σ H1) (cf : ∀ F1 H1, m = some false → B = some r → Lat F H F1 H1 → t2 D σ H1) : tIfS c t1 t2 D σ H := by
  obtain ⟨b, e1, e2⟩ := Option.bind_eq_some_iff.mp hm
  refine ev F H (.refl hF) b e1 _ fun F1 H1 l => ?_
  cases b with
  | true => exact iteT (ct F1 H1 e1 e2 l)
  | false => exact iteF (cf F1 H1 e1 e2 l)
theorem rd_seq {t1 t2 : TS} (h : t1 { D with nx := t2 D } σ H) : tSeq t1 t2 D σ H := h
theorem at_st {t : TS} {σ' : L2.St} (e : σ' = σ) (h : t D σ H) : t D σ' H := by
  rw [e]
  exact h
theorem nx_with {D : Ends} {N : L2.St → Hp → Prop} (h : N σ H) : ({ D with nx := N } : Ends).nx σ H := h
theorem rd_next (h : D.nx σ H) : tNext D σ H := h
/-- an if whose both ways go on -/
theorem rd_join {c : TT} {t1 t2 : TS} {m : Option S} {k : S → Option R} (P : S → L2.St → Hp → Hp → Prop) (hm : m.bind k = some r)
    (h1 : ∀ s, m = some s → ∀ D' : Ends, (∀ σ3 F3 H3, P s σ3 F3 H3 → D'.nx σ3 H3) → tIfS c t1 t2 D' σ H) (h2 : ∀ s σ' F' H', k s = some r → P s σ' F' H' → u D σ' H') : tSeq (tIfS c t1 t2) u D σ H := by
  obtain ⟨s, e1, e2⟩ := Option.bind_eq_some_iff.mp hm
  exact h1 s e1 _ fun σ3 F3 H3 hp => h2 s σ3 F3 H3 e2 hp
/-- e alone -/
theorem rd_drop {m : Option α} {k : α → Option R} (hF : Same F H) (ev : EV te σ F H m) (hm : m.bind k = some r) (c : ∀ x F1 H1, k x = some r → Lat F H F1 H1 → u D σ H1) : tSeq (tDrop te) u D σ H := by
  obtain ⟨x, e1, e2⟩ := Option.bind_eq_some_iff.mp hm
  exact ev F H (.refl hF) x e1 _ fun v F1 H1 l _ => c x F1 H1 e2 l
/-- an owned list changed -/
structure Mt (p : Addr) (F H F' H' : Hp) : Prop where
  f : Same F F'
  fh : Same F' H'
  l0 : ∀ F0 H0, Lat F0 H0 F H → H0 p = none → Lat F0 H0 F' H'
  h : ∀ q o, q ≠ p → H q = some o → H' q = some o
  nw : ∀ q o, H q = some o → Chg o → F q = none → F' q = none
theorem Mt.nwl {p : Addr} {F H F' H' : Hp} (m : Mt p F H F' H') {a : Addr} {vs : List V} (e : H a = some (.lst vs)) (f : F a = none) : F' a = none := m.nw a _ e trivial f
theorem Mt.of {p : Addr} {F H F1 H1 : Hp} {o : HO} (l : Lat F H F1 H1) (fp : F1 p = none) : Mt p F H F1 (upd H1 p o) := by
  refine ⟨l.f, fun a u e => ?_, fun F0 H0 l0 h0 => (l0.trans l).put h0 fp, fun q u n e => ?_, l.nw⟩
  · rw [upd_ne (ne_of_none e fp)]
    exact l.fh _ _ e
  · rw [upd_ne n]
    exact l.h _ _ e
/-- xs.append(e) -/
theorem rd_appendL {p : Addr} {xs : List α} {vs : List V} {m : Option α} {k : List α → Option R} {j : Nat} (hF : Same F H) (hj : σ[j]? = some (some (.ref p))) (hp : H p = some (.lst vs)) (fp : F p = none) (rl : rpL xs vs F) (ev : EV te σ F H m)
    (hm : (m.bind fun y => addL xs y).bind k = some r)
    (c : ∀ ys ws F1 H1, k ys = some r → Mt p F H F1 H1 → F1 p = none → H1 p = some (.lst ws) → rpL ys ws F1 → D.nx σ H1) : tDrop (tBM K "list" rAppend (tVar j) (tCons te tNil)) D σ H := by
  obtain ⟨ys, e1, e2⟩ := Option.bind_eq_some_iff.mp hm
  obtain ⟨y, e3, e4⟩ := Option.bind_eq_some_iff.mp e1
  unfold addL at e4
  split at e4
  · rename_i hlen
    cases e4
    refine ⟨.ref p, hj, .inl ⟨rfl, vs, sqL hp⟩, ?_⟩
    refine ev F H (.refl hF) y e3 _ fun v F1 H1 l rv => ?_
    have fp1 := l.nwl hp fp
    exact ⟨p, vs, v, rfl, rfl, l.h _ _ hp, sz_lt (by rw [rl.length]; exact hlen), c _ (vs ++ [v]) F1 _ e2 (Mt.of l fp1) fp1 upd_same (rpL.append (rpL.mono l.f rl) ⟨rv, trivial⟩)⟩
  · cases e4
theorem rd_append {p : Addr} {xs : List α} {vs : List V} {m : Option α} {k : List α → Option R} {j : Nat} (hF : Same F H) (hj : σ[j]? = some (some (.ref p))) (hp : H p = some (.lst vs)) (fp : F p = none) (rl : rpL xs vs F) (ev : EV te σ F H m)
    (hm : (m.bind fun y => addL xs y).bind k = some r)
    (c : ∀ ys ws F1 H1, k ys = some r → Mt p F H F1 H1 → F1 p = none → H1 p = some (.lst ws) → rpL ys ws F1 → u D σ H1) : tSeq (tDrop (tBM K "list" rAppend (tVar j) (tCons te tNil))) u D σ H := rd_appendL (D := { D with nx := u D }) hF hj hp fp rl ev hm c
/-- xs[i] = e -/
theorem rd_setL {ti : TE} {p : Addr} {xs : List α} {vs : List V} {m : Option α} {mi : Option Int} {k : List α → Option R} {j : Nat} (hF : Same F H) (hj : σ[j]? = some (some (.ref p))) (hp : H p = some (.lst vs)) (fp : F p = none) (rl : rpL xs vs F) (ev : EV te σ F H m) (ei : EV ti σ F H mi)
    (hm : (m.bind fun y => mi.bind fun i => setZ xs i y).bind k = some r)
    (c : ∀ ys ws F1 H1, k ys = some r → Mt p F H F1 H1 → F1 p = none → H1 p = some (.lst ws) → rpL ys ws F1 → D.nx σ H1) : tAsg te (gSub (tVar j) ti rSetL) D σ H := by
  obtain ⟨ys, e1, e2⟩ := Option.bind_eq_some_iff.mp hm
  obtain ⟨y, e3, e4⟩ := Option.bind_eq_some_iff.mp e1
  obtain ⟨i, e5, e6⟩ := Option.bind_eq_some_iff.mp e4
  unfold setZ at e6
  obtain ⟨n, e7, e8⟩ := Option.bind_eq_some_iff.mp e6
  cases e8
  refine ev F H (.refl hF) y e3 _ fun v F1 H1 l rv => ?_
  refine ⟨.ref p, hj, ei F1 H1 l i e5 _ fun w F2 H2 l2 rw' => ?_⟩
  have hl : vs.length = xs.length := rl.length
  have l12 := l.trans l2
  have fp2 := l12.nwl hp fp
  refine ⟨p, vs, i, n, rfl, rw', l12.h _ _ hp, ?_, c _ (vs.set n v) F2 _ e2 (Mt.of l12 fp2) fp2 upd_same ?_⟩
  · rw [hl]
    exact e7
  · exact rpL.set (up rv l2) n (rpL.mono l12.f rl)
theorem rd_set {ti : TE} {p : Addr} {xs : List α} {vs : List V} {m : Option α} {mi : Option Int} {k : List α → Option R} {j : Nat} (hF : Same F H) (hj : σ[j]? = some (some (.ref p))) (hp : H p = some (.lst vs)) (fp : F p = none) (rl : rpL xs vs F) (ev : EV te σ F H m) (ei : EV ti σ F H mi)
    (hm : (m.bind fun y => mi.bind fun i => setZ xs i y).bind k = some r)
    (c : ∀ ys ws F1 H1, k ys = some r → Mt p F H F1 H1 → F1 p = none → H1 p = some (.lst ws) → rpL ys ws F1 → u D σ H1) : tSeq (tAsg te (gSub (tVar j) ti rSetL)) u D σ H := rd_setL (D := { D with nx := u D }) hF hj hp fp rl ev ei hm c
/-- an owned list is held for known from here on -/
theorem freeze {p : Addr} {xs : List α} {vs : List V} {F0 H0 : Hp} (l0 : Lat F0 H0 F H) (h0 : H0 p = none) (fp : F p = none) (hp : H p = some (.lst vs)) (rl : rpL xs vs F) : ∃ F', Lat F0 H0 F' H ∧ Same F F' ∧ rp xs (.ref p) F' ∧ ∀ q, q ≠ p → F q = none → F' q = none :=
  ⟨upd F p (.lst vs), l0.hold h0 fp hp, same_upd fp, ⟨p, vs, rfl, upd_same, rpL.mono (same_upd fp) rl⟩, fun q n e => by rw [upd_ne n]; exact e⟩
/-- an owned list read -/
theorem own_rp {p : Addr} {xs : List α} {vs : List V} (s : Same F H) (hp : H p = some (.lst vs)) (rl : rpL xs vs F) : rp xs (.ref p) H := ⟨p, vs, rfl, hp, rpL.mono s rl⟩
theorem ev_varF [Flat α] {i : Nat} {x : α} {v : V} {F' : Hp} (h : σ[i]? = some (some v)) (r : rp x v F') : EV (tVar i) σ F H (some x) := ev_var h (Flat.any r)
theorem rd_retO {p : Addr} {j : Nat} (hj : σ[j]? = some (some (.ref p))) (c : D.rt (.ref p) H) : tRet (tVar j) D σ H := ⟨.ref p, hj, c⟩
theorem rd_guard {c : TT} {t1 : TS} {m : Option Bool} {A B : Option R} (hF : Same F H) (ev : EVT c σ F H m) (hm : (m.bind fun b => if b then A else B) = some r)
    (ct : ∀ F1 H1, m = some true → A = some r → Lat F H F1 H1 → t1 { D with nx := u D } σ H1) (cf : ∀ F1 H1, m = some false → B = some r → Lat F H F1 H1 → u D σ H1) : tSeq (tIfS c t1 tNext) u D σ H :=
  rd_if (D := { D with nx := u D }) hF ev hm ct cf
end

/-! ### the promise of a def -/
class RepB (α : Type) extends RepA α where
  n : Nat
  len : ∀ {x : α} {vs : List V} {F : Hp}, ra x vs F → vs.length = n
instance : RepB Unit := ⟨0, fun h => by
  have e : _ = [] := h
  rw [e]
  rfl⟩
instance {α β : Type} [Rep α] [RepB β] : RepB (α × β) := ⟨RepB.n β + 1, fun h => by
  obtain ⟨v, ws, e, h, k⟩ := h
  rw [e, List.length_cons, RepB.len k]⟩
section
variable {δ α β : Type} [RepB δ] [Rep α] [Rep β]
/-- a def that hands back m of its arguments -/
def spO (m : δ → Option β) : Sp := fun vs H Q _ => ∃ (F : Hp) (x : δ) (y : β), Same F H ∧ ra x vs F ∧ m x = some y ∧ ∀ v F' H', Lat F H F' H' → rp y v F' → Q v H'
/-- a def that hands back a new list -/
def spN (m : δ → Option (List β)) : Sp := fun vs H Q _ => ∃ (F : Hp) (x : δ) (y : List β), Same F H ∧ ra x vs F ∧ m x = some y ∧ ∀ p vs F' H', Lat F H F' H' → H p = none → F' p = none → H' p = some (.lst vs) → rpL y vs F' → Q (.ref p) H'
theorem spO_len {m : δ → Option β} {n : Nat} (hn : RepB.n δ = n) : ∀ vs H Q E, spO m vs H Q E → vs.length = n := fun vs H Q E ⟨F, x, y, _, h, _⟩ => (RepB.len h).trans hn
theorem spN_len {m : δ → Option (List β)} {n : Nat} (hn : RepB.n δ = n) : ∀ vs H Q E, spN m vs H Q E → vs.length = n := fun vs H Q E ⟨F, x, y, _, h, _⟩ => (RepB.len h).trans hn
variable {σ : L2.St} {F H : Hp} {ta : TA} {ma : Option δ} {E : XK}
theorem ev_call {m : δ → Option β} (ha : EVA ta σ F H ma) : EV (tCall (spO m) [] E ta) σ F H (ma.bind fun x => m x) := fun F1 H1 l y e Q q => by
  obtain ⟨x, ex, e⟩ := Option.bind_eq_some_iff.mp e
  refine ha F1 H1 l x ex _ fun vs F2 H2 l2 r => ?_
  rw [List.append_nil]
  exact ⟨F2, x, y, l2.fh, r, e, fun v F3 H3 l3 r3 => q v F3 H3 (l2.trans l3) r3⟩
theorem evn_call {m : δ → Option (List β)} (ha : EVA ta σ F H ma) : EVN (tCall (spN m) [] E ta) σ F H (ma.bind fun x => m x) := fun F1 H1 l y e Q q => by
  obtain ⟨x, ex, e⟩ := Option.bind_eq_some_iff.mp e
  refine ha F1 H1 l x ex _ fun vs F2 H2 l2 r => ?_
  rw [List.append_nil]
  exact ⟨F2, x, y, l2.fh, r, e, fun p vs F3 H3 l3 h1 h2 h3 r3 => q p vs F3 H3 (l2.trans l3) (l2.h.free h1) h2 h3 r3⟩

/-! ### calls of built-ins -/
theorem ev_len {t : TE} {K : PySem.W.Frag} {m : Option (List α)} (h : EV t σ F H m) : EV (tCB (fun xs H Q => ∃ p ys, xs = [.ref p] ∧ (SqL K H p ys ∨ SqT K H p ys) ∧ Q (.int ys.length) H) (tCons t tNil)) σ F H (m.bind fun xs => some (xs.length : Int)) := fun F1 H1 l y e Q q => by
  obtain ⟨x, ex, e⟩ := Option.bind_eq_some_iff.mp e
  cases e
  refine h F1 H1 l x ex _ fun v F2 H2 l2 ⟨a, vs, e1, e2, r⟩ => ⟨a, vs, by rw [e1], .inl (sqL (l2.fh _ _ e2)), q _ F2 H2 l2 ?_⟩
  rw [r.length]
  rfl
theorem ev_lenS {t : TE} {K : PySem.W.Frag} {m : Option (Scr K)} (h : EV t σ F H m) : EV (tCB (fun xs H Q => ∃ p ys, xs = [.ref p] ∧ (SqL K H p ys ∨ SqT K H p ys) ∧ Q (.int ys.length) H) (tCons t tNil)) σ F H (m.bind fun xs => some (xs.l.length : Int)) := fun F1 H1 l y e Q q => by
  obtain ⟨x, ex, e⟩ := Option.bind_eq_some_iff.mp e
  cases e
  refine h F1 H1 l x ex _ fun v F2 H2 l2 ⟨a, e1, e2⟩ => ⟨a, _, by rw [e1], .inl (same_l l2.fh e2), q _ F2 H2 l2 ?_⟩
  rw [List.length_map]
  rfl
theorem ev_len2 {t : TE} {K : PySem.W.Frag} {m : Option (α × β)} (h : EV t σ F H m) : EV (tCB (fun xs H Q => ∃ p ys, xs = [.ref p] ∧ (SqL K H p ys ∨ SqT K H p ys) ∧ Q (.int ys.length) H) (tCons t tNil)) σ F H (m.bind fun _ => some (2 : Int)) := fun F1 H1 l y e Q q => by
  obtain ⟨x, ex, e⟩ := Option.bind_eq_some_iff.mp e
  cases e
  exact h F1 H1 l x ex _ fun v F2 H2 l2 ⟨a, v1, v2, e1, e2, r⟩ => ⟨a, [v1, v2], by rw [e1], .inr (sqT (l2.fh _ _ e2)), q _ F2 H2 l2 rfl⟩
theorem evn_list {t : TE} {K : PySem.W.Frag} {m : Option (List α)} (h : EV t σ F H m) : EVN (tCB (fun xs H Q => ∃ p ys, xs = [.ref p] ∧ (SqL K H p ys ∨ SqT K H p ys) ∧ ∀ l, H l = none → Q (.ref l) (upd H l (.lst ys))) (tCons t tNil)) σ F H m := fun F1 H1 l y e Q q =>
  h F1 H1 l y e _ fun v F2 H2 l2 ⟨a, vs, e1, e2, r⟩ => ⟨a, vs, by rw [e1], .inl (sqL (l2.fh _ _ e2)), fun p hp => q p vs F2 _ (l2.trans (.made l2.fh hp)) (l2.h.free hp) (l2.fh.free hp) upd_same r⟩
theorem ev_max2 {ta tb : TE} {ma mb : Option Int} (ha : EV ta σ F H ma) (hb : EV tb σ F H mb) : EV (tCB (fun xs H Q => ∃ i j, xs = [.int i, .int j] ∧ Q (.int (if j > i then j else i)) H) (tCons ta (tCons tb tNil))) σ F H (ma.bind fun i => mb.bind fun j => some (if j > i then j else i)) := fun F1 H1 l y e Q q => by
  obtain ⟨x, ex, e⟩ := Option.bind_eq_some_iff.mp e
  obtain ⟨x2, ex2, e⟩ := Option.bind_eq_some_iff.mp e
  cases e
  exact ha F1 H1 l x ex _ fun v F2 H2 l2 rv => hb F2 H2 (l.trans l2) x2 ex2 _ fun w F3 H3 l3 r3 => ⟨x, x2, by rw [show v = V.int x from rv, show w = V.int x2 from r3], q _ F3 H3 (l2.trans l3) rfl⟩
theorem ev_min2 {ta tb : TE} {ma mb : Option Int} (ha : EV ta σ F H ma) (hb : EV tb σ F H mb) : EV (tCB (fun xs H Q => ∃ i j, xs = [.int i, .int j] ∧ Q (.int (if j < i then j else i)) H) (tCons ta (tCons tb tNil))) σ F H (ma.bind fun i => mb.bind fun j => some (if j < i then j else i)) := fun F1 H1 l y e Q q => by
  obtain ⟨x, ex, e⟩ := Option.bind_eq_some_iff.mp e
  obtain ⟨x2, ex2, e⟩ := Option.bind_eq_some_iff.mp e
  cases e
  exact ha F1 H1 l x ex _ fun v F2 H2 l2 rv => hb F2 H2 (l.trans l2) x2 ex2 _ fun w F3 H3 l3 r3 => ⟨x, x2, by rw [show v = V.int x from rv, show w = V.int x2 from r3], q _ F3 H3 (l2.trans l3) rfl⟩
theorem ev_abs {t : TE} {m : Option Int} (h : EV t σ F H m) : EV (tCB (fun xs H Q => ∃ i, xs = [.int i] ∧ Q (.int (if i < 0 then -i else i)) H) (tCons t tNil)) σ F H (m.bind fun i => some (if i < 0 then -i else i)) := fun F1 H1 l y e Q q => by
  obtain ⟨x, ex, e⟩ := Option.bind_eq_some_iff.mp e
  cases e
  exact h F1 H1 l x ex _ fun v F2 H2 l2 r => ⟨x, by rw [show v = V.int x from r], q _ F2 H2 l2 rfl⟩
theorem ev_intB {t : TE} {m : Option Bool} (h : EV t σ F H m) : EV (tCB (fun xs H Q => (∃ i, xs = [.int i] ∧ Q (.int i) H) ∨ ∃ k, xs = [.bl k] ∧ Q (.int (if k then 1 else 0)) H) (tCons t tNil)) σ F H (m.bind fun k => some (if k then (1 : Int) else 0)) := fun F1 H1 l y e Q q => by
  obtain ⟨x, ex, e⟩ := Option.bind_eq_some_iff.mp e
  cases e
  exact h F1 H1 l x ex _ fun v F2 H2 l2 r => .inr ⟨x, by rw [show v = V.bl x from r], q _ F2 H2 l2 rfl⟩

/-! ### lists -/
theorem evn_cut {t : TE} {K : PySem.W.Frag} {m : Option (List α)} {tl th : TO} {lo hi : Option (Option Int)} (h : EV t σ F H m)
    (hl : ∀ F1 H1, Lat F H F1 H1 → ∀ i, lo = some i → ∀ Q : Option Int → Hp → Prop, (∀ F2 H2, Lat F1 H1 F2 H2 → Q i H2) → tl σ H1 Q)
    (hh : ∀ F1 H1, Lat F H F1 H1 → ∀ i, hi = some i → ∀ Q : Option Int → Hp → Prop, (∀ F2 H2, Lat F1 H1 F2 H2 → Q i H2) → th σ H1 Q) :
    EVN (tSl (rSlL K) t tl th) σ F H (m.bind fun xs => lo.bind fun i => hi.bind fun j => some (cutZ xs i j)) := fun F1 H1 l y e Q q => by
  obtain ⟨x, ex, e⟩ := Option.bind_eq_some_iff.mp e
  obtain ⟨i, ei, e⟩ := Option.bind_eq_some_iff.mp e
  obtain ⟨j, ej, e⟩ := Option.bind_eq_some_iff.mp e
  cases e
  refine h F1 H1 l x ex _ fun v F2 H2 l2 ⟨a, vs, e1, e2, r⟩ => hl F2 H2 (l.trans l2) i ei _ fun F3 H3 l3 => hh F3 H3 ((l.trans l2).trans l3) j ej _ fun F4 H4 l4 => ?_
  have L := (l2.trans l3).trans l4
  refine ⟨a, vs, e1, sqL (l4.h _ _ (l3.h _ _ (l2.fh _ _ e2))), fun p hp => q p _ F4 _ (L.trans (.made l4.fh hp)) (L.h.free hp) (l4.fh.free hp) upd_same ?_⟩
  have hln := r.length
  unfold cutZ cutV
  rw [hln]
  exact rpL.take _ (rpL.drop _ (rpL.mono (l3.f.trans l4.f) r))
theorem po_no : ∀ F1 H1, Lat F H F1 H1 → ∀ i, (some none : Option (Option Int)) = some i → ∀ Q : Option Int → Hp → Prop, (∀ F2 H2, Lat F1 H1 F2 H2 → Q i H2) → tNoPart σ H1 Q := fun F1 H1 l i e Q q => by
  cases e
  exact q F1 H1 (.refl l.fh)
theorem po_at {t : TE} {m : Option Int} (h : EV t σ F H m) : ∀ F1 H1, Lat F H F1 H1 → ∀ i, (m.bind fun x => some (some x)) = some i → ∀ Q : Option Int → Hp → Prop, (∀ F2 H2, Lat F1 H1 F2 H2 → Q i H2) → tPart t σ H1 Q := fun F1 H1 l i e Q q => by
  obtain ⟨x, ex, e⟩ := Option.bind_eq_some_iff.mp e
  cases e
  exact h F1 H1 l x ex _ fun v F2 H2 l2 r => ⟨x, r, q F2 H2 l2⟩
theorem evn_rev {t : TE} {K : PySem.W.Frag} {m : Option (List α)} (h : EV t σ F H m) : EVN (tRevL K t) σ F H (m.bind fun xs => some xs.reverse) := fun F1 H1 l y e Q q => by
  obtain ⟨x, ex, e⟩ := Option.bind_eq_some_iff.mp e
  cases e
  exact h F1 H1 l x ex _ fun v F2 H2 l2 ⟨a, vs, e1, e2, r⟩ => ⟨a, vs, e1, sqL (l2.fh _ _ e2), fun p hp => q p _ F2 _ (l2.trans (.made l2.fh hp)) (l2.h.free hp) (l2.fh.free hp) upd_same r.reverse⟩
theorem rvn_cat (xs ys : List α) : RVN rCat xs ys (catL xs ys) := fun F H v w s ⟨a, vs, e1, e2, r⟩ ⟨b, ws, e3, e4, r2⟩ zs e Q q => by
  unfold catL at e
  split at e
  · rename_i hl
    cases e
    refine ⟨a, b, vs, ws, e1, e3, s _ _ e2, s _ _ e4, sz_ok (by rw [r.length, r2.length]; exact hl), fun p hp => ?_⟩
    exact q p _ F _ (.made s hp) hp (s.free hp) upd_same (rpL.append r r2)
  · cases e
end
end Dw

set_option Elab.async false
set_option linter.all false
set_option maxRecDepth 100000
set_option maxHeartbeats 4000000
/-! The layer, third part: data compared, sorted, asked for their kind; defs as they stand. -/
namespace Dw
open PySem L2 Dv
open Rep (rp)
open RepA (ra)

/-! ### data -/
class Dat (α : Type) [Rep α] [DecidableEq α] where
  enc : α → PyData
  dep : Nat
  dp : ∀ {K : PySem.W.Frag} {x : α} {v : V} {F : Hp}, rp x v F → Dp K F v (enc x)
  lay : ∀ x : α, (enc x).canLay0 = true
  depth : ∀ x : α, (enc x).depth ≤ dep
  eqv : ∀ x y : α, PyData.eqv (enc x) (enc y) = decide (x = y)
instance : Dat Int := ⟨fun i => .int i, 0, fun h => by cases h; exact .int _, fun _ => by simp [PyData.canLay0], fun _ => by simp [PyData.depth], fun x y => by
  simp only [PyData.eqv]
  exact Bool.beq_eq_decide_eq _ _⟩
instance : Dat Bool := ⟨fun i => .bool i, 0, fun h => by cases h; exact .bl _, fun _ => by simp [PyData.canLay0], fun _ => by simp [PyData.depth], fun x y => by
  simp only [PyData.eqv]
  exact Bool.beq_eq_decide_eq _ _⟩
section
variable {α β : Type} [Rep α] [DecidableEq α] [Dat α] [Rep β] [DecidableEq β] [Dat β]
theorem dpAll {K : PySem.W.Frag} {F : Hp} : ∀ {xs : List α} {vs : List V}, rpL xs vs F → DpAll K F vs (xs.map Dat.enc)
  | [], [], _ => .nil
  | _ :: _, _ :: _, h => .cons (Dat.dp h.1) (dpAll h.2)
  | [], _ :: _, h => h.elim
  | _ :: _, [], h => h.elim
theorem layAll : ∀ xs : List α, PyData.canLayAll0 (xs.map Dat.enc) = true
  | [] => by simp [PyData.canLayAll0]
  | x :: xs => by simp [PyData.canLayAll0, Dat.lay x, layAll xs]
theorem depAll : ∀ xs : List α, PyData.depthAll (xs.map Dat.enc) ≤ Dat.dep α
  | [] => by simp [PyData.depthAll]
  | x :: xs => by
    have h1 := Dat.depth x
    have h2 := depAll xs
    simp only [List.map_cons, PyData.depthAll]
    omega
theorem eqvAll : ∀ xs ys : List α, PyData.eqvAll (xs.map Dat.enc) (ys.map Dat.enc) = decide (xs = ys)
  | [], [] => by simp [PyData.eqvAll]
  | [], _ :: _ => by simp [PyData.eqvAll]
  | _ :: _, [] => by simp [PyData.eqvAll]
  | x :: xs, y :: ys => by
    simp only [List.map_cons, PyData.eqvAll, Dat.eqv x y, eqvAll xs ys]
    simp
instance : Dat (List α) := ⟨fun xs => .list (xs.map Dat.enc), Dat.dep α + 1, fun ⟨a, vs, e, h, r⟩ => by rw [e]; exact .lst (sqL h) (dpAll r), fun xs => by
  simp only [PyData.canLay0]
  exact layAll xs, fun xs => by
  simp only [PyData.depth]
  exact Nat.succ_le_succ (depAll xs), fun xs ys => by
  simp only [PyData.eqv]
  exact eqvAll xs ys⟩
instance : Dat (α × β) := ⟨fun x => .tuple [Dat.enc x.1, Dat.enc x.2], max (Dat.dep α) (Dat.dep β) + 1, fun ⟨a, v, w, e, h, r1, r2⟩ => by rw [e]; exact .tup (sqT h) (.cons (Dat.dp r1) (.cons (Dat.dp r2) .nil)), fun x => by
  simp [PyData.canLay0, PyData.canLayAll0, Dat.lay], fun x => by
  have h1 := Dat.depth x.1
  have h2 := Dat.depth x.2
  simp only [PyData.depth, PyData.depthAll]
  omega, fun x y => by
  simp only [PyData.eqv, PyData.eqvAll, Dat.eqv]
  obtain ⟨a, b⟩ := x
  obtain ⟨c, d⟩ := y
  simp⟩
instance : DecidableEq (Duo α β) := fun x y => decidable_of_iff (x.a = y.a ∧ x.b = y.b) ⟨fun ⟨h1, h2⟩ => by cases x; cases y; cases h1; cases h2; rfl, fun h => by rw [h]; exact ⟨rfl, rfl⟩⟩
instance : Dat (Duo α β) := ⟨fun x => .list [Dat.enc x.a, Dat.enc x.b], max (Dat.dep α) (Dat.dep β) + 1, fun ⟨a, v, w, e, h, r1, r2⟩ => by rw [e]; exact .lst (sqL h) (.cons (Dat.dp r1) (.cons (Dat.dp r2) .nil)), fun x => by
  simp [PyData.canLay0, PyData.canLayAll0, Dat.lay], fun x => by
  have h1 := Dat.depth x.a
  have h2 := Dat.depth x.b
  simp only [PyData.depth, PyData.depthAll]
  omega, fun x y => by
  simp only [PyData.eqv, PyData.eqvAll, Dat.eqv]
  obtain ⟨a, b⟩ := x
  obtain ⟨c, d⟩ := y
  simp⟩
theorem shaped (x : α) (h : Dat.dep α ≤ 64 := by decide) : SeqAt.shaped (Dat.enc x) = true := by
  have h1 := Dat.depth x
  show ((Dat.enc x).canLay0 && decide ((Dat.enc x).depth ≤ 64)) = true
  rw [Bool.and_eq_true]
  exact ⟨Dat.lay x, decide_eq_true (by omega)⟩
theorem dp_up {K : PySem.W.Frag} {F H : Hp} (s : Same F H) {x : α} {v : V} (h : rp x v F) : Dp K H v (Dat.enc x) := Dat.dp (Rep.mono s h)
theorem rv_eqD {K : PySem.W.Frag} (x y : α) (h : Dat.dep α ≤ 64 := by decide) : RV (rEqD K) x y (some (decide (x = y))) := fun F H v w s rv rw' z e Q q => by
  cases e
  refine ⟨Dat.enc x, Dat.enc y, dp_up s rv, dp_up s rw', shaped x h, shaped y h, q _ F H (.refl s) ?_⟩
  rw [Dat.eqv]
  rfl
theorem rv_neD {K : PySem.W.Frag} (x y : α) (h : Dat.dep α ≤ 64 := by decide) : RV (rNeD K) x y (some (!decide (x = y))) := fun F H v w s rv rw' z e Q q => by
  cases e
  refine ⟨Dat.enc x, Dat.enc y, dp_up s rv, dp_up s rw', shaped x h, shaped y h, q _ F H (.refl s) ?_⟩
  rw [Dat.eqv]
  rfl
theorem any_enc (x : α) : ∀ xs : List α, ((xs.map Dat.enc).any fun z => PyData.eqv z (Dat.enc x)) = decide (x ∈ xs)
  | [] => by simp
  | y :: ys => by
    rw [List.map_cons, List.any_cons, any_enc x ys, Dat.eqv]
    by_cases h : y = x
    · simp [h]
    · have h' : ¬ x = y := fun e => h e.symm
      simp [h, h']
theorem rv_inD {K : PySem.W.Frag} (x : α) (xs : List α) (h : Dat.dep α + 1 ≤ 64 := by decide) : RV (rInD K) x xs (some (memL x xs)) := fun F H v w s rv rw' z e Q q => by
  cases e
  refine ⟨Dat.enc x, xs.map Dat.enc, dp_up s rv, dp_up (α := List α) s rw', shaped x (by omega), shaped (α := List α) xs h, q _ F H (.refl s) ?_⟩
  rw [any_enc]
  rfl
theorem rv_notInD {K : PySem.W.Frag} (x : α) (xs : List α) (h : Dat.dep α + 1 ≤ 64 := by decide) : RV (rNotInD K) x xs (some (!memL x xs)) := fun F H v w s rv rw' z e Q q => by
  cases e
  refine ⟨Dat.enc x, xs.map Dat.enc, dp_up s rv, dp_up (α := List α) s rw', shaped x (by omega), shaped (α := List α) xs h, q _ F H (.refl s) ?_⟩
  rw [any_enc]
  rfl
end
theorem flat_ints (xs : List Int) : (xs.map V.int).all flatV = true := by
  induction xs with
  | nil => rfl
  | cons x xs ih => exact ih
theorem inV_ints (x : Int) : ∀ xs : List Int, inV (.int x) (xs.map V.int) = decide (x ∈ xs)
  | [] => by simp [inV]
  | y :: ys => by
    have ih := inV_ints x ys
    unfold inV at ih ⊢
    rw [List.map_cons, List.any_cons, ih]
    show ((y == x) || _) = _
    by_cases h : y = x
    · simp [h]
    · have h' : ¬ x = y := fun e => h e.symm
      simp [h, h']
theorem rv_inI {K : PySem.W.Frag} (x : Int) (xs : List Int) : RV (rIn K false) x xs (some (memL x xs)) := fun F H v w s rv ⟨a, vs, e1, e2, r⟩ z e Q q => by
  cases e
  cases rv
  rw [rpL_ints r] at e2
  refine ⟨a, _, e1, .inl (sqL (s _ _ e2)), rfl, flat_ints xs, q _ F H (.refl s) ?_⟩
  rw [if_neg Bool.false_ne_true, inV_ints]
  rfl
theorem rv_notInI {K : PySem.W.Frag} (x : Int) (xs : List Int) : RV (rIn K true) x xs (some (!memL x xs)) := fun F H v w s rv ⟨a, vs, e1, e2, r⟩ z e Q q => by
  cases e
  cases rv
  rw [rpL_ints r] at e2
  refine ⟨a, _, e1, .inl (sqL (s _ _ e2)), rfl, flat_ints xs, q _ F H (.refl s) ?_⟩
  rw [if_pos rfl, inV_ints]
  rfl

/-! ### order of pairs, sorting -/
theorem rv_leT {K : PySem.W.Frag} (x y : Int × Int) : RV (rLeT K) x y (some (leP x y)) := fun F H v w s ⟨a, v1, v2, e1, e2, r1, r2⟩ ⟨b, w1, w2, e3, e4, r3, r4⟩ z e Q q => by
  cases e
  cases r1
  cases r2
  cases r3
  cases r4
  refine ⟨a, b, [x.1, x.2], [y.1, y.2], e1, e3, sqT (s _ _ e2), sqT (s _ _ e4), q _ F H (.refl s) ?_⟩
  show V.bl _ = V.bl _
  congr 1
  show (if decide (x.1 = y.1) = true then (if decide (x.2 = y.2) = true then decide (2 ≤ 2) else decide (x.2 ≤ y.2)) else decide (x.1 ≤ y.1)) = leP x y
  unfold leP
  by_cases h1 : x.1 = y.1
  · by_cases h2 : x.2 = y.2
    · simp [h1, h2]
    · simp [h1, h2]
  · simp [h1]
def kOf (F : Hp) : V → Int × Int
  | .ref t => match F t with
    | some (.tup [.int a, .int b]) => (a, b)
    | _ => (0, 0)
  | _ => (0, 0)
theorem kOf_rp {F : Hp} {x : Int × Int} {v : V} (h : rp x v F) : kOf F v = x ∧ ∃ t, v = .ref t ∧ F t = some (.tup [.int x.1, .int x.2]) := by
  obtain ⟨a, v1, v2, e1, e2, r1, r2⟩ := h
  cases r1
  cases r2
  subst e1
  refine ⟨?_, a, rfl, e2⟩
  show (match F a with
    | some (.tup [.int a, .int b]) => (a, b)
    | _ => ((0, 0) : Int × Int)) = x
  rw [e2]
theorem rpL_kOf {F : Hp} : ∀ {xs : List (Int × Int)} {vs : List V}, rpL xs vs F → xs = vs.map (kOf F) ∧ ∀ v ∈ vs, ∃ t, v = .ref t ∧ F t = some (.tup [.int (kOf F v).1, .int (kOf F v).2])
  | [], [], _ => ⟨rfl, fun _ h => by simp at h⟩
  | x :: xs, v :: vs, h => by
    obtain ⟨e, h2⟩ := rpL_kOf h.2
    obtain ⟨e1, t, e2, e3⟩ := kOf_rp h.1
    refine ⟨by rw [List.map_cons, e1, ← e], fun w hw => ?_⟩
    rcases List.mem_cons.mp hw with rfl | hw
    · rw [e1]
      exact ⟨t, e2, e3⟩
    · exact h2 w hw
  | [], _ :: _, h => h.elim
  | _ :: _, [], h => h.elim
theorem rpL_of_kOf {F : Hp} : ∀ {vs : List V}, (∀ v ∈ vs, ∃ t, v = .ref t ∧ F t = some (.tup [.int (kOf F v).1, .int (kOf F v).2])) → rpL (vs.map (kOf F)) vs F
  | [], _ => trivial
  | v :: vs, h => by
    obtain ⟨t, e1, e2⟩ := h v List.mem_cons_self
    exact ⟨⟨t, _, _, e1, e2, rfl, rfl⟩, rpL_of_kOf fun w hw => h w (List.mem_cons_of_mem _ hw)⟩
section
variable {t : TE} {σ : L2.St} {F H : Hp} {K : PySem.W.Frag}
theorem evn_sortP {m : Option (List (Int × Int))} (h : EV t σ F H m) : EVN (tCB (rSortedPO K) (tCons t tNil)) σ F H (m.bind fun xs => some (srt leP xs)) := fun F1 H1 l y e Q q => by
  obtain ⟨xs, ex, e⟩ := Option.bind_eq_some_iff.mp e
  cases e
  refine h F1 H1 l xs ex _ fun v F2 H2 l2 ⟨a, vs, e1, e2, r⟩ => ?_
  obtain ⟨k1, k2⟩ := rpL_kOf r
  refine ⟨a, vs, kOf F2, by rw [e1], sqL (l2.fh _ _ e2), fun x hx => ?_, fun ys p hs hst hp => ?_⟩
  · obtain ⟨t, e3, e4⟩ := k2 x hx
    exact ⟨t, e3, l2.fh _ _ e4⟩
  · have e5 : ys.map (kOf F2) = srt leP xs := by
      refine srt_uniq ordP ?_ ?_
      · rw [k1]
        exact hst.perm.map _
      · rw [List.pairwise_map]
        refine List.Pairwise.imp (fun {x y} (hxy : SrtO.lexB (kOf F2 y) (kOf F2 x) = false) => ?_) hs
        have := SrtO.lexB_no.mp hxy
        unfold leP
        split <;> simp only [decide_eq_true_eq] <;> omega
    refine q p ys F2 _ (l2.trans (.made l2.fh hp)) (l2.h.free hp) (l2.fh.free hp) upd_same ?_
    rw [← e5]
    exact rpL_of_kOf fun v hv => k2 v (hst.perm.mem_iff.mp hv)
def srtI (xs : List Int) : Option (List Int) := if xs.length < 64 then some (srt leI xs) else none
theorem evn_sortI {m : Option (List Int)} (h : EV t σ F H m) : EVN (tCB (rSorted K) (tCons t tNil)) σ F H (m.bind fun xs => srtI xs) := fun F1 H1 l y e Q q => by
  obtain ⟨xs, ex, e⟩ := Option.bind_eq_some_iff.mp e
  unfold srtI at e
  split at e
  · rename_i hl
    cases e
    refine h F1 H1 l xs ex _ fun v F2 H2 l2 ⟨a, vs, e1, e2, r⟩ => ?_
    rw [rpL_ints r] at e2
    refine ⟨a, xs, by rw [e1], sqL (l2.fh _ _ e2), hl, fun ns' p hp hs hn => ?_⟩
    have e5 : ns' = srt leI xs := srt_uniq ordI hp (List.Pairwise.imp (fun {a b} h => by unfold leI; exact decide_eq_true h) hs)
    subst e5
    exact q p _ F2 _ (l2.trans (.made l2.fh hn)) (l2.h.free hn) (l2.fh.free hn) upd_same (rpL_ints' _)
  · cases e
end

/-! ### isinstance -/
class Typ (α : Type) [Rep α] where
  name : String
  ty : ∀ {K : PySem.W.Frag} {x : α} {v : V} {F : Hp}, rp x v F → TyX K F v (.type name)
instance : Typ Int := ⟨"int", fun h => by cases h; exact .base (.int _)⟩
instance : Typ Bool := ⟨"bool", fun h => by cases h; exact .base (.bl _)⟩
instance : Typ Str := ⟨"str", fun h => by cases h; exact .base (.str _)⟩
instance {α : Type} [Rep α] : Typ (List α) := ⟨"list", fun ⟨a, vs, e, h, r⟩ => by rw [e]; exact .base (.lst h)⟩
instance {α β : Type} [Rep α] [Rep β] : Typ (α × β) := ⟨"tuple", fun ⟨a, v, w, e, h, r⟩ => by rw [e]; exact .base (.tup h)⟩
section
variable {α : Type} [Rep α] [Typ α] {t : TE} {σ : L2.St} {F H : Hp} {K : PySem.W.Frag}
theorem ev_isi {m : Option α} (h : EV t σ F H m) {n : String} (b : Bool) (hk : kitB (Typ.name α) n = some b := by decide +kernel) : EV (tCB (rIsi K) (tCons t (tCons (tC (.ty n)) tNil))) σ F H (m.bind fun _ => some b) := fun F1 H1 l y e Q q => by
  obtain ⟨x, ex, e⟩ := Option.bind_eq_some_iff.mp e
  cases e
  exact h F1 H1 l x ex _ fun v F2 H2 l2 r => ⟨v, .ty n, _, _, b, rfl, .ty n, Typ.ty (Rep.mono l2.fh r), kit_ty hk, q _ F2 H2 l2 rfl⟩
end

/-! ### defs as they stand -/
structure Fn (P : Program) (w : World) (K : PySem.W.Frag) (mg : Str → Option Value) (base : Heap) (CX : CXT) (k : Nat) (x : Str) (ps : List Str) (sp : Sp) : Prop where
  ex : ∃ f fd, mg x = some (.ref f) ∧ PySem.W.keepIn K (.ref f) = true ∧ Binds K fd ps [] ∧ FnOk P w K mg base CX k f fd ps sp
theorem pe_fn {X : Cx} {k : Nat} {x : Str} {ps : List Str} {sp : Sp} {p pos : Pos} {e : Expr} {es : List Expr} {t : TA} (F : Fn X.prog X.w X.K X.mg X.base CX0 k x ps sp) (hr : Room k X.A) (hg : Gl X x)
    (ha : PA X (e :: es) t) (hdb : (x == ("__debug__" : Str)) = false := by decide) (he : starEach (e :: es) X.env = (false, eval e X.env) :: starEach es X.env := by rfl) (hpl : (backTo pos (starEach es X.env)).any (·.1) = false := by rfl) :
    PE X (.Call (.Name x p) (e :: es) [] pos) (tCall sp [] E0 t) := by
  obtain ⟨f, fd, h1, h2, h3, h4⟩ := F.ex
  exact pe_call h4 hr hg h1 h2 h3 .nil pass0 ha hdb he hpl
theorem hu64 {A : Around} {k : Nat} (hr : Room k A) : A.units + 64 < cLine := by have := hr.un; omega
theorem hu65 {A : Around} {k : Nat} (hr : Room k A) : A.units + 65 < cLine := by have := hr.un; omega
theorem hu0 {A : Around} {k : Nat} (hr : Room k A) : A.units < cLine := by have := hr.un; omega
end Dw

set_option Elab.async false
set_option linter.all false
set_option maxRecDepth 100000
set_option maxHeartbeats 4000000
/-! The layer, fourth part: chains of three, ranges as lists, and what else is asked for now and then. -/
namespace L2
open PySem PySem.Spec PyProof.Rows
/-- a op1 b op2 c op3 d -/
def tChain3 (r r' r'' : R2) (ta tb tc td : TE) : TE := fun σ H Q => ta σ H fun x H1 => tb σ H1 fun y H2 => r x y H2 fun z H3 => ∃ k, z = .bl k ∧
  (if k = true then tc σ H3 fun w' H4 => r' y w' H4 fun z' H5 => ∃ k', z' = .bl k' ∧ (if k' = true then td σ H5 fun u' H6 => r'' w' u' H6 Q else Q (.bl false) H5) else Q (.bl false) H3)
section
variable {X : Cx} {a b c d : Expr} {ta tb tc td : TE} {pos : Pos}
theorem pt_chain3 {op op' op'' : CmpOp} {r r' r'' : R2} (ho : OpR X (compareOp op) r) (ho' : OpR X (compareOp op') r') (ho'' : OpR X (compareOp op'') r'') (ha : PE X a ta) (hb : PE X b tb) (hc : PE X c tc) (hd : PE X d td)
    (hm : lastMarks [op, op', op''] [b, c, d] = false := by with_unfolding_all rfl) : PT X (.Compare a [op, op', op''] [b, c, d] pos) (tTest (tChain3 r r' r'' ta tb tc td)) := by
  refine ⟨fun pins s σ H Q I h => ?_⟩
  refine isTrue_chain (thn (ha.run pins s σ H _ I h) fun v s1 ⟨x, H1, I1, r1, q1⟩ => test_link (thn (hb.run pins s1 σ H1 _ I1 q1) fun u s2 ⟨y, H2, I2, r2, q2⟩ =>
    thn (ho pins s2 σ H2 x y v u _ I2 r1 r2 q2) fun e s3 ⟨z, H3, I3, r3, k, ez, q3⟩ => ?_)) hm
  subst ez
  cases r3
  refine wpAny_truthy_bool ?_
  cases k with
  | false =>
    obtain ⟨k', e', q'⟩ := q3
    cases e'
    exact ite_ff ⟨H3, I3, q'⟩
  | true =>
    refine ite_tt (test_link (thn (hc.run pins s3 σ H3 _ I3 q3) fun w' s4 ⟨z', H4, I4, r4, q4⟩ => thn (ho' pins s4 σ H4 y z' u w' _ I4 r2 r4 q4) fun d' s5 ⟨z2, H5, I5, r5, k2, e2, q5⟩ => ?_))
    subst e2
    cases r5
    refine wpAny_truthy_bool ?_
    cases k2 with
    | false =>
      obtain ⟨k', e', q'⟩ := q5
      cases e'
      exact ite_ff ⟨H5, I5, q'⟩
    | true =>
      refine ite_tt (test_last (thn (hd.run pins s5 σ H5 _ I5 q5) fun u' s6 ⟨z6, H6, I6, r6, q6⟩ => thn (ho'' pins s6 σ H6 z' z6 w' u' _ I6 r4 r6 q6) fun d' s7 ⟨z7, H7, I7, r7, k7, e7, q7⟩ => ?_))
      subst e7
      cases r7
      exact wpAny_truthy_bool ⟨H7, I7, q7⟩
end
end L2
namespace Dw
open PySem L2 Dv
open Rep (rp)
open RepA (ra)
section
variable {α β γ δ : Type} [Rep α] [Rep β] [Rep γ] [Rep δ] {t : TE} {σ : L2.St} {F H : Hp} {K : PySem.W.Frag}
theorem ev_chain3 {ta tb tc td : TE} {r r' r'' : R2} {ma : Option α} {mb : Option β} {mc : Option γ} {md : Option δ} {k : α → β → Option Bool} {k' : β → γ → Option Bool} {k'' : γ → δ → Option Bool} (ha : EV ta σ F H ma) (hb : EV tb σ F H mb) (hc : EV tc σ F H mc) (hd : EV td σ F H md)
    (hr : ∀ x y, RV r x y (k x y)) (hr' : ∀ x y, RV r' x y (k' x y)) (hr'' : ∀ x y, RV r'' x y (k'' x y)) :
    EV (tChain3 r r' r'' ta tb tc td) σ F H (ma.bind fun x => mb.bind fun y => (k x y).bind fun b => if b then mc.bind fun z => (k' y z).bind fun b => if b then md.bind fun u => k'' z u else some false else some false) := fun F1 H1 l z e Q q => by
  obtain ⟨x, ex, e⟩ := Option.bind_eq_some_iff.mp e
  obtain ⟨y, ey, e⟩ := Option.bind_eq_some_iff.mp e
  obtain ⟨b, eb, e⟩ := Option.bind_eq_some_iff.mp e
  refine ha F1 H1 l x ex _ fun v F2 H2 l2 rv => hb F2 H2 (l.trans l2) y ey _ fun w F3 H3 l3 rw' => ?_
  refine hr x y F3 H3 v w l3.fh (up rv l3) rw' b eb _ fun u F4 H4 l4 ru => ⟨b, ru, ?_⟩
  cases b with
  | true =>
    refine iteT ?_
    obtain ⟨z1, ez1, e⟩ := Option.bind_eq_some_iff.mp e
    obtain ⟨b2, eb2, e⟩ := Option.bind_eq_some_iff.mp e
    refine hc F4 H4 (((l.trans l2).trans l3).trans l4) z1 ez1 _ fun w2 F5 H5 l5 r5 => ?_
    refine hr' y z1 F5 H5 w w2 l5.fh (up (up rw' l4) l5) r5 b2 eb2 _ fun u6 F6 H6 l6 r6 => ⟨b2, r6, ?_⟩
    cases b2 with
    | true =>
      refine iteT ?_
      obtain ⟨z3, ez3, e⟩ := Option.bind_eq_some_iff.mp e
      refine hd F6 H6 (((((l.trans l2).trans l3).trans l4).trans l5).trans l6) z3 ez3 _ fun w7 F7 H7 l7 r7 => ?_
      exact hr'' z1 z3 F7 H7 w2 w7 l7.fh (up (up r5 l6) l7) r7 z e Q fun u8 F8 H8 l8 r8 => q u8 F8 H8 ((((((l2.trans l3).trans l4).trans l5).trans l6).trans l7).trans l8) r8
    | false =>
      have e' : false = z := Option.some.inj e
      subst e'
      exact iteF (q _ F6 H6 ((((l2.trans l3).trans l4).trans l5).trans l6) rfl)
  | false =>
    have e' : false = z := Option.some.inj e
    subst e'
    exact iteF (q _ F4 H4 ((l2.trans l3).trans l4) rfl)
theorem rv_isB (x y : Bool) : RV rIsB x y (some (decide (x = y))) := fun F H v w s rv rw' z e Q q => by
  cases e
  exact ⟨x, y, rv, rw', q _ F H (.refl s) rfl⟩
theorem rv_isnotB (x y : Bool) : RV rNotB x y (some (!decide (x = y))) := fun F H v w s rv rw' z e Q q => by
  cases e
  exact ⟨x, y, rv, rw', q _ F H (.refl s) rfl⟩
/-- list(range(n)) -/
def lrng (n : Int) : Option (List Int) := if -4611686018427387904 ≤ n ∧ n ≤ 10000000 then some ((List.range n.toNat).map fun i => ((i : Nat) : Int)) else none
theorem evn_lrng {m : Option Int} (h : EV t σ F H m) : EVN (tLstRg (tRg1 t)) σ F H (m.bind fun n => lrng n) := fun F1 H1 l xs e Q q => by
  obtain ⟨n, en, e⟩ := Option.bind_eq_some_iff.mp e
  unfold lrng at e
  split at e
  · rename_i c
    cases e
    refine h F1 H1 l n en _ fun v F2 H2 l2 r => ⟨n, r, ⟨by omega, by omega, by omega, by omega, ?_⟩, fun p hp => ?_⟩
    · have : (2 : Nat) ^ 24 = 16777216 := by decide
      rw [this]
      omega
    · refine q p _ F2 _ (l2.trans (.made l2.fh hp)) (l2.h.free hp) (l2.fh.free hp) upd_same ?_
      unfold rgV
      have e1 : (n - 0).toNat = n.toNat := by rw [Int.sub_zero]
      rw [e1]
      have e2 : (List.range n.toNat).map (fun i => V.int (0 + ((i : Nat) : Int))) = ((List.range n.toNat).map fun i => ((i : Nat) : Int)).map V.int := by
        rw [List.map_map]
        refine List.map_congr_left fun i _ => ?_
        show V.int (0 + (i : Int)) = V.int (i : Int)
        rw [Int.zero_add]
      rw [e2]
      exact rpL_ints' _
  · cases e
/-- a part of the script -/
theorem evn_cutS {m : Option (Scr K)} {tl th : TO} {lo hi : Option (Option Int)} (h : EV t σ F H m)
    (hl : ∀ F1 H1, Lat F H F1 H1 → ∀ i, lo = some i → ∀ Q : Option Int → Hp → Prop, (∀ F2 H2, Lat F1 H1 F2 H2 → Q i H2) → tl σ H1 Q)
    (hh : ∀ F1 H1, Lat F H F1 H1 → ∀ i, hi = some i → ∀ Q : Option Int → Hp → Prop, (∀ F2 H2, Lat F1 H1 F2 H2 → Q i H2) → th σ H1 Q) :
    EVN (tSl (rSlL K) t tl th) σ F H (m.bind fun xs => lo.bind fun i => hi.bind fun j => some (cutZ xs.l i j)) := fun F1 H1 l y e Q q => by
  obtain ⟨x, ex, e⟩ := Option.bind_eq_some_iff.mp e
  obtain ⟨i, ei, e⟩ := Option.bind_eq_some_iff.mp e
  obtain ⟨j, ej, e⟩ := Option.bind_eq_some_iff.mp e
  cases e
  refine h F1 H1 l x ex _ fun v F2 H2 l2 ⟨a, e1, e2⟩ => hl F2 H2 (l.trans l2) i ei _ fun F3 H3 l3 => hh F3 H3 ((l.trans l2).trans l3) j ej _ fun F4 H4 l4 => ?_
  have L := (l2.trans l3).trans l4
  refine ⟨a, _, e1, same_l (l3.h.trans l4.h) (same_l l2.fh e2), fun p hp => q p _ F4 _ (L.trans (.made l4.fh hp)) (L.h.free hp) (l4.fh.free hp) upd_same ?_⟩
  unfold cutZ cutV
  rw [List.length_map]
  exact rpL.take _ (rpL.drop _ (rpL_ints' _))
theorem ev_powL {ta tb : TE} {x y n : Int} (ha : EV ta σ F H (some x)) (hb : EV tb σ F H (some y)) (hc : CPow x y) (hn : x ^ y.toNat = n) : EV (tOp (rI CPow fun i j => .int (i ^ j.toNat)) ta tb) σ F H (some n) := fun F1 H1 l z e Q q => by
  cases e
  refine ha F1 H1 l x rfl _ fun v F2 H2 l2 rv => hb F2 H2 (l.trans l2) y rfl _ fun w F3 H3 l3 rw' => ?_
  exact ⟨x, y, rv, rw', hc, q _ F3 H3 (l2.trans l3) (show V.int _ = V.int n by rw [hn])⟩
theorem rv_divW (x y : Int) : RV (rI CDivW fun i j => .int (i / j)) x y (divW x y) := rv_I x y fun z e => by
  unfold divW at e
  split at e
  · rename_i c
    cases e
    exact ⟨c, rfl⟩
  · cases e
end
end Dw

set_option Elab.async false
set_option linter.all false
set_option maxRecDepth 100000
set_option maxHeartbeats 4000000
namespace Q
open PySem L2 Dv Dw
abbrev topS (i : Nat) : Stmt := PySem.Challenge.pw_dyeweb_k05_worths.main.body.getD i (.Pass ⟨0, 0, 0, 0⟩)
structure Txt (K : PySem.W.Frag) (mg : Str → Option Value) : Prop where
  b_bool : mg "bool" = none
  b_int : mg "int" = none
  b_isinstance : mg "isinstance" = none
  b_len : mg "len" = none
  b_list : mg "list" = none
  b_range : mg "range" = none
  b_reversed : mg "reversed" = none
section
variable {P : Program} {w : World} {K : PySem.W.Frag} {mg : Str → Option Value} {base : Heap}
abbrev s_worth : Stmt := topS 1
theorem sc_worth : FnScope ["numbers", "q", "total", "number"] ["numbers", "q"] (defScope s_worth) := ⟨rfl, rfl, rfl, by decide +kernel, rfl, by decide +kernel, by decide +kernel⟩
theorem ok_worth {f : Addr} {fd : FuncData} (F : Fun K "worth" "worth" s_worth f fd) (gF : mg "worth" = some (.ref f)) (T : Txt K mg) : Fn P w K mg base CX0 1 "worth" ["numbers", "q"] (spO (β := Int) fun (x : (List Int) × Int × Unit) => worth x.1 x.2.1) := by
  refine ⟨f, _, gF, F.kp, F.binds (ps := ["numbers", "q"]) (fun _ _ _ _ _ _ us hl => match us, hl with | [_, _], _ => rfl), F.ok sc_worth (spO_len rfl) (fun cdv A outer s H vs Q E hr h => ?_)⟩
  refine ⟨_, (pss_cons (ps_set (i := 2) sc_worth.nd rfl (by first | exact Or.inl rfl | exact Or.inr rfl) pe_int)
    (pss_cons (ps_for PassesOwn.never rfl (pi_reversed (by rfl) T.b_reversed (pa_cons (pv 0) pa_nil)) (pg_name (i := 3) sc_worth.nd rfl (by first | exact Or.inl rfl | exact Or.inr rfl)) (pss_one (ps_set (i := 2) sc_worth.nd rfl (by first | exact Or.inl rfl | exact Or.inr rfl) (pe_op op_add (pe_op op_mul (pv 2) (pv 1)) (pv 3)))))
    (pss_one (ps_ret (pv 2))))), ?_⟩
  obtain ⟨F0, ⟨x_numbers, x_q, _⟩, y, s0, ⟨v_numbers, _, rfl, h_numbers, v_q, _, rfl, h_q, rfl⟩, hm, hQ⟩ := h
  have L0 : Lat F0 H F0 H := .refl s0
  refine at_st (σ := [some v_numbers, some v_q, none, none]) rfl ?_
  replace hm : worth x_numbers x_q = some y := hm
  unfold worth at hm
  refine rd_asg L0.fh ev_int hm ?_
  intro x1 v2 F3 H4 hm l5 h_total_6
  have L7 := L0.trans l5
  replace h_numbers := up h_numbers l5
  refine rd_for L7.fh (ei_rev (ev_var rfl h_numbers)) hm ?_
  intro xs8 J9 F10 H11 hm l12 wk13
  have L14 := L7.trans l12
  replace h_numbers := up h_numbers l12
  refine rd_loopG wk13 hm (fun (s : Int) σ_ F_ H_ => ∃ (v2_ : V) (o3_ : Option V), σ_ = [some v_numbers, some v_q, some v2_, o3_] ∧ Same F10 F_ ∧ Lat F0 H F_ H_ ∧ Rep.rp s v2_ F_ ∧ True) ⟨_, _, rfl, (.refl _), L14, (Flat.any h_total_6), trivial⟩ ?_ ?_ ?_
  · rintro s σ_ F_ H_ ⟨e15, e16, rfl, sf17, L18, h_total_19, -⟩
    exact ⟨sf17, L18.fh⟩
  · rintro q20 s21 σ_ F27 H28 v22 F29 H30 ⟨e31, e32, rfl, sf33, L34, h_total_35, -⟩ l23 rv24 s36 hm D26 hN25
    have L37 := L34.trans l23
    have sb38 := Same.trans sf33 l23.f
    refine gt_name ?_
    refine rd_asgL L37.fh (ev_op (ev_op (ev_varF rfl h_total_35) (ev_varF rfl h_q) rv_mul) (ev_varF rfl rv24) rv_add) hm ?_
    intro x39 v40 F41 H42 hm l43 h_total_44
    have L45 := L37.trans l43
    have sb46 := Same.trans sb38 l43.f
    obtain rfl := Option.some.inj hm
    exact hN25 _ _ _ ⟨_, _, rfl, sb46, L45, (Flat.any h_total_44), trivial⟩
  · rintro s47 σ_ F48 H49 hm ⟨e50, e51, rfl, sf52, L53, h_total_54, -⟩
    refine nx_with ?_
    exact rd_ret0 L53.fh (ev_varF rfl h_total_54) hm fun v F1 H1 l rv => hQ v F1 H1 (L53.trans l) rv
abbrev s_cell_at : Stmt := topS 3
theorem sc_cell_at : FnScope ["script", "k"] ["script", "k"] (defScope s_cell_at) := ⟨rfl, rfl, rfl, by decide +kernel, rfl, by decide +kernel, by decide +kernel⟩
theorem ok_cell_at {f : Addr} {fd : FuncData} (F : Fun K "_law_cell_at" "_law_cell_at" s_cell_at f fd) (gF : mg "_law_cell_at" = some (.ref f)) (T : Txt K mg) : Fn P w K mg base CX0 1 "_law_cell_at" ["script", "k"] (spO (β := Int) fun (x : (Scr K) × Int × Unit) => cell_at x.1.l x.2.1) := by
  refine ⟨f, _, gF, F.kp, F.binds (ps := ["script", "k"]) (fun _ _ _ _ _ _ us hl => match us, hl with | [_, _], _ => rfl), F.ok sc_cell_at (spO_len rfl) (fun cdv A outer s H vs Q E hr h => ?_)⟩
  refine ⟨_, (pss_cons (ps_if (pt_cmpR op_lt (pv 1) (pe_callB call_len_seq (by rfl) T.b_len PySem.boot_len (pa_cons (pv 0) pa_nil)) (nomark _)) (pss_one (ps_ret (pe_ix ix_list (pv 0) (pv 1) (fun _ _ => rfl)))) pss_nil)
    (pss_one (ps_ret pe_int))), ?_⟩
  obtain ⟨F0, ⟨x_script, x_k, _⟩, y, s0, ⟨v_script, _, rfl, h_script, v_k, _, rfl, h_k, rfl⟩, hm, hQ⟩ := h
  have L0 : Lat F0 H F0 H := .refl s0
  refine at_st (σ := [some v_script, some v_k]) rfl ?_
  replace hm : cell_at x_script.l x_k = some y := hm
  unfold cell_at at hm
  refine rd_guard L0.fh (evt_of (ev_op (ev_varF rfl h_k) (ev_lenS (ev_var rfl h_script)) rv_cmp)) hm ?_ ?_
  · intro F1 H2 _ hm l3
    have L4 := L0.trans l3
    replace h_script := up h_script l3
    exact rd_ret0 L4.fh (ev_op (ev_var rfl h_script) (ev_varF rfl h_k) rv_ixS) hm fun v F1 H1 l rv => hQ v F1 H1 (L4.trans l) rv
  · intro F5 H6 _ hm l7
    have L8 := L0.trans l7
    exact rd_ret0 L8.fh ev_int hm fun v F1 H1 l rv => hQ v F1 H1 (L8.trans l) rv
abbrev s_at_ : Stmt := topS 4
theorem sc_at_ : FnScope ["numbers", "q", "total", "power", "number"] ["numbers", "q"] (defScope s_at_) := ⟨rfl, rfl, rfl, by decide +kernel, rfl, by decide +kernel, by decide +kernel⟩
theorem ok_at_ {f : Addr} {fd : FuncData} (F : Fun K "_law_at" "_law_at" s_at_ f fd) (gF : mg "_law_at" = some (.ref f)) (T : Txt K mg) : Fn P w K mg base CX0 1 "_law_at" ["numbers", "q"] (spO (β := Int) fun (x : (List Int) × Int × Unit) => at_ x.1 x.2.1) := by
  refine ⟨f, _, gF, F.kp, F.binds (ps := ["numbers", "q"]) (fun _ _ _ _ _ _ us hl => match us, hl with | [_, _], _ => rfl), F.ok sc_at_ (spO_len rfl) (fun cdv A outer s H vs Q E hr h => ?_)⟩
  refine ⟨_, (pss_cons (ps_set (i := 2) sc_at_.nd rfl (by first | exact Or.inl rfl | exact Or.inr rfl) pe_int)
    (pss_cons (ps_set (i := 3) sc_at_.nd rfl (by first | exact Or.inl rfl | exact Or.inr rfl) pe_int)
    (pss_cons (ps_for PassesOwn.never rfl (pi_list (pv 0)) (pg_name (i := 4) sc_at_.nd rfl (by first | exact Or.inl rfl | exact Or.inr rfl)) (pss_cons (ps_set (i := 2) sc_at_.nd rfl (by first | exact Or.inl rfl | exact Or.inr rfl) (pe_op op_add (pv 2) (pe_op op_mul (pv 4) (pv 3))))
    (pss_one (ps_set (i := 3) sc_at_.nd rfl (by first | exact Or.inl rfl | exact Or.inr rfl) (pe_op op_mul (pv 3) (pv 1))))))
    (pss_one (ps_ret (pv 2)))))), ?_⟩
  obtain ⟨F0, ⟨x_numbers, x_q, _⟩, y, s0, ⟨v_numbers, _, rfl, h_numbers, v_q, _, rfl, h_q, rfl⟩, hm, hQ⟩ := h
  have L0 : Lat F0 H F0 H := .refl s0
  refine at_st (σ := [some v_numbers, some v_q, none, none, none]) rfl ?_
  replace hm : at_ x_numbers x_q = some y := hm
  unfold at_ at hm
  refine rd_asg L0.fh ev_int hm ?_
  intro x1 v2 F3 H4 hm l5 h_total_6
  have L7 := L0.trans l5
  replace h_numbers := up h_numbers l5
  refine rd_asg L7.fh ev_int hm ?_
  intro x8 v9 F10 H11 hm l12 h_power_13
  have L14 := L7.trans l12
  replace h_numbers := up h_numbers l12
  refine rd_for L14.fh (ei_list (ev_var rfl h_numbers)) hm ?_
  intro xs15 J16 F17 H18 hm l19 wk20
  have L21 := L14.trans l19
  replace h_numbers := up h_numbers l19
  refine rd_loopG wk20 hm (fun (s : Int × Int) σ_ F_ H_ => ∃ (v2_ : V) (v3_ : V) (o4_ : Option V), σ_ = [some v_numbers, some v_q, some v2_, some v3_, o4_] ∧ Same F17 F_ ∧ Lat F0 H F_ H_ ∧ Rep.rp s.1 v2_ F_ ∧ Rep.rp s.2 v3_ F_ ∧ True) ⟨_, _, _, rfl, (.refl _), L21, (Flat.any h_total_6), (Flat.any h_power_13), trivial⟩ ?_ ?_ ?_
  · rintro s σ_ F_ H_ ⟨e22, e23, e24, rfl, sf25, L26, h_total_27, h_power_28, -⟩
    exact ⟨sf25, L26.fh⟩
  · rintro q29 s30 σ_ F36 H37 v31 F38 H39 ⟨e40, e41, e42, rfl, sf43, L44, h_total_45, h_power_46, -⟩ l32 rv33 s47 hm D35 hN34
    have L48 := L44.trans l32
    have sb49 := Same.trans sf43 l32.f
    refine gt_name ?_
    refine rd_asg L48.fh (ev_op (ev_varF rfl h_total_45) (ev_op (ev_varF rfl rv33) (ev_varF rfl h_power_46) rv_mul) rv_add) hm ?_
    intro x50 v51 F52 H53 hm l54 h_total_55
    have L56 := L48.trans l54
    have sb57 := Same.trans sb49 l54.f
    refine rd_asgL L56.fh (ev_op (ev_varF rfl h_power_46) (ev_varF rfl h_q) rv_mul) hm ?_
    intro x58 v59 F60 H61 hm l62 h_power_63
    have L64 := L56.trans l62
    have sb65 := Same.trans sb57 l62.f
    obtain rfl := Option.some.inj hm
    exact hN34 _ _ _ ⟨_, _, _, rfl, sb65, L64, (Flat.any h_total_55), (Flat.any h_power_63), trivial⟩
  · rintro s66 σ_ F67 H68 hm ⟨e69, e70, e71, rfl, sf72, L73, h_total_74, h_power_75, -⟩
    refine nx_with ?_
    exact rd_ret0 L73.fh (ev_varF rfl h_total_74) hm fun v F1 H1 l rv => hQ v F1 H1 (L73.trans l) rv
abbrev s_whole : Stmt := topS 5
theorem sc_whole : FnScope ["found"] ["found"] (defScope s_whole) := ⟨rfl, rfl, rfl, by decide +kernel, rfl, by decide +kernel, by decide +kernel⟩
theorem ok_whole {f : Addr} {fd : FuncData} (F : Fun K "_law_whole" "_law_whole" s_whole f fd) (gF : mg "_law_whole" = some (.ref f)) (T : Txt K mg) : Fn P w K mg base CX0 1 "_law_whole" ["found"] (spO (β := Bool) fun (x : Int × Unit) => whole x.1) := by
  refine ⟨f, _, gF, F.kp, F.binds (ps := ["found"]) (fun _ _ _ _ _ _ us hl => match us, hl with | [_], _ => rfl), F.ok sc_whole (spO_len rfl) (fun cdv A outer s H vs Q E hr h => ?_)⟩
  refine ⟨_, (pss_one (ps_ret (pe_and (pe_callB call_isi (by rfl) T.b_isinstance (by decide +kernel) (pa_cons (pv 0) (pa_cons (pe_bltn (v := .ty "int") (by rfl) T.b_int (by decide +kernel) rfl) pa_nil))) (pe_one (pe_not (pe_callB call_isi (by rfl) T.b_isinstance (by decide +kernel) (pa_cons (pv 0) (pa_cons (pe_bltn (v := .ty "bool") (by rfl) T.b_bool (by decide +kernel) rfl) pa_nil)))))))), ?_⟩
  obtain ⟨F0, ⟨x_found, _⟩, y, s0, ⟨v_found, _, rfl, h_found, rfl⟩, hm, hQ⟩ := h
  have L0 : Lat F0 H F0 H := .refl s0
  refine at_st (σ := [some v_found]) rfl ?_
  replace hm : whole x_found = some y := hm
  unfold whole at hm
  exact rd_ret0 L0.fh (ev_andV (ev_isi (ev_varF rfl h_found) true) (ev_notV (ev_isi (ev_varF rfl h_found) false))) hm fun v F1 H1 l rv => hQ v F1 H1 (L0.trans l) rv
abbrev s_law : Stmt := topS 6
theorem sc_law : FnScope ["script", "numbers", "k", "sign", "q", "handed", "found"] ["script"] (defScope s_law) := ⟨rfl, rfl, rfl, by decide +kernel, rfl, by decide +kernel, by decide +kernel⟩
theorem ok_law {f : Addr} {fd : FuncData} (F : Fun K "law" "law" s_law f fd) (gF : mg "law" = some (.ref f)) (T : Txt K mg) (C_cell_at : Fn P w K mg base CX0 1 "_law_cell_at" ["script", "k"] (spO (β := Int) fun (x : (Scr K) × Int × Unit) => cell_at x.1.l x.2.1)) (C_worth : Fn P w K mg base CX0 1 "worth" ["numbers", "q"] (spO (β := Int) fun (x : (List Int) × Int × Unit) => worth x.1 x.2.1)) (C_at_ : Fn P w K mg base CX0 1 "_law_at" ["numbers", "q"] (spO (β := Int) fun (x : (List Int) × Int × Unit) => at_ x.1 x.2.1)) (C_whole : Fn P w K mg base CX0 1 "_law_whole" ["found"] (spO (β := Bool) fun (x : Int × Unit) => whole x.1)) : FnOk P w K mg base CX0 2 f fd ["script"] (spO (β := Bool) fun (x : (Scr K) × Unit) => law x.1.l) := by
  refine F.ok sc_law (spO_len rfl) (fun cdv A outer s H vs Q E hr h => ?_)
  refine ⟨_, (pss_cons (ps_set (i := 1) sc_law.nd rfl (by first | exact Or.inl rfl | exact Or.inr rfl) (pe_lst pa_nil))
    (pss_cons (ps_for PassesOwn.never rfl (pi_range1 (by rfl) T.b_range (pa_cons (pe_op op_mod (pe_fn C_cell_at (hr.mono (by decide)) rfl (pa_cons (pv 0) (pa_cons pe_int pa_nil))) pe_int) pa_nil)) (pg_name (i := 2) sc_law.nd rfl (by first | exact Or.inl rfl | exact Or.inr rfl)) (pss_cons (ps_set (i := 3) sc_law.nd rfl (by first | exact Or.inl rfl | exact Or.inr rfl) (pe_op op_sub pe_int (pe_op op_mul pe_int (pe_op op_mod (pe_op op_fdivW (pe_fn C_cell_at (hr.mono (by decide)) rfl (pa_cons (pv 0) (pa_cons (pe_op op_add pe_int (pv 2)) pa_nil))) (pe_op op_pow pe_int pe_int)) pe_int))))
    (pss_one (ps_expr (pe_bm PySem.F.plainAttrs_list PySem.F.slot_list_append PySem.F.type_list_append mt_append (pv 1) (pa_cons (pe_op op_mul (pv 3) (pe_op op_mod (pe_fn C_cell_at (hr.mono (by decide)) rfl (pa_cons (pv 0) (pa_cons (pe_op op_add pe_int (pv 2)) pa_nil))) (pe_op op_pow pe_int pe_int))) pa_nil))))))
    (pss_cons (ps_set (i := 4) sc_law.nd rfl (by first | exact Or.inl rfl | exact Or.inr rfl) (pe_op op_sub (pe_op op_mod (pe_fn C_cell_at (hr.mono (by decide)) rfl (pa_cons (pv 0) (pa_cons pe_int pa_nil))) pe_int) pe_int))
    (pss_cons (ps_set (i := 5) sc_law.nd rfl (by first | exact Or.inl rfl | exact Or.inr rfl) (pe_callTy call_list_of (by rfl) T.b_list (by decide +kernel) (pa_cons (pv 1) pa_nil)))
    (pss_cons (ps_set (i := 6) sc_law.nd rfl (by first | exact Or.inl rfl | exact Or.inr rfl) (pe_fn C_worth (hr.mono (by decide)) rfl (pa_cons (pv 5) (pa_cons (pv 4) pa_nil))))
    (pss_one (ps_ret (pe_and (pe_fn C_whole (hr.mono (by decide)) rfl (pa_cons (pv 6) pa_nil)) (pe_and (pe_cmpR op_eq (pv 6) (pe_fn C_at_ (hr.mono (by decide)) rfl (pa_cons (pv 1) (pa_cons (pv 4) pa_nil))) (nomark _)) (pe_one (pe_cmpR (op_eqD (hu64 hr)) (pv 5) (pv 1) (nomark _)))))))))))), ?_⟩
  obtain ⟨F0, ⟨x_script, _⟩, y, s0, ⟨v_script, _, rfl, h_script, rfl⟩, hm, hQ⟩ := h
  have L0 : Lat F0 H F0 H := .refl s0
  refine at_st (σ := [some v_script, none, none, none, none, none, none]) rfl ?_
  replace hm : law x_script.l = some y := hm
  unfold law at hm
  refine rd_asgN L0.fh (evn_nil (α := Int)) hm ?_
  intro x1 p2 w3 F4 H5 hm l6 hn11 fp8 hp7 rl9
  have hz10 := L0.h.free hn11
  have L12 := L0.trans l6
  replace h_script := up h_script l6
  refine rd_for L12.fh (ei_range1 (ev_op (ev_call (eva_cons (ev_var rfl h_script) (eva_cons ev_int eva_nil))) ev_int rv_mod)) hm ?_
  intro xs13 J14 F15 H16 hm l17 wk18
  have L19 := L12.trans l17
  replace h_script := up h_script l17
  replace fp8 := l17.nwl hp7 fp8
  replace hp7 := l17.h _ _ hp7
  replace rl9 := rpL.mono l17.f rl9
  refine rd_loopG wk18 hm (fun (s : (List Int)) σ_ F_ H_ => ∃ (o2_ : Option V) (o3_ : Option V) (w1_ : List V), σ_ = [some v_script, some (.ref p2), o2_, o3_, none, none, none] ∧ Same F15 F_ ∧ Lat F0 H F_ H_ ∧ (H_ p2 = some (.lst w1_) ∧ F_ p2 = none ∧ rpL s w1_ F_) ∧ True) ⟨_, _, _, rfl, (.refl _), L19, ⟨hp7, fp8, rl9⟩, trivial⟩ ?_ ?_ ?_
  · rintro s σ_ F_ H_ ⟨e20, e21, e22, rfl, sf23, L24, ⟨hp25, fp26, rl27⟩, -⟩
    exact ⟨sf23, L24.fh⟩
  · rintro q28 s29 σ_ F35 H36 v30 F37 H38 ⟨e39, e40, e41, rfl, sf42, L43, ⟨hp44, fp45, rl46⟩, -⟩ l31 rv32 s47 hm D34 hN33
    replace h_script := Rep.mono sf42 h_script
    have L48 := L43.trans l31
    have sb49 := Same.trans sf42 l31.f
    replace h_script := up h_script l31
    replace fp45 := l31.nwl hp44 fp45
    replace hp44 := l31.h _ _ hp44
    replace rl46 := rpL.mono l31.f rl46
    refine gt_name ?_
    refine rd_asg L48.fh (ev_op ev_int (ev_op ev_int (ev_op (ev_op (ev_call (eva_cons (ev_var rfl h_script) (eva_cons (ev_op ev_int (ev_varF rfl rv32) rv_add) eva_nil))) (ev_powL (n := 1000000000000000000000000000000) ev_int ev_int ⟨by decide, by decide, by decide⟩ (by decide)) rv_divW) ev_int rv_mod) rv_mul) rv_sub) hm ?_
    intro x50 v51 F52 H53 hm l54 h_sign_55
    have L56 := L48.trans l54
    have sb57 := Same.trans sb49 l54.f
    replace h_script := up h_script l54
    replace fp45 := l54.nwl hp44 fp45
    replace hp44 := l54.h _ _ hp44
    replace rl46 := rpL.mono l54.f rl46
    refine rd_appendL L56.fh rfl hp44 fp45 rl46 (ev_op (ev_varF rfl h_sign_55) (ev_op (ev_call (eva_cons (ev_var rfl h_script) (eva_cons (ev_op ev_int (ev_varF rfl rv32) rv_add) eva_nil))) (ev_powL (n := 1000000000000000000000000000000) ev_int ev_int ⟨by decide, by decide, by decide⟩ (by decide)) rv_mod) rv_mul) hm ?_
    intro x58 w59 F60 H61 hm m62 fp63 hp64 rl65
    have L66 := m62.l0 _ _ L56 hz10
    have sb67 := Same.trans sb57 m62.f
    replace h_script := Rep.mono m62.f h_script
    obtain rfl := Option.some.inj hm
    exact hN33 _ _ _ ⟨_, _, _, rfl, sb67, L66, ⟨hp64, fp63, rl65⟩, trivial⟩
  · rintro s68 σ_ F69 H70 hm ⟨e71, e72, e73, rfl, sf74, L75, ⟨hp76, fp77, rl78⟩, -⟩
    refine nx_with ?_
    replace h_script := Rep.mono sf74 h_script
    obtain ⟨F79, L80, sf81, h_numbers_82, fq83⟩ := freeze L75 hz10 fp77 hp76 rl78
    replace h_script := Rep.mono sf81 h_script
    refine rd_asg L80.fh (ev_op (ev_op (ev_call (eva_cons (ev_var rfl h_script) (eva_cons ev_int eva_nil))) ev_int rv_mod) ev_int rv_sub) hm ?_
    intro x84 v85 F86 H87 hm l88 h_q_89
    have L90 := L80.trans l88
    replace h_numbers_82 := up h_numbers_82 l88
    refine rd_asg L90.fh (EVN.ev (evn_list (ev_var rfl h_numbers_82))) hm ?_
    intro x91 v92 F93 H94 hm l95 h_handed_96
    have L97 := L90.trans l95
    replace h_numbers_82 := up h_numbers_82 l95
    refine rd_asg L97.fh (ev_call (eva_cons (ev_var rfl h_handed_96) (eva_cons (ev_varF rfl h_q_89) eva_nil))) hm ?_
    intro x98 v99 F100 H101 hm l102 h_found_103
    have L104 := L97.trans l102
    replace h_numbers_82 := up h_numbers_82 l102
    replace h_handed_96 := up h_handed_96 l102
    exact rd_ret0 L104.fh (ev_andV (ev_call (eva_cons (ev_varF rfl h_found_103) eva_nil)) (ev_andV (ev_op (ev_varF rfl h_found_103) (ev_call (eva_cons (ev_var rfl h_numbers_82) (eva_cons (ev_varF rfl h_q_89) eva_nil))) rv_eqI) (ev_op (ev_var rfl h_handed_96) (ev_var rfl h_numbers_82) (fun x y => rv_eqD x y)))) hm fun v F1 H1 l rv => hQ v F1 H1 (L104.trans l) rv
end
theorem all_mk {l : PySem.W.OpenLaw} {w : World} {K : PySem.W.Frag} {h : Heap} {mg : Str → Option Value} {fa f0 f1 f2 f3 f4 : Addr} (X : K.In h) (G : h.Ns mainGlobals mg) (hfa : mg "law" = some (.ref fa))
    {od0 an0 od1 an1 od2 an2 od3 an3 od4 an4 : Option Addr} {sl0 sl1 sl2 sl3 sl4 : Array (Option Value)} {oc0 kV0 dc0 pm0 cd0 ct0 oc1 kV1 dc1 pm1 cd1 ct1 oc2 kV2 dc2 pm2 cd2 ct2 oc3 kV3 dc3 pm3 cd3 ct3 oc4 kV4 dc4 pm4 cd4 ct4 : Value}
    (a0 : PySem.W.nsIn K mainGlobals "worth" = some (some (.ref f0))) (l0 : K.lookup f0 = some ⟨oc0, od0, .func (PySem.W.fnOf "worth" "worth" (defArgs s_worth) (defBody s_worth) (defScope s_worth) .none kV0 dc0 pm0 an0 cd0 ct0), sl0⟩) (c0 : PySem.W.codeIn K cd0 "worth" = true) (k0 : PySem.W.keepIn K (.ref f0) = true)
    (a1 : PySem.W.nsIn K mainGlobals "_law_cell_at" = some (some (.ref f1))) (l1 : K.lookup f1 = some ⟨oc1, od1, .func (PySem.W.fnOf "_law_cell_at" "_law_cell_at" (defArgs s_cell_at) (defBody s_cell_at) (defScope s_cell_at) .none kV1 dc1 pm1 an1 cd1 ct1), sl1⟩) (c1 : PySem.W.codeIn K cd1 "_law_cell_at" = true) (k1 : PySem.W.keepIn K (.ref f1) = true)
    (a2 : PySem.W.nsIn K mainGlobals "_law_at" = some (some (.ref f2))) (l2 : K.lookup f2 = some ⟨oc2, od2, .func (PySem.W.fnOf "_law_at" "_law_at" (defArgs s_at_) (defBody s_at_) (defScope s_at_) .none kV2 dc2 pm2 an2 cd2 ct2), sl2⟩) (c2 : PySem.W.codeIn K cd2 "_law_at" = true) (k2 : PySem.W.keepIn K (.ref f2) = true)
    (a3 : PySem.W.nsIn K mainGlobals "_law_whole" = some (some (.ref f3))) (l3 : K.lookup f3 = some ⟨oc3, od3, .func (PySem.W.fnOf "_law_whole" "_law_whole" (defArgs s_whole) (defBody s_whole) (defScope s_whole) .none kV3 dc3 pm3 an3 cd3 ct3), sl3⟩) (c3 : PySem.W.codeIn K cd3 "_law_whole" = true) (k3 : PySem.W.keepIn K (.ref f3) = true)
    (a4 : PySem.W.nsIn K mainGlobals "law" = some (some (.ref f4))) (l4 : K.lookup f4 = some ⟨oc4, od4, .func (PySem.W.fnOf "law" "law" (defArgs s_law) (defBody s_law) (defScope s_law) .none kV4 dc4 pm4 an4 cd4 ct4), sl4⟩) (c4 : PySem.W.codeIn K cd4 "law" = true) (k4 : PySem.W.keepIn K (.ref f4) = true)
    (b_bool : PySem.W.nsIn K mainGlobals "bool" = some none)
    (b_int : PySem.W.nsIn K mainGlobals "int" = some none)
    (b_isinstance : PySem.W.nsIn K mainGlobals "isinstance" = some none)
    (b_len : PySem.W.nsIn K mainGlobals "len" = some none)
    (b_list : PySem.W.nsIn K mainGlobals "list" = some none)
    (b_range : PySem.W.nsIn K mainGlobals "range" = some none)
    (b_reversed : PySem.W.nsIn K mainGlobals "reversed" = some none) :
    ∃ fd : FuncData, (∀ (s : Shared) (v : Value), BindsTo s fd ⟨[v], []⟩ [("script", v)]) ∧ ∀ base : Heap, K.In base → base.Ns mainGlobals mg → FnOk l.prog w K mg base CX0 2 fa fd ["script"] (spO (β := Bool) fun (x : (Scr K) × Unit) => law x.1.l) := by
  have e := hfa.symm.trans (PySem.W.mg_of X G a4)
  cases e
  have T : Txt K mg := { b_bool := PySem.W.mg_none_of X G b_bool, b_int := PySem.W.mg_none_of X G b_int, b_isinstance := PySem.W.mg_none_of X G b_isinstance, b_len := PySem.W.mg_none_of X G b_len, b_list := PySem.W.mg_none_of X G b_list, b_range := PySem.W.mg_none_of X G b_range, b_reversed := PySem.W.mg_none_of X G b_reversed }
  refine ⟨PySem.W.fnOf "law" "law" (defArgs s_law) (defBody s_law) (defScope s_law) .none kV4 dc4 pm4 an4 cd4 ct4, fun s v => .of_eq rfl, fun base _ _ => ?_⟩
  have R_worth : Fn l.prog w K mg base CX0 1 "worth" ["numbers", "q"] (spO (β := Int) fun (x : (List Int) × Int × Unit) => worth x.1 x.2.1) := ok_worth (fun_mk (st := s_worth) l0 c0 k0) (PySem.W.mg_of X G a0) T 
  have R_cell_at : Fn l.prog w K mg base CX0 1 "_law_cell_at" ["script", "k"] (spO (β := Int) fun (x : (Scr K) × Int × Unit) => cell_at x.1.l x.2.1) := ok_cell_at (fun_mk (st := s_cell_at) l1 c1 k1) (PySem.W.mg_of X G a1) T 
  have R_at_ : Fn l.prog w K mg base CX0 1 "_law_at" ["numbers", "q"] (spO (β := Int) fun (x : (List Int) × Int × Unit) => at_ x.1 x.2.1) := ok_at_ (fun_mk (st := s_at_) l2 c2 k2) (PySem.W.mg_of X G a2) T 
  have R_whole : Fn l.prog w K mg base CX0 1 "_law_whole" ["found"] (spO (β := Bool) fun (x : Int × Unit) => whole x.1) := ok_whole (fun_mk (st := s_whole) l3 c3 k3) (PySem.W.mg_of X G a3) T 
  exact ok_law (fun_mk (st := s_law) l4 c4 k4) (PySem.W.mg_of X G a4) T R_cell_at R_worth R_at_ R_whole
theorem walk {l : PySem.W.OpenLaw} {q : Program} {loose : List Str} {XP : (Str → Option Value) → Heap → Prop} {YP : World → Heap → Prop} {d : DefRec} {K : Params → PySem.W.Frag} (hn : l.most = some 63) (hdf : d.params.defaults = [])
    (hY : ∀ (w : World) (h : Heap), YP w h → (K w.params).In h)
    (F : ∀ (w : World) (mg : Str → Option Value) (fa : Addr) (h : Heap), (K w.params).In h → h.Ns mainGlobals mg → mg d.name = some (.ref fa) →
      ∃ fd : FuncData, (∀ (s : Shared) (u : Value), BindsTo s fd ⟨[u], []⟩ [("script", u)]) ∧ ∀ base : Heap, (K w.params).In base → base.Ns mainGlobals mg → FnOk l.prog w (K w.params) mg base CX0 2 fa fd ["script"] (let K := K w.params; (spO (β := Bool) fun (x : (Scr K) × Unit) => law x.1.l))) :
    PySem.W.WalkO q loose XP YP l.row.toRowW d [] (fun f vs => PySem.call f vs) :=
  L2.walk_of (n := 63) (k := 2) (x := "script") (CX := fun _ => CX0) (sp := fun w => (let K := K w.params; (spO (β := Bool) fun (x : (Scr K) × Unit) => law x.1.l))) hn (by decide) hdf ⟨rfl, by decide, by decide⟩ hY F
    (fun _ H a ns hl _ hS => ⟨H, (⟨ns⟩, ()), true, .refl H, ⟨.ref a, [], rfl, ⟨a, rfl, hS⟩, rfl⟩, law_true ns hl, fun v F' H' l r => r⟩) fun _ _ _ _ _ z => z
end Q
open PySem PySem.W PyProof.Rows in
set_option maxRecDepth 100000 in
set_option maxHeartbeats 0 in
theorem PySem.Challenge.cw_dyeweb_k05_worths_holds : PySem.Challenge.rw_dyeweb_k05_worths.Holds := by
  w_on; o_law; k_head; (case hw => w_witness2)
  k_fill
  refine Q.walk (l := PySem.Challenge.rw_dyeweb_k05_worths) rfl rfl (fun w h Y => PySem.W.kIn_of Y) ?F
  case F =>
    intro w mg fa h KX G hmg
    refine' Q.all_mk KX G hmg ?a0 ?l0 ?c0 ?k0 ?a1 ?l1 ?c1 ?k1 ?a2 ?l2 ?c2 ?k2 ?a3 ?l3 ?c3 ?k3 ?a4 ?l4 ?c4 ?k4 ?b_bool ?b_int ?b_isinstance ?b_len ?b_list ?b_range ?b_reversed
    (case a0 => k_is)
    (case l0 => k_is)
    (case c0 => k_is)
    (case k0 => k_is)
    (case a1 => k_is)
    (case l1 => k_is)
    (case c1 => k_is)
    (case k1 => k_is)
    (case a2 => k_is)
    (case l2 => k_is)
    (case c2 => k_is)
    (case k2 => k_is)
    (case a3 => k_is)
    (case l3 => k_is)
    (case c3 => k_is)
    (case k3 => k_is)
    (case a4 => k_is)
    (case l4 => k_is)
    (case c4 => k_is)
    (case k4 => k_is)
    (case b_bool => k_is)
    (case b_int => k_is)
    (case b_isinstance => k_is)
    (case b_len => k_is)
    (case b_list => k_is)
    (case b_range => k_is)
    (case b_reversed => k_is)
#print axioms PySem.Challenge.cw_dyeweb_k05_worths_holds
