import PyProof.Rows.All
import Wide.All
import OpenK.AllK
import Wide.FinOn
import HandS.ForMost
import HandS.ForExc
import HandS.Wide
import HandS.Deep
import HandS.Walk
import HandS.TupLe
import HandS.TupSets
import HandS.Conv
import HandS.Style
import HandS.IsInst
import HandS.SortRule
import PyProof.Rows.Chain
import HandS.ExcIs
import HandS.More
import HandS.SortKw
import PySem.Challenge.RW_dyeweb_k10_whole_flattest
/-! The words that the mirrors are written in: plain Lean, no library. -/
namespace Dv
set_option linter.all false
variable {α β S R : Type}
/-- what leaves a loop's turn -/
inductive Stp (S R : Type) where
  | go (s : S)
  | ret (r : R)
def Stp.elim {T : Type} (st : Stp S R) (f : S → T) (g : R → T) : T := match st with
  | .go s => f s
  | .ret r => g r
@[simp] theorem Stp.elim_go {T : Type} (s : S) (f : S → T) (g : R → T) : (Stp.go s : Stp S R).elim f g = f s := rfl
@[simp] theorem Stp.elim_ret {T : Type} (r : R) (f : S → T) (g : R → T) : (Stp.ret r : Stp S R).elim f g = g r := rfl
def loopG (f : S → α → Option S) : S → List α → Option S
  | s, [] => some s
  | s, x :: xs => (f s x).bind fun s' => loopG f s' xs
def loopR (f : S → α → Option (Stp S R)) : S → List α → Option (Stp S R)
  | s, [] => some (.go s)
  | s, x :: xs => (f s x).bind fun st => st.elim (fun s' => loopR f s' xs) fun r => some (.ret r)
def whileG (c : S → Option Bool) (f : S → Option S) : Nat → S → Option S
  | 0, _ => none
  | n + 1, s => (c s).bind fun b => if b then (f s).bind fun s' => whileG c f n s' else some s
def whileR (c : S → Option Bool) (f : S → Option (Stp S R)) : Nat → S → Option (Stp S R)
  | 0, _ => none
  | n + 1, s => (c s).bind fun b => if b then (f s).bind fun st => st.elim (fun s' => whileR c f n s') fun r => some (.ret r) else some (.go s)
def lcG (c : α → Option Bool) (f : α → Option β) : List α → Option (List β)
  | [] => some []
  | x :: xs => (c x).bind fun b => if b then (f x).bind fun y => (lcG c f xs).bind fun ys => some (y :: ys) else lcG c f xs
/-- a list comprehension over a list that is not too long -/
def lc (c : α → Option Bool) (f : α → Option β) (xs : List α) : Option (List β) := if xs.length < 10000000 then lcG c f xs else none
def ixZ (n : Nat) (i : Int) : Option Nat := if 0 ≤ i then (if i < n then some i.toNat else none) else if -(n : Int) ≤ i then some (i + n).toNat else none
def atZ (xs : List α) (i : Int) : Option α := (ixZ xs.length i).bind fun j => xs[j]?
def setZ (xs : List α) (i : Int) (x : α) : Option (List α) := (ixZ xs.length i).bind fun j => some (xs.set j x)
def rng (a b : Int) : Option (List Int) := if (-4000000000000000000 ≤ a ∧ a ≤ 4000000000000000000) ∧ (-4000000000000000000 ≤ b ∧ b ≤ 4000000000000000000) then some ((List.range (b - a).toNat).map fun i => a + (i : Nat)) else none
def mulZ (i j : Int) : Option Int := if (-(2 ^ 64) < i ∧ i < 2 ^ 64) ∨ (-(2 ^ 64) < j ∧ j < 2 ^ 64) then some (i * j) else none
def divZ (i j : Int) : Option Int := if 0 < j ∧ j < 1073741824 then some (i / j) else none
def divW (i j : Int) : Option Int := if 0 < j ∧ j.natAbs.log2 < 9000 then some (i / j) else none
def modZ (i j : Int) : Option Int := if 0 < j then some (i % j) else none
def addL (xs : List α) (y : α) : Option (List α) := if xs.length < 10000000 then some (xs ++ [y]) else none
def catL (xs ys : List α) : Option (List α) := if xs.length + ys.length ≤ 10000000 then some (xs ++ ys) else none
def cutIx (n d : Nat) : Option Int → Nat
  | none => d
  | some i => if i < 0 then (i + n).toNat else min i.toNat n
def memL [DecidableEq α] (x : α) (xs : List α) : Bool := decide (x ∈ xs)
/-- a part of a list -/
def cutZ (xs : List α) (lo hi : Option Int) : List α := (xs.drop (cutIx xs.length 0 lo)).take (cutIx xs.length xs.length hi - cutIx xs.length 0 lo)
/-- the order of pairs -/
def leP (a b : Int × Int) : Bool := if a.1 = b.1 then decide (a.2 ≤ b.2) else decide (a.1 ≤ b.1)
def ins {γ : Type} (le : γ → γ → Bool) (x : γ) : List γ → List γ
  | [] => [x]
  | y :: ys => if le x y then x :: y :: ys else y :: ins le x ys
def srt {γ : Type} (le : γ → γ → Bool) : List γ → List γ
  | [] => []
  | x :: xs => ins le x (srt le xs)
end Dv
namespace Dv
theorem leP_total (a b : Int × Int) : leP a b = true ∨ leP b a = true := by
  unfold leP
  by_cases h : a.1 = b.1
  · simp only [h, ↓reduceIte, decide_eq_true_eq]
    omega
  · have h' : ¬ b.1 = a.1 := fun e => h e.symm
    simp only [h, h', ↓reduceIte, decide_eq_true_eq]
    omega
theorem leP_trans {a b c : Int × Int} (h1 : leP a b = true) (h2 : leP b c = true) : leP a c = true := by
  unfold leP at *
  split at h1 <;> split at h2 <;> split <;> simp_all <;> omega
theorem leP_anti {a b : Int × Int} (h1 : leP a b = true) (h2 : leP b a = true) : a = b := by
  obtain ⟨a1, a2⟩ := a
  obtain ⟨b1, b2⟩ := b
  unfold leP at *
  dsimp only at *
  split at h1 <;> split at h2 <;> simp_all <;> omega
/-- a total order -/
structure Ord {γ : Type} (le : γ → γ → Bool) : Prop where
  total : ∀ a b, le a b = true ∨ le b a = true
  trans : ∀ a b c, le a b = true → le b c = true → le a c = true
  anti : ∀ a b, le a b = true → le b a = true → a = b
theorem ordP : Ord leP := ⟨leP_total, fun _ _ _ => leP_trans, fun _ _ => leP_anti⟩
def leI (a b : Int) : Bool := decide (a ≤ b)
theorem ordI : Ord leI := ⟨fun a b => by simp only [leI, decide_eq_true_eq]; omega, fun a b c => by simp only [leI, decide_eq_true_eq]; omega, fun a b => by simp only [leI, decide_eq_true_eq]; omega⟩
section
variable {γ : Type} {le : γ → γ → Bool}
theorem ins_perm (x : γ) : ∀ l, (ins le x l).Perm (x :: l)
  | [] => .refl _
  | y :: l => by
    unfold ins
    split
    · exact .refl _
    · exact ((ins_perm x l).cons y).trans (List.Perm.swap x y l)
theorem srt_perm : ∀ l, (srt le l).Perm l
  | [] => .refl _
  | x :: l => (ins_perm x _).trans ((srt_perm l).cons x)
theorem ins_sorted (O : Ord le) (x : γ) : ∀ l, l.Pairwise (fun a b => le a b = true) → (ins le x l).Pairwise (fun a b => le a b = true)
  | [], _ => by simp [ins]
  | y :: l, h => by
    unfold ins
    by_cases c : le x y = true
    · rw [if_pos c]
      refine List.pairwise_cons.mpr ⟨fun z hz => ?_, h⟩
      rcases List.mem_cons.mp hz with rfl | hz
      · exact c
      · exact O.trans _ _ _ c ((List.pairwise_cons.mp h).1 z hz)
    · rw [if_neg c]
      refine List.pairwise_cons.mpr ⟨fun z hz => ?_, ins_sorted O x l (List.pairwise_cons.mp h).2⟩
      rcases List.mem_cons.mp ((ins_perm x l).mem_iff.mp hz) with rfl | hz
      · rcases O.total z y with q | q
        · exact absurd q c
        · exact q
      · exact (List.pairwise_cons.mp h).1 z hz
theorem srt_sorted (O : Ord le) : ∀ l, (srt le l).Pairwise (fun a b => le a b = true)
  | [] => .nil
  | x :: l => ins_sorted O x _ (srt_sorted O l)
theorem sorted_uniq (O : Ord le) : ∀ {l m : List γ}, l.Perm m → l.Pairwise (fun a b => le a b = true) → m.Pairwise (fun a b => le a b = true) → l = m
  | [], m, h, _, _ => (List.Perm.eq_nil h.symm).symm
  | x :: l, [], h, _, _ => absurd h.length_eq (by simp)
  | x :: l, y :: m, h, hl, hm => by
    have e : x = y := by
      rcases List.mem_cons.mp (h.mem_iff.mp (List.mem_cons_self (a := x) (l := l))) with e | hx
      · exact e
      · rcases List.mem_cons.mp (h.mem_iff.mpr (List.mem_cons_self (a := y) (l := m))) with e | hy
        · exact e.symm
        · exact O.anti _ _ ((List.pairwise_cons.mp hl).1 y hy) ((List.pairwise_cons.mp hm).1 x hx)
    subst e
    rw [sorted_uniq O h.cons_inv (List.pairwise_cons.mp hl).2 (List.pairwise_cons.mp hm).2]
theorem srt_uniq (O : Ord le) {l m : List γ} (h : l.Perm m) (hl : l.Pairwise (fun a b => le a b = true)) : l = srt le m :=
  sorted_uniq O (h.trans (srt_perm m).symm) hl (srt_sorted O m)
end
/-- keys of a dict, in the order in which they came -/
def putD {γ : Type} [DecidableEq γ] (ks : List γ) (k : γ) : List γ := if k ∈ ks then ks else ks ++ [k]
end Dv
namespace Dv
/-- the program's refusals -/
inductive Er where
  | noWeb | noTie | noDyeing | noSetting | goesRound | noNote
deriving DecidableEq
abbrev Rs (α : Type) := Option (Except Er α)
def exB {α β : Type} (y : Except Er α) (k : α → Rs β) : Rs β := match y with
  | .ok x => k x
  | .error e => some (.error e)
@[simp] theorem exB_ok {α β : Type} (x : α) (k : α → Rs β) : exB (.ok x) k = k x := rfl
@[simp] theorem exB_error {α β : Type} (e : Er) (k : α → Rs β) : exB (.error e : Except Er α) k = some (.error e) := rfl
/-- an answer that is no refusal -/
def noX {α : Type} (m : Rs α) : Option α := m.bind fun y => match y with
  | .ok x => some x
  | .error _ => none
@[simp] theorem noX_ok {α : Type} (x : α) : noX (some (.ok x) : Rs α) = some x := rfl
/-- try .. except -/
def trX {α β : Type} (m : Rs α) (f : α → Option β) (k : Er → Option β) : Option β := m.bind fun y => match y with
  | .ok x => f x
  | .error e => k e
@[simp] theorem trX_ok {α β : Type} (x : α) (f : α → Option β) (k : Er → Option β) : trX (some (.ok x) : Rs α) f k = f x := rfl
@[simp] theorem trX_error {α β : Type} (e : Er) (f : α → Option β) (k : Er → Option β) : trX (some (.error e) : Rs α) f k = k e := rfl
def isE (e c : Er) : Bool := decide (e = c)
end Dv
namespace Dv
def srtI (xs : List Int) : Option (List Int) := if xs.length < 64 then some (srt leI xs) else none
/-- list(range(n)) -/
def lrng (n : Int) : Option (List Int) := if -4611686018427387904 ≤ n ∧ n ≤ 10000000 then some ((List.range n.toNat).map fun i => ((i : Nat) : Int)) else none
def putDZ (ks : List (Int × Int)) (t : Int × Int) : Option (List (Int × Int)) := if ks.length < 10000000 then some (putD ks t) else none
end Dv
namespace Dv
/-- a list of two of unlike kinds -/
structure Duo (α β : Type) where
  a : α
  b : β
end Dv
namespace Dv
instance {α β : Type} [DecidableEq α] [DecidableEq β] : DecidableEq (Duo α β) := fun x y => decidable_of_iff (x.a = y.a ∧ x.b = y.b) ⟨fun ⟨h1, h2⟩ => by cases x; cases y; cases h1; cases h2; rfl, fun h => by rw [h]; exact ⟨rfl, rfl⟩⟩
end Dv
namespace Dv
def insZ {α : Type} (xs : List α) (i : Int) (y : α) : Option (List α) := if xs.length < 10000000 ∧ 0 ≤ i ∧ i < 4611686018427387904 then some (xs.take i.toNat ++ [y] ++ xs.drop i.toNat) else none
/-- xs.index(x) -/
def idxZ (xs : List Int) (x : Int) : Option Int := if x ∈ xs then some (xs.idxOf x : Int) else none
def isL {α β : Type} : Option (α ⊕ β) → Bool
  | some (.inl _) => true
  | _ => false
def unL {α β : Type} : Option (α ⊕ β) → Option α
  | some (.inl x) => some x
  | _ => none
def unR {α β : Type} : Option (α ⊕ β) → Option β
  | some (.inr x) => some x
  | _ => none
end Dv
namespace Dv
/-- the greatest of a list, or d -/
def mxD : List Int → Int → Int
  | [], d => d
  | x :: xs, _ => xs.foldl (fun m y => if m < y then y else m) x
theorem mxD_go : ∀ (xs : List Int) (x : Int), (xs.foldl (fun m y => if m < y then y else m) x ∈ x :: xs) ∧ ∀ y ∈ x :: xs, y ≤ xs.foldl (fun m y => if m < y then y else m) x
  | [], x => ⟨by simp, by simp⟩
  | z :: xs, x => by
    rw [List.foldl_cons]
    by_cases c : x < z
    · rw [if_pos c]
      obtain ⟨h1, h2⟩ := mxD_go xs z
      have hx := h2 z List.mem_cons_self
      refine ⟨List.mem_cons_of_mem _ h1, fun y hy => ?_⟩
      rcases List.mem_cons.mp hy with rfl | hy
      · omega
      · exact h2 y hy
    · rw [if_neg c]
      obtain ⟨h1, h2⟩ := mxD_go xs x
      have hx := h2 x List.mem_cons_self
      refine ⟨?_, fun y hy => ?_⟩
      · rcases List.mem_cons.mp h1 with h | h
        · exact List.mem_cons.mpr (.inl h)
        · exact List.mem_cons_of_mem _ (List.mem_cons_of_mem _ h)
      · rcases List.mem_cons.mp hy with rfl | hy
        · exact hx
        · rcases List.mem_cons.mp hy with rfl | hy
          · omega
          · exact h2 y (List.mem_cons_of_mem _ hy)
theorem mxD_mem (x : Int) (xs : List Int) (d : Int) : mxD (x :: xs) d ∈ x :: xs := (mxD_go xs x).1
theorem mxD_le (x : Int) (xs : List Int) (d : Int) : ∀ y ∈ x :: xs, y ≤ mxD (x :: xs) d := (mxD_go xs x).2
end Dv

set_option Elab.async false
set_option linter.all false
set_option maxRecDepth 100000
set_option maxHeartbeats 4000000
/-! The layer between the readings of HandS and mirrors in plain Lean. -/
namespace Dw
open PySem L2 Dv

/-! ### what is known stays -/
/-- what may change -/
def Chg : HO → Prop
  | .lst _ => True
  | .dT _ => True
  | _ => False
structure Lat (F H F' H' : Hp) : Prop where
  f : Same F F'
  h : Same H H'
  fh : Same F' H'
  nw : ∀ a o, H a = some o → Chg o → F a = none → F' a = none
theorem Lat.nwl {F H F' H' : Hp} (l : Lat F H F' H') {a : Addr} {vs : List V} (e : H a = some (.lst vs)) (f : F a = none) : F' a = none := l.nw a _ e trivial f
theorem Lat.refl {F H : Hp} (s : Same F H) : Lat F H F H := ⟨.refl _, .refl _, s, fun _ _ _ _ h => h⟩
theorem Lat.trans {F H F1 H1 F2 H2 : Hp} (a : Lat F H F1 H1) (b : Lat F1 H1 F2 H2) : Lat F H F2 H2 :=
  ⟨a.f.trans b.f, a.h.trans b.h, b.fh, fun p o e c f => b.nw p o (a.h _ _ e) c (a.nw p o e c f)⟩
theorem Lat.s0 {F H F' H' : Hp} (a : Lat F H F' H') (s : Same F H) : Same F H' := s.trans a.h
/-- all of the heap held for known -/
theorem Lat.all {F H F' H' : Hp} (a : Lat F H F' H') : Lat H H H' H' := ⟨a.h, a.h, .refl _, fun _ _ e _ f => by rw [e] at f; cases f⟩
/-- the heap grew, nothing new is known -/
theorem Lat.grow {F H H' : Hp} (s : Same F H) (h : Same H H') : Lat F H F H' := ⟨.refl _, h, s.trans h, fun _ _ _ _ f => f⟩
theorem same_upd {H : Hp} {p : Addr} {o : HO} (h : H p = none) : Same H (upd H p o) := fun a u e => by
  rw [upd_ne (ne_of_none e h)]
  exact e
/-- what stands is held for known -/
theorem Lat.know {F H F1 H1 : Hp} {p : Addr} {o : HO} (l : Lat F H F1 H1) (hp : ∀ u, H p = some u → Chg u → F p = none → False) (h1 : F1 p = none) (e : H1 p = some o) : Lat F H (upd F1 p o) H1 := by
  refine ⟨l.f.trans (same_upd h1), l.h, fun a u q => ?_, fun a u q c f => ?_⟩
  · by_cases z : a = p
    · subst z
      rw [upd_same] at q
      rw [e]
      exact q
    · rw [upd_ne z] at q
      exact l.fh _ _ q
  · by_cases z : a = p
    · subst z
      exact (hp u q c f).elim
    · rw [upd_ne z]
      exact l.nw _ _ q c f
/-- what was made is held for known -/
theorem Lat.hold {F H F1 H1 : Hp} {p : Addr} {o : HO} (l : Lat F H F1 H1) (hp : H p = none) (h1 : F1 p = none) (e : H1 p = some o) : Lat F H (upd F1 p o) H1 :=
  l.know (fun u q _ _ => by rw [hp] at q; cases q) h1 e
/-- a new object, not held for known -/
theorem Lat.made {F H : Hp} {p : Addr} {o : HO} (s : Same F H) (h : H p = none) : Lat F H F (upd H p o) := Lat.grow s (same_upd h)
/-- a new object, known from now on -/
theorem Lat.new {F H : Hp} {p : Addr} {o : HO} (s : Same F H) (h : H p = none) : Lat F H (upd F p o) (upd H p o) :=
  (Lat.made s h).hold h (s.free h) upd_same
/-- a list that was made behind H changes -/
theorem Lat.put {F H F1 H1 : Hp} {p : Addr} {o : HO} (l : Lat F H F1 H1) (hp : H p = none) (h1 : F1 p = none) : Lat F H F1 (upd H1 p o) := by
  refine ⟨l.f, fun a u e => ?_, fun a u e => ?_, l.nw⟩
  · rw [upd_ne (ne_of_none e hp)]
    exact l.h _ _ e
  · rw [upd_ne (ne_of_none e h1)]
    exact l.fh _ _ e

/-! ### data in the heap -/
class Rep (α : Type) where
  rp : α → V → Hp → Prop
  mono : ∀ {x : α} {v : V} {F F' : Hp}, Same F F' → rp x v F → rp x v F'
open Rep (rp)
theorem up {α : Type} [Rep α] {x : α} {v : V} {F F' H H' : Hp} (h : rp x v F) (l : Lat F H F' H') : rp x v F' := Rep.mono l.f h
/-- what does not look at the heap -/
class Flat (α : Type) [Rep α] : Prop where
  any : ∀ {x : α} {v : V} {F F' : Hp}, rp x v F → rp x v F'
instance : Rep Int := ⟨fun x v _ => v = .int x, fun _ h => h⟩
instance : Rep Bool := ⟨fun x v _ => v = .bl x, fun _ h => h⟩
instance : Rep Str := ⟨fun x v _ => v = .str x, fun _ h => h⟩
instance : Rep Unit := ⟨fun _ v _ => v = .non, fun _ h => h⟩
instance : Flat Int := ⟨fun h => h⟩
instance : Flat Bool := ⟨fun h => h⟩
instance : Flat Str := ⟨fun h => h⟩
instance : Flat Unit := ⟨fun h => h⟩
def rpO {α : Type} [Rep α] : Option α → V → Hp → Prop
  | none, v, _ => v = .non
  | some x, v, F => rp x v F
instance {α : Type} [Rep α] : Rep (Option α) := ⟨rpO, fun {x} => by
  cases x with
  | none => exact fun _ h => h
  | some x => exact fun s h => Rep.mono (α := α) s h⟩
def rpL {α : Type} [Rep α] : List α → List V → Hp → Prop
  | [], [], _ => True
  | x :: xs, v :: vs, F => rp x v F ∧ rpL xs vs F
  | _, _, _ => False
theorem rpL.mono {α : Type} [Rep α] {F F' : Hp} (s : Same F F') : ∀ {xs : List α} {vs : List V}, rpL xs vs F → rpL xs vs F'
  | [], [], _ => trivial
  | _ :: _, _ :: _, h => ⟨Rep.mono s h.1, rpL.mono s h.2⟩
  | [], _ :: _, h => h
  | _ :: _, [], h => h
theorem rpL.any {α : Type} [Rep α] [Flat α] {F F' : Hp} : ∀ {xs : List α} {vs : List V}, rpL xs vs F → rpL xs vs F'
  | [], [], _ => trivial
  | _ :: _, _ :: _, h => ⟨Flat.any h.1, rpL.any h.2⟩
  | [], _ :: _, h => h
  | _ :: _, [], h => h
theorem rpL.length {α : Type} [Rep α] {F : Hp} : ∀ {xs : List α} {vs : List V}, rpL xs vs F → vs.length = xs.length
  | [], [], _ => rfl
  | _ :: _, _ :: _, h => by simp [rpL.length h.2]
  | [], _ :: _, h => h.elim
  | _ :: _, [], h => h.elim
theorem rpL.get {α : Type} [Rep α] {F : Hp} : ∀ {xs : List α} {vs : List V}, rpL xs vs F → ∀ {i : Nat} {x : α}, xs[i]? = some x → ∃ v, vs[i]? = some v ∧ rp x v F
  | [], [], _, _, _, e => by simp at e
  | a :: _, v :: _, h, 0, x, e => by
    have : a = x := by simpa using e
    subst this
    exact ⟨v, by simp, h.1⟩
  | _ :: _, _ :: _, h, i + 1, x, e => by
    obtain ⟨v, e', r⟩ := rpL.get h.2 (i := i) (x := x) (by simpa using e)
    exact ⟨v, by simpa using e', r⟩
  | [], _ :: _, h, _, _, _ => h.elim
  | _ :: _, [], h, _, _, _ => h.elim
theorem rpL.get' {α : Type} [Rep α] {F : Hp} : ∀ {xs : List α} {vs : List V}, rpL xs vs F → ∀ {i : Nat} {v : V}, vs[i]? = some v → ∃ x, xs[i]? = some x ∧ rp x v F
  | [], [], _, _, _, e => by simp at e
  | a :: _, b :: _, h, 0, v, e => by
    have : b = v := by simpa using e
    subst this
    exact ⟨a, by simp, h.1⟩
  | _ :: _, _ :: _, h, i + 1, x, e => by
    obtain ⟨v, e', r⟩ := rpL.get' h.2 (i := i) (v := x) (by simpa using e)
    exact ⟨v, by simpa using e', r⟩
  | [], _ :: _, h, _, _, _ => h.elim
  | _ :: _, [], h, _, _, _ => h.elim
theorem rpL.append {α : Type} [Rep α] {F : Hp} : ∀ {xs ys : List α} {vs ws : List V}, rpL xs vs F → rpL ys ws F → rpL (xs ++ ys) (vs ++ ws) F
  | [], _, [], _, _, h => h
  | _ :: _, _, _ :: _, _, h, k => ⟨h.1, rpL.append h.2 k⟩
  | [], _, _ :: _, _, h, _ => h.elim
  | _ :: _, _, [], _, h, _ => h.elim
theorem rpL.set {α : Type} [Rep α] {F : Hp} {y : α} {w : V} (hy : rp y w F) : ∀ {xs : List α} {vs : List V} (i : Nat), rpL xs vs F → rpL (xs.set i y) (vs.set i w) F
  | [], [], _, _ => trivial
  | _ :: _, _ :: _, 0, h => ⟨hy, h.2⟩
  | _ :: _, _ :: _, i + 1, h => ⟨h.1, rpL.set hy i h.2⟩
  | [], _ :: _, _, h => h.elim
  | _ :: _, [], _, h => h.elim
theorem rpL.drop {α : Type} [Rep α] {F : Hp} : ∀ {xs : List α} {vs : List V} (i : Nat), rpL xs vs F → rpL (xs.drop i) (vs.drop i) F
  | [], [], i, _ => by simp [rpL]
  | _ :: _, _ :: _, 0, h => h
  | _ :: _, _ :: _, i + 1, h => by simpa using rpL.drop i h.2
  | [], _ :: _, _, h => h.elim
  | _ :: _, [], _, h => h.elim
theorem rpL.take {α : Type} [Rep α] {F : Hp} : ∀ {xs : List α} {vs : List V} (i : Nat), rpL xs vs F → rpL (xs.take i) (vs.take i) F
  | [], [], i, _ => by simp [rpL]
  | _ :: _, _ :: _, 0, h => by simp [rpL]
  | _ :: _, _ :: _, i + 1, h => ⟨h.1, rpL.take i h.2⟩
  | [], _ :: _, _, h => h.elim
  | _ :: _, [], _, h => h.elim
theorem rpL.reverse {α : Type} [Rep α] {F : Hp} : ∀ {xs : List α} {vs : List V}, rpL xs vs F → rpL xs.reverse vs.reverse F
  | [], [], _ => trivial
  | x :: xs, v :: vs, h => by
    rw [List.reverse_cons, List.reverse_cons]
    exact rpL.append (rpL.reverse h.2) ⟨h.1, trivial⟩
  | [], _ :: _, h => h.elim
  | _ :: _, [], h => h.elim
theorem rpL_ints {F : Hp} : ∀ {xs : List Int} {vs : List V}, rpL xs vs F → vs = xs.map V.int
  | [], [], _ => rfl
  | _ :: _, _ :: _, h => by
    rw [List.map_cons, ← rpL_ints h.2]
    exact congrArg (· :: _) h.1
  | [], _ :: _, h => h.elim
  | _ :: _, [], h => h.elim
theorem rpL_ints' {F : Hp} : ∀ (xs : List Int), rpL xs (xs.map V.int) F
  | [] => trivial
  | _ :: xs => ⟨rfl, rpL_ints' xs⟩
instance {α : Type} [Rep α] : Rep (List α) := ⟨fun xs v F => ∃ a vs, v = .ref a ∧ F a = some (.lst vs) ∧ rpL xs vs F, fun s ⟨a, vs, e, h, r⟩ => ⟨a, vs, e, s _ _ h, rpL.mono s r⟩⟩
instance {α β : Type} [Rep α] [Rep β] : Rep (α × β) := ⟨fun x v F => ∃ a v1 v2, v = .ref a ∧ F a = some (.tup [v1, v2]) ∧ rp x.1 v1 F ∧ rp x.2 v2 F,
  fun s ⟨a, v1, v2, e, h, r1, r2⟩ => ⟨a, v1, v2, e, s _ _ h, Rep.mono s r1, Rep.mono s r2⟩⟩
/-- one of two kinds -/
def rpS {α β : Type} [Rep α] [Rep β] : α ⊕ β → V → Hp → Prop
  | .inl x, v, F => rp x v F
  | .inr x, v, F => rp x v F
instance {α β : Type} [Rep α] [Rep β] : Rep (α ⊕ β) := ⟨rpS, fun {x} => by
  cases x with
  | inl x => exact fun s h => Rep.mono (α := α) s h
  | inr x => exact fun s h => Rep.mono (α := β) s h⟩
/-- a list of two things of unlike kinds -/
instance {α β : Type} [Rep α] [Rep β] : Rep (Duo α β) := ⟨fun x v F => ∃ p v1 v2, v = .ref p ∧ F p = some (.lst [v1, v2]) ∧ rp x.a v1 F ∧ rp x.b v2 F,
  fun s ⟨a, v1, v2, e, h, r1, r2⟩ => ⟨a, v1, v2, e, s _ _ h, Rep.mono s r1, Rep.mono s r2⟩⟩
/-- the script, or a list in its place -/
structure Scr (K : PySem.W.Frag) where
  l : List Int
theorem same_rd {H H' : Hp} {a : Addr} {u : HO} (e : Same H H') (h : Rd H a u) : Rd H' a u := by
  rcases h with h | ⟨o, h⟩
  · exact Or.inl (e a _ h)
  · exact Or.inr ⟨o, e a _ h⟩
theorem same_l {K : PySem.W.Frag} {H H' : Hp} {a : Addr} {xs : List V} (e : Same H H') (h : SqL K H a xs) : SqL K H' a xs := by
  rcases h with h | h
  · exact Or.inl (same_rd e h)
  · exact Or.inr h
instance {K : PySem.W.Frag} : Rep (Scr K) := ⟨fun x v F => ∃ a, v = .ref a ∧ SqL K F a (x.l.map V.int), fun s ⟨a, e, h⟩ => ⟨a, e, same_l s h⟩⟩
theorem sqL {K : PySem.W.Frag} {H : Hp} {a : Addr} {xs : List V} (h : H a = some (.lst xs)) : SqL K H a xs := Or.inl (Or.inl h)
theorem sqT {K : PySem.W.Frag} {H : Hp} {a : Addr} {xs : List V} (h : H a = some (.tup xs)) : SqT K H a xs := Or.inl (Or.inl h)

/-! ### arguments -/
class RepA (α : Type) where
  ra : α → List V → Hp → Prop
  mono : ∀ {x : α} {v : List V} {F F' : Hp}, Same F F' → ra x v F → ra x v F'
open RepA (ra)
instance : RepA Unit := ⟨fun _ vs _ => vs = [], fun _ h => h⟩
instance {α β : Type} [Rep α] [RepA β] : RepA (α × β) := ⟨fun x vs F => ∃ v ws, vs = v :: ws ∧ rp x.1 v F ∧ ra x.2 ws F,
  fun s ⟨v, ws, e, h, k⟩ => ⟨v, ws, e, Rep.mono s h, RepA.mono s k⟩⟩

/-! ### what an expression is worth -/
section
variable {α β γ : Type} [Rep α] [Rep β] [Rep γ]
def EV (t : TE) (σ : L2.St) (F H : Hp) (m : Option α) : Prop :=
  ∀ F1 H1, Lat F H F1 H1 → ∀ x, m = some x → ∀ Q : VK, (∀ v F2 H2, Lat F1 H1 F2 H2 → rp x v F2 → Q v H2) → t σ H1 Q
/-- a new list -/
def EVN (t : TE) (σ : L2.St) (F H : Hp) (m : Option (List α)) : Prop :=
  ∀ F1 H1, Lat F H F1 H1 → ∀ xs, m = some xs → ∀ Q : VK, (∀ p vs F2 H2, Lat F1 H1 F2 H2 → H1 p = none → F2 p = none → H2 p = some (.lst vs) → rpL xs vs F2 → Q (.ref p) H2) → t σ H1 Q
def EVT (t : TT) (σ : L2.St) (F H : Hp) (m : Option Bool) : Prop :=
  ∀ F1 H1, Lat F H F1 H1 → ∀ x, m = some x → ∀ Q : Bool → Hp → Prop, (∀ F2 H2, Lat F1 H1 F2 H2 → Q x H2) → t σ H1 Q
def EVA {δ : Type} [RepA δ] (t : TA) (σ : L2.St) (F H : Hp) (m : Option δ) : Prop :=
  ∀ F1 H1, Lat F H F1 H1 → ∀ x, m = some x → ∀ Q : List V → Hp → Prop, (∀ vs F2 H2, Lat F1 H1 F2 H2 → ra x vs F2 → Q vs H2) → t σ H1 Q
/-- a display's items, n of them -/
def EVL (t : TA) (σ : L2.St) (F H : Hp) (n : Nat) (m : Option (List α)) : Prop :=
  (∀ xs, m = some xs → xs.length = n) ∧ ∀ F1 H1, Lat F H F1 H1 → ∀ xs, m = some xs → ∀ Q : List V → Hp → Prop, (∀ vs F2 H2, Lat F1 H1 F2 H2 → rpL xs vs F2 → Q vs H2) → t σ H1 Q
variable {t : TE} {σ : L2.St} {F H : Hp}
theorem EV.at {m : Option α} (h : EV t σ F H m) {F1 H1 : Hp} (l : Lat F H F1 H1) : EV t σ F1 H1 m := fun F2 H2 l2 => h F2 H2 (l.trans l2)
theorem EVN.at {m : Option (List α)} (h : EVN t σ F H m) {F1 H1 : Hp} (l : Lat F H F1 H1) : EVN t σ F1 H1 m := fun F2 H2 l2 => h F2 H2 (l.trans l2)
theorem EVT.at {t : TT} {m : Option Bool} (h : EVT t σ F H m) {F1 H1 : Hp} (l : Lat F H F1 H1) : EVT t σ F1 H1 m := fun F2 H2 l2 => h F2 H2 (l.trans l2)
theorem EVA.at {δ : Type} [RepA δ] {t : TA} {m : Option δ} (h : EVA t σ F H m) {F1 H1 : Hp} (l : Lat F H F1 H1) : EVA t σ F1 H1 m := fun F2 H2 l2 => h F2 H2 (l.trans l2)
theorem EVN.ev {m : Option (List α)} (h : EVN t σ F H m) : EV t σ F H m := fun F1 H1 l x e Q q =>
  h F1 H1 l x e Q fun p vs F2 H2 l2 h1 h2 h3 r => q (.ref p) (upd F2 p (.lst vs)) H2 (l2.hold h1 h2 h3) ⟨p, vs, rfl, upd_same, rpL.mono (same_upd h2) r⟩
/-- flat answers may look at all that stands -/
theorem EV.flat [Flat α] {m : Option α} (h : EV t σ H H m) (s : Same F H) : EV t σ F H m := fun F1 H1 l x e Q q =>
  h H1 H1 l.all x e Q fun v F2 H2 l2 r => q v F1 H2 (.grow l.fh l2.h) (Flat.any r)
theorem EVT.flat {t : TT} {m : Option Bool} (h : EVT t σ H H m) (s : Same F H) : EVT t σ F H m := fun F1 H1 l x e Q q =>
  h H1 H1 l.all x e Q fun F2 H2 l2 => q F1 H2 (.grow l.fh l2.h)
theorem EVN.flat [Flat α] {m : Option (List α)} (h : EVN t σ H H m) (s : Same F H) : EVN t σ F H m := fun F1 H1 l x e Q q =>
  h H1 H1 l.all x e Q fun p vs F2 H2 l2 h1 _ h3 r => q p vs F1 H2 (.grow l.fh l2.h) h1 (l.fh.free h1) h3 (rpL.any r)

theorem ev_var {i : Nat} {x : α} {v : V} (h : σ[i]? = some (some v)) (r : rp x v F) : EV (tVar i) σ F H (some x) := fun F1 H1 l y e Q q => by
  cases e
  exact ⟨v, h, q v F1 H1 (.refl l.fh) (up r l)⟩
theorem ev_c {x : α} {v : V} (r : ∀ F, rp x v F) : EV (tC v) σ F H (some x) := fun F1 H1 l y e Q q => by
  cases e
  exact q v F1 H1 (.refl l.fh) (r _)
theorem ev_int {n : Int} : EV (tC (.int n)) σ F H (some n) := ev_c fun _ => rfl
theorem ev_bl {b : Bool} : EV (tC (.bl b)) σ F H (some b) := ev_c fun _ => rfl
theorem ev_str {z : Str} : EV (tC (.str z)) σ F H (some z) := ev_c fun _ => rfl
theorem ev_non : EV (tC .non) σ F H (some (none : Option α)) := ev_c fun _ => rfl
theorem ev_some {m : Option α} (h : EV t σ F H m) : EV t σ F H (m.bind fun x => some (some x)) := fun F1 H1 l y e Q q => by
  obtain ⟨x, ex, ey⟩ := Option.bind_eq_some_iff.mp e
  cases ey
  exact h F1 H1 l x ex Q q
theorem ev_inl {m : Option α} (h : EV t σ F H m) : EV t σ F H (m.bind fun x => some (Sum.inl x : α ⊕ β)) := fun F1 H1 l y e Q q => by
  obtain ⟨x, ex, ey⟩ := Option.bind_eq_some_iff.mp e
  cases ey
  exact h F1 H1 l x ex Q q
theorem ev_inr {m : Option β} (h : EV t σ F H m) : EV t σ F H (m.bind fun x => some (Sum.inr x : α ⊕ β)) := fun F1 H1 l y e Q q => by
  obtain ⟨x, ex, ey⟩ := Option.bind_eq_some_iff.mp e
  cases ey
  exact h F1 H1 l x ex Q q
/-- an answer that may be None is none here -/
def unO (x : Option α) : Option α := x
theorem ev_un {m : Option (Option α)} (h : EV t σ F H m) : EV t σ F H (m.bind fun x => unO x) := fun F1 H1 l y e Q q => by
  obtain ⟨x, ex, ey⟩ := Option.bind_eq_some_iff.mp e
  refine h F1 H1 l x ex Q fun v F2 H2 l2 r => q v F2 H2 l2 ?_
  have ey' : x = some y := ey
  subst ey'
  exact r
theorem ev_scr {K : PySem.W.Frag} {m : Option (List Int)} (h : EV t σ F H m) : EV t σ F H (m.bind fun x => some (Scr.mk x : Scr K)) := fun F1 H1 l y e Q q => by
  obtain ⟨x, ex, ey⟩ := Option.bind_eq_some_iff.mp e
  cases ey
  refine h F1 H1 l x ex Q fun v F2 H2 l2 r => ?_
  obtain ⟨a, vs, e1, e2, r2⟩ := r
  exact q v F2 H2 l2 ⟨a, e1, sqL (by rw [rpL_ints r2] at e2; exact e2)⟩

/-! ### operators -/
def RV (r : R2) (x : α) (y : β) (m : Option γ) : Prop :=
  ∀ F H v w, Same F H → rp x v F → rp y w F → ∀ z, m = some z → ∀ Q : VK, (∀ u F2 H2, Lat F H F2 H2 → rp z u F2 → Q u H2) → r v w H Q
theorem ev_op {ta tb : TE} {r : R2} {ma : Option α} {mb : Option β} {k : α → β → Option γ} (ha : EV ta σ F H ma) (hb : EV tb σ F H mb) (hr : ∀ x y, RV r x y (k x y)) :
    EV (tOp r ta tb) σ F H (ma.bind fun x => mb.bind fun y => k x y) := fun F1 H1 l z e Q q => by
  obtain ⟨x, ex, e⟩ := Option.bind_eq_some_iff.mp e
  obtain ⟨y, ey, e⟩ := Option.bind_eq_some_iff.mp e
  refine ha F1 H1 l x ex _ fun v F2 H2 l2 rv => hb F2 H2 (l.trans l2) y ey _ fun w F3 H3 l3 rw' => ?_
  exact hr x y F3 H3 v w l3.fh (up rv l3) rw' z e Q fun u F4 H4 l4 ru => q u F4 H4 ((l2.trans l3).trans l4) ru
/-- the same, the answer a new list -/
def RVN (r : R2) (x : α) (y : β) (m : Option (List γ)) : Prop :=
  ∀ F H v w, Same F H → rp x v F → rp y w F → ∀ zs, m = some zs → ∀ Q : VK, (∀ p vs F2 H2, Lat F H F2 H2 → H p = none → F2 p = none → H2 p = some (.lst vs) → rpL zs vs F2 → Q (.ref p) H2) → r v w H Q
theorem evn_op {ta tb : TE} {r : R2} {ma : Option α} {mb : Option β} {k : α → β → Option (List γ)} (ha : EV ta σ F H ma) (hb : EV tb σ F H mb) (hr : ∀ x y, RVN r x y (k x y)) :
    EVN (tOp r ta tb) σ F H (ma.bind fun x => mb.bind fun y => k x y) := fun F1 H1 l z e Q q => by
  obtain ⟨x, ex, e⟩ := Option.bind_eq_some_iff.mp e
  obtain ⟨y, ey, e⟩ := Option.bind_eq_some_iff.mp e
  refine ha F1 H1 l x ex _ fun v F2 H2 l2 rv => hb F2 H2 (l.trans l2) y ey _ fun w F3 H3 l3 rw' => ?_
  refine hr x y F3 H3 v w l3.fh (up rv l3) rw' z e Q fun p vs F4 H4 l4 h1 h2 h3 r => q p vs F4 H4 ((l2.trans l3).trans l4) ?_ h2 h3 r
  exact (l2.trans l3).h.free h1
theorem rv_I0 {g : Int → Int → V} {f : Int → Int → γ} (hg : ∀ i j F, rp (f i j) (g i j) F) (x y : Int) : RV (rI0 g) x y (some (f x y)) := fun F H v w s rv rw' z e Q q => by
  cases e
  exact ⟨x, y, rv, rw', q _ F H (.refl s) (hg _ _ _)⟩
theorem rv_add (x y : Int) : RV (rI0 fun i j => .int (i + j)) x y (some (x + y)) := rv_I0 (fun _ _ _ => rfl) x y
theorem rv_sub (x y : Int) : RV (rI0 fun i j => .int (i - j)) x y (some (x - y)) := rv_I0 (fun _ _ _ => rfl) x y
theorem rv_I {C : Int → Int → Prop} {g : Int → Int → Int} (x y : Int) {m : Option Int} (h : ∀ z, m = some z → C x y ∧ z = g x y) : RV (rI C fun i j => .int (g i j)) x y m := fun F H v w s rv rw' z e Q q => by
  obtain ⟨h1, rfl⟩ := h z e
  exact ⟨x, y, rv, rw', h1, q _ F H (.refl s) rfl⟩
theorem rv_mul (x y : Int) : RV (rI CMul fun i j => .int (i * j)) x y (mulZ x y) := rv_I x y fun z e => by
  unfold mulZ at e
  split at e
  · cases e
    exact ⟨by assumption, rfl⟩
  · cases e
theorem rv_div (x y : Int) : RV (rI CDiv fun i j => .int (i / j)) x y (divZ x y) := rv_I x y fun z e => by
  unfold divZ at e
  split at e
  · cases e
    exact ⟨by assumption, rfl⟩
  · cases e
theorem rv_mod (x y : Int) : RV (rI (fun _ j => 0 < j) fun i j => .int (i % j)) x y (modZ x y) := rv_I x y fun z e => by
  unfold modZ at e
  split at e
  · cases e
    exact ⟨by assumption, rfl⟩
  · cases e
/-- comparisons of ints by pe_cmpR, pt_cmpR -/
theorem rv_cmp {g : Int → Int → Bool} (x y : Int) : RV (rI0 fun i j => .bl (g i j)) x y (some (g x y)) := rv_I0 (fun _ _ _ => rfl) x y
theorem rv_eqI (x y : Int) : RV rEq x y (some (decide (x = y))) := fun F H v w s rv rw' z e Q q => by
  cases e
  cases rv
  cases rw'
  exact ⟨rfl, q _ F H (.refl s) (show V.bl _ = V.bl _ by congr 1; simp)⟩
theorem rv_neI (x y : Int) : RV rNe x y (some (!decide (x = y))) := fun F H v w s rv rw' z e Q q => by
  cases e
  cases rv
  cases rw'
  exact ⟨rfl, q _ F H (.refl s) (show V.bl _ = V.bl _ by congr 1; simp)⟩
theorem rv_eqB (x y : Bool) : RV rEq x y (some (x == y)) := fun F H v w s rv rw' z e Q q => by
  cases e
  cases rv
  cases rw'
  exact ⟨rfl, q _ F H (.refl s) (show V.bl _ = V.bl _ by congr 1; exact dec_bl)⟩
theorem rv_neB (x y : Bool) : RV rNe x y (some (!(x == y))) := fun F H v w s rv rw' z e Q q => by
  cases e
  cases rv
  cases rw'
  exact ⟨rfl, q _ F H (.refl s) (show V.bl _ = V.bl _ by congr 2; exact dec_bl)⟩
theorem rv_eqS (x y : Str) : RV rEq x y (some (decide (x = y))) := fun F H v w s rv rw' z e Q q => by
  cases e
  cases rv
  cases rw'
  exact ⟨rfl, q _ F H (.refl s) (show V.bl _ = V.bl _ by congr 1; simp)⟩
theorem rv_neS (x y : Str) : RV rNe x y (some (!decide (x = y))) := fun F H v w s rv rw' z e Q q => by
  cases e
  cases rv
  cases rw'
  exact ⟨rfl, q _ F H (.refl s) (show V.bl _ = V.bl _ by congr 1; simp)⟩
theorem ixZ_eq (n : Nat) (i : Int) : ixZ n i = ixN n i := rfl
theorem rv_ixL {K : PySem.W.Frag} (xs : List α) (i : Int) : RV (rIxL K) xs i (atZ xs i) := fun F H v w s rv rw' z e Q q => by
  obtain ⟨a, vs, e1, e2, r⟩ := rv
  unfold atZ at e
  obtain ⟨j, ej, e3⟩ := Option.bind_eq_some_iff.mp e
  obtain ⟨u, eu, ru⟩ := r.get e3
  refine ⟨a, vs, i, u, e1, rw', sqL (s _ _ e2), ?_, q u F H (.refl s) ru⟩
  unfold atI
  rw [r.length, ← ixZ_eq, ej]
  exact eu
theorem rv_ixS {K : PySem.W.Frag} (xs : Scr K) (i : Int) : RV (rIxL K) xs i (atZ xs.l i) := fun F H v w s rv rw' z e Q q => by
  obtain ⟨a, e1, e2⟩ := rv
  unfold atZ at e
  obtain ⟨j, ej, e3⟩ := Option.bind_eq_some_iff.mp e
  obtain ⟨u, eu, ru⟩ := (rpL_ints' (F := F) xs.l).get e3
  refine ⟨a, _, i, u, e1, rw', same_l s e2, ?_, q u F H (.refl s) ru⟩
  unfold atI
  rw [List.length_map, ← ixZ_eq, ej]
  exact eu
theorem ev_fst {K : PySem.W.Frag} {m : Option (α × β)} (h : EV t σ F H m) : EV (tOp (rIxT K) t (tC (.int 0))) σ F H (m.bind fun x => some x.1) := fun F1 H1 l z e Q q => by
  obtain ⟨x, ex, e⟩ := Option.bind_eq_some_iff.mp e
  cases e
  refine h F1 H1 l x ex _ fun v F2 H2 l2 ⟨a, v1, v2, e1, e2, r1, r2⟩ => ?_
  exact ⟨a, _, 0, v1, e1, rfl, sqT (l2.fh _ _ e2), rfl, q v1 F2 H2 l2 r1⟩
theorem ev_snd {K : PySem.W.Frag} {m : Option (α × β)} (h : EV t σ F H m) : EV (tOp (rIxT K) t (tC (.int 1))) σ F H (m.bind fun x => some x.2) := fun F1 H1 l z e Q q => by
  obtain ⟨x, ex, e⟩ := Option.bind_eq_some_iff.mp e
  cases e
  refine h F1 H1 l x ex _ fun v F2 H2 l2 ⟨a, v1, v2, e1, e2, r1, r2⟩ => ?_
  exact ⟨a, _, 1, v2, e1, rfl, sqT (l2.fh _ _ e2), rfl, q v2 F2 H2 l2 r2⟩
theorem ev_duoA {K : PySem.W.Frag} {m : Option (Duo α β)} (h : EV t σ F H m) : EV (tOp (rIxL K) t (tC (.int 0))) σ F H (m.bind fun x => some x.a) := fun F1 H1 l z e Q q => by
  obtain ⟨x, ex, e⟩ := Option.bind_eq_some_iff.mp e
  cases e
  refine h F1 H1 l x ex _ fun v F2 H2 l2 ⟨a, v1, v2, e1, e2, r1, r2⟩ => ?_
  exact ⟨a, _, 0, v1, e1, rfl, sqL (l2.fh _ _ e2), rfl, q v1 F2 H2 l2 r1⟩
theorem ev_duoB {K : PySem.W.Frag} {m : Option (Duo α β)} (h : EV t σ F H m) : EV (tOp (rIxL K) t (tC (.int 1))) σ F H (m.bind fun x => some x.b) := fun F1 H1 l z e Q q => by
  obtain ⟨x, ex, e⟩ := Option.bind_eq_some_iff.mp e
  cases e
  refine h F1 H1 l x ex _ fun v F2 H2 l2 ⟨a, v1, v2, e1, e2, r1, r2⟩ => ?_
  exact ⟨a, _, 1, v2, e1, rfl, sqL (l2.fh _ _ e2), rfl, q v2 F2 H2 l2 r2⟩
theorem ev_neg {m : Option Int} (h : EV t σ F H m) : EV (tUn (rU fun i => .int (-i)) t) σ F H (m.bind fun x => some (-x)) := fun F1 H1 l z e Q q => by
  obtain ⟨x, ex, e⟩ := Option.bind_eq_some_iff.mp e
  cases e
  exact h F1 H1 l x ex _ fun v F2 H2 l2 r => ⟨x, r, q _ F2 H2 l2 rfl⟩

/-! ### arguments, displays -/
theorem eva_nil : EVA tNil σ F H (some ()) := fun F1 H1 l z e Q q => q [] F1 H1 (.refl l.fh) rfl
theorem eva_cons {δ : Type} [RepA δ] {tr : TA} {m : Option α} {mr : Option δ} (h : EV t σ F H m) (hr : EVA tr σ F H mr) : EVA (tCons t tr) σ F H (m.bind fun x => mr.bind fun y => some (x, y)) := fun F1 H1 l z e Q q => by
  obtain ⟨x, ex, e⟩ := Option.bind_eq_some_iff.mp e
  obtain ⟨y, ey, e⟩ := Option.bind_eq_some_iff.mp e
  cases e
  exact h F1 H1 l x ex _ fun v F2 H2 l2 rv => hr F2 H2 (l.trans l2) y ey _ fun ws F3 H3 l3 rw' => q (v :: ws) F3 H3 (l2.trans l3) ⟨v, ws, rfl, (up rv l3), rw'⟩
theorem evl_nil : EVL tNil σ F H 0 (some ([] : List α)) := ⟨fun xs e => by cases e; rfl, fun F1 H1 l z e Q q => by
  cases e
  exact q [] F1 H1 (.refl l.fh) trivial⟩
theorem evl_cons {tr : TA} {n : Nat} {m : Option α} {mr : Option (List α)} (h : EV t σ F H m) (hr : EVL tr σ F H n mr) : EVL (tCons t tr) σ F H (n + 1) (m.bind fun x => mr.bind fun y => some (x :: y)) := ⟨fun xs e => by
  obtain ⟨x, ex, e⟩ := Option.bind_eq_some_iff.mp e
  obtain ⟨y, ey, e⟩ := Option.bind_eq_some_iff.mp e
  cases e
  rw [List.length_cons, hr.1 y ey], fun F1 H1 l z e Q q => by
  obtain ⟨x, ex, e⟩ := Option.bind_eq_some_iff.mp e
  obtain ⟨y, ey, e⟩ := Option.bind_eq_some_iff.mp e
  cases e
  exact h F1 H1 l x ex _ fun v F2 H2 l2 rv => hr.2 F2 H2 (l.trans l2) y ey _ fun ws F3 H3 l3 rw' => q (v :: ws) F3 H3 (l2.trans l3) ⟨(up rv l3), rw'⟩⟩
theorem sz_ok {n : Nat} (h : n ≤ 10000000) : n ≤ sizeLine := Nat.le_trans h (by decide)
theorem sz_lt {n : Nat} (h : n < 10000000) : n < sizeLine := Nat.lt_of_lt_of_le h (by decide)
/-- [a, b, ..] -/
theorem evn_lst {tr : TA} {n : Nat} {mr : Option (List α)} (hr : EVL tr σ F H n mr) (hs : n ≤ 10000000 := by decide) : EVN (tLst tr) σ F H mr := fun F1 H1 l xs e Q q =>
  hr.2 F1 H1 l xs e _ fun vs F2 H2 l2 r => ⟨sz_ok (by rw [r.length, hr.1 xs e]; exact hs), fun p hp => q p vs F2 (upd H2 p (.lst vs)) (l2.trans (.made l2.fh hp)) (l2.h.free hp) (l2.fh.free hp) upd_same r⟩
theorem evn_nil : EVN (tLst tNil) σ F H (some ([] : List α)) := evn_lst evl_nil
theorem ev_tup {ta tb : TE} {ma : Option α} {mb : Option β} (ha : EV ta σ F H ma) (hb : EV tb σ F H mb) : EV (tTup (tCons ta (tCons tb tNil))) σ F H (ma.bind fun x => mb.bind fun y => some (x, y)) := fun F1 H1 l z e Q q => by
  obtain ⟨x, ex, e⟩ := Option.bind_eq_some_iff.mp e
  obtain ⟨y, ey, e⟩ := Option.bind_eq_some_iff.mp e
  cases e
  refine ha F1 H1 l x ex _ fun v F2 H2 l2 rv => hb F2 H2 (l.trans l2) y ey _ fun w F3 H3 l3 rw' => ⟨by show 2 ≤ sizeLine; decide, fun p hp => ?_⟩
  refine q (.ref p) (upd F3 p (.tup [v, w])) (upd H3 p (.tup [v, w])) ((l2.trans l3).trans (.new l3.fh hp)) ⟨p, v, w, rfl, upd_same, ?_, ?_⟩
  · exact Rep.mono (same_upd (l3.fh.free hp)) (up rv l3)
  · exact Rep.mono (same_upd (l3.fh.free hp)) rw'
theorem ev_duo {ta tb : TE} {ma : Option α} {mb : Option β} (ha : EV ta σ F H ma) (hb : EV tb σ F H mb) : EV (tLst (tCons ta (tCons tb tNil))) σ F H (ma.bind fun x => mb.bind fun y => some (Duo.mk x y)) := fun F1 H1 l z e Q q => by
  obtain ⟨x, ex, e⟩ := Option.bind_eq_some_iff.mp e
  obtain ⟨y, ey, e⟩ := Option.bind_eq_some_iff.mp e
  cases e
  refine ha F1 H1 l x ex _ fun v F2 H2 l2 rv => hb F2 H2 (l.trans l2) y ey _ fun w F3 H3 l3 rw' => ⟨by show 2 ≤ sizeLine; decide, fun p hp => ?_⟩
  refine q (.ref p) (upd F3 p (.lst [v, w])) (upd H3 p (.lst [v, w])) ((l2.trans l3).trans (.new l3.fh hp)) ⟨p, v, w, rfl, upd_same, ?_, ?_⟩
  · exact Rep.mono (same_upd (l3.fh.free hp)) (up rv l3)
  · exact Rep.mono (same_upd (l3.fh.free hp)) rw'

/-! ### tests -/
theorem evt_of {m : Option Bool} (h : EV t σ F H m) : EVT (tTest t) σ F H m := fun F1 H1 l x e Q q => h F1 H1 l x e _ fun v F2 H2 l2 r => ⟨x, r, q F2 H2 l2⟩
theorem evt_b {m : Option Bool} (h : EV t σ F H m) : EVT (tB t) σ F H m := fun F1 H1 l x e Q q => h F1 H1 l x e _ fun v F2 H2 l2 r => ⟨x, r, q F2 H2 l2⟩
theorem evt_not {c : TT} {m : Option Bool} (h : EVT c σ F H m) : EVT (tNot c) σ F H (m.bind fun b => some (!b)) := fun F1 H1 l x e Q q => by
  obtain ⟨b, eb, e⟩ := Option.bind_eq_some_iff.mp e
  cases e
  exact h F1 H1 l b eb _ fun F2 H2 l2 => q F2 H2 l2
theorem evt_and {c d : TT} {m n : Option Bool} (h : EVT c σ F H m) (k : EVT d σ F H n) : EVT (tAnd c d) σ F H (m.bind fun b => if b then n else some false) := fun F1 H1 l x e Q q => by
  obtain ⟨b, eb, e⟩ := Option.bind_eq_some_iff.mp e
  refine h F1 H1 l b eb _ fun F2 H2 l2 => ?_
  cases b with
  | true => exact iteT (k F2 H2 (l.trans l2) x e _ fun F3 H3 l3 => q F3 H3 (l2.trans l3))
  | false =>
    have e' : false = x := Option.some.inj e
    subst e'
    exact iteF (q F2 H2 l2)
theorem evt_or {c d : TT} {m n : Option Bool} (h : EVT c σ F H m) (k : EVT d σ F H n) : EVT (tOr c d) σ F H (m.bind fun b => if b then some true else n) := fun F1 H1 l x e Q q => by
  obtain ⟨b, eb, e⟩ := Option.bind_eq_some_iff.mp e
  refine h F1 H1 l b eb _ fun F2 H2 l2 => ?_
  cases b with
  | false => exact iteF (k F2 H2 (l.trans l2) x e _ fun F3 H3 l3 => q F3 H3 (l2.trans l3))
  | true =>
    have e' : true = x := Option.some.inj e
    subst e'
    exact iteT (q F2 H2 l2)
theorem ev_andV {ta tb : TE} {m n : Option Bool} (h : EV ta σ F H m) (k : EV tb σ F H n) : EV (tAndV ta tb) σ F H (m.bind fun b => if b then n else some false) := fun F1 H1 l x e Q q => by
  obtain ⟨b, eb, e⟩ := Option.bind_eq_some_iff.mp e
  refine h F1 H1 l b eb _ fun v F2 H2 l2 r => ⟨b, r, ?_⟩
  cases b with
  | true => exact iteT (k F2 H2 (l.trans l2) x e _ fun w F3 H3 l3 r3 => q w F3 H3 (l2.trans l3) r3)
  | false =>
    have e' : false = x := Option.some.inj e
    subst e'
    exact iteF (q _ F2 H2 l2 rfl)
theorem ev_orV {ta tb : TE} {m n : Option Bool} (h : EV ta σ F H m) (k : EV tb σ F H n) : EV (tOrV ta tb) σ F H (m.bind fun b => if b then some true else n) := fun F1 H1 l x e Q q => by
  obtain ⟨b, eb, e⟩ := Option.bind_eq_some_iff.mp e
  refine h F1 H1 l b eb _ fun v F2 H2 l2 r => ⟨b, r, ?_⟩
  cases b with
  | false => exact iteF (k F2 H2 (l.trans l2) x e _ fun w F3 H3 l3 r3 => q w F3 H3 (l2.trans l3) r3)
  | true =>
    have e' : true = x := Option.some.inj e
    subst e'
    exact iteT (q _ F2 H2 l2 rfl)
theorem ev_notV {m : Option Bool} (h : EV t σ F H m) : EV (tNotV t) σ F H (m.bind fun b => some (!b)) := fun F1 H1 l x e Q q => by
  obtain ⟨b, eb, e⟩ := Option.bind_eq_some_iff.mp e
  cases e
  exact h F1 H1 l b eb _ fun v F2 H2 l2 r => ⟨b, r, q _ F2 H2 l2 rfl⟩
theorem ev_isN {m : Option (Option α)} (nn : ∀ (x : α) v F, rp x v F → v ≠ .non) (h : EV t σ F H m) : EV (tIsN t) σ F H (m.bind fun x => some x.isNone) := fun F1 H1 l x e Q q => by
  obtain ⟨b, eb, e⟩ := Option.bind_eq_some_iff.mp e
  cases e
  refine h F1 H1 l b eb _ fun v F2 H2 l2 r => q _ F2 H2 l2 ?_
  show V.bl (decide (v = .non)) = V.bl b.isNone
  cases b with
  | none =>
    have : v = .non := r
    simp [this]
  | some x => simp [nn x v F2 r]
theorem ev_notN {m : Option (Option α)} (nn : ∀ (x : α) v F, rp x v F → v ≠ .non) (h : EV t σ F H m) : EV (tNotN t) σ F H (m.bind fun x => some (!x.isNone)) := fun F1 H1 l x e Q q => by
  obtain ⟨b, eb, e⟩ := Option.bind_eq_some_iff.mp e
  cases e
  refine h F1 H1 l b eb _ fun v F2 H2 l2 r => q _ F2 H2 l2 ?_
  show V.bl (!decide (v = .non)) = V.bl (!b.isNone)
  cases b with
  | none =>
    have : v = .non := r
    simp [this]
  | some x => simp [nn x v F2 r]
theorem nn_list (x : List α) (v : V) (F : Hp) (h : rp x v F) : v ≠ .non := by
  obtain ⟨a, vs, rfl, _⟩ := h
  intro e
  cases e
theorem nn_pair (x : α × β) (v : V) (F : Hp) (h : rp x v F) : v ≠ .non := by
  obtain ⟨a, v1, v2, rfl, _⟩ := h
  intro e
  cases e
theorem ev_if {c : TT} {ta tb : TE} {m : Option Bool} {ma mb : Option α} (hc : EVT c σ F H m) (ha : EV ta σ F H ma) (hb : EV tb σ F H mb) : EV (tIf c ta tb) σ F H (m.bind fun b => if b then ma else mb) := fun F1 H1 l x e Q q => by
  obtain ⟨b, eb, e⟩ := Option.bind_eq_some_iff.mp e
  refine hc F1 H1 l b eb _ fun F2 H2 l2 => ?_
  cases b with
  | true => exact iteT (ha F2 H2 (l.trans l2) x e _ fun w F3 H3 l3 r3 => q w F3 H3 (l2.trans l3) r3)
  | false => exact iteF (hb F2 H2 (l.trans l2) x e _ fun w F3 H3 l3 r3 => q w F3 H3 (l2.trans l3) r3)
/-- a op b op c -/
theorem ev_chain {δ : Type} [Rep δ] {ta tb tc : TE} {r r' : R2} {ma : Option α} {mb : Option β} {mc : Option δ} {k : α → β → Option Bool} {k' : β → δ → Option Bool} (ha : EV ta σ F H ma) (hb : EV tb σ F H mb) (hc : EV tc σ F H mc)
    (hr : ∀ x y, RV r x y (k x y)) (hr' : ∀ x y, RV r' x y (k' x y)) : EV (tChain r r' ta tb tc) σ F H (ma.bind fun x => mb.bind fun y => (k x y).bind fun b => if b then mc.bind fun z => k' y z else some false) := fun F1 H1 l z e Q q => by
  obtain ⟨x, ex, e⟩ := Option.bind_eq_some_iff.mp e
  obtain ⟨y, ey, e⟩ := Option.bind_eq_some_iff.mp e
  obtain ⟨b, eb, e⟩ := Option.bind_eq_some_iff.mp e
  refine ha F1 H1 l x ex _ fun v F2 H2 l2 rv => hb F2 H2 (l.trans l2) y ey _ fun w F3 H3 l3 rw' => ?_
  refine hr x y F3 H3 v w l3.fh (up rv l3) rw' b eb _ fun u F4 H4 l4 ru => ⟨b, ru, ?_⟩
  cases b with
  | true =>
    refine iteT ?_
    obtain ⟨z1, ez1, e⟩ := Option.bind_eq_some_iff.mp e
    refine hc F4 H4 (((l.trans l2).trans l3).trans l4) z1 ez1 _ fun w2 F5 H5 l5 r5 => ?_
    exact hr' y z1 F5 H5 w w2 l5.fh (up (up rw' l4) l5) r5 z e Q fun u F6 H6 l6 r6 => q u F6 H6 ((((l2.trans l3).trans l4).trans l5).trans l6) r6
  | false =>
    have e' : false = z := Option.some.inj e
    subst e'
    exact iteF (q _ F4 H4 ((l2.trans l3).trans l4) rfl)
end
end Dw

set_option Elab.async false
set_option linter.all false
set_option maxRecDepth 100000
set_option maxHeartbeats 4000000
/-! The layer, second part: walks, loops, comprehensions, statements, calls. -/
namespace Dw
open PySem L2 Dv
open Rep (rp)
open RepA (ra)

/-! ### what is walked -/
structure Wk {α : Type} [Rep α] (J : It) (xs : List α) (F : Hp) : Prop where
  stop : ∀ H, Same F H → J.stop xs.length H
  go : ∀ i x H, xs[i]? = some x → Same F H → J.go i H
  yld : ∀ i x H v H', xs[i]? = some x → Same F H → J.yld i H v H' → ∀ F1, Same F F1 → Same F1 H → ∃ F2, Lat F1 H F2 H' ∧ rp x v F2
section
variable {α β γ S R T : Type} [Rep α] [Rep β] [Rep γ] {K : PySem.W.Frag}
def EI (wi : TI) (σ : L2.St) (F H : Hp) (m : Option (List α)) : Prop :=
  ∀ F1 H1, Lat F H F1 H1 → ∀ xs, m = some xs → ∀ R : It → Hp → Prop, (∀ J F2 H2, Lat F1 H1 F2 H2 → Wk J xs F2 → R J H2) → wi σ H1 R
variable {t : TE} {σ : L2.St} {F H : Hp}
theorem EI.flat [Flat α] {wi : TI} {m : Option (List α)} (h : EI wi σ H H m) (s : Same F H) (hJ : ∀ J xs F2 H2, Lat H H F2 H2 → Wk J xs F2 → Wk J (xs : List α) F) : EI wi σ F H m := fun F1 H1 l xs e R q =>
  h H1 H1 l.all xs e R fun J F2 H2 l2 w => q J F1 H2 (.grow l.fh l2.h) (by
    have w2 := hJ J xs F2 H2 (l.all.trans l2) w
    exact ⟨fun H' s' => w2.stop H' (l.f.trans s'), fun i x H' e s' => w2.go i x H' e (l.f.trans s'), fun i x H' v H'' e s' y F1 s1 s2 => w2.yld i x H' v H'' e (l.f.trans s') y F1 (l.f.trans s1) s2⟩)
theorem wk_list {a : Addr} {xs : List α} {vs : List V} (h : F a = some (.lst vs)) (r : rpL xs vs F) : Wk (Itl K a) xs F := by
  refine ⟨fun H s => ⟨vs, sqL (s _ _ h), Nat.le_of_eq r.length⟩, fun i x H e s => ?_, fun i x H v H' e s y F1 s1 s2 => ?_⟩
  · obtain ⟨v, ev, _⟩ := r.get e
    exact ⟨vs, v, sqL (s _ _ h), ev⟩
  · obtain ⟨rfl, y2⟩ := y
    obtain ⟨v', ev, rv⟩ := r.get e
    have := y2 vs (sqL (s _ _ h))
    rw [ev] at this
    cases this
    exact ⟨F1, .refl s2, Rep.mono s1 rv⟩
theorem ei_list {m : Option (List α)} (h : EV t σ F H m) : EI (iList K t) σ F H m := fun F1 H1 l xs e R q =>
  h F1 H1 l xs e _ fun v F2 H2 l2 ⟨a, vs, ev, ea, r⟩ => ⟨a, ev, ⟨vs, sqL (l2.fh _ _ ea)⟩, q _ F2 H2 l2 (wk_list ea r)⟩
/-- a pair walked -/
theorem ei_tup {m : Option (α × α)} (h : EV t σ F H m) : EI (iTup K t) σ F H (m.bind fun x => some [x.1, x.2]) := fun F1 H1 l xs e R q => by
  obtain ⟨x, ex, e⟩ := Option.bind_eq_some_iff.mp e
  cases e
  refine h F1 H1 l x ex _ fun v F2 H2 l2 ⟨a, v1, v2, ev, ea, r1, r2⟩ => ⟨a, ev, ⟨_, sqT (l2.fh _ _ ea)⟩, q _ F2 H2 l2 ?_⟩
  refine ⟨fun H s => ⟨_, sqT (s _ _ ea), Nat.le_refl _⟩, fun i y H e s => ?_, fun i y H v H' e s z F1 s1 s2 => ?_⟩
  · match i, e with
    | 0, _ => exact ⟨_, v1, sqT (s _ _ ea), rfl⟩
    | 1, _ => exact ⟨_, v2, sqT (s _ _ ea), rfl⟩
  · obtain ⟨rfl, z2⟩ := z
    match i, e, z2 with
    | 0, e, z2 =>
      cases e
      have := z2 _ (sqT (s _ _ ea))
      cases this
      exact ⟨F1, .refl s2, Rep.mono s1 r1⟩
    | 1, e, z2 =>
      cases e
      have := z2 _ (sqT (s _ _ ea))
      cases this
      exact ⟨F1, .refl s2, Rep.mono s1 r2⟩
theorem wk_range {lo : Int} {n : Nat} : Wk (Itr lo n) ((List.range n).map fun i => lo + ((i : Nat) : Int)) F := by
  refine ⟨fun H s => ?_, fun i x H e s => ?_, fun i x H v H' e s y F1 s1 s2 => ?_⟩
  · show n ≤ _
    simp
  · have := (List.getElem?_eq_some_iff.mp e).1
    show i < n
    simpa using this
  · obtain ⟨rfl, rfl⟩ := y
    have hi : i < n := by simpa using (List.getElem?_eq_some_iff.mp e).1
    refine ⟨F1, .refl s2, ?_⟩
    rw [List.getElem?_map, List.getElem?_range hi] at e
    cases e
    rfl
theorem ei_range1 {m : Option Int} (h : EV t σ F H m) : EI (iRng1 (tCons t tNil)) σ F H (m.bind fun n => rng 0 n) := fun F1 H1 l xs e R q => by
  obtain ⟨n, en, e⟩ := Option.bind_eq_some_iff.mp e
  unfold rng at e
  split at e
  · rename_i c
    cases e
    refine h F1 H1 l n en _ fun v F2 H2 l2 r => ⟨n, by rw [show v = V.int n from r], by omega, by omega, ?_⟩
    refine q _ F2 H2 l2 ?_
    have z : (n - 0).toNat = n.toNat := by rw [Int.sub_zero]
    rw [z]
    exact wk_range
  · cases e
theorem ei_range2 {ta tb : TE} {ma mb : Option Int} (ha : EV ta σ F H ma) (hb : EV tb σ F H mb) : EI (iRng2 (tCons ta (tCons tb tNil))) σ F H (ma.bind fun a => mb.bind fun b => rng a b) := fun F1 H1 l xs e R q => by
  obtain ⟨a, en, e⟩ := Option.bind_eq_some_iff.mp e
  obtain ⟨b, eb, e⟩ := Option.bind_eq_some_iff.mp e
  unfold rng at e
  split at e
  · rename_i c
    cases e
    refine ha F1 H1 l a en _ fun v F2 H2 l2 r => hb F2 H2 (l.trans l2) b eb _ fun w F3 H3 l3 r3 => ⟨a, b, by rw [show v = V.int a from r, show w = V.int b from r3], ⟨by omega, by omega, by omega, by omega⟩, ?_⟩
    exact q _ F3 H3 (l2.trans l3) wk_range
  · cases e
theorem ei_rev {m : Option (List α)} (h : EV t σ F H m) : EI (iRev K (tCons t tNil)) σ F H (m.bind fun xs => some xs.reverse) := fun F1 H1 l ys e R q => by
  obtain ⟨xs, en, e⟩ := Option.bind_eq_some_iff.mp e
  cases e
  refine h F1 H1 l xs en _ fun v F2 H2 l2 ⟨a, vs, ev, ea, r⟩ => ⟨a, vs, by rw [ev], sqL (l2.fh _ _ ea), q _ F2 H2 l2 ?_⟩
  have w := walk_rev (K := K) (a := a) (xs := vs)
  have hl := r.length
  refine ⟨fun H s => ?_, fun i x H e s => w.goes i H ?_ (sqL (s _ _ ea)), fun i x H v H' e s y F1 s1 s2 => ?_⟩
  · have := w.stops H (sqL (s _ _ ea))
    rw [hl] at this
    rw [List.length_reverse, hl]
    exact this
  · rw [hl]
    have := (List.getElem?_eq_some_iff.mp e).1
    simpa using this
  · have hi : i < xs.length := by
      have := (List.getElem?_eq_some_iff.mp e).1
      simpa using this
    obtain ⟨rfl, y2⟩ := w.yields i H v H' (by rw [hl]; exact hi) (sqL (s _ _ ea)) y
    rw [List.getElem?_reverse hi] at e
    obtain ⟨v', ev', rv⟩ := r.get e
    rw [hl, ev'] at y2
    cases y2
    exact ⟨F1, .refl s2, Rep.mono s1 rv⟩
theorem ei_zip {ta tb : TE} {ma : Option (List α)} {mb : Option (List β)} (ha : EV ta σ F H ma) (hb : EV tb σ F H mb) :
    EI (iZip K (tCons ta (tCons tb tNil))) σ F H (ma.bind fun a => mb.bind fun b => some (a.zip b)) := fun F1 H1 l zs e R q => by
  obtain ⟨xs, en, e⟩ := Option.bind_eq_some_iff.mp e
  obtain ⟨ys, eb, e⟩ := Option.bind_eq_some_iff.mp e
  cases e
  refine ha F1 H1 l xs en _ fun v F2 H2 l2 ⟨a, vs, ev, ea, r⟩ => hb F2 H2 (l.trans l2) ys eb _ fun w F3 H3 l3 ⟨b, ws, ew, eb, r3⟩ => ⟨a, b, vs, ws, by rw [ev, ew], sqL (l3.fh _ _ (l3.f _ _ ea)), sqL (l3.fh _ _ eb), q _ F3 H3 (l2.trans l3) ?_⟩
  have w := walk_zip (K := K) (a := a) (b := b) (xs := vs) (ys := ws) rfl
  have ea := l3.f _ _ ea
  have r := rpL.mono l3.f r
  have h1 := r.length
  have h2 := r3.length
  refine ⟨fun H s => ?_, fun i x H e s => w.goes i H ?_ ⟨sqL (s _ _ ea), sqL (s _ _ eb)⟩, fun i x H v H' e s y F1 s1 s2 => ?_⟩
  · have := w.stops H ⟨sqL (s _ _ ea), sqL (s _ _ eb)⟩
    rw [List.length_zip, ← h1, ← h2]
    exact this
  · have := (List.getElem?_eq_some_iff.mp e).1
    rw [List.length_zip] at this
    rw [h1, h2]
    exact this
  · have hi := (List.getElem?_eq_some_iff.mp e).1
    rw [List.length_zip] at hi
    obtain ⟨T, x1, y1, rfl, hT, rfl, e1, e2⟩ := w.yields i H v H' (by rw [h1, h2]; exact hi) ⟨sqL (s _ _ ea), sqL (s _ _ eb)⟩ y
    obtain ⟨u1, eu1⟩ : ∃ u, xs[i]? = some u := ⟨xs[i], by simp [show i < xs.length by omega]⟩
    obtain ⟨u2, eu2⟩ : ∃ u, ys[i]? = some u := ⟨ys[i], by simp [show i < ys.length by omega]⟩
    have ex : x = (u1, u2) := by
      have z : (xs.zip ys)[i]? = some (u1, u2) := by
        rw [List.getElem?_zip_eq_some]
        exact ⟨eu1, eu2⟩
      rw [z] at e
      exact (Option.some.inj e).symm
    subst ex
    obtain ⟨v1, ev1, rv1⟩ := r.get eu1
    obtain ⟨v2, ev2, rv2⟩ := r3.get eu2
    dsimp only at e1 e2
    rw [ev1] at e1
    rw [ev2] at e2
    cases e1
    cases e2
    refine ⟨upd F1 T (.tup [x1, y1]), .new s2 hT, T, x1, y1, rfl, upd_same, ?_, ?_⟩
    · exact Rep.mono (s1.trans (same_upd (s2.free hT))) rv1
    · exact Rep.mono (s1.trans (same_upd (s2.free hT))) rv2

/-! ### targets -/
theorem gt_name {i : Nat} {v : V} {Q : L2.St → Hp → Prop} (h : Q (σ.set i (some v)) H) : gName i v σ H Q := h
theorem gt_pair {i j : Nat} {v : V} {x : α × β} {Q : L2.St → Hp → Prop} (r : rp x v F) (s : Same F H) (h : ∀ v1 v2, rp x.1 v1 F → rp x.2 v2 F → Q ((σ.set i (some v1)).set j (some v2)) H) :
    gTup K 2 (gCons (gName i) (gCons (gName j) gNil)) v σ H Q := by
  obtain ⟨a, v1, v2, rfl, e, r1, r2⟩ := r
  exact ⟨a, [v1, v2], rfl, sqT (s _ _ e), rfl, v1, [v2], rfl, v2, [], rfl, rfl, h v1 v2 r1 r2⟩

/-! ### loops -/
def tLoop (J : It) (g : TG) (tb : TS) : TS := fun D σ H1 => ∃ W : Nat → Nat → L2.St → Hp → Prop, (∃ m, W 0 m σ H1) ∧ ∀ i m σ H, W i m σ H →
  (J.stop i H ∧ D.nx σ H) ∨ (J.go i H ∧ ∃ N : L2.St → Hp → Prop, (∀ σ' H', N σ' H' → ∃ m', m' < m ∧ W (i + 1) m' σ' H') ∧ ∀ x H', J.yld i H x H' → g x σ H' fun σ2 H2 => tb { D with nx := N, ct := N, bk := D.nx } σ2 H2)
theorem rd_for {wi : TI} {g : TG} {tb u : TS} {D : Ends} {r : R} {mi : Option (List α)} {k : List α → Option R} (hF : Same F H) (ei : EI wi σ F H mi) (hm : mi.bind k = some r)
    (c : ∀ xs J F1 H1, k xs = some r → Lat F H F1 H1 → Wk J xs F1 → tLoop J g tb { D with nx := u D } σ H1) : tSeq (tFor wi g tb) u D σ H := by
  obtain ⟨xs, e1, e2⟩ := Option.bind_eq_some_iff.mp hm
  exact ei F H (.refl hF) xs e1 _ fun J F1 H1 l w => c xs J F1 H1 e2 l w
theorem rd_forL {wi : TI} {g : TG} {tb : TS} {D : Ends} {r : R} {mi : Option (List α)} {k : List α → Option R} (hF : Same F H) (ei : EI wi σ F H mi) (hm : mi.bind k = some r)
    (c : ∀ xs J F1 H1, k xs = some r → Lat F H F1 H1 → Wk J xs F1 → tLoop J g tb D σ H1) : tFor wi g tb D σ H := by
  obtain ⟨xs, e1, e2⟩ := Option.bind_eq_some_iff.mp hm
  exact ei F H (.refl hF) xs e1 _ fun J F1 H1 l w => c xs J F1 H1 e2 l w
theorem rd_loopG {J : It} {g : TG} {tb : TS} {D : Ends} {r : R} {xs : List α} {f : S → α → Option S} {s0 : S} {k : S → Option R} (wk : Wk J xs F) (hm : (loopG f s0 xs).bind k = some r)
    (P : S → L2.St → Hp → Hp → Prop) (h0 : P s0 σ F H) (hS : ∀ s σ' F' H', P s σ' F' H' → Same F F' ∧ Same F' H')
    (hb : ∀ x s σ' F' H' v F2 H2, P s σ' F' H' → Lat F' H' F2 H2 → rp x v F2 → ∀ s', f s x = some s' → ∀ (D' : Ends), (∀ σ3 F3 H3, P s' σ3 F3 H3 → D'.nx σ3 H3) → g v σ' H2 fun σ2 H3 => tb D' σ2 H3)
    (hd : ∀ s σ' F' H', k s = some r → P s σ' F' H' → D.nx σ' H') : tLoop J g tb D σ H := by
  refine ⟨fun i m σ' H' => m = xs.length - i ∧ i ≤ xs.length ∧ ∃ s F', P s σ' F' H' ∧ (loopG f s (xs.drop i)).bind k = some r, ⟨xs.length, by simp, Nat.zero_le _, s0, F, h0, by simpa using hm⟩, ?_⟩
  rintro i m σ' H' ⟨rfl, hi, s, F', hP, hl⟩
  obtain ⟨s1, s2⟩ := hS _ _ _ _ hP
  by_cases hlt : i < xs.length
  · have ex : xs[i]? = some xs[i] := by simp [hlt]
    rw [List.drop_eq_getElem_cons hlt] at hl
    obtain ⟨sE, hl, hk⟩ := Option.bind_eq_some_iff.mp hl
    obtain ⟨s', h1, h2⟩ := Option.bind_eq_some_iff.mp (show (f s xs[i]).bind (fun s' => loopG f s' (xs.drop (i + 1))) = some sE from hl)
    refine .inr ⟨wk.go i _ H' ex (s1.trans s2), fun σ3 H3 => ∃ F3, P s' σ3 F3 H3, fun σ3 H3 ⟨F3, hp⟩ => ⟨xs.length - (i + 1), by omega, rfl, hlt, s', F3, hp, Option.bind_eq_some_iff.mpr ⟨sE, h2, hk⟩⟩, fun v H2 y => ?_⟩
    obtain ⟨F2, l2, rv⟩ := wk.yld i _ H' v H2 ex (s1.trans s2) y F' s1 s2
    exact hb _ s σ' F' H' v F2 H2 hP l2 rv s' h1 _ fun σ3 F3 H3 hp => ⟨F3, hp⟩
  · have e : i = xs.length := by omega
    subst e
    rw [List.drop_length] at hl
    exact .inl ⟨wk.stop H' (s1.trans s2), hd s σ' F' H' hl hP⟩
/-- with a return in the body: E tells what a return may hand back -/
theorem rd_loopR {J : It} {g : TG} {tb : TS} {D : Ends} {r : T} {xs : List α} {f : S → α → Option (Stp S R)} {s0 : S} {k : S → Option T} {k' : R → Option T} (wk : Wk J xs F) (hm : (loopR f s0 xs).bind (fun st => st.elim k k') = some r)
    (P : S → L2.St → Hp → Hp → Prop) (h0 : P s0 σ F H) (hS : ∀ s σ' F' H', P s σ' F' H' → Same F F' ∧ Same F' H')
    (hb : ∀ x s σ' F' H' v F2 H2, P s σ' F' H' → Lat F' H' F2 H2 → rp x v F2 → ∀ st, f s x = some st → ∀ (D' : Ends), D'.rt = D.rt → (∀ s', st = .go s' → ∀ σ3 F3 H3, P s' σ3 F3 H3 → D'.nx σ3 H3) → (∀ y, st = .ret y → k' y = some r) → g v σ' H2 fun σ2 H3 => tb D' σ2 H3)
    (hd : ∀ s σ' F' H', k s = some r → P s σ' F' H' → D.nx σ' H') : tLoop J g tb D σ H := by
  refine ⟨fun i m σ' H' => m = xs.length - i ∧ i ≤ xs.length ∧ ∃ s F', P s σ' F' H' ∧ (loopR f s (xs.drop i)).bind (fun st => st.elim k k') = some r, ⟨xs.length, by simp, Nat.zero_le _, s0, F, h0, by simpa using hm⟩, ?_⟩
  rintro i m σ' H' ⟨rfl, hi, s, F', hP, hl⟩
  obtain ⟨s1, s2⟩ := hS _ _ _ _ hP
  by_cases hlt : i < xs.length
  · have ex : xs[i]? = some xs[i] := by simp [hlt]
    rw [List.drop_eq_getElem_cons hlt] at hl
    obtain ⟨sE, hl, hk⟩ := Option.bind_eq_some_iff.mp hl
    obtain ⟨st, h1, h2⟩ := Option.bind_eq_some_iff.mp (show (f s xs[i]).bind (fun st => st.elim (fun s' => loopR f s' (xs.drop (i + 1))) fun y => some (.ret y)) = some sE from hl)
    refine .inr ⟨wk.go i _ H' ex (s1.trans s2), fun σ3 H3 => ∃ s' F3, st = .go s' ∧ P s' σ3 F3 H3, fun σ3 H3 ⟨s', F3, es, hp⟩ => ⟨xs.length - (i + 1), by omega, rfl, hlt, s', F3, hp, Option.bind_eq_some_iff.mpr ⟨sE, by subst es; exact h2, hk⟩⟩, fun v H2 y => ?_⟩
    obtain ⟨F2, l2, rv⟩ := wk.yld i _ H' v H2 ex (s1.trans s2) y F' s1 s2
    refine hb _ s σ' F' H' v F2 H2 hP l2 rv st h1 _ rfl (fun s' es σ3 F3 H3 hp => ⟨s', F3, es, hp⟩) fun y ey => ?_
    subst ey
    cases h2
    exact hk
  · have e : i = xs.length := by omega
    subst e
    rw [List.drop_length] at hl
    exact .inl ⟨wk.stop H' (s1.trans s2), hd s σ' F' H' hl hP⟩
theorem rd_whileG {tc : TT} {tb u : TS} {D : Ends} {r : R} {n : Nat} {c : S → Option Bool} {f : S → Option S} {s0 : S} {k : S → Option R} (hm : (whileG c f n s0).bind k = some r)
    (P : S → L2.St → Hp → Hp → Prop) (h0 : P s0 σ F H) (hS : ∀ s σ' F' H', P s σ' F' H' → Same F' H')
    (hc : ∀ s σ' F' H', P s σ' F' H' → EVT tc σ' F' H' (c s))
    (hb : ∀ s σ' F' H' F2 H2, P s σ' F' H' → Lat F' H' F2 H2 → ∀ s', f s = some s' → ∀ (D' : Ends), (∀ σ3 F3 H3, P s' σ3 F3 H3 → D'.nx σ3 H3) → tb D' σ' H2)
    (hd : ∀ s σ' F' H' F2 H2, k s = some r → P s σ' F' H' → Lat F' H' F2 H2 → u D σ' H2) : tSeq (tWhile tc tb) u D σ H := by
  refine ⟨fun m σ' H' => ∃ s F', P s σ' F' H' ∧ (whileG c f m s).bind k = some r, ⟨n, s0, F, h0, hm⟩, ?_⟩
  rintro m σ' H' ⟨s, F', hP, hl⟩
  cases m with
  | zero => cases hl
  | succ m =>
    obtain ⟨sE, hl, hk⟩ := Option.bind_eq_some_iff.mp hl
    obtain ⟨b, h1, h2⟩ := Option.bind_eq_some_iff.mp (show (c s).bind (fun b => if b then (f s).bind fun s' => whileG c f m s' else some s) = some sE from hl)
    refine hc s σ' F' H' hP F' H' (.refl (hS _ _ _ _ hP)) b h1 _ fun F2 H2 l2 => ?_
    cases b with
    | true =>
      refine iteT ?_
      obtain ⟨s', h3, h4⟩ := Option.bind_eq_some_iff.mp (show (f s).bind (fun s' => whileG c f m s') = some sE from h2)
      exact ⟨fun σ3 H3 => ∃ F3, P s' σ3 F3 H3, fun σ3 H3 ⟨F3, hp⟩ => ⟨m, Nat.lt_succ_self m, s', F3, hp, Option.bind_eq_some_iff.mpr ⟨sE, h4, hk⟩⟩, hb s σ' F' H' F2 H2 hP l2 s' h3 _ fun σ3 F3 H3 hp => ⟨F3, hp⟩⟩
    | false =>
      have e : s = sE := Option.some.inj h2
      subst e
      exact iteF (hd s σ' F' H' F2 H2 hk hP l2)
theorem rd_whileR {tc : TT} {tb u : TS} {D : Ends} {r : T} {n : Nat} {c : S → Option Bool} {f : S → Option (Stp S R)} {s0 : S} {k : S → Option T} {k' : R → Option T} (hm : (whileR c f n s0).bind (fun st => st.elim k k') = some r)
    (P : S → L2.St → Hp → Hp → Prop) (h0 : P s0 σ F H) (hS : ∀ s σ' F' H', P s σ' F' H' → Same F' H')
    (hc : ∀ s σ' F' H', P s σ' F' H' → EVT tc σ' F' H' (c s))
    (hb : ∀ s σ' F' H' F2 H2, P s σ' F' H' → Lat F' H' F2 H2 → ∀ st, f s = some st → ∀ (D' : Ends), D'.rt = D.rt → (∀ s', st = .go s' → ∀ σ3 F3 H3, P s' σ3 F3 H3 → D'.nx σ3 H3) → (∀ y, st = .ret y → k' y = some r) → tb D' σ' H2)
    (hd : ∀ s σ' F' H' F2 H2, k s = some r → P s σ' F' H' → Lat F' H' F2 H2 → u D σ' H2) : tSeq (tWhile tc tb) u D σ H := by
  refine ⟨fun m σ' H' => ∃ s F', P s σ' F' H' ∧ (whileR c f m s).bind (fun st => st.elim k k') = some r, ⟨n, s0, F, h0, hm⟩, ?_⟩
  rintro m σ' H' ⟨s, F', hP, hl⟩
  cases m with
  | zero => cases hl
  | succ m =>
    obtain ⟨sE, hl, hk⟩ := Option.bind_eq_some_iff.mp hl
    obtain ⟨b, h1, h2⟩ := Option.bind_eq_some_iff.mp (show (c s).bind (fun b => if b then (f s).bind fun st => st.elim (fun s' => whileR c f m s') (fun y => some (.ret y)) else some (.go s)) = some sE from hl)
    refine hc s σ' F' H' hP F' H' (.refl (hS _ _ _ _ hP)) b h1 _ fun F2 H2 l2 => ?_
    cases b with
    | true =>
      refine iteT ?_
      obtain ⟨st, h3, h4⟩ := Option.bind_eq_some_iff.mp (show (f s).bind (fun st => st.elim (fun s' => whileR c f m s') fun y => some (.ret y)) = some sE from h2)
      refine ⟨fun σ3 H3 => ∃ s' F3, st = .go s' ∧ P s' σ3 F3 H3, fun σ3 H3 ⟨s', F3, es, hp⟩ => ⟨m, Nat.lt_succ_self m, s', F3, hp, Option.bind_eq_some_iff.mpr ⟨sE, by subst es; exact h4, hk⟩⟩, hb s σ' F' H' F2 H2 hP l2 st h3 _ rfl (fun s' es σ3 F3 H3 hp => ⟨s', F3, es, hp⟩) fun y ey => ?_⟩
      subst ey
      cases h4
      exact hk
    | false =>
      have e : Stp.go s = sE := Option.some.inj h2
      subst e
      exact iteF (hd s σ' F' H' F2 H2 hk hP l2)

/-! ### comprehensions -/
theorem evn_lc {wi : TI} {g : TG} {tt : TT} {te : TE} {vs : List Nat} {mi : Option (List α)} {c : α → Option Bool} {f : α → Option β} (ei : EI wi σ F H mi)
    (hg : ∀ x v F1 H1 (Q : L2.St → Hp → Prop), Lat F H F1 H1 → rp x v F1 → (∀ σ2, wipe σ2 vs = wipe σ vs → EVT tt σ2 F1 H1 (c x) → EV te σ2 F1 H1 (f x) → Q σ2 H1) → g v (wipe σ vs) H1 Q) :
    EVN (tLc wi g tt te vs) σ F H (mi.bind fun xs => lc c f xs) := fun F1 H1 l ys e Q q => by
  obtain ⟨xs, exs, e⟩ := Option.bind_eq_some_iff.mp e
  unfold lc at e
  split at e
  · rename_i hlen
    refine ei F1 H1 l xs exs _ fun J F2 H2 l2 wk D hD => ?_
    have fD : F2 D = none := l2.fh.free hD
    refine ⟨fun i m H' => m = xs.length - i ∧ i ≤ xs.length ∧ ∃ (acc : List V) (as zs : List β) (F' : Hp), Lat F2 H2 F' H' ∧ F' D = none ∧ H' D = some (.lst acc) ∧ rpL as acc F' ∧ as.length ≤ i ∧ lcG c f (xs.drop i) = some zs ∧ ys = as ++ zs,
      ⟨xs.length, by simp, Nat.zero_le _, [], [], ys, F2, .made l2.fh hD, fD, upd_same, trivial, Nat.zero_le _, by simpa using e, rfl⟩, ?_⟩
    rintro i m H' ⟨rfl, hi, acc, as, zs, F', l3, f3, h3, r3, len3, e3, rfl⟩
    have s1 := l3.f
    have s2 := l3.fh
    by_cases hlt : i < xs.length
    · have ex : xs[i]? = some xs[i] := by simp [hlt]
      rw [List.drop_eq_getElem_cons hlt] at e3
      obtain ⟨b, eb, e4⟩ := Option.bind_eq_some_iff.mp (show (c xs[i]).bind (fun b => if b then (f xs[i]).bind fun y => (lcG c f (xs.drop (i + 1))).bind fun ys => some (y :: ys) else lcG c f (xs.drop (i + 1))) = some zs from e3)
      refine .inr ⟨wk.go i _ H' ex (s1.trans s2), fun H' => i + 1 ≤ xs.length ∧ ∃ (acc : List V) (as' zs' : List β) (F' : Hp), Lat F2 H2 F' H' ∧ F' D = none ∧ H' D = some (.lst acc) ∧ rpL as' acc F' ∧ as'.length ≤ i + 1 ∧ lcG c f (xs.drop (i + 1)) = some zs' ∧ as ++ zs = as' ++ zs',
        fun H4 h4 => ⟨xs.length - (i + 1), by omega, rfl, h4⟩, fun v H4 y => ?_⟩
      obtain ⟨F4, l4, rv⟩ := wk.yld i _ H' v H4 ex (s1.trans s2) y F' s1 s2
      have lAll := (l2.trans l3).trans l4
      refine hg _ v F4 H4 _ (l.trans lAll) rv fun σ2 hw ht he => ⟨hw, ?_⟩
      refine ht F4 H4 (.refl l4.fh) b eb _ fun F5 H5 l5 => ?_
      have hD5 : H5 D = some (.lst acc) := l5.h _ _ (l4.h _ _ h3)
      have fD5 : F5 D = none := l5.nwl (l4.h _ _ h3) (l4.nwl h3 f3)
      have r5 : rpL as acc F5 := rpL.mono (l4.f.trans l5.f) r3
      cases b with
      | true =>
        refine iteT ?_
        obtain ⟨y1, ey1, e5⟩ := Option.bind_eq_some_iff.mp (show (f xs[i]).bind (fun y => (lcG c f (xs.drop (i + 1))).bind fun ys => some (y :: ys)) = some zs from e4)
        obtain ⟨zs', ez, e6⟩ := Option.bind_eq_some_iff.mp e5
        cases e6
        refine he F5 H5 l5 y1 ey1 _ fun w F6 H6 l6 rw' => ⟨acc, l6.h _ _ hD5, sz_lt (by rw [r5.length]; omega), ?_⟩
        have fD6 : F6 D = none := l6.nwl hD5 fD5
        refine ⟨hlt, acc ++ [w], as ++ [y1], zs', F6, ((l3.trans l4).trans (l5.trans l6)).put hD fD6, fD6, upd_same, ?_, ?_, ez, by simp⟩
        · exact rpL.append (rpL.mono l6.f r5) ⟨rw', trivial⟩
        · rw [List.length_append, List.length_singleton]
          omega
      | false =>
        refine iteF ⟨hlt, acc, as, zs, F5, (l3.trans l4).trans l5, fD5, hD5, r5, by omega, e4, rfl⟩
    · have ei : i = xs.length := by omega
      subst ei
      rw [List.drop_length] at e3
      have ez : zs = [] := (Option.some.inj e3).symm
      subst ez
      rw [List.append_nil] at q
      exact .inl ⟨wk.stop H' (s1.trans s2), q D acc F' H' (l2.trans l3) (l2.h.free hD) f3 h3 r3⟩
  · cases e
theorem evt_yes : EVT tYes σ F H (some true) := fun F1 H1 l x e Q q => by
  cases e
  exact q F1 H1 (.refl l.fh)

/-! ### statements -/
variable {te : TE} {u : TS} {D : Ends} {r : R} {i : Nat}
theorem rd_asg {m : Option α} {k : α → Option R} (hF : Same F H) (ev : EV te σ F H m) (hm : m.bind k = some r) (c : ∀ x v F1 H1, k x = some r → Lat F H F1 H1 → rp x v F1 → u D (σ.set i (some v)) H1) : tSeq (tAsg te (gName i)) u D σ H := by
  obtain ⟨x, e1, e2⟩ := Option.bind_eq_some_iff.mp hm
  exact ev F H (.refl hF) x e1 _ fun v F1 H1 l rv => c x v F1 H1 e2 l rv
theorem rd_asgL {m : Option α} {k : α → Option R} (hF : Same F H) (ev : EV te σ F H m) (hm : m.bind k = some r) (c : ∀ x v F1 H1, k x = some r → Lat F H F1 H1 → rp x v F1 → D.nx (σ.set i (some v)) H1) : tAsg te (gName i) D σ H := by
  obtain ⟨x, e1, e2⟩ := Option.bind_eq_some_iff.mp hm
  exact ev F H (.refl hF) x e1 _ fun v F1 H1 l rv => c x v F1 H1 e2 l rv
/-- a new list that will change -/
theorem rd_asgN {m : Option (List α)} {k : List α → Option R} (hF : Same F H) (ev : EVN te σ F H m) (hm : m.bind k = some r)
    (c : ∀ xs p vs F1 H1, k xs = some r → Lat F H F1 H1 → H p = none → F1 p = none → H1 p = some (.lst vs) → rpL xs vs F1 → u D (σ.set i (some (.ref p))) H1) : tSeq (tAsg te (gName i)) u D σ H := by
  obtain ⟨x, e1, e2⟩ := Option.bind_eq_some_iff.mp hm
  exact ev F H (.refl hF) x e1 _ fun p vs F1 H1 l h1 h2 h3 rv => c x p vs F1 H1 e2 l h1 h2 h3 rv
theorem rd_asg2 {j : Nat} {m : Option (α × β)} {k : α × β → Option R} (hF : Same F H) (ev : EV te σ F H m) (hm : m.bind k = some r)
    (c : ∀ x v w F1 H1, k x = some r → Lat F H F1 H1 → rp x.1 v F1 → rp x.2 w F1 → u D ((σ.set i (some v)).set j (some w)) H1) : tSeq (tAsg te (gTup K 2 (gCons (gName i) (gCons (gName j) gNil)))) u D σ H := by
  obtain ⟨x, e1, e2⟩ := Option.bind_eq_some_iff.mp hm
  exact ev F H (.refl hF) x e1 _ fun v F1 H1 l rv => gt_pair rv l.fh fun v1 v2 r1 r2 => c x v1 v2 F1 H1 e2 l r1 r2
theorem rd_ret {m : Option α} {k : α → Option R} (hF : Same F H) (ev : EV te σ F H m) (hm : m.bind k = some r) (c : ∀ x v F1 H1, k x = some r → Lat F H F1 H1 → rp x v F1 → D.rt v H1) : tRet te D σ H := by
  obtain ⟨x, e1, e2⟩ := Option.bind_eq_some_iff.mp hm
  exact ev F H (.refl hF) x e1 _ fun v F1 H1 l rv => c x v F1 H1 e2 l rv
theorem rd_ret0 {m : Option α} {x : α} (hF : Same F H) (ev : EV te σ F H m) (hm : m = some x) (c : ∀ v F1 H1, Lat F H F1 H1 → rp x v F1 → D.rt v H1) : tRet te D σ H :=
  ev F H (.refl hF) x hm _ fun v F1 H1 l rv => c v F1 H1 l rv
theorem rd_retN {m : Option (List α)} {x : List α} (hF : Same F H) (ev : EVN te σ F H m) (hm : m = some x) (c : ∀ p vs F1 H1, Lat F H F1 H1 → H p = none → F1 p = none → H1 p = some (.lst vs) → rpL x vs F1 → D.rt (.ref p) H1) : tRet te D σ H :=
  ev F H (.refl hF) x hm _ fun p vs F1 H1 l h1 h2 h3 rv => c p vs F1 H1 l h1 h2 h3 rv
theorem rd_if {c : TT} {t1 t2 : TS} {m : Option Bool} {A B : Option R} (hF : Same F H) (ev : EVT c σ F H m) (hm : (m.bind fun b => if b then A else B) = some r)
    (ct : ∀ F1 H1, m = some true → A = some r → Lat F H F1 H1 → t1 D σ H1) (cf : ∀ F1 H1, m = some false → B = some r → Lat F H F1 H1 → t2 D σ H1) : tIfS c t1 t2 D σ H := by
  obtain ⟨b, e1, e2⟩ := Option.bind_eq_some_iff.mp hm
  refine ev F H (.refl hF) b e1 _ fun F1 H1 l => ?_
  cases b with
  | true => exact iteT (ct F1 H1 e1 e2 l)
  | false => exact iteF (cf F1 H1 e1 e2 l)
theorem rd_seq {t1 t2 : TS} (h : t1 { D with nx := t2 D } σ H) : tSeq t1 t2 D σ H := h
theorem at_st {t : TS} {σ' : L2.St} (e : σ' = σ) (h : t D σ H) : t D σ' H := by
  rw [e]
  exact h
theorem nx_with {D : Ends} {N : L2.St → Hp → Prop} (h : N σ H) : ({ D with nx := N } : Ends).nx σ H := h
theorem rd_next (h : D.nx σ H) : tNext D σ H := h
/-- an if whose both ways go on -/
theorem rd_join {c : TT} {t1 t2 : TS} {m : Option S} {k : S → Option R} (P : S → L2.St → Hp → Hp → Prop) (hm : m.bind k = some r)
    (h1 : ∀ s, m = some s → ∀ D' : Ends, (∀ σ3 F3 H3, P s σ3 F3 H3 → D'.nx σ3 H3) → tIfS c t1 t2 D' σ H) (h2 : ∀ s σ' F' H', k s = some r → P s σ' F' H' → u D σ' H') : tSeq (tIfS c t1 t2) u D σ H := by
  obtain ⟨s, e1, e2⟩ := Option.bind_eq_some_iff.mp hm
  exact h1 s e1 _ fun σ3 F3 H3 hp => h2 s σ3 F3 H3 e2 hp
/-- e alone -/
theorem rd_drop {m : Option α} {k : α → Option R} (hF : Same F H) (ev : EV te σ F H m) (hm : m.bind k = some r) (c : ∀ x F1 H1, k x = some r → Lat F H F1 H1 → u D σ H1) : tSeq (tDrop te) u D σ H := by
  obtain ⟨x, e1, e2⟩ := Option.bind_eq_some_iff.mp hm
  exact ev F H (.refl hF) x e1 _ fun v F1 H1 l _ => c x F1 H1 e2 l
/-- an owned list changed -/
structure Mt (p : Addr) (F H F' H' : Hp) : Prop where
  f : Same F F'
  fh : Same F' H'
  l0 : ∀ F0 H0, Lat F0 H0 F H → H0 p = none → Lat F0 H0 F' H'
  h : ∀ q o, q ≠ p → H q = some o → H' q = some o
  nw : ∀ q o, H q = some o → Chg o → F q = none → F' q = none
theorem Mt.nwl {p : Addr} {F H F' H' : Hp} (m : Mt p F H F' H') {a : Addr} {vs : List V} (e : H a = some (.lst vs)) (f : F a = none) : F' a = none := m.nw a _ e trivial f
theorem Mt.of {p : Addr} {F H F1 H1 : Hp} {o : HO} (l : Lat F H F1 H1) (fp : F1 p = none) : Mt p F H F1 (upd H1 p o) := by
  refine ⟨l.f, fun a u e => ?_, fun F0 H0 l0 h0 => (l0.trans l).put h0 fp, fun q u n e => ?_, l.nw⟩
  · rw [upd_ne (ne_of_none e fp)]
    exact l.fh _ _ e
  · rw [upd_ne n]
    exact l.h _ _ e
/-- xs.append(e) -/
theorem rd_appendL {p : Addr} {xs : List α} {vs : List V} {m : Option α} {k : List α → Option R} {j : Nat} (hF : Same F H) (hj : σ[j]? = some (some (.ref p))) (hp : H p = some (.lst vs)) (fp : F p = none) (rl : rpL xs vs F) (ev : EV te σ F H m)
    (hm : (m.bind fun y => addL xs y).bind k = some r)
    (c : ∀ ys ws F1 H1, k ys = some r → Mt p F H F1 H1 → F1 p = none → H1 p = some (.lst ws) → rpL ys ws F1 → D.nx σ H1) : tDrop (tBM K "list" rAppend (tVar j) (tCons te tNil)) D σ H := by
  obtain ⟨ys, e1, e2⟩ := Option.bind_eq_some_iff.mp hm
  obtain ⟨y, e3, e4⟩ := Option.bind_eq_some_iff.mp e1
  unfold addL at e4
  split at e4
  · rename_i hlen
    cases e4
    refine ⟨.ref p, hj, .inl ⟨rfl, vs, sqL hp⟩, ?_⟩
    refine ev F H (.refl hF) y e3 _ fun v F1 H1 l rv => ?_
    have fp1 := l.nwl hp fp
    exact ⟨p, vs, v, rfl, rfl, l.h _ _ hp, sz_lt (by rw [rl.length]; exact hlen), c _ (vs ++ [v]) F1 _ e2 (Mt.of l fp1) fp1 upd_same (rpL.append (rpL.mono l.f rl) ⟨rv, trivial⟩)⟩
  · cases e4
theorem rd_append {p : Addr} {xs : List α} {vs : List V} {m : Option α} {k : List α → Option R} {j : Nat} (hF : Same F H) (hj : σ[j]? = some (some (.ref p))) (hp : H p = some (.lst vs)) (fp : F p = none) (rl : rpL xs vs F) (ev : EV te σ F H m)
    (hm : (m.bind fun y => addL xs y).bind k = some r)
    (c : ∀ ys ws F1 H1, k ys = some r → Mt p F H F1 H1 → F1 p = none → H1 p = some (.lst ws) → rpL ys ws F1 → u D σ H1) : tSeq (tDrop (tBM K "list" rAppend (tVar j) (tCons te tNil))) u D σ H := rd_appendL (D := { D with nx := u D }) hF hj hp fp rl ev hm c
/-- xs[i] = e -/
theorem rd_setL {ti : TE} {p : Addr} {xs : List α} {vs : List V} {m : Option α} {mi : Option Int} {k : List α → Option R} {j : Nat} (hF : Same F H) (hj : σ[j]? = some (some (.ref p))) (hp : H p = some (.lst vs)) (fp : F p = none) (rl : rpL xs vs F) (ev : EV te σ F H m) (ei : EV ti σ F H mi)
    (hm : (m.bind fun y => mi.bind fun i => setZ xs i y).bind k = some r)
    (c : ∀ ys ws F1 H1, k ys = some r → Mt p F H F1 H1 → F1 p = none → H1 p = some (.lst ws) → rpL ys ws F1 → D.nx σ H1) : tAsg te (gSub (tVar j) ti rSetL) D σ H := by
  obtain ⟨ys, e1, e2⟩ := Option.bind_eq_some_iff.mp hm
  obtain ⟨y, e3, e4⟩ := Option.bind_eq_some_iff.mp e1
  obtain ⟨i, e5, e6⟩ := Option.bind_eq_some_iff.mp e4
  unfold setZ at e6
  obtain ⟨n, e7, e8⟩ := Option.bind_eq_some_iff.mp e6
  cases e8
  refine ev F H (.refl hF) y e3 _ fun v F1 H1 l rv => ?_
  refine ⟨.ref p, hj, ei F1 H1 l i e5 _ fun w F2 H2 l2 rw' => ?_⟩
  have hl : vs.length = xs.length := rl.length
  have l12 := l.trans l2
  have fp2 := l12.nwl hp fp
  refine ⟨p, vs, i, n, rfl, rw', l12.h _ _ hp, ?_, c _ (vs.set n v) F2 _ e2 (Mt.of l12 fp2) fp2 upd_same ?_⟩
  · rw [hl]
    exact e7
  · exact rpL.set (up rv l2) n (rpL.mono l12.f rl)
theorem rd_set {ti : TE} {p : Addr} {xs : List α} {vs : List V} {m : Option α} {mi : Option Int} {k : List α → Option R} {j : Nat} (hF : Same F H) (hj : σ[j]? = some (some (.ref p))) (hp : H p = some (.lst vs)) (fp : F p = none) (rl : rpL xs vs F) (ev : EV te σ F H m) (ei : EV ti σ F H mi)
    (hm : (m.bind fun y => mi.bind fun i => setZ xs i y).bind k = some r)
    (c : ∀ ys ws F1 H1, k ys = some r → Mt p F H F1 H1 → F1 p = none → H1 p = some (.lst ws) → rpL ys ws F1 → u D σ H1) : tSeq (tAsg te (gSub (tVar j) ti rSetL)) u D σ H := rd_setL (D := { D with nx := u D }) hF hj hp fp rl ev ei hm c
/-- an owned list is held for known from here on -/
theorem freeze {p : Addr} {xs : List α} {vs : List V} {F0 H0 : Hp} (l0 : Lat F0 H0 F H) (h0 : H0 p = none) (fp : F p = none) (hp : H p = some (.lst vs)) (rl : rpL xs vs F) : ∃ F', Lat F0 H0 F' H ∧ Same F F' ∧ rp xs (.ref p) F' ∧ ∀ q, q ≠ p → F q = none → F' q = none :=
  ⟨upd F p (.lst vs), l0.hold h0 fp hp, same_upd fp, ⟨p, vs, rfl, upd_same, rpL.mono (same_upd fp) rl⟩, fun q n e => by rw [upd_ne n]; exact e⟩
/-- an owned list read -/
theorem own_rp {p : Addr} {xs : List α} {vs : List V} (s : Same F H) (hp : H p = some (.lst vs)) (rl : rpL xs vs F) : rp xs (.ref p) H := ⟨p, vs, rfl, hp, rpL.mono s rl⟩
theorem ev_varF [Flat α] {i : Nat} {x : α} {v : V} {F' : Hp} (h : σ[i]? = some (some v)) (r : rp x v F') : EV (tVar i) σ F H (some x) := ev_var h (Flat.any r)
theorem rd_retO {p : Addr} {j : Nat} (hj : σ[j]? = some (some (.ref p))) (c : D.rt (.ref p) H) : tRet (tVar j) D σ H := ⟨.ref p, hj, c⟩
theorem rd_guard {c : TT} {t1 : TS} {m : Option Bool} {A B : Option R} (hF : Same F H) (ev : EVT c σ F H m) (hm : (m.bind fun b => if b then A else B) = some r)
    (ct : ∀ F1 H1, m = some true → A = some r → Lat F H F1 H1 → t1 { D with nx := u D } σ H1) (cf : ∀ F1 H1, m = some false → B = some r → Lat F H F1 H1 → u D σ H1) : tSeq (tIfS c t1 tNext) u D σ H :=
  rd_if (D := { D with nx := u D }) hF ev hm ct cf
end

/-! ### the promise of a def -/
class RepB (α : Type) extends RepA α where
  n : Nat
  len : ∀ {x : α} {vs : List V} {F : Hp}, ra x vs F → vs.length = n
instance : RepB Unit := ⟨0, fun h => by
  have e : _ = [] := h
  rw [e]
  rfl⟩
instance {α β : Type} [Rep α] [RepB β] : RepB (α × β) := ⟨RepB.n β + 1, fun h => by
  obtain ⟨v, ws, e, h, k⟩ := h
  rw [e, List.length_cons, RepB.len k]⟩
section
variable {δ α β : Type} [RepB δ] [Rep α] [Rep β]
/-- a def that hands back m of its arguments -/
def spO (m : δ → Option β) : Sp := fun vs H Q _ => ∃ (F : Hp) (x : δ) (y : β), Same F H ∧ ra x vs F ∧ m x = some y ∧ ∀ v F' H', Lat F H F' H' → rp y v F' → Q v H'
/-- a def that hands back a new list -/
def spN (m : δ → Option (List β)) : Sp := fun vs H Q _ => ∃ (F : Hp) (x : δ) (y : List β), Same F H ∧ ra x vs F ∧ m x = some y ∧ ∀ p vs F' H', Lat F H F' H' → H p = none → F' p = none → H' p = some (.lst vs) → rpL y vs F' → Q (.ref p) H'
theorem spO_len {m : δ → Option β} {n : Nat} (hn : RepB.n δ = n) : ∀ vs H Q E, spO m vs H Q E → vs.length = n := fun vs H Q E ⟨F, x, y, _, h, _⟩ => (RepB.len h).trans hn
theorem spN_len {m : δ → Option (List β)} {n : Nat} (hn : RepB.n δ = n) : ∀ vs H Q E, spN m vs H Q E → vs.length = n := fun vs H Q E ⟨F, x, y, _, h, _⟩ => (RepB.len h).trans hn
variable {σ : L2.St} {F H : Hp} {ta : TA} {ma : Option δ} {E : XK}
theorem ev_call {m : δ → Option β} (ha : EVA ta σ F H ma) : EV (tCall (spO m) [] E ta) σ F H (ma.bind fun x => m x) := fun F1 H1 l y e Q q => by
  obtain ⟨x, ex, e⟩ := Option.bind_eq_some_iff.mp e
  refine ha F1 H1 l x ex _ fun vs F2 H2 l2 r => ?_
  rw [List.append_nil]
  exact ⟨F2, x, y, l2.fh, r, e, fun v F3 H3 l3 r3 => q v F3 H3 (l2.trans l3) r3⟩
theorem evn_call {m : δ → Option (List β)} (ha : EVA ta σ F H ma) : EVN (tCall (spN m) [] E ta) σ F H (ma.bind fun x => m x) := fun F1 H1 l y e Q q => by
  obtain ⟨x, ex, e⟩ := Option.bind_eq_some_iff.mp e
  refine ha F1 H1 l x ex _ fun vs F2 H2 l2 r => ?_
  rw [List.append_nil]
  exact ⟨F2, x, y, l2.fh, r, e, fun p vs F3 H3 l3 h1 h2 h3 r3 => q p vs F3 H3 (l2.trans l3) (l2.h.free h1) h2 h3 r3⟩

/-! ### calls of built-ins -/
theorem ev_len {t : TE} {K : PySem.W.Frag} {m : Option (List α)} (h : EV t σ F H m) : EV (tCB (fun xs H Q => ∃ p ys, xs = [.ref p] ∧ (SqL K H p ys ∨ SqT K H p ys) ∧ Q (.int ys.length) H) (tCons t tNil)) σ F H (m.bind fun xs => some (xs.length : Int)) := fun F1 H1 l y e Q q => by
  obtain ⟨x, ex, e⟩ := Option.bind_eq_some_iff.mp e
  cases e
  refine h F1 H1 l x ex _ fun v F2 H2 l2 ⟨a, vs, e1, e2, r⟩ => ⟨a, vs, by rw [e1], .inl (sqL (l2.fh _ _ e2)), q _ F2 H2 l2 ?_⟩
  rw [r.length]
  rfl
theorem ev_lenS {t : TE} {K : PySem.W.Frag} {m : Option (Scr K)} (h : EV t σ F H m) : EV (tCB (fun xs H Q => ∃ p ys, xs = [.ref p] ∧ (SqL K H p ys ∨ SqT K H p ys) ∧ Q (.int ys.length) H) (tCons t tNil)) σ F H (m.bind fun xs => some (xs.l.length : Int)) := fun F1 H1 l y e Q q => by
  obtain ⟨x, ex, e⟩ := Option.bind_eq_some_iff.mp e
  cases e
  refine h F1 H1 l x ex _ fun v F2 H2 l2 ⟨a, e1, e2⟩ => ⟨a, _, by rw [e1], .inl (same_l l2.fh e2), q _ F2 H2 l2 ?_⟩
  rw [List.length_map]
  rfl
theorem ev_len2 {t : TE} {K : PySem.W.Frag} {m : Option (α × β)} (h : EV t σ F H m) : EV (tCB (fun xs H Q => ∃ p ys, xs = [.ref p] ∧ (SqL K H p ys ∨ SqT K H p ys) ∧ Q (.int ys.length) H) (tCons t tNil)) σ F H (m.bind fun _ => some (2 : Int)) := fun F1 H1 l y e Q q => by
  obtain ⟨x, ex, e⟩ := Option.bind_eq_some_iff.mp e
  cases e
  exact h F1 H1 l x ex _ fun v F2 H2 l2 ⟨a, v1, v2, e1, e2, r⟩ => ⟨a, [v1, v2], by rw [e1], .inr (sqT (l2.fh _ _ e2)), q _ F2 H2 l2 rfl⟩
theorem evn_list {t : TE} {K : PySem.W.Frag} {m : Option (List α)} (h : EV t σ F H m) : EVN (tCB (fun xs H Q => ∃ p ys, xs = [.ref p] ∧ (SqL K H p ys ∨ SqT K H p ys) ∧ ∀ l, H l = none → Q (.ref l) (upd H l (.lst ys))) (tCons t tNil)) σ F H m := fun F1 H1 l y e Q q =>
  h F1 H1 l y e _ fun v F2 H2 l2 ⟨a, vs, e1, e2, r⟩ => ⟨a, vs, by rw [e1], .inl (sqL (l2.fh _ _ e2)), fun p hp => q p vs F2 _ (l2.trans (.made l2.fh hp)) (l2.h.free hp) (l2.fh.free hp) upd_same r⟩
theorem ev_max2 {ta tb : TE} {ma mb : Option Int} (ha : EV ta σ F H ma) (hb : EV tb σ F H mb) : EV (tCB (fun xs H Q => ∃ i j, xs = [.int i, .int j] ∧ Q (.int (if j > i then j else i)) H) (tCons ta (tCons tb tNil))) σ F H (ma.bind fun i => mb.bind fun j => some (if j > i then j else i)) := fun F1 H1 l y e Q q => by
  obtain ⟨x, ex, e⟩ := Option.bind_eq_some_iff.mp e
  obtain ⟨x2, ex2, e⟩ := Option.bind_eq_some_iff.mp e
  cases e
  exact ha F1 H1 l x ex _ fun v F2 H2 l2 rv => hb F2 H2 (l.trans l2) x2 ex2 _ fun w F3 H3 l3 r3 => ⟨x, x2, by rw [show v = V.int x from rv, show w = V.int x2 from r3], q _ F3 H3 (l2.trans l3) rfl⟩
theorem ev_min2 {ta tb : TE} {ma mb : Option Int} (ha : EV ta σ F H ma) (hb : EV tb σ F H mb) : EV (tCB (fun xs H Q => ∃ i j, xs = [.int i, .int j] ∧ Q (.int (if j < i then j else i)) H) (tCons ta (tCons tb tNil))) σ F H (ma.bind fun i => mb.bind fun j => some (if j < i then j else i)) := fun F1 H1 l y e Q q => by
  obtain ⟨x, ex, e⟩ := Option.bind_eq_some_iff.mp e
  obtain ⟨x2, ex2, e⟩ := Option.bind_eq_some_iff.mp e
  cases e
  exact ha F1 H1 l x ex _ fun v F2 H2 l2 rv => hb F2 H2 (l.trans l2) x2 ex2 _ fun w F3 H3 l3 r3 => ⟨x, x2, by rw [show v = V.int x from rv, show w = V.int x2 from r3], q _ F3 H3 (l2.trans l3) rfl⟩
theorem ev_abs {t : TE} {m : Option Int} (h : EV t σ F H m) : EV (tCB (fun xs H Q => ∃ i, xs = [.int i] ∧ Q (.int (if i < 0 then -i else i)) H) (tCons t tNil)) σ F H (m.bind fun i => some (if i < 0 then -i else i)) := fun F1 H1 l y e Q q => by
  obtain ⟨x, ex, e⟩ := Option.bind_eq_some_iff.mp e
  cases e
  exact h F1 H1 l x ex _ fun v F2 H2 l2 r => ⟨x, by rw [show v = V.int x from r], q _ F2 H2 l2 rfl⟩
theorem ev_intB {t : TE} {m : Option Bool} (h : EV t σ F H m) : EV (tCB (fun xs H Q => (∃ i, xs = [.int i] ∧ Q (.int i) H) ∨ ∃ k, xs = [.bl k] ∧ Q (.int (if k then 1 else 0)) H) (tCons t tNil)) σ F H (m.bind fun k => some (if k then (1 : Int) else 0)) := fun F1 H1 l y e Q q => by
  obtain ⟨x, ex, e⟩ := Option.bind_eq_some_iff.mp e
  cases e
  exact h F1 H1 l x ex _ fun v F2 H2 l2 r => .inr ⟨x, by rw [show v = V.bl x from r], q _ F2 H2 l2 rfl⟩

/-! ### lists -/
theorem evn_cut {t : TE} {K : PySem.W.Frag} {m : Option (List α)} {tl th : TO} {lo hi : Option (Option Int)} (h : EV t σ F H m)
    (hl : ∀ F1 H1, Lat F H F1 H1 → ∀ i, lo = some i → ∀ Q : Option Int → Hp → Prop, (∀ F2 H2, Lat F1 H1 F2 H2 → Q i H2) → tl σ H1 Q)
    (hh : ∀ F1 H1, Lat F H F1 H1 → ∀ i, hi = some i → ∀ Q : Option Int → Hp → Prop, (∀ F2 H2, Lat F1 H1 F2 H2 → Q i H2) → th σ H1 Q) :
    EVN (tSl (rSlL K) t tl th) σ F H (m.bind fun xs => lo.bind fun i => hi.bind fun j => some (cutZ xs i j)) := fun F1 H1 l y e Q q => by
  obtain ⟨x, ex, e⟩ := Option.bind_eq_some_iff.mp e
  obtain ⟨i, ei, e⟩ := Option.bind_eq_some_iff.mp e
  obtain ⟨j, ej, e⟩ := Option.bind_eq_some_iff.mp e
  cases e
  refine h F1 H1 l x ex _ fun v F2 H2 l2 ⟨a, vs, e1, e2, r⟩ => hl F2 H2 (l.trans l2) i ei _ fun F3 H3 l3 => hh F3 H3 ((l.trans l2).trans l3) j ej _ fun F4 H4 l4 => ?_
  have L := (l2.trans l3).trans l4
  refine ⟨a, vs, e1, sqL (l4.h _ _ (l3.h _ _ (l2.fh _ _ e2))), fun p hp => q p _ F4 _ (L.trans (.made l4.fh hp)) (L.h.free hp) (l4.fh.free hp) upd_same ?_⟩
  have hln := r.length
  unfold cutZ cutV
  rw [hln]
  exact rpL.take _ (rpL.drop _ (rpL.mono (l3.f.trans l4.f) r))
theorem po_no : ∀ F1 H1, Lat F H F1 H1 → ∀ i, (some none : Option (Option Int)) = some i → ∀ Q : Option Int → Hp → Prop, (∀ F2 H2, Lat F1 H1 F2 H2 → Q i H2) → tNoPart σ H1 Q := fun F1 H1 l i e Q q => by
  cases e
  exact q F1 H1 (.refl l.fh)
theorem po_at {t : TE} {m : Option Int} (h : EV t σ F H m) : ∀ F1 H1, Lat F H F1 H1 → ∀ i, (m.bind fun x => some (some x)) = some i → ∀ Q : Option Int → Hp → Prop, (∀ F2 H2, Lat F1 H1 F2 H2 → Q i H2) → tPart t σ H1 Q := fun F1 H1 l i e Q q => by
  obtain ⟨x, ex, e⟩ := Option.bind_eq_some_iff.mp e
  cases e
  exact h F1 H1 l x ex _ fun v F2 H2 l2 r => ⟨x, r, q F2 H2 l2⟩
theorem evn_rev {t : TE} {K : PySem.W.Frag} {m : Option (List α)} (h : EV t σ F H m) : EVN (tRevL K t) σ F H (m.bind fun xs => some xs.reverse) := fun F1 H1 l y e Q q => by
  obtain ⟨x, ex, e⟩ := Option.bind_eq_some_iff.mp e
  cases e
  exact h F1 H1 l x ex _ fun v F2 H2 l2 ⟨a, vs, e1, e2, r⟩ => ⟨a, vs, e1, sqL (l2.fh _ _ e2), fun p hp => q p _ F2 _ (l2.trans (.made l2.fh hp)) (l2.h.free hp) (l2.fh.free hp) upd_same r.reverse⟩
theorem rvn_cat (xs ys : List α) : RVN rCat xs ys (catL xs ys) := fun F H v w s ⟨a, vs, e1, e2, r⟩ ⟨b, ws, e3, e4, r2⟩ zs e Q q => by
  unfold catL at e
  split at e
  · rename_i hl
    cases e
    refine ⟨a, b, vs, ws, e1, e3, s _ _ e2, s _ _ e4, sz_ok (by rw [r.length, r2.length]; exact hl), fun p hp => ?_⟩
    exact q p _ F _ (.made s hp) hp (s.free hp) upd_same (rpL.append r r2)
  · cases e
end
end Dw

set_option Elab.async false
set_option linter.all false
set_option maxRecDepth 100000
set_option maxHeartbeats 4000000
/-! The layer, third part: data compared, sorted, asked for their kind; defs as they stand. -/
namespace Dw
open PySem L2 Dv
open Rep (rp)
open RepA (ra)

/-! ### data -/
class Dat (α : Type) [Rep α] [DecidableEq α] where
  enc : α → PyData
  dep : Nat
  dp : ∀ {K : PySem.W.Frag} {x : α} {v : V} {F : Hp}, rp x v F → Dp K F v (enc x)
  lay : ∀ x : α, (enc x).canLay0 = true
  depth : ∀ x : α, (enc x).depth ≤ dep
  eqv : ∀ x y : α, PyData.eqv (enc x) (enc y) = decide (x = y)
instance : Dat Int := ⟨fun i => .int i, 0, fun h => by cases h; exact .int _, fun _ => by simp [PyData.canLay0], fun _ => by simp [PyData.depth], fun x y => by
  simp only [PyData.eqv]
  exact Bool.beq_eq_decide_eq _ _⟩
instance : Dat Bool := ⟨fun i => .bool i, 0, fun h => by cases h; exact .bl _, fun _ => by simp [PyData.canLay0], fun _ => by simp [PyData.depth], fun x y => by
  simp only [PyData.eqv]
  exact Bool.beq_eq_decide_eq _ _⟩
section
variable {α β : Type} [Rep α] [DecidableEq α] [Dat α] [Rep β] [DecidableEq β] [Dat β]
theorem dpAll {K : PySem.W.Frag} {F : Hp} : ∀ {xs : List α} {vs : List V}, rpL xs vs F → DpAll K F vs (xs.map Dat.enc)
  | [], [], _ => .nil
  | _ :: _, _ :: _, h => .cons (Dat.dp h.1) (dpAll h.2)
  | [], _ :: _, h => h.elim
  | _ :: _, [], h => h.elim
theorem layAll : ∀ xs : List α, PyData.canLayAll0 (xs.map Dat.enc) = true
  | [] => by simp [PyData.canLayAll0]
  | x :: xs => by simp [PyData.canLayAll0, Dat.lay x, layAll xs]
theorem depAll : ∀ xs : List α, PyData.depthAll (xs.map Dat.enc) ≤ Dat.dep α
  | [] => by simp [PyData.depthAll]
  | x :: xs => by
    have h1 := Dat.depth x
    have h2 := depAll xs
    simp only [List.map_cons, PyData.depthAll]
    omega
theorem eqvAll : ∀ xs ys : List α, PyData.eqvAll (xs.map Dat.enc) (ys.map Dat.enc) = decide (xs = ys)
  | [], [] => by simp [PyData.eqvAll]
  | [], _ :: _ => by simp [PyData.eqvAll]
  | _ :: _, [] => by simp [PyData.eqvAll]
  | x :: xs, y :: ys => by
    simp only [List.map_cons, PyData.eqvAll, Dat.eqv x y, eqvAll xs ys]
    simp
instance : Dat (List α) := ⟨fun xs => .list (xs.map Dat.enc), Dat.dep α + 1, fun ⟨a, vs, e, h, r⟩ => by rw [e]; exact .lst (sqL h) (dpAll r), fun xs => by
  simp only [PyData.canLay0]
  exact layAll xs, fun xs => by
  simp only [PyData.depth]
  exact Nat.succ_le_succ (depAll xs), fun xs ys => by
  simp only [PyData.eqv]
  exact eqvAll xs ys⟩
instance : Dat (α × β) := ⟨fun x => .tuple [Dat.enc x.1, Dat.enc x.2], max (Dat.dep α) (Dat.dep β) + 1, fun ⟨a, v, w, e, h, r1, r2⟩ => by rw [e]; exact .tup (sqT h) (.cons (Dat.dp r1) (.cons (Dat.dp r2) .nil)), fun x => by
  simp [PyData.canLay0, PyData.canLayAll0, Dat.lay], fun x => by
  have h1 := Dat.depth x.1
  have h2 := Dat.depth x.2
  simp only [PyData.depth, PyData.depthAll]
  omega, fun x y => by
  simp only [PyData.eqv, PyData.eqvAll, Dat.eqv]
  obtain ⟨a, b⟩ := x
  obtain ⟨c, d⟩ := y
  simp⟩
instance : Dat (Duo α β) := ⟨fun x => .list [Dat.enc x.a, Dat.enc x.b], max (Dat.dep α) (Dat.dep β) + 1, fun ⟨a, v, w, e, h, r1, r2⟩ => by rw [e]; exact .lst (sqL h) (.cons (Dat.dp r1) (.cons (Dat.dp r2) .nil)), fun x => by
  simp [PyData.canLay0, PyData.canLayAll0, Dat.lay], fun x => by
  have h1 := Dat.depth x.a
  have h2 := Dat.depth x.b
  simp only [PyData.depth, PyData.depthAll]
  omega, fun x y => by
  simp only [PyData.eqv, PyData.eqvAll, Dat.eqv]
  obtain ⟨a, b⟩ := x
  obtain ⟨c, d⟩ := y
  simp⟩
theorem shaped (x : α) (h : Dat.dep α ≤ 64 := by decide) : SeqAt.shaped (Dat.enc x) = true := by
  have h1 := Dat.depth x
  show ((Dat.enc x).canLay0 && decide ((Dat.enc x).depth ≤ 64)) = true
  rw [Bool.and_eq_true]
  exact ⟨Dat.lay x, decide_eq_true (by omega)⟩
theorem dp_up {K : PySem.W.Frag} {F H : Hp} (s : Same F H) {x : α} {v : V} (h : rp x v F) : Dp K H v (Dat.enc x) := Dat.dp (Rep.mono s h)
theorem rv_eqD {K : PySem.W.Frag} (x y : α) (h : Dat.dep α ≤ 64 := by decide) : RV (rEqD K) x y (some (decide (x = y))) := fun F H v w s rv rw' z e Q q => by
  cases e
  refine ⟨Dat.enc x, Dat.enc y, dp_up s rv, dp_up s rw', shaped x h, shaped y h, q _ F H (.refl s) ?_⟩
  rw [Dat.eqv]
  rfl
theorem rv_neD {K : PySem.W.Frag} (x y : α) (h : Dat.dep α ≤ 64 := by decide) : RV (rNeD K) x y (some (!decide (x = y))) := fun F H v w s rv rw' z e Q q => by
  cases e
  refine ⟨Dat.enc x, Dat.enc y, dp_up s rv, dp_up s rw', shaped x h, shaped y h, q _ F H (.refl s) ?_⟩
  rw [Dat.eqv]
  rfl
theorem any_enc (x : α) : ∀ xs : List α, ((xs.map Dat.enc).any fun z => PyData.eqv z (Dat.enc x)) = decide (x ∈ xs)
  | [] => by simp
  | y :: ys => by
    rw [List.map_cons, List.any_cons, any_enc x ys, Dat.eqv]
    by_cases h : y = x
    · simp [h]
    · have h' : ¬ x = y := fun e => h e.symm
      simp [h, h']
theorem rv_inD {K : PySem.W.Frag} (x : α) (xs : List α) (h : Dat.dep α + 1 ≤ 64 := by decide) : RV (rInD K) x xs (some (memL x xs)) := fun F H v w s rv rw' z e Q q => by
  cases e
  refine ⟨Dat.enc x, xs.map Dat.enc, dp_up s rv, dp_up (α := List α) s rw', shaped x (by omega), shaped (α := List α) xs h, q _ F H (.refl s) ?_⟩
  rw [any_enc]
  rfl
theorem rv_notInD {K : PySem.W.Frag} (x : α) (xs : List α) (h : Dat.dep α + 1 ≤ 64 := by decide) : RV (rNotInD K) x xs (some (!memL x xs)) := fun F H v w s rv rw' z e Q q => by
  cases e
  refine ⟨Dat.enc x, xs.map Dat.enc, dp_up s rv, dp_up (α := List α) s rw', shaped x (by omega), shaped (α := List α) xs h, q _ F H (.refl s) ?_⟩
  rw [any_enc]
  rfl
end
theorem flat_ints (xs : List Int) : (xs.map V.int).all flatV = true := by
  induction xs with
  | nil => rfl
  | cons x xs ih => exact ih
theorem inV_ints (x : Int) : ∀ xs : List Int, inV (.int x) (xs.map V.int) = decide (x ∈ xs)
  | [] => by simp [inV]
  | y :: ys => by
    have ih := inV_ints x ys
    unfold inV at ih ⊢
    rw [List.map_cons, List.any_cons, ih]
    show ((y == x) || _) = _
    by_cases h : y = x
    · simp [h]
    · have h' : ¬ x = y := fun e => h e.symm
      simp [h, h']
theorem rv_inI {K : PySem.W.Frag} (x : Int) (xs : List Int) : RV (rIn K false) x xs (some (memL x xs)) := fun F H v w s rv ⟨a, vs, e1, e2, r⟩ z e Q q => by
  cases e
  cases rv
  rw [rpL_ints r] at e2
  refine ⟨a, _, e1, .inl (sqL (s _ _ e2)), rfl, flat_ints xs, q _ F H (.refl s) ?_⟩
  rw [if_neg Bool.false_ne_true, inV_ints]
  rfl
theorem rv_notInI {K : PySem.W.Frag} (x : Int) (xs : List Int) : RV (rIn K true) x xs (some (!memL x xs)) := fun F H v w s rv ⟨a, vs, e1, e2, r⟩ z e Q q => by
  cases e
  cases rv
  rw [rpL_ints r] at e2
  refine ⟨a, _, e1, .inl (sqL (s _ _ e2)), rfl, flat_ints xs, q _ F H (.refl s) ?_⟩
  rw [if_pos rfl, inV_ints]
  rfl

/-! ### order of pairs, sorting -/
theorem rv_leT {K : PySem.W.Frag} (x y : Int × Int) : RV (rLeT K) x y (some (leP x y)) := fun F H v w s ⟨a, v1, v2, e1, e2, r1, r2⟩ ⟨b, w1, w2, e3, e4, r3, r4⟩ z e Q q => by
  cases e
  cases r1
  cases r2
  cases r3
  cases r4
  refine ⟨a, b, [x.1, x.2], [y.1, y.2], e1, e3, sqT (s _ _ e2), sqT (s _ _ e4), q _ F H (.refl s) ?_⟩
  show V.bl _ = V.bl _
  congr 1
  show (if decide (x.1 = y.1) = true then (if decide (x.2 = y.2) = true then decide (2 ≤ 2) else decide (x.2 ≤ y.2)) else decide (x.1 ≤ y.1)) = leP x y
  unfold leP
  by_cases h1 : x.1 = y.1
  · by_cases h2 : x.2 = y.2
    · simp [h1, h2]
    · simp [h1, h2]
  · simp [h1]
def kOf (F : Hp) : V → Int × Int
  | .ref t => match F t with
    | some (.tup [.int a, .int b]) => (a, b)
    | _ => (0, 0)
  | _ => (0, 0)
theorem kOf_rp {F : Hp} {x : Int × Int} {v : V} (h : rp x v F) : kOf F v = x ∧ ∃ t, v = .ref t ∧ F t = some (.tup [.int x.1, .int x.2]) := by
  obtain ⟨a, v1, v2, e1, e2, r1, r2⟩ := h
  cases r1
  cases r2
  subst e1
  refine ⟨?_, a, rfl, e2⟩
  show (match F a with
    | some (.tup [.int a, .int b]) => (a, b)
    | _ => ((0, 0) : Int × Int)) = x
  rw [e2]
theorem rpL_kOf {F : Hp} : ∀ {xs : List (Int × Int)} {vs : List V}, rpL xs vs F → xs = vs.map (kOf F) ∧ ∀ v ∈ vs, ∃ t, v = .ref t ∧ F t = some (.tup [.int (kOf F v).1, .int (kOf F v).2])
  | [], [], _ => ⟨rfl, fun _ h => by simp at h⟩
  | x :: xs, v :: vs, h => by
    obtain ⟨e, h2⟩ := rpL_kOf h.2
    obtain ⟨e1, t, e2, e3⟩ := kOf_rp h.1
    refine ⟨by rw [List.map_cons, e1, ← e], fun w hw => ?_⟩
    rcases List.mem_cons.mp hw with rfl | hw
    · rw [e1]
      exact ⟨t, e2, e3⟩
    · exact h2 w hw
  | [], _ :: _, h => h.elim
  | _ :: _, [], h => h.elim
theorem rpL_of_kOf {F : Hp} : ∀ {vs : List V}, (∀ v ∈ vs, ∃ t, v = .ref t ∧ F t = some (.tup [.int (kOf F v).1, .int (kOf F v).2])) → rpL (vs.map (kOf F)) vs F
  | [], _ => trivial
  | v :: vs, h => by
    obtain ⟨t, e1, e2⟩ := h v List.mem_cons_self
    exact ⟨⟨t, _, _, e1, e2, rfl, rfl⟩, rpL_of_kOf fun w hw => h w (List.mem_cons_of_mem _ hw)⟩
section
variable {t : TE} {σ : L2.St} {F H : Hp} {K : PySem.W.Frag}
theorem evn_sortP {m : Option (List (Int × Int))} (h : EV t σ F H m) : EVN (tCB (rSortedPO K) (tCons t tNil)) σ F H (m.bind fun xs => some (srt leP xs)) := fun F1 H1 l y e Q q => by
  obtain ⟨xs, ex, e⟩ := Option.bind_eq_some_iff.mp e
  cases e
  refine h F1 H1 l xs ex _ fun v F2 H2 l2 ⟨a, vs, e1, e2, r⟩ => ?_
  obtain ⟨k1, k2⟩ := rpL_kOf r
  refine ⟨a, vs, kOf F2, by rw [e1], sqL (l2.fh _ _ e2), fun x hx => ?_, fun ys p hs hst hp => ?_⟩
  · obtain ⟨t, e3, e4⟩ := k2 x hx
    exact ⟨t, e3, l2.fh _ _ e4⟩
  · have e5 : ys.map (kOf F2) = srt leP xs := by
      refine srt_uniq ordP ?_ ?_
      · rw [k1]
        exact hst.perm.map _
      · rw [List.pairwise_map]
        refine List.Pairwise.imp (fun {x y} (hxy : SrtO.lexB (kOf F2 y) (kOf F2 x) = false) => ?_) hs
        have := SrtO.lexB_no.mp hxy
        unfold leP
        split <;> simp only [decide_eq_true_eq] <;> omega
    refine q p ys F2 _ (l2.trans (.made l2.fh hp)) (l2.h.free hp) (l2.fh.free hp) upd_same ?_
    rw [← e5]
    exact rpL_of_kOf fun v hv => k2 v (hst.perm.mem_iff.mp hv)
theorem evn_sortI {m : Option (List Int)} (h : EV t σ F H m) : EVN (tCB (rSorted K) (tCons t tNil)) σ F H (m.bind fun xs => srtI xs) := fun F1 H1 l y e Q q => by
  obtain ⟨xs, ex, e⟩ := Option.bind_eq_some_iff.mp e
  unfold srtI at e
  split at e
  · rename_i hl
    cases e
    refine h F1 H1 l xs ex _ fun v F2 H2 l2 ⟨a, vs, e1, e2, r⟩ => ?_
    rw [rpL_ints r] at e2
    refine ⟨a, xs, by rw [e1], sqL (l2.fh _ _ e2), hl, fun ns' p hp hs hn => ?_⟩
    have e5 : ns' = srt leI xs := srt_uniq ordI hp (List.Pairwise.imp (fun {a b} h => by unfold leI; exact decide_eq_true h) hs)
    subst e5
    exact q p _ F2 _ (l2.trans (.made l2.fh hn)) (l2.h.free hn) (l2.fh.free hn) upd_same (rpL_ints' _)
  · cases e
end

/-! ### isinstance -/
class Typ (α : Type) [Rep α] where
  name : String
  ty : ∀ {K : PySem.W.Frag} {x : α} {v : V} {F : Hp}, rp x v F → TyX K F v (.type name)
instance : Typ Int := ⟨"int", fun h => by cases h; exact .base (.int _)⟩
instance : Typ Bool := ⟨"bool", fun h => by cases h; exact .base (.bl _)⟩
instance : Typ Str := ⟨"str", fun h => by cases h; exact .base (.str _)⟩
instance {α : Type} [Rep α] : Typ (List α) := ⟨"list", fun ⟨a, vs, e, h, r⟩ => by rw [e]; exact .base (.lst h)⟩
instance {α β : Type} [Rep α] [Rep β] : Typ (α × β) := ⟨"tuple", fun ⟨a, v, w, e, h, r⟩ => by rw [e]; exact .base (.tup h)⟩
section
variable {α : Type} [Rep α] [Typ α] {t : TE} {σ : L2.St} {F H : Hp} {K : PySem.W.Frag}
theorem ev_isi {m : Option α} (h : EV t σ F H m) {n : String} (b : Bool) (hk : kitB (Typ.name α) n = some b := by decide +kernel) : EV (tCB (rIsi K) (tCons t (tCons (tC (.ty n)) tNil))) σ F H (m.bind fun _ => some b) := fun F1 H1 l y e Q q => by
  obtain ⟨x, ex, e⟩ := Option.bind_eq_some_iff.mp e
  cases e
  exact h F1 H1 l x ex _ fun v F2 H2 l2 r => ⟨v, .ty n, _, _, b, rfl, .ty n, Typ.ty (Rep.mono l2.fh r), kit_ty hk, q _ F2 H2 l2 rfl⟩
end

/-! ### defs as they stand -/
structure Fn (P : Program) (w : World) (K : PySem.W.Frag) (mg : Str → Option Value) (base : Heap) (CX : CXT) (k : Nat) (x : Str) (ps : List Str) (sp : Sp) : Prop where
  ex : ∃ f fd, mg x = some (.ref f) ∧ PySem.W.keepIn K (.ref f) = true ∧ Binds K fd ps [] ∧ FnOk P w K mg base CX k f fd ps sp
theorem pe_fn {X : Cx} {k : Nat} {x : Str} {ps : List Str} {sp : Sp} {p pos : Pos} {e : Expr} {es : List Expr} {t : TA} (F : Fn X.prog X.w X.K X.mg X.base CX0 k x ps sp) (hr : Room k X.A) (hg : Gl X x)
    (ha : PA X (e :: es) t) (hdb : (x == ("__debug__" : Str)) = false := by decide) (he : starEach (e :: es) X.env = (false, eval e X.env) :: starEach es X.env := by rfl) (hpl : (backTo pos (starEach es X.env)).any (·.1) = false := by rfl) :
    PE X (.Call (.Name x p) (e :: es) [] pos) (tCall sp [] E0 t) := by
  obtain ⟨f, fd, h1, h2, h3, h4⟩ := F.ex
  exact pe_call h4 hr hg h1 h2 h3 .nil pass0 ha hdb he hpl
theorem hu64 {A : Around} {k : Nat} (hr : Room k A) : A.units + 64 < cLine := by have := hr.un; omega
theorem hu65 {A : Around} {k : Nat} (hr : Room k A) : A.units + 65 < cLine := by have := hr.un; omega
theorem hu0 {A : Around} {k : Nat} (hr : Room k A) : A.units < cLine := by have := hr.un; omega
end Dw

set_option Elab.async false
set_option linter.all false
set_option maxRecDepth 100000
set_option maxHeartbeats 4000000
/-! The layer, fourth part: chains of three, ranges as lists, and what else is asked for now and then. -/
namespace L2
open PySem PySem.Spec PyProof.Rows
/-- a op1 b op2 c op3 d -/
def tChain3 (r r' r'' : R2) (ta tb tc td : TE) : TE := fun σ H Q => ta σ H fun x H1 => tb σ H1 fun y H2 => r x y H2 fun z H3 => ∃ k, z = .bl k ∧
  (if k = true then tc σ H3 fun w' H4 => r' y w' H4 fun z' H5 => ∃ k', z' = .bl k' ∧ (if k' = true then td σ H5 fun u' H6 => r'' w' u' H6 Q else Q (.bl false) H5) else Q (.bl false) H3)
section
variable {X : Cx} {a b c d : Expr} {ta tb tc td : TE} {pos : Pos}
theorem pt_chain3 {op op' op'' : CmpOp} {r r' r'' : R2} (ho : OpR X (compareOp op) r) (ho' : OpR X (compareOp op') r') (ho'' : OpR X (compareOp op'') r'') (ha : PE X a ta) (hb : PE X b tb) (hc : PE X c tc) (hd : PE X d td)
    (hm : lastMarks [op, op', op''] [b, c, d] = false := by with_unfolding_all rfl) : PT X (.Compare a [op, op', op''] [b, c, d] pos) (tTest (tChain3 r r' r'' ta tb tc td)) := by
  refine ⟨fun pins s σ H Q I h => ?_⟩
  refine isTrue_chain (thn (ha.run pins s σ H _ I h) fun v s1 ⟨x, H1, I1, r1, q1⟩ => test_link (thn (hb.run pins s1 σ H1 _ I1 q1) fun u s2 ⟨y, H2, I2, r2, q2⟩ =>
    thn (ho pins s2 σ H2 x y v u _ I2 r1 r2 q2) fun e s3 ⟨z, H3, I3, r3, k, ez, q3⟩ => ?_)) hm
  subst ez
  cases r3
  refine wpAny_truthy_bool ?_
  cases k with
  | false =>
    obtain ⟨k', e', q'⟩ := q3
    cases e'
    exact ite_ff ⟨H3, I3, q'⟩
  | true =>
    refine ite_tt (test_link (thn (hc.run pins s3 σ H3 _ I3 q3) fun w' s4 ⟨z', H4, I4, r4, q4⟩ => thn (ho' pins s4 σ H4 y z' u w' _ I4 r2 r4 q4) fun d' s5 ⟨z2, H5, I5, r5, k2, e2, q5⟩ => ?_))
    subst e2
    cases r5
    refine wpAny_truthy_bool ?_
    cases k2 with
    | false =>
      obtain ⟨k', e', q'⟩ := q5
      cases e'
      exact ite_ff ⟨H5, I5, q'⟩
    | true =>
      refine ite_tt (test_last (thn (hd.run pins s5 σ H5 _ I5 q5) fun u' s6 ⟨z6, H6, I6, r6, q6⟩ => thn (ho'' pins s6 σ H6 z' z6 w' u' _ I6 r4 r6 q6) fun d' s7 ⟨z7, H7, I7, r7, k7, e7, q7⟩ => ?_))
      subst e7
      cases r7
      exact wpAny_truthy_bool ⟨H7, I7, q7⟩
end
end L2
namespace Dw
open PySem L2 Dv
open Rep (rp)
open RepA (ra)
section
variable {α β γ δ : Type} [Rep α] [Rep β] [Rep γ] [Rep δ] {t : TE} {σ : L2.St} {F H : Hp} {K : PySem.W.Frag}
theorem ev_chain3 {ta tb tc td : TE} {r r' r'' : R2} {ma : Option α} {mb : Option β} {mc : Option γ} {md : Option δ} {k : α → β → Option Bool} {k' : β → γ → Option Bool} {k'' : γ → δ → Option Bool} (ha : EV ta σ F H ma) (hb : EV tb σ F H mb) (hc : EV tc σ F H mc) (hd : EV td σ F H md)
    (hr : ∀ x y, RV r x y (k x y)) (hr' : ∀ x y, RV r' x y (k' x y)) (hr'' : ∀ x y, RV r'' x y (k'' x y)) :
    EV (tChain3 r r' r'' ta tb tc td) σ F H (ma.bind fun x => mb.bind fun y => (k x y).bind fun b => if b then mc.bind fun z => (k' y z).bind fun b => if b then md.bind fun u => k'' z u else some false else some false) := fun F1 H1 l z e Q q => by
  obtain ⟨x, ex, e⟩ := Option.bind_eq_some_iff.mp e
  obtain ⟨y, ey, e⟩ := Option.bind_eq_some_iff.mp e
  obtain ⟨b, eb, e⟩ := Option.bind_eq_some_iff.mp e
  refine ha F1 H1 l x ex _ fun v F2 H2 l2 rv => hb F2 H2 (l.trans l2) y ey _ fun w F3 H3 l3 rw' => ?_
  refine hr x y F3 H3 v w l3.fh (up rv l3) rw' b eb _ fun u F4 H4 l4 ru => ⟨b, ru, ?_⟩
  cases b with
  | true =>
    refine iteT ?_
    obtain ⟨z1, ez1, e⟩ := Option.bind_eq_some_iff.mp e
    obtain ⟨b2, eb2, e⟩ := Option.bind_eq_some_iff.mp e
    refine hc F4 H4 (((l.trans l2).trans l3).trans l4) z1 ez1 _ fun w2 F5 H5 l5 r5 => ?_
    refine hr' y z1 F5 H5 w w2 l5.fh (up (up rw' l4) l5) r5 b2 eb2 _ fun u6 F6 H6 l6 r6 => ⟨b2, r6, ?_⟩
    cases b2 with
    | true =>
      refine iteT ?_
      obtain ⟨z3, ez3, e⟩ := Option.bind_eq_some_iff.mp e
      refine hd F6 H6 (((((l.trans l2).trans l3).trans l4).trans l5).trans l6) z3 ez3 _ fun w7 F7 H7 l7 r7 => ?_
      exact hr'' z1 z3 F7 H7 w2 w7 l7.fh (up (up r5 l6) l7) r7 z e Q fun u8 F8 H8 l8 r8 => q u8 F8 H8 ((((((l2.trans l3).trans l4).trans l5).trans l6).trans l7).trans l8) r8
    | false =>
      have e' : false = z := Option.some.inj e
      subst e'
      exact iteF (q _ F6 H6 ((((l2.trans l3).trans l4).trans l5).trans l6) rfl)
  | false =>
    have e' : false = z := Option.some.inj e
    subst e'
    exact iteF (q _ F4 H4 ((l2.trans l3).trans l4) rfl)
theorem rv_isB (x y : Bool) : RV rIsB x y (some (decide (x = y))) := fun F H v w s rv rw' z e Q q => by
  cases e
  exact ⟨x, y, rv, rw', q _ F H (.refl s) rfl⟩
theorem rv_isnotB (x y : Bool) : RV rNotB x y (some (!decide (x = y))) := fun F H v w s rv rw' z e Q q => by
  cases e
  exact ⟨x, y, rv, rw', q _ F H (.refl s) rfl⟩
theorem evn_lrng {m : Option Int} (h : EV t σ F H m) : EVN (tLstRg (tRg1 t)) σ F H (m.bind fun n => lrng n) := fun F1 H1 l xs e Q q => by
  obtain ⟨n, en, e⟩ := Option.bind_eq_some_iff.mp e
  unfold lrng at e
  split at e
  · rename_i c
    cases e
    refine h F1 H1 l n en _ fun v F2 H2 l2 r => ⟨n, r, ⟨by omega, by omega, by omega, by omega, ?_⟩, fun p hp => ?_⟩
    · have : (2 : Nat) ^ 24 = 16777216 := by decide
      rw [this]
      omega
    · refine q p _ F2 _ (l2.trans (.made l2.fh hp)) (l2.h.free hp) (l2.fh.free hp) upd_same ?_
      unfold rgV
      have e1 : (n - 0).toNat = n.toNat := by rw [Int.sub_zero]
      rw [e1]
      have e2 : (List.range n.toNat).map (fun i => V.int (0 + ((i : Nat) : Int))) = ((List.range n.toNat).map fun i => ((i : Nat) : Int)).map V.int := by
        rw [List.map_map]
        refine List.map_congr_left fun i _ => ?_
        show V.int (0 + (i : Int)) = V.int (i : Int)
        rw [Int.zero_add]
      rw [e2]
      exact rpL_ints' _
  · cases e
/-- a part of the script -/
theorem evn_cutS {m : Option (Scr K)} {tl th : TO} {lo hi : Option (Option Int)} (h : EV t σ F H m)
    (hl : ∀ F1 H1, Lat F H F1 H1 → ∀ i, lo = some i → ∀ Q : Option Int → Hp → Prop, (∀ F2 H2, Lat F1 H1 F2 H2 → Q i H2) → tl σ H1 Q)
    (hh : ∀ F1 H1, Lat F H F1 H1 → ∀ i, hi = some i → ∀ Q : Option Int → Hp → Prop, (∀ F2 H2, Lat F1 H1 F2 H2 → Q i H2) → th σ H1 Q) :
    EVN (tSl (rSlL K) t tl th) σ F H (m.bind fun xs => lo.bind fun i => hi.bind fun j => some (cutZ xs.l i j)) := fun F1 H1 l y e Q q => by
  obtain ⟨x, ex, e⟩ := Option.bind_eq_some_iff.mp e
  obtain ⟨i, ei, e⟩ := Option.bind_eq_some_iff.mp e
  obtain ⟨j, ej, e⟩ := Option.bind_eq_some_iff.mp e
  cases e
  refine h F1 H1 l x ex _ fun v F2 H2 l2 ⟨a, e1, e2⟩ => hl F2 H2 (l.trans l2) i ei _ fun F3 H3 l3 => hh F3 H3 ((l.trans l2).trans l3) j ej _ fun F4 H4 l4 => ?_
  have L := (l2.trans l3).trans l4
  refine ⟨a, _, e1, same_l (l3.h.trans l4.h) (same_l l2.fh e2), fun p hp => q p _ F4 _ (L.trans (.made l4.fh hp)) (L.h.free hp) (l4.fh.free hp) upd_same ?_⟩
  unfold cutZ cutV
  rw [List.length_map]
  exact rpL.take _ (rpL.drop _ (rpL_ints' _))
theorem ev_powL {ta tb : TE} {x y n : Int} (ha : EV ta σ F H (some x)) (hb : EV tb σ F H (some y)) (hc : CPow x y) (hn : x ^ y.toNat = n) : EV (tOp (rI CPow fun i j => .int (i ^ j.toNat)) ta tb) σ F H (some n) := fun F1 H1 l z e Q q => by
  cases e
  refine ha F1 H1 l x rfl _ fun v F2 H2 l2 rv => hb F2 H2 (l.trans l2) y rfl _ fun w F3 H3 l3 rw' => ?_
  exact ⟨x, y, rv, rw', hc, q _ F3 H3 (l2.trans l3) (show V.int _ = V.int n by rw [hn])⟩
theorem rv_divW (x y : Int) : RV (rI CDivW fun i j => .int (i / j)) x y (divW x y) := rv_I x y fun z e => by
  unfold divW at e
  split at e
  · rename_i c
    cases e
    exact ⟨c, rfl⟩
  · cases e
end
end Dw
/-! ### rules whose reading names the written part K itself (for use within a comprehension) -/
namespace Dw
open PySem L2 Dv
section
variable {X : Cx} {K : PySem.W.Frag}
theorem ix_listK (hK : X.K = K) : IxR X (rIxL K) := hK ▸ ix_list
theorem ix_tupK (hK : X.K = K) : IxR X (rIxT K) := hK ▸ ix_tup
theorem op_in_seqK (hK : X.K = K) : OpR X (compareOp .In) (rIn K false) := hK ▸ op_in_seq
theorem op_notIn_seqK (hK : X.K = K) : OpR X (compareOp .NotIn) (rIn K true) := hK ▸ op_notIn_seq
theorem op_inDK (hK : X.K = K) (hu : X.A.units + 65 < cLine) : OpR X (compareOp .In) (rInD K) := hK ▸ op_inD hu
theorem op_notInDK (hK : X.K = K) (hu : X.A.units + 65 < cLine) : OpR X (compareOp .NotIn) (rNotInD K) := hK ▸ op_notInD hu
theorem op_eqDK (hK : X.K = K) (hu : X.A.units + 64 < cLine) : OpR X (compareOp .Eq) (rEqD K) := hK ▸ op_eqD hu
theorem op_neDK (hK : X.K = K) (hu : X.A.units + 64 < cLine) : OpR X (compareOp .NotEq) (rNeD K) := hK ▸ op_neD hu
theorem op_leTK (hK : X.K = K) (hu : X.A.units < cLine) : OpR X (compareOp .LtE) (rLeT K) := hK ▸ op_leT hu
theorem sl_listK (hK : X.K = K) : SlR X (rSlL K) := hK ▸ sl_list
theorem call_len_seqK (hK : X.K = K) : CallR X (.builtin "len") (fun xs H Q => ∃ p ys, xs = [.ref p] ∧ (SqL K H p ys ∨ SqT K H p ys) ∧ Q (.int ys.length) H) := hK ▸ call_len_seq
theorem call_list_ofK (hK : X.K = K) : CallR X (.type "list") (fun xs H Q => ∃ p ys, xs = [.ref p] ∧ (SqL K H p ys ∨ SqT K H p ys) ∧ ∀ l, H l = none → Q (.ref l) (upd H l (.lst ys))) := hK ▸ call_list_of
theorem cr_sortedPOK (hK : X.K = K) : CallR X (.builtin "sorted") (rSortedPO K) := hK ▸ cr_sortedPO
theorem cr_sortedK (hK : X.K = K) : CallR X (.builtin "sorted") (rSorted K) := hK ▸ cr_sorted
theorem call_isiK (hK : X.K = K) : CallR X (.builtin "isinstance") (rIsi K) := hK ▸ call_isi
theorem pi_listK {tg l : Expr} {tl : TE} (hK : X.K = K) (hl : PE X l tl) : PI X tg l (iList K tl) := hK ▸ pi_list hl
theorem pi_tupK {tg l : Expr} {tl : TE} (hK : X.K = K) (hl : PE X l tl) : PI X tg l (iTup K tl) := hK ▸ pi_tup hl
theorem mt_indexK (hK : X.K = K) : MtR X "list.index" (rIndex K) := hK ▸ mt_index
theorem pe_bmK {T name id : String} {r : V → List V → Hp → VK → Prop} {o : Expr} {to : TE} {e : Expr} {es : List Expr} {t : TA} {apos pos : Pos} (hK : X.K = K) (h : PE X (.Call (.Attribute o name apos) (e :: es) [] pos) (tBM X.K T r to t)) : PE X (.Call (.Attribute o name apos) (e :: es) [] pos) (tBM K T r to t) := hK ▸ h
theorem pg_tup2K {i j : Nat} {es : List Expr} {k : Nat} {pos : Pos} {t : TGs} {n : Nat} (hK : X.K = K) (h : PG X (.Tuple es k pos) (gTup X.K n t)) : PG X (.Tuple es k pos) (gTup K n t) := hK ▸ h
end
end Dw

set_option Elab.async false
set_option linter.all false
set_option maxRecDepth 100000
set_option maxHeartbeats 4000000
/-! The layer, fifth part: defs that refuse, and refusals caught. -/
namespace Dw
open PySem L2 Dv
open Rep (rp)
open RepA (ra)
section
variable {α β γ R : Type} [Rep α] [Rep β] [Rep γ] {cl : Er → Value} {W : WX} {t : TE} {σ : L2.St} {F H : Hp} {K : PySem.W.Frag}
/-- what an expression is worth that may refuse: cl tells the classes, W what is wished then -/
def EX (cl : Er → Value) (W : WX) (t : TE) (σ : L2.St) (F H : Hp) (m : Rs α) : Prop :=
  ∀ F1 H1, Lat F H F1 H1 → ∀ y, m = some y → ∀ Q : VK, (∀ x, y = .ok x → ∀ v F2 H2, Lat F1 H1 F2 H2 → rp x v F2 → Q v H2) →
    (∀ e, y = .error e → ∀ F2 H2, Lat F1 H1 F2 H2 → W (cl e) none σ H2) → t σ H1 Q
/-- the same of arguments -/
def EXA {δ : Type} [RepA δ] (cl : Er → Value) (W : WX) (t : TA) (σ : L2.St) (F H : Hp) (m : Rs δ) : Prop :=
  ∀ F1 H1, Lat F H F1 H1 → ∀ y, m = some y → ∀ Q : List V → Hp → Prop, (∀ x, y = .ok x → ∀ vs F2 H2, Lat F1 H1 F2 H2 → ra x vs F2 → Q vs H2) →
    (∀ e, y = .error e → ∀ F2 H2, Lat F1 H1 F2 H2 → W (cl e) none σ H2) → t σ H1 Q
theorem EV.x {m : Option α} (h : EV t σ F H m) : EX cl W t σ F H (m.bind fun x => some (.ok x)) := fun F1 H1 l y e Q q _ => by
  obtain ⟨x, ex, e⟩ := Option.bind_eq_some_iff.mp e
  cases e
  exact h F1 H1 l x ex Q fun v F2 H2 l2 r => q x rfl v F2 H2 l2 r
theorem EVA.x {δ : Type} [RepA δ] {t : TA} {m : Option δ} (h : EVA t σ F H m) : EXA cl W t σ F H (m.bind fun x => some (.ok x)) := fun F1 H1 l y e Q q _ => by
  obtain ⟨x, ex, e⟩ := Option.bind_eq_some_iff.mp e
  cases e
  exact h F1 H1 l x ex Q fun v F2 H2 l2 r => q x rfl v F2 H2 l2 r
theorem exB_some {y : Except Er α} {k : α → Rs β} {z : Except Er β} (h : exB y k = some z) : (∃ x, y = .ok x ∧ k x = some z) ∨ ∃ e, y = .error e ∧ z = .error e := by
  cases y with
  | ok x => exact .inl ⟨x, rfl, h⟩
  | error e => exact .inr ⟨e, rfl, by cases h; rfl⟩
theorem exa_cons {δ : Type} [RepA δ] {tr : TA} {m : Rs α} {mr : Rs δ} (h : EX cl W t σ F H m) (hr : EXA cl W tr σ F H mr) : EXA cl W (tCons t tr) σ F H (m.bind fun y => exB y fun x => mr.bind fun z => exB z fun w => some (.ok (x, w))) := fun F1 H1 l y e Q q qe => by
  obtain ⟨y1, e1, e⟩ := Option.bind_eq_some_iff.mp e
  refine h F1 H1 l y1 e1 _ (fun x ex v F2 H2 l2 rv => ?_) (fun e2 ee F2 H2 l2 => ?_)
  · subst ex
    obtain ⟨y2, e3, e⟩ := Option.bind_eq_some_iff.mp (show (mr.bind fun z => exB z fun w => some (.ok (x, w))) = some y from e)
    refine hr F2 H2 (l.trans l2) y2 e3 _ (fun w ew ws F3 H3 l3 rw' => ?_) (fun e4 ee F3 H3 l3 => ?_)
    · subst ew
      cases e
      exact q (x, w) rfl (v :: ws) F3 H3 (l2.trans l3) ⟨v, ws, rfl, (up rv l3), rw'⟩
    · subst ee
      cases e
      exact qe e4 rfl F3 H3 (l2.trans l3)
  · subst ee
    cases e
    exact qe e2 rfl F2 H2 l2
theorem ex_some {m : Rs α} (h : EX cl W t σ F H m) : EX cl W t σ F H (m.bind fun y => exB y fun x => some (.ok (some x))) := fun F1 H1 l z e Q q qe => by
  obtain ⟨y1, e1, e⟩ := Option.bind_eq_some_iff.mp e
  refine h F1 H1 l y1 e1 Q (fun x ex v F2 H2 l2 rv => ?_) (fun e2 ee F2 H2 l2 => ?_)
  · subst ex
    cases e
    exact q (some x) rfl v F2 H2 l2 rv
  · subst ee
    cases e
    exact qe e2 rfl F2 H2 l2
theorem ex_inl {m : Rs α} (h : EX cl W t σ F H m) : EX cl W t σ F H (m.bind fun y => exB y fun x => some (.ok (Sum.inl x : α ⊕ β))) := fun F1 H1 l z e Q q qe => by
  obtain ⟨y1, e1, e⟩ := Option.bind_eq_some_iff.mp e
  refine h F1 H1 l y1 e1 Q (fun x ex v F2 H2 l2 rv => ?_) (fun e2 ee F2 H2 l2 => ?_)
  · subst ex
    cases e
    exact q (.inl x) rfl v F2 H2 l2 rv
  · subst ee
    cases e
    exact qe e2 rfl F2 H2 l2
theorem ex_inr {m : Rs β} (h : EX cl W t σ F H m) : EX cl W t σ F H (m.bind fun y => exB y fun x => some (.ok (Sum.inr x : α ⊕ β))) := fun F1 H1 l z e Q q qe => by
  obtain ⟨y1, e1, e⟩ := Option.bind_eq_some_iff.mp e
  refine h F1 H1 l y1 e1 Q (fun x ex v F2 H2 l2 rv => ?_) (fun e2 ee F2 H2 l2 => ?_)
  · subst ex
    cases e
    exact q (.inr x) rfl v F2 H2 l2 rv
  · subst ee
    cases e
    exact qe e2 rfl F2 H2 l2
theorem ex_tup {ta tb : TE} {ma : Rs α} {mb : Rs β} (ha : EX cl W ta σ F H ma) (hb : EX cl W tb σ F H mb) : EX cl W (tTup (tCons ta (tCons tb tNil))) σ F H (ma.bind fun y => exB y fun x => mb.bind fun z => exB z fun w => some (.ok (x, w))) := fun F1 H1 l y e Q q qe => by
  obtain ⟨y1, e1, e⟩ := Option.bind_eq_some_iff.mp e
  refine ha F1 H1 l y1 e1 _ (fun x ex v F2 H2 l2 rv => ?_) (fun e2 ee F2 H2 l2 => ?_)
  · subst ex
    obtain ⟨y2, e3, e⟩ := Option.bind_eq_some_iff.mp (show (mb.bind fun z => exB z fun w => some (.ok (x, w))) = some y from e)
    refine hb F2 H2 (l.trans l2) y2 e3 _ (fun w ew v2 F3 H3 l3 rw' => ?_) (fun e4 ee F3 H3 l3 => ?_)
    · subst ew
      cases e
      refine ⟨by show 2 ≤ sizeLine; decide, fun p hp => ?_⟩
      refine q (x, w) rfl (.ref p) (upd F3 p (.tup [v, v2])) (upd H3 p (.tup [v, v2])) ((l2.trans l3).trans (.new l3.fh hp)) ⟨p, v, v2, rfl, upd_same, ?_, ?_⟩
      · exact Rep.mono (same_upd (l3.fh.free hp)) (up rv l3)
      · exact Rep.mono (same_upd (l3.fh.free hp)) rw'
    · subst ee
      cases e
      exact qe e4 rfl F3 H3 (l2.trans l3)
  · subst ee
    cases e
    exact qe e2 rfl F2 H2 l2
/-- an operator whose left side may refuse -/
theorem ex_op {ta tb : TE} {r : R2} {ma : Rs α} {mb : Option β} {k : α → β → Option γ} (ha : EX cl W ta σ F H ma) (hb : EV tb σ F H mb) (hr : ∀ x y, RV r x y (k x y)) :
    EX cl W (tOp r ta tb) σ F H (ma.bind fun y => exB y fun x => mb.bind fun y => (k x y).bind fun z => some (.ok z)) := fun F1 H1 l z e Q q qe => by
  obtain ⟨y1, e1, e⟩ := Option.bind_eq_some_iff.mp e
  refine ha F1 H1 l y1 e1 _ (fun x ex v F2 H2 l2 rv => ?_) (fun e2 ee F2 H2 l2 => ?_)
  · subst ex
    obtain ⟨y2, e3, e⟩ := Option.bind_eq_some_iff.mp (show (mb.bind fun y => (k x y).bind fun z => some (.ok z)) = some z from e)
    obtain ⟨z1, e4, e⟩ := Option.bind_eq_some_iff.mp e
    cases e
    refine hb F2 H2 (l.trans l2) y2 e3 _ fun w F3 H3 l3 rw' => ?_
    exact hr x y2 F3 H3 v w l3.fh (up rv l3) rw' z1 e4 Q fun u F4 H4 l4 ru => q z1 rfl u F4 H4 ((l2.trans l3).trans l4) ru
  · subst ee
    cases e
    exact qe e2 rfl F2 H2 l2
theorem ex_abs {m : Rs Int} (h : EX cl W t σ F H m) : EX cl W (tCB (fun xs H Q => ∃ i, xs = [.int i] ∧ Q (.int (if i < 0 then -i else i)) H) (tCons t tNil)) σ F H (m.bind fun y => exB y fun i => some (.ok (if i < 0 then -i else i))) := fun F1 H1 l z e Q q qe => by
  obtain ⟨y1, e1, e⟩ := Option.bind_eq_some_iff.mp e
  refine h F1 H1 l y1 e1 _ (fun x ex v F2 H2 l2 rv => ?_) (fun e2 ee F2 H2 l2 => ?_)
  · subst ex
    cases e
    exact ⟨x, by rw [show v = V.int x from rv], q _ rfl _ F2 H2 l2 rfl⟩
  · subst ee
    cases e
    exact qe e2 rfl F2 H2 l2
end

/-! ### promises -/
section
variable {δ α β R : Type} [RepB δ] [Rep α] [Rep β] {cl : Er → Value} {W : WX} {σ : L2.St} {F H : Hp} {ta : TA}
def spX (cl : Er → Value) (m : δ → Rs β) : Sp := fun vs H Q E => ∃ (F : Hp) (x : δ) (y : Except Er β), Same F H ∧ ra x vs F ∧ m x = some y ∧ (∀ z, y = .ok z → ∀ v F' H', Lat F H F' H' → rp z v F' → Q v H') ∧ ∀ e, y = .error e → ∀ F' H', Lat F H F' H' → E (cl e) none H'
def spXN (cl : Er → Value) (m : δ → Rs (List β)) : Sp := fun vs H Q E => ∃ (F : Hp) (x : δ) (y : Except Er (List β)), Same F H ∧ ra x vs F ∧ m x = some y ∧ (∀ z, y = .ok z → ∀ p ws F' H', Lat F H F' H' → H p = none → F' p = none → H' p = some (.lst ws) → rpL z ws F' → Q (.ref p) H') ∧ ∀ e, y = .error e → ∀ F' H', Lat F H F' H' → E (cl e) none H'
theorem spX_len {m : δ → Rs β} {n : Nat} (hn : RepB.n δ = n) : ∀ vs H Q E, spX cl m vs H Q E → vs.length = n := fun vs H Q E ⟨F, x, y, _, h, _⟩ => (RepB.len h).trans hn
theorem spXN_len {m : δ → Rs (List β)} {n : Nat} (hn : RepB.n δ = n) : ∀ vs H Q E, spXN cl m vs H Q E → vs.length = n := fun vs H Q E ⟨F, x, y, _, h, _⟩ => (RepB.len h).trans hn
/-- a call that may refuse -/
theorem ex_call {m : δ → Rs β} {ma : Rs δ} (ha : EXA cl W ta σ F H ma) : EX cl W (tCallS (spX cl m) (WE W) ta) σ F H (ma.bind fun y => exB y fun x => m x) := fun F1 H1 l y e Q q qe => by
  obtain ⟨y1, e1, e⟩ := Option.bind_eq_some_iff.mp e
  refine ha F1 H1 l y1 e1 _ (fun x ex vs F2 H2 l2 r => ?_) (fun e2 ee F2 H2 l2 => ?_)
  · subst ex
    exact ⟨F2, x, y, l2.fh, r, e, fun z ez v F3 H3 l3 r3 => q z ez v F3 H3 (l2.trans l3) r3, fun e2 ee F3 H3 l3 => qe e2 ee F3 H3 (l2.trans l3)⟩
  · subst ee
    cases e
    exact qe e2 rfl F2 H2 l2
theorem ex_callN {m : δ → Rs (List β)} {ma : Rs δ} (ha : EXA cl W ta σ F H ma) : EX cl W (tCallS (spXN cl m) (WE W) ta) σ F H (ma.bind fun y => exB y fun x => m x) := fun F1 H1 l y e Q q qe => by
  obtain ⟨y1, e1, e⟩ := Option.bind_eq_some_iff.mp e
  refine ha F1 H1 l y1 e1 _ (fun x ex vs F2 H2 l2 r => ?_) (fun e2 ee F2 H2 l2 => ?_)
  · subst ex
    exact ⟨F2, x, y, l2.fh, r, e, fun z ez p ws F3 H3 l3 h1 h2 h3 r3 => q z ez (.ref p) (upd F3 p (.lst ws)) H3 ((l2.trans l3).hold (l2.h.free h1) h2 h3) ⟨p, ws, rfl, upd_same, rpL.mono (same_upd h2) r3⟩, fun e2 ee F3 H3 l3 => qe e2 ee F3 H3 (l2.trans l3)⟩
  · subst ee
    cases e
    exact qe e2 rfl F2 H2 l2
/-- a call that does not refuse -/
theorem noX_some {m : Rs β} {y : β} (h : noX m = some y) : m = some (.ok y) := by
  unfold noX at h
  obtain ⟨z, ez, e⟩ := Option.bind_eq_some_iff.mp h
  cases z with
  | ok x =>
    cases e
    exact ez
  | error _ => cases e
theorem ev_callX {m : δ → Rs β} {ma : Option δ} {E : XK} (ha : EVA ta σ F H ma) : EV (tCall (spX cl m) [] E ta) σ F H (ma.bind fun x => noX (m x)) := fun F1 H1 l y e Q q => by
  obtain ⟨x, ex, e⟩ := Option.bind_eq_some_iff.mp e
  refine ha F1 H1 l x ex _ fun vs F2 H2 l2 r => ?_
  rw [List.append_nil]
  exact ⟨F2, x, .ok y, l2.fh, r, noX_some e, fun z ez v F3 H3 l3 r3 => by cases ez; exact q v F3 H3 (l2.trans l3) r3, fun e ee => by cases ee⟩
theorem evn_callX {m : δ → Rs (List β)} {ma : Option δ} {E : XK} (ha : EVA ta σ F H ma) : EVN (tCall (spXN cl m) [] E ta) σ F H (ma.bind fun x => noX (m x)) := fun F1 H1 l y e Q q => by
  obtain ⟨x, ex, e⟩ := Option.bind_eq_some_iff.mp e
  refine ha F1 H1 l x ex _ fun vs F2 H2 l2 r => ?_
  rw [List.append_nil]
  exact ⟨F2, x, .ok y, l2.fh, r, noX_some e, fun z ez p ws F3 H3 l3 h1 h2 h3 r3 => by cases ez; exact q p ws F3 H3 (l2.trans l3) (l2.h.free h1) h2 h3 r3, fun e ee => by cases ee⟩
theorem pe_fnX {X : Cx} {k : Nat} {x : Str} {ps : List Str} {sp : Sp} {p pos : Pos} {e : Expr} {es : List Expr} {t : TA} (tk : Takes X W) (F : Fn X.prog X.w X.K X.mg X.base (L2.CX X.prog X.w) k x ps sp) (hr : Room k X.A) (hg : Gl X x)
    (ha : PA X (e :: es) t) (hdb : (x == ("__debug__" : Str)) = false := by decide) (he : starEach (e :: es) X.env = (false, eval e X.env) :: starEach es X.env := by rfl) (hpl : (backTo pos (starEach es X.env)).any (·.1) = false := by rfl) :
    PE X (.Call (.Name x p) (e :: es) [] pos) (tCallS sp (WE W) t) := by
  obtain ⟨f, fd, h1, h2, h3, h4⟩ := F.ex
  exact pe_callS h4 hr hg h1 h2 h3 (fun σ => passAt tk σ) ha hdb he hpl
theorem pe_fn0 {X : Cx} {k : Nat} {x : Str} {ps : List Str} {sp : Sp} {p pos : Pos} {e : Expr} {es : List Expr} {t : TA} (F : Fn X.prog X.w X.K X.mg X.base (L2.CX X.prog X.w) k x ps sp) (hr : Room k X.A) (hg : Gl X x)
    (ha : PA X (e :: es) t) (hdb : (x == ("__debug__" : Str)) = false := by decide) (he : starEach (e :: es) X.env = (false, eval e X.env) :: starEach es X.env := by rfl) (hpl : (backTo pos (starEach es X.env)).any (·.1) = false := by rfl) :
    PE X (.Call (.Name x p) (e :: es) [] pos) (tCall sp [] E0 t) := by
  obtain ⟨f, fd, h1, h2, h3, h4⟩ := F.ex
  exact pe_call h4 hr hg h1 h2 h3 .nil passL ha hdb he hpl

/-! ### statements -/
variable {te : TE} {u : TS} {D : Ends} {r : Except Er R} {i : Nat}
theorem rd_asgX {m : Rs α} {k : α → Rs R} (hF : Same F H) (ex : EX cl W te σ F H m) (hm : (m.bind fun y => exB y k) = some r) (ce : ∀ e F1 H1, r = .error e → Lat F H F1 H1 → W (cl e) none σ H1)
    (c : ∀ x v F1 H1, k x = some r → Lat F H F1 H1 → rp x v F1 → u D (σ.set i (some v)) H1) : tSeq (tAsg te (gName i)) u D σ H := by
  obtain ⟨y, e1, e2⟩ := Option.bind_eq_some_iff.mp hm
  refine ex F H (.refl hF) y e1 _ (fun x ex v F1 H1 l rv => ?_) (fun e ee F1 H1 l => ?_)
  · subst ex
    exact c x v F1 H1 e2 l rv
  · subst ee
    cases e2
    exact ce e F1 H1 rfl l
theorem rd_dropX {m : Rs α} {k : α → Rs R} (hF : Same F H) (ex : EX cl W te σ F H m) (hm : (m.bind fun y => exB y k) = some r) (ce : ∀ e F1 H1, r = .error e → Lat F H F1 H1 → W (cl e) none σ H1)
    (c : ∀ x F1 H1, k x = some r → Lat F H F1 H1 → u D σ H1) : tSeq (tDrop te) u D σ H := by
  obtain ⟨y, e1, e2⟩ := Option.bind_eq_some_iff.mp hm
  refine ex F H (.refl hF) y e1 _ (fun x ex v F1 H1 l rv => ?_) (fun e ee F1 H1 l => ?_)
  · subst ex
    exact c x F1 H1 e2 l
  · subst ee
    cases e2
    exact ce e F1 H1 rfl l
theorem rd_retNk {R : Type} {r : R} {m : Option (List α)} {k : List α → Option R} (hF : Same F H) (ev : EVN te σ F H m) (hm : m.bind k = some r)
    (c : ∀ x p vs F1 H1, k x = some r → Lat F H F1 H1 → H p = none → F1 p = none → H1 p = some (.lst vs) → rpL x vs F1 → D.rt (.ref p) H1) : tRet te D σ H := by
  obtain ⟨x, e1, e2⟩ := Option.bind_eq_some_iff.mp hm
  exact ev F H (.refl hF) x e1 _ fun p vs F1 H1 l h1 h2 h3 rv => c x p vs F1 H1 e2 l h1 h2 h3 rv
/-- a call of a def that does not refuse, of arguments that may -/
theorem ex_callP {m : δ → Option β} {ma : Rs δ} {E : XK} (ha : EXA cl W ta σ F H ma) : EX cl W (tCall (spO m) [] E ta) σ F H (ma.bind fun y => exB y fun x => (m x).bind fun z => some (.ok z)) := fun F1 H1 l y e Q q qe => by
  obtain ⟨y1, e1, e⟩ := Option.bind_eq_some_iff.mp e
  refine ha F1 H1 l y1 e1 _ (fun x ex vs F2 H2 l2 r => ?_) (fun e2 ee F2 H2 l2 => ?_)
  · subst ex
    obtain ⟨z, ez, e⟩ := Option.bind_eq_some_iff.mp (show ((m x).bind fun z => some (.ok z)) = some y from e)
    cases e
    rw [List.append_nil]
    exact ⟨F2, x, z, l2.fh, r, ez, fun v F3 H3 l3 r3 => q z rfl v F3 H3 (l2.trans l3) r3⟩
  · subst ee
    cases e
    exact qe e2 rfl F2 H2 l2
theorem rd_dropXL {m : Rs α} {k : α → Rs R} (hF : Same F H) (ex : EX cl W te σ F H m) (hm : (m.bind fun y => exB y k) = some r) (ce : ∀ e F1 H1, r = .error e → Lat F H F1 H1 → W (cl e) none σ H1)
    (c : ∀ x F1 H1, k x = some r → Lat F H F1 H1 → D.nx σ H1) : tDrop te D σ H := by
  obtain ⟨y, e1, e2⟩ := Option.bind_eq_some_iff.mp hm
  refine ex F H (.refl hF) y e1 _ (fun x ex v F1 H1 l rv => ?_) (fun e ee F1 H1 l => ?_)
  · subst ex
    exact c x F1 H1 e2 l
  · subst ee
    cases e2
    exact ce e F1 H1 rfl l
theorem rd_retX {m : Rs α} {r : Except Er α} (hF : Same F H) (ex : EX cl W te σ F H m) (hm : m = some r) (ce : ∀ e F1 H1, r = .error e → Lat F H F1 H1 → W (cl e) none σ H1)
    (c : ∀ x v F1 H1, r = .ok x → Lat F H F1 H1 → rp x v F1 → D.rt v H1) : tRet te D σ H :=
  ex F H (.refl hF) r hm _ (fun x ex v F1 H1 l rv => c x v F1 H1 ex l rv) fun e ee F1 H1 l => ce e F1 H1 ee l
end

/-! ### classes -/
structure ErC (K : PySem.W.Frag) (mg : Str → Option Value) (x : Str) (C : Addr) : Prop where
  g : mg x = some (.ref C)
  x : PySem.W.excIn K C [.type "ValueError", .type "Exception", .type "BaseException", .type "object"] "ValueError.__new__" = true
  k : PySem.W.keepIn K (.ref C) = true
  b : PySem.W.subIn K (.ref C) (.type "BaseException") = some true
  t : PySem.W.typeIn K (.ref C) = some (.type "type")
theorem rd_raise {W : WX} {C : Value} {D : Ends} {σ : L2.St} {H : Hp} (h : W C none σ H) : (fun (_ : Ends) σ H => (fun (_ : L2.St) (H : Hp) (Q : XK) => Q C none H) σ H fun cls d H' => W cls d σ H') D σ H := h
theorem ps_raiseE {X : Cx} {W : WX} {x m : Str} {C : Addr} {j : Nat} {p p2 pos pos2 : Pos} (hc : X.calm = true) (tk : Takes X W) (T : ErC X.K X.mg x C) (hg : Gl X x) (hdb : (x == ("__debug__" : Str)) = false := by decide) :
    PS X (.Raise (some (.Call (.Name x p) [.Constant (.str m) j p2] [] pos)) none pos2) (fun _ σ H => W (.ref C) none σ H) :=
  ps_raise hc tk (pmk_own PySem.F.excBase_ValueError T.x T.g T.k (raises_own T.b T.t) hg hdb)

/-! ### refusals caught -/
abbrev clO (ad : Er → Addr) : Er → Value := fun e => .ref (ad e)
section
variable {R S : Type} {ad : Er → Addr} {K : PySem.W.Frag} {σ : L2.St} {F H : Hp} {D : Ends} {i : Nat} {pos : Pos}
/-- a suite that knows which refusal it holds -/
def tsE (ad : Er → Addr) (t : Er → Addr → TS) : Addr → Value → Option Addr → TS := fun a cls d D σ H => ∃ e, cls = clO ad e ∧ d = none ∧ t e a D σ H
theorem pss_suite {X : Cx} {sts : List Stmt} {a : Addr} {oe : Obj} {cls : Value} {d : Option Addr} {t : Er → Addr → TS} (hz : Zc cls d oe) (h : ∀ e, Zc (clO ad e) none oe → PSs X sts (t e a)) : PSs X sts (tsE ad t a cls d) := by
  refine ⟨fun pins s σ H D I hw => ?_⟩
  obtain ⟨e, rfl, rfl, hw⟩ := hw
  exact (h e hz).run pins s σ H D I hw
def tTry (K : PySem.W.Frag) (c : Value) (i : Nat) (ts : Addr → Value → Option Addr → TS) (tb : WX → TS) : TS := fun D σ H => tb (wAs K c i ts (fun _ _ _ _ => False) D) D σ H
theorem ps_tryE {X : Cx} {x n : Str} {c : Value} {body suite : List Stmt} {b₀ : Stmt} {np pos pos' : Pos} {tb : WX → TS} {t : Er → Addr → TS} (hs : X.stack = X.env :: X.outer) (hf : X.env.frame = some X.env.locals) (hN : X.N.Nodup) (hi : X.N[i]? = some n) (hln : X.env.kindOf n = some .local) (hc : Names X x c)
    (hb : ∀ (W : WX) (pn : List (Addr × Obj)) (xe : Value → Shared → Prop), Takes (X.tr pn xe) W → PassesOwn (model X.prog X.w) X.A X.env xe → PSs (X.tr pn xe) body (tb W))
    (hsu : ∀ (e : Er) (a : Addr) (oe : Obj) (pn : List (Addr × Obj)), Zc (clO ad e) none oe → (∃ vs, oe.data = .fields vs) → PSs (X.suite a ((a, oe) :: pn)) (b₀ :: suite) (t e a)) :
    PS X (.Try body [.ExceptHandler (some (.Name x np)) (some n) (b₀ :: suite) pos'] [] [] pos) (tTry X.K c i (tsE ad t) tb) :=
  ps_try_as hs hf hN hi hln hc takes0 hb fun a oe cls d pn hz hv => pss_suite hz fun e hz => hsu e a oe pn hz hv
theorem rd_try {α β : Type} {tb : WX → TS} {t : Er → Addr → TS} {c : Value} {mb : Rs α} {f : α → Option β} {k : Er → Option β} {r : β} {F0 H0 : Hp} (hx : ∀ e, PySem.W.exmOne K (clO ad e) c = some true) (hm : trX mb f k = some r)
    (hb : ∀ y, mb = some y → (∀ x, y = .ok x → f x = some r) → ∀ W : WX, (∀ e F1 H1, y = .error e → Lat F0 H0 F1 H1 → Same F F1 → W (clO ad e) none σ H1) → tb W D σ H)
    (hs : ∀ e a F1 H1, k e = some r → Lat F0 H0 F1 H1 → Same F F1 → H1 a = none → ∀ D' : Ends, D'.rt = D.rt → (∀ σ' H', D.nx (σ'.set i none) H' → D'.nx σ' H') → t e a D' (σ.set i (some (.ref a))) H1) : tTry K c i (tsE ad t) tb D σ H := by
  obtain ⟨y, e1, e2⟩ := Option.bind_eq_some_iff.mp hm
  refine hb y e1 (fun x ex => by subst ex; exact e2) _ fun e F1 H1 ee l sf => ?_
  subst ee
  exact ⟨true, hx e, fun _ a ha => ⟨e, rfl, rfl, hs e a F1 H1 e2 l sf ha _ rfl fun _ _ h => h⟩, fun q => nomatch q⟩
theorem kit_ref {D C : Addr} {b : Bool} (hd : PySem.W.hasDictIn K C = true) (ht : PySem.W.typeIn K (.ref C) = some (.type "type")) (self : PySem.W.subIn K (.ref C) (.ref C) = some true) (hs : PySem.W.subIn K (.ref D) (.ref C) = some b) : PySem.W.kitOne K (.ref D) (.ref C) = some b := by
  obtain ⟨cd, hc, _⟩ := PySem.W.any_some hd
  unfold PySem.W.kitOne
  by_cases e : ((Value.ref D) == (Value.ref C)) = true
  · rw [if_pos e]
    have e2 : Value.ref D = Value.ref C := beq_iff_eq.mp e
    rw [e2, self] at hs
    exact hs
  · rw [if_neg e]
    show (if ((PySem.W.clsIn K C).isSome && PySem.W.typeIn K (.ref C) == some (.type "type")) = true then PySem.W.subIn K (.ref D) (.ref C) else none) = some b
    rw [hc, ht]
    exact hs
theorem kit_type {D : Addr} {T : String} {b : Bool} (hs : PySem.W.subIn K (.ref D) (.type T) = some b) (hm : PySem.W.kitMeta T = true := by decide +kernel) : PySem.W.kitOne K (.ref D) (.type T) = some b := by
  unfold PySem.W.kitOne
  rw [if_neg (by intro h; exact nomatch (beq_iff_eq.mp h))]
  show (if PySem.W.kitMeta T = true then PySem.W.subIn K (.ref D) (.type T) else none) = some b
  rw [if_pos hm]
  exact hs
/-- what the top says of the refusals, where some are caught -/
structure Kit (K : PySem.W.Frag) (ad : Er → Addr) (CW : Addr) : Prop where
  ex : ∀ e, ExcC K (ad e)
  one : ∀ e c, PySem.W.kitOne K (clO ad e) (clO ad c) = some (isE e c)
  val : ∀ e, PySem.W.kitOne K (clO ad e) (.type "ValueError") = some true
  exm : ∀ e, PySem.W.exmOne K (clO ad e) (.ref CW) = some true
theorem ev_isE {m : Er} {e : Er} {a : Addr} {CW : Addr} (T : Kit K ad CW) (h : σ[i]? = some (some (.ref a))) : EV (tCB (rIsE K (ad e) a) (tCons (tVar i) (tCons (tC (.ref (ad m))) tNil))) σ F H (some (isE e m)) := fun F1 H1 l x ex Q q => by
  cases ex
  exact ⟨.ref a, h, .ref (ad m), _, _, rfl, fun u r => r, T.one e m, q _ F1 H1 (.refl l.fh) rfl⟩
theorem ev_isV {e : Er} {a : Addr} {CW : Addr} (T : Kit K ad CW) (h : σ[i]? = some (some (.ref a))) : EV (tCB (rIsE K (ad e) a) (tCons (tVar i) (tCons (tC (.ty "ValueError")) tNil))) σ F H (some true) := fun F1 H1 l x ex Q q => by
  cases ex
  exact ⟨.ref a, h, .ty "ValueError", _, _, rfl, fun u r => r, T.val e, q _ F1 H1 (.refl l.fh) rfl⟩
end

/-! ### dicts with pairs for keys -/
def kk (t : Int × Int) : List Key := [.inl t.1, .inl t.2]
theorem kk_inj {t u : Int × Int} (h : kk t = kk u) : t = u := by
  unfold kk at h
  injection h with h1 h2
  injection h2 with h2 _
  injection h1 with h1
  injection h2 with h2
  exact Prod.ext h1 h2
theorem keys_put {kvs : List (List Key × V)} {ks : List (Int × Int)} (h : kvs.map (·.1) = ks.map kk) (t : Int × Int) (v : V) : (putK kvs (kk t) v).map (·.1) = (putD ks t).map kk := by
  have hm : kk t ∈ kvs.map (·.1) ↔ t ∈ ks := by
    rw [h, List.mem_map]
    exact ⟨fun ⟨u, hu, e⟩ => kk_inj e ▸ hu, fun hu => ⟨t, hu, rfl⟩⟩
  have ha : (kvs.any fun kv => decide (kv.1 = kk t)) = true ↔ t ∈ ks := by
    rw [← hm, List.any_eq_true, List.mem_map]
    exact ⟨fun ⟨p, hp, e⟩ => ⟨p, hp, of_decide_eq_true e⟩, fun ⟨p, hp, e⟩ => ⟨p, hp, decide_eq_true e⟩⟩
  unfold putK putD
  by_cases c : t ∈ ks
  · rw [if_pos (ha.mpr c), if_pos c, List.map_map, ← h]
    refine List.map_congr_left fun kv _ => ?_
    show (if kv.1 = kk t then (kv.1, v) else kv).1 = kv.1
    split <;> rfl
  · rw [if_neg fun q => c (ha.mp q), if_neg c, List.map_append, List.map_append, h]
    rfl
section
variable {R α : Type} [Rep α] {K : PySem.W.Frag} {σ : L2.St} {F H : Hp} {D : Ends} {u : TS} {i j : Nat} {r : R}
/-- {} -/
theorem rd_newD {k : List (Int × Int) → Option R} (hF : Same F H) (hm : (some ([] : List (Int × Int))).bind k = some r)
    (c : ∀ p F1 H1, k [] = some r → Lat F H F1 H1 → H p = none → F1 p = none → H1 p = some (.dT []) → u D (σ.set i (some (.ref p))) H1) : tSeq (tAsg tDNewT (gName i)) u D σ H :=
  fun p hp => c p F _ hm (.made hF hp) hp (hF.free hp) upd_same
theorem dput_t {H : Hp} {a : Addr} {y v : V} {kvs : List (List Key × V)} {t : Int × Int} {F : Hp} (hF : Same F H) (e : H a = some (.dT kvs)) (ry : rp t y F) (hl : kvs.length < sizeLine) : DPut H a y v (upd H a (.dT (putK kvs (kk t) v))) := by
  obtain ⟨b, v1, v2, rfl, eb, r1, r2⟩ := ry
  cases r1
  cases r2
  exact DPut.t e (hF _ _ eb) hl
theorem rd_putDL {p : Addr} {ks : List (Int × Int)} {kvs : List (List Key × V)} {ti tv : TE} {mi : Option (Int × Int)} {mv : Option α} {k : List (Int × Int) → Option R} (hF : Same F H) (hj : σ[j]? = some (some (.ref p))) (hp : H p = some (.dT kvs)) (fp : F p = none) (rl : kvs.map (·.1) = ks.map kk)
    (ev : EV tv σ F H mv) (ei : EV ti σ F H mi) (hm : (mv.bind fun _ => mi.bind fun t => putDZ ks t).bind k = some r)
    (c : ∀ ys ws F1 H1, k ys = some r → Mt p F H F1 H1 → F1 p = none → H1 p = some (.dT ws) → ws.map (·.1) = ys.map kk → D.nx σ H1) : sDPut (tVar j) ti tv D σ H := by
  obtain ⟨ys, e1, e2⟩ := Option.bind_eq_some_iff.mp hm
  obtain ⟨x, e3, e4⟩ := Option.bind_eq_some_iff.mp e1
  obtain ⟨t, e5, e6⟩ := Option.bind_eq_some_iff.mp e4
  unfold putDZ at e6
  split at e6
  · rename_i hlen
    cases e6
    refine ev F H (.refl hF) x e3 _ fun v F1 H1 l rv => ⟨.ref p, hj, ei F1 H1 l t e5 _ fun w F2 H2 l2 rw' => ?_⟩
    have l12 := l.trans l2
    have fp2 := l12.nw _ _ hp trivial fp
    have hln : kvs.length = ks.length := by rw [← List.length_map (·.1) (as := kvs), rl, List.length_map]
    exact ⟨p, _, rfl, dput_t l12.fh (l12.h _ _ hp) rw' (sz_lt (by omega)), c _ _ F2 _ e2 (Mt.of l12 fp2) fp2 upd_same (keys_put rl t v)⟩
  · cases e6
theorem rd_putD {p : Addr} {ks : List (Int × Int)} {kvs : List (List Key × V)} {ti tv : TE} {mi : Option (Int × Int)} {mv : Option α} {k : List (Int × Int) → Option R} (hF : Same F H) (hj : σ[j]? = some (some (.ref p))) (hp : H p = some (.dT kvs)) (fp : F p = none) (rl : kvs.map (·.1) = ks.map kk)
    (ev : EV tv σ F H mv) (ei : EV ti σ F H mi) (hm : (mv.bind fun _ => mi.bind fun t => putDZ ks t).bind k = some r)
    (c : ∀ ys ws F1 H1, k ys = some r → Mt p F H F1 H1 → F1 p = none → H1 p = some (.dT ws) → ws.map (·.1) = ys.map kk → u D σ H1) : tSeq (sDPut (tVar j) ti tv) u D σ H := rd_putDL (D := { D with nx := u D }) hF hj hp fp rl ev ei hm c
/-- tuples may be held for known at any time -/
theorem know_tups {F H F1 H1 : Hp} (l : Lat F H F1 H1) : ∀ bs : List Addr, (∀ b ∈ bs, ∃ xs, H1 b = some (.tup xs)) → ∃ F2, Lat F H F2 H1 ∧ Same F1 F2 ∧ (∀ b ∈ bs, F2 b = H1 b) ∧ ∀ q o, H1 q = some o → Chg o → F1 q = none → F2 q = none
  | [], _ => ⟨F1, l, .refl _, fun _ h => by simp at h, fun _ _ _ _ h => h⟩
  | b :: bs, h => by
    obtain ⟨F2, l2, s2, h2, n2⟩ := know_tups l bs fun x hx => h x (List.mem_cons_of_mem _ hx)
    obtain ⟨xs, e⟩ := h b List.mem_cons_self
    cases q : F2 b with
    | some o =>
      refine ⟨F2, l2, s2, fun x hx => ?_, n2⟩
      rcases List.mem_cons.mp hx with rfl | hx
      · rw [q, l2.fh _ _ q]
      · exact h2 x hx
    | none =>
      refine ⟨upd F2 b (.tup xs), l2.know (fun u hu cu _ => ?_) q e, s2.trans (same_upd q), fun x hx => ?_, fun p o ep co fp => ?_⟩
      · have := l2.h _ _ hu
        rw [e] at this
        cases this
        exact cu
      · by_cases z : x = b
        · subst z
          rw [upd_same, e]
        · rw [upd_ne z]
          rcases List.mem_cons.mp hx with hx | hx
          · exact absurd hx z
          · exact h2 x hx
      · have : p ≠ b := fun z => by
          subst z
          rw [e] at ep
          cases ep
          exact co
        rw [upd_ne this]
        exact n2 p o ep co fp
theorem rpL_keys {F : Hp} : ∀ {kvs : List (List Key × V)} {ks : List (Int × Int)} {bs : List Addr}, kvs.map (·.1) = ks.map kk → IsKeys F kvs bs → rpL ks (bs.map V.ref) F
  | _, [], _, e, .nil => trivial
  | kv :: kvs, k :: ks, b :: bs, e, .cons h t => by
    rw [List.map_cons, List.map_cons] at e
    injection e with e1 e2
    refine ⟨⟨b, .int k.1, .int k.2, rfl, ?_, rfl, rfl⟩, rpL_keys e2 t⟩
    have h' : F b = some (.tup (kv.1.map kV)) := h
    rw [e1] at h'
    exact h'
  | _, _ :: _, _, e, .nil => by simp at e
  | _ :: _, [], _, e, .cons _ _ => by simp at e
theorem isKeys_mono {H F : Hp} : ∀ {kvs : List (List Key × V)} {bs : List Addr}, (∀ b ∈ bs, F b = H b) → IsKeys H kvs bs → IsKeys F kvs bs
  | _, _, _, .nil => .nil
  | _, _ :: _, h, .cons k t => .cons (by rw [h _ List.mem_cons_self]; exact k) (isKeys_mono (fun b hb => h b (List.mem_cons_of_mem _ hb)) t)
theorem isKeys_tup {H : Hp} : ∀ {kvs : List (List Key × V)} {bs : List Addr}, IsKeys H kvs bs → ∀ b ∈ bs, ∃ xs, H b = some (.tup xs)
  | _, _, .nil, b, hb => by simp at hb
  | _, _ :: _, .cons k t, b, hb => by
    rcases List.mem_cons.mp hb with rfl | hb
    · exact ⟨_, k⟩
    · exact isKeys_tup t b hb
/-- list(d) -/
theorem evn_listD {p : Addr} {ks : List (Int × Int)} {kvs : List (List Key × V)} (hj : σ[j]? = some (some (.ref p))) (hp : H p = some (.dT kvs)) (rl : kvs.map (·.1) = ks.map kk) :
    EVN (tCB (fun xs H Q => ∃ d kvs, xs = [V.ref d] ∧ Rd H d (.dT kvs) ∧ ∀ p bs, H p = none → IsKeys H kvs bs → Q (.ref p) (upd H p (.lst (bs.map V.ref)))) (tCons (tVar j) tNil)) σ F H (some ks) := fun F1 H1 l xs e Q q => by
  cases e
  refine ⟨.ref p, hj, p, kvs, rfl, .inl (l.h _ _ hp), fun a bs ha hk => ?_⟩
  obtain ⟨F2, l2, s2, h2, n2⟩ := know_tups (Lat.refl l.fh) bs (isKeys_tup hk)
  exact q a _ F2 _ (l2.trans (.made l2.fh ha)) ha (l2.fh.free ha) upd_same (rpL_keys rl (isKeys_mono h2 hk))
end
end Dw

set_option Elab.async false
set_option linter.all false
set_option maxRecDepth 100000
set_option maxHeartbeats 4000000
/-! The layer, sixth part. -/
namespace Dw
open PySem L2 Dv
open Rep (rp)
open RepA (ra)
section
variable {α β γ S R T : Type} [Rep α] [Rep β] [Rep γ] {K : PySem.W.Frag} {σ : L2.St} {F H : Hp} {D : Ends} {te : TE} {r : R}
/-- an if of whose ways some go on and some hand back -/
theorem rd_joinR {c : TT} {t1 t2 u : TS} {m : Option (Stp S T)} {k : S → Option R} {k' : T → Option R} (P : S → L2.St → Hp → Hp → Prop) (hm : (m.bind fun st => st.elim k k') = some r)
    (h1 : ∀ st, m = some st → ∀ D' : Ends, D'.rt = D.rt → (∀ s, st = .go s → ∀ σ3 F3 H3, P s σ3 F3 H3 → D'.nx σ3 H3) → (∀ y, st = .ret y → k' y = some r) → tIfS c t1 t2 D' σ H)
    (h2 : ∀ s σ' F' H', k s = some r → P s σ' F' H' → u D σ' H') : tSeq (tIfS c t1 t2) u D σ H := by
  obtain ⟨st, e1, e2⟩ := Option.bind_eq_some_iff.mp hm
  refine h1 st e1 { D with nx := u D } rfl (fun s es σ3 F3 H3 hp => ?_) fun y ey => ?_
  · subst es
    exact h2 s σ3 F3 H3 e2 hp
  · subst ey
    exact e2
theorem EV.cg {t : TE} {m m' : Option α} (h : EV t σ F H m) (e : m = m') : EV t σ F H m' := e ▸ h
theorem rd_insertL {u : TS} {ti : TE} {p : Addr} {xs : List α} {vs : List V} {mi : Option Int} {m : Option α} {k : List α → Option R} {j : Nat} (hF : Same F H) (hj : σ[j]? = some (some (.ref p))) (hp : H p = some (.lst vs)) (fp : F p = none) (rl : rpL xs vs F)
    (ei : EV ti σ F H mi) (ev : EV te σ F H m) (hm : (mi.bind fun i => m.bind fun y => insZ xs i y).bind k = some r)
    (c : ∀ ys ws F1 H1, k ys = some r → Mt p F H F1 H1 → F1 p = none → H1 p = some (.lst ws) → rpL ys ws F1 → D.nx σ H1) :
    tDrop (tBM K "list" (fun x vs H Q => ∃ (l : Addr) (xs : List V) (i : Int) (y : V), x = .ref l ∧ vs = [.int i, y] ∧ H l = some (.lst xs) ∧ xs.length < sizeLine ∧ 0 ≤ i ∧ i < 2 ^ 63 ∧
    Q .non (upd H l (.lst (xs.take i.toNat ++ [y] ++ xs.drop i.toNat)))) (tVar j) (tCons ti (tCons te tNil))) D σ H := by
  obtain ⟨ys, e1, e2⟩ := Option.bind_eq_some_iff.mp hm
  obtain ⟨i, e3, e4⟩ := Option.bind_eq_some_iff.mp e1
  obtain ⟨y, e5, e6⟩ := Option.bind_eq_some_iff.mp e4
  unfold insZ at e6
  split at e6
  · rename_i hlen
    obtain ⟨h1, h2, h3⟩ := hlen
    cases e6
    refine ⟨.ref p, hj, .inl ⟨rfl, vs, sqL hp⟩, ?_⟩
    refine ei F H (.refl hF) i e3 _ fun v F1 H1 l rv => ?_
    cases rv
    refine ev F1 H1 l y e5 _ fun w F2 H2 l2 rw' => ?_
    have fp1 := l2.nwl (l.h _ _ hp) (l.nwl hp fp)
    refine ⟨p, vs, i, w, rfl, rfl, l2.h _ _ (l.h _ _ hp), sz_lt (by rw [rl.length]; exact h1), h2, by omega, ?_⟩
    have rl2 := rpL.mono l2.f (rpL.mono l.f rl)
    exact c _ _ F2 _ e2 (Mt.of (l.trans l2) fp1) fp1 upd_same (rpL.append (rpL.append (rpL.take _ rl2) ⟨rw', trivial⟩) (rpL.drop _ rl2))
  · cases e6
theorem rd_insert {u : TS} {ti : TE} {p : Addr} {xs : List α} {vs : List V} {mi : Option Int} {m : Option α} {k : List α → Option R} {j : Nat} (hF : Same F H) (hj : σ[j]? = some (some (.ref p))) (hp : H p = some (.lst vs)) (fp : F p = none) (rl : rpL xs vs F)
    (ei : EV ti σ F H mi) (ev : EV te σ F H m) (hm : (mi.bind fun i => m.bind fun y => insZ xs i y).bind k = some r)
    (c : ∀ ys ws F1 H1, k ys = some r → Mt p F H F1 H1 → F1 p = none → H1 p = some (.lst ws) → rpL ys ws F1 → u D σ H1) :
    tSeq (tDrop (tBM K "list" (fun x vs H Q => ∃ (l : Addr) (xs : List V) (i : Int) (y : V), x = .ref l ∧ vs = [.int i, y] ∧ H l = some (.lst xs) ∧ xs.length < sizeLine ∧ 0 ≤ i ∧ i < 2 ^ 63 ∧
    Q .non (upd H l (.lst (xs.take i.toNat ++ [y] ++ xs.drop i.toNat)))) (tVar j) (tCons ti (tCons te tNil)))) u D σ H := rd_insertL (u := u) (D := { D with nx := u D }) hF hj hp fp rl ei ev hm c
theorem eqV_ints (x : Int) : ∀ {xs : List Int}, x ∈ xs → (xs.map V.int)[xs.idxOf x]? = some (.int x) ∧ ∀ (m : Nat) (z : V), m < xs.idxOf x → (xs.map V.int)[m]? = some z → eqV z (.int x) = false
  | [], h => by simp at h
  | y :: ys, h => by
    by_cases e : y = x
    · subst e
      rw [List.idxOf_cons_self]
      exact ⟨rfl, fun m z hm => by omega⟩
    · have hx : x ∈ ys := by
        rcases List.mem_cons.mp h with h | h
        · exact absurd h.symm e
        · exact h
      have ih := eqV_ints x hx
      have e2 : (y :: ys).idxOf x = ys.idxOf x + 1 := by
        have e3 : (y == x) = false := by simpa using e
        rw [List.idxOf_cons, e3]
        rfl
      rw [e2]
      refine ⟨by simpa using ih.1, fun m z hm hz => ?_⟩
      cases m with
      | zero =>
        have : V.int y = z := by simpa using hz
        subst this
        show (y == x) = false
        simpa using e
      | succ m => exact ih.2 m z (by omega) (by simpa using hz)
theorem ev_index {t tx : TE} {m : Option (List Int)} {mx : Option Int} (h : EV t σ F H m) (hx : EV tx σ F H mx) : EV (tBM K "list" (rIndex K) t (tCons tx tNil)) σ F H (m.bind fun xs => mx.bind fun x => idxZ xs x) := fun F1 H1 l z e Q q => by
  obtain ⟨xs, ex, e⟩ := Option.bind_eq_some_iff.mp e
  obtain ⟨x, ey, e⟩ := Option.bind_eq_some_iff.mp e
  unfold idxZ at e
  split at e
  · rename_i hmem
    cases e
    refine h F1 H1 l xs ex _ fun v F2 H2 l2 ⟨a, vs, e1, e2, r⟩ => ?_
    have hv := rpL_ints r
    subst hv
    subst e1
    refine ⟨.inl ⟨rfl, _, sqL (l2.fh _ _ e2)⟩, hx F2 H2 (l.trans l2) x ey _ fun w F3 H3 l3 rw' => ?_⟩
    cases rw'
    obtain ⟨h1, h2⟩ := eqV_ints x hmem
    refine ⟨a, _, .int x, xs.idxOf x, .int x, rfl, rfl, sqL (l3.h _ _ (l2.fh _ _ e2)), rfl, flat_ints xs, h1, ?_, h2, q _ F3 H3 (l2.trans l3) rfl⟩
    show (x == x) = true
    simp
  · cases e
theorem ev_unL {t : TE} {m : Option (Option (α ⊕ β))} (h : EV t σ F H m) : EV t σ F H (m.bind fun x => unL x) := fun F1 H1 l y e Q q => by
  obtain ⟨x, ex, ey⟩ := Option.bind_eq_some_iff.mp e
  refine h F1 H1 l x ex Q fun v F2 H2 l2 r => q v F2 H2 l2 ?_
  match x, ey, r with
  | some (.inl z), ey, r =>
    have : z = y := by simpa [unL] using ey
    subst this
    exact r
theorem ev_unR {t : TE} {m : Option (Option (α ⊕ β))} (h : EV t σ F H m) : EV t σ F H (m.bind fun x => unR x) := fun F1 H1 l y e Q q => by
  obtain ⟨x, ex, ey⟩ := Option.bind_eq_some_iff.mp e
  refine h F1 H1 l x ex Q fun v F2 H2 l2 r => q v F2 H2 l2 ?_
  match x, ey, r with
  | some (.inr z), ey, r =>
    have : z = y := by simpa [unR] using ey
    subst this
    exact r
theorem ev_isiU {t : TE} {m : Option (Option (Bool ⊕ List Int))} (h : EV t σ F H m) : EV (tCB (rIsi K) (tCons t (tCons (tC (.ty "bool")) tNil))) σ F H (m.bind fun x => some (isL x)) := fun F1 H1 l y e Q q => by
  obtain ⟨x, ex, e⟩ := Option.bind_eq_some_iff.mp e
  cases e
  refine h F1 H1 l x ex _ fun v F2 H2 l2 r => ?_
  match x, r with
  | none, r =>
    have hv : v = .non := r
    subst hv
    exact ⟨.non, .ty "bool", _, _, false, rfl, .ty "bool", .base .non, kit_ty (show kitB "NoneType" "bool" = some false by decide +kernel), q _ F2 H2 l2 rfl⟩
  | some (.inl z), r =>
    have r' : rp z v F2 := r
    exact ⟨v, .ty "bool", _, _, true, rfl, .ty "bool", Typ.ty (Rep.mono l2.fh r'), kit_ty (show kitB "bool" "bool" = some true by decide +kernel), q _ F2 H2 l2 rfl⟩
  | some (.inr z), r =>
    have r' : rp z v F2 := r
    exact ⟨v, .ty "bool", _, _, false, rfl, .ty "bool", Typ.ty (Rep.mono l2.fh r'), kit_ty (show kitB "list" "bool" = some false by decide +kernel), q _ F2 H2 l2 rfl⟩
/-- list(x) of a list that may change -/
theorem evn_listO {p : Addr} {j : Nat} {xs : List α} {vs : List V} (hj : σ[j]? = some (some (.ref p))) (hp : H p = some (.lst vs)) (rl : rpL xs vs F) : EVN (tCB (fun xs H Q => ∃ p ys, xs = [.ref p] ∧ (SqL K H p ys ∨ SqT K H p ys) ∧ ∀ l, H l = none → Q (.ref l) (upd H l (.lst ys))) (tCons (tVar j) tNil)) σ F H (some xs) := fun F1 H1 l y e Q q => by
  cases e
  refine ⟨.ref p, hj, p, vs, rfl, .inl (sqL (l.h _ _ hp)), fun a ha => q a vs F1 _ (.made l.fh ha) ha (l.fh.free ha) upd_same (rpL.mono l.f rl)⟩
end
end Dw

set_option Elab.async false
set_option linter.all false
set_option maxRecDepth 100000
set_option maxHeartbeats 4000000
/-! The layer, seventh part: max(xs, default=d). -/
namespace Dw
open PySem PyProof.Rows
section
variable {prog : Program} {w : World} {A : Around} {E : Value → Shared → Prop} {s : Shared}
abbrev dk : Str := Str.ofString "default"
theorem mxd_args (x d : Value) : argsOk "max" ⟨[x], [(dk, d)]⟩ := by
  unfold argsOk
  kernel_rfl
theorem mxd_call {x d : Value} {Q : Value → Shared → Prop} (body : wpAny (model prog w) A.in1 (Builtin.«max» ⟨[x], [(dk, d)]⟩) (fun fin s' => match fin with
      | .done f => (match (Except.ok f : Result) with
        | .ok (.ret v) => Q v s'
        | .ok _ => False
        | .error e => E e s')
      | .again c' => c'.quiet = true ∧ codeAny (model prog w) A c' (fun r s' => match r with
        | .ok (.ret v) => Q v s'
        | .ok _ => False
        | .error e => E e s') s') E s) : wpAny (model prog w) A (call (.builtin "max") [x] [(dk, d)]) Q E s := by
  refine wpAny_call (codeAny_call_builtin F.plain_max F.entry_max ?_)
  have ok := mxd_args x d
  simp only [checkBuiltinCall, F.kind_max]
  cases sg : Manifest.signature? "max" with
  | none => exact wpAny_pure body
  | some sig =>
    have ok2 : Bind.checkArgs "max" sig ⟨[x], [(dk, d)]⟩ = pure () := by simpa only [argsOk, sg] using ok
    simp only [ok2]
    exact wpAny_pure body
end
section
variable {prog : Program} {w : World} {A : Around} {R : Result → Shared → Prop} {it : Addr} {fp wr : List Addr} {n : Nat} {P : Nat → Value → Prop} {St : Nat → Heap → Prop}
theorem mxd_nm : (toString "max" ++ toString ".loop" : String) = "max.loop" := by decide
/-- from the j-th item on: vb is the greatest so far -/
theorem mxd_loop (W : Walks prog w A.in1 it fp wr n P St) (bt : Nat → Nat → Bool) (gt : CmpOf prog w A.in1 .Gt P bt) (b0 : Addr) (nf : b0 ∉ fp) (d : Value) :
    ∀ (k j : Nat) (s : Shared) (vb : Value) (c : Nat), j + 1 + k = n → St (j + 1) s.heap → P (argBest bt j) vb →
    s.heap.get? b0 = some { cls := .type "list", dict := none, data := .seq #[vb, vb] c, slots := #[] } →
    (∀ v h' tk, P (argBest bt (n - 1)) v → (∀ b o, b ∉ wr → b ≠ b0 → s.heap.get? b = some o → h'.get? b = some o) → R (.ok (.ret v)) { s with heap := h', toks := tk }) →
    codeAny (model prog w) A (.builtin "max.loop" ⟨[.ref it, .none, .ref b0], [(dk, d)]⟩) R s
  | 0, j, s, vb, c, hk, hst, best, hb, fin => by
    have nw : b0 ∉ wr := fun z => nf (W.sub _ z)
    have jn : j + 1 = n := by omega
    refine codeAny_builtin F.entry_max_loop ?_
    rw [Around.under_plainId F.plain_max_loop]
    show wpAny (model prog w) A.in1 (seqItems? (.ref b0) >>= _) _ _ s
    refine wpAny_bind (wpAny_seqItems hb rfl ?_)
    show wpAny (model prog w) A.in1 (tryCatch (pyNext (.ref it)) _ >>= _) _ _ s
    refine wpAny_bind (wpAny_tryCatch (W.done s _ _ (by rw [← jn]; exact hst) fun h1 t1 keep => ?_))
    have hb1 := keep b0 _ nw hb
    show wpAny (model prog w) A.in1 (updateSeq b0 (fun _ => #[]) >>= _) _ _ _
    refine wpAny_bind (wpAny_updateSeq hb1 rfl (wpAny_bind (wpAny_letGo (wpAny_pure ?_))))
    exact fin vb _ t1 (by rw [← jn]; exact best) fun b o b1 b2 e => (Heap.get?_update_other _ _ fun z => b2 z.symm).trans (keep b o b1 e)
  | k + 1, j, s, vb, c, hk, hst, best, hb, fin => by
    have nw : b0 ∉ wr := fun z => nf (W.sub _ z)
    have jn : j + 1 < n := by omega
    refine codeAny_builtin F.entry_max_loop ?_
    rw [Around.under_plainId F.plain_max_loop]
    show wpAny (model prog w) A.in1 (seqItems? (.ref b0) >>= _) _ _ s
    refine wpAny_bind (wpAny_seqItems hb rfl ?_)
    show wpAny (model prog w) A.in1 (tryCatch (pyNext (.ref it)) _ >>= _) _ _ s
    refine wpAny_bind (wpAny_tryCatch (W.item (j + 1) s _ _ jn hst fun v h1 t1 pv st1 keep => ?_))
    have hb1 := keep b0 _ nw hb
    show wpAny (model prog w) A.in1 (tryCatch (holding [v, v] (richCompare .Gt v vb >>= _)) _ >>= _) _ _ _
    refine wpAny_bind (wpAny_tryCatch (wpAny_holding (wpAny_bind (gt (j + 1) (argBest bt j) v vb _ _ _ pv best ?_))))
    refine wpAny_bind (wpAny_holding (wpAny_truthy_bool (wpAny_bind (wpAny_letGo (wpAny_pure ?_)))))
    cases gb : bt (j + 1) (argBest bt j) with
    | false =>
      simp only [Bool.false_eq_true, if_false]
      refine wpAny_bind (wpAny_letGo ?_)
      rw [mxd_nm]
      have best' : P (argBest bt (j + 1)) vb := by simp only [argBest, gb, Bool.false_eq_true, if_false]; exact best
      exact wpAny_pure ⟨plainId_quiet F.plain_max_loop _, mxd_loop W bt gt b0 nf d k (j + 1) _ vb c (by omega) st1 best' hb1 fun v2 h2 t2 p2 keep2 => fin v2 h2 t2 p2 fun b o b1 b2 e => keep2 b o b1 b2 (keep b o b1 e)⟩
    | true =>
      simp only [if_true]
      refine wpAny_bind (wpAny_updateSeq hb1 rfl (wpAny_bind (wpAny_letGo ?_)))
      rw [mxd_nm]
      have best' : P (argBest bt (j + 1)) v := by simp only [argBest, gb, if_true]; exact pv
      refine wpAny_pure ⟨plainId_quiet F.plain_max_loop _, mxd_loop W bt gt b0 nf d k (j + 1) _ v _ (by omega) (W.frame _ _ _ st1 fun b inf o e => ?_) best' (Heap.get?_update_self _ hb1 rfl) fun v2 h2 t2 p2 keep2 => ?_⟩
      · exact (Heap.get?_update_other _ _ (fun z : b0 = b => nf (z ▸ inf))).trans e
      · exact fin v2 h2 t2 p2 fun b o b1 b2 e => keep2 b o b1 b2 ((Heap.get?_update_other _ _ fun z => b2 z.symm).trans (keep b o b1 e))
/-- the first item, or d -/
theorem mxd_first (W : Walks prog w A.in1 it fp wr n P St) (bt : Nat → Nat → Bool) (gt : CmpOf prog w A.in1 .Gt P bt) (b0 : Addr) (nf : b0 ∉ fp) (d : Value) {s : Shared} {c : Nat} (hst : St 0 s.heap)
    (hb : s.heap.get? b0 = some { cls := .type "list", dict := none, data := .seq #[] c, slots := #[] })
    (fin : ∀ v h' tk, (if n = 0 then v = d else P (argBest bt (n - 1)) v) → (∀ b o, b ∉ wr → b ≠ b0 → s.heap.get? b = some o → h'.get? b = some o) → R (.ok (.ret v)) { s with heap := h', toks := tk }) :
    codeAny (model prog w) A (.builtin "max.loop" ⟨[.ref it, .none, .ref b0], [(dk, d)]⟩) R s := by
  have nw : b0 ∉ wr := fun z => nf (W.sub _ z)
  refine codeAny_builtin F.entry_max_loop ?_
  rw [Around.under_plainId F.plain_max_loop]
  show wpAny (model prog w) A.in1 (seqItems? (.ref b0) >>= _) _ _ s
  refine wpAny_bind (wpAny_seqItems hb rfl ?_)
  show wpAny (model prog w) A.in1 (tryCatch (pyNext (.ref it)) _ >>= _) _ _ s
  by_cases z : n = 0
  · subst z
    refine wpAny_bind (wpAny_tryCatch (W.done s _ _ hst fun h1 t1 keep => ?_))
    show wpAny (model prog w) A.in1 (rule _ >>= _) _ _ _
    refine wpAny_bind (wpAny_rule (wpAny_pure ?_))
    exact fin d h1 t1 (by rw [if_pos rfl]) fun b o b1 _ e => keep b o b1 e
  · refine wpAny_bind (wpAny_tryCatch (W.item 0 s _ _ (by omega) hst fun v h1 t1 pv st1 keep => ?_))
    have hb1 := keep b0 _ nw hb
    show wpAny (model prog w) A.in1 (updateSeq b0 (fun _ => #[v, v]) >>= _) _ _ _
    refine wpAny_bind (wpAny_updateSeq hb1 rfl ?_)
    rw [mxd_nm]
    refine wpAny_pure ⟨plainId_quiet F.plain_max_loop _, mxd_loop W bt gt b0 nf d (n - 1) 0 _ v _ (by omega) (W.frame _ _ _ st1 fun b inf o e => ?_) pv (Heap.get?_update_self _ hb1 rfl) fun v2 h2 t2 p2 keep2 => ?_⟩
    · exact (Heap.get?_update_other _ _ (fun z : b0 = b => nf (z ▸ inf))).trans e
    · exact fin v2 h2 t2 (by rw [if_neg z]; exact p2) fun b o b1 b2 e => keep2 b o b1 b2 ((Heap.get?_update_other _ _ fun z => b2 z.symm).trans (keep b o b1 e))
end
end Dw
namespace Dw
open PySem PyProof.Rows L2 Dv
open Rep (rp)
open RepA (ra)
section
variable {prog : Program} {w : World} {A : Around} {E : Value → Shared → Prop} {s : Shared} {a : Addr} {its : List Value} {ns : List Int} {Q : Value → Shared → Prop}
/-- the greatest of a list of whole numbers, or d -/
def Top (ns : List Int) (d m : Int) : Prop := if ns.length = 0 then m = d else m ∈ ns ∧ ∀ y ∈ ns, y ≤ m
theorem mxd_ints (hh : A.handled = none) (isl : s.heap.IsList a its.toArray) (hi : IntsAre its ns) (d : Int) (t : Tok)
    (fin : ∀ h' tk m t', (∀ b o, s.heap.get? b = some o → h'.get? b = some o) → Top ns d m → Q (.int m t') { s with heap := h', toks := tk }) :
    wpAny (model prog w) A (call (.builtin "max") [.ref a] [(dk, .int d t)]) Q E s := by
  obtain ⟨xs, e⟩ := hi.allInts.items
  have same : numsOf (intItems xs).toList = ns := by
    rw [← e]
    exact hi.numsOf
  rw [nums_intItems] at same
  rw [e] at isl
  refine mxd_call ?_
  show wpAny (model prog w) A.in1 (Builtin.Builtins.bindParams "max" ["key", "default"] 0 ⟨[], [(dk, .int d t)]⟩ >>= _) _ _ s
  refine wpAny_bind (wpAny_of_eq (show Builtin.Builtins.bindParams "max" ["key", "default"] 0 ⟨[], [(dk, .int d t)]⟩ = pure [none, some (.int d t)] from rfl) ?_)
  refine wpAny_bind (wpAny_pure (wpAny_bind (PySem.iter_intList isl fun s2 es st bd ne => ?_)))
  subst es
  refine wpAny_bind (wpAny_newObj_type ?_)
  rw [mxd_nm]
  refine wpAny_pure ⟨plainId_quiet F.plain_max_loop _, ?_⟩
  have W := Walks.list (prog := prog) (w := w) (A := A.in1) hh s.heap.objs.size a ne (intItems xs)
  refine mxd_first W (fun i j => decide (numAt xs i > numAt xs j)) (CmpOf.ints_gt (numAt xs) fun _ _ => intItems_at) _ (fun z => Nat.lt_irrefl _ (bd _ z)) _ ?_ (Heap.get?_push_size _ rfl) fun v h2 t2 pv keep => ?_
  · exact W.frame _ _ _ st fun b _ o q => Heap.get?_push_of_some _ q
  · have old : ∀ b o, s.heap.get? b = some o → h2.get? b = some o := fun b o q => by
      have lt := Heap.lt_size q
      refine keep b o (fun z => ?_) (fun z => ?_) (Heap.get?_push_of_some _ (Heap.get?_push_of_some _ q))
      · rw [List.mem_singleton.mp z] at lt
        exact Nat.lt_irrefl _ lt
      · have sz : (s.heap.push { cls := .type "list_iterator", data := .fields #[.ref a, .int 0 0] }).objs.size = s.heap.objs.size + 1 := Heap.size_push ..
        have z' : b = s.heap.objs.size + 1 := by rw [z]; exact sz
        rw [z'] at lt
        exact Nat.not_succ_lt_self lt
    have sz : (intItems xs).size = ns.length := by rw [← same]; simp [intItems]
    have xsz : xs.size = ns.length := by rw [← same]; simp
    rw [sz] at pv
    by_cases z : ns.length = 0
    · rw [if_pos z] at pv
      subst pv
      exact fin h2 t2 d t old (by unfold Top; rw [if_pos z])
    · rw [if_neg z] at pv
      obtain ⟨t3, rfl⟩ := intItems_at pv
      obtain ⟨g1, g2⟩ := argBest_gt (numAt xs) (ns.length - 1)
      refine fin h2 t2 _ t3 old ?_
      unfold Top
      rw [if_neg z, numAt_eq, same]
      have lt : argBest (fun i j => decide (numAt xs i > numAt xs j)) (ns.length - 1) < ns.length := by omega
      refine ⟨?_, fun y hy => ?_⟩
      · rw [List.getD_eq_getElem?_getD, List.getElem?_eq_getElem lt]
        exact List.getElem_mem lt
      · obtain ⟨j, hj, rfl⟩ := List.mem_iff_getElem.mp hy
        have := g2 j (by omega)
        rw [numAt_eq, numAt_eq, same] at this
        rw [List.getD_eq_getElem?_getD, List.getElem?_eq_getElem hj] at this
        exact this
end
def rMaxDf (K : PySem.W.Frag) : List V → List V → Hp → VK → Prop := fun vs zs H Q => ∃ (a : Addr) (ns : List Int) (d : Int), vs = [V.ref a] ∧ zs = [.int d] ∧ SqL K H a (ns.map V.int) ∧ ∀ m, Top ns d m → Q (.int m) H
theorem cr_maxDf {X : Cx} (hc : X.calm = true) : CallRK X (.builtin "max") [dk] (rMaxDf X.K) := by
  intro pins s σ H vs zs us ws Q I r rz h
  obtain ⟨a, ns, d, rfl, rfl, hs, q⟩ := h
  obtain ⟨its, rv, hl, _⟩ := I.list hs
  obtain rfl := Vals.ref1 r
  obtain ⟨w1, rfl, e1⟩ := vals1 rz
  obtain ⟨t, rfl⟩ := e1
  exact mxd_ints (I.ok.hd hc) hl.isList rv.ints d t fun h' tk m t' keep top => ⟨.int m, H, I.kept keep, ⟨_, rfl⟩, q m top⟩
section
variable {t td : TE} {σ : L2.St} {F H : Hp} {K : PySem.W.Frag}
theorem top_eq : ∀ {ns : List Int} {d m : Int}, Top ns d m → m = mxD ns d
  | [], d, m, h => by
    unfold Top at h
    rw [if_pos (show ([] : List Int).length = 0 from rfl)] at h
    exact h
  | x :: xs, d, m, h => by
    unfold Top at h
    rw [if_neg (by simp)] at h
    obtain ⟨h1, h2⟩ := h
    have a := mxD_mem x xs d
    have b := mxD_le x xs d
    have := h2 _ a
    have := b _ h1
    omega
theorem ev_maxD {m : Option (List Int)} {md : Option Int} (h : EV t σ F H m) (hd : EV td σ F H md) : EV (tCKw (rMaxDf K) (tCons t tNil) (tCons td tNil)) σ F H (m.bind fun xs => md.bind fun d => some (mxD xs d)) := fun F1 H1 l y e Q q => by
  obtain ⟨xs, ex, e⟩ := Option.bind_eq_some_iff.mp e
  obtain ⟨d, ed, e⟩ := Option.bind_eq_some_iff.mp e
  cases e
  refine h F1 H1 l xs ex _ fun v F2 H2 l2 ⟨p, vs, e1, e2, r⟩ => ?_
  refine hd F2 H2 (l.trans l2) d ed _ fun u F3 H3 l3 ru => ?_
  cases ru
  subst e1
  rw [rpL_ints r] at e2
  refine ⟨p, xs, d, rfl, rfl, sqL (l3.h _ _ (l2.fh _ _ e2)), fun m tp => q _ F3 H3 (l2.trans l3) ?_⟩
  rw [top_eq tp]
  rfl
end
end Dw
namespace Dw
open PySem L2 Dv
open Rep (rp)
section
variable {α β S R T : Type} [Rep α] [Rep β] {σ : L2.St} {F H : Hp} {cl : Er → Value} {W : WX} {t : TE}
/-- a while that stands last -/
theorem rd_whileRL {tc : TT} {tb : TS} {D : Ends} {r : T} {n : Nat} {c : S → Option Bool} {f : S → Option (Stp S R)} {s0 : S} {k : S → Option T} {k' : R → Option T} (hm : (whileR c f n s0).bind (fun st => st.elim k k') = some r)
    (P : S → L2.St → Hp → Hp → Prop) (h0 : P s0 σ F H) (hS : ∀ s σ' F' H', P s σ' F' H' → Same F' H') (hc : ∀ s σ' F' H', P s σ' F' H' → EVT tc σ' F' H' (c s))
    (hb : ∀ s σ' F' H' F2 H2, P s σ' F' H' → Lat F' H' F2 H2 → ∀ st, f s = some st → ∀ (D' : Ends), D'.rt = D.rt → (∀ s', st = .go s' → ∀ σ3 F3 H3, P s' σ3 F3 H3 → D'.nx σ3 H3) → (∀ y, st = .ret y → k' y = some r) → tb D' σ' H2)
    (hd : ∀ s σ' F' H' F2 H2, k s = some r → P s σ' F' H' → Lat F' H' F2 H2 → D.nx σ' H2) : tWhile tc tb D σ H :=
  rd_whileR (u := tNext) (D := D) hm P h0 hS hc hb hd
theorem ex_un {m : Rs (Option α)} (h : EX cl W t σ F H m) : EX cl W t σ F H (m.bind fun y => exB y fun x => x.bind fun z => some (.ok z)) := fun F1 H1 l z e Q q qe => by
  obtain ⟨y1, e1, e⟩ := Option.bind_eq_some_iff.mp e
  refine h F1 H1 l y1 e1 Q (fun x ex v F2 H2 l2 rv => ?_) (fun e2 ee F2 H2 l2 => ?_)
  · subst ex
    obtain ⟨w, ew, e⟩ := Option.bind_eq_some_iff.mp (show (x.bind fun z => some (.ok z)) = some z from e)
    subst ew
    cases e
    exact q w rfl v F2 H2 l2 rv
  · subst ee
    cases e
    exact qe e2 rfl F2 H2 l2
end
end Dw

set_option linter.all false
/-! Pure lemmas about the vocabulary. -/
namespace Q
open Dv
variable {α β S R : Type}
theorem loopR_any {f : Unit → α → Option (Stp Unit R)} (bad : α → Bool) (r : R) : ∀ {xs : List α}, (∀ x ∈ xs, f () x = some (if bad x = true then .ret r else .go ())) →
    loopR f () xs = some (if xs.any bad = true then .ret r else .go ())
  | [], _ => rfl
  | x :: xs, h => by
    have h1 := h x List.mem_cons_self
    have h2 := loopR_any bad r fun y hy => h y (List.mem_cons_of_mem _ hy)
    show (f () x).bind _ = _
    rw [h1]
    cases hb : bad x
    · simp [hb, h2]
    · simp [hb]
theorem loopG_inv {f : S → α → Option S} (I : List α → S → Prop) : ∀ {xs : List α} {pre : List α} {s : S}, I pre s →
    (∀ pre x s, I pre s → x ∈ xs → ∃ s', f s x = some s' ∧ I (pre ++ [x]) s') → ∃ s', loopG f s xs = some s' ∧ I (pre ++ xs) s'
  | [], pre, s, h, _ => ⟨s, rfl, by rw [List.append_nil]; exact h⟩
  | x :: xs, pre, s, h, hs => by
    obtain ⟨s1, e1, h1⟩ := hs pre x s h List.mem_cons_self
    obtain ⟨s2, e2, h2⟩ := loopG_inv I (xs := xs) h1 fun p y s i m => hs p y s i (List.mem_cons_of_mem _ m)
    refine ⟨s2, ?_, ?_⟩
    · show (f s x).bind _ = _
      rw [e1]
      exact e2
    · rw [show pre ++ x :: xs = pre ++ [x] ++ xs by simp]
      exact h2
/-- a loop that folds -/
theorem loopG_fold {f : S → α → Option S} (g : S → α → S) (I : S → Prop) : ∀ {xs : List α} {s : S}, I s → (∀ s x, I s → x ∈ xs → f s x = some (g s x) ∧ I (g s x)) → loopG f s xs = some (xs.foldl g s) ∧ I (xs.foldl g s)
  | [], s, h, _ => ⟨rfl, h⟩
  | x :: xs, s, h, hs => by
    obtain ⟨e1, h1⟩ := hs s x h List.mem_cons_self
    obtain ⟨e2, h2⟩ := loopG_fold g I (xs := xs) h1 fun s y i m => hs s y i (List.mem_cons_of_mem _ m)
    refine ⟨?_, h2⟩
    show (f s x).bind _ = _
    rw [e1]
    exact e2
theorem rng_nat {a b : Int} (h1 : -1000000 ≤ a) (h2 : a ≤ 1000000) (h3 : -1000000 ≤ b) (h4 : b ≤ 1000000) : rng a b = some ((List.range (b - a).toNat).map fun i => a + (i : Nat)) := by
  unfold rng
  rw [if_pos (by omega)]
theorem rng0 {n : Nat} (h : n ≤ 1000000) : rng 0 (n : Int) = some ((List.range n).map fun i => ((i : Nat) : Int)) := by
  rw [rng_nat (by omega) (by omega) (by omega) (by omega)]
  have e : ((n : Int) - 0).toNat = n := by omega
  rw [e]
  congr 1
  exact List.map_congr_left fun i _ => by omega
theorem mem_rng {a b : Int} {xs : List Int} (h : rng a b = some xs) (x : Int) : x ∈ xs ↔ a ≤ x ∧ x < b := by
  unfold rng at h
  split at h
  · cases h
    rw [List.mem_map]
    constructor
    · rintro ⟨i, hi, rfl⟩
      have := List.mem_range.mp hi
      omega
    · rintro ⟨h1, h2⟩
      exact ⟨(x - a).toNat, List.mem_range.mpr (by omega), by omega⟩
  · cases h
theorem atZ_nat (xs : List α) (k : Nat) : atZ xs (k : Int) = xs[k]? := by
  unfold atZ ixZ
  rw [if_pos (by omega)]
  by_cases h : k < xs.length
  · rw [if_pos (by omega)]
    simp
  · rw [if_neg (by omega)]
    simp [Nat.not_lt.mp h]
theorem atZ_get {xs : List α} {i : Int} (h0 : 0 ≤ i) (h1 : i < xs.length) : ∃ x, atZ xs i = some x ∧ xs[i.toNat]? = some x := by
  have e : ((i.toNat : Nat) : Int) = i := by omega
  have e2 := atZ_nat xs i.toNat
  rw [e] at e2
  have e3 : xs[i.toNat]? = some (xs[i.toNat]'(by omega)) := by simp
  exact ⟨_, e2.trans e3, e3⟩
theorem atZ_mem {xs : List α} {i : Int} {x : α} (h : atZ xs i = some x) : x ∈ xs := by
  unfold atZ at h
  obtain ⟨j, _, e⟩ := Option.bind_eq_some_iff.mp h
  exact List.mem_of_getElem? e
theorem lcG_all {c : α → Option Bool} {f : α → Option β} (p : α → Bool) (g : α → β) : ∀ {xs : List α}, (∀ x ∈ xs, c x = some (p x)) → (∀ x ∈ xs, p x = true → f x = some (g x)) → lcG c f xs = some ((xs.filter p).map g)
  | [], _, _ => rfl
  | x :: xs, h1, h2 => by
    have e := lcG_all p g (fun y hy => h1 y (List.mem_cons_of_mem _ hy)) fun y hy => h2 y (List.mem_cons_of_mem _ hy)
    show (c x).bind _ = _
    rw [h1 x List.mem_cons_self]
    cases hp : p x
    · simp [hp, e]
    · simp [hp, e, h2 x List.mem_cons_self hp]
theorem lc_all {c : α → Option Bool} {f : α → Option β} (p : α → Bool) (g : α → β) {xs : List α} (hl : xs.length < 10000000) (h1 : ∀ x ∈ xs, c x = some (p x)) (h2 : ∀ x ∈ xs, p x = true → f x = some (g x)) : lc c f xs = some ((xs.filter p).map g) := by
  unfold lc
  rw [if_pos hl]
  exact lcG_all p g h1 h2
theorem lc_map {f : α → Option β} (g : α → β) {xs : List α} (hl : xs.length < 10000000) (h2 : ∀ x ∈ xs, f x = some (g x)) : lc (fun _ => some true) f xs = some (xs.map g) := by
  rw [lc_all (fun _ => true) g hl (fun _ _ => rfl) fun x hx _ => h2 x hx]
  rw [List.filter_eq_self.mpr fun _ _ => rfl]
theorem modZ_pos {i j : Int} (h : 0 < j) : modZ i j = some (i % j) := if_pos h
theorem divZ_pos {i j : Int} (h : 0 < j) (h2 : j < 1073741824) : divZ i j = some (i / j) := if_pos ⟨h, h2⟩
theorem mulZ_r {i j : Int} (h : -1000000000000000000 < j) (h2 : j < 1000000000000000000) : mulZ i j = some (i * j) := if_pos (.inr (by omega))
theorem mulZ_l {i j : Int} (h : -1000000000000000000 < i) (h2 : i < 1000000000000000000) : mulZ i j = some (i * j) := if_pos (.inl (by omega))
theorem addL_ok {xs : List α} {y : α} (h : xs.length < 1000000) : addL xs y = some (xs ++ [y]) := if_pos (by omega)
theorem catL_ok {xs ys : List α} (h : xs.length + ys.length < 1000000) : catL xs ys = some (xs ++ ys) := if_pos (by omega)
theorem emod_bd (a : Int) {b : Int} (h : 0 < b) : 0 ≤ a % b ∧ a % b < b := ⟨Int.emod_nonneg _ (by omega), Int.emod_lt_of_pos _ h⟩
theorem cutZ_len (xs : List α) (lo hi : Option Int) : (cutZ xs lo hi).length ≤ xs.length := by
  unfold cutZ
  rw [List.length_take, List.length_drop]
  omega
theorem cutIx_nat (n d k : Nat) : cutIx n d (some (k : Int)) = min k n := by
  show (if (k : Int) < 0 then ((k : Int) + (n : Int)).toNat else min (k : Int).toNat n) = _
  rw [if_neg (by omega)]
  simp
theorem cutZ_upto (xs : List α) (k : Nat) : cutZ xs none (some (k : Int)) = xs.take k := by
  unfold cutZ
  rw [cutIx_nat]
  show List.take (min k xs.length - 0) (xs.drop 0) = _
  rw [List.drop_zero, Nat.sub_zero]
  by_cases h : k ≤ xs.length
  · rw [Nat.min_eq_left h]
  · rw [Nat.min_eq_right (by omega), List.take_of_length_le (Nat.le_refl _), List.take_of_length_le (by omega)]
theorem cutZ_from (xs : List α) (k : Nat) : cutZ xs (some (k : Int)) none = xs.drop k := by
  unfold cutZ
  rw [cutIx_nat]
  show List.take (xs.length - min k xs.length) _ = _
  rw [List.take_of_length_le (by rw [List.length_drop]; omega)]
  by_cases h : k ≤ xs.length
  · rw [Nat.min_eq_left h]
  · rw [Nat.min_eq_right (by omega), List.drop_of_length_le (Nat.le_refl _), List.drop_of_length_le (by omega)]
end Q
namespace Q
open Dv
variable {α β S R : Type}
/-- a loop by what is still to come -/
theorem loopG_rem {f : S → α → Option S} (I : List α → S → Prop) : ∀ {xs : List α} {s : S}, I xs s → (∀ x rest s, I (x :: rest) s → ∃ s', f s x = some s' ∧ I rest s') → ∃ s', loopG f s xs = some s' ∧ I [] s'
  | [], s, h, _ => ⟨s, rfl, h⟩
  | x :: xs, s, h, hs => by
    obtain ⟨s1, e1, h1⟩ := hs x xs s h
    obtain ⟨s2, e2, h2⟩ := loopG_rem I (xs := xs) h1 hs
    refine ⟨s2, ?_, h2⟩
    show (f s x).bind _ = _
    rw [e1]
    exact e2
theorem rng_lt {a b : Int} {xs : List Int} (h : rng a b = some xs) : xs.Pairwise (· < ·) := by
  unfold rng at h
  split at h
  · cases h
    rw [List.pairwise_map]
    exact List.Pairwise.imp (fun {i j} h => by omega) List.pairwise_lt_range
  · cases h
theorem pairwise_adj {r : α → α → Prop} (tr : ∀ a b c, r a b → r b c → r a c) : ∀ {l : List α}, (∀ k a b, l[k]? = some a → l[k + 1]? = some b → r a b) → l.Pairwise r
  | [], _ => .nil
  | [x], _ => by simp
  | x :: y :: l, h => by
    have ih := pairwise_adj tr (l := y :: l) fun k a b h1 h2 => h (k + 1) a b (by simpa using h1) (by simpa using h2)
    have h0 : r x y := h 0 x y rfl rfl
    refine List.pairwise_cons.mpr ⟨fun z hz => ?_, ih⟩
    rcases List.mem_cons.mp hz with rfl | hz
    · exact h0
    · exact tr _ _ _ h0 ((List.pairwise_cons.mp ih).1 z hz)
theorem pairwise_get {r : α → α → Prop} {l : List α} (h : l.Pairwise r) {i j : Nat} {a b : α} (hij : i < j) (ha : l[i]? = some a) (hb : l[j]? = some b) : r a b := by
  obtain ⟨h1, rfl⟩ := List.getElem?_eq_some_iff.mp ha
  obtain ⟨h2, rfl⟩ := List.getElem?_eq_some_iff.mp hb
  exact List.pairwise_iff_getElem.mp h i j h1 h2 hij
end Q
namespace Q
open Dv
variable {α β S R : Type}
/-- a loop that folds, by what is still to come -/
theorem loopG_fr {f : S → α → Option S} (g : S → α → S) (I : List α → S → Prop) : ∀ {xs : List α} {s : S}, I xs s → (∀ x rest s, I (x :: rest) s → f s x = some (g s x) ∧ I rest (g s x)) → loopG f s xs = some (xs.foldl g s) ∧ I [] (xs.foldl g s)
  | [], s, h, _ => ⟨rfl, h⟩
  | x :: xs, s, h, hs => by
    obtain ⟨e1, h1⟩ := hs x xs s h
    obtain ⟨e2, h2⟩ := loopG_fr g I (xs := xs) h1 hs
    refine ⟨?_, h2⟩
    show (f s x).bind _ = _
    rw [e1]
    exact e2
theorem loopG_eq {f : S → α → Option S} (g : S → α → S) {xs : List α} {s : S} (h : ∀ s x, x ∈ xs → f s x = some (g s x)) : loopG f s xs = some (xs.foldl g s) :=
  (loopG_fold g (fun _ => True) (xs := xs) (s := s) trivial fun s x _ hx => ⟨h s x hx, trivial⟩).1
end Q
namespace Q
open Dv
variable {α β S R : Type}
/-- ends, with such an answer -/
def Ok (m : Option α) (P : α → Prop) : Prop := ∃ x, m = some x ∧ P x
theorem Ok.mk {x : α} {P : α → Prop} (h : P x) : Ok (some x) P := ⟨x, rfl, h⟩
theorem Ok.imp {m : Option α} {P P' : α → Prop} (h : Ok m P) (k : ∀ x, P x → P' x) : Ok m P' := h.elim fun x h => ⟨x, h.1, k x h.2⟩
theorem Ok.of {m : Option α} {x : α} {P : α → Prop} (e : m = some x) (h : P x) : Ok m P := ⟨x, e, h⟩
theorem Ok.bind {m : Option α} {f : α → Option β} {P : α → Prop} {P' : β → Prop} (h : Ok m P) (k : ∀ x, P x → Ok (f x) P') : Ok (m.bind f) P' := by
  obtain ⟨x, e, hx⟩ := h
  obtain ⟨y, e2, hy⟩ := k x hx
  exact ⟨y, by rw [e]; exact e2, hy⟩
theorem Ok.get {m : Option α} {x : α} (h : Ok m fun y => y = x) : m = some x := h.elim fun y h => by rw [h.1, h.2]
/-- a step of a block -/
theorem stp {m : Option α} {f : α → Option β} {r : Option β} (P : α → Prop) (h : Ok m P) (k : ∀ x, P x → f x = r) : m.bind f = r := by
  obtain ⟨x, e, hx⟩ := h
  rw [e]
  exact k x hx
end Q
namespace Q
open Dv
variable {α β S R : Type}
/-- a loop by places -/
theorem loopG_ix {f : S → Int → Option S} (I : Nat → S → Prop) {s : S} (h0 : I 0 s) : ∀ {N : Nat}, (∀ i s, i < N → I i s → Ok (f s (i : Int)) (I (i + 1))) → Ok (loopG f s ((List.range N).map fun i => ((i : Nat) : Int))) (I N)
  | 0, _ => ⟨s, rfl, h0⟩
  | N + 1, h => by
    have app : ∀ (xs : List Int) (s0 s1 : S) (y : Int), loopG f s0 xs = some s1 → loopG f s0 (xs ++ [y]) = f s1 y := by
      intro xs
      induction xs with
      | nil =>
        intro s0 s1 y e
        cases e
        show (f s0 y).bind _ = _
        cases f s0 y <;> rfl
      | cons x xs ih =>
        intro s0 s1 y e
        obtain ⟨s2, e1, e2⟩ := Option.bind_eq_some_iff.mp (show (f s0 x).bind (fun s' => loopG f s' xs) = some s1 from e)
        show (f s0 x).bind (fun s' => loopG f s' (xs ++ [y])) = _
        rw [e1]
        exact ih s2 s1 y e2
    obtain ⟨s1, e1, i1⟩ := loopG_ix I h0 (N := N) fun i s hi => h i s (by omega)
    rw [List.range_succ, List.map_append, List.map_singleton]
    obtain ⟨s2, e2, i2⟩ := h N s1 (by omega) i1
    exact ⟨s2, by rw [app _ _ _ _ e1, e2], i2⟩
end Q
namespace Q
open Dv
/-- what holds of a turn's end -/
def StpP {S ρ : Type} (I : S → Prop) (Pr : ρ → Prop) : Stp S ρ → Prop
  | .go s => I s
  | .ret r => Pr r
theorem loopR_pre {α S ρ : Type} {f : S → α → Option (Stp S ρ)} (I : Nat → S → Prop) (Pr : ρ → Prop) : ∀ {xs : List α} {k : Nat} {s : S}, I k s → (∀ i s x, k ≤ i → xs[i - k]? = some x → I i s → Ok (f s x) (StpP (I (i + 1)) Pr)) →
    Ok (loopR f s xs) (StpP (I (k + xs.length)) Pr)
  | [], k, s, h, _ => ⟨.go s, rfl, h⟩
  | x :: xs, k, s, h, hs => by
    obtain ⟨st, e, hst⟩ := hs k s x (Nat.le_refl _) (by simp) h
    cases st with
    | go s1 =>
      obtain ⟨st2, e2, h2⟩ := loopR_pre I Pr (xs := xs) (k := k + 1) (s := s1) hst fun i s y hi hy hI => hs i s y (by omega) (by
        have : i - k = i - (k + 1) + 1 := by omega
        rw [this]
        simpa using hy) hI
      refine ⟨st2, ?_, by rw [List.length_cons, show k + (xs.length + 1) = k + 1 + xs.length by omega]; exact h2⟩
      show (f s x).bind _ = _
      rw [e]
      exact e2
    | ret r =>
      refine ⟨.ret r, ?_, hst⟩
      show (f s x).bind _ = _
      rw [e]
      rfl
theorem loopR_ix {S ρ : Type} {f : S → Int → Option (Stp S ρ)} (I : Nat → S → Prop) (Pr : ρ → Prop) {N : Nat} {s : S} (h0 : I 0 s) (hs : ∀ i s, i < N → I i s → Ok (f s (i : Int)) (StpP (I (i + 1)) Pr)) :
    Ok (loopR f s ((List.range N).map fun i => ((i : Nat) : Int))) (StpP (I N) Pr) := by
  have := loopR_pre (f := f) I Pr (xs := (List.range N).map fun i => ((i : Nat) : Int)) (k := 0) h0 fun i s x _ hx hI => by
    rw [Nat.sub_zero, List.getElem?_map] at hx
    by_cases c : i < N
    · rw [List.getElem?_range c] at hx
      cases hx
      exact hs i s c hI
    · rw [List.getElem?_eq_none (by simpa using c)] at hx
      cases hx
  simpa using this
end Q

set_option linter.all false
/-! Webs: drawn by a law, and looked at. -/
namespace Q
open Dv
def is_web (points : Int) (ties : List (Int × Int)) : Option Bool :=
  ((if (decide (points < 0)) = true then some true else (if (decide (7 < points)) = true then some true else some (decide (12 < (ties.length : Int)))))).bind fun b1 => if b1 = true then
    some false
  else
  (rng 0 (ties.length : Int)).bind fun xs2 => (loopR (S := Unit) (R := Bool) (fun (s3 : Unit) (q4 : Int) =>
      (atZ ties q4).bind fun p8 =>
      ((if (decide (p8.1 < 0)) = true then some true else (if (decide (p8.2 ≤ p8.1)) = true then some true else some (decide (points ≤ p8.2))))).bind fun b9 => if b9 = true then
        (some false).bind fun y10 => some (.ret y10)
      else
      ((if (decide (0 < q4)) = true then (atZ ties q4).bind fun y11 => (atZ ties (q4 - 1)).bind fun y12 => some (leP y11 y12) else some false)).bind fun b13 => if b13 = true then
        (some false).bind fun y14 => some (.ret y14)
      else
      some (.go ())) () xs2).bind fun st5 => st5.elim (fun s6 =>
  some true) (fun y7 => some y7)
def cell_at (script : List Int) (k : Int) : Option Int :=
  (some (decide (k < (script.length : Int)))).bind fun b15 => if b15 = true then
    atZ script k
  else
  some 0
def next (seed : Int) : Option Int :=
  ((mulZ seed 48271).bind fun y17 => some (y17 + 12345)).bind fun y18 => modZ y18 2147483647
def web_by (script : List Int) (k : Int) (most : Int) (cap : Int) : Option (Int × (List (Int × Int))) :=
  ((cell_at script k).bind fun y19 => modZ y19 (most + 1)).bind fun points_20 =>
  (((cell_at script (k + 1)).bind fun y21 => some (y21, ())).bind fun a22 => next a22.1).bind fun seed_23 =>
  (((cell_at script (k + 2)).bind fun y24 => modZ y24 4).bind fun y25 => some (1 + y25)).bind fun thick_26 =>
  (some []).bind fun ties_27 =>
  (rng 0 points_20).bind fun xs28 => (loopG (S := Int × (List (Int × Int))) (fun (s29 : Int × (List (Int × Int))) (q30 : Int) =>
      (rng (q30 + 1) points_20).bind fun xs34 => (loopG (S := Int × (List (Int × Int))) (fun (s35 : Int × (List (Int × Int))) (q36 : Int) =>
          ((
            ((((divZ s35.1 16).bind fun y45 => modZ y45 4).bind fun y46 => some (decide (y46 < thick_26))).bind fun y47 => (if y47 = true then some (decide ((s35.2.length : Int) < cap)) else some false)).bind fun b48 => if b48 = true then
              (addL s35.2 (q30, q36)).bind fun ties_49 =>
              some ties_49
            else
              some s35.2 : Option ((List (Int × Int))))).bind fun s44 =>
          (next s35.1).bind fun seed_50 =>
          some (seed_50, s44)) (s29.1, s29.2) xs34).bind fun s38 =>
      some (s38.1, s38.2)) (seed_23, ties_27) xs28).bind fun s32 =>
  some (points_20, s32.2)
/-- the order of ties -/
def ltT (a b : Int × Int) : Prop := a.1 < b.1 ∨ (a.1 = b.1 ∧ a.2 < b.2)
instance (a b : Int × Int) : Decidable (ltT a b) := inferInstanceAs (Decidable (_ ∨ _))
theorem ltT_trans (a b c : Int × Int) (h1 : ltT a b) (h2 : ltT b c) : ltT a c := by
  unfold ltT at *
  omega
theorem ltT_not_le (a b : Int × Int) : leP a b = false ↔ ltT b a := by
  unfold leP ltT
  split <;> simp only [decide_eq_false_iff_not] <;> omega
/-- a tie of p points -/
def Tie (p : Int) (t : Int × Int) : Prop := 0 ≤ t.1 ∧ t.1 < t.2 ∧ t.2 < p
instance (p : Int) (t : Int × Int) : Decidable (Tie p t) := inferInstanceAs (Decidable (_ ∧ _ ∧ _))
structure Ties (p : Int) (ts : List (Int × Int)) : Prop where
  tie : ∀ t ∈ ts, Tie p t
  ord : ts.Pairwise ltT
instance (p : Int) (ts : List (Int × Int)) : Decidable (Ties p ts) := decidable_of_iff ((∀ t ∈ ts, Tie p t) ∧ ts.Pairwise ltT) ⟨fun h => ⟨h.1, h.2⟩, fun h => ⟨h.1, h.2⟩⟩
def Web (p : Int) (ts : List (Int × Int)) : Prop := (0 ≤ p ∧ p ≤ 7) ∧ ts.length ≤ 12 ∧ Ties p ts
instance (p : Int) (ts : List (Int × Int)) : Decidable (Web p ts) := inferInstanceAs (Decidable (_ ∧ _ ∧ _))
def badAt (p : Int) (ts : List (Int × Int)) (k : Int) : Bool := match atZ ts k with
  | some t => decide (¬ Tie p t) || (decide (0 < k) && match atZ ts (k - 1) with
    | some u => leP t u
    | none => false)
  | none => false
theorem is_web_eq (p : Int) (ts : List (Int × Int)) (h : ts.length ≤ 1000) : is_web p ts = some (decide (Web p ts)) := by
  unfold is_web
  by_cases c : (p < 0 ∨ 7 < p) ∨ 12 < ts.length
  · have n : ¬ Web p ts := fun ⟨h1, h2, _⟩ => by omega
    have e : (if decide (p < 0) = true then some true else if decide (7 < p) = true then some true else some (decide (12 < (ts.length : Int)))) = some true := by
      by_cases h1 : p < 0
      · simp [h1]
      · by_cases h2 : 7 < p
        · simp [h1, h2]
        · have : 12 < (ts.length : Int) := by omega
          simp [h1, h2, this]
    rw [e, Option.bind_some, if_pos rfl, decide_eq_false n]
  · have e : (if decide (p < 0) = true then some true else if decide (7 < p) = true then some true else some (decide (12 < (ts.length : Int)))) = some false := by
      have h1 : ¬ p < 0 := by omega
      have h2 : ¬ 7 < p := by omega
      have h3 : ¬ 12 < (ts.length : Int) := by omega
      simp [h1, h2, h3]
    rw [e, Option.bind_some, if_neg Bool.false_ne_true, rng0 (by omega), Option.bind_some]
    rw [loopR_any (badAt p ts) false]
    · have key : ((List.range ts.length).map fun i => ((i : Nat) : Int)).any (badAt p ts) = decide (¬ Web p ts) := by
        rw [Bool.eq_iff_iff, List.any_eq_true, decide_eq_true_iff]
        constructor
        · rintro ⟨k, hk, hb⟩ ⟨_, _, w⟩
          obtain ⟨i, hi, rfl⟩ := List.mem_map.mp hk
          have hi := List.mem_range.mp hi
          unfold badAt at hb
          rw [atZ_nat] at hb
          have ei : ts[i]? = some ts[i] := by simp [hi]
          rw [ei] at hb
          simp only [Bool.or_eq_true, decide_eq_true_eq, Bool.and_eq_true] at hb
          rcases hb with hb | ⟨h0, hb⟩
          · exact hb (w.tie _ (List.mem_of_getElem? ei))
          · have e1 : ((i : Int) - 1) = ((i - 1 : Nat) : Int) := by omega
            rw [e1, atZ_nat] at hb
            have ej : ts[i - 1]? = some (ts[i - 1]'(by omega)) := by simp
            rw [ej] at hb
            have := (ltT_not_le _ _).mpr (pairwise_get w.ord (show i - 1 < i by omega) ej ei)
            dsimp only at hb
            rw [this] at hb
            cases hb
        · intro nw
          refine Decidable.byContradiction fun no => nw ⟨by omega, by omega, ?_⟩
          have all : ∀ i, i < ts.length → badAt p ts (i : Int) = false := fun i hi => by
            refine Bool.eq_false_iff.mpr fun q => no ⟨(i : Int), List.mem_map.mpr ⟨i, List.mem_range.mpr hi, rfl⟩, q⟩
          refine ⟨fun t ht => ?_, pairwise_adj ltT_trans fun k a b ha hb => ?_⟩
          · obtain ⟨i, hi⟩ := List.mem_iff_getElem?.mp ht
            have hl := (List.getElem?_eq_some_iff.mp hi).1
            have q := all i hl
            unfold badAt at q
            rw [atZ_nat, hi] at q
            simp only [Bool.or_eq_false_iff, decide_eq_false_iff_not, Decidable.not_not] at q
            exact q.1
          · have hl := (List.getElem?_eq_some_iff.mp hb).1
            have q := all (k + 1) hl
            unfold badAt at q
            rw [atZ_nat, hb] at q
            have e1 : (((k + 1 : Nat) : Int) - 1) = ((k : Nat) : Int) := by omega
            simp only [e1, atZ_nat, ha, Bool.or_eq_false_iff, Bool.and_eq_false_iff, decide_eq_false_iff_not] at q
            refine (ltT_not_le _ _).mp ?_
            rcases q.2 with q | q
            · omega
            · exact q
      rw [key]
      by_cases w : Web p ts
      · simp [w]
      · simp [w]
    · intro k hk
      obtain ⟨i, hi, rfl⟩ := List.mem_map.mp hk
      have hi := List.mem_range.mp hi
      obtain ⟨t, ei⟩ : ∃ t, ts[i]? = some t := ⟨ts[i], by simp [hi]⟩
      unfold badAt
      rw [atZ_nat, ei, Option.bind_some]
      by_cases ht : Tie p t
      · obtain ⟨h1, h2, h3⟩ := id ht
        have g1 : ¬ t.1 < 0 := by omega
        have g2 : ¬ t.2 ≤ t.1 := by omega
        have g3 : ¬ p ≤ t.2 := by omega
        simp only [g1, g2, g3, decide_false, Bool.false_eq_true, ↓reduceIte, Option.bind_some, ht, not_true_eq_false, Bool.false_or]
        by_cases h0 : 0 < (i : Int)
        · have e1 : ((i : Int) - 1) = ((i - 1 : Nat) : Int) := by omega
          have ej : ts[i - 1]? = some (ts[i - 1]'(by omega)) := by simp
          simp only [h0, decide_true, ↓reduceIte, e1, atZ_nat, ei, ej, Option.bind_some, Bool.true_and]
          split <;> rfl
        · simp only [h0, decide_false, Bool.false_eq_true, ↓reduceIte, Option.bind_some, Bool.false_and]
      · have e2 : (if decide (t.1 < 0) = true then some true else if decide (t.2 ≤ t.1) = true then some true else some (decide (p ≤ t.2))) = some true := by
          unfold Tie at ht
          by_cases g1 : t.1 < 0
          · simp [g1]
          · by_cases g2 : t.2 ≤ t.1
            · simp [g1, g2]
            · have g3 : p ≤ t.2 := by omega
              simp [g1, g2, g3]
        rw [e2, Option.bind_some, if_pos rfl]
        simp [ht]
def cell (ns : List Int) (k : Int) : Int := ns.getD k.toNat 0
theorem cell_at_eq (ns : List Int) {k : Int} (h : 0 ≤ k) : cell_at ns k = some (cell ns k) := by
  unfold cell_at cell
  rw [Option.bind_some]
  by_cases c : k < (ns.length : Int)
  · obtain ⟨x, e1, e2⟩ := atZ_get h c
    rw [decide_eq_true c, if_pos rfl, e1, List.getD_eq_getElem?_getD, e2]
    rfl
  · rw [decide_eq_false c, if_neg Bool.false_ne_true, List.getD_eq_getElem?_getD, List.getElem?_eq_none (by omega)]
    rfl
def nxt (s : Int) : Int := (s * 48271 + 12345) % 2147483647
theorem next_eq (s : Int) : next s = some (nxt s) := by
  unfold next nxt
  rw [mulZ_r (by decide) (by decide), Option.bind_some, Option.bind_some, modZ_pos (by decide)]
/-- what a turn of the inner loop keeps -/
structure Inn (p lo : Int) (cap : Int) (rem : List Int) (s : Int × List (Int × Int)) : Prop where
  tie : ∀ t ∈ s.2, Tie p t
  ord : s.2.Pairwise ltT
  len : (s.2.length : Int) ≤ max cap 0
  small : s.2.length ≤ 100000
  lt : ∀ t ∈ s.2, t.1 < lo ∨ (t.1 = lo ∧ ∀ y ∈ rem, t.2 < y)
  rp : rem.Pairwise (· < ·)
  bd : ∀ y ∈ rem, lo < y ∧ y < p
structure Out (p : Int) (cap : Int) (rem : List Int) (s : Int × List (Int × Int)) : Prop where
  tie : ∀ t ∈ s.2, Tie p t
  ord : s.2.Pairwise ltT
  len : (s.2.length : Int) ≤ max cap 0
  small : s.2.length ≤ 100000
  lt : ∀ t ∈ s.2, ∀ x ∈ rem, t.1 < x
  rp : rem.Pairwise (· < ·)
  bd : ∀ x ∈ rem, 0 ≤ x ∧ x < p
theorem web_by_spec (ns : List Int) {k most cap : Int} (hk : 0 ≤ k) (h0 : 0 ≤ most) (h1 : most ≤ 1000) (hc : cap ≤ 1000) :
    ∃ p ts, web_by ns k most cap = some (p, ts) ∧ (0 ≤ p ∧ p ≤ most) ∧ (ts.length : Int) ≤ max cap 0 ∧ Ties p ts := by
  unfold web_by
  rw [cell_at_eq ns hk, Option.bind_some, modZ_pos (by omega), Option.bind_some, cell_at_eq ns (show 0 ≤ k + 1 by omega), Option.bind_some, Option.bind_some, next_eq, Option.bind_some, cell_at_eq ns (show 0 ≤ k + 2 by omega), Option.bind_some, modZ_pos (by decide),
    Option.bind_some, Option.bind_some, Option.bind_some]
  obtain ⟨p0, p1⟩ := emod_bd (cell ns k) (show 0 < most + 1 by omega)
  generalize cell ns k % (most + 1) = p at *
  generalize 1 + cell ns (k + 2) % 4 = thick
  rw [rng_nat (by omega) (by omega) (by omega) (by omega), Option.bind_some]
  generalize hxs : (List.range (p - 0).toNat).map (fun i => (0 : Int) + (i : Nat)) = xs
  have hx : rng 0 p = some xs := by rw [rng_nat (by omega) (by omega) (by omega) (by omega), hxs]
  have L1 := fun hs => loopG_rem (f := (fun (s29 : Int × (List (Int × Int))) (q30 : Int) =>
      (rng (q30 + 1) p).bind fun xs34 => (loopG (S := Int × (List (Int × Int))) (fun (s35 : Int × (List (Int × Int))) (q36 : Int) =>
          ((
            ((((divZ s35.1 16).bind fun y45 => modZ y45 4).bind fun y46 => some (decide (y46 < thick))).bind fun y47 => (if y47 = true then some (decide ((s35.2.length : Int) < cap)) else some false)).bind fun b48 => if b48 = true then
              (addL s35.2 (q30, q36)).bind fun ties_49 =>
              some ties_49
            else
              some s35.2 : Option ((List (Int × Int))))).bind fun s44 =>
          (next s35.1).bind fun seed_50 =>
          some (seed_50, s44)) (s29.1, s29.2) xs34).bind fun s38 =>
      some (s38.1, s38.2))) (Out p cap) (xs := xs) (s := (nxt (cell ns (k + 1)), [])) ⟨by simp, by simp, by simp; omega, by simp, by simp, rng_lt hx, fun x hx' => by
      have := (mem_rng hx x).mp hx'
      omega⟩ hs
  refine Exists.elim (L1 ?_) ?_
  rotate_left
  · rintro s' ⟨e, o⟩
    rw [e, Option.bind_some]
    exact ⟨p, s'.2, rfl, by omega, o.len, o.tie, o.ord⟩
  · intro x rest s O
    obtain ⟨bx0, bx1⟩ := O.bd x List.mem_cons_self
    have hr : rng (x + 1) p = some ((List.range (p - (x + 1)).toNat).map fun i => (x + 1) + (i : Nat)) := rng_nat (by omega) (by omega) (by omega) (by omega)
    generalize hys : (List.range (p - (x + 1)).toNat).map (fun i => (x + 1) + ((i : Nat) : Int)) = ys at hr
    rw [hr, Option.bind_some]
    have L2 := fun hs => loopG_rem (f := (fun (s35 : Int × (List (Int × Int))) (q36 : Int) =>
          ((
            ((((divZ s35.1 16).bind fun y45 => modZ y45 4).bind fun y46 => some (decide (y46 < thick))).bind fun y47 => (if y47 = true then some (decide ((s35.2.length : Int) < cap)) else some false)).bind fun b48 => if b48 = true then
              (addL s35.2 (x, q36)).bind fun ties_49 =>
              some ties_49
            else
              some s35.2 : Option ((List (Int × Int))))).bind fun s44 =>
          (next s35.1).bind fun seed_50 =>
          some (seed_50, s44))) (Inn p x cap) (xs := ys) (s := (s.1, s.2)) ⟨O.tie, O.ord, O.len, O.small, fun t ht => .inl (O.lt t ht x List.mem_cons_self), rng_lt hr, fun y hy => by
        have := (mem_rng hr y).mp hy
        omega⟩ hs
    refine Exists.elim (L2 ?_) ?_
    rotate_left
    · rintro s2 ⟨e2, o2⟩
      rw [e2, Option.bind_some]
      refine ⟨_, rfl, o2.tie, o2.ord, o2.len, o2.small, fun t ht z hz => ?_, (List.pairwise_cons.mp O.rp).2, fun z hz => O.bd z (List.mem_cons_of_mem _ hz)⟩
      have hxz := (List.pairwise_cons.mp O.rp).1 z hz
      rcases o2.lt t ht with q | ⟨q, _⟩ <;> omega
    · intro y rest2 s3 O3
      obtain ⟨by0, by1⟩ := O3.bd y List.mem_cons_self
      have rest : ∀ t ∈ s3.2, t.1 < x ∨ (t.1 = x ∧ ∀ z ∈ rest2, t.2 < z) := fun t ht => by
        rcases O3.lt t ht with q | ⟨q1, q2⟩
        · exact .inl q
        · exact .inr ⟨q1, fun z hz => q2 z (List.mem_cons_of_mem _ hz)⟩
      rw [divZ_pos (by decide) (by decide), Option.bind_some, modZ_pos (by decide), Option.bind_some, Option.bind_some, next_eq]
      by_cases c1 : s3.1 / 16 % 4 < thick
      · by_cases c2 : (s3.2.length : Int) < cap
        · simp only [c1, c2, decide_true, ↓reduceIte, Option.bind_some]
          rw [addL_ok (by have := O3.small; omega), Option.bind_some, Option.bind_some]
          refine ⟨_, rfl, fun t ht => ?_, ?_, ?_, ?_, fun t ht => ?_, (List.pairwise_cons.mp O3.rp).2, fun z hz => O3.bd z (List.mem_cons_of_mem _ hz)⟩
          · rcases List.mem_append.mp ht with ht | ht
            · exact O3.tie t ht
            · rw [List.mem_singleton.mp ht]
              exact ⟨by dsimp only; omega, by dsimp only; omega, by dsimp only; omega⟩
          · refine List.pairwise_append.mpr ⟨O3.ord, by simp, fun a ha b hb => ?_⟩
            rw [List.mem_singleton.mp hb]
            rcases O3.lt a ha with q | ⟨q1, q2⟩
            · exact .inl q
            · exact .inr ⟨q1, q2 y List.mem_cons_self⟩
          · rw [List.length_append, List.length_singleton]
            omega
          · rw [List.length_append, List.length_singleton]
            omega
          · rcases List.mem_append.mp ht with ht | ht
            · exact rest t ht
            · rw [List.mem_singleton.mp ht]
              exact .inr ⟨rfl, (List.pairwise_cons.mp O3.rp).1⟩
        · simp only [c1, c2, decide_true, decide_false, ↓reduceIte, Option.bind_some, Bool.false_eq_true]
          exact ⟨_, rfl, O3.tie, O3.ord, O3.len, O3.small, rest, (List.pairwise_cons.mp O3.rp).2, fun z hz => O3.bd z (List.mem_cons_of_mem _ hz)⟩
      · simp only [c1, decide_false, ↓reduceIte, Option.bind_some, Bool.false_eq_true]
        exact ⟨_, rfl, O3.tie, O3.ord, O3.len, O3.small, rest, (List.pairwise_cons.mp O3.rp).2, fun z hz => O3.bd z (List.mem_cons_of_mem _ hz)⟩
end Q

set_option linter.all false
/-! A tie cut, a tie merged. -/
namespace Q
open Dv
def asked_web (points : Int) (ties : List (Int × Int)) : Rs Unit :=
  ((is_web points ties).bind fun y1 => some (!y1)).bind fun b2 => if b2 = true then
    some (.error .noWeb)
  else
  some (.ok ())
def without (ties : List (Int × Int)) (tie : Int × Int) : Option (List (Int × Int)) :=
  lc (fun (q3 : Int × Int) => some (!decide (q3 = tie))) (fun (q3 : Int × Int) => some q3) ties
def named (point : Int) (tie : Int × Int) : Option Int :=
  (some (decide (point = tie.2))).bind fun b5 => if b5 = true then
    some tie.1
  else
  (some (decide (tie.2 < point))).bind fun b6 => if b6 = true then
    some (point - 1)
  else
  some point
def put_together (ties : List (Int × Int)) (tie : Int × Int) : Option (List (Int × Int)) :=
  (some []).bind fun found_7 =>
  (without ties tie).bind fun xs8 => (loopG (S := (List (Int × Int))) (fun (s9 : (List (Int × Int))) (q10 : Int × Int) =>
      (named q10.1 tie).bind fun low_14 =>
      (named q10.2 tie).bind fun high_15 =>
      (putDZ s9 ((if high_15 < low_14 then high_15 else low_14), (if low_14 < high_15 then high_15 else low_14))).bind fun found_16 =>
      some found_16) found_7 xs8).bind fun s12 =>
  some (srt leP s12)
theorem asked_web_eq (p : Int) (ts : List (Int × Int)) (h : ts.length ≤ 1000) : asked_web p ts = some (if Web p ts then .ok () else .error .noWeb) := by
  unfold asked_web
  rw [is_web_eq p ts h]
  by_cases w : Web p ts <;> simp [w]
theorem asked_web_ok {p : Int} {ts : List (Int × Int)} (w : Web p ts) : asked_web p ts = some (.ok ()) := by
  rw [asked_web_eq p ts (by have := w.2.1; omega), if_pos w]
/-- the ties but one -/
def wo (ts : List (Int × Int)) (t : Int × Int) : List (Int × Int) := ts.filter fun u => !decide (u = t)
theorem without_eq (ts : List (Int × Int)) (t : Int × Int) (h : ts.length ≤ 1000) : without ts t = some (wo ts t) := by
  unfold without wo
  rw [lc_all (fun u => !decide (u = t)) (fun u => u) (by omega) (fun _ _ => rfl) fun _ _ _ => rfl]
  simp
theorem wo_len (ts : List (Int × Int)) (t : Int × Int) : (wo ts t).length ≤ ts.length := List.length_filter_le _ _
/-- a point's number behind the merging -/
def nm (t : Int × Int) (x : Int) : Int := if x = t.2 then t.1 else if t.2 < x then x - 1 else x
theorem named_eq (x : Int) (t : Int × Int) : named x t = some (nm t x) := by
  unfold named nm
  by_cases h1 : x = t.2
  · simp [h1]
  · by_cases h2 : t.2 < x <;> simp [h1, h2]
def mm (a b : Int) : Int × Int := (if b < a then b else a, if a < b then b else a)
/-- a tie behind the merging -/
def mt (t u : Int × Int) : Int × Int := mm (nm t u.1) (nm t u.2)
/-- each once, in the order in which they came -/
def uniq (l : List (Int × Int)) : List (Int × Int) := l.foldl putD []
/-- the ties of the web with t merged -/
def mg (ts : List (Int × Int)) (t : Int × Int) : List (Int × Int) := srt leP (uniq ((wo ts t).map (mt t)))
theorem putD_len (s : List (Int × Int)) (t : Int × Int) : (putD s t).length ≤ s.length + 1 := by
  unfold putD
  split
  · omega
  · simp
theorem put_together_eq (ts : List (Int × Int)) (t : Int × Int) (h : ts.length ≤ 1000) : put_together ts t = some (mg ts t) := by
  unfold put_together
  simp only [Option.bind_some]
  rw [without_eq ts t h, Option.bind_some]
  have hl := wo_len ts t
  have key : ∀ (l : List (Int × Int)) (s : List (Int × Int)), s.length + l.length ≤ 1000 → loopG (S := (List (Int × Int))) (fun (s31 : (List (Int × Int))) (q32 : Int × Int) =>
      (named q32.1 t).bind fun low_36 =>
      (named q32.2 t).bind fun high_37 =>
      (putDZ s31 ((if high_37 < low_36 then high_37 else low_36), (if low_36 < high_37 then high_37 else low_36))).bind fun found_38 =>
      some found_38) s l = some ((l.map (mt t)).foldl putD s) := by
    intro l
    induction l with
    | nil => intro s _; rfl
    | cons u l ih =>
      intro s hs
      rw [List.length_cons] at hs
      show ((named u.1 t).bind _).bind _ = _
      rw [named_eq, Option.bind_some, named_eq, Option.bind_some]
      have hp : putDZ s (mt t u) = some (putD s (mt t u)) := if_pos (by omega)
      show ((putDZ s (mt t u)).bind _).bind _ = _
      rw [hp, Option.bind_some, Option.bind_some, ih _ (by have := putD_len s (mt t u); omega)]
      rfl
  rw [key _ [] (by simp; omega), Option.bind_some]
  rfl
theorem putD_mem (s : List (Int × Int)) (t u : Int × Int) : u ∈ putD s t ↔ u ∈ s ∨ u = t := by
  unfold putD
  split
  · rename_i h
    constructor
    · exact .inl
    · rintro (h2 | rfl)
      · exact h2
      · exact h
  · simp
theorem putD_nodup {s : List (Int × Int)} (h : s.Nodup) (t : Int × Int) : (putD s t).Nodup := by
  unfold putD
  split
  · exact h
  · rename_i n
    refine List.nodup_append.mpr ⟨h, by simp, fun a ha b hb => ?_⟩
    rw [List.mem_singleton.mp hb]
    exact fun e => n (e ▸ ha)
theorem uniq_mem (l : List (Int × Int)) (u : Int × Int) : u ∈ uniq l ↔ u ∈ l := by
  have : ∀ (l s : List (Int × Int)), u ∈ l.foldl putD s ↔ u ∈ s ∨ u ∈ l := by
    intro l
    induction l with
    | nil => intro s; simp
    | cons x l ih =>
      intro s
      rw [List.foldl_cons, ih, putD_mem, List.mem_cons, or_assoc]
  have h := this l []
  simp only [List.not_mem_nil, false_or] at h
  exact h
theorem uniq_nodup (l : List (Int × Int)) : (uniq l).Nodup := by
  have : ∀ (l s : List (Int × Int)), s.Nodup → (l.foldl putD s).Nodup := by
    intro l
    induction l with
    | nil => intro s h; exact h
    | cons x l ih => intro s h; exact ih _ (putD_nodup h x)
  exact this l [] .nil
theorem uniq_len (l : List (Int × Int)) : (uniq l).length ≤ l.length := by
  have : ∀ (l s : List (Int × Int)), (l.foldl putD s).length ≤ s.length + l.length := by
    intro l
    induction l with
    | nil => intro s; simp
    | cons x l ih =>
      intro s
      have h1 := ih (putD s x)
      have h2 := putD_len s x
      rw [List.foldl_cons, List.length_cons]
      omega
  have h := this l []
  simp only [List.length_nil, Nat.zero_add] at h
  exact h
theorem mg_mem (ts : List (Int × Int)) (t u : Int × Int) : u ∈ mg ts t ↔ ∃ v ∈ ts, v ≠ t ∧ mt t v = u := by
  unfold mg
  rw [(srt_perm _).mem_iff, uniq_mem, List.mem_map]
  unfold wo
  constructor
  · rintro ⟨v, hv, e⟩
    rw [List.mem_filter] at hv
    exact ⟨v, hv.1, by simpa using hv.2, e⟩
  · rintro ⟨v, hv, hn, e⟩
    exact ⟨v, List.mem_filter.mpr ⟨hv, by simpa using hn⟩, e⟩
theorem mg_nodup (ts : List (Int × Int)) (t : Int × Int) : (mg ts t).Nodup := ((srt_perm _).nodup_iff).mpr (uniq_nodup _)
theorem mg_len (ts : List (Int × Int)) (t : Int × Int) : (mg ts t).length ≤ (wo ts t).length := by
  unfold mg
  rw [(srt_perm _).length_eq]
  have := uniq_len ((wo ts t).map (mt t))
  rw [List.length_map] at this
  exact this
theorem leP_ltT {a b : Int × Int} (h : leP a b = true) (n : a ≠ b) : ltT a b := by
  have n2 : ¬ (a.1 = b.1 ∧ a.2 = b.2) := fun z => n (Prod.ext z.1 z.2)
  unfold leP at h
  unfold ltT
  split at h <;> simp only [decide_eq_true_eq] at h <;> omega
theorem srt_ord {l : List (Int × Int)} (h : l.Nodup) : (srt leP l).Pairwise ltT := by
  have h1 := srt_sorted ordP l
  have h2 : (srt leP l).Nodup := ((srt_perm l).nodup_iff).mpr h
  exact List.Pairwise.imp₂ (fun a b q n => leP_ltT q n) h1 h2
end Q

set_option linter.all false
/-! The worth of a row at a number. -/
namespace Q
open Dv
def worth (numbers : List Int) (q : Int) : Option Int :=
  (some 0).bind fun total_1 =>
  (some numbers.reverse).bind fun xs2 => (loopG (S := Int) (fun (s3 : Int) (q4 : Int) =>
      ((mulZ s3 q).bind fun y8 => some (y8 + q4)).bind fun total_9 =>
      some total_9) total_1 xs2).bind fun s6 =>
  some s6
def at_ (numbers : List Int) (q : Int) : Option Int :=
  (some 0).bind fun total_10 =>
  (some 1).bind fun power_11 =>
  (some numbers).bind fun xs12 => (loopG (S := Int × Int) (fun (s13 : Int × Int) (q14 : Int) =>
      ((mulZ q14 s13.2).bind fun y18 => some (s13.1 + y18)).bind fun total_19 =>
      (mulZ s13.2 q).bind fun power_20 =>
      some (total_19, power_20)) (total_10, power_11) xs12).bind fun s16 =>
  some s16.1
def whole (found : Int) : Option Bool :=
  (if true = true then some (!false) else some false)
/-- x0 + x1 q + x2 q q .. -/
def ev : List Int → Int → Int
  | [], _ => 0
  | x :: xs, q => x + q * ev xs q
theorem worth_eq (xs : List Int) {q : Int} (h : -1000 ≤ q) (h2 : q ≤ 1000) : worth xs q = some (ev xs q) := by
  unfold worth
  simp only [Option.bind_some]
  have e := loopG_fold (f := fun (s3 : Int) (q4 : Int) => ((mulZ s3 q).bind fun y8 => some (y8 + q4)).bind fun total_9 => some total_9) (fun s x => s * q + x) (fun _ => True) (xs := xs.reverse) (s := 0) trivial
    (fun s x _ _ => ⟨by rw [mulZ_r (by omega) (by omega)]; rfl, trivial⟩)
  rw [e.1, Option.bind_some]
  congr 1
  rw [List.foldl_reverse]
  have : ∀ ys : List Int, ys.foldr (fun x s => s * q + x) 0 = ev ys q := fun ys => by
    induction ys with
    | nil => rfl
    | cons y ys ih =>
      show ys.foldr (fun x s => s * q + x) 0 * q + y = y + q * ev ys q
      rw [ih, Int.mul_comm, Int.add_comm]
  exact this xs
theorem pow_bd {a q : Int} {B : Nat} (h : a.natAbs ≤ B) (hq : q.natAbs ≤ 100) : (a * q).natAbs ≤ B * 100 := by
  rw [Int.natAbs_mul]
  exact Nat.mul_le_mul h hq
theorem at_loop (q : Int) (hq : q.natAbs ≤ 100) : ∀ (xs : List Int) (t pw : Int) (n : Nat), xs.length ≤ n → n ≤ 8 → pw.natAbs ≤ 100 ^ (8 - n) →
    loopG (S := Int × Int) (fun (s14 : Int × Int) (q15 : Int) =>
      ((mulZ q15 s14.2).bind fun y19 => some (s14.1 + y19)).bind fun total_20 =>
      (mulZ s14.2 q).bind fun power_21 =>
      some (total_20, power_21)) (t, pw) xs = some (t + pw * ev xs q, pw * q ^ xs.length)
  | [], t, pw, n, _, _, _ => by simp [loopG, ev]
  | x :: xs, t, pw, 0, h, _, _ => by simp at h
  | x :: xs, t, pw, n + 1, h, hn, hp => by
    have hp2 : pw.natAbs ≤ 100 ^ 7 := Nat.le_trans hp (Nat.pow_le_pow_right (by decide) (by omega))
    have h7 : (100 : Nat) ^ 7 = 100000000000000 := by decide
    rw [h7] at hp2
    have hb := pow_bd hp hq
    have e1 : 100 ^ (8 - (n + 1)) * 100 = 100 ^ (8 - n) := by
      rw [← Nat.pow_succ]
      congr 1
      omega
    rw [e1] at hb
    show ((((mulZ x pw).bind fun y19 => some (t + y19)).bind fun total_20 => (mulZ pw q).bind fun power_21 => some (total_20, power_21)).bind _) = _
    rw [mulZ_r (by omega) (by omega), Option.bind_some, Option.bind_some, mulZ_r (by omega) (by omega), Option.bind_some, Option.bind_some,
      at_loop q hq xs (t + x * pw) (pw * q) n (by simpa using h) (by omega) hb]
    congr 2
    · show t + x * pw + pw * q * ev xs q = t + pw * (x + q * ev xs q)
      rw [Int.mul_add, Int.mul_comm x pw, Int.mul_assoc, Int.add_assoc]
    · rw [List.length_cons, Int.pow_succ, Int.mul_assoc, Int.mul_comm (q ^ xs.length) q]
theorem at_eq (xs : List Int) {q : Int} (hl : xs.length ≤ 8) (h : -100 ≤ q) (h2 : q ≤ 100) : at_ xs q = some (ev xs q) := by
  unfold at_
  simp only [Option.bind_some]
  rw [at_loop q (by omega) xs 0 1 8 hl (by omega) (by decide)]
  simp
theorem whole_eq (n : Int) : whole n = some true := rfl
end Q

set_option linter.all false
/-! Sums over all lists of dyes. -/
namespace Q
open Dv
def sm : Nat → (Nat → Int) → Int
  | 0, _ => 0
  | n + 1, f => sm n f + f n
theorem sm_congr {f g : Nat → Int} : ∀ {n : Nat}, (∀ i, i < n → f i = g i) → sm n f = sm n g
  | 0, _ => rfl
  | n + 1, h => by
    show sm n f + f n = sm n g + g n
    rw [sm_congr fun i hi => h i (by omega), h n (by omega)]
theorem sm_zero : ∀ n : Nat, sm n (fun _ => 0) = 0
  | 0 => rfl
  | n + 1 => by
    show sm n (fun _ => 0) + 0 = 0
    rw [sm_zero n]
    rfl
theorem sm_add (f g : Nat → Int) : ∀ n : Nat, sm n (fun i => f i + g i) = sm n f + sm n g
  | 0 => rfl
  | n + 1 => by
    show sm n (fun i => f i + g i) + (f n + g n) = sm n f + f n + (sm n g + g n)
    rw [sm_add f g n]
    omega
theorem sm_sub (f g : Nat → Int) : ∀ n : Nat, sm n (fun i => f i - g i) = sm n f - sm n g
  | 0 => rfl
  | n + 1 => by
    show sm n (fun i => f i - g i) + (f n - g n) = sm n f + f n - (sm n g + g n)
    rw [sm_sub f g n]
    omega
theorem sm_mul (c : Int) (f : Nat → Int) : ∀ n : Nat, sm n (fun i => c * f i) = c * sm n f
  | 0 => by simp [sm]
  | n + 1 => by
    show sm n (fun i => c * f i) + c * f n = c * (sm n f + f n)
    rw [sm_mul c f n, Int.mul_add]
theorem sm_comm (f : Nat → Nat → Int) (m : Nat) : ∀ n : Nat, sm n (fun i => sm m (f i)) = sm m (fun j => sm n (fun i => f i j))
  | 0 => (sm_zero m).symm
  | n + 1 => by
    show sm n (fun i => sm m (f i)) + sm m (f n) = sm m (fun j => sm n (fun i => f i j) + f n j)
    rw [sm_comm f m n, sm_add]
theorem sm_one {f : Nat → Int} {k : Nat} : ∀ {n : Nat}, (∀ i, i < n → i ≠ k → f i = 0) → sm n f = if k < n then f k else 0
  | 0, _ => rfl
  | n + 1, h => by
    show sm n f + f n = _
    rw [sm_one (k := k) (n := n) fun i hi => h i (by omega)]
    by_cases c : k = n
    · subst c
      simp
    · rw [h n (by omega) (fun e => c e.symm)]
      by_cases d : k < n
      · have : k < n + 1 := by omega
        simp [d, this]
      · have : ¬ k < n + 1 := by omega
        simp [d, this]
theorem sm_nonneg {f : Nat → Int} : ∀ {n : Nat}, (∀ i, i < n → 0 ≤ f i) → 0 ≤ sm n f
  | 0, _ => Int.le_refl 0
  | n + 1, h => by
    show 0 ≤ sm n f + f n
    have h1 := sm_nonneg fun i (hi : i < n) => h i (by omega)
    have h2 := h n (by omega)
    omega
theorem sm_append (f : Nat → Int) (m : Nat) : ∀ n : Nat, sm (m + n) f = sm m f + sm n (fun i => f (m + i))
  | 0 => by simp [sm]
  | n + 1 => by
    show sm (m + n) f + f (m + n) = sm m f + (sm n (fun i => f (m + i)) + f (m + n))
    rw [sm_append f m n]
    omega
/-- m turns of n -/
theorem sm_block (f : Nat → Int) (n : Nat) : ∀ m : Nat, sm (n * m) f = sm m (fun a => sm n (fun b => f (n * a + b)))
  | 0 => rfl
  | m + 1 => by
    rw [Nat.mul_succ, sm_append, sm_block f n m]
    rfl
/-- the sum over all lists of n dyes below q -/
def S : Nat → Nat → (List Int → Int) → Int
  | 0, _, w => w []
  | n + 1, q, w => sm q fun c => S n q fun t => w ((c : Int) :: t)
/-- n dyes below q -/
def In (n q : Nat) (t : List Int) : Prop := t.length = n ∧ ∀ x ∈ t, 0 ≤ x ∧ x < q
theorem S_congr {q : Nat} : ∀ {n : Nat} {w w' : List Int → Int}, (∀ t, In n q t → w t = w' t) → S n q w = S n q w'
  | 0, _, _, h => h [] ⟨rfl, by simp⟩
  | n + 1, w, w', h => sm_congr fun c hc => S_congr fun t ht => h _ ⟨by simp [ht.1], fun x hx => by
      rcases List.mem_cons.mp hx with rfl | hx
      · omega
      · exact ht.2 x hx⟩
theorem S_add {q : Nat} : ∀ {n : Nat} (w w' : List Int → Int), S n q (fun t => w t + w' t) = S n q w + S n q w'
  | 0, _, _ => rfl
  | n + 1, w, w' => by
    show sm q (fun c => S n q fun t => w ((c : Int) :: t) + w' (c :: t)) = sm q _ + sm q _
    rw [← sm_add]
    exact sm_congr fun c _ => S_add _ _
theorem S_sub {q : Nat} : ∀ {n : Nat} (w w' : List Int → Int), S n q (fun t => w t - w' t) = S n q w - S n q w'
  | 0, _, _ => rfl
  | n + 1, w, w' => by
    show sm q (fun c => S n q fun t => w ((c : Int) :: t) - w' (c :: t)) = sm q _ - sm q _
    rw [← sm_sub]
    exact sm_congr fun c _ => S_sub _ _
theorem S_zero {q : Nat} : ∀ {n : Nat}, S n q (fun _ => 0) = 0
  | 0 => rfl
  | n + 1 => by
    show sm q (fun c => S n q fun t => 0) = 0
    rw [sm_congr fun c _ => S_zero (q := q) (n := n), sm_zero]
theorem S_mul {q : Nat} (a : Int) : ∀ {n : Nat} (w : List Int → Int), S n q (fun t => a * w t) = a * S n q w
  | 0, _ => rfl
  | n + 1, w => by
    show sm q (fun c => S n q fun t => a * w ((c : Int) :: t)) = a * sm q _
    rw [← sm_mul]
    exact sm_congr fun c _ => S_mul a _
theorem S_nonneg {q : Nat} : ∀ {n : Nat} {w : List Int → Int}, (∀ t, In n q t → 0 ≤ w t) → 0 ≤ S n q w
  | 0, _, h => h [] ⟨rfl, by simp⟩
  | n + 1, w, h => sm_nonneg fun c hc => S_nonneg fun t ht => h _ ⟨by simp [ht.1], fun x hx => by
      rcases List.mem_cons.mp hx with rfl | hx
      · omega
      · exact ht.2 x hx⟩
theorem sm_le_one {f : Nat → Int} {k : Nat} : ∀ {n : Nat}, k < n → (∀ i, i < n → 0 ≤ f i) → f k ≤ sm n f
  | n + 1, hk, h => by
    show f k ≤ sm n f + f n
    have h2 := h n (by omega)
    have h3 := sm_nonneg fun i (hi : i < n) => h i (by omega)
    by_cases c : k = n
    · subst c
      omega
    · have h1 := sm_le_one (k := k) (n := n) (by omega) fun i hi => h i (by omega)
      omega
theorem S_le_one {q : Nat} : ∀ {n : Nat} {w : List Int → Int}, (∀ t, In n q t → 0 ≤ w t) → ∀ t, In n q t → w t ≤ S n q w
  | 0, w, h, t, ht => by
    have : t = [] := List.length_eq_zero_iff.mp ht.1
    subst this
    exact Int.le_refl _
  | n + 1, w, h, [], ht => by simp [In] at ht
  | n + 1, w, h, x :: t, ht => by
    have hx := ht.2 x List.mem_cons_self
    have ht' : In n q t := ⟨by simpa using ht.1, fun y hy => ht.2 y (List.mem_cons_of_mem _ hy)⟩
    have hin : ∀ c : Nat, c < q → ∀ t, In n q t → In (n + 1) q ((c : Int) :: t) := fun c hc t ht => ⟨by simp [ht.1], fun y hy => by
      rcases List.mem_cons.mp hy with rfl | hy
      · omega
      · exact ht.2 y hy⟩
    have h1 := S_le_one (q := q) (n := n) (w := fun t => w (x :: t)) (fun t ht => by
      have e : ((x.toNat : Nat) : Int) = x := by omega
      rw [← e]
      exact h _ (hin x.toNat (by omega) t ht)) t ht'
    refine Int.le_trans h1 ?_
    have e : ((x.toNat : Nat) : Int) = x := by omega
    have := sm_le_one (f := fun c => S n q fun t => w ((c : Int) :: t)) (k := x.toNat) (n := q) (by omega) fun c hc => S_nonneg fun t ht => h _ (hin c hc t ht)
    rw [e] at this
    exact this
theorem S_sm {q : Nat} (f : Nat → List Int → Int) (m : Nat) : ∀ n : Nat, sm m (fun c => S n q (f c)) = S n q (fun t => sm m (fun c => f c t))
  | 0 => rfl
  | n + 1 => by
    show sm m (fun c => sm q fun d => S n q fun t => f c ((d : Int) :: t)) = sm q fun d => S n q fun t => sm m fun c => f c (d :: t)
    rw [sm_comm]
    exact sm_congr fun d _ => S_sm (fun c t => f c ((d : Int) :: t)) m n
/-- a dye put in at a place -/
def insA : Nat → Int → List Int → List Int
  | 0, c, t => c :: t
  | _ + 1, c, [] => [c]
  | v + 1, c, x :: t => x :: insA v c t
theorem S_ins {q : Nat} : ∀ {v n : Nat} (w : List Int → Int), v ≤ n → S (n + 1) q w = S n q (fun t => sm q fun c => w (insA v c t))
  | 0, n, w, _ => S_sm (fun c t => w ((c : Int) :: t)) q n
  | v + 1, 0, _, h => by omega
  | v + 1, n + 1, w, h => by
    show sm q (fun x => S (n + 1) q fun t => w ((x : Int) :: t)) = sm q fun x => S n q fun t => sm q fun c => w ((x : Int) :: insA v c t)
    exact sm_congr fun x _ => S_ins (v := v) (fun t => w ((x : Int) :: t)) (by omega)
/-- a point's dye -/
def gi (t : List Int) (x : Int) : Int := t.getD x.toNat 0
theorem gi_cons0 (c : Int) (t : List Int) : gi (c :: t) 0 = c := rfl
theorem insA_get (c : Int) : ∀ (v : Nat) (t : List Int), v ≤ t.length → ∀ x : Nat, (insA v c t).getD x 0 = if x < v then t.getD x 0 else if x = v then c else t.getD (x - 1) 0
  | 0, t, _, 0 => rfl
  | 0, t, _, x + 1 => by
    show (c :: t).getD (x + 1) 0 = _
    simp
  | v + 1, [], h, _ => by simp at h
  | v + 1, y :: t, h, 0 => by simp [insA]
  | v + 1, y :: t, h, x + 1 => by
    show (y :: insA v c t).getD (x + 1) 0 = _
    have ih := insA_get c v t (by simpa using h) x
    simp only [List.getD_cons_succ]
    rw [ih]
    by_cases h1 : x < v
    · simp [h1]
    · by_cases h2 : x = v
      · simp [h2]
      · simp only [h1, h2, ↓reduceIte, Nat.add_lt_add_iff_right, Nat.add_right_cancel_iff, Nat.add_sub_cancel]
        obtain ⟨z, rfl⟩ : ∃ z, x = z + 1 := ⟨x - 1, by omega⟩
        simp
theorem gi_ins {c : Int} {v : Nat} {t : List Int} (h : v ≤ t.length) {x : Int} (hx : 0 ≤ x) : gi (insA v c t) x = if x < v then gi t x else if x = v then c else gi t (x - 1) := by
  unfold gi
  rw [insA_get c v t h]
  by_cases h1 : x < v
  · have : x.toNat < v := by omega
    simp [h1, this]
  · by_cases h2 : x = v
    · subst h2
      simp
    · have h3 : ¬ x.toNat < v := by omega
      have h4 : ¬ x.toNat = v := by omega
      have h5 : (x - 1).toNat = x.toNat - 1 := by omega
      simp [h1, h2, h3, h4, h5]
theorem gi_in {n q : Nat} {t : List Int} (h : In n q t) {x : Int} (h0 : 0 ≤ x) (h1 : x < n) : 0 ≤ gi t x ∧ gi t x < q := by
  unfold gi
  have e : x.toNat < t.length := by
    have := h.1
    omega
  rw [List.getD_eq_getElem?_getD, List.getElem?_eq_getElem e]
  exact h.2 _ (List.getElem_mem e)
/-- both ends of a tie with one dye: the greater end is left out -/
theorem S_merge {n q : Nat} {u v : Int} (hu : 0 ≤ u) (huv : u < v) (hv : v < n + 1) (w : List Int → Int) :
    S (n + 1) q (fun t => if gi t u = gi t v then w t else 0) = S n q (fun t => w (insA v.toNat (gi t u) t)) := by
  rw [S_ins (v := v.toNat) _ (by omega)]
  refine S_congr fun t ht => ?_
  have hl : v.toNat ≤ t.length := by
    have := ht.1
    omega
  obtain ⟨b0, b1⟩ := gi_in ht hu (by omega)
  have e : ∀ c : Int, (if gi (insA v.toNat c t) u = gi (insA v.toNat c t) v then w (insA v.toNat c t) else 0) = if gi t u = c then w (insA v.toNat c t) else 0 := fun c => by
    rw [gi_ins hl hu, gi_ins hl (by omega)]
    have h1 : u < (v.toNat : Int) := by omega
    have h2 : ¬ v < (v.toNat : Int) := by omega
    have h3 : v = (v.toNat : Int) := by omega
    rw [if_pos h1, if_neg h2, if_pos h3]
  rw [sm_congr fun c _ => e c, sm_one (k := (gi t u).toNat)]
  · have e2 : ((gi t u).toNat : Int) = gi t u := by omega
    rw [if_pos (by omega), e2, if_pos rfl]
  · intro i _ hi
    exact if_neg fun z => hi (by omega)
end Q

set_option linter.all false
/-! The row of a web. -/
namespace Q
open Dv
def row_byF : Nat → Int → (List (Int × Int)) → Option (List Int)
  | 0, _, _ => none
  | n_ + 1, points, ties =>
  (some (decide ((ties.length : Int) = 0))).bind fun b1 => if b1 = true then
    ((rng 0 points).bind fun y4 => lc (fun (q2 : Int) => some true) (fun (q2 : Int) => some 0) y4).bind fun y5 => catL y5 [1]
  else
  (atZ ties (-1)).bind fun tie_6 =>
  (row_byF n_ points (cutZ ties none (some (-1)))).bind fun less_7 =>
  (((((put_together ties tie_6).bind fun y8 => some (y8, ())).bind fun y9 => some ((points - 1), y9)).bind fun a10 => row_byF n_ a10.1 a10.2.1).bind fun y11 => catL y11 [0]).bind fun other_12 =>
  (rng 0 (points + 1)).bind fun y17 => lc (fun (q13 : Int) => some true) (fun (q13 : Int) => (atZ less_7 q13).bind fun y14 => (atZ other_12 q13).bind fun y15 => some (y14 - y15)) y17
def row_by (points : Int) (ties : List (Int × Int)) : Option (List Int) := row_byF 20 points ties
def row (points : Int) (ties : List (Int × Int)) : Rs (List Int) :=
  (asked_web points ties).bind fun y18 => exB y18 fun _ =>
  (row_by points ties).bind fun y21 => some (.ok y21)
/-- a row of a web without its last tie, less another -/
def lessL (a b : List Int) : List Int := List.zipWith (fun x y => x - y) a b
/-- the row, with fuel -/
def R : Nat → Nat → List (Int × Int) → List Int
  | 0, _, _ => []
  | d + 1, n, ts => match ts.getLast? with
    | none => List.replicate n 0 ++ [1]
    | some t => lessL (R d n ts.dropLast) (R d (n - 1) (mg ts t) ++ [0])
theorem nm_bd {n : Int} {t : Int × Int} (h : Tie (n + 1) t) {x : Int} (h0 : 0 ≤ x) (h1 : x < n + 1) : 0 ≤ nm t x ∧ nm t x < n := by
  unfold Tie at h
  unfold nm
  split
  · omega
  · split <;> omega
theorem nm_inj {n : Int} {t : Int × Int} (h : Tie (n + 1) t) {x y : Int} (hxy : x < y) (hn : ¬ (x = t.1 ∧ y = t.2)) : nm t x ≠ nm t y := by
  unfold Tie at h
  unfold nm
  split
  · split
    · omega
    · split <;> omega
  · split
    · split
      · omega
      · split <;> omega
    · split
      · omega
      · split <;> omega
theorem mt_tie {n : Int} {t u : Int × Int} (h : Tie (n + 1) t) (hu : Tie (n + 1) u) (hn : u ≠ t) : Tie n (mt t u) := by
  have hu' := hu
  unfold Tie at hu'
  obtain ⟨a0, a1⟩ := nm_bd h (x := u.1) (by omega) (by omega)
  obtain ⟨b0, b1⟩ := nm_bd h (x := u.2) (by omega) (by omega)
  have ne := nm_inj h (x := u.1) (y := u.2) (by omega) fun z => hn (Prod.ext z.1 z.2)
  unfold mt mm Tie
  dsimp only
  split <;> split <;> omega
theorem mg_ties {n : Int} {ts : List (Int × Int)} {t : Int × Int} (h : Ties (n + 1) ts) (ht : Tie (n + 1) t) : Ties n (mg ts t) := by
  refine ⟨fun u hu => ?_, ?_⟩
  · obtain ⟨v, hv, hn, rfl⟩ := (mg_mem ts t u).mp hu
    exact mt_tie ht (h.tie v hv) hn
  · exact srt_ord (uniq_nodup _)
theorem Ties.nodup {p : Int} {ts : List (Int × Int)} (h : Ties p ts) : ts.Nodup :=
  List.Pairwise.imp (fun {a b} q e => by subst e; unfold ltT at q; omega) h.ord
theorem Ties.sub {p : Int} {ts us : List (Int × Int)} (h : Ties p ts) (s : us.Sublist ts) : Ties p us := ⟨fun t ht => h.tie t (s.subset ht), h.ord.sublist s⟩
theorem wo_last {ts : List (Int × Int)} {t : Int × Int} (h : (ts ++ [t]).Nodup) : wo (ts ++ [t]) t = ts := by
  unfold wo
  have h2 := List.nodup_append.mp h
  rw [List.filter_append, List.filter_eq_self.mpr fun u hu => ?_]
  · simp
  · have := h2.2.2 u hu t (by simp)
    simp [this]
theorem mg_last_len {ts : List (Int × Int)} {t : Int × Int} (h : (ts ++ [t]).Nodup) : (mg (ts ++ [t]) t).length ≤ ts.length := by
  have := mg_len (ts ++ [t]) t
  rw [wo_last h] at this
  exact this
theorem lessL_len {a b : List Int} {n : Nat} (ha : a.length = n) (hb : b.length = n) : (lessL a b).length = n := by
  unfold lessL
  rw [List.length_zipWith, ha, hb, Nat.min_self]
theorem R_len : ∀ {d n : Nat} {ts : List (Int × Int)}, Ties n ts → ts.length < d → (R d n ts).length = n + 1
  | 0, _, _, _, h => by omega
  | d + 1, n, ts, hT, h => by
    unfold R
    rcases List.eq_nil_or_concat ts with rfl | ⟨us, t, rfl⟩
    · simp
    · rw [List.concat_eq_append] at *
      rw [List.getLast?_append, List.getLast?_singleton]
      simp only [Option.some_or, List.dropLast_concat]
      rw [List.length_append, List.length_singleton] at h
      have ht := hT.tie t (by simp)
      have hn : 1 ≤ n := by unfold Tie at ht; omega
      obtain ⟨n, rfl⟩ : ∃ k, n = k + 1 := ⟨n - 1, by omega⟩
      refine lessL_len (R_len (hT.sub (List.sublist_append_left us [t])) (by omega)) ?_
      rw [List.length_append, List.length_singleton]
      have := mg_last_len hT.nodup
      rw [Nat.add_sub_cancel, R_len (mg_ties hT ht) (by omega)]
theorem zip_idx (a b : List Int) (h : a.length = b.length) : lessL a b = (List.range a.length).map fun i => a.getD i 0 - b.getD i 0 := by
  unfold lessL
  apply List.ext_getElem
  · simp [h]
  · intro i h1 h2
    simp at h1
    have ha : i < a.length := by omega
    have hb : i < b.length := by omega
    simp [List.getD_eq_getElem?_getD, ha, hb]
theorem atZ_getD (xs : List Int) {k : Nat} (h : k < xs.length) : atZ xs (k : Int) = some (xs.getD k 0) := by
  rw [atZ_nat, List.getD_eq_getElem?_getD]
  simp [h]
theorem less_eq {a b : List Int} {n : Nat} (ha : a.length = n + 1) (hb : b.length = n + 1) (hn : n ≤ 1000) :
    ((rng 0 ((n : Int) + 1)).bind fun y17 => lc (fun (q13 : Int) => some true) (fun (q13 : Int) => (atZ a q13).bind fun y14 => (atZ b q13).bind fun y15 => some (y14 - y15)) y17) = some (lessL a b) := by
  have e : ((n : Int) + 1) = ((n + 1 : Nat) : Int) := by omega
  rw [e, rng0 (by omega), Option.bind_some, lc_map (fun i => a.getD i.toNat 0 - b.getD i.toNat 0) (by simp; omega), zip_idx a b (by omega), ha, List.map_map]
  · congr 1
  · intro x hx
    obtain ⟨i, hi, rfl⟩ := List.mem_map.mp hx
    have := List.mem_range.mp hi
    rw [atZ_getD a (by omega), atZ_getD b (by omega)]
    simp
theorem zeros_eq {n : Nat} (hn : n ≤ 1000) : ((rng 0 (n : Int)).bind fun y => lc (fun (q : Int) => some true) (fun (q : Int) => some (0 : Int)) y) = some (List.replicate n 0) := by
  rw [rng0 (by omega), Option.bind_some, lc_map (fun _ => 0) (by simp; omega) fun _ _ => rfl]
  congr 1
  rw [List.map_map]
  apply List.ext_getElem
  · simp
  · intro i h1 h2
    simp
theorem cut_last (ts : List (Int × Int)) (t : Int × Int) : cutZ (ts ++ [t]) none (some (-1)) = ts := by
  unfold cutZ
  have e : cutIx (ts ++ [t]).length (ts ++ [t]).length (some (-1)) = ts.length := by
    unfold cutIx
    dsimp only
    rw [if_pos (by omega), List.length_append, List.length_singleton]
    omega
  rw [e]
  show List.take (ts.length - 0) (List.drop 0 _) = _
  simp
theorem at_last {α : Type} (ts : List α) (t : α) : atZ (ts ++ [t]) (-1) = some t := by
  unfold atZ ixZ
  rw [if_neg (by omega), if_pos (by rw [List.length_append, List.length_singleton]; omega), Option.bind_some, List.length_append, List.length_singleton]
  have e : (-1 + ((ts.length + 1 : Nat) : Int)).toNat = ts.length := by omega
  rw [e]
  simp
theorem row_byF_eq : ∀ {d n : Nat} {ts : List (Int × Int)}, Ties n ts → ts.length < d → d ≤ 100 → n ≤ 100 → row_byF d n ts = some (R d n ts)
  | 0, _, _, _, h, _, _ => by omega
  | d + 1, n, ts, hT, h, hd, hn' => by
    unfold row_byF R
    rcases List.eq_nil_or_concat ts with rfl | ⟨us, t, rfl⟩
    · simp only [List.length_nil, Option.bind_some]
      rw [if_pos (by simp), zeros_eq (by omega), Option.bind_some, catL_ok (by simp; omega)]
      simp
    · rw [List.concat_eq_append] at *
      rw [List.getLast?_append, List.getLast?_singleton]
      simp only [Option.some_or, List.dropLast_concat]
      have hl : (us ++ [t]).length = us.length + 1 := by simp
      rw [hl] at h
      have ht := hT.tie t (by simp)
      have hn : 1 ≤ n := by unfold Tie at ht; omega
      obtain ⟨n, rfl⟩ : ∃ k, n = k + 1 := ⟨n - 1, by omega⟩
      have hm := mg_last_len hT.nodup
      have hs := hT.sub (List.sublist_append_left us [t])
      have hg := mg_ties (n := (n : Int)) hT ht
      rw [Option.bind_some, if_neg (by simp; omega), at_last, Option.bind_some, cut_last, row_byF_eq hs (by omega) (by omega) (by omega), Option.bind_some, put_together_eq _ _ (by omega)]
      simp only [Option.bind_some]
      have e : (((n + 1 : Nat) : Int) - 1) = (n : Int) := by omega
      rw [e, row_byF_eq hg (by omega) (by omega) (by omega), Option.bind_some]
      have l1 := R_len (d := d) hs (by omega)
      have l2 := R_len (d := d) hg (by omega)
      rw [catL_ok (by rw [l2]; simp; omega), Option.bind_some]
      exact less_eq l1 (by simp [l2]) (by omega)
/-- the row of a web of p points -/
def Rw (p : Int) (ts : List (Int × Int)) : List Int := R 20 p.toNat ts
theorem row_by_eq {p : Int} {ts : List (Int × Int)} (w : Web p ts) : row_by p ts = some (Rw p ts) := by
  unfold row_by Rw
  obtain ⟨⟨h0, h1⟩, h2, h3⟩ := w
  have e : ((p.toNat : Nat) : Int) = p := by omega
  have := row_byF_eq (d := 20) (n := p.toNat) (ts := ts) (by rw [e]; exact h3) (by omega) (by omega) (by omega)
  rw [e] at this
  exact this
theorem row_eq {p : Int} {ts : List (Int × Int)} (w : Web p ts) : row p ts = some (.ok (Rw p ts)) := by
  unfold row
  rw [asked_web_ok w, Option.bind_some, exB_ok, row_by_eq w]
  rfl
theorem row_no {p : Int} {ts : List (Int × Int)} (h : ts.length ≤ 1000) (w : ¬ Web p ts) : row p ts = some (.error .noWeb) := by
  unfold row
  rw [asked_web_eq p ts h, if_neg w]
  rfl
theorem Rw_len {p : Int} {ts : List (Int × Int)} (w : Web p ts) : (Rw p ts).length = p.toNat + 1 := by
  obtain ⟨⟨h0, h1⟩, h2, h3⟩ := w
  have e : ((p.toNat : Nat) : Int) = p := by omega
  exact R_len (by rw [e]; exact h3) (by omega)
end Q
namespace Q
open Dv
theorem lessL_getD : ∀ {a b : List Int} (h : a.length = b.length) (i : Nat), (lessL a b).getD i 0 = a.getD i 0 - b.getD i 0
  | [], [], _, i => by simp [lessL]
  | x :: a, y :: b, h, 0 => rfl
  | x :: a, y :: b, h, i + 1 => lessL_getD (a := a) (b := b) (by simpa using h) i
  | [], _ :: _, h, _ => by simp at h
  | _ :: _, [], h, _ => by simp at h
theorem snoc0_getD (a : List Int) (i : Nat) : (a ++ [0]).getD i 0 = a.getD i 0 := by
  by_cases hi : i < a.length
  · rw [List.getD_eq_getElem?_getD, List.getD_eq_getElem?_getD, List.getElem?_append_left hi]
  · by_cases h2 : i = a.length
    · subst h2
      simp [List.getD_eq_getElem?_getD]
    · have h3 : ¬ i < a.length + 1 := by omega
      rw [List.getD_eq_getElem?_getD, List.getD_eq_getElem?_getD, List.getElem?_eq_none (by simp; omega), List.getElem?_eq_none (by omega)]
theorem getD_over {a : List Int} {i : Nat} (h : a.length ≤ i) : a.getD i 0 = 0 := by
  rw [List.getD_eq_getElem?_getD, List.getElem?_eq_none h]
  rfl
/-- what the row of a web with a tie is -/
theorem R_snoc {d n : Nat} {us : List (Int × Int)} {t : Int × Int} (hT : Ties ((n + 1 : Nat) : Int) (us ++ [t])) (h : us.length < d) :
    Ties ((n + 1 : Nat) : Int) us ∧ Ties (n : Int) (mg (us ++ [t]) t) ∧ (mg (us ++ [t]) t).length < d ∧ R (d + 1) (n + 1) (us ++ [t]) = lessL (R d (n + 1) us) (R d n (mg (us ++ [t]) t) ++ [0]) ∧
      (R d (n + 1) us).length = n + 2 ∧ (R d n (mg (us ++ [t]) t)).length = n + 1 := by
  have ht := hT.tie t (by simp)
  have hm := mg_last_len hT.nodup
  have hs := hT.sub (List.sublist_append_left us [t])
  have hg := mg_ties (n := (n : Int)) hT ht
  refine ⟨hs, hg, by omega, ?_, R_len hs h, R_len hg (by omega)⟩
  rw [R, List.getLast?_append, List.getLast?_singleton]
  simp only [Option.some_or, List.dropLast_concat, Nat.add_sub_cancel]
theorem R_ind {P : Nat → Nat → List (Int × Int) → Prop} (h0 : ∀ d n, P (d + 1) n [])
    (h1 : ∀ d n us t, Ties ((n + 1 : Nat) : Int) (us ++ [t]) → us.length < d → Ties ((n + 1 : Nat) : Int) us → Ties (n : Int) (mg (us ++ [t]) t) → (mg (us ++ [t]) t).length < d → P d (n + 1) us → P d n (mg (us ++ [t]) t) → P (d + 1) (n + 1) (us ++ [t])) :
    ∀ {d n : Nat} {ts : List (Int × Int)}, Ties n ts → ts.length < d → P d n ts
  | 0, _, _, _, h => by omega
  | d + 1, n, ts, hT, h => by
    rcases List.eq_nil_or_concat ts with rfl | ⟨us, t, rfl⟩
    · exact h0 d n
    · rw [List.concat_eq_append] at *
      rw [List.length_append, List.length_singleton] at h
      have ht := hT.tie t (by simp)
      have hn : 1 ≤ n := by unfold Tie at ht; omega
      obtain ⟨n, rfl⟩ : ∃ k, n = k + 1 := ⟨n - 1, by omega⟩
      obtain ⟨hs, hg, hm, _⟩ := R_snoc hT (d := d) (by omega)
      exact h1 d n us t hT (by omega) hs hg hm (R_ind h0 h1 hs (by omega)) (R_ind h0 h1 hg hm)
theorem R_nil (d n : Nat) : R (d + 1) n [] = List.replicate n 0 ++ [1] := rfl
theorem R_last {d n : Nat} {ts : List (Int × Int)} (hT : Ties n ts) (h : ts.length < d) : (R d n ts).getD n 0 = 1 := by
  refine R_ind (P := fun d n ts => (R d n ts).getD n 0 = 1) ?_ ?_ hT h
  · intro d n
    rw [R_nil, List.getD_eq_getElem?_getD]
    simp
  · intro d n us t hT hl hs hg hm i1 i2
    obtain ⟨_, _, _, e, l1, l2⟩ := R_snoc hT hl
    rw [e, lessL_getD (by rw [List.length_append, l1, l2]; rfl), snoc0_getD, i1, getD_over (by omega)]
    rfl
end Q
namespace Q
open Dv
/-- from the last number on downwards, not below and not above nought in turns -/
theorem R_sign {d n : Nat} {ts : List (Int × Int)} (hT : Ties n ts) (h : ts.length < d) : ∀ m, m ≤ n → (m % 2 = 0 → 0 ≤ (R d n ts).getD (n - m) 0) ∧ (m % 2 = 1 → (R d n ts).getD (n - m) 0 ≤ 0) := by
  refine R_ind (P := fun d n ts => ∀ m, m ≤ n → (m % 2 = 0 → 0 ≤ (R d n ts).getD (n - m) 0) ∧ (m % 2 = 1 → (R d n ts).getD (n - m) 0 ≤ 0)) ?_ ?_ hT h
  · intro d n m hm
    rw [R_nil, List.getD_eq_getElem?_getD]
    by_cases z : m = 0
    · subst z
      simp
    · have : n - m < n := by omega
      rw [List.getElem?_append_left (by simpa using this)]
      simp [this]
  · intro d n us t hT hl hs hg hm i1 i2 m hmn
    obtain ⟨_, _, _, e, l1, l2⟩ := R_snoc hT hl
    rw [e, lessL_getD (by rw [List.length_append, l1, l2]; rfl), snoc0_getD]
    have a := i1 m hmn
    by_cases z : m = 0
    · subst z
      have e : (R d n (mg (us ++ [t]) t)).getD (n + 1 - 0) 0 = 0 := getD_over (by omega)
      rw [e]
      omega
    · have b := i2 (m - 1) (by omega)
      have e : n - (m - 1) = n + 1 - m := by omega
      rw [e] at b
      omega
end Q

set_option linter.all false
/-! Dyeings counted: the row's worth at each number of dyes. -/
namespace Q
open Dv
def tints_by (points : Int) (number : Int) (many : Int) : Option (List Int) :=
  (some ([] : List Int)).bind fun tints_1 =>
  (rng 0 points).bind fun xs2 => (loopG (S := Int × (List Int)) (fun (s3 : Int × (List Int)) (q4 : Int) =>
      ((modZ s3.1 many).bind fun y8 => addL s3.2 y8).bind fun tints_9 =>
      (divZ s3.1 many).bind fun number_10 =>
      some (number_10, tints_9)) (number, tints_1) xs2).bind fun s6 =>
  some s6.2
def many_tints (points : Int) (many : Int) : Option Int :=
  (some 1).bind fun found_11 =>
  (rng 0 points).bind fun xs12 => (loopG (S := Int) (fun (s13 : Int) (q14 : Int) =>
      (mulZ s13 many).bind fun found_18 =>
      some found_18) found_11 xs12).bind fun s16 =>
  some s16
def fits (ties : List (Int × Int)) (tints : List Int) : Option Bool :=
  (some ties).bind fun xs19 => (loopR (S := Unit) (R := Bool) (fun (s20 : Unit) (q21 : Int × Int) =>
      ((atZ tints q21.1).bind fun y25 => (atZ tints q21.2).bind fun y26 => some (decide (y25 = y26))).bind fun b27 => if b27 = true then
        (some false).bind fun y28 => some (.ret y28)
      else
      some (.go ())) () xs19).bind fun st22 => st22.elim (fun s23 =>
  some true) (fun y24 => some y24)
def count_ (points : Int) (ties : List (Int × Int)) (many : Int) : Option Int :=
  (some (decide (many = 0))).bind fun b29 => if b29 = true then
    some (if (decide (points = 0)) = true then (1 : Int) else 0)
  else
  (some 0).bind fun found_30 =>
  ((many_tints points many).bind fun y31 => rng 0 y31).bind fun xs32 => (loopG (S := Int) (fun (s33 : Int) (q34 : Int) =>
      ((((tints_by points q34 many).bind fun y38 => some (y38, ())).bind fun y39 => some (ties, y39)).bind fun a40 => fits a40.1 a40.2.1).bind fun b41 => if b41 = true then
        (some (s33 + 1)).bind fun found_42 =>
        some found_42
      else
        some s33) found_30 xs32).bind fun s36 =>
  some s36
def fitsB (ts : List (Int × Int)) (l : List Int) : Bool := ts.all fun e => !decide (gi l e.1 = gi l e.2)
theorem fitsB_iff (ts : List (Int × Int)) (l : List Int) : fitsB ts l = true ↔ ∀ e ∈ ts, gi l e.1 ≠ gi l e.2 := by
  unfold fitsB
  rw [List.all_eq_true]
  exact ⟨fun h e he => by simpa using h e he, fun h e he => by simpa using h e he⟩
/-- how many dyeings of n points with q dyes -/
def col (n q : Nat) (ts : List (Int × Int)) : Int := S n q fun l => if fitsB ts l = true then 1 else 0
theorem gi_nm {u v : Int} (hu : 0 ≤ u) (huv : u < v) {l : List Int} (hl : v ≤ l.length) {x : Int} (hx : 0 ≤ x) : gi (insA v.toNat (gi l u) l) x = gi l (nm (u, v) x) := by
  rw [gi_ins (by omega) hx]
  unfold nm
  dsimp only
  by_cases h1 : x < (v.toNat : Int)
  · have h2 : ¬ x = v := by omega
    have h3 : ¬ v < x := by omega
    rw [if_pos h1, if_neg h2, if_neg h3]
  · by_cases h2 : x = (v.toNat : Int)
    · have h3 : x = v := by omega
      rw [if_neg h1, if_pos h2, if_pos h3]
    · have h3 : ¬ x = v := by omega
      have h4 : v < x := by omega
      rw [if_neg h1, if_neg h2, if_neg h3, if_pos h4]
theorem gi_mm (l : List Int) (a b : Int) : (gi l (mm a b).1 ≠ gi l (mm a b).2) ↔ gi l a ≠ gi l b := by
  unfold mm
  by_cases h : b < a
  · have h2 : ¬ a < b := by omega
    simp only [h, h2, ↓reduceIte]
    exact ⟨fun z e => z e.symm, fun z e => z e.symm⟩
  · by_cases h2 : a < b
    · simp only [h, h2, ↓reduceIte]
    · have : a = b := by omega
      subst this
      simp
theorem fits_mg {n : Int} {ts : List (Int × Int)} {t : Int × Int} (hT : Ties (n + 1) ts) (ht : Tie (n + 1) t) {l : List Int} (hl : (l.length : Int) = n) :
    fitsB (wo ts t) (insA t.2.toNat (gi l t.1) l) = fitsB (mg ts t) l := by
  rw [Bool.eq_iff_iff, fitsB_iff, fitsB_iff]
  have ht' := ht
  unfold Tie at ht'
  have key : ∀ e ∈ ts, (gi (insA t.2.toNat (gi l t.1) l) e.1 ≠ gi (insA t.2.toNat (gi l t.1) l) e.2 ↔ gi l (mt t e).1 ≠ gi l (mt t e).2) := fun e he => by
    have h := hT.tie e he
    unfold Tie at h
    rw [gi_nm (by omega) (by omega) (by omega) (by omega), gi_nm (by omega) (by omega) (by omega) (by omega)]
    exact (gi_mm l _ _).symm
  constructor
  · intro h u hu
    obtain ⟨v, hv, hn, rfl⟩ := (mg_mem ts t u).mp hu
    refine (key v hv).mp (h v ?_)
    unfold wo
    exact List.mem_filter.mpr ⟨hv, by simpa using hn⟩
  · intro h v hv
    unfold wo at hv
    have := List.mem_filter.mp hv
    exact (key v this.1).mpr (h _ ((mg_mem ts t _).mpr ⟨v, this.1, by simpa using this.2, rfl⟩))
theorem fits_split {ts : List (Int × Int)} {t : Int × Int} (h : t ∈ ts) (l : List Int) : fitsB ts l = (fitsB (wo ts t) l && !decide (gi l t.1 = gi l t.2)) := by
  rw [Bool.eq_iff_iff, Bool.and_eq_true, fitsB_iff, fitsB_iff]
  constructor
  · intro a
    refine ⟨fun e he => a e ?_, by simpa using a t h⟩
    unfold wo at he
    exact (List.mem_filter.mp he).1
  · rintro ⟨a, b⟩ e he
    by_cases c : e = t
    · subst c
      simpa using b
    · exact a e (by unfold wo; exact List.mem_filter.mpr ⟨he, by simpa using c⟩)
/-- a tie cut, a tie merged -/
theorem col_dc {n q : Nat} {ts : List (Int × Int)} {t : Int × Int} (hT : Ties ((n : Int) + 1) ts) (h : t ∈ ts) : col (n + 1) q ts = col (n + 1) q (wo ts t) - col n q (mg ts t) := by
  have ht := hT.tie t h
  have ht' := ht
  unfold Tie at ht'
  unfold col
  have e1 : S (n + 1) q (fun l => if fitsB ts l = true then (1 : Int) else 0) = S (n + 1) q (fun l => (if fitsB (wo ts t) l = true then (1 : Int) else 0) - (if gi l t.1 = gi l t.2 then (if fitsB (wo ts t) l = true then 1 else 0) else 0)) := by
    refine S_congr fun l _ => ?_
    rw [fits_split h l]
    by_cases a : fitsB (wo ts t) l = true <;> by_cases b : gi l t.1 = gi l t.2 <;> simp [a, b]
  rw [e1, S_sub, S_merge (by omega) (by omega) (by omega)]
  congr 1
  refine S_congr fun l hl => ?_
  rw [fits_mg hT ht (by rw [hl.1])]
theorem ev_lessL : ∀ {a b : List Int} (q : Int), a.length = b.length → ev (lessL a b) q = ev a q - ev b q
  | [], [], _, _ => rfl
  | x :: a, y :: b, q, h => by
    show (x - y) + q * ev (lessL a b) q = x + q * ev a q - (y + q * ev b q)
    rw [ev_lessL q (by simpa using h), Int.mul_sub]
    omega
  | [], _ :: _, _, h => by simp at h
  | _ :: _, [], _, h => by simp at h
theorem ev_snoc0 : ∀ (a : List Int) (q : Int), ev (a ++ [0]) q = ev a q
  | [], q => by simp [ev]
  | x :: a, q => by
    show x + q * ev (a ++ [0]) q = x + q * ev a q
    rw [ev_snoc0 a q]
theorem ev_one (q : Int) : ∀ n : Nat, ev (List.replicate n 0 ++ [1]) q = q ^ n
  | 0 => by simp [ev]
  | n + 1 => by
    rw [List.replicate_succ, List.cons_append]
    show 0 + q * ev (List.replicate n 0 ++ [1]) q = _
    rw [ev_one q n, Int.pow_succ, Int.zero_add, Int.mul_comm]
theorem sm_const (c : Int) : ∀ n : Nat, sm n (fun _ => c) = n * c
  | 0 => by simp [sm]
  | n + 1 => by
    show sm n (fun _ => c) + c = _
    rw [sm_const c n, Int.natCast_add, Int.add_mul]
    simp
theorem S_one (q : Nat) : ∀ n : Nat, S n q (fun _ => 1) = (q : Int) ^ n
  | 0 => rfl
  | n + 1 => by
    show sm q (fun c => S n q fun t => 1) = _
    rw [sm_congr fun c _ => S_one q n, sm_const, Int.pow_succ, Int.mul_comm]
theorem col_nil (n q : Nat) : col n q [] = (q : Int) ^ n := S_one q n
theorem ev_R {q : Nat} : ∀ {d n : Nat} {ts : List (Int × Int)}, Ties n ts → ts.length < d → ev (R d n ts) q = col n q ts
  | 0, _, _, _, h => by omega
  | d + 1, n, ts, hT, h => by
    unfold R
    rcases List.eq_nil_or_concat ts with rfl | ⟨us, t, rfl⟩
    · rw [col_nil]
      exact ev_one q n
    · rw [List.concat_eq_append] at *
      rw [List.getLast?_append, List.getLast?_singleton]
      simp only [Option.some_or, List.dropLast_concat]
      rw [List.length_append, List.length_singleton] at h
      have ht := hT.tie t (by simp)
      have hn : 1 ≤ n := by unfold Tie at ht; omega
      obtain ⟨n, rfl⟩ : ∃ k, n = k + 1 := ⟨n - 1, by omega⟩
      have hm := mg_last_len hT.nodup
      have hs := hT.sub (List.sublist_append_left us [t])
      have hg := mg_ties (n := (n : Int)) hT ht
      have l1 := R_len (d := d) hs (by omega)
      have l2 := R_len (d := d) hg (by omega)
      rw [col_dc (n := n) (t := t) hT (by simp), wo_last hT.nodup, Nat.add_sub_cancel, ev_lessL _ (by rw [l1, List.length_append, l2]; rfl), ev_snoc0, ev_R hs (by omega), ev_R hg (by omega)]
theorem ev_Rw {p : Int} {ts : List (Int × Int)} (w : Web p ts) (q : Nat) : ev (Rw p ts) q = col p.toNat q ts := by
  obtain ⟨⟨h0, h1⟩, h2, h3⟩ := w
  have e : ((p.toNat : Nat) : Int) = p := by omega
  exact ev_R (by rw [e]; exact h3) (by omega)
/-- rows that are worth the same far out are the same -/
theorem ev_inj : ∀ {a b : List Int} {N : Nat}, a.length = b.length → (∀ q : Nat, N ≤ q → ev a q = ev b q) → a = b
  | [], [], _, _, _ => rfl
  | x :: a, y :: b, N, hl, h => by
    have e : x = y := by
      have h1 := h (N + (x - y).natAbs + 1) (by omega)
      have h2 : x + ((N + (x - y).natAbs + 1 : Nat) : Int) * ev a _ = y + ((N + (x - y).natAbs + 1 : Nat) : Int) * ev b _ := h1
      generalize hk : N + (x - y).natAbs + 1 = k at *
      have hd : (k : Int) ∣ (x - y) := ⟨ev b k - ev a k, by rw [Int.mul_sub]; omega⟩
      have h3 : k ∣ (x - y).natAbs := by simpa using Int.natAbs_dvd_natAbs.mpr hd
      by_cases z : (x - y).natAbs = 0
      · omega
      · have := Nat.le_of_dvd (by omega) h3
        omega
    subst e
    congr 1
    refine ev_inj (N := N + 1) (by simpa using hl) fun q hq => ?_
    have h1 : x + (q : Int) * ev a q = x + (q : Int) * ev b q := h q (by omega)
    have h2 : (q : Int) * ev a q = (q : Int) * ev b q := by omega
    exact Int.eq_of_mul_eq_mul_left (by omega) h2
  | [], _ :: _, _, h, _ => by simp at h
  | _ :: _, [], _, h, _ => by simp at h
/-- the figures of a number -/
def dig : Nat → Nat → Nat → List Int
  | 0, _, _ => []
  | n + 1, q, m => ((m % q : Nat) : Int) :: dig n q (m / q)
theorem dig_in {q : Nat} (hq : 0 < q) : ∀ (n m : Nat), In n q (dig n q m)
  | 0, m => ⟨rfl, by simp [dig]⟩
  | n + 1, m => by
    have ih := dig_in hq n (m / q)
    refine ⟨by simp [dig, ih.1], fun x hx => ?_⟩
    rcases List.mem_cons.mp hx with rfl | hx
    · have := Nat.mod_lt m hq
      omega
    · exact ih.2 x hx
theorem sm_dig {q : Nat} (hq : 0 < q) : ∀ (n : Nat) (w : List Int → Int), sm (q ^ n) (fun m => w (dig n q m)) = S n q w
  | 0, w => by simp [sm, S, dig]
  | n + 1, w => by
    rw [Nat.pow_succ, Nat.mul_comm, sm_block]
    have e : ∀ a b : Nat, b < q → dig (n + 1) q (q * a + b) = (b : Int) :: dig n q a := fun a b hb => by
      have h1 : (q * a + b) % q = b := by rw [Nat.mul_add_mod, Nat.mod_eq_of_lt hb]
      have h2 : (q * a + b) / q = a := by rw [Nat.mul_add_div hq, Nat.div_eq_of_lt hb, Nat.add_zero]
      show (((q * a + b) % q : Nat) : Int) :: dig n q ((q * a + b) / q) = _
      rw [h1, h2]
    rw [sm_congr fun a _ => sm_congr fun b hb => by rw [e a b hb], sm_comm]
    exact sm_congr fun b _ => sm_dig hq n fun t => w ((b : Int) :: t)
theorem loopG_sm {f : Int → Int → Option Int} (w : Nat → Int) {s : Int} : ∀ {N : Nat}, (∀ s i, i < N → f s (i : Int) = some (s + w i)) → loopG f s ((List.range N).map fun i => ((i : Nat) : Int)) = some (s + sm N w)
  | 0, _ => by simp [loopG, sm]
  | N + 1, h => by
    have app : ∀ (xs : List Int) (s0 s1 : Int) (y : Int), loopG f s0 xs = some s1 → loopG f s0 (xs ++ [y]) = f s1 y := by
      intro xs
      induction xs with
      | nil =>
        intro s0 s1 y e
        cases e
        show (f s0 y).bind _ = _
        cases f s0 y <;> rfl
      | cons x xs ih =>
        intro s0 s1 y e
        obtain ⟨s2, e1, e2⟩ := Option.bind_eq_some_iff.mp (show (f s0 x).bind (fun s' => loopG f s' xs) = some s1 from e)
        show (f s0 x).bind (fun s' => loopG f s' (xs ++ [y])) = _
        rw [e1]
        exact ih s2 s1 y e2
    rw [List.range_succ, List.map_append]
    rw [List.map_singleton, app _ _ _ _ (loopG_sm w fun s i hi => h s i (by omega)), h _ N (by omega)]
    show some (s + sm N w + w N) = some (s + (sm N w + w N))
    congr 1
    omega
theorem tints_eq {n q m : Nat} (hn : n ≤ 1000) (hq : 0 < q) (hq2 : q ≤ 1000) : tints_by n m q = some (dig n q m) := by
  unfold tints_by
  rw [Option.bind_some, rng0 (by omega), Option.bind_some]
  have key : ∀ (xs : List Int) (m : Nat) (s : List Int), s.length + xs.length ≤ 1000 → loopG (S := Int × (List Int)) (fun (s3 : Int × (List Int)) (q4 : Int) =>
      ((modZ s3.1 (q : Int)).bind fun y8 => addL s3.2 y8).bind fun tints_9 =>
      (divZ s3.1 (q : Int)).bind fun number_10 =>
      some (number_10, tints_9)) ((m : Int), s) xs = some (((m / q ^ xs.length : Nat) : Int), s ++ dig xs.length q m) := by
    intro xs
    induction xs with
    | nil => intro m s _; simp [loopG, dig]
    | cons x xs ih =>
      intro m s hs
      rw [List.length_cons] at hs
      show (((modZ (m : Int) (q : Int)).bind fun y8 => addL s y8).bind fun tints_9 => (divZ (m : Int) (q : Int)).bind fun number_10 => some (number_10, tints_9)).bind _ = _
      rw [modZ_pos (by omega), Option.bind_some, addL_ok (by omega), Option.bind_some, divZ_pos (by omega) (by omega), Option.bind_some, Option.bind_some]
      have e1 : (m : Int) % (q : Int) = ((m % q : Nat) : Int) := rfl
      have e2 : (m : Int) / (q : Int) = ((m / q : Nat) : Int) := rfl
      rw [e1, e2, ih _ _ (by simp; omega)]
      congr 2
      · rw [List.length_cons, Nat.pow_succ, Nat.div_div_eq_div_mul, Nat.mul_comm q]
      · rw [List.length_cons, List.append_assoc]
        rfl
  rw [key _ _ _ (by simp; omega), Option.bind_some]
  simp
theorem many_eq {n q : Nat} (hn : n ≤ 1000) (hq : q ≤ 1000) : many_tints n q = some (((q ^ n : Nat)) : Int) := by
  unfold many_tints
  rw [Option.bind_some, rng0 (by omega), Option.bind_some]
  have key : ∀ (xs : List Int) (s : Nat), loopG (S := Int) (fun (s13 : Int) (q14 : Int) =>
      (mulZ s13 (q : Int)).bind fun found_18 =>
      some found_18) (s : Int) xs = some ((s * q ^ xs.length : Nat) : Int) := by
    intro xs
    induction xs with
    | nil => intro s; simp [loopG]
    | cons x xs ih =>
      intro s
      show ((mulZ (s : Int) (q : Int)).bind fun found_18 => some found_18).bind _ = _
      rw [mulZ_r (by omega) (by omega), Option.bind_some, Option.bind_some]
      have e : (s : Int) * (q : Int) = ((s * q : Nat) : Int) := rfl
      rw [e, ih, List.length_cons, Nat.pow_succ, Nat.mul_assoc, Nat.mul_comm q]
  have h1 := key ((List.range n).map fun i => ((i : Nat) : Int)) 1
  rw [List.length_map, List.length_range, Nat.one_mul] at h1
  rw [show (1 : Int) = ((1 : Nat) : Int) from rfl, h1]
  rfl
theorem atZ_gi {l : List Int} {x : Int} (h0 : 0 ≤ x) (h1 : x < l.length) : atZ l x = some (gi l x) := by
  have e : ((x.toNat : Nat) : Int) = x := by omega
  have := atZ_getD l (k := x.toNat) (by omega)
  rw [e] at this
  exact this
theorem loopR_all {f : Unit → α → Option (Stp Unit Bool)} (ok : α → Bool) : ∀ {xs : List α}, (∀ x ∈ xs, f () x = some (if ok x = true then .go () else .ret false)) →
    loopR f () xs = some (if xs.all ok = true then .go () else .ret false)
  | [], _ => rfl
  | x :: xs, h => by
    have h1 := h x List.mem_cons_self
    have h2 := loopR_all ok fun y hy => h y (List.mem_cons_of_mem _ hy)
    show (f () x).bind _ = _
    rw [h1]
    cases hb : ok x
    · simp [hb]
    · simp [hb, h2]
theorem fits_eq {n : Int} {ts : List (Int × Int)} {l : List Int} (hT : ∀ t ∈ ts, Tie n t) (hl : n ≤ (l.length : Int)) : fits ts l = some (fitsB ts l) := by
  unfold fits
  rw [Option.bind_some, loopR_all (fun e => !decide (gi l e.1 = gi l e.2))]
  · rw [Option.bind_some]
    unfold fitsB
    split <;> rename_i h
    · rw [h]; rfl
    · rw [Bool.eq_false_iff.mpr h]; rfl
  · intro e he
    have ht := hT e he
    unfold Tie at ht
    rw [atZ_gi (by omega) (by omega), atZ_gi (by omega) (by omega)]
    by_cases c : gi l e.1 = gi l e.2 <;> simp [c]
theorem count_eq {n q : Nat} {ts : List (Int × Int)} (hT : Ties n ts) (hn : n ≤ 10) (hq : q ≤ 10) : count_ n ts q = some (col n q ts) := by
  unfold count_
  rw [Option.bind_some]
  by_cases z : q = 0
  · subst z
    rw [if_pos (by simp)]
    congr 1
    cases n with
    | zero =>
      have e : ts = [] := List.eq_nil_iff_forall_not_mem.mpr fun t ht => by
        have := hT.tie t ht
        unfold Tie at this
        omega
      subst e
      rfl
    | succ n => 
      rw [if_neg (by simp; omega)]
      rfl
  · rw [if_neg (by simp; omega), Option.bind_some, many_eq (by omega) (by omega), Option.bind_some]
    have hb : q ^ n ≤ 10 ^ 10 := Nat.le_trans (Nat.pow_le_pow_left hq n) (Nat.pow_le_pow_right (by decide) hn)
    have hr : rng 0 ((q ^ n : Nat) : Int) = some ((List.range (q ^ n)).map fun i => ((i : Nat) : Int)) := by
      unfold rng
      have h10 : (10 : Nat) ^ 10 = 10000000000 := by decide
      rw [if_pos (by omega)]
      have e : (((q ^ n : Nat) : Int) - 0).toNat = q ^ n := by omega
      rw [e]
      congr 1
      exact List.map_congr_left fun i _ => by omega
    rw [hr, Option.bind_some, loopG_sm (fun m => if fitsB ts (dig n q m) = true then 1 else 0), Option.bind_some, Int.zero_add, sm_dig (w := fun l => if fitsB ts l = true then 1 else 0) (by omega)]
    · rfl
    · intro s i _
      have hi := dig_in (q := q) (by omega) n i
      rw [tints_eq (by omega) (by omega) (by omega), Option.bind_some, Option.bind_some, Option.bind_some, fits_eq hT.tie (by rw [hi.1]; omega), Option.bind_some]
      by_cases c : fitsB ts (dig n q i) = true
      · simp [c]
      · simp [c]
end Q

set_option linter.all false
/-! Arrows: do they go round, and the ranks, as the laws reckon them. -/
namespace Q
open Dv
def longest (points : Int) (steps : List (Int × Int)) : Option (Option (List Int)) :=
  (some ([] : List Int)).bind fun found_1 =>
  (lrng points).bind fun left_2 =>
  (lc (fun (q3 : Int) => some true) (fun (q3 : Int) => some 0) left_2).bind fun height_5 =>
  (whileR (S := (List Int) × (List Int)) (R := Option (List Int)) (fun (s6 : (List Int) × (List Int)) => some (decide (0 < (s6.1.length : Int)))) (fun (s6 : (List Int) × (List Int)) =>
      (lc (fun (q10 : Int) => ((lc (fun (q14 : Int × Int) => (if (decide (q14.2 = q10)) = true then some (memL q14.1 s6.1) else some false)) (fun (q14 : Int × Int) => some q14) steps).bind fun y16 => some (y16.length : Int)).bind fun y17 => some (decide (y17 = 0))) (fun (q10 : Int) => some q10) s6.1).bind fun free_19 =>
      (some (decide ((free_19.length : Int) = 0))).bind fun b20 => if b20 = true then
        (some none).bind fun y21 => some (.ret y21)
      else
      (some free_19).bind fun xs22 => (loopG (S := (List Int)) (fun (s23 : (List Int)) (q24 : Int) =>
          (some steps).bind fun xs28 => (loopG (S := (List Int)) (fun (s29 : (List Int)) (q30 : Int × Int) =>
              (some (decide (q30.2 = q24))).bind fun b34 => if b34 = true then
                (((atZ s29 q24).bind fun y35 => ((atZ s29 q30.1).bind fun y36 => some (y36 + 1)).bind fun y37 => some (if y35 < y37 then y37 else y35)).bind fun y38 => setZ s29 q24 y38).bind fun height_39 =>
                some height_39
              else
                some s29) s23 xs28).bind fun s32 =>
          some s32) s6.2 xs22).bind fun s26 =>
      (lc (fun (q40 : Int) => some (!memL q40 free_19)) (fun (q40 : Int) => some q40) s6.1).bind fun left_42 =>
      some (.go (left_42, s26))) 20 (left_2, height_5)).bind fun st8 => st8.elim (fun s7 =>
  some (some s7.2)) (fun y9 => some y9)
/-- arrows that never go round -/
def Acy (E : List (Int × Int)) : Prop := ∃ h : Int → Int, ∀ e ∈ E, h e.1 < h e.2
/-- all arrows are between n points -/
def Arr (n : Nat) (E : List (Int × Int)) : Prop := ∀ e ∈ E, (0 ≤ e.1 ∧ e.1 < n) ∧ (0 ≤ e.2 ∧ e.2 < n)
/-- m is one more than the greatest of f at the arrows' beginnings that lead to v, else nought -/
structure Mx (E : List (Int × Int)) (f : Int → Int) (v m : Int) : Prop where
  nn : 0 ≤ m
  le : ∀ e ∈ E, e.2 = v → f e.1 + 1 ≤ m
  is : m = 0 ∨ ∃ e ∈ E, e.2 = v ∧ m = f e.1 + 1
theorem Mx.uniq {E : List (Int × Int)} {f : Int → Int} {v m k : Int} (a : Mx E f v m) (b : Mx E f v k) : m = k := by
  have h1 : m ≤ k := by
    rcases a.is with h | ⟨e, he, hv, h⟩
    · have := b.nn
      omega
    · have := b.le e he hv
      omega
  have h2 : k ≤ m := by
    rcases b.is with h | ⟨e, he, hv, h⟩
    · have := a.nn
      omega
    · have := a.le e he hv
      omega
  omega
theorem Mx.congr {E : List (Int × Int)} {f g : Int → Int} {v m : Int} (a : Mx E f v m) (h : ∀ e ∈ E, e.2 = v → f e.1 = g e.1) : Mx E g v m :=
  ⟨a.nn, fun e he hv => by rw [← h e he hv]; exact a.le e he hv, a.is.imp id fun ⟨e, he, hv, q⟩ => ⟨e, he, hv, by rw [← h e he hv]; exact q⟩⟩
/-- ranks -/
def Fix (n : Nat) (E : List (Int × Int)) (f : Int → Int) : Prop := ∀ v : Int, 0 ≤ v → v < n → Mx E f v (f v)
theorem Fix.acy {n : Nat} {E : List (Int × Int)} {f : Int → Int} (hE : Arr n E) (h : Fix n E f) : Acy E :=
  ⟨f, fun e he => by
    have := (h e.2 (hE e he).2.1 (hE e he).2.2).le e he rfl
    omega⟩
theorem Fix.uniq {n : Nat} {E : List (Int × Int)} {f g : Int → Int} (hE : Arr n E) (a : Fix n E f) (b : Fix n E g) : ∀ (k : Nat) (v : Int), 0 ≤ v → v < n → f v < k → f v = g v
  | 0, v, h0, h1, h => by
    have := (a v h0 h1).nn
    omega
  | k + 1, v, h0, h1, h => by
    refine Mx.uniq ((a v h0 h1).congr fun e he hv => ?_) (b v h0 h1)
    have := (a v h0 h1).le e he hv
    exact Fix.uniq hE a b k e.1 (hE e he).1.1 (hE e he).1.2 (by omega)
/-- what is told of arrows: None where they go round, else the ranks -/
def Rk (n : Nat) (E : List (Int × Int)) : Option (List Int) → Prop
  | none => ¬ Acy E
  | some l => l.length = n ∧ Fix n E (gi l)
theorem gi_ext {l m : List Int} (h : l.length = m.length) (e : ∀ v : Int, 0 ≤ v → v < l.length → gi l v = gi m v) : l = m := by
  apply List.ext_getElem h
  intro i h1 h2
  have := e i (by omega) (by omega)
  unfold gi at this
  rw [List.getD_eq_getElem?_getD, List.getD_eq_getElem?_getD] at this
  simpa [h1, h2] using this
theorem Rk.uniq {n : Nat} {E : List (Int × Int)} (hE : Arr n E) {r s : Option (List Int)} (a : Rk n E r) (b : Rk n E s) : r = s := by
  cases r with
  | none =>
    cases s with
    | none => rfl
    | some m => exact absurd (b.2.acy hE) a
  | some l =>
    cases s with
    | none => exact absurd (a.2.acy hE) b
    | some m =>
      congr 1
      refine gi_ext (by rw [a.1, b.1]) fun v h0 h1 => ?_
      rw [a.1] at h1
      exact Fix.uniq hE a.2 b.2 ((gi l v).toNat + 1) v h0 h1 (by omega)
theorem gi_set {l : List Int} {i : Int} (h0 : 0 ≤ i) (h1 : i < l.length) (x : Int) {v : Int} (hv : 0 ≤ v) : gi (l.set i.toNat x) v = if v = i then x else gi l v := by
  unfold gi
  rw [List.getD_eq_getElem?_getD, List.getD_eq_getElem?_getD]
  by_cases c : v = i
  · subst c
    rw [List.getElem?_set_self (by omega), if_pos rfl]
    rfl
  · rw [List.getElem?_set_ne (by omega), if_neg c]
theorem setZ_ok {l : List Int} {i : Int} (h0 : 0 ≤ i) (h1 : i < l.length) (x : Int) : setZ l i x = some (l.set i.toNat x) := by
  unfold setZ ixZ
  rw [if_pos h0, if_pos h1]
  rfl
theorem gi_rep (n : Nat) (v : Int) : gi (List.replicate n 0) v = 0 := by
  unfold gi
  rw [List.getD_eq_getElem?_getD, List.getElem?_replicate]
  split <;> rfl
/-- an invariant of a loop through a list, by what went by -/
theorem loopG_pre {S : Type} {f : S → α → Option S} (I : List α → S → Prop) : ∀ {xs pre : List α} {s : S}, I pre s → (∀ pre x s, I pre s → x ∈ xs → Ok (f s x) (I (pre ++ [x]))) → Ok (loopG f s xs) (I (pre ++ xs))
  | [], pre, s, h, _ => ⟨s, rfl, by rw [List.append_nil]; exact h⟩
  | x :: xs, pre, s, h, hs => by
    obtain ⟨s1, e1, h1⟩ := hs pre x s h List.mem_cons_self
    obtain ⟨s2, e2, h2⟩ := loopG_pre I (xs := xs) h1 fun p y s i m => hs p y s i (List.mem_cons_of_mem _ m)
    refine ⟨s2, ?_, ?_⟩
    · show (f s x).bind _ = _
      rw [e1]
      exact e2
    · rw [show pre ++ x :: xs = pre ++ [x] ++ xs by simp]
      exact h2
/-- one more arrow is looked at -/
theorem Mx.snoc {E : List (Int × Int)} {f : Int → Int} {v m : Int} (a : Mx E f v m) (e : Int × Int) : Mx (E ++ [e]) f v (if e.2 = v then (if m < f e.1 + 1 then f e.1 + 1 else m) else m) := by
  have hnn := a.nn
  by_cases c : e.2 = v
  · rw [if_pos c]
    refine ⟨by split <;> omega, fun u hu hv => ?_, ?_⟩
    · rcases List.mem_append.mp hu with hu | hu
      · have := a.le u hu hv
        split <;> omega
      · rw [List.mem_singleton.mp hu]
        split <;> omega
    · by_cases d : m < f e.1 + 1
      · rw [if_pos d]
        exact .inr ⟨e, by simp, c, rfl⟩
      · rw [if_neg d]
        exact a.is.imp id fun ⟨u, hu, q⟩ => ⟨u, List.mem_append_left _ hu, q⟩
  · rw [if_neg c]
    refine ⟨hnn, fun u hu hv => ?_, a.is.imp id fun ⟨u, hu, q⟩ => ⟨u, List.mem_append_left _ hu, q⟩⟩
    rcases List.mem_append.mp hu with hu | hu
    · exact a.le u hu hv
    · rw [List.mem_singleton.mp hu] at hv
      exact absurd hv c
/-- where points are left, to each of which an arrow leads from such a one, arrows go round -/
theorem acy_min {E : List (Int × Int)} (h : Acy E) : ∀ {L : List Int}, L ≠ [] → ∃ v ∈ L, ∀ e ∈ E, e.2 = v → e.1 ∉ L := by
  obtain ⟨h, hh⟩ := h
  have mn : ∀ L : List Int, L ≠ [] → ∃ v ∈ L, ∀ u ∈ L, h v ≤ h u := by
    intro L
    induction L with
    | nil => intro z; exact absurd rfl z
    | cons x L ih =>
      intro _
      by_cases c : L = []
      · subst c
        exact ⟨x, by simp, by simp⟩
      · obtain ⟨v, hv, hm⟩ := ih c
        by_cases d : h x ≤ h v
        · refine ⟨x, by simp, fun u hu => ?_⟩
          rcases List.mem_cons.mp hu with rfl | hu
          · omega
          · have := hm u hu
            omega
        · refine ⟨v, by simp [hv], fun u hu => ?_⟩
          rcases List.mem_cons.mp hu with rfl | hu
          · omega
          · exact hm u hu
  intro L hL
  obtain ⟨v, hv, hm⟩ := mn L hL
  refine ⟨v, hv, fun e he hev hc => ?_⟩
  have h1 := hm e.1 hc
  have h2 := hh e he
  rw [hev] at h2
  omega
/-- what a turn of the laws' reckoning keeps -/
structure Lng (n : Nat) (E : List (Int × Int)) (left height : List Int) : Prop where
  len : height.length = n
  nd : left.Nodup
  sub : ∀ v ∈ left, 0 ≤ v ∧ v < n
  zero : ∀ v ∈ left, gi height v = 0
  out : ∀ v : Int, 0 ≤ v → v < n → v ∉ left → Mx E (gi height) v (gi height v) ∧ ∀ e ∈ E, e.2 = v → e.1 ∉ left
  bd : ∀ v : Int, 0 ≤ v → v < n → gi height v + left.length ≤ n
def freeB (E : List (Int × Int)) (left : List Int) (v : Int) : Bool := decide (((E.filter fun e => decide (e.2 = v) && memL e.1 left).length : Int) = 0)
theorem freeB_iff {E : List (Int × Int)} {left : List Int} {v : Int} : freeB E left v = true ↔ ∀ e ∈ E, e.2 = v → e.1 ∉ left := by
  unfold freeB
  rw [decide_eq_true_iff]
  constructor
  · intro h e he hv hm
    have h2 : (E.filter fun e => decide (e.2 = v) && memL e.1 left) = [] := List.length_eq_zero_iff.mp (by omega)
    have h3 : e ∈ E.filter fun e => decide (e.2 = v) && memL e.1 left := List.mem_filter.mpr ⟨he, by simp [hv, memL, hm]⟩
    rw [h2] at h3
    cases h3
  · intro h
    have : (E.filter fun e => decide (e.2 = v) && memL e.1 left) = [] := by
      rw [List.filter_eq_nil_iff]
      intro e he
      by_cases c : e.2 = v
      · have := h e he c
        simp [c, memL, this]
      · simp [c]
    rw [this]
    rfl
theorem lrng_eq {n : Nat} (h : n ≤ 1000) : lrng n = some ((List.range n).map fun i => ((i : Nat) : Int)) := by
  unfold lrng
  rw [if_pos (by omega)]
  simp
theorem lng_step {n : Nat} {E : List (Int × Int)} (hE : Arr n E) (hn : n ≤ 100) (hEl : E.length ≤ 1000) {left height : List Int} (L : Lng n E left height) (hf : left.filter (freeB E left) ≠ []) :
    Ok (loopG (S := (List Int)) (fun (s104 : (List Int)) (q105 : Int) =>
          (some E).bind fun xs109 => (loopG (S := (List Int)) (fun (s110 : (List Int)) (q111 : Int × Int) =>
              (some (decide (q111.2 = q105))).bind fun b115 => if b115 = true then
                (((atZ s110 q105).bind fun y116 => ((atZ s110 q111.1).bind fun y117 => some (y117 + 1)).bind fun y118 => some (if y116 < y118 then y118 else y116)).bind fun y119 => setZ s110 q105 y119).bind fun height_120 =>
                some height_120
              else
                some s110) s104 xs109).bind fun s113 =>
          some s113) height (left.filter (freeB E left))) fun s => Lng n E (left.filter fun v => !memL v (left.filter (freeB E left))) s := by
  have hfree : ∀ v, v ∈ left.filter (freeB E left) ↔ v ∈ left ∧ ∀ e ∈ E, e.2 = v → e.1 ∉ left := fun v => by
    rw [List.mem_filter, freeB_iff]
  generalize hF : left.filter (freeB E left) = F at *
  have hFn : F.Nodup := by rw [← hF]; exact L.nd.filter _
  -- the heights of the free points
  refine (loopG_pre (S := List Int) (fun pre s => s.length = n ∧ (∀ v : Int, 0 ≤ v → v < n → v ∉ pre → gi s v = gi height v) ∧ ∀ v ∈ pre, v ∈ F ∧ Mx E (gi height) v (gi s v)) (pre := []) ⟨L.len, fun v _ _ _ => rfl, by simp⟩ ?_).imp ?_
  · rintro pre x s ⟨i1, i2, i3⟩ hx
    obtain ⟨hxl, hxp⟩ := (hfree x).mp hx
    obtain ⟨x0, x1⟩ := L.sub x hxl
    rw [Option.bind_some]
    by_cases hxpre : x ∈ pre
    · -- not met: each point once, but nothing hangs on it
      have e0 := (i3 x hxpre).2
      refine Ok.bind (P := fun s' => s' = s) ?_ ?_
      · refine (loopG_pre (S := List Int) (fun _ s' => s' = s) (pre := []) rfl ?_).imp fun _ h => h
        rintro pe e s' rfl he
        rw [Option.bind_some]
        by_cases c : e.2 = x
        · obtain ⟨⟨a0, a1⟩, _⟩ := hE e he
          have hne : e.1 ∉ left := hxp e he c
          have hpe : e.1 ∉ pre := fun z => hne ((hfree _).mp (i3 _ z).1).1
          have hle := e0.le e he c
          rw [← i2 e.1 a0 a1 hpe] at hle
          rw [if_pos (by simpa using c), atZ_gi x0 (by omega), Option.bind_some, atZ_gi a0 (by omega), Option.bind_some, Option.bind_some, if_neg (by omega), Option.bind_some, setZ_ok x0 (by omega), Option.bind_some]
          refine .mk (gi_ext (by simp) fun v h0 h1 => ?_)
          rw [gi_set x0 (by omega) _ h0]
          split
          · rename_i q
            rw [q]
          · rfl
        · rw [if_neg (by simpa using c)]
          exact .mk rfl
      · rintro s' rfl
        refine .mk ⟨i1, fun v h0 h1 hv => i2 v h0 h1 fun z => hv (List.mem_append_left _ z), fun v hv => ?_⟩
        rcases List.mem_append.mp hv with hv | hv
        · exact i3 v hv
        · rw [List.mem_singleton.mp hv]
          exact i3 x hxpre
    · refine Ok.bind (P := fun s' => s'.length = n ∧ (∀ v : Int, 0 ≤ v → v < n → v ≠ x → gi s' v = gi s v) ∧ Mx E (gi height) x (gi s' x)) ?_ ?_
      · refine (loopG_pre (S := List Int) (fun pe s' => s'.length = n ∧ (∀ v : Int, 0 ≤ v → v < n → v ≠ x → gi s' v = gi s v) ∧ Mx pe (gi height) x (gi s' x)) (pre := []) ⟨i1, fun _ _ _ _ => rfl, ?_⟩ ?_).imp fun s' h => ?_
        · rw [i2 x x0 x1 hxpre, L.zero x hxl]
          exact ⟨Int.le_refl 0, by simp, .inl rfl⟩
        · rintro pe e s' ⟨j1, j2, j3⟩ he
          have hsn := j3.snoc e
          rw [Option.bind_some]
          by_cases c : e.2 = x
          · obtain ⟨⟨a0, a1⟩, _⟩ := hE e he
            have hne : e.1 ∉ left := hxp e he c
            have hex : e.1 ≠ x := fun z => hne (z ▸ hxl)
            have hpe : e.1 ∉ pre := fun z => hne ((hfree _).mp (i3 _ z).1).1
            have hg : gi s' e.1 = gi height e.1 := by rw [j2 e.1 a0 a1 hex, i2 e.1 a0 a1 hpe]
            rw [if_pos c] at hsn
            rw [if_pos (by simpa using c), atZ_gi x0 (by omega), Option.bind_some, atZ_gi a0 (by omega), Option.bind_some, Option.bind_some, Option.bind_some, setZ_ok x0 (by omega), Option.bind_some, hg]
            refine .mk ⟨by rw [List.length_set]; exact j1, fun v h0 h1 hv => ?_, ?_⟩
            · rw [gi_set x0 (by omega) _ h0, if_neg hv]
              exact j2 v h0 h1 hv
            · rw [gi_set x0 (by omega) _ x0, if_pos rfl]
              exact hsn
          · rw [if_neg (by simpa using c)]
            rw [if_neg c] at hsn
            exact .mk ⟨j1, j2, hsn⟩
        · exact h
      · rintro s' ⟨j1, j2, j3⟩
        refine .mk ⟨j1, fun v h0 h1 hv => ?_, fun v hv => ?_⟩
        · have a1 : v ≠ x := fun z => hv (by simp [z])
          have a2 : v ∉ pre := fun z => hv (List.mem_append_left _ z)
          rw [j2 v h0 h1 a1, i2 v h0 h1 a2]
        · rcases List.mem_append.mp hv with hv | hv
          · have hvl := L.sub v ((hfree v).mp (i3 v hv).1).1
            rw [j2 v hvl.1 hvl.2 fun z => hxpre (z ▸ hv)]
            exact i3 v hv
          · rw [List.mem_singleton.mp hv]
            exact ⟨hx, j3⟩
  · rintro s ⟨i1, i2, i3⟩
    rw [List.nil_append] at i2 i3
    have hmem : ∀ v, (v ∈ left.filter fun v => !memL v F) ↔ v ∈ left ∧ v ∉ F := fun v => by
      rw [List.mem_filter]
      simp [memL]
    have hlt : (left.filter fun v => !memL v F).length + 1 ≤ left.length := by
      obtain ⟨x, hx⟩ := List.exists_mem_of_ne_nil F hf
      have hxl := ((hfree x).mp hx).1
      have := List.length_filter_lt_length_iff_exists (l := left) (p := fun v => !memL v F) |>.mpr ⟨x, hxl, by simp [memL, hx]⟩
      omega
    refine ⟨i1, L.nd.filter _, fun v hv => L.sub v ((hmem v).mp hv).1, fun v hv => ?_, fun v h0 h1 hv => ?_, fun v h0 h1 => ?_⟩
    · have hv := (hmem v).mp hv
      have hs := L.sub v hv.1
      rw [i2 v hs.1 hs.2 hv.2]
      exact L.zero v hv.1
    · have key : ∀ e ∈ E, e.2 = v → e.1 ∉ left → gi height e.1 = gi s e.1 := fun e he _ hl => by
        obtain ⟨⟨a0, a1⟩, _⟩ := hE e he
        exact (i2 e.1 a0 a1 fun z => hl ((hfree _).mp z).1).symm
      by_cases c : v ∈ F
      · have hvf := (hfree v).mp c
        refine ⟨(i3 v c).2.congr fun e he hev => key e he hev (hvf.2 e he hev), fun e he hev z => hvf.2 e he hev ((hmem _).mp z).1⟩
      · have hvl : v ∉ left := fun z => hv ((hmem v).mpr ⟨z, c⟩)
        obtain ⟨g1, g2⟩ := L.out v h0 h1 hvl
        rw [i2 v h0 h1 c]
        exact ⟨g1.congr fun e he hev => key e he hev (g2 e he hev), fun e he hev z => g2 e he hev ((hmem _).mp z).1⟩
    · by_cases c : v ∈ F
      · have g := (i3 v c).2
        rcases g.is with h | ⟨e, he, hev, h⟩
        · rw [h]
          have := L.bd v h0 h1
          have hz := L.zero v ((hfree v).mp c).1
          omega
        · obtain ⟨⟨a0, a1⟩, _⟩ := hE e he
          have := L.bd e.1 a0 a1
          omega
      · rw [i2 v h0 h1 c]
        have := L.bd v h0 h1
        omega
theorem longest_eq {n : Nat} {E : List (Int × Int)} (hE : Arr n E) (hn : n ≤ 10) (hEl : E.length ≤ 1000) : ∃ r, longest n E = some r ∧ Rk n E r ∧ ∀ l, r = some l → ∀ v : Int, 0 ≤ v → v < n → gi l v ≤ n := by
  unfold longest
  rw [Option.bind_some, lrng_eq (by omega), Option.bind_some, lc_map (fun _ => 0) (by simp; omega) (fun _ _ => rfl), Option.bind_some]
  have h0 : ((List.range n).map fun i => ((i : Nat) : Int)).map (fun _ => (0 : Int)) = List.replicate n 0 := by
    apply List.ext_getElem
    · simp
    · intro i h1 h2
      simp
  rw [h0]
  have L0 : Lng n E ((List.range n).map fun i => ((i : Nat) : Int)) (List.replicate n 0) := by
    refine ⟨by simp, ?_, fun v hv => ?_, fun v _ => gi_rep n v, fun v h0 h1 hv => ?_, fun v _ _ => by rw [gi_rep]; simp⟩
    · rw [List.nodup_iff_pairwise_ne, List.pairwise_map]
      exact List.Pairwise.imp (fun {a b} h => by omega) List.pairwise_lt_range
    · obtain ⟨i, hi, rfl⟩ := List.mem_map.mp hv
      have := List.mem_range.mp hi
      omega
    · exact absurd (List.mem_map.mpr ⟨v.toNat, List.mem_range.mpr (by omega), by omega⟩) hv
  have key : ∀ (fuel : Nat) (left height : List Int), Lng n E left height → left.length < fuel → ∃ st, whileR (S := (List Int) × (List Int)) (R := Option (List Int)) (fun (s87 : (List Int) × (List Int)) => some (decide (0 < (s87.1.length : Int)))) (fun (s87 : (List Int) × (List Int)) =>
      (lc (fun (q91 : Int) => ((lc (fun (q95 : Int × Int) => (if (decide (q95.2 = q91)) = true then some (memL q95.1 s87.1) else some false)) (fun (q95 : Int × Int) => some q95) E).bind fun y97 => some (y97.length : Int)).bind fun y98 => some (decide (y98 = 0))) (fun (q91 : Int) => some q91) s87.1).bind fun free_100 =>
      (some (decide ((free_100.length : Int) = 0))).bind fun b101 => if b101 = true then
        (some none).bind fun y102 => some (.ret y102)
      else
      (some free_100).bind fun xs103 => (loopG (S := (List Int)) (fun (s104 : (List Int)) (q105 : Int) =>
          (some E).bind fun xs109 => (loopG (S := (List Int)) (fun (s110 : (List Int)) (q111 : Int × Int) =>
              (some (decide (q111.2 = q105))).bind fun b115 => if b115 = true then
                (((atZ s110 q105).bind fun y116 => ((atZ s110 q111.1).bind fun y117 => some (y117 + 1)).bind fun y118 => some (if y116 < y118 then y118 else y116)).bind fun y119 => setZ s110 q105 y119).bind fun height_120 =>
                some height_120
              else
                some s110) s104 xs109).bind fun s113 =>
          some s113) s87.2 xs103).bind fun s107 =>
      (lc (fun (q121 : Int) => some (!memL q121 free_100)) (fun (q121 : Int) => some q121) s87.1).bind fun left_123 =>
      some (.go (left_123, s107))) fuel (left, height) = some st ∧ ((st = .ret none ∧ ¬ Acy E) ∨ ∃ h, st = .go ([], h) ∧ Lng n E [] h) := by
    intro fuel
    induction fuel with
    | zero => intro left height _ h; omega
    | succ fuel ih =>
      intro left height L hl
      have hll : left.length ≤ 100 := by
        by_cases c : n = 0
        · cases left with
          | nil => simp
          | cons x xs =>
            have := L.sub x (by simp)
            omega
        · have := L.bd 0 (by omega) (by omega)
          have hz : 0 ≤ gi height 0 := by
            by_cases d : (0 : Int) ∈ left
            · rw [L.zero 0 d]; omega
            · exact (L.out 0 (by omega) (by omega) d).1.nn
          omega
      rw [whileR]
      by_cases z : left = []
      · subst z
        exact ⟨.go ([], height), rfl, .inr ⟨height, rfl, L⟩⟩
      · have hpos : 0 < (left.length : Int) := by
          have := List.length_pos_iff.mpr z
          omega
        have hfr : lc (fun (q91 : Int) => ((lc (fun (q95 : Int × Int) => (if (decide (q95.2 = q91)) = true then some (memL q95.1 left) else some false)) (fun (q95 : Int × Int) => some q95) E).bind fun y97 => some (y97.length : Int)).bind fun y98 => some (decide (y98 = 0))) (fun (q91 : Int) => some q91) left = some (left.filter (freeB E left)) := by
          rw [lc_all (freeB E left) (fun v => v) (by omega)]
          · simp
          · intro v _
            rw [lc_all (fun e : Int × Int => decide (e.2 = v) && memL e.1 left) (fun e => e) (by omega)]
            · simp [freeB]
            · intro e _
              by_cases c : e.2 = v <;> simp [c]
            · intro e _ _
              rfl
          · intro v _ _
            rfl
        simp only [hpos, decide_true, Option.bind_some, ↓reduceIte]
        rw [hfr, Option.bind_some]
        by_cases f0 : left.filter (freeB E left) = []
        · rw [f0]
          refine ⟨.ret none, rfl, .inl ⟨rfl, fun a => ?_⟩⟩
          obtain ⟨v, hv, hm⟩ := acy_min a z
          have : v ∈ left.filter (freeB E left) := List.mem_filter.mpr ⟨hv, freeB_iff.mpr hm⟩
          rw [f0] at this
          cases this
        · have fpos : ¬ ((left.filter (freeB E left)).length : Int) = 0 := by
            have := List.length_pos_iff.mpr f0
            omega
          simp only [fpos, decide_false, Bool.false_eq_true, ↓reduceIte]
          obtain ⟨s, es, hs⟩ := lng_step hE (by omega) hEl L f0
          have es' := es
          simp only [Option.bind_some] at es'
          rw [es', Option.bind_some]
          have hle : (left.filter (freeB E left)).length ≤ left.length := List.length_filter_le _ _
          rw [lc_all (fun v => !memL v (left.filter (freeB E left))) (fun v => v) (by omega) (fun _ _ => rfl) (fun _ _ _ => rfl), Option.bind_some, Option.bind_some, Stp.elim_go, List.map_id']
          have hlt : (left.filter fun v => !memL v (left.filter (freeB E left))).length < left.length := by
            obtain ⟨x, hx⟩ := List.exists_mem_of_ne_nil _ f0
            exact List.length_filter_lt_length_iff_exists.mpr ⟨x, (List.mem_filter.mp hx).1, by simp [memL, hx]⟩
          have := ih _ _ hs (by omega)
          simp only [Option.bind_some] at this
          exact this
  obtain ⟨st, e, h⟩ := key 20 _ _ L0 (by simp; omega)
  simp only [Option.bind_some] at e ⊢
  rw [e, Option.bind_some]
  rcases h with ⟨rfl, hn⟩ | ⟨h, rfl, L⟩
  · exact ⟨none, rfl, hn, fun l hl => by cases hl⟩
  · refine ⟨some h, rfl, ⟨L.len, fun v h0 h1 => (L.out v h0 h1 (by simp)).1⟩, fun l hl v h0 h1 => ?_⟩
    cases hl
    have := L.bd v h0 h1
    simp at this
    exact this
end Q

set_option linter.all false
/-! Arrows, as the program reckons them. -/
namespace Q
open Dv
def asked_setting (points : Int) (ties : List (Int × Int)) (arrows : List Bool) : Rs Unit :=
  (asked_web points ties).bind fun y1 => exB y1 fun _ =>
  (some (!decide ((arrows.length : Int) = (ties.length : Int)))).bind fun b4 => if b4 = true then
    some (.error .noSetting)
  else
  some (.ok ())
def led (ties : List (Int × Int)) (arrows : List Bool) : Option (List (Int × Int)) :=
  (some ([] : List (Int × Int))).bind fun found_5 =>
  (some (ties.zip arrows)).bind fun xs6 => (loopG (S := (List (Int × Int))) (fun (s7 : (List (Int × Int))) (q8 : (Int × Int) × Bool) =>
      (some q8.2).bind fun b12 => if b12 = true then
        (addL s7 q8.1).bind fun found_13 =>
        some found_13
      else
        (addL s7 (q8.1.2, q8.1.1)).bind fun found_14 =>
        some found_14) found_5 xs6).bind fun s10 =>
  some s10
def ranks_by (points : Int) (ties : List (Int × Int)) (arrows : List Bool) : Option (Option (List Int)) :=
  (led ties arrows).bind fun pairs_15 =>
  ((rng 0 points).bind fun y18 => lc (fun (q16 : Int) => some true) (fun (q16 : Int) => some 0) y18).bind fun found_19 =>
  (rng 0 (points + 1)).bind fun xs20 => (loopR (S := (List Int)) (R := Option (List Int)) (fun (s21 : (List Int)) (q22 : Int) =>
      ((rng 0 points).bind fun y28 => lc (fun (q26 : Int) => some true) (fun (q26 : Int) => some 0) y28).bind fun later_29 =>
      (some pairs_15).bind fun xs30 => (loopG (S := (List Int)) (fun (s31 : (List Int)) (q32 : Int × Int) =>
          (((atZ s31 q32.2).bind fun y36 => ((atZ s21 q32.1).bind fun y37 => some (y37 + 1)).bind fun y38 => some (if y36 < y38 then y38 else y36)).bind fun y39 => setZ s31 q32.2 y39).bind fun later_40 =>
          some later_40) later_29 xs30).bind fun s34 =>
      (some (decide (s34 = s21))).bind fun b41 => if b41 = true then
        (some (some s21)).bind fun y42 => some (.ret y42)
      else
      (some s34).bind fun found_43 =>
      some (.go found_43)) found_19 xs20).bind fun st23 => st23.elim (fun s24 =>
  some none) (fun y25 => some y25)
def goes_round (points : Int) (ties : List (Int × Int)) (arrows : List Bool) : Rs Bool :=
  (asked_setting points ties arrows).bind fun y44 => exB y44 fun _ =>
  ((ranks_by points ties arrows).bind fun y47 => some y47.isNone).bind fun y48 => some (.ok y48)
def ranks (points : Int) (ties : List (Int × Int)) (arrows : List Bool) : Rs (List Int) :=
  (asked_setting points ties arrows).bind fun y49 => exB y49 fun _ =>
  (ranks_by points ties arrows).bind fun found_52 =>
  (some found_52.isNone).bind fun b53 => if b53 = true then
    some (.error .goesRound)
  else
  (found_52).bind fun y54 => some (.ok y54)
/-- a tie and its arrow as a pair of points, from and to -/
def ar (t : Int × Int) (b : Bool) : Int × Int := if b = true then t else (t.2, t.1)
/-- the arrows of a setting -/
def arr (ts : List (Int × Int)) (o : List Bool) : List (Int × Int) := List.zipWith ar ts o
theorem arr_len (ts : List (Int × Int)) (o : List Bool) : (arr ts o).length ≤ ts.length := by
  unfold arr
  rw [List.length_zipWith]
  omega
theorem zipWith_mem {α β γ : Type} {f : α → β → γ} : ∀ {xs : List α} {ys : List β} {z : γ}, z ∈ List.zipWith f xs ys → ∃ x ∈ xs, ∃ y ∈ ys, z = f x y
  | [], _, _, h => by simp at h
  | _ :: _, [], _, h => by simp at h
  | x :: xs, y :: ys, z, h => by
    rw [List.zipWith_cons_cons] at h
    rcases List.mem_cons.mp h with h | h
    · exact ⟨x, by simp, y, by simp, h⟩
    · obtain ⟨a, ha, b, hb, e⟩ := zipWith_mem h
      exact ⟨a, by simp [ha], b, by simp [hb], e⟩
theorem arr_Arr {n : Nat} {ts : List (Int × Int)} (hT : ∀ t ∈ ts, Tie n t) (o : List Bool) : Arr n (arr ts o) := fun e he => by
  obtain ⟨t, ht, b, _, rfl⟩ := zipWith_mem he
  have := hT t ht
  unfold Tie at this
  unfold ar
  split
  · omega
  · dsimp only
    omega
theorem led_eq (ts : List (Int × Int)) (o : List Bool) (h : ts.length ≤ 1000) : led ts o = some (arr ts o) := by
  unfold led
  rw [Option.bind_some, Option.bind_some]
  have hz : (ts.zip o).length ≤ 1000 := by rw [List.length_zip]; omega
  rw [(loopG_fr (fun s (q : (Int × Int) × Bool) => s ++ [ar q.1 q.2]) (fun rem s => rem.length + s.length ≤ 1000) (by simpa using hz) ?_).1]
  · rw [Option.bind_some]
    congr 1
    have : ∀ (ts : List (Int × Int)) (o : List Bool) (s : List (Int × Int)), (ts.zip o).foldl (fun s (q : (Int × Int) × Bool) => s ++ [ar q.1 q.2]) s = s ++ arr ts o := by
      intro ts
      induction ts with
      | nil => intro o s; simp [arr]
      | cons t ts ih =>
        intro o s
        cases o with
        | nil => simp [arr]
        | cons b o =>
          rw [List.zip_cons_cons, List.foldl_cons, ih]
          simp [arr]
    exact this ts o []
  · rintro ⟨t, b⟩ rest s hI
    rw [List.length_cons] at hI
    unfold ar
    rw [Option.bind_some]
    cases b
    · rw [if_neg (by simp), addL_ok (by omega)]
      exact ⟨rfl, by simp; omega⟩
    · rw [if_pos rfl, addL_ok (by omega)]
      exact ⟨rfl, by simp; omega⟩
theorem later_eq {n : Nat} {E : List (Int × Int)} (hE : Arr n E) {f : List Int} (hf : f.length = n) :
    Ok (loopG (S := (List Int)) (fun (s31 : (List Int)) (q32 : Int × Int) =>
          (((atZ s31 q32.2).bind fun y36 => ((atZ f q32.1).bind fun y37 => some (y37 + 1)).bind fun y38 => some (if y36 < y38 then y38 else y36)).bind fun y39 => setZ s31 q32.2 y39).bind fun later_40 =>
          some later_40) (List.replicate n 0) E) fun l => l.length = n ∧ ∀ v : Int, 0 ≤ v → v < n → Mx E (gi f) v (gi l v) := by
  refine (loopG_pre (S := List Int) (fun pre s => s.length = n ∧ ∀ v : Int, 0 ≤ v → v < n → Mx pre (gi f) v (gi s v)) (pre := []) ⟨by simp, fun v _ _ => by rw [gi_rep]; exact ⟨Int.le_refl 0, by simp, .inl rfl⟩⟩ ?_).imp fun l h => h
  rintro pre e s ⟨h1, h2⟩ he
  obtain ⟨⟨a0, a1⟩, b0, b1⟩ := hE e he
  rw [atZ_gi b0 (by omega), Option.bind_some, atZ_gi a0 (by omega), Option.bind_some, Option.bind_some, Option.bind_some, setZ_ok b0 (by omega), Option.bind_some]
  refine .mk ⟨by rw [List.length_set]; exact h1, fun v v0 v1 => ?_⟩
  have := (h2 v v0 v1).snoc e
  rw [gi_set b0 (by omega) _ v0]
  by_cases c : v = e.2
  · subst c
    rw [if_pos rfl]
    rw [if_pos rfl] at this
    exact this
  · rw [if_neg c]
    rw [if_neg fun z => c z.symm] at this
    exact this
theorem Mx.min {n : Nat} {E : List (Int × Int)} (hE : Arr n E) {f g : Int → Int} {k v m : Int} (hk : 0 ≤ k) (hf : Fix n E f) (hg : ∀ u : Int, 0 ≤ u → u < n → g u = min (f u) k) (h0 : 0 ≤ v) (h1 : v < n) (h : Mx E g v m) : m = min (f v) (k + 1) := by
  have a := hf v h0 h1
  refine Mx.uniq h ⟨by have := a.nn; omega, fun e he hv => ?_, ?_⟩
  · obtain ⟨⟨a0, a1⟩, _⟩ := hE e he
    rw [hg e.1 a0 a1]
    have := a.le e he hv
    omega
  · rcases a.is with h | ⟨e, he, hv, h⟩
    · exact .inl (by omega)
    · obtain ⟨⟨a0, a1⟩, _⟩ := hE e he
      exact .inr ⟨e, he, hv, by rw [hg e.1 a0 a1]; omega⟩
theorem ranks_by_eq {p : Int} {ts : List (Int × Int)} (w : Web p ts) (o : List Bool) : ∃ r, ranks_by p ts o = some r ∧ Rk p.toNat (arr ts o) r := by
  obtain ⟨⟨h0, h1⟩, h2, h3⟩ := w
  have ep : ((p.toNat : Nat) : Int) = p := by omega
  have hE : Arr p.toNat (arr ts o) := arr_Arr (by rw [ep]; exact h3.tie) o
  have hl := arr_len ts o
  obtain ⟨r, _, hr, hb⟩ := longest_eq hE (by omega) (by omega)
  generalize hn : p.toNat = n at *
  subst ep
  unfold ranks_by
  rw [led_eq ts o (by omega), Option.bind_some, zeros_eq (by omega), Option.bind_some]
  have e1 : ((n : Int) + 1) = ((n + 1 : Nat) : Int) := by omega
  rw [e1, rng0 (by omega), Option.bind_some]
  have fixed : ∀ s l : List Int, s.length = n → l.length = n → (∀ v : Int, 0 ≤ v → v < n → Mx (arr ts o) (gi s) v (gi l v)) → l = s → Rk n (arr ts o) (some s) := fun s l hs hl hm e => by
    subst e
    exact ⟨hs, hm⟩
  show Ok _ _
  cases r with
  | none =>
    refine Ok.bind (P := StpP (fun s => s.length = n) (fun _ => False)) (loopR_ix (fun (_ : Nat) (s : List Int) => s.length = n) (fun _ => False) (by simp) fun i s hi hs => ?_) ?_
    · rw [Option.bind_some, Option.bind_some]
      refine Ok.bind (later_eq hE hs) fun l ⟨g1, g2⟩ => ?_
      rw [Option.bind_some]
      by_cases c : l = s
      · exact absurd ((fixed s l hs g1 g2 c).2.acy hE) hr
      · rw [if_neg (by simpa using c)]
        exact .mk g1
    · intro st hst
      cases st with
      | go s => exact .mk hr
      | ret r => exact absurd hst id
  | some l =>
    refine Ok.bind (P := StpP (fun s => n + 1 ≤ n ∧ s.length = n ∧ ∀ v : Int, 0 ≤ v → v < n → gi s v = min (gi l v) ((n + 1 : Nat) : Int)) (fun r => Rk n (arr ts o) r))
      (loopR_ix (fun k s => k ≤ n ∧ s.length = n ∧ ∀ v : Int, 0 ≤ v → v < n → gi s v = min (gi l v) ((k : Nat) : Int)) (fun r => Rk n (arr ts o) r) ⟨by omega, by simp, fun v v0 v1 => by
        rw [gi_rep]
        have := (hr.2 v v0 v1).nn
        omega⟩ fun i s hi hj => ?_) ?_
    · obtain ⟨j1, j2, j3⟩ := hj
      rw [Option.bind_some, Option.bind_some]
      refine Ok.bind (later_eq hE j2) fun m ⟨g1, g2⟩ => ?_
      have hm : ∀ v : Int, 0 ≤ v → v < n → gi m v = min (gi l v) ((i : Int) + 1) := fun v v0 v1 => Mx.min hE (k := (i : Int)) (by omega) hr.2 j3 v0 v1 (g2 v v0 v1)
      rw [Option.bind_some]
      by_cases c : m = s
      · rw [if_pos (by simpa using c), Option.bind_some]
        exact .mk (fixed s m j2 g1 g2 c)
      · rw [if_neg (by simpa using c), Option.bind_some]
        refine .mk ⟨?_, g1, fun v v0 v1 => by rw [hm v v0 v1]; omega⟩
        by_cases z : i = n
        · refine absurd (gi_ext (by rw [g1, j2]) fun v v0 v1 => ?_) c
          rw [g1] at v1
          rw [hm v v0 v1, j3 v v0 v1]
          have := hb l rfl v v0 v1
          omega
        · omega
    · intro st hst
      cases st with
      | go s =>
        have := hst.1
        omega
      | ret r => exact .mk hst
theorem asked_setting_eq (p : Int) (ts : List (Int × Int)) (o : List Bool) (h : ts.length ≤ 1000) : asked_setting p ts o = some (if Web p ts then (if o.length = ts.length then .ok () else .error .noSetting) else .error .noWeb) := by
  unfold asked_setting
  rw [asked_web_eq p ts h, Option.bind_some]
  by_cases w : Web p ts
  · by_cases c : o.length = ts.length
    · have : (o.length : Int) = ts.length := by omega
      simp [w, c]
    · have : ¬ (o.length : Int) = ts.length := by omega
      simp [w, c, this]
  · simp [w]
def rkE : Option (List Int) → Except Er (List Int)
  | none => .error .goesRound
  | some l => .ok l
/-- what is told of a setting -/
theorem arrows_eq {p : Int} {ts : List (Int × Int)} (w : Web p ts) (o : List Bool) (h : o.length = ts.length) :
    ∃ r, Rk p.toNat (arr ts o) r ∧ goes_round p ts o = some (.ok r.isNone) ∧ ranks p ts o = some (rkE r) := by
  obtain ⟨r, e, hr⟩ := ranks_by_eq w o
  have hl := w.2.1
  refine ⟨r, hr, ?_, ?_⟩
  · unfold goes_round
    rw [asked_setting_eq p ts o (by omega), if_pos w, if_pos h, e]
    rfl
  · unfold ranks
    rw [asked_setting_eq p ts o (by omega), if_pos w, if_pos h, e]
    cases r <;> rfl
theorem arrows_no {p : Int} {ts : List (Int × Int)} (w : Web p ts) (o : List Bool) (h : o.length ≠ ts.length) : goes_round p ts o = some (.error .noSetting) ∧ ranks p ts o = some (.error .noSetting) := by
  have hl := w.2.1
  constructor
  · unfold goes_round
    rw [asked_setting_eq p ts o (by omega), if_pos w, if_neg h]
    rfl
  · unfold ranks
    rw [asked_setting_eq p ts o (by omega), if_pos w, if_neg h]
    rfl
end Q

set_option linter.all false
/-! Dyeings: the least one, the fewest dyes. -/
namespace Q
open Dv
def unlike (ties : List (Int × Int)) (dyes : List Int) : Option Bool :=
  (some ties).bind fun xs1 => (loopR (S := Unit) (R := Bool) (fun (s2 : Unit) (q3 : Int × Int) =>
      ((atZ dyes q3.1).bind fun y7 => (atZ dyes q3.2).bind fun y8 => some (decide (y7 = y8))).bind fun b9 => if b9 = true then
        (some false).bind fun y10 => some (.ret y10)
      else
      some (.go ())) () xs1).bind fun st4 => st4.elim (fun s5 =>
  some true) (fun y6 => some y6)
def is_dyeing (points : Int) (ties : List (Int × Int)) (dyes : List Int) (many : Int) : Rs Bool :=
  (asked_web points ties).bind fun y11 => exB y11 fun _ =>
  (some (!decide ((dyes.length : Int) = points))).bind fun b14 => if b14 = true then
    (some false).bind fun y15 => some (.ok y15)
  else
  (some dyes).bind fun xs16 => (loopR (S := Unit) (R := Bool) (fun (s17 : Unit) (q18 : Int) =>
      ((if (decide (q18 < 0)) = true then some true else some (decide (many ≤ q18)))).bind fun b22 => if b22 = true then
        (some false).bind fun y23 => some (.ret y23)
      else
      some (.go ())) () xs16).bind fun st19 => st19.elim (fun s20 =>
  (unlike ties dyes).bind fun y24 => some (.ok y24)) (fun y21 => some (.ok y21))
def fewest (points : Int) (ties : List (Int × Int)) : Rs Int :=
  (row points ties).bind fun y25 => exB y25 fun numbers_26 =>
  (some 0).bind fun many_29 =>
  (whileG (S := Int) (fun (s30 : Int) => (worth numbers_26 s30).bind fun y34 => some (decide (y34 = 0))) (fun (s30 : Int) =>
      (some (s30 + 1)).bind fun many_35 =>
      some many_35) 20 many_29).bind fun s31 =>
  (some s31).bind fun y36 => some (.ok y36)
def extendedF : Nat → Int → (List (Int × Int)) → Int → (List Int) → Option (Option (List Int))
  | 0, _, _, _, _ => none
  | n_ + 1, points, ties, many, dyes =>
  (some (dyes.length : Int)).bind fun at__37 =>
  (some (decide (at__37 = points))).bind fun b38 => if b38 = true then
    some (some dyes)
  else
  (lc (fun (q39 : Int × Int) => some (decide (q39.2 = at__37))) (fun (q39 : Int × Int) => atZ dyes q39.1) ties).bind fun near_41 =>
  (rng 0 many).bind fun xs42 => (loopR (S := Unit) (R := Option (List Int)) (fun (s43 : Unit) (q44 : Int) =>
      (some (!memL q44 near_41)).bind fun b48 => if b48 = true then
        ((((((catL dyes [q44]).bind fun y49 => some (y49, ())).bind fun y50 => some (many, y50)).bind fun y51 => some (ties, y51)).bind fun y52 => some (points, y52)).bind fun a53 => extendedF n_ a53.1 a53.2.1 a53.2.2.1 a53.2.2.2.1).bind fun found_54 =>
        (some (!found_54.isNone)).bind fun b55 => if b55 = true then
          (some found_54).bind fun y56 => some (.ret y56)
        else
        some (.go ())
      else
        some (.go ())) () xs42).bind fun st45 => st45.elim (fun s46 =>
  some none) (fun y47 => some y47)
def extended (points : Int) (ties : List (Int × Int)) (many : Int) (dyes : List Int) : Option (Option (List Int)) := extendedF 10 points ties many dyes
def least (points : Int) (ties : List (Int × Int)) (many : Int) : Rs (Option (List Int)) :=
  (asked_web points ties).bind fun y57 => exB y57 fun _ =>
  (extended points ties many ([] : List Int)).bind fun y60 => some (.ok y60)
/-- all lists of n dyes below q, the lesser ones first -/
def LX : Nat → Nat → List (List Int)
  | 0, _ => [[]]
  | n + 1, q => (List.range q).flatMap fun c : Nat => (LX n q).map fun t => (c : Int) :: t
theorem mem_LX {q : Nat} : ∀ {n : Nat} {t : List Int}, t ∈ LX n q ↔ In n q t
  | 0, t => by
    unfold LX In
    rw [List.mem_singleton]
    constructor
    · rintro rfl
      simp
    · rintro ⟨h, _⟩
      exact List.length_eq_zero_iff.mp h
  | n + 1, t => by
    unfold LX
    rw [List.mem_flatMap]
    constructor
    · rintro ⟨c, hc, h⟩
      obtain ⟨u, hu, rfl⟩ := List.mem_map.mp h
      have hc := List.mem_range.mp hc
      have ih := mem_LX.mp hu
      refine ⟨by simp [ih.1], fun x hx => ?_⟩
      rcases List.mem_cons.mp hx with rfl | hx
      · omega
      · exact ih.2 x hx
    · intro h
      cases t with
      | nil => simp [In] at h
      | cons x u =>
        have hx := h.2 x List.mem_cons_self
        refine ⟨x.toNat, List.mem_range.mpr (by omega), List.mem_map.mpr ⟨u, mem_LX.mpr ⟨by simpa using h.1, fun y hy => h.2 y (List.mem_cons_of_mem _ hy)⟩, ?_⟩⟩
        congr 1
        omega
theorem range_mul (n : Nat) : ∀ m : Nat, List.range (m * n) = (List.range m).flatMap fun a => (List.range n).map fun b => a * n + b
  | 0 => by simp
  | m + 1 => by
    rw [Nat.succ_mul, List.range_add, range_mul n m, List.range_succ, List.flatMap_append]
    simp
theorem dig_top {q : Nat} (hq : 0 < q) : ∀ {n a b : Nat}, a < q → b < q ^ n → dig (n + 1) q (a * q ^ n + b) = dig n q b ++ [(a : Int)]
  | 0, a, b, ha, hb => by
    have : b = 0 := by simpa using hb
    subst this
    simp [dig, Nat.mod_eq_of_lt ha]
  | n + 1, a, b, ha, hb => by
    have e1 : (a * q ^ (n + 1) + b) % q = b % q := by rw [Nat.pow_succ, ← Nat.mul_assoc, Nat.mul_comm (a * q ^ n) q, Nat.mul_add_mod]
    have e2 : (a * q ^ (n + 1) + b) / q = a * q ^ n + b / q := by rw [Nat.pow_succ, ← Nat.mul_assoc, Nat.mul_comm (a * q ^ n) q, Nat.mul_add_div hq]
    have hb2 : b / q < q ^ n := Nat.div_lt_of_lt_mul (by rw [Nat.mul_comm, ← Nat.pow_succ]; exact hb)
    show (((a * q ^ (n + 1) + b) % q : Nat) : Int) :: dig (n + 1) q ((a * q ^ (n + 1) + b) / q) = ((b % q : Nat) : Int) :: (dig n q (b / q) ++ [(a : Int)])
    rw [e1, e2, dig_top hq ha hb2]
theorem LX_eq {q : Nat} (hq : 0 < q) : ∀ n : Nat, (List.range (q ^ n)).map (fun m => (dig n q m).reverse) = LX n q
  | 0 => by simp [LX, dig]
  | n + 1 => by
    rw [Nat.pow_succ, Nat.mul_comm, range_mul, List.map_flatMap]
    unfold LX
    rw [List.flatMap_def, List.flatMap_def]
    congr 1
    refine List.map_congr_left fun a ha => ?_
    have ha := List.mem_range.mp ha
    rw [← LX_eq hq n, List.map_map, List.map_map]
    refine List.map_congr_left fun b hb => ?_
    have hb := List.mem_range.mp hb
    simp only [Function.comp]
    rw [dig_top hq ha hb, List.reverse_append]
    rfl
/-- the first dyeing in order -/
def fst_ (n q : Nat) (ts : List (Int × Int)) : Option (List Int) := (LX n q).find? (fitsB ts)
theorem col_zero {n q : Nat} {ts : List (Int × Int)} : col n q ts = 0 ↔ fst_ n q ts = none := by
  unfold col fst_
  rw [List.find?_eq_none]
  constructor
  · intro h t ht hf
    have := S_le_one (q := q) (n := n) (w := fun l => if fitsB ts l = true then 1 else 0) (fun t _ => by split <;> omega) t (mem_LX.mp ht)
    rw [if_pos hf, h] at this
    omega
  · intro h
    rw [S_congr (w' := fun _ => 0) fun t ht => if_neg (h t (mem_LX.mpr ht)), S_zero]
theorem fst_some {n q : Nat} {ts : List (Int × Int)} {t : List Int} (h : fst_ n q ts = some t) : In n q t ∧ fitsB ts t = true :=
  ⟨mem_LX.mp (List.mem_of_find?_eq_some h), List.find?_some h⟩
theorem fst_of {n q : Nat} {ts : List (Int × Int)} {t : List Int} (h : In n q t) (hf : fitsB ts t = true) : fst_ n q ts ≠ none := by
  unfold fst_
  intro e
  exact List.find?_eq_none.mp e t (mem_LX.mpr h) hf
/-- as many dyes as points are enough -/
theorem fst_full {n : Nat} {ts : List (Int × Int)} (hT : ∀ t ∈ ts, Tie n t) : fst_ n n ts ≠ none := by
  refine fst_of (t := (List.range n).map fun i => ((i : Nat) : Int)) ⟨by simp, fun x hx => ?_⟩ ?_
  · obtain ⟨i, hi, rfl⟩ := List.mem_map.mp hx
    have := List.mem_range.mp hi
    omega
  · rw [fitsB_iff]
    intro e he
    have ht := hT e he
    unfold Tie at ht
    have g : ∀ x : Int, 0 ≤ x → x < n → gi ((List.range n).map fun i => ((i : Nat) : Int)) x = x := fun x h0 h1 => by
      unfold gi
      rw [List.getD_eq_getElem?_getD]
      have : x.toNat < n := by omega
      simp [this]
      omega
    rw [g _ (by omega) (by omega), g _ (by omega) (by omega)]
    omega
/-- a while that looks for the least number -/
theorem while_least {c : Int → Option Bool} {f : Int → Option Int} {P : Nat → Bool} {N : Nat} (hc : ∀ i : Nat, i ≤ N → c i = some (P i)) (hf : ∀ i : Nat, i ≤ N → f i = some ((i : Int) + 1)) (hN : P N = false) :
    ∀ {d k fuel : Nat}, k + d = N → d < fuel → (∀ j, j < k → P j = true) → ∃ m, m ≤ N ∧ P m = false ∧ (∀ j, j < m → P j = true) ∧ whileG c f fuel (k : Int) = some (m : Int)
  | d, k, 0, _, h, _ => by omega
  | d, k, fuel + 1, hk, hd, hj => by
    show ∃ m, m ≤ N ∧ P m = false ∧ (∀ j, j < m → P j = true) ∧ ((c k).bind fun b => if b then (f k).bind fun s' => whileG c f fuel s' else some (k : Int)) = some (m : Int)
    rw [hc k (by omega), Option.bind_some]
    cases hp : P k
    · exact ⟨k, by omega, hp, hj, rfl⟩
    · have hne : k ≠ N := fun e => by rw [e, hN] at hp; cases hp
      obtain ⟨d, rfl⟩ : ∃ z, d = z + 1 := ⟨d - 1, by omega⟩
      obtain ⟨m, h1, h2, h3, h4⟩ := while_least hc hf hN (d := d) (k := k + 1) (fuel := fuel) (by omega) (by omega) fun j hj2 => by
        by_cases e : j = k
        · rw [e, hp]
        · exact hj j (by omega)
      refine ⟨m, h1, h2, h3, ?_⟩
      rw [if_pos rfl, hf k (by omega), Option.bind_some]
      exact h4
/-- k is the fewest number of dyes -/
structure Few (n : Nat) (ts : List (Int × Int)) (k : Nat) : Prop where
  le : k ≤ n
  some : fst_ n k ts ≠ none
  none : ∀ j, j < k → fst_ n j ts = none
theorem Few.eq {n : Nat} {ts : List (Int × Int)} {j k : Nat} (a : Few n ts j) (b : Few n ts k) : j = k := by
  by_cases h1 : j < k
  · exact absurd (b.none j h1) a.some
  · by_cases h2 : k < j
    · exact absurd (a.none k h2) b.some
    · omega
theorem while_few {c : Int → Option Bool} {f : Int → Option Int} {n : Nat} {ts : List (Int × Int)} (hT : ∀ t ∈ ts, Tie n t) (hc : ∀ i : Nat, i ≤ n → c i = some (decide (fst_ n i ts = none))) (hf : ∀ i : Nat, i ≤ n → f i = some ((i : Int) + 1)) {fuel : Nat} (hfu : n < fuel) :
    ∃ k, Few n ts k ∧ whileG c f fuel 0 = some (k : Int) := by
  obtain ⟨m, h1, h2, h3, h4⟩ := while_least (P := fun i => decide (fst_ n i ts = none)) (N := n) hc hf (by simpa using fst_full hT) (d := n) (k := 0) (fuel := fuel) (by omega) hfu (fun j hj => by omega)
  exact ⟨m, ⟨h1, by simpa using h2, fun j hj => by simpa using h3 j hj⟩, h4⟩
theorem fewest_eq {p : Int} {ts : List (Int × Int)} (w : Web p ts) : ∃ k : Nat, Few p.toNat ts k ∧ fewest p ts = some (.ok (k : Int)) := by
  have w' := w
  obtain ⟨⟨h0, h1⟩, h2, h3⟩ := w'
  have ep : ((p.toNat : Nat) : Int) = p := by omega
  unfold fewest
  rw [row_eq w, Option.bind_some, exB_ok, Option.bind_some]
  obtain ⟨k, hk, e⟩ := while_few (n := p.toNat) (ts := ts) (c := fun s30 => (worth (Rw p ts) s30).bind fun y34 => some (decide (y34 = 0))) (f := fun s30 => (some (s30 + 1)).bind fun many_35 => some many_35) (fuel := 20)
    (by rw [ep]; exact h3.tie) (fun i hi => by
      rw [worth_eq _ (by omega) (by omega), Option.bind_some, ev_Rw w]
      congr 1
      rw [Bool.eq_iff_iff, decide_eq_true_iff, decide_eq_true_iff, col_zero]) (fun i _ => rfl) (by omega)
  exact ⟨k, hk, by rw [e]; rfl⟩
/-- the dyes near the point at -/
def near (ts : List (Int × Int)) (dyes : List Int) : List Int := (ts.filter fun e => decide (e.2 = (dyes.length : Int))).map fun e => gi dyes e.1
/-- the least dyeing that begins with some dyes, k points left -/
def EX (q : Nat) (ts : List (Int × Int)) : Nat → List Int → Option (List Int)
  | 0, dyes => some dyes
  | k + 1, dyes => (List.range q).findSome? fun c : Nat => if (c : Int) ∈ near ts dyes then none else EX q ts k (dyes ++ [(c : Int)])
theorem findSome_congr {f g : α → Option β} : ∀ {xs : List α}, (∀ x ∈ xs, f x = g x) → xs.findSome? f = xs.findSome? g
  | [], _ => rfl
  | x :: xs, h => by
    rw [List.findSome?_cons, List.findSome?_cons, h x List.mem_cons_self, findSome_congr fun y hy => h y (List.mem_cons_of_mem _ hy)]
/-- no tie among the points dyed has one dye at both ends -/
def Part (ts : List (Int × Int)) (dyes : List Int) : Prop := ∀ e ∈ ts, e.2 < dyes.length → gi dyes e.1 ≠ gi dyes e.2
theorem near_mem {ts : List (Int × Int)} {dyes : List Int} {c : Int} : c ∈ near ts dyes ↔ ∃ e ∈ ts, e.2 = dyes.length ∧ gi dyes e.1 = c := by
  unfold near
  rw [List.mem_map]
  constructor
  · rintro ⟨e, he, h⟩
    rw [List.mem_filter, decide_eq_true_iff] at he
    exact ⟨e, he.1, he.2, h⟩
  · rintro ⟨e, h1, h2, h3⟩
    exact ⟨e, List.mem_filter.mpr ⟨h1, by simpa using h2⟩, h3⟩
theorem gi_app {a b : List Int} {x : Int} (h0 : 0 ≤ x) (h1 : x < a.length) : gi (a ++ b) x = gi a x := by
  unfold gi
  rw [List.getD_eq_getElem?_getD, List.getD_eq_getElem?_getD, List.getElem?_append_left (by omega)]
theorem gi_mid {a b : List Int} {c x : Int} (h : x = a.length) : gi (a ++ c :: b) x = c := by
  unfold gi
  subst h
  rw [List.getD_eq_getElem?_getD, List.getElem?_append_right (by omega)]
  simp
theorem part_snoc {n : Int} {ts : List (Int × Int)} (hT : ∀ t ∈ ts, Tie n t) {dyes : List Int} {c : Int} (hp : Part ts dyes) (hc : c ∉ near ts dyes) : Part ts (dyes ++ [c]) := by
  intro e he hl
  have ht := hT e he
  unfold Tie at ht
  rw [List.length_append, List.length_singleton] at hl
  by_cases z : e.2 = dyes.length
  · rw [gi_mid z, gi_app (by omega) (by omega)]
    exact fun q => hc (near_mem.mpr ⟨e, he, z, q⟩)
  · rw [gi_app (by omega) (by omega), gi_app (by omega) (by omega)]
    exact hp e he (by omega)
theorem EX_eq {q n : Nat} {ts : List (Int × Int)} (hT : ∀ t ∈ ts, Tie n t) : ∀ {k : Nat} {dyes : List Int}, dyes.length + k = n → Part ts dyes → EX q ts k dyes = ((LX k q).map fun t => dyes ++ t).find? (fitsB ts)
  | 0, dyes, hl, hp => by
    have hf : fitsB ts dyes = true := (fitsB_iff ts dyes).mpr fun e he => hp e he (by
      have := hT e he
      unfold Tie at this
      omega)
    simp [EX, LX, hf]
  | k + 1, dyes, hl, hp => by
    unfold EX LX
    rw [List.map_flatMap, List.find?_flatMap]
    refine findSome_congr fun c _ => ?_
    rw [List.map_map]
    by_cases hc : (c : Int) ∈ near ts dyes
    · rw [if_pos hc]
      symm
      rw [List.find?_eq_none]
      intro t ht hf
      obtain ⟨u, hu, rfl⟩ := List.mem_map.mp ht
      obtain ⟨e, he, h1, h2⟩ := near_mem.mp hc
      have hT' := hT e he
      unfold Tie at hT'
      have := (fitsB_iff _ _).mp hf e he
      simp only [Function.comp] at this
      rw [gi_mid h1, gi_app (by omega) (by omega)] at this
      exact this h2
    · rw [if_neg hc, EX_eq hT (by simp; omega) (part_snoc hT hp hc)]
      congr 1
      refine List.map_congr_left fun t _ => ?_
      simp
theorem EX_nil {q n : Nat} {ts : List (Int × Int)} (hT : ∀ t ∈ ts, Tie n t) : EX q ts n [] = fst_ n q ts := by
  rw [EX_eq hT (by simp) fun e he hl => by
    have := hT e he
    unfold Tie at this
    simp at hl
    omega]
  unfold fst_
  simp
/-- a loop that hands back what it finds first -/
theorem loopR_find {ρ : Type} {f : Unit → α → Option (Stp Unit ρ)} (g : α → Option ρ) : ∀ {xs : List α}, (∀ x ∈ xs, f () x = some (match g x with | some r => .ret r | none => .go ())) →
    loopR f () xs = some (match xs.findSome? g with | some r => .ret r | none => .go ())
  | [], _ => rfl
  | x :: xs, h => by
    have h1 := h x List.mem_cons_self
    have h2 := loopR_find g fun y hy => h y (List.mem_cons_of_mem _ hy)
    show (f () x).bind _ = _
    rw [h1, List.findSome?_cons]
    cases hb : g x
    · simp [h2]
    · simp
theorem findSome_map {ρ : Type} {f : β → Option ρ} (g : α → β) : ∀ {xs : List α}, (xs.map g).findSome? f = xs.findSome? fun x => f (g x)
  | [] => rfl
  | x :: xs => by
    rw [List.map_cons, List.findSome?_cons, List.findSome?_cons, findSome_map g]
theorem near_eq {n : Int} {ts : List (Int × Int)} (hT : ∀ t ∈ ts, Tie n t) {dyes : List Int} (hl : ts.length ≤ 1000) : lc (fun (q39 : Int × Int) => some (decide (q39.2 = (dyes.length : Int)))) (fun (q39 : Int × Int) => atZ dyes q39.1) ts = some (near ts dyes) := by
  rw [lc_all (fun e : Int × Int => decide (e.2 = (dyes.length : Int))) (fun e => gi dyes e.1) (by omega) (fun _ _ => rfl)]
  · rfl
  · intro e he h
    have ht := hT e he
    unfold Tie at ht
    have h := of_decide_eq_true h
    exact atZ_gi (by omega) (by omega)
theorem extendedF_eq {q n : Nat} {ts : List (Int × Int)} (hT : ∀ t ∈ ts, Tie n t) (hq : q ≤ 100) (hn : n ≤ 100) (hlt : ts.length ≤ 1000) : ∀ {k d : Nat} {dyes : List Int}, dyes.length + k = n → k < d → extendedF d n ts q dyes = some (EX q ts k dyes)
  | k, 0, _, _, h => by omega
  | 0, d + 1, dyes, hl, _ => by
    unfold extendedF EX
    rw [Option.bind_some, Option.bind_some, if_pos (by simp; omega)]
  | k + 1, d + 1, dyes, hl, hd => by
    unfold extendedF EX
    rw [Option.bind_some, Option.bind_some, if_neg (by simp; omega), near_eq hT hlt, Option.bind_some, rng0 (by omega), Option.bind_some,
      loopR_find (fun c : Int => if c ∈ near ts dyes then none else (EX q ts k (dyes ++ [c])).map some)]
    · rw [Option.bind_some, findSome_map]
      have : ∀ xs : List Nat, xs.findSome? (fun x : Nat => if (x : Int) ∈ near ts dyes then none else (EX q ts k (dyes ++ [(x : Int)])).map some) = (xs.findSome? fun c : Nat => if (c : Int) ∈ near ts dyes then none else EX q ts k (dyes ++ [(c : Int)])).map some := by
        intro xs
        induction xs with
        | nil => rfl
        | cons x xs ih =>
          rw [List.findSome?_cons, List.findSome?_cons, ih]
          by_cases hc : (x : Int) ∈ near ts dyes
          · simp [hc]
          · rw [if_neg hc, if_neg hc]
            cases EX q ts k (dyes ++ [(x : Int)]) <;> rfl
      rw [this]
      cases (List.range q).findSome? fun c : Nat => if (c : Int) ∈ near ts dyes then none else EX q ts k (dyes ++ [(c : Int)]) <;> rfl
    · intro c hc
      unfold memL
      rw [Option.bind_some]
      by_cases h : c ∈ near ts dyes
      · simp [h]
      · rw [if_neg h, if_pos (by simp [h]), catL_ok (by simp; omega)]
        simp only [Option.bind_some]
        rw [extendedF_eq hT hq hn hlt (k := k) (by simp; omega) (by omega), Option.bind_some]
        cases EX q ts k (dyes ++ [c]) <;> rfl
theorem least_eq {p : Int} {ts : List (Int × Int)} (w : Web p ts) {q : Nat} (hq : q ≤ 100) : least p ts q = some (.ok (fst_ p.toNat q ts)) := by
  have w' := w
  obtain ⟨⟨h0, h1⟩, h2, h3⟩ := w'
  have ep : ((p.toNat : Nat) : Int) = p := by omega
  have hT : ∀ t ∈ ts, Tie (p.toNat : Int) t := by rw [ep]; exact h3.tie
  unfold least extended
  rw [asked_web_ok w, Option.bind_some, exB_ok]
  have := extendedF_eq (q := q) (n := p.toNat) (ts := ts) hT hq (by omega) (by omega) (k := p.toNat) (d := 10) (dyes := []) (by simp) (by omega)
  rw [ep] at this
  rw [this, Option.bind_some, EX_nil hT]
end Q

set_option linter.all false
/-! Settings of dyes. -/
namespace Q
open Dv
def setting_of (points : Int) (ties : List (Int × Int)) (dyes : List Int) : Rs (List Bool) :=
  (asked_web points ties).bind fun y1 => exB y1 fun _ =>
  ((unlike ties dyes).bind fun y4 => some (!y4)).bind fun b5 => if b5 = true then
    some (.error .noDyeing)
  else
  (lc (fun (q6 : Int × Int) => some true) (fun (q6 : Int × Int) => (atZ dyes q6.1).bind fun y7 => (atZ dyes q6.2).bind fun y8 => some (decide (y7 < y8))) ties).bind fun y10 => some (.ok y10)
/-- the arrows from the lesser dye to the greater one -/
def stg (ts : List (Int × Int)) (d : List Int) : List Bool := ts.map fun t => decide (gi d t.1 < gi d t.2)
theorem stg_eq {n : Int} {ts : List (Int × Int)} (hT : ∀ t ∈ ts, Tie n t) {d : List Int} (hd : n ≤ d.length) (hl : ts.length ≤ 1000) :
    lc (fun (q6 : Int × Int) => some true) (fun (q6 : Int × Int) => (atZ d q6.1).bind fun y7 => (atZ d q6.2).bind fun y8 => some (decide (y7 < y8))) ts = some (stg ts d) := by
  rw [lc_map (fun t : Int × Int => decide (gi d t.1 < gi d t.2)) (by omega)]
  · rfl
  · intro t ht
    have := hT t ht
    unfold Tie at this
    rw [atZ_gi (by omega) (by omega), Option.bind_some, atZ_gi (by omega) (by omega), Option.bind_some]
theorem unlike_eq' {n : Int} {ts : List (Int × Int)} {l : List Int} (hT : ∀ t ∈ ts, Tie n t) (hl : n ≤ (l.length : Int)) : unlike ts l = some (fitsB ts l) := fits_eq hT hl
theorem setting_of_eq {p : Int} {ts : List (Int × Int)} (w : Web p ts) {d : List Int} (hd : p ≤ d.length) : setting_of p ts d = some (if fitsB ts d = true then .ok (stg ts d) else .error .noDyeing) := by
  have h2 := w.2.1
  unfold setting_of
  rw [asked_web_ok w, Option.bind_some, exB_ok, unlike_eq' w.2.2.tie hd, Option.bind_some, Option.bind_some, stg_eq w.2.2.tie hd (by omega)]
  by_cases c : fitsB ts d = true <;> simp [c]
theorem arr_stg {ts : List (Int × Int)} {d : List Int} (hf : fitsB ts d = true) : ∀ e ∈ arr ts (stg ts d), gi d e.1 < gi d e.2 := by
  intro e he
  have : ∀ us : List (Int × Int), (∀ t ∈ us, t ∈ ts) → e ∈ List.zipWith ar us (us.map fun t => decide (gi d t.1 < gi d t.2)) → gi d e.1 < gi d e.2 := by
    intro us
    induction us with
    | nil => intro _ h; simp at h
    | cons t us ih =>
      intro hs h
      rw [List.map_cons, List.zipWith_cons_cons] at h
      rcases List.mem_cons.mp h with h | h
      · have hne := (fitsB_iff ts d).mp hf t (hs t (by simp))
        unfold ar at h
        by_cases c : gi d t.1 < gi d t.2
        · rw [if_pos (by simpa using c)] at h
          rw [h]
          exact c
        · rw [if_neg (by simpa using c)] at h
          rw [h]
          dsimp only
          omega
      · exact ih (fun t ht => hs t (by simp [ht])) h
  exact this ts (fun _ h => h) he
theorem stg_acy {ts : List (Int × Int)} {d : List Int} (hf : fitsB ts d = true) : Acy (arr ts (stg ts d)) := ⟨gi d, arr_stg hf⟩
/-- ranks are nowhere above what rises along the arrows -/
theorem Fix.below {n : Nat} {E : List (Int × Int)} (hE : Arr n E) {f h : Int → Int} (a : Fix n E f) (h0 : ∀ v : Int, 0 ≤ v → v < n → 0 ≤ h v) (hh : ∀ e ∈ E, h e.1 < h e.2) : ∀ (k : Nat) (v : Int), 0 ≤ v → v < n → f v < k → f v ≤ h v
  | 0, v, v0, v1, hk => by
    have := (a v v0 v1).nn
    omega
  | k + 1, v, v0, v1, hk => by
    rcases (a v v0 v1).is with q | ⟨e, he, hev, q⟩
    · have := h0 v v0 v1
      omega
    · obtain ⟨⟨a0, a1⟩, _⟩ := hE e he
      have := Fix.below hE a h0 hh k e.1 a0 a1 (by omega)
      have := hh e he
      rw [hev] at this
      omega
theorem Fix.le {n : Nat} {E : List (Int × Int)} (hE : Arr n E) {f h : Int → Int} (a : Fix n E f) (h0 : ∀ v : Int, 0 ≤ v → v < n → 0 ≤ h v) (hh : ∀ e ∈ E, h e.1 < h e.2) {v : Int} (v0 : 0 ≤ v) (v1 : v < n) : f v ≤ h v :=
  Fix.below hE a h0 hh ((f v).toNat + 1) v v0 v1 (by omega)
theorem zipWith_at {ts : List (Int × Int)} : ∀ {o : List Bool}, o.length = ts.length → ∀ t ∈ ts, ∃ b, ar t b ∈ arr ts o := by
  induction ts with
  | nil => intro o _ t h; simp at h
  | cons x ts ih =>
    intro o hl t ht
    cases o with
    | nil => simp at hl
    | cons b o =>
      unfold arr
      rw [List.zipWith_cons_cons]
      rcases List.mem_cons.mp ht with rfl | ht
      · exact ⟨b, by simp⟩
      · obtain ⟨b', hb⟩ := ih (by simpa using hl) t ht
        exact ⟨b', List.mem_cons_of_mem _ hb⟩
/-- ranks are a dyeing -/
theorem Fix.fits {n : Nat} {ts : List (Int × Int)} (hT : ∀ t ∈ ts, Tie n t) {o : List Bool} (hl : o.length = ts.length) {l : List Int} (a : Fix n (arr ts o) (gi l)) : fitsB ts l = true := by
  rw [fitsB_iff]
  intro t ht
  obtain ⟨b, hb⟩ := zipWith_at hl t ht
  obtain ⟨_, b0, b1⟩ := arr_Arr hT o _ hb
  have := (a _ b0 b1).le _ hb rfl
  unfold ar at this
  split at this
  · omega
  · dsimp only at this
    omega
theorem stg_len (ts : List (Int × Int)) (d : List Int) : (stg ts d).length = ts.length := by simp [stg]
end Q

set_option linter.all false
/-! Settings, as the laws draw them. -/
namespace Q
open Dv
def ways_by (many : Int) (number : Int) : Option (List Bool) :=
  (some ([] : List Bool)).bind fun ways_1 =>
  (rng 0 many).bind fun xs2 => (loopG (S := Int × (List Bool)) (fun (s3 : Int × (List Bool)) (q4 : Int) =>
      (((modZ s3.1 2).bind fun y8 => some (decide (y8 = 1))).bind fun y9 => addL s3.2 y9).bind fun ways_10 =>
      (divZ s3.1 2).bind fun number_11 =>
      some (number_11, ways_10)) (number, ways_1) xs2).bind fun s6 =>
  some s6.2
def from_to (ties : List (Int × Int)) (ways : List Bool) : Option (List (Int × Int)) :=
  (some ([] : List (Int × Int))).bind fun found_12 =>
  (rng 0 (ties.length : Int)).bind fun xs13 => (loopG (S := (List (Int × Int))) (fun (s14 : (List (Int × Int))) (q15 : Int) =>
      (atZ ways q15).bind fun b19 => if b19 = true then
        ((atZ ties q15).bind fun y20 => addL s14 y20).bind fun found_21 =>
        some found_21
      else
        ((((atZ ties q15).bind fun y22 => some y22.2).bind fun y24 => ((atZ ties q15).bind fun y23 => some y23.1).bind fun y25 => some (y24, y25)).bind fun y26 => addL s14 y26).bind fun found_27 =>
        some found_27) found_12 xs13).bind fun s17 =>
  some s17
/-- the ways that a number writes -/
def wy : Nat → Int → List Bool
  | 0, _ => []
  | n + 1, m => decide (m % 2 = 1) :: wy n (m / 2)
theorem wy_len : ∀ (n : Nat) (m : Int), (wy n m).length = n
  | 0, _ => rfl
  | n + 1, m => by rw [wy, List.length_cons, wy_len]
theorem ways_eq {n : Nat} (hn : n ≤ 1000) (m : Int) : ways_by n m = some (wy n m) := by
  unfold ways_by
  rw [Option.bind_some, rng0 (by omega), Option.bind_some]
  have key : ∀ (xs : List Int) (m : Int) (s : List Bool), s.length + xs.length ≤ 1000 → ∃ m', loopG (S := Int × (List Bool)) (fun (s57 : Int × (List Bool)) (q58 : Int) =>
      (((modZ s57.1 2).bind fun y62 => some (decide (y62 = 1))).bind fun y63 => addL s57.2 y63).bind fun ways_64 =>
      (divZ s57.1 2).bind fun number_65 =>
      some (number_65, ways_64)) (m, s) xs = some (m', s ++ wy xs.length m) := by
    intro xs
    induction xs with
    | nil => intro m s _; exact ⟨m, by simp [loopG, wy]⟩
    | cons x xs ih =>
      intro m s hs
      rw [List.length_cons] at hs
      obtain ⟨m', e⟩ := ih (m / 2) (s ++ [decide (m % 2 = 1)]) (by simp; omega)
      refine ⟨m', ?_⟩
      show ((((modZ m 2).bind fun y62 => some (decide (y62 = 1))).bind fun y63 => addL s y63).bind fun ways_64 => (divZ m 2).bind fun number_65 => some (number_65, ways_64)).bind _ = _
      rw [modZ_pos (by decide), Option.bind_some, Option.bind_some, addL_ok (by omega), Option.bind_some, divZ_pos (by decide) (by decide), Option.bind_some, Option.bind_some, e]
      simp [wy]
  obtain ⟨m', e⟩ := key ((List.range n).map fun i => ((i : Nat) : Int)) m [] (by simp; omega)
  rw [e, Option.bind_some]
  simp
theorem from_to_eq (ts : List (Int × Int)) (o : List Bool) (h : ts.length ≤ 1000) (hl : o.length = ts.length) : from_to ts o = some (arr ts o) := by
  unfold from_to
  rw [Option.bind_some, rng0 (by omega), Option.bind_some]
  have at_ts : ∀ i, (hi : i < ts.length) → atZ ts (i : Int) = some ts[i] := fun i hi => by rw [atZ_nat]; simp [hi]
  have at_o : ∀ i, (hi : i < o.length) → atZ o (i : Int) = some o[i] := fun i hi => by rw [atZ_nat]; simp [hi]
  obtain ⟨s, e, hs⟩ := loopG_ix (S := List (Int × Int)) (f := (fun (s68 : (List (Int × Int))) (q69 : Int) =>
      (atZ o q69).bind fun b73 => if b73 = true then
        ((atZ ts q69).bind fun y74 => addL s68 y74).bind fun found_75 =>
        some found_75
      else
        ((((atZ ts q69).bind fun y76 => some y76.2).bind fun y78 => ((atZ ts q69).bind fun y77 => some y77.1).bind fun y79 => some (y78, y79)).bind fun y80 => addL s68 y80).bind fun found_81 =>
        some found_81)) (fun i s => s = arr (ts.take i) (o.take i)) (s := []) (N := ts.length) (by simp [arr]) fun i s hi hs => by
    have hsl : s.length ≤ 1000 := by
      rw [hs]
      have := arr_len (ts.take i) (o.take i)
      rw [List.length_take] at this
      omega
    rw [at_o i (by omega), Option.bind_some, at_ts i hi]
    have app : arr (ts.take (i + 1)) (o.take (i + 1)) = s ++ [ar ts[i] (o[i]'(by omega))] := by
      rw [hs, ← List.take_append_getElem hi, ← List.take_append_getElem (show i < o.length by omega)]
      unfold arr
      rw [List.zipWith_append (by simp; omega)]
      rfl
    unfold ar at app
    by_cases c : o[i]'(by omega) = true
    · rw [if_pos c]
      rw [if_pos c] at app
      rw [Option.bind_some, addL_ok (by omega)]
      exact .mk app.symm
    · rw [if_neg c]
      rw [if_neg c] at app
      simp only [Option.bind_some]
      rw [addL_ok (by omega)]
      exact .mk app.symm
  rw [e, Option.bind_some, hs, List.take_length, ← hl, List.take_length]
end Q

set_option linter.all false
namespace Q
open Dv
def flattest (points : Int) (ties : List (Int × Int)) : Rs (List Bool) :=
  ((((((((((fewest points ties).bind fun y23 => exB y23 fun x24 => (some (.ok (x24, ())) : Rs _)).bind fun z27 => exB z27 fun w28 => (some (.ok (ties, w28)) : Rs _)).bind fun z29 => exB z29 fun w30 => (some (.ok (points, w30)) : Rs _)).bind fun y21 => exB y21 fun x22 => least x22.1 x22.2.1 x22.2.2.1).bind fun y14 => exB y14 fun x15 => x15.bind fun z20 => (some (.ok z20) : Rs _)).bind fun y12 => exB y12 fun x13 => (some (.ok (x13, ())) : Rs _)).bind fun z31 => exB z31 fun w32 => (some (.ok (ties, w32)) : Rs _)).bind fun z33 => exB z33 fun w34 => (some (.ok (points, w34)) : Rs _)).bind fun y1 => exB y1 fun x2 => setting_of x2.1 x2.2.1 x2.2.2.1)
def first_ (points : Int) (ties : List (Int × Int)) : Option (List Int) :=
  (some (decide (points = 0))).bind fun b35 => if b35 = true then
    some ([] : List Int)
  else
  (some 1).bind fun many_36 =>
  (whileR (S := Int) (R := List Int) (fun (s37 : Int) => some true) (fun (s37 : Int) =>
      ((many_tints points s37).bind fun y41 => rng 0 y41).bind fun xs42 => (loopR (S := Unit) (R := List Int) (fun (s43 : Unit) (q44 : Int) =>
          ((tints_by points q44 s37).bind fun y48 => some y48.reverse).bind fun tints_49 =>
          (fits ties tints_49).bind fun b50 => if b50 = true then
            (some tints_49).bind fun y51 => some (.ret y51)
          else
          some (.go ())) () xs42).bind fun st45 => st45.elim (fun s46 =>
      (some (s37 + 1)).bind fun many_52 =>
      some (.go many_52)) (fun y47 => some (.ret y47))) 20 many_36).bind fun st39 => st39.elim (fun s38 =>
  none) (fun y40 => some y40)
def law (script : List Int) : Option Bool :=
  (web_by script 0 5 6).bind fun p53 =>
  (some p53.2).bind fun handed_54 =>
  (noX (flattest p53.1 handed_54)).bind fun found_55 =>
  ((if (!true) = true then some true else (if (!decide ((found_55.length : Int) = (p53.2.length : Int))) = true then some true else some (!decide (handed_54 = p53.2))))).bind fun b56 => if b56 = true then
    some false
  else
  (first_ p53.1 p53.2).bind fun tints_57 =>
  (some (found_55.zip p53.2)).bind fun xs58 => (loopR (S := Unit) (R := Bool) (fun (s59 : Unit) (q60 : Bool × (Int × Int)) =>
      ((if (!true) = true then some true else ((atZ tints_57 q60.2.1).bind fun y64 => (atZ tints_57 q60.2.2).bind fun y65 => some (decide (y64 < y65))).bind fun y66 => some (!(q60.1 == y66)))).bind fun b67 => if b67 = true then
        (some false).bind fun y68 => some (.ret y68)
      else
      some (.go ())) () xs58).bind fun st61 => st61.elim (fun s62 =>
  ((((from_to p53.2 found_55).bind fun y69 => some (y69, ())).bind fun y70 => some (p53.1, y70)).bind fun a71 => longest a71.1 a71.2.1).bind fun height_72 =>
  (some height_72.isNone).bind fun b73 => if b73 = true then
    some false
  else
  (some 1).bind fun number_74 =>
  (some p53.2).bind fun xs75 => (loopG (S := Int) (fun (s76 : Int) (q77 : Int × Int) =>
      (mulZ s76 2).bind fun number_81 =>
      some number_81) number_74 xs75).bind fun s79 =>
  (rng 0 s79).bind fun xs82 => (loopR (S := Unit) (R := Bool) (fun (s83 : Unit) (q84 : Int) =>
      (((((((ways_by (p53.2.length : Int) q84).bind fun y88 => some (y88, ())).bind fun y89 => some (p53.2, y89)).bind fun a90 => from_to a90.1 a90.2.1).bind fun y91 => some (y91, ())).bind fun y92 => some (p53.1, y92)).bind fun a93 => longest a93.1 a93.2.1).bind fun other_94 =>
      ((if (!other_94.isNone) = true then ((other_94).bind fun y96 => some (mxD y96 0)).bind fun y98 => ((height_72).bind fun y97 => some (mxD y97 0)).bind fun y99 => some (decide (y98 < y99)) else some false)).bind fun b100 => if b100 = true then
        (some false).bind fun y101 => some (.ret y101)
      else
      some (.go ())) () xs82).bind fun st85 => st85.elim (fun s86 =>
  (noX (fewest p53.1 handed_54)).bind fun few_102 =>
  (whole few_102).bind fun y108 => (if y108 = true then ((if (decide (p53.1 = 0)) = true then some (decide (few_102 = 0)) else some false)).bind fun y107 => (if y107 = true then some true else (if (decide (0 < p53.1)) = true then (((height_72).bind fun y104 => some (mxD y104 0)).bind fun y105 => some (y105 + 1)).bind fun y106 => some (decide (few_102 = y106)) else some false)) else some false)) (fun y87 => some y87)) (fun y63 => some y63)
theorem find_map {α β : Type} {f : α → β} {p : β → Bool} : ∀ {xs : List α}, (xs.map f).find? p = xs.findSome? fun x => if p (f x) = true then some (f x) else none
  | [] => rfl
  | x :: xs => by
    rw [List.map_cons, List.find?_cons, List.findSome?_cons, find_map]
    by_cases c : p (f x) = true <;> simp [c]
theorem fst_zero {n : Nat} (h : 0 < n) (ts : List (Int × Int)) : fst_ n 0 ts = none := by
  obtain ⟨n, rfl⟩ : ∃ k, n = k + 1 := ⟨n - 1, by omega⟩
  rfl
theorem turn_eq {n q : Nat} {ts : List (Int × Int)} (hT : ∀ t ∈ ts, Tie n t) (hn : n ≤ 10) (hq : q ≤ 10) (q0 : 0 < q) :
    (((many_tints n q).bind fun y40 => rng 0 y40).bind fun xs41 => (loopR (S := Unit) (R := List Int) (fun (s42 : Unit) (q43 : Int) =>
          ((tints_by n q43 q).bind fun y47 => some y47.reverse).bind fun tints_48 =>
          (fits ts tints_48).bind fun b49 => if b49 = true then
            (some tints_48).bind fun y50 => some (.ret y50)
          else
          some (.go ())) () xs41)) = some (match fst_ n q ts with | some t => .ret t | none => .go ()) := by
  rw [many_eq (by omega) (by omega), Option.bind_some]
  have hb : q ^ n ≤ 10 ^ 10 := Nat.le_trans (Nat.pow_le_pow_left hq n) (Nat.pow_le_pow_right (by decide) hn)
  have hr : rng 0 ((q ^ n : Nat) : Int) = some ((List.range (q ^ n)).map fun i => ((i : Nat) : Int)) := by
    have h10 : (10 : Nat) ^ 10 = 10000000000 := by decide
    generalize q ^ n = N at *
    unfold rng
    rw [if_pos (by omega)]
    have e : ((N : Int) - 0).toNat = N := by omega
    rw [e]
    congr 1
    exact List.map_congr_left fun i _ => by omega
  rw [hr, Option.bind_some, loopR_find (fun c : Int => if fitsB ts (dig n q c.toNat).reverse = true then some (dig n q c.toNat).reverse else none)]
  · unfold fst_
    rw [findSome_map, ← LX_eq q0, find_map]
    simp only [Int.toNat_natCast]
    generalize List.findSome? (fun x => if fitsB ts (dig n q x).reverse = true then some (dig n q x).reverse else none) (List.range (q ^ n)) = z
    cases z <;> rfl
  · intro c hc
    obtain ⟨i, hi, rfl⟩ := List.mem_map.mp hc
    have hd := dig_in (q := q) q0 n i
    rw [tints_eq (by omega) (by omega) (by omega), Option.bind_some, Option.bind_some, fits_eq hT (by rw [List.length_reverse, hd.1]; omega), Option.bind_some]
    simp only [Int.toNat_natCast]
    by_cases c : fitsB ts (dig n q i).reverse = true <;> simp [c]
theorem first_eq {n k : Nat} {ts : List (Int × Int)} {t : List Int} (hT : ∀ t ∈ ts, Tie n t) (hn : n ≤ 10) (hk : Few n ts k) (ht : fst_ n k ts = some t) : first_ n ts = some t := by
  unfold first_
  rw [Option.bind_some]
  by_cases z : n = 0
  · subst z
    have hin := (fst_some ht).1.1
    rw [if_pos (by simp), List.length_eq_zero_iff.mp hin]
  · rw [if_neg (by simpa using z), Option.bind_some]
    have hkn := hk.le
    have k1 : 1 ≤ k := by
      refine Decidable.byContradiction fun q => hk.some ?_
      rw [show k = 0 by omega]
      exact fst_zero (by omega) ts
    have key : ∀ (d j fuel : Nat), 1 ≤ j → j + d = k → d < fuel → whileR (S := Int) (R := List Int) (fun (s36 : Int) => some true) (fun (s36 : Int) =>
      ((many_tints n s36).bind fun y40 => rng 0 y40).bind fun xs41 => (loopR (S := Unit) (R := List Int) (fun (s42 : Unit) (q43 : Int) =>
          ((tints_by n q43 s36).bind fun y47 => some y47.reverse).bind fun tints_48 =>
          (fits ts tints_48).bind fun b49 => if b49 = true then
            (some tints_48).bind fun y50 => some (.ret y50)
          else
          some (.go ())) () xs41).bind fun st44 => st44.elim (fun s45 =>
      (some (s36 + 1)).bind fun many_51 =>
      some (.go many_51)) (fun y46 => some (.ret y46))) fuel (j : Int) = some (.ret t) := by
      intro d
      induction d with
      | zero =>
        intro j fuel j1 hj hf
        obtain ⟨fuel, rfl⟩ : ∃ z, fuel = z + 1 := ⟨fuel - 1, by omega⟩
        have : j = k := by omega
        subst this
        have tn := turn_eq hT hn (q := j) (by omega) (by omega)
        rw [whileR, Option.bind_some, if_pos rfl, ← Option.bind_assoc, tn, ht]
        rfl
      | succ d ih =>
        intro j fuel j1 hj hf
        obtain ⟨fuel, rfl⟩ : ∃ z, fuel = z + 1 := ⟨fuel - 1, by omega⟩
        have tn := turn_eq hT hn (q := j) (by omega) (by omega)
        have hno := hk.none j (by omega)
        rw [whileR, Option.bind_some, if_pos rfl, ← Option.bind_assoc, tn, hno]
        simp only [Option.bind_some, Stp.elim_go]
        rw [show (j : Int) + 1 = ((j + 1 : Nat) : Int) by omega]
        exact ih (j + 1) fuel (by omega) (by omega) (by omega)
    have := key (k - 1) 1 20 (by omega) (by omega) (by omega)
    rw [show ((1 : Nat) : Int) = 1 from rfl] at this
    rw [this]
    rfl
theorem flattest_eq {p : Int} {ts : List (Int × Int)} (w : Web p ts) {k : Nat} {t : List Int} (hk : Few p.toNat ts k) (ht : fst_ p.toNat k ts = some t) : flattest p ts = some (.ok (stg ts t)) := by
  have hw := w.1
  have hkp := hk.le
  obtain ⟨k2, hk2, e⟩ := fewest_eq w
  have := hk.eq hk2
  subst this
  obtain ⟨h1, h2⟩ := fst_some ht
  have hs := setting_of_eq w (d := t) (by rw [h1.1]; omega)
  rw [if_pos h2] at hs
  unfold flattest
  rw [e]
  simp only [Option.bind_some, exB_ok]
  rw [least_eq w (by omega), ht]
  simp only [Option.bind_some, exB_ok]
  exact hs
theorem mxD_nn {l : List Int} (h : ∀ x ∈ l, 0 ≤ x) : 0 ≤ mxD l 0 := by
  cases l with
  | nil => exact Int.le_refl 0
  | cons x xs => exact h _ (mxD_mem x xs 0)
theorem mxD_ge {l : List Int} {y : Int} (h : y ∈ l) : y ≤ mxD l 0 := by
  cases l with
  | nil => cases h
  | cons x xs => exact mxD_le x xs 0 y h
theorem gi_mem {l : List Int} {x : Int} (h : x ∈ l) : ∃ v : Int, 0 ≤ v ∧ v < l.length ∧ gi l v = x := by
  obtain ⟨i, hi, rfl⟩ := List.mem_iff_getElem.mp h
  refine ⟨(i : Int), by omega, by omega, ?_⟩
  unfold gi
  rw [Int.toNat_natCast, List.getD_eq_getElem?_getD, List.getElem?_eq_getElem hi]
  rfl
/-- ranks take at least the fewest dyes -/
theorem few_le {n k : Nat} {ts : List (Int × Int)} (hT : ∀ t ∈ ts, Tie n t) (hk : Few n ts k) {o : List Bool} (hl : o.length = ts.length) {l : List Int} (h : Rk n (arr ts o) (some l)) : (k : Int) ≤ mxD l 0 + 1 := by
  have nn : ∀ x ∈ l, 0 ≤ x := fun x hx => by
    obtain ⟨v, v0, v1, rfl⟩ := gi_mem hx
    exact (h.2 v v0 (by rw [← h.1]; exact v1)).nn
  have m0 := mxD_nn nn
  have hin : In n (mxD l 0 + 1).toNat l := ⟨h.1, fun x hx => by
    have := nn x hx
    have := mxD_ge hx
    omega⟩
  refine Decidable.byContradiction fun q => fst_of hin (Fix.fits hT hl h.2) (hk.none _ (by omega))
theorem law_true (ns : List Int) (_ : ns.length ≤ 63) : law ns = some true := by
  unfold law
  obtain ⟨p, ts, e0, hp, hl, hT⟩ := web_by_spec ns (k := 0) (most := 5) (cap := 6) (by decide) (by decide) (by decide) (by decide)
  have w : Web p ts := ⟨by omega, by omega, hT⟩
  have ep : ((p.toNat : Nat) : Int) = p := by omega
  have hT' : ∀ t ∈ ts, Tie (p.toNat : Int) t := by rw [ep]; exact hT.tie
  obtain ⟨k, hk, ek⟩ := fewest_eq w
  obtain ⟨t, ht⟩ : ∃ t, fst_ p.toNat k ts = some t := by
    cases h : fst_ p.toNat k ts with
    | none => exact absurd h hk.some
    | some t => exact ⟨t, rfl⟩
  obtain ⟨t1, t2⟩ := fst_some ht
  have hfl := flattest_eq w hk ht
  have hfi := first_eq hT' (by omega) hk ht
  rw [ep] at hfi
  have hsl := stg_len ts t
  have hE : Arr p.toNat (arr ts (stg ts t)) := arr_Arr hT' _
  have hal := arr_len ts (stg ts t)
  obtain ⟨r, er, hr, _⟩ := longest_eq hE (by omega) (by omega)
  rw [ep] at er
  have hkp := hk.le
  have htl := t1.1
  rw [e0, Option.bind_some]
  dsimp only
  rw [Option.bind_some, hfl, noX_ok, Option.bind_some]
  have c1 : ((stg ts t).length : Int) = ts.length := by rw [hsl]
  simp only [c1, decide_true, Bool.not_true, Bool.false_eq_true, ↓reduceIte, Option.bind_some]
  rw [hfi, Option.bind_some, loopR_any (fun _ => false) false]
  · rw [Option.bind_some]
    simp only [List.any_eq_true, Bool.false_eq_true, and_false, exists_const, ↓reduceIte, Stp.elim_go]
    rw [from_to_eq ts _ (by omega) hsl, Option.bind_some, Option.bind_some, Option.bind_some]
    dsimp only
    rw [er, Option.bind_some]
    cases r with
    | none => exact absurd (stg_acy t2) hr
    | some h =>
      have hb : p ≠ 0 → mxD h 0 + 1 ≤ (k : Int) := fun hp0 => by
        have : h ≠ [] := fun z => by
          have := hr.1
          rw [z] at this
          simp at this
          omega
        obtain ⟨x, xs, rfl⟩ := List.exists_cons_of_ne_nil this
        obtain ⟨v, v0, v1, ev⟩ := gi_mem (mxD_mem x xs 0)
        rw [hr.1] at v1
        have le := Fix.le hE hr.2 (fun v v0 v1 => (gi_in t1 v0 (by omega)).1) (arr_stg t2) v0 v1
        have lt := (gi_in t1 v0 v1).2
        omega
      have ha := few_le hT' hk hsl hr
      have num : ∀ (us : List (Int × Int)) (s : Nat), loopG (S := Int) (fun (s75 : Int) (q76 : Int × Int) =>
          (mulZ s75 2).bind fun number_80 =>
          some number_80) (s : Int) us = some ((s * 2 ^ us.length : Nat) : Int) := by
        intro us
        induction us with
        | nil => intro s; simp [loopG]
        | cons u us ih =>
          intro s
          show ((mulZ (s : Int) 2).bind fun number_80 => some number_80).bind _ = _
          rw [mulZ_r (by decide) (by decide), Option.bind_some, Option.bind_some, show (s : Int) * 2 = ((s * 2 : Nat) : Int) from rfl, ih, List.length_cons, Nat.pow_succ, Nat.mul_assoc, Nat.mul_comm 2]
      have num1 := num ts 1
      rw [show ((1 : Nat) : Int) = 1 from rfl, Nat.one_mul] at num1
      have hb2 : 2 ^ ts.length ≤ 2 ^ 6 := Nat.pow_le_pow_right (by decide) (by omega)
      simp only [Option.isNone_some, Bool.false_eq_true, ↓reduceIte, Option.bind_some]
      try simp only [Option.bind_some] at num1
      rw [num1, Option.bind_some, rng0 (by omega), Option.bind_some, loopR_any (fun _ => false) false]
      · rw [Option.bind_some]
        simp only [List.any_eq_true, Bool.false_eq_true, and_false, exists_const, ↓reduceIte, Stp.elim_go]
        rw [ek, noX_ok, Option.bind_some, whole_eq, Option.bind_some]
        by_cases p0 : p = 0
        · have : k = 0 := by omega
          subst this
          simp [p0]
        · have h1 : 0 < p := by omega
          have h2 : (k : Int) = mxD h 0 + 1 := by
            have := hb p0
            omega
          simp [p0, h1, h2]
      · intro x hx
        obtain ⟨i, hi, rfl⟩ := List.mem_map.mp hx
        have hE2 : Arr p.toNat (arr ts (wy ts.length (i : Int))) := arr_Arr hT' _
        have hal2 := arr_len ts (wy ts.length (i : Int))
        obtain ⟨r2, er2, hr2, _⟩ := longest_eq hE2 (by omega) (by omega)
        rw [ep] at er2
        rw [ways_eq (by omega)]
        simp only [Option.bind_some]
        rw [from_to_eq ts _ (by omega) (wy_len _ _)]
        simp only [Option.bind_some]
        rw [er2, Option.bind_some]
        cases r2 with
        | none => rfl
        | some l =>
          have hc := few_le hT' hk (wy_len _ _) hr2
          have no : ¬ mxD l 0 < mxD h 0 := by
            by_cases p0 : p = 0
            · have e1 : h = [] := List.length_eq_zero_iff.mp (by rw [hr.1]; omega)
              have e2 : l = [] := List.length_eq_zero_iff.mp (by rw [hr2.1]; omega)
              rw [e1, e2]
              exact Int.lt_irrefl _
            · have := hb p0
              omega
          simp [no]
  · rintro ⟨b, e⟩ hbe
    have hin : ∀ us : List (Int × Int), (∀ u ∈ us, u ∈ ts) → (b, e) ∈ (us.map fun t' => decide (gi t t'.1 < gi t t'.2)).zip us → e ∈ ts ∧ b = decide (gi t e.1 < gi t e.2) := by
      intro us
      induction us with
      | nil => intro _ h; simp at h
      | cons u us ih =>
        intro hu h
        rw [List.map_cons, List.zip_cons_cons] at h
        rcases List.mem_cons.mp h with h | h
        · cases h
          exact ⟨hu _ (by simp), rfl⟩
        · exact ih (fun v hv => hu v (by simp [hv])) h
    obtain ⟨he, hb⟩ := hin ts (fun _ h => h) hbe
    have hte := hT.tie e he
    unfold Tie at hte
    dsimp only
    rw [atZ_gi (by omega) (by omega), Option.bind_some, atZ_gi (by omega) (by omega), Option.bind_some, Option.bind_some, ← hb]
    simp
end Q

set_option Elab.async false
set_option linter.all false
set_option maxRecDepth 100000
set_option maxHeartbeats 4000000
namespace Q
open PySem L2 Dv Dw
abbrev topS (i : Nat) : Stmt := PySem.Challenge.pw_dyeweb_k10_whole_flattest.main.body.getD i (.Pass ⟨0, 0, 0, 0⟩)
structure Txt (K : PySem.W.Frag) (mg : Str → Option Value) (ad : Er → Addr) (CW : Addr) : Prop where
  b_bool : mg "bool" = none
  b_int : mg "int" = none
  b_isinstance : mg "isinstance" = none
  b_len : mg "len" = none
  b_list : mg "list" = none
  b_max : mg "max" = none
  b_min : mg "min" = none
  b_range : mg "range" = none
  b_reversed : mg "reversed" = none
  b_sorted : mg "sorted" = none
  b_zip : mg "zip" = none
  g_MOST_POINTS : ∃ t, mg "MOST_POINTS" = some (.int 7 t)
  g_MOST_TIES : ∃ t, mg "MOST_TIES" = some (.int 12 t)
  x_NoDyeing : ErC K mg "NoDyeing" (ad .noDyeing)
  x_NoWeb : ErC K mg "NoWeb" (ad .noWeb)
  nil : True
section
variable {P : Program} {w : World} {K : PySem.W.Frag} {mg : Str → Option Value} {base : Heap} {ad : Er → Addr} {CW : Addr}
abbrev s_is_web : Stmt := topS 7
theorem sc_is_web : FnScope ["points", "ties", "k", "low", "high"] ["points", "ties"] (defScope s_is_web) := ⟨rfl, rfl, rfl, by decide +kernel, rfl, by decide +kernel, by decide +kernel⟩
theorem ok_is_web {f : Addr} {fd : FuncData} (F : Fun K "is_web" "is_web" s_is_web f fd) (gF : mg "is_web" = some (.ref f)) (T : Txt K mg ad CW) : Fn P w K mg base CX0 1 "is_web" ["points", "ties"] (spO (β := Bool) fun (x : Int × (List (Int × Int)) × Unit) => is_web x.1 x.2.1) := by
  obtain ⟨t_MOST_POINTS, T_g_MOST_POINTS⟩ := T.g_MOST_POINTS
  obtain ⟨t_MOST_TIES, T_g_MOST_TIES⟩ := T.g_MOST_TIES
  refine ⟨f, _, gF, F.kp, F.binds (ps := ["points", "ties"]) (fun _ _ _ _ _ _ us hl => match us, hl with | [_, _], _ => rfl), F.ok sc_is_web (spO_len rfl) (fun cdv A outer s H vs Q E hr h => ?_)⟩
  refine ⟨_, (pss_cons (ps_if (PW.pt (pw_or (pt_cmpR op_lt (pv 0) pe_int (nomark _)) (pw_or (pt_cmpR op_gt (pv 0) (pe_glob (v := .int 7) rfl T_g_MOST_POINTS ⟨_, rfl⟩) (nomark _)) (pw_or1 (pt_cmpR op_gt (pe_callB call_len_seq (by rfl) T.b_len PySem.boot_len (pa_cons (pv 1) pa_nil)) (pe_glob (v := .int 12) rfl T_g_MOST_TIES ⟨_, rfl⟩) (nomark _)))))) (pss_one (ps_ret pe_bl)) pss_nil)
    (pss_cons (ps_for PassesOwn.never rfl (pi_range1 (by rfl) T.b_range (pa_cons (pe_callB call_len_seq (by rfl) T.b_len PySem.boot_len (pa_cons (pv 1) pa_nil)) pa_nil)) (pg_name (i := 2) sc_is_web.nd rfl (by first | exact Or.inl rfl | exact Or.inr rfl)) (pss_cons (ps_asg (pe_ix ix_list (pv 1) (pv 2) (fun _ _ => rfl)) (pg_tup rfl (pgs_cons (pg_name (i := 3) sc_is_web.nd rfl (by first | exact Or.inl rfl | exact Or.inr rfl)) (pgs_cons (pg_name (i := 4) sc_is_web.nd rfl (by first | exact Or.inl rfl | exact Or.inr rfl)) pgs_nil))))
    (pss_cons (ps_if (PW.pt (pw_or (pt_cmpR op_lt (pv 3) pe_int (nomark _)) (pw_or (pt_cmpR op_ge (pv 3) (pv 4) (nomark _)) (pw_or1 (pt_cmpR op_ge (pv 4) (pv 0) (nomark _)))))) (pss_one (ps_ret pe_bl)) pss_nil)
    (pss_one (ps_if (PW.pt (pw_and (pt_cmpR op_gt (pv 2) pe_int (nomark _)) (pw_and1 (pt_cmpR (op_leT (hu0 hr)) (pe_ix ix_list (pv 1) (pv 2) (fun _ _ => rfl)) (pe_ix ix_list (pv 1) (pe_op op_sub (pv 2) pe_int) (fun _ _ => rfl)) (nomark _))))) (pss_one (ps_ret pe_bl)) pss_nil)))))
    (pss_one (ps_ret pe_bl)))), ?_⟩
  obtain ⟨F0, ⟨x_points, x_ties, _⟩, y, s0, ⟨v_points, _, rfl, h_points, v_ties, _, rfl, h_ties, rfl⟩, hm, hQ⟩ := h
  have L0 : Lat F0 H F0 H := .refl s0
  refine at_st (σ := [some v_points, some v_ties, none, none, none]) rfl ?_
  replace hm : is_web x_points x_ties = some y := hm
  unfold is_web at hm
  refine rd_guard L0.fh (evt_or (evt_of (ev_op (ev_varF rfl h_points) ev_int rv_cmp)) (evt_or (evt_of (ev_op (ev_varF rfl h_points) ev_int rv_cmp)) (evt_of (ev_op (ev_len (ev_var rfl h_ties)) ev_int rv_cmp)))) hm ?_ ?_
  · intro F1 H2 _ hm l3
    have L4 := L0.trans l3
    exact rd_ret0 L4.fh ev_bl hm fun v F1 H1 l rv => hQ v F1 H1 (L4.trans l) rv
  · intro F5 H6 _ hm l7
    have L8 := L0.trans l7
    replace h_ties := up h_ties l7
    refine rd_for L8.fh (ei_range1 (ev_len (ev_var rfl h_ties))) hm ?_
    intro xs9 J10 F11 H12 hm l13 wk14
    have L15 := L8.trans l13
    replace h_ties := up h_ties l13
    refine rd_loopR wk14 hm (fun (s : Unit) σ_ F_ H_ => ∃ (o2_ : Option V) (o3_ : Option V) (o4_ : Option V), σ_ = [some v_points, some v_ties, o2_, o3_, o4_] ∧ Same F11 F_ ∧ Lat F0 H F_ H_ ∧ True) ⟨_, _, _, rfl, (.refl _), L15, trivial⟩ ?_ ?_ ?_
    · rintro s σ_ F_ H_ ⟨e16, e17, e18, rfl, sf19, L20, -⟩
      exact ⟨sf19, L20.fh⟩
    · rintro q21 s22 σ_ F28 H29 v23 F30 H31 ⟨e32, e33, e34, rfl, sf35, L36, -⟩ l24 rv25 st39 hm D27 hD37 hN26 hR38
      replace hD37 : D27.rt = Q := hD37
      replace h_ties := Rep.mono sf35 h_ties
      have L40 := L36.trans l24
      have sb41 := Same.trans sf35 l24.f
      replace h_ties := up h_ties l24
      refine gt_name ?_
      refine rd_asg2 L40.fh (ev_op (ev_var rfl h_ties) (ev_varF rfl rv25) rv_ixL) hm ?_
      intro x42 v43 v44 F45 H46 hm l47 h_low_48 h_high_49
      have L50 := L40.trans l47
      have sb51 := Same.trans sb41 l47.f
      replace h_ties := up h_ties l47
      refine rd_guard L50.fh (evt_or (evt_of (ev_op (ev_varF rfl h_low_48) ev_int rv_cmp)) (evt_or (evt_of (ev_op (ev_varF rfl h_low_48) (ev_varF rfl h_high_49) rv_cmp)) (evt_of (ev_op (ev_varF rfl h_high_49) (ev_varF rfl h_points) rv_cmp)))) hm ?_ ?_
      · intro F52 H53 _ hm l54
        have L55 := L50.trans l54
        have sb56 := Same.trans sb51 l54.f
        replace h_ties := up h_ties l54
        refine rd_ret L55.fh ev_bl hm ?_
        intro x_ v_ F1_ H1_ hm l_ rv_
        replace hm := hR38 _ (Option.some.inj hm).symm
        obtain rfl := Option.some.inj hm
        rw [hD37]
        exact hQ _ _ _ (L55.trans l_) rv_
      · intro F57 H58 _ hm l59
        have L60 := L50.trans l59
        have sb61 := Same.trans sb51 l59.f
        replace h_ties := up h_ties l59
        refine rd_if L60.fh (evt_and (evt_of (ev_op (ev_varF rfl rv25) ev_int rv_cmp)) (evt_of (ev_op (ev_op (ev_var rfl h_ties) (ev_varF rfl rv25) rv_ixL) (ev_op (ev_var rfl h_ties) (ev_op (ev_varF rfl rv25) ev_int rv_sub) rv_ixL) rv_leT))) hm ?_ ?_
        · intro F62 H63 _ hm l64
          have L65 := L60.trans l64
          have sb66 := Same.trans sb61 l64.f
          replace h_ties := up h_ties l64
          refine rd_ret L65.fh ev_bl hm ?_
          intro x_ v_ F1_ H1_ hm l_ rv_
          replace hm := hR38 _ (Option.some.inj hm).symm
          obtain rfl := Option.some.inj hm
          rw [hD37]
          exact hQ _ _ _ (L65.trans l_) rv_
        · intro F67 H68 _ hm l69
          have L70 := L60.trans l69
          have sb71 := Same.trans sb61 l69.f
          replace h_ties := up h_ties l69
          exact hN26 _ (Option.some.inj hm).symm _ _ _ ⟨_, _, _, rfl, sb71, L70, trivial⟩
    · rintro s72 σ_ F73 H74 hm ⟨e75, e76, e77, rfl, sf78, L79, -⟩
      refine nx_with ?_
      exact rd_ret0 L79.fh ev_bl hm fun v F1 H1 l rv => hQ v F1 H1 (L79.trans l) rv
abbrev s_asked_web : Stmt := topS 8
theorem sc_asked_web : FnScope ["points", "ties"] ["points", "ties"] (defScope s_asked_web) := ⟨rfl, rfl, rfl, by decide +kernel, rfl, by decide +kernel, by decide +kernel⟩
theorem ok_asked_web {f : Addr} {fd : FuncData} (F : Fun K "asked_web" "asked_web" s_asked_web f fd) (gF : mg "asked_web" = some (.ref f)) (T : Txt K mg ad CW) (C_is_web : Fn P w K mg base CX0 1 "is_web" ["points", "ties"] (spO (β := Bool) fun (x : Int × (List (Int × Int)) × Unit) => is_web x.1 x.2.1)) : Fn P w K mg base (L2.CX P w) 2 "asked_web" ["points", "ties"] (spX (clO ad) (β := Unit) fun (x : Int × (List (Int × Int)) × Unit) => asked_web x.1 x.2.1) := by
  refine ⟨f, _, gF, F.kp, F.binds (ps := ["points", "ties"]) (fun _ _ _ _ _ _ us hl => match us, hl with | [_, _], _ => rfl), F.okX sc_asked_web (spX_len rfl) (fun cdv A outer s H vs Q E hr h => ?_)⟩
  refine ⟨_, (pss_one (ps_if (pt_not (pt_val (pe_fn C_is_web (hr.mono (by decide)) rfl (pa_cons (pv 0) (pa_cons (pv 1) pa_nil))))) (pss_one (ps_raiseE rfl (takes_of rfl rfl rfl rfl) T.x_NoWeb rfl)) pss_nil)), ?_⟩
  obtain ⟨F0, ⟨x_points, x_ties, _⟩, y, s0, ⟨v_points, _, rfl, h_points, v_ties, _, rfl, h_ties, rfl⟩, hm, hQ, hE⟩ := h
  have L0 : Lat F0 H F0 H := .refl s0
  refine at_st (σ := [some v_points, some v_ties]) rfl ?_
  replace hm : asked_web x_points x_ties = some y := hm
  unfold asked_web at hm
  refine rd_if L0.fh (evt_not (evt_b (ev_call (eva_cons (ev_varF rfl h_points) (eva_cons (ev_var rfl h_ties) eva_nil))))) hm ?_ ?_
  · intro F1 H2 _ hm l3
    have L4 := L0.trans l3
    exact (fun e F1 H1 ee l => hE e ee F1 H1 (L4.trans l)) _ _ _ (Option.some.inj hm).symm (.refl L4.fh)
  · intro F5 H6 _ hm l7
    have L8 := L0.trans l7
    exact hQ () (Option.some.inj hm).symm .non _ _ L8 rfl
abbrev s_without : Stmt := topS 9
theorem sc_without : FnScope ["ties", "tie", "one"] ["ties", "tie"] (defScope s_without) := ⟨rfl, rfl, rfl, by decide +kernel, rfl, by decide +kernel, by decide +kernel⟩
theorem ok_without {f : Addr} {fd : FuncData} (F : Fun K "without" "without" s_without f fd) (gF : mg "without" = some (.ref f)) (T : Txt K mg ad CW) : Fn P w K mg base CX0 1 "without" ["ties", "tie"] (spN (β := (Int × Int)) fun (x : (List (Int × Int)) × (Int × Int) × Unit) => without x.1 x.2.1) := by
  refine ⟨f, _, gF, F.kp, F.binds (ps := ["ties", "tie"]) (fun _ _ _ _ _ _ us hl => match us, hl with | [_, _], _ => rfl), F.ok sc_without (spN_len rfl) (fun cdv A outer s H vs Q E hr h => ?_)⟩
  refine ⟨_, (pss_one (ps_ret (pe_lc (own := [("one", 2)]) (g := (gName 2)) rfl sc_without.nd (pi_list (pv 0)) (blkOk_by (N := ["ties", "tie", "one"]) (sc := defScope s_without) (by decide +kernel)) (fun _ _ _ _ _ => (pg_name (i := 2) sc_without.nd rfl (by first | exact Or.inl rfl | exact Or.inr rfl))) (fun _ _ _ _ _ => (pts_one (pt_cmpR (op_neDK rfl (hu64 hr)) (pv 2) (pv 1) (nomark _)))) (fun _ _ _ _ _ => (pv 2))))), ?_⟩
  obtain ⟨F0, ⟨x_ties, x_tie, _⟩, y, s0, ⟨v_ties, _, rfl, h_ties, v_tie, _, rfl, h_tie, rfl⟩, hm, hQ⟩ := h
  have L0 : Lat F0 H F0 H := .refl s0
  refine at_st (σ := [some v_ties, some v_tie, none]) rfl ?_
  replace hm : without x_ties x_tie = some y := hm
  unfold without at hm
  exact rd_retN L0.fh (evn_lc (ei_list (ev_var rfl h_ties)) (fun x1 v2 _ _ _ l4 r3 k5 => gt_name (k5 _ rfl (evt_of (ev_op (ev_var rfl r3) (ev_var rfl (up h_tie l4)) (fun x y => rv_neD x y))) (ev_var rfl r3)))) hm fun p vs F1 H1 l h1 h2 h3 rv => hQ p vs F1 H1 (L0.trans l) (L0.h.free h1) h2 h3 rv
abbrev s_named : Stmt := topS 10
theorem sc_named : FnScope ["point", "tie"] ["point", "tie"] (defScope s_named) := ⟨rfl, rfl, rfl, by decide +kernel, rfl, by decide +kernel, by decide +kernel⟩
theorem ok_named {f : Addr} {fd : FuncData} (F : Fun K "named" "named" s_named f fd) (gF : mg "named" = some (.ref f)) (T : Txt K mg ad CW) : Fn P w K mg base CX0 1 "named" ["point", "tie"] (spO (β := Int) fun (x : Int × (Int × Int) × Unit) => named x.1 x.2.1) := by
  refine ⟨f, _, gF, F.kp, F.binds (ps := ["point", "tie"]) (fun _ _ _ _ _ _ us hl => match us, hl with | [_, _], _ => rfl), F.ok sc_named (spO_len rfl) (fun cdv A outer s H vs Q E hr h => ?_)⟩
  refine ⟨_, (pss_cons (ps_if (pt_cmpR op_eq (pv 0) (pe_ix ix_tup (pv 1) pe_int (fun _ _ => rfl)) (nomark _)) (pss_one (ps_ret (pe_ix ix_tup (pv 1) pe_int (fun _ _ => rfl)))) pss_nil)
    (pss_cons (ps_if (pt_cmpR op_gt (pv 0) (pe_ix ix_tup (pv 1) pe_int (fun _ _ => rfl)) (nomark _)) (pss_one (ps_ret (pe_op op_sub (pv 0) pe_int))) pss_nil)
    (pss_one (ps_ret (pv 0))))), ?_⟩
  obtain ⟨F0, ⟨x_point, x_tie, _⟩, y, s0, ⟨v_point, _, rfl, h_point, v_tie, _, rfl, h_tie, rfl⟩, hm, hQ⟩ := h
  have L0 : Lat F0 H F0 H := .refl s0
  refine at_st (σ := [some v_point, some v_tie]) rfl ?_
  replace hm : named x_point x_tie = some y := hm
  unfold named at hm
  refine rd_guard L0.fh (evt_of (ev_op (ev_varF rfl h_point) (ev_snd (ev_var rfl h_tie)) rv_eqI)) hm ?_ ?_
  · intro F1 H2 _ hm l3
    have L4 := L0.trans l3
    replace h_tie := up h_tie l3
    exact rd_ret0 L4.fh (ev_fst (ev_var rfl h_tie)) hm fun v F1 H1 l rv => hQ v F1 H1 (L4.trans l) rv
  · intro F5 H6 _ hm l7
    have L8 := L0.trans l7
    replace h_tie := up h_tie l7
    refine rd_guard L8.fh (evt_of (ev_op (ev_varF rfl h_point) (ev_snd (ev_var rfl h_tie)) rv_cmp)) hm ?_ ?_
    · intro F9 H10 _ hm l11
      have L12 := L8.trans l11
      exact rd_ret0 L12.fh (ev_op (ev_varF rfl h_point) ev_int rv_sub) hm fun v F1 H1 l rv => hQ v F1 H1 (L12.trans l) rv
    · intro F13 H14 _ hm l15
      have L16 := L8.trans l15
      exact rd_ret0 L16.fh (ev_varF rfl h_point) hm fun v F1 H1 l rv => hQ v F1 H1 (L16.trans l) rv
abbrev s_put_together : Stmt := topS 11
theorem sc_put_together : FnScope ["ties", "tie", "found", "one", "low", "high"] ["ties", "tie"] (defScope s_put_together) := ⟨rfl, rfl, rfl, by decide +kernel, rfl, by decide +kernel, by decide +kernel⟩
theorem ok_put_together {f : Addr} {fd : FuncData} (F : Fun K "put_together" "put_together" s_put_together f fd) (gF : mg "put_together" = some (.ref f)) (T : Txt K mg ad CW) (C_without : Fn P w K mg base CX0 1 "without" ["ties", "tie"] (spN (β := (Int × Int)) fun (x : (List (Int × Int)) × (Int × Int) × Unit) => without x.1 x.2.1)) (C_named : Fn P w K mg base CX0 1 "named" ["point", "tie"] (spO (β := Int) fun (x : Int × (Int × Int) × Unit) => named x.1 x.2.1)) : Fn P w K mg base CX0 2 "put_together" ["ties", "tie"] (spN (β := (Int × Int)) fun (x : (List (Int × Int)) × (Int × Int) × Unit) => put_together x.1 x.2.1) := by
  refine ⟨f, _, gF, F.kp, F.binds (ps := ["ties", "tie"]) (fun _ _ _ _ _ _ us hl => match us, hl with | [_, _], _ => rfl), F.ok sc_put_together (spN_len rfl) (fun cdv A outer s H vs Q E hr h => ?_)⟩
  refine ⟨_, (pss_cons (ps_set (i := 2) sc_put_together.nd rfl (by first | exact Or.inl rfl | exact Or.inr rfl) pe_dnewT)
    (pss_cons (ps_for PassesOwn.never rfl (pi_list (pe_fn C_without (hr.mono (by decide)) rfl (pa_cons (pv 0) (pa_cons (pv 1) pa_nil)))) (pg_name (i := 3) sc_put_together.nd rfl (by first | exact Or.inl rfl | exact Or.inr rfl)) (pss_cons (ps_set (i := 4) sc_put_together.nd rfl (by first | exact Or.inl rfl | exact Or.inr rfl) (pe_fn C_named (hr.mono (by decide)) rfl (pa_cons (pe_ix ix_tup (pv 3) pe_int (fun _ _ => rfl)) (pa_cons (pv 1) pa_nil))))
    (pss_cons (ps_set (i := 5) sc_put_together.nd rfl (by first | exact Or.inl rfl | exact Or.inr rfl) (pe_fn C_named (hr.mono (by decide)) rfl (pa_cons (pe_ix ix_tup (pv 3) pe_int (fun _ _ => rfl)) (pa_cons (pv 1) pa_nil))))
    (pss_one (ps_dput (hu_of hr) (pv 2) (pe_tup (pa_cons (pe_callB (call_min2 rfl) (by rfl) T.b_min (by decide +kernel) (pa_cons (pv 4) (pa_cons (pv 5) pa_nil))) (pa_cons (pe_callB (call_max2 rfl) (by rfl) T.b_max (by decide +kernel) (pa_cons (pv 4) (pa_cons (pv 5) pa_nil))) pa_nil))) pe_bl rfl)))))
    (pss_one (ps_ret (pe_callB cr_sortedPO (by rfl) T.b_sorted (by decide +kernel) (pa_cons (pe_callTy (call_list_dT rfl) (by rfl) T.b_list (by decide +kernel) (pa_cons (pv 2) pa_nil)) pa_nil)))))), ?_⟩
  obtain ⟨F0, ⟨x_ties, x_tie, _⟩, y, s0, ⟨v_ties, _, rfl, h_ties, v_tie, _, rfl, h_tie, rfl⟩, hm, hQ⟩ := h
  have L0 : Lat F0 H F0 H := .refl s0
  refine at_st (σ := [some v_ties, some v_tie, none, none, none, none]) rfl ?_
  replace hm : put_together x_ties x_tie = some y := hm
  unfold put_together at hm
  refine rd_newD L0.fh hm ?_
  intro p1 F2 H3 hm l4 hn5 fp7 hp6
  have rl8 : List.map (fun x => x.1) ([] : List (List Key × V)) = List.map kk [] := rfl
  have hz9 := L0.h.free hn5
  have L10 := L0.trans l4
  replace h_ties := up h_ties l4
  replace h_tie := up h_tie l4
  refine rd_for L10.fh (ei_list (EVN.ev (evn_call (eva_cons (ev_var rfl h_ties) (eva_cons (ev_var rfl h_tie) eva_nil))))) hm ?_
  intro xs11 J12 F13 H14 hm l15 wk16
  have L17 := L10.trans l15
  replace h_ties := up h_ties l15
  replace h_tie := up h_tie l15
  replace fp7 := l15.nw _ _ hp6 trivial fp7
  replace hp6 := l15.h _ _ hp6
  refine rd_loopG wk16 hm (fun (s : (List (Int × Int))) σ_ F_ H_ => ∃ (o3_ : Option V) (o4_ : Option V) (o5_ : Option V) (w2_ : List (List Key × V)), σ_ = [some v_ties, some v_tie, some (.ref p1), o3_, o4_, o5_] ∧ Same F13 F_ ∧ Lat F0 H F_ H_ ∧ (H_ p1 = some (.dT w2_) ∧ F_ p1 = none ∧ List.map (fun x => x.1) w2_ = List.map kk s) ∧ True) ⟨_, _, _, _, rfl, (.refl _), L17, ⟨hp6, fp7, rl8⟩, trivial⟩ ?_ ?_ ?_
  · rintro s σ_ F_ H_ ⟨e18, e19, e20, e21, rfl, sf22, L23, ⟨hp24, fp25, rl26⟩, -⟩
    exact ⟨sf22, L23.fh⟩
  · rintro q27 s28 σ_ F34 H35 v29 F36 H37 ⟨e38, e39, e40, e41, rfl, sf42, L43, ⟨hp44, fp45, rl46⟩, -⟩ l30 rv31 s47 hm D33 hN32
    replace h_tie := Rep.mono sf42 h_tie
    have L48 := L43.trans l30
    have sb49 := Same.trans sf42 l30.f
    replace h_tie := up h_tie l30
    replace fp45 := l30.nw _ _ hp44 trivial fp45
    replace hp44 := l30.h _ _ hp44
    refine gt_name ?_
    refine rd_asg L48.fh (ev_call (eva_cons (ev_fst (ev_var rfl rv31)) (eva_cons (ev_var rfl h_tie) eva_nil))) hm ?_
    intro x50 v51 F52 H53 hm l54 h_low_55
    have L56 := L48.trans l54
    have sb57 := Same.trans sb49 l54.f
    replace h_tie := up h_tie l54
    replace fp45 := l54.nw _ _ hp44 trivial fp45
    replace hp44 := l54.h _ _ hp44
    replace rv31 := up rv31 l54
    refine rd_asg L56.fh (ev_call (eva_cons (ev_snd (ev_var rfl rv31)) (eva_cons (ev_var rfl h_tie) eva_nil))) hm ?_
    intro x58 v59 F60 H61 hm l62 h_high_63
    have L64 := L56.trans l62
    have sb65 := Same.trans sb57 l62.f
    replace h_tie := up h_tie l62
    replace fp45 := l62.nw _ _ hp44 trivial fp45
    replace hp44 := l62.h _ _ hp44
    replace rv31 := up rv31 l62
    refine rd_putDL L64.fh rfl hp44 fp45 rl46 ev_bl (ev_tup (ev_min2 (ev_varF rfl h_low_55) (ev_varF rfl h_high_63)) (ev_max2 (ev_varF rfl h_low_55) (ev_varF rfl h_high_63))) hm ?_
    intro x66 w67 F68 H69 hm m70 fp71 hp72 rl73
    have L74 := m70.l0 _ _ L64 hz9
    have sb75 := Same.trans sb65 m70.f
    replace h_tie := Rep.mono m70.f h_tie
    replace rv31 := Rep.mono m70.f rv31
    obtain rfl := Option.some.inj hm
    exact hN32 _ _ _ ⟨_, _, _, _, rfl, sb75, L74, ⟨hp72, fp71, rl73⟩, trivial⟩
  · rintro s76 σ_ F77 H78 hm ⟨e79, e80, e81, e82, rfl, sf83, L84, ⟨hp85, fp86, rl87⟩, -⟩
    refine nx_with ?_
    exact rd_retN L84.fh (evn_sortP (EVN.ev (evn_listD rfl hp85 rl87))) hm fun p vs F1 H1 l h1 h2 h3 rv => hQ p vs F1 H1 (L84.trans l) (L84.h.free h1) h2 h3 rv
abbrev s_row_by : Stmt := topS 13
theorem sc_row_by : FnScope ["points", "ties", "tie", "less", "other", "k"] ["points", "ties"] (defScope s_row_by) := ⟨rfl, rfl, rfl, by decide +kernel, rfl, by decide +kernel, by decide +kernel⟩
theorem ok_row_by {f : Addr} {fd : FuncData} (F : Fun K "row_by" "row_by" s_row_by f fd) (gF : mg "row_by" = some (.ref f)) (T : Txt K mg ad CW) (C_put_together : Fn P w K mg base CX0 2 "put_together" ["ties", "tie"] (spN (β := (Int × Int)) fun (x : (List (Int × Int)) × (Int × Int) × Unit) => put_together x.1 x.2.1)) : ∀ d_ : Nat, Fn P w K mg base CX0 (3 + d_) "row_by" ["points", "ties"] (spN (β := Int) fun (x : Int × (List (Int × Int)) × Unit) => row_byF d_ x.1 x.2.1)
  | 0 => ⟨f, _, gF, F.kp, F.binds (ps := ["points", "ties"]) (fun _ _ _ _ _ _ us hl => match us, hl with | [_, _], _ => rfl), F.ok (k := 2) sc_row_by (spN_len rfl) (fun cdv A outer s H vs Q E hr h => by obtain ⟨F0, _, y, s0, _, hm, _⟩ := h; cases hm)⟩
  | n_ + 1 => by
    have C_row_by := ok_row_by F gF T C_put_together n_
    refine ⟨f, _, gF, F.kp, F.binds (ps := ["points", "ties"]) (fun _ _ _ _ _ _ us hl => match us, hl with | [_, _], _ => rfl), F.ok (k := 3 + n_) sc_row_by (spN_len rfl) (fun cdv A outer s H vs Q E hr h => ?_)⟩
    refine ⟨_, (pss_cons (ps_if (pt_cmpR op_eq (pe_callB call_len_seq (by rfl) T.b_len PySem.boot_len (pa_cons (pv 1) pa_nil)) pe_int (nomark _)) (pss_one (ps_ret (pe_op op_cat (pe_lc (own := [("k", 5)]) (g := (gName 5)) rfl sc_row_by.nd (pi_range1 (by rfl) T.b_range (pa_cons (pv 0) pa_nil)) (blkOk_by (N := ["points", "ties", "tie", "less", "other", "k"]) (sc := defScope s_row_by) (by decide +kernel)) (fun _ _ _ _ _ => (pg_name (i := 5) sc_row_by.nd rfl (by first | exact Or.inl rfl | exact Or.inr rfl))) (fun _ _ _ _ _ => pts_nil) (fun _ _ _ _ _ => pe_int)) (pe_lst (pa_cons pe_int pa_nil))))) pss_nil)
    (pss_cons (ps_set (i := 2) sc_row_by.nd rfl (by first | exact Or.inl rfl | exact Or.inr rfl) (pe_ix ix_list (pv 1) (pe_un un_neg pe_int) (fun _ _ => rfl)))
    (pss_cons (ps_set (i := 3) sc_row_by.nd rfl (by first | exact Or.inl rfl | exact Or.inr rfl) (pe_fn C_row_by (hr.mono (by omega)) rfl (pa_cons (pv 0) (pa_cons (pe_slice sl_list (pv 1) po_none (po_some (pe_un un_neg pe_int))) pa_nil))))
    (pss_cons (ps_set (i := 4) sc_row_by.nd rfl (by first | exact Or.inl rfl | exact Or.inr rfl) (pe_op op_cat (pe_fn C_row_by (hr.mono (by omega)) rfl (pa_cons (pe_op op_sub (pv 0) pe_int) (pa_cons (pe_fn C_put_together (hr.mono (by omega)) rfl (pa_cons (pv 1) (pa_cons (pv 2) pa_nil))) pa_nil))) (pe_lst (pa_cons pe_int pa_nil))))
    (pss_one (ps_ret (pe_lc (own := [("k", 5)]) (g := (gName 5)) rfl sc_row_by.nd (pi_range1 (by rfl) T.b_range (pa_cons (pe_op op_add (pv 0) pe_int) pa_nil)) (blkOk_by (N := ["points", "ties", "tie", "less", "other", "k"]) (sc := defScope s_row_by) (by decide +kernel)) (fun _ _ _ _ _ => (pg_name (i := 5) sc_row_by.nd rfl (by first | exact Or.inl rfl | exact Or.inr rfl))) (fun _ _ _ _ _ => pts_nil) (fun _ _ _ _ _ => (pe_op op_sub (pe_ix (ix_listK rfl) (pv 3) (pv 5) (fun _ _ => rfl)) (pe_ix (ix_listK rfl) (pv 4) (pv 5) (fun _ _ => rfl))))))))))), ?_⟩
    obtain ⟨F0, ⟨x_points, x_ties, _⟩, y, s0, ⟨v_points, _, rfl, h_points, v_ties, _, rfl, h_ties, rfl⟩, hm, hQ⟩ := h
    have L0 : Lat F0 H F0 H := .refl s0
    refine at_st (σ := [some v_points, some v_ties, none, none, none, none]) rfl ?_
    replace hm : row_byF (n_ + 1) x_points x_ties = some y := hm
    unfold row_byF at hm
    refine rd_guard L0.fh (evt_of (ev_op (ev_len (ev_var rfl h_ties)) ev_int rv_eqI)) hm ?_ ?_
    · intro F1 H2 _ hm l3
      have L4 := L0.trans l3
      exact rd_retN L4.fh (evn_op (EVN.ev (evn_lc (ei_range1 (ev_varF rfl h_points)) (fun x5 v6 _ _ _ l8 r7 k9 => gt_name (k9 _ rfl evt_yes ev_int)))) (EVN.ev (evn_lst (evl_cons ev_int evl_nil))) rvn_cat) hm fun p vs F1 H1 l h1 h2 h3 rv => hQ p vs F1 H1 (L4.trans l) (L4.h.free h1) h2 h3 rv
    · intro F10 H11 _ hm l12
      have L13 := L0.trans l12
      replace h_ties := up h_ties l12
      refine rd_asg L13.fh (ev_op (ev_var rfl h_ties) (ev_neg ev_int) rv_ixL) hm ?_
      intro x14 v15 F16 H17 hm l18 h_tie_19
      have L20 := L13.trans l18
      replace h_ties := up h_ties l18
      refine rd_asg L20.fh (EVN.ev (evn_call (eva_cons (ev_varF rfl h_points) (eva_cons (EVN.ev (evn_cut (ev_var rfl h_ties) po_no (po_at (ev_neg ev_int)))) eva_nil)))) hm ?_
      intro x21 v22 F23 H24 hm l25 h_less_26
      have L27 := L20.trans l25
      replace h_ties := up h_ties l25
      replace h_tie_19 := up h_tie_19 l25
      refine rd_asg L27.fh (EVN.ev (evn_op (EVN.ev (evn_call (eva_cons (ev_op (ev_varF rfl h_points) ev_int rv_sub) (eva_cons (EVN.ev (evn_call (eva_cons (ev_var rfl h_ties) (eva_cons (ev_var rfl h_tie_19) eva_nil)))) eva_nil)))) (EVN.ev (evn_lst (evl_cons ev_int evl_nil))) rvn_cat)) hm ?_
      intro x28 v29 F30 H31 hm l32 h_other_33
      have L34 := L27.trans l32
      replace h_less_26 := up h_less_26 l32
      exact rd_retN L34.fh (evn_lc (ei_range1 (ev_op (ev_varF rfl h_points) ev_int rv_add)) (fun x35 v36 _ _ _ l38 r37 k39 => gt_name (k39 _ rfl evt_yes (ev_op (ev_op (ev_var rfl (up h_less_26 l38)) (ev_varF rfl r37) rv_ixL) (ev_op (ev_var rfl (up h_other_33 l38)) (ev_varF rfl r37) rv_ixL) rv_sub)))) hm fun p vs F1 H1 l h1 h2 h3 rv => hQ p vs F1 H1 (L34.trans l) (L34.h.free h1) h2 h3 rv
abbrev s_row : Stmt := topS 14
theorem sc_row : FnScope ["points", "ties"] ["points", "ties"] (defScope s_row) := ⟨rfl, rfl, rfl, by decide +kernel, rfl, by decide +kernel, by decide +kernel⟩
theorem ok_row {f : Addr} {fd : FuncData} (F : Fun K "row" "row" s_row f fd) (gF : mg "row" = some (.ref f)) (T : Txt K mg ad CW) (C_asked_web : Fn P w K mg base (L2.CX P w) 2 "asked_web" ["points", "ties"] (spX (clO ad) (β := Unit) fun (x : Int × (List (Int × Int)) × Unit) => asked_web x.1 x.2.1)) (C_row_by : Fn P w K mg base CX0 23 "row_by" ["points", "ties"] (spN (β := Int) fun (x : Int × (List (Int × Int)) × Unit) => row_by x.1 x.2.1)) : Fn P w K mg base (L2.CX P w) 24 "row" ["points", "ties"] (spXN (clO ad) (β := Int) fun (x : Int × (List (Int × Int)) × Unit) => row x.1 x.2.1) := by
  refine ⟨f, _, gF, F.kp, F.binds (ps := ["points", "ties"]) (fun _ _ _ _ _ _ us hl => match us, hl with | [_, _], _ => rfl), F.okX sc_row (spXN_len rfl) (fun cdv A outer s H vs Q E hr h => ?_)⟩
  refine ⟨_, (pss_cons (ps_expr (pe_fnX (takes_of rfl rfl rfl rfl) C_asked_web (hr.mono (by decide)) rfl (pa_cons (pv 0) (pa_cons (pv 1) pa_nil))))
    (pss_one (ps_ret (pe_fn C_row_by (hr.mono (by decide)) rfl (pa_cons (pv 0) (pa_cons (pe_callTy call_list_of (by rfl) T.b_list (by decide +kernel) (pa_cons (pv 1) pa_nil)) pa_nil)))))), ?_⟩
  obtain ⟨F0, ⟨x_points, x_ties, _⟩, y, s0, ⟨v_points, _, rfl, h_points, v_ties, _, rfl, h_ties, rfl⟩, hm, hQ, hE⟩ := h
  have L0 : Lat F0 H F0 H := .refl s0
  refine at_st (σ := [some v_points, some v_ties]) rfl ?_
  replace hm : row x_points x_ties = some y := hm
  unfold row at hm
  refine rd_dropX L0.fh (ex_call (EVA.x (eva_cons (ev_varF rfl h_points) (eva_cons (ev_var rfl h_ties) eva_nil)))) hm (fun e F1 H1 ee l => hE e ee F1 H1 (L0.trans l)) ?_
  intro x1 F2 H3 hm l4
  have L5 := L0.trans l4
  replace h_ties := up h_ties l4
  exact rd_retNk L5.fh (evn_call (eva_cons (ev_varF rfl h_points) (eva_cons (EVN.ev (evn_list (ev_var rfl h_ties))) eva_nil))) hm fun x p vs F1 H1 hm l h1 h2 h3 rv => hQ x (Option.some.inj hm).symm p vs F1 H1 (L5.trans l) (L5.h.free h1) h2 h3 rv
abbrev s_worth : Stmt := topS 15
theorem sc_worth : FnScope ["numbers", "q", "total", "number"] ["numbers", "q"] (defScope s_worth) := ⟨rfl, rfl, rfl, by decide +kernel, rfl, by decide +kernel, by decide +kernel⟩
theorem ok_worth {f : Addr} {fd : FuncData} (F : Fun K "worth" "worth" s_worth f fd) (gF : mg "worth" = some (.ref f)) (T : Txt K mg ad CW) : Fn P w K mg base CX0 1 "worth" ["numbers", "q"] (spO (β := Int) fun (x : (List Int) × Int × Unit) => worth x.1 x.2.1) := by
  refine ⟨f, _, gF, F.kp, F.binds (ps := ["numbers", "q"]) (fun _ _ _ _ _ _ us hl => match us, hl with | [_, _], _ => rfl), F.ok sc_worth (spO_len rfl) (fun cdv A outer s H vs Q E hr h => ?_)⟩
  refine ⟨_, (pss_cons (ps_set (i := 2) sc_worth.nd rfl (by first | exact Or.inl rfl | exact Or.inr rfl) pe_int)
    (pss_cons (ps_for PassesOwn.never rfl (pi_reversed (by rfl) T.b_reversed (pa_cons (pv 0) pa_nil)) (pg_name (i := 3) sc_worth.nd rfl (by first | exact Or.inl rfl | exact Or.inr rfl)) (pss_one (ps_set (i := 2) sc_worth.nd rfl (by first | exact Or.inl rfl | exact Or.inr rfl) (pe_op op_add (pe_op op_mul (pv 2) (pv 1)) (pv 3)))))
    (pss_one (ps_ret (pv 2))))), ?_⟩
  obtain ⟨F0, ⟨x_numbers, x_q, _⟩, y, s0, ⟨v_numbers, _, rfl, h_numbers, v_q, _, rfl, h_q, rfl⟩, hm, hQ⟩ := h
  have L0 : Lat F0 H F0 H := .refl s0
  refine at_st (σ := [some v_numbers, some v_q, none, none]) rfl ?_
  replace hm : worth x_numbers x_q = some y := hm
  unfold worth at hm
  refine rd_asg L0.fh ev_int hm ?_
  intro x1 v2 F3 H4 hm l5 h_total_6
  have L7 := L0.trans l5
  replace h_numbers := up h_numbers l5
  refine rd_for L7.fh (ei_rev (ev_var rfl h_numbers)) hm ?_
  intro xs8 J9 F10 H11 hm l12 wk13
  have L14 := L7.trans l12
  replace h_numbers := up h_numbers l12
  refine rd_loopG wk13 hm (fun (s : Int) σ_ F_ H_ => ∃ (v2_ : V) (o3_ : Option V), σ_ = [some v_numbers, some v_q, some v2_, o3_] ∧ Same F10 F_ ∧ Lat F0 H F_ H_ ∧ Rep.rp s v2_ F_ ∧ True) ⟨_, _, rfl, (.refl _), L14, (Flat.any h_total_6), trivial⟩ ?_ ?_ ?_
  · rintro s σ_ F_ H_ ⟨e15, e16, rfl, sf17, L18, h_total_19, -⟩
    exact ⟨sf17, L18.fh⟩
  · rintro q20 s21 σ_ F27 H28 v22 F29 H30 ⟨e31, e32, rfl, sf33, L34, h_total_35, -⟩ l23 rv24 s36 hm D26 hN25
    have L37 := L34.trans l23
    have sb38 := Same.trans sf33 l23.f
    refine gt_name ?_
    refine rd_asgL L37.fh (ev_op (ev_op (ev_varF rfl h_total_35) (ev_varF rfl h_q) rv_mul) (ev_varF rfl rv24) rv_add) hm ?_
    intro x39 v40 F41 H42 hm l43 h_total_44
    have L45 := L37.trans l43
    have sb46 := Same.trans sb38 l43.f
    obtain rfl := Option.some.inj hm
    exact hN25 _ _ _ ⟨_, _, rfl, sb46, L45, (Flat.any h_total_44), trivial⟩
  · rintro s47 σ_ F48 H49 hm ⟨e50, e51, rfl, sf52, L53, h_total_54, -⟩
    refine nx_with ?_
    exact rd_ret0 L53.fh (ev_varF rfl h_total_54) hm fun v F1 H1 l rv => hQ v F1 H1 (L53.trans l) rv
abbrev s_unlike : Stmt := topS 17
theorem sc_unlike : FnScope ["ties", "dyes", "low", "high"] ["ties", "dyes"] (defScope s_unlike) := ⟨rfl, rfl, rfl, by decide +kernel, rfl, by decide +kernel, by decide +kernel⟩
theorem ok_unlike {f : Addr} {fd : FuncData} (F : Fun K "unlike" "unlike" s_unlike f fd) (gF : mg "unlike" = some (.ref f)) (T : Txt K mg ad CW) : Fn P w K mg base CX0 1 "unlike" ["ties", "dyes"] (spO (β := Bool) fun (x : (List (Int × Int)) × (List Int) × Unit) => unlike x.1 x.2.1) := by
  refine ⟨f, _, gF, F.kp, F.binds (ps := ["ties", "dyes"]) (fun _ _ _ _ _ _ us hl => match us, hl with | [_, _], _ => rfl), F.ok sc_unlike (spO_len rfl) (fun cdv A outer s H vs Q E hr h => ?_)⟩
  refine ⟨_, (pss_cons (ps_for PassesOwn.never rfl (pi_list (pv 0)) (pg_tup rfl (pgs_cons (pg_name (i := 2) sc_unlike.nd rfl (by first | exact Or.inl rfl | exact Or.inr rfl)) (pgs_cons (pg_name (i := 3) sc_unlike.nd rfl (by first | exact Or.inl rfl | exact Or.inr rfl)) pgs_nil))) (pss_one (ps_if (pt_cmpR op_eq (pe_ix ix_list (pv 1) (pv 2) (fun _ _ => rfl)) (pe_ix ix_list (pv 1) (pv 3) (fun _ _ => rfl)) (nomark _)) (pss_one (ps_ret pe_bl)) pss_nil)))
    (pss_one (ps_ret pe_bl))), ?_⟩
  obtain ⟨F0, ⟨x_ties, x_dyes, _⟩, y, s0, ⟨v_ties, _, rfl, h_ties, v_dyes, _, rfl, h_dyes, rfl⟩, hm, hQ⟩ := h
  have L0 : Lat F0 H F0 H := .refl s0
  refine at_st (σ := [some v_ties, some v_dyes, none, none]) rfl ?_
  replace hm : unlike x_ties x_dyes = some y := hm
  unfold unlike at hm
  refine rd_for L0.fh (ei_list (ev_var rfl h_ties)) hm ?_
  intro xs1 J2 F3 H4 hm l5 wk6
  have L7 := L0.trans l5
  replace h_ties := up h_ties l5
  replace h_dyes := up h_dyes l5
  refine rd_loopR wk6 hm (fun (s : Unit) σ_ F_ H_ => ∃ (o2_ : Option V) (o3_ : Option V), σ_ = [some v_ties, some v_dyes, o2_, o3_] ∧ Same F3 F_ ∧ Lat F0 H F_ H_ ∧ True) ⟨_, _, rfl, (.refl _), L7, trivial⟩ ?_ ?_ ?_
  · rintro s σ_ F_ H_ ⟨e8, e9, rfl, sf10, L11, -⟩
    exact ⟨sf10, L11.fh⟩
  · rintro q12 s13 σ_ F19 H20 v14 F21 H22 ⟨e23, e24, rfl, sf25, L26, -⟩ l15 rv16 st29 hm D18 hD27 hN17 hR28
    replace hD27 : D18.rt = Q := hD27
    replace h_dyes := Rep.mono sf25 h_dyes
    have L30 := L26.trans l15
    have sb31 := Same.trans sf25 l15.f
    replace h_dyes := up h_dyes l15
    refine gt_pair rv16 l15.fh ?_
    intro v32 v33 h_low_34 h_high_35
    refine rd_if L30.fh (evt_of (ev_op (ev_op (ev_var rfl h_dyes) (ev_varF rfl h_low_34) rv_ixL) (ev_op (ev_var rfl h_dyes) (ev_varF rfl h_high_35) rv_ixL) rv_eqI)) hm ?_ ?_
    · intro F36 H37 _ hm l38
      have L39 := L30.trans l38
      have sb40 := Same.trans sb31 l38.f
      replace h_dyes := up h_dyes l38
      refine rd_ret L39.fh ev_bl hm ?_
      intro x_ v_ F1_ H1_ hm l_ rv_
      replace hm := hR28 _ (Option.some.inj hm).symm
      obtain rfl := Option.some.inj hm
      rw [hD27]
      exact hQ _ _ _ (L39.trans l_) rv_
    · intro F41 H42 _ hm l43
      have L44 := L30.trans l43
      have sb45 := Same.trans sb31 l43.f
      replace h_dyes := up h_dyes l43
      exact hN17 _ (Option.some.inj hm).symm _ _ _ ⟨_, _, rfl, sb45, L44, trivial⟩
  · rintro s46 σ_ F47 H48 hm ⟨e49, e50, rfl, sf51, L52, -⟩
    refine nx_with ?_
    exact rd_ret0 L52.fh ev_bl hm fun v F1 H1 l rv => hQ v F1 H1 (L52.trans l) rv
abbrev s_fewest : Stmt := topS 18
theorem sc_fewest : FnScope ["points", "ties", "numbers", "many"] ["points", "ties"] (defScope s_fewest) := ⟨rfl, rfl, rfl, by decide +kernel, rfl, by decide +kernel, by decide +kernel⟩
theorem ok_fewest {f : Addr} {fd : FuncData} (F : Fun K "fewest" "fewest" s_fewest f fd) (gF : mg "fewest" = some (.ref f)) (T : Txt K mg ad CW) (C_row : Fn P w K mg base (L2.CX P w) 24 "row" ["points", "ties"] (spXN (clO ad) (β := Int) fun (x : Int × (List (Int × Int)) × Unit) => row x.1 x.2.1)) (C_worth : Fn P w K mg base CX0 1 "worth" ["numbers", "q"] (spO (β := Int) fun (x : (List Int) × Int × Unit) => worth x.1 x.2.1)) : Fn P w K mg base (L2.CX P w) 25 "fewest" ["points", "ties"] (spX (clO ad) (β := Int) fun (x : Int × (List (Int × Int)) × Unit) => fewest x.1 x.2.1) := by
  refine ⟨f, _, gF, F.kp, F.binds (ps := ["points", "ties"]) (fun _ _ _ _ _ _ us hl => match us, hl with | [_, _], _ => rfl), F.okX sc_fewest (spX_len rfl) (fun cdv A outer s H vs Q E hr h => ?_)⟩
  refine ⟨_, (pss_cons (ps_set (i := 2) sc_fewest.nd rfl (by first | exact Or.inl rfl | exact Or.inr rfl) (pe_fnX (takes_of rfl rfl rfl rfl) C_row (hr.mono (by decide)) rfl (pa_cons (pv 0) (pa_cons (pv 1) pa_nil))))
    (pss_cons (ps_set (i := 3) sc_fewest.nd rfl (by first | exact Or.inl rfl | exact Or.inr rfl) pe_int)
    (PSs.nox (pss_cons (ps_while PassesOwn.never (pt_cmpR op_eq (pe_fn C_worth (hr.mono (by decide)) rfl (pa_cons (pv 2) (pa_cons (pv 3) pa_nil))) pe_int (nomark _)) (pss_one (ps_set (i := 3) sc_fewest.nd rfl (by first | exact Or.inl rfl | exact Or.inr rfl) (pe_op op_add (pv 3) pe_int))))
    (pss_one (ps_ret (pv 3))))))), ?_⟩
  obtain ⟨F0, ⟨x_points, x_ties, _⟩, y, s0, ⟨v_points, _, rfl, h_points, v_ties, _, rfl, h_ties, rfl⟩, hm, hQ, hE⟩ := h
  have L0 : Lat F0 H F0 H := .refl s0
  refine at_st (σ := [some v_points, some v_ties, none, none]) rfl ?_
  replace hm : fewest x_points x_ties = some y := hm
  unfold fewest at hm
  refine rd_asgX L0.fh (ex_callN (EVA.x (eva_cons (ev_varF rfl h_points) (eva_cons (ev_var rfl h_ties) eva_nil)))) hm (fun e F1 H1 ee l => hE e ee F1 H1 (L0.trans l)) ?_
  intro x1 v2 F3 H4 hm l5 h_numbers_6
  have L7 := L0.trans l5
  refine rd_asg L7.fh ev_int hm ?_
  intro x8 v9 F10 H11 hm l12 h_many_13
  have L14 := L7.trans l12
  replace h_numbers_6 := up h_numbers_6 l12
  refine rd_whileG hm (fun (s : Int) σ_ F_ H_ => ∃ (v3_ : V), σ_ = [some v_points, some v_ties, some v2, some v3_] ∧ Same F10 F_ ∧ Lat F0 H F_ H_ ∧ Rep.rp s v3_ F_ ∧ True) ⟨_, rfl, (.refl _), L14, (Flat.any h_many_13), trivial⟩ ?_ ?_ ?_ ?_
  · rintro s σ_ F_ H_ ⟨e15, rfl, sf16, L17, h_many_18, -⟩
    exact L17.fh
  · rintro s19 σ_ F20 H21 ⟨e22, rfl, sf23, L24, h_many_25, -⟩
    replace h_numbers_6 := Rep.mono sf23 h_numbers_6
    exact (evt_of (ev_op (ev_call (eva_cons (ev_var rfl h_numbers_6) (eva_cons (ev_varF rfl h_many_25) eva_nil))) ev_int rv_eqI))
  · rintro s26 σ_ F27 H28 F29 H30 ⟨e34, rfl, sf35, L36, h_many_37, -⟩ l31 s38 hm D32 hN33
    replace h_numbers_6 := Rep.mono sf35 h_numbers_6
    have L39 := L36.trans l31
    have sb40 := Same.trans sf35 l31.f
    replace h_numbers_6 := up h_numbers_6 l31
    refine rd_asgL L39.fh (ev_op (ev_varF rfl h_many_37) ev_int rv_add) hm ?_
    intro x41 v42 F43 H44 hm l45 h_many_46
    have L47 := L39.trans l45
    have sb48 := Same.trans sb40 l45.f
    replace h_numbers_6 := up h_numbers_6 l45
    obtain rfl := Option.some.inj hm
    exact hN33 _ _ _ ⟨_, rfl, sb48, L47, (Flat.any h_many_46), trivial⟩
  · rintro s49 σ_ F50 H51 F52 H53 hm ⟨e55, rfl, sf56, L57, h_many_58, -⟩ l54
    have L59 := L57.trans l54
    exact rd_ret L59.fh (ev_varF rfl h_many_58) hm fun x v F1 H1 hm l rv => hQ x (Option.some.inj hm).symm v F1 H1 (L59.trans l) rv
abbrev s_extended : Stmt := topS 19
theorem sc_extended : FnScope ["points", "ties", "many", "dyes", "at", "near", "dye", "found", "low", "high"] ["points", "ties", "many", "dyes"] (defScope s_extended) := ⟨rfl, rfl, rfl, by decide +kernel, rfl, by decide +kernel, by decide +kernel⟩
theorem ok_extended {f : Addr} {fd : FuncData} (F : Fun K "extended" "extended" s_extended f fd) (gF : mg "extended" = some (.ref f)) (T : Txt K mg ad CW) : ∀ d_ : Nat, Fn P w K mg base CX0 (1 + d_) "extended" ["points", "ties", "many", "dyes"] (spO (β := (Option (List Int))) fun (x : Int × (List (Int × Int)) × Int × (List Int) × Unit) => extendedF d_ x.1 x.2.1 x.2.2.1 x.2.2.2.1)
  | 0 => ⟨f, _, gF, F.kp, F.binds (ps := ["points", "ties", "many", "dyes"]) (fun _ _ _ _ _ _ us hl => match us, hl with | [_, _, _, _], _ => rfl), F.ok (k := 0) sc_extended (spO_len rfl) (fun cdv A outer s H vs Q E hr h => by obtain ⟨F0, _, y, s0, _, hm, _⟩ := h; cases hm)⟩
  | n_ + 1 => by
    have C_extended := ok_extended F gF T  n_
    refine ⟨f, _, gF, F.kp, F.binds (ps := ["points", "ties", "many", "dyes"]) (fun _ _ _ _ _ _ us hl => match us, hl with | [_, _, _, _], _ => rfl), F.ok (k := 1 + n_) sc_extended (spO_len rfl) (fun cdv A outer s H vs Q E hr h => ?_)⟩
    refine ⟨_, (pss_cons (ps_set (i := 4) sc_extended.nd rfl (by first | exact Or.inl rfl | exact Or.inr rfl) (pe_callB call_len_seq (by rfl) T.b_len PySem.boot_len (pa_cons (pv 3) pa_nil)))
    (pss_cons (ps_if (pt_cmpR op_eq (pv 4) (pv 0) (nomark _)) (pss_one (ps_ret (pv 3))) pss_nil)
    (pss_cons (ps_setLc (i := 5) (own := [("low", 8), ("high", 9)]) (g := (gTup K 2 (gCons (gName 8) (gCons (gName 9) gNil)))) rfl sc_extended.nd rfl rfl (sw_true rfl rfl rfl (by decide +kernel)) (pi_list (pv 1)) (blkOk_by (N := ["points", "ties", "many", "dyes", "at", "near", "dye", "found", "low", "high"]) (sc := defScope s_extended) (by decide +kernel)) (fun _ _ _ _ _ => (pg_tup rfl (pgs_cons (pg_name (i := 8) sc_extended.nd rfl (by first | exact Or.inl rfl | exact Or.inr rfl)) (pgs_cons (pg_name (i := 9) sc_extended.nd rfl (by first | exact Or.inl rfl | exact Or.inr rfl)) pgs_nil)))) (fun _ _ _ _ _ => (pts_one (pt_cmpR op_eq (pv 9) (pv 4) (nomark _)))) (fun _ _ _ _ _ => (pe_ix (ix_listK rfl) (pv 3) (pv 8) (fun _ _ => rfl))))
    (pss_cons (ps_for PassesOwn.never rfl (pi_range1 (by rfl) T.b_range (pa_cons (pv 2) pa_nil)) (pg_name (i := 6) sc_extended.nd rfl (by first | exact Or.inl rfl | exact Or.inr rfl)) (pss_one (ps_if (pt_cmpR op_notIn_seq (pv 6) (pv 5) (by rfl)) (pss_cons (ps_set (i := 7) sc_extended.nd rfl (by first | exact Or.inl rfl | exact Or.inr rfl) (pe_fn C_extended (hr.mono (by omega)) rfl (pa_cons (pv 0) (pa_cons (pv 1) (pa_cons (pv 2) (pa_cons (pe_op op_cat (pv 3) (pe_lst (pa_cons (pv 6) pa_nil))) pa_nil))))))
    (pss_one (ps_if (pt_cmp (pc_notN (pv 7)) rfl) (pss_one (ps_ret (pv 7))) pss_nil))) pss_nil)))
    (pss_one (ps_ret pe_non)))))), ?_⟩
    obtain ⟨F0, ⟨x_points, x_ties, x_many, x_dyes, _⟩, y, s0, ⟨v_points, _, rfl, h_points, v_ties, _, rfl, h_ties, v_many, _, rfl, h_many, v_dyes, _, rfl, h_dyes, rfl⟩, hm, hQ⟩ := h
    have L0 : Lat F0 H F0 H := .refl s0
    refine at_st (σ := [some v_points, some v_ties, some v_many, some v_dyes, none, none, none, none, none, none]) rfl ?_
    replace hm : extendedF (n_ + 1) x_points x_ties x_many x_dyes = some y := hm
    unfold extendedF at hm
    refine rd_asg L0.fh (ev_len (ev_var rfl h_dyes)) hm ?_
    intro x1 v2 F3 H4 hm l5 h_at_6
    have L7 := L0.trans l5
    replace h_ties := up h_ties l5
    replace h_dyes := up h_dyes l5
    refine rd_guard L7.fh (evt_of (ev_op (ev_varF rfl h_at_6) (ev_varF rfl h_points) rv_eqI)) hm ?_ ?_
    · intro F8 H9 _ hm l10
      have L11 := L7.trans l10
      replace h_dyes := up h_dyes l10
      exact rd_ret0 L11.fh (ev_some (ev_var rfl h_dyes)) hm fun v F1 H1 l rv => hQ v F1 H1 (L11.trans l) rv
    · intro F12 H13 _ hm l14
      have L15 := L7.trans l14
      replace h_ties := up h_ties l14
      replace h_dyes := up h_dyes l14
      refine rd_asg L15.fh (EVN.ev (evn_lc (ei_list (ev_var rfl h_ties)) (fun x22 v23 _ _ _ l25 r24 k26 => gt_pair r24 l25.fh fun _ _ r27 r28 => (k26 _ rfl (evt_of (ev_op (ev_varF rfl r28) (ev_varF rfl h_at_6) rv_eqI)) (ev_op (ev_var rfl (up h_dyes l25)) (ev_varF rfl r27) rv_ixL))))) hm ?_
      intro x16 v17 F18 H19 hm l20 h_near_21
      have L29 := L15.trans l20
      replace h_ties := up h_ties l20
      replace h_dyes := up h_dyes l20
      refine rd_for L29.fh (ei_range1 (ev_varF rfl h_many)) hm ?_
      intro xs30 J31 F32 H33 hm l34 wk35
      have L36 := L29.trans l34
      replace h_ties := up h_ties l34
      replace h_dyes := up h_dyes l34
      replace h_near_21 := up h_near_21 l34
      refine rd_loopR wk35 hm (fun (s : Unit) σ_ F_ H_ => ∃ (o6_ : Option V) (o7_ : Option V), σ_ = [some v_points, some v_ties, some v_many, some v_dyes, some v2, some v17, o6_, o7_, none, none] ∧ Same F32 F_ ∧ Lat F0 H F_ H_ ∧ True) ⟨_, _, rfl, (.refl _), L36, trivial⟩ ?_ ?_ ?_
      · rintro s σ_ F_ H_ ⟨e37, e38, rfl, sf39, L40, -⟩
        exact ⟨sf39, L40.fh⟩
      · rintro q41 s42 σ_ F48 H49 v43 F50 H51 ⟨e52, e53, rfl, sf54, L55, -⟩ l44 rv45 st58 hm D47 hD56 hN46 hR57
        replace hD56 : D47.rt = Q := hD56
        replace h_ties := Rep.mono sf54 h_ties
        replace h_dyes := Rep.mono sf54 h_dyes
        replace h_near_21 := Rep.mono sf54 h_near_21
        have L59 := L55.trans l44
        have sb60 := Same.trans sf54 l44.f
        replace h_ties := up h_ties l44
        replace h_dyes := up h_dyes l44
        replace h_near_21 := up h_near_21 l44
        refine gt_name ?_
        refine rd_if L59.fh (evt_of (ev_op (ev_varF rfl rv45) (ev_var rfl h_near_21) rv_notInI)) hm ?_ ?_
        · intro F61 H62 _ hm l63
          have L64 := L59.trans l63
          have sb65 := Same.trans sb60 l63.f
          replace h_ties := up h_ties l63
          replace h_dyes := up h_dyes l63
          replace h_near_21 := up h_near_21 l63
          refine rd_asg L64.fh (ev_call (eva_cons (ev_varF rfl h_points) (eva_cons (ev_var rfl h_ties) (eva_cons (ev_varF rfl h_many) (eva_cons (EVN.ev (evn_op (ev_var rfl h_dyes) (EVN.ev (evn_lst (evl_cons (ev_varF rfl rv45) evl_nil))) rvn_cat)) eva_nil))))) hm ?_
          intro x66 v67 F68 H69 hm l70 h_found_71
          have L72 := L64.trans l70
          have sb73 := Same.trans sb65 l70.f
          replace h_ties := up h_ties l70
          replace h_dyes := up h_dyes l70
          replace h_near_21 := up h_near_21 l70
          refine rd_if L72.fh (evt_b (ev_notN (fun x v F h => nn_list x v F h) (ev_var rfl h_found_71))) hm ?_ ?_
          · intro F74 H75 _ hm l76
            have L77 := L72.trans l76
            have sb78 := Same.trans sb73 l76.f
            replace h_ties := up h_ties l76
            replace h_dyes := up h_dyes l76
            replace h_near_21 := up h_near_21 l76
            replace h_found_71 := up h_found_71 l76
            refine rd_ret L77.fh (ev_var rfl h_found_71) hm ?_
            intro x_ v_ F1_ H1_ hm l_ rv_
            replace hm := hR57 _ (Option.some.inj hm).symm
            obtain rfl := Option.some.inj hm
            rw [hD56]
            exact hQ _ _ _ (L77.trans l_) rv_
          · intro F79 H80 _ hm l81
            have L82 := L72.trans l81
            have sb83 := Same.trans sb73 l81.f
            replace h_ties := up h_ties l81
            replace h_dyes := up h_dyes l81
            replace h_near_21 := up h_near_21 l81
            replace h_found_71 := up h_found_71 l81
            exact hN46 _ (Option.some.inj hm).symm _ _ _ ⟨_, _, rfl, sb83, L82, trivial⟩
        · intro F84 H85 _ hm l86
          have L87 := L59.trans l86
          have sb88 := Same.trans sb60 l86.f
          replace h_ties := up h_ties l86
          replace h_dyes := up h_dyes l86
          replace h_near_21 := up h_near_21 l86
          exact hN46 _ (Option.some.inj hm).symm _ _ _ ⟨_, _, rfl, sb88, L87, trivial⟩
      · rintro s89 σ_ F90 H91 hm ⟨e92, e93, rfl, sf94, L95, -⟩
        refine nx_with ?_
        exact rd_ret0 L95.fh (ev_non (α := List Int)) hm fun v F1 H1 l rv => hQ v F1 H1 (L95.trans l) rv
abbrev s_least : Stmt := topS 20
theorem sc_least : FnScope ["points", "ties", "many"] ["points", "ties", "many"] (defScope s_least) := ⟨rfl, rfl, rfl, by decide +kernel, rfl, by decide +kernel, by decide +kernel⟩
theorem ok_least {f : Addr} {fd : FuncData} (F : Fun K "least" "least" s_least f fd) (gF : mg "least" = some (.ref f)) (T : Txt K mg ad CW) (C_asked_web : Fn P w K mg base (L2.CX P w) 2 "asked_web" ["points", "ties"] (spX (clO ad) (β := Unit) fun (x : Int × (List (Int × Int)) × Unit) => asked_web x.1 x.2.1)) (C_extended : Fn P w K mg base CX0 11 "extended" ["points", "ties", "many", "dyes"] (spO (β := (Option (List Int))) fun (x : Int × (List (Int × Int)) × Int × (List Int) × Unit) => extended x.1 x.2.1 x.2.2.1 x.2.2.2.1)) : Fn P w K mg base (L2.CX P w) 12 "least" ["points", "ties", "many"] (spX (clO ad) (β := (Option (List Int))) fun (x : Int × (List (Int × Int)) × Int × Unit) => least x.1 x.2.1 x.2.2.1) := by
  refine ⟨f, _, gF, F.kp, F.binds (ps := ["points", "ties", "many"]) (fun _ _ _ _ _ _ us hl => match us, hl with | [_, _, _], _ => rfl), F.okX sc_least (spX_len rfl) (fun cdv A outer s H vs Q E hr h => ?_)⟩
  refine ⟨_, (pss_cons (ps_expr (pe_fnX (takes_of rfl rfl rfl rfl) C_asked_web (hr.mono (by decide)) rfl (pa_cons (pv 0) (pa_cons (pv 1) pa_nil))))
    (pss_one (ps_ret (pe_fn C_extended (hr.mono (by decide)) rfl (pa_cons (pv 0) (pa_cons (pv 1) (pa_cons (pv 2) (pa_cons (pe_lst pa_nil) pa_nil)))))))), ?_⟩
  obtain ⟨F0, ⟨x_points, x_ties, x_many, _⟩, y, s0, ⟨v_points, _, rfl, h_points, v_ties, _, rfl, h_ties, v_many, _, rfl, h_many, rfl⟩, hm, hQ, hE⟩ := h
  have L0 : Lat F0 H F0 H := .refl s0
  refine at_st (σ := [some v_points, some v_ties, some v_many]) rfl ?_
  replace hm : least x_points x_ties x_many = some y := hm
  unfold least at hm
  refine rd_dropX L0.fh (ex_call (EVA.x (eva_cons (ev_varF rfl h_points) (eva_cons (ev_var rfl h_ties) eva_nil)))) hm (fun e F1 H1 ee l => hE e ee F1 H1 (L0.trans l)) ?_
  intro x1 F2 H3 hm l4
  have L5 := L0.trans l4
  replace h_ties := up h_ties l4
  exact rd_ret L5.fh (ev_call (eva_cons (ev_varF rfl h_points) (eva_cons (ev_var rfl h_ties) (eva_cons (ev_varF rfl h_many) (eva_cons (EVN.ev (evn_nil (α := Int))) eva_nil))))) hm fun x v F1 H1 hm l rv => hQ x (Option.some.inj hm).symm v F1 H1 (L5.trans l) rv
abbrev s_setting_of : Stmt := topS 22
theorem sc_setting_of : FnScope ["points", "ties", "dyes", "low", "high"] ["points", "ties", "dyes"] (defScope s_setting_of) := ⟨rfl, rfl, rfl, by decide +kernel, rfl, by decide +kernel, by decide +kernel⟩
theorem ok_setting_of {f : Addr} {fd : FuncData} (F : Fun K "setting_of" "setting_of" s_setting_of f fd) (gF : mg "setting_of" = some (.ref f)) (T : Txt K mg ad CW) (C_asked_web : Fn P w K mg base (L2.CX P w) 2 "asked_web" ["points", "ties"] (spX (clO ad) (β := Unit) fun (x : Int × (List (Int × Int)) × Unit) => asked_web x.1 x.2.1)) (C_unlike : Fn P w K mg base CX0 1 "unlike" ["ties", "dyes"] (spO (β := Bool) fun (x : (List (Int × Int)) × (List Int) × Unit) => unlike x.1 x.2.1)) : Fn P w K mg base (L2.CX P w) 3 "setting_of" ["points", "ties", "dyes"] (spXN (clO ad) (β := Bool) fun (x : Int × (List (Int × Int)) × (List Int) × Unit) => setting_of x.1 x.2.1 x.2.2.1) := by
  refine ⟨f, _, gF, F.kp, F.binds (ps := ["points", "ties", "dyes"]) (fun _ _ _ _ _ _ us hl => match us, hl with | [_, _, _], _ => rfl), F.okX sc_setting_of (spXN_len rfl) (fun cdv A outer s H vs Q E hr h => ?_)⟩
  refine ⟨_, (pss_cons (ps_expr (pe_fnX (takes_of rfl rfl rfl rfl) C_asked_web (hr.mono (by decide)) rfl (pa_cons (pv 0) (pa_cons (pv 1) pa_nil))))
    (pss_cons (ps_if (pt_not (pt_val (pe_fn C_unlike (hr.mono (by decide)) rfl (pa_cons (pv 1) (pa_cons (pv 2) pa_nil))))) (pss_one (ps_raiseE rfl (takes_of rfl rfl rfl rfl) T.x_NoDyeing rfl)) pss_nil)
    (pss_one (ps_ret (pe_lc (own := [("low", 3), ("high", 4)]) (g := (gTup K 2 (gCons (gName 3) (gCons (gName 4) gNil)))) rfl sc_setting_of.nd (pi_list (pv 1)) (blkOk_by (N := ["points", "ties", "dyes", "low", "high"]) (sc := defScope s_setting_of) (by decide +kernel)) (fun _ _ _ _ _ => (pg_tup rfl (pgs_cons (pg_name (i := 3) sc_setting_of.nd rfl (by first | exact Or.inl rfl | exact Or.inr rfl)) (pgs_cons (pg_name (i := 4) sc_setting_of.nd rfl (by first | exact Or.inl rfl | exact Or.inr rfl)) pgs_nil)))) (fun _ _ _ _ _ => pts_nil) (fun _ _ _ _ _ => (pe_cmpR op_lt (pe_ix (ix_listK rfl) (pv 2) (pv 3) (fun _ _ => rfl)) (pe_ix (ix_listK rfl) (pv 2) (pv 4) (fun _ _ => rfl)) (nomark _)))))))), ?_⟩
  obtain ⟨F0, ⟨x_points, x_ties, x_dyes, _⟩, y, s0, ⟨v_points, _, rfl, h_points, v_ties, _, rfl, h_ties, v_dyes, _, rfl, h_dyes, rfl⟩, hm, hQ, hE⟩ := h
  have L0 : Lat F0 H F0 H := .refl s0
  refine at_st (σ := [some v_points, some v_ties, some v_dyes, none, none]) rfl ?_
  replace hm : setting_of x_points x_ties x_dyes = some y := hm
  unfold setting_of at hm
  refine rd_dropX L0.fh (ex_call (EVA.x (eva_cons (ev_varF rfl h_points) (eva_cons (ev_var rfl h_ties) eva_nil)))) hm (fun e F1 H1 ee l => hE e ee F1 H1 (L0.trans l)) ?_
  intro x1 F2 H3 hm l4
  have L5 := L0.trans l4
  replace h_ties := up h_ties l4
  replace h_dyes := up h_dyes l4
  refine rd_guard L5.fh (evt_not (evt_b (ev_call (eva_cons (ev_var rfl h_ties) (eva_cons (ev_var rfl h_dyes) eva_nil))))) hm ?_ ?_
  · intro F6 H7 _ hm l8
    have L9 := L5.trans l8
    exact (fun e F1 H1 ee l => hE e ee F1 H1 (L9.trans l)) _ _ _ (Option.some.inj hm).symm (.refl L9.fh)
  · intro F10 H11 _ hm l12
    have L13 := L5.trans l12
    replace h_ties := up h_ties l12
    replace h_dyes := up h_dyes l12
    exact rd_retNk L13.fh (evn_lc (ei_list (ev_var rfl h_ties)) (fun x14 v15 _ _ _ l17 r16 k18 => gt_pair r16 l17.fh fun _ _ r19 r20 => (k18 _ rfl evt_yes (ev_op (ev_op (ev_var rfl (up h_dyes l17)) (ev_varF rfl r19) rv_ixL) (ev_op (ev_var rfl (up h_dyes l17)) (ev_varF rfl r20) rv_ixL) rv_cmp)))) hm fun x p vs F1 H1 hm l h1 h2 h3 rv => hQ x (Option.some.inj hm).symm p vs F1 H1 (L13.trans l) (L13.h.free h1) h2 h3 rv
abbrev s_flattest : Stmt := topS 23
theorem sc_flattest : FnScope ["points", "ties"] ["points", "ties"] (defScope s_flattest) := ⟨rfl, rfl, rfl, by decide +kernel, rfl, by decide +kernel, by decide +kernel⟩
theorem ok_flattest {f : Addr} {fd : FuncData} (F : Fun K "flattest" "flattest" s_flattest f fd) (gF : mg "flattest" = some (.ref f)) (T : Txt K mg ad CW) (C_setting_of : Fn P w K mg base (L2.CX P w) 3 "setting_of" ["points", "ties", "dyes"] (spXN (clO ad) (β := Bool) fun (x : Int × (List (Int × Int)) × (List Int) × Unit) => setting_of x.1 x.2.1 x.2.2.1)) (C_least : Fn P w K mg base (L2.CX P w) 12 "least" ["points", "ties", "many"] (spX (clO ad) (β := (Option (List Int))) fun (x : Int × (List (Int × Int)) × Int × Unit) => least x.1 x.2.1 x.2.2.1)) (C_fewest : Fn P w K mg base (L2.CX P w) 25 "fewest" ["points", "ties"] (spX (clO ad) (β := Int) fun (x : Int × (List (Int × Int)) × Unit) => fewest x.1 x.2.1)) : Fn P w K mg base (L2.CX P w) 26 "flattest" ["points", "ties"] (spX (clO ad) (β := (List Bool)) fun (x : Int × (List (Int × Int)) × Unit) => flattest x.1 x.2.1) := by
  refine ⟨f, _, gF, F.kp, F.binds (ps := ["points", "ties"]) (fun _ _ _ _ _ _ us hl => match us, hl with | [_, _], _ => rfl), F.okX sc_flattest (spX_len rfl) (fun cdv A outer s H vs Q E hr h => ?_)⟩
  refine ⟨_, (pss_one (ps_ret (pe_fnX (takes_of rfl rfl rfl rfl) C_setting_of (hr.mono (by decide)) rfl (pa_cons (pv 0) (pa_cons (pv 1) (pa_cons (pe_fnX (takes_of rfl rfl rfl rfl) C_least (hr.mono (by decide)) rfl (pa_cons (pv 0) (pa_cons (pv 1) (pa_cons (pe_fnX (takes_of rfl rfl rfl rfl) C_fewest (hr.mono (by decide)) rfl (pa_cons (pv 0) (pa_cons (pv 1) pa_nil))) pa_nil)))) pa_nil)))))), ?_⟩
  obtain ⟨F0, ⟨x_points, x_ties, _⟩, y, s0, ⟨v_points, _, rfl, h_points, v_ties, _, rfl, h_ties, rfl⟩, hm, hQ, hE⟩ := h
  have L0 : Lat F0 H F0 H := .refl s0
  refine at_st (σ := [some v_points, some v_ties]) rfl ?_
  replace hm : flattest x_points x_ties = some y := hm
  unfold flattest at hm
  exact rd_retX L0.fh (ex_callN (exa_cons (EV.x (ev_varF rfl h_points)) (exa_cons (EV.x (ev_var rfl h_ties)) (exa_cons (ex_un (ex_call (exa_cons (EV.x (ev_varF rfl h_points)) (exa_cons (EV.x (ev_var rfl h_ties)) (exa_cons (ex_call (EVA.x (eva_cons (ev_varF rfl h_points) (eva_cons (ev_var rfl h_ties) eva_nil)))) (EVA.x eva_nil)))))) (EVA.x eva_nil))))) hm (fun e F1 H1 ee l => hE e ee F1 H1 (L0.trans l)) fun x v F1 H1 ex l rv => hQ x ex v F1 H1 (L0.trans l) rv
abbrev s_cell_at : Stmt := topS 25
theorem sc_cell_at : FnScope ["script", "k"] ["script", "k"] (defScope s_cell_at) := ⟨rfl, rfl, rfl, by decide +kernel, rfl, by decide +kernel, by decide +kernel⟩
theorem ok_cell_at {f : Addr} {fd : FuncData} (F : Fun K "_law_cell_at" "_law_cell_at" s_cell_at f fd) (gF : mg "_law_cell_at" = some (.ref f)) (T : Txt K mg ad CW) : Fn P w K mg base CX0 1 "_law_cell_at" ["script", "k"] (spO (β := Int) fun (x : (Scr K) × Int × Unit) => cell_at x.1.l x.2.1) := by
  refine ⟨f, _, gF, F.kp, F.binds (ps := ["script", "k"]) (fun _ _ _ _ _ _ us hl => match us, hl with | [_, _], _ => rfl), F.ok sc_cell_at (spO_len rfl) (fun cdv A outer s H vs Q E hr h => ?_)⟩
  refine ⟨_, (pss_cons (ps_if (pt_cmpR op_lt (pv 1) (pe_callB call_len_seq (by rfl) T.b_len PySem.boot_len (pa_cons (pv 0) pa_nil)) (nomark _)) (pss_one (ps_ret (pe_ix ix_list (pv 0) (pv 1) (fun _ _ => rfl)))) pss_nil)
    (pss_one (ps_ret pe_int))), ?_⟩
  obtain ⟨F0, ⟨x_script, x_k, _⟩, y, s0, ⟨v_script, _, rfl, h_script, v_k, _, rfl, h_k, rfl⟩, hm, hQ⟩ := h
  have L0 : Lat F0 H F0 H := .refl s0
  refine at_st (σ := [some v_script, some v_k]) rfl ?_
  replace hm : cell_at x_script.l x_k = some y := hm
  unfold cell_at at hm
  refine rd_guard L0.fh (evt_of (ev_op (ev_varF rfl h_k) (ev_lenS (ev_var rfl h_script)) rv_cmp)) hm ?_ ?_
  · intro F1 H2 _ hm l3
    have L4 := L0.trans l3
    replace h_script := up h_script l3
    exact rd_ret0 L4.fh (ev_op (ev_var rfl h_script) (ev_varF rfl h_k) rv_ixS) hm fun v F1 H1 l rv => hQ v F1 H1 (L4.trans l) rv
  · intro F5 H6 _ hm l7
    have L8 := L0.trans l7
    exact rd_ret0 L8.fh ev_int hm fun v F1 H1 l rv => hQ v F1 H1 (L8.trans l) rv
abbrev s_next : Stmt := topS 26
theorem sc_next : FnScope ["seed"] ["seed"] (defScope s_next) := ⟨rfl, rfl, rfl, by decide +kernel, rfl, by decide +kernel, by decide +kernel⟩
theorem ok_next {f : Addr} {fd : FuncData} (F : Fun K "_law_next" "_law_next" s_next f fd) (gF : mg "_law_next" = some (.ref f)) (T : Txt K mg ad CW) : Fn P w K mg base CX0 1 "_law_next" ["seed"] (spO (β := Int) fun (x : Int × Unit) => next x.1) := by
  refine ⟨f, _, gF, F.kp, F.binds (ps := ["seed"]) (fun _ _ _ _ _ _ us hl => match us, hl with | [_], _ => rfl), F.ok sc_next (spO_len rfl) (fun cdv A outer s H vs Q E hr h => ?_)⟩
  refine ⟨_, (pss_one (ps_ret (pe_op op_mod (pe_op op_add (pe_op op_mul (pv 0) pe_int) pe_int) pe_int))), ?_⟩
  obtain ⟨F0, ⟨x_seed, _⟩, y, s0, ⟨v_seed, _, rfl, h_seed, rfl⟩, hm, hQ⟩ := h
  have L0 : Lat F0 H F0 H := .refl s0
  refine at_st (σ := [some v_seed]) rfl ?_
  replace hm : next x_seed = some y := hm
  unfold next at hm
  exact rd_ret0 L0.fh (ev_op (ev_op (ev_op (ev_varF rfl h_seed) ev_int rv_mul) ev_int rv_add) ev_int rv_mod) hm fun v F1 H1 l rv => hQ v F1 H1 (L0.trans l) rv
abbrev s_web_by : Stmt := topS 27
theorem sc_web_by : FnScope ["script", "k", "most", "cap", "points", "seed", "thick", "ties", "low", "high"] ["script", "k", "most", "cap"] (defScope s_web_by) := ⟨rfl, rfl, rfl, by decide +kernel, rfl, by decide +kernel, by decide +kernel⟩
theorem ok_web_by {f : Addr} {fd : FuncData} (F : Fun K "_law_web_by" "_law_web_by" s_web_by f fd) (gF : mg "_law_web_by" = some (.ref f)) (T : Txt K mg ad CW) (C_cell_at : Fn P w K mg base CX0 1 "_law_cell_at" ["script", "k"] (spO (β := Int) fun (x : (Scr K) × Int × Unit) => cell_at x.1.l x.2.1)) (C_next : Fn P w K mg base CX0 1 "_law_next" ["seed"] (spO (β := Int) fun (x : Int × Unit) => next x.1)) : Fn P w K mg base CX0 2 "_law_web_by" ["script", "k", "most", "cap"] (spO (β := (Int × (List (Int × Int)))) fun (x : (Scr K) × Int × Int × Int × Unit) => web_by x.1.l x.2.1 x.2.2.1 x.2.2.2.1) := by
  refine ⟨f, _, gF, F.kp, F.binds (ps := ["script", "k", "most", "cap"]) (fun _ _ _ _ _ _ us hl => match us, hl with | [_, _, _, _], _ => rfl), F.ok sc_web_by (spO_len rfl) (fun cdv A outer s H vs Q E hr h => ?_)⟩
  refine ⟨_, (pss_cons (ps_set (i := 4) sc_web_by.nd rfl (by first | exact Or.inl rfl | exact Or.inr rfl) (pe_op op_mod (pe_fn C_cell_at (hr.mono (by decide)) rfl (pa_cons (pv 0) (pa_cons (pv 1) pa_nil))) (pe_op op_add (pv 2) pe_int)))
    (pss_cons (ps_set (i := 5) sc_web_by.nd rfl (by first | exact Or.inl rfl | exact Or.inr rfl) (pe_fn C_next (hr.mono (by decide)) rfl (pa_cons (pe_fn C_cell_at (hr.mono (by decide)) rfl (pa_cons (pv 0) (pa_cons (pe_op op_add (pv 1) pe_int) pa_nil))) pa_nil)))
    (pss_cons (ps_set (i := 6) sc_web_by.nd rfl (by first | exact Or.inl rfl | exact Or.inr rfl) (pe_op op_add pe_int (pe_op op_mod (pe_fn C_cell_at (hr.mono (by decide)) rfl (pa_cons (pv 0) (pa_cons (pe_op op_add (pv 1) pe_int) pa_nil))) pe_int)))
    (pss_cons (ps_set (i := 7) sc_web_by.nd rfl (by first | exact Or.inl rfl | exact Or.inr rfl) (pe_lst pa_nil))
    (pss_cons (ps_for PassesOwn.never rfl (pi_range1 (by rfl) T.b_range (pa_cons (pv 4) pa_nil)) (pg_name (i := 8) sc_web_by.nd rfl (by first | exact Or.inl rfl | exact Or.inr rfl)) (pss_one (ps_for PassesOwn.never rfl (pi_range2 (by rfl) T.b_range (pa_cons (pe_op op_add (pv 8) pe_int) (pa_cons (pv 4) pa_nil))) (pg_name (i := 9) sc_web_by.nd rfl (by first | exact Or.inl rfl | exact Or.inr rfl)) (pss_cons (ps_if (PW.pt (pw_and (pt_cmpR op_lt (pe_op op_mod (pe_op op_fdiv (pv 5) pe_int) pe_int) (pv 6) (nomark _)) (pw_and1 (pt_cmpR op_lt (pe_callB call_len_seq (by rfl) T.b_len PySem.boot_len (pa_cons (pv 7) pa_nil)) (pv 3) (nomark _))))) (pss_one (ps_expr (pe_bm PySem.F.plainAttrs_list PySem.F.slot_list_append PySem.F.type_list_append mt_append (pv 7) (pa_cons (pe_tup (pa_cons (pv 8) (pa_cons (pv 9) pa_nil))) pa_nil)))) pss_nil)
    (pss_one (ps_set (i := 5) sc_web_by.nd rfl (by first | exact Or.inl rfl | exact Or.inr rfl) (pe_fn C_next (hr.mono (by decide)) rfl (pa_cons (pv 5) pa_nil))))))))
    (pss_one (ps_ret (pe_tup (pa_cons (pv 4) (pa_cons (pv 7) pa_nil)))))))))), ?_⟩
  obtain ⟨F0, ⟨x_script, x_k, x_most, x_cap, _⟩, y, s0, ⟨v_script, _, rfl, h_script, v_k, _, rfl, h_k, v_most, _, rfl, h_most, v_cap, _, rfl, h_cap, rfl⟩, hm, hQ⟩ := h
  have L0 : Lat F0 H F0 H := .refl s0
  refine at_st (σ := [some v_script, some v_k, some v_most, some v_cap, none, none, none, none, none, none]) rfl ?_
  replace hm : web_by x_script.l x_k x_most x_cap = some y := hm
  unfold web_by at hm
  refine rd_asg L0.fh (ev_op (ev_call (eva_cons (ev_var rfl h_script) (eva_cons (ev_varF rfl h_k) eva_nil))) (ev_op (ev_varF rfl h_most) ev_int rv_add) rv_mod) hm ?_
  intro x1 v2 F3 H4 hm l5 h_points_6
  have L7 := L0.trans l5
  replace h_script := up h_script l5
  refine rd_asg L7.fh (ev_call (eva_cons (ev_call (eva_cons (ev_var rfl h_script) (eva_cons (ev_op (ev_varF rfl h_k) ev_int rv_add) eva_nil))) eva_nil)) hm ?_
  intro x8 v9 F10 H11 hm l12 h_seed_13
  have L14 := L7.trans l12
  replace h_script := up h_script l12
  refine rd_asg L14.fh (ev_op ev_int (ev_op (ev_call (eva_cons (ev_var rfl h_script) (eva_cons (ev_op (ev_varF rfl h_k) ev_int rv_add) eva_nil))) ev_int rv_mod) rv_add) hm ?_
  intro x15 v16 F17 H18 hm l19 h_thick_20
  have L21 := L14.trans l19
  refine rd_asgN L21.fh (evn_nil (α := Int × Int)) hm ?_
  intro x22 p23 w24 F25 H26 hm l27 hn32 fp29 hp28 rl30
  have hz31 := L21.h.free hn32
  have L33 := L21.trans l27
  refine rd_for L33.fh (ei_range1 (ev_varF rfl h_points_6)) hm ?_
  intro xs34 J35 F36 H37 hm l38 wk39
  have L40 := L33.trans l38
  replace fp29 := l38.nwl hp28 fp29
  replace hp28 := l38.h _ _ hp28
  replace rl30 := rpL.mono l38.f rl30
  refine rd_loopG wk39 hm (fun (s : Int × (List (Int × Int))) σ_ F_ H_ => ∃ (v5_ : V) (o8_ : Option V) (o9_ : Option V) (w7_ : List V), σ_ = [some v_script, some v_k, some v_most, some v_cap, some v2, some v5_, some v16, some (.ref p23), o8_, o9_] ∧ Same F36 F_ ∧ Lat F0 H F_ H_ ∧ Rep.rp s.1 v5_ F_ ∧ (H_ p23 = some (.lst w7_) ∧ F_ p23 = none ∧ rpL s.2 w7_ F_) ∧ True) ⟨_, _, _, _, rfl, (.refl _), L40, (Flat.any h_seed_13), ⟨hp28, fp29, rl30⟩, trivial⟩ ?_ ?_ ?_
  · rintro s σ_ F_ H_ ⟨e41, e42, e43, e44, rfl, sf45, L46, h_seed_47, ⟨hp48, fp49, rl50⟩, -⟩
    exact ⟨sf45, L46.fh⟩
  · rintro q51 s52 σ_ F58 H59 v53 F60 H61 ⟨e62, e63, e64, e65, rfl, sf66, L67, h_seed_68, ⟨hp69, fp70, rl71⟩, -⟩ l54 rv55 s72 hm D57 hN56
    have L73 := L67.trans l54
    have sb74 := Same.trans sf66 l54.f
    replace fp70 := l54.nwl hp69 fp70
    replace hp69 := l54.h _ _ hp69
    replace rl71 := rpL.mono l54.f rl71
    refine gt_name ?_
    refine rd_forL L73.fh (ei_range2 (ev_op (ev_varF rfl rv55) ev_int rv_add) (ev_varF rfl h_points_6)) hm ?_
    intro xs75 J76 F77 H78 hm l79 wk80
    have L81 := L73.trans l79
    have sb82 := Same.trans sb74 l79.f
    replace fp70 := l79.nwl hp69 fp70
    replace hp69 := l79.h _ _ hp69
    replace rl71 := rpL.mono l79.f rl71
    refine rd_loopG wk80 hm (fun (s : Int × (List (Int × Int))) σ_ F_ H_ => ∃ (v5_ : V) (o9_ : Option V) (w7_ : List V), σ_ = [some v_script, some v_k, some v_most, some v_cap, some v2, some v5_, some v16, some (.ref p23), some v53, o9_] ∧ Same F77 F_ ∧ Lat F0 H F_ H_ ∧ Rep.rp s.1 v5_ F_ ∧ (H_ p23 = some (.lst w7_) ∧ F_ p23 = none ∧ rpL s.2 w7_ F_) ∧ True) ⟨_, _, _, rfl, (.refl _), L81, (Flat.any h_seed_68), ⟨hp69, fp70, rl71⟩, trivial⟩ ?_ ?_ ?_
    · rintro s σ_ F_ H_ ⟨e83, e84, e85, rfl, sf86, L87, h_seed_88, ⟨hp89, fp90, rl91⟩, -⟩
      exact ⟨sf86, L87.fh⟩
    · rintro q92 s93 σ_ F99 H100 v94 F101 H102 ⟨e103, e104, e105, rfl, sf106, L107, h_seed_108, ⟨hp109, fp110, rl111⟩, -⟩ l95 rv96 s112 hm D98 hN97
      have sb113 := Same.trans sb82 sf106
      have L114 := L107.trans l95
      have sb115 := Same.trans sb113 l95.f
      have sb116 := Same.trans sf106 l95.f
      replace fp110 := l95.nwl hp109 fp110
      replace hp109 := l95.h _ _ hp109
      replace rl111 := rpL.mono l95.f rl111
      refine gt_name ?_
      refine rd_join (fun (s : (List (Int × Int))) σ_ F_ H_ => ∃ (w7_ : List V), σ_ = [some v_script, some v_k, some v_most, some v_cap, some v2, some e103, some v16, some (.ref p23), some v53, some v94] ∧ Same F101 F_ ∧ Lat F0 H F_ H_ ∧ (H_ p23 = some (.lst w7_) ∧ F_ p23 = none ∧ rpL s w7_ F_) ∧ True) hm ?_ ?_
      · intro s117 hm D118 hN119
        refine rd_if L114.fh (EVT.flat (evt_and (evt_of (ev_op (ev_op (ev_op (ev_varF rfl h_seed_108) ev_int rv_div) ev_int rv_mod) (ev_varF rfl h_thick_20) rv_cmp)) (evt_of (ev_op (ev_len (ev_var rfl (own_rp L114.fh hp109 rl111))) (ev_varF rfl h_cap) rv_cmp))) L114.fh) hm ?_ ?_
        · intro F120 H121 _ hm l122
          have L123 := L114.trans l122
          have sb124 := Same.trans sb115 l122.f
          have sb125 := Same.trans sb116 l122.f
          replace fp110 := l122.nwl hp109 fp110
          replace hp109 := l122.h _ _ hp109
          replace rl111 := rpL.mono l122.f rl111
          refine rd_appendL L123.fh rfl hp109 fp110 rl111 (ev_tup (ev_varF rfl rv55) (ev_varF rfl rv96)) hm ?_
          intro x126 w127 F128 H129 hm m130 fp131 hp132 rl133
          have L134 := m130.l0 _ _ L123 hz31
          have sb135 := Same.trans sb124 m130.f
          have sb136 := Same.trans sb125 m130.f
          have sb137 := Same.trans l122.f m130.f
          obtain rfl := Option.some.inj hm
          exact hN119 _ _ _ ⟨_, rfl, sb137, L134, ⟨hp132, fp131, rl133⟩, trivial⟩
        · intro F138 H139 _ hm l140
          have L141 := L114.trans l140
          have sb142 := Same.trans sb115 l140.f
          have sb143 := Same.trans sb116 l140.f
          replace fp110 := l140.nwl hp109 fp110
          replace hp109 := l140.h _ _ hp109
          replace rl111 := rpL.mono l140.f rl111
          obtain rfl := Option.some.inj hm
          exact hN119 _ _ _ ⟨_, rfl, l140.f, L141, ⟨hp109, fp110, rl111⟩, trivial⟩
      · rintro s144 σ_ F145 H146 hm ⟨e147, rfl, sf148, L149, ⟨hp150, fp151, rl152⟩, -⟩
        have sb153 := Same.trans sb115 sf148
        have sb154 := Same.trans sb116 sf148
        refine rd_asgL L149.fh (ev_call (eva_cons (ev_varF rfl h_seed_108) eva_nil)) hm ?_
        intro x155 v156 F157 H158 hm l159 h_seed_160
        have L161 := L149.trans l159
        have sb162 := Same.trans sb153 l159.f
        have sb163 := Same.trans sb154 l159.f
        replace fp151 := l159.nwl hp150 fp151
        replace hp150 := l159.h _ _ hp150
        replace rl152 := rpL.mono l159.f rl152
        obtain rfl := Option.some.inj hm
        exact hN97 _ _ _ ⟨_, _, _, rfl, sb163, L161, (Flat.any h_seed_160), ⟨hp150, fp151, rl152⟩, trivial⟩
    · rintro s164 σ_ F165 H166 hm ⟨e167, e168, e169, rfl, sf170, L171, h_seed_172, ⟨hp173, fp174, rl175⟩, -⟩
      have sb176 := Same.trans sb82 sf170
      obtain rfl := Option.some.inj hm
      exact hN56 _ _ _ ⟨_, _, _, _, rfl, sb176, L171, (Flat.any h_seed_172), ⟨hp173, fp174, rl175⟩, trivial⟩
  · rintro s177 σ_ F178 H179 hm ⟨e180, e181, e182, e183, rfl, sf184, L185, h_seed_186, ⟨hp187, fp188, rl189⟩, -⟩
    refine nx_with ?_
    obtain ⟨F190, L191, sf192, h_ties_193, fq194⟩ := freeze L185 hz31 fp188 hp187 rl189
    exact rd_ret0 L191.fh (ev_tup (ev_varF rfl h_points_6) (ev_var rfl h_ties_193)) hm fun v F1 H1 l rv => hQ v F1 H1 (L191.trans l) rv
abbrev s_tints_by : Stmt := topS 28
theorem sc_tints_by : FnScope ["points", "number", "many", "tints", "k"] ["points", "number", "many"] (defScope s_tints_by) := ⟨rfl, rfl, rfl, by decide +kernel, rfl, by decide +kernel, by decide +kernel⟩
theorem ok_tints_by {f : Addr} {fd : FuncData} (F : Fun K "_law_tints_by" "_law_tints_by" s_tints_by f fd) (gF : mg "_law_tints_by" = some (.ref f)) (T : Txt K mg ad CW) : Fn P w K mg base CX0 1 "_law_tints_by" ["points", "number", "many"] (spN (β := Int) fun (x : Int × Int × Int × Unit) => tints_by x.1 x.2.1 x.2.2.1) := by
  refine ⟨f, _, gF, F.kp, F.binds (ps := ["points", "number", "many"]) (fun _ _ _ _ _ _ us hl => match us, hl with | [_, _, _], _ => rfl), F.ok sc_tints_by (spN_len rfl) (fun cdv A outer s H vs Q E hr h => ?_)⟩
  refine ⟨_, (pss_cons (ps_set (i := 3) sc_tints_by.nd rfl (by first | exact Or.inl rfl | exact Or.inr rfl) (pe_lst pa_nil))
    (pss_cons (ps_for PassesOwn.never rfl (pi_range1 (by rfl) T.b_range (pa_cons (pv 0) pa_nil)) (pg_name (i := 4) sc_tints_by.nd rfl (by first | exact Or.inl rfl | exact Or.inr rfl)) (pss_cons (ps_expr (pe_bm PySem.F.plainAttrs_list PySem.F.slot_list_append PySem.F.type_list_append mt_append (pv 3) (pa_cons (pe_op op_mod (pv 1) (pv 2)) pa_nil)))
    (pss_one (ps_set (i := 1) sc_tints_by.nd rfl (by first | exact Or.inl rfl | exact Or.inr rfl) (pe_op op_fdiv (pv 1) (pv 2))))))
    (pss_one (ps_ret (pv 3))))), ?_⟩
  obtain ⟨F0, ⟨x_points, x_number, x_many, _⟩, y, s0, ⟨v_points, _, rfl, h_points, v_number, _, rfl, h_number, v_many, _, rfl, h_many, rfl⟩, hm, hQ⟩ := h
  have L0 : Lat F0 H F0 H := .refl s0
  refine at_st (σ := [some v_points, some v_number, some v_many, none, none]) rfl ?_
  replace hm : tints_by x_points x_number x_many = some y := hm
  unfold tints_by at hm
  refine rd_asgN L0.fh (evn_nil (α := Int)) hm ?_
  intro x1 p2 w3 F4 H5 hm l6 hn11 fp8 hp7 rl9
  have hz10 := L0.h.free hn11
  have L12 := L0.trans l6
  refine rd_for L12.fh (ei_range1 (ev_varF rfl h_points)) hm ?_
  intro xs13 J14 F15 H16 hm l17 wk18
  have L19 := L12.trans l17
  replace fp8 := l17.nwl hp7 fp8
  replace hp7 := l17.h _ _ hp7
  replace rl9 := rpL.mono l17.f rl9
  refine rd_loopG wk18 hm (fun (s : Int × (List Int)) σ_ F_ H_ => ∃ (v1_ : V) (o4_ : Option V) (w3_ : List V), σ_ = [some v_points, some v1_, some v_many, some (.ref p2), o4_] ∧ Same F15 F_ ∧ Lat F0 H F_ H_ ∧ Rep.rp s.1 v1_ F_ ∧ (H_ p2 = some (.lst w3_) ∧ F_ p2 = none ∧ rpL s.2 w3_ F_) ∧ True) ⟨_, _, _, rfl, (.refl _), L19, (Flat.any h_number), ⟨hp7, fp8, rl9⟩, trivial⟩ ?_ ?_ ?_
  · rintro s σ_ F_ H_ ⟨e20, e21, e22, rfl, sf23, L24, h_number_25, ⟨hp26, fp27, rl28⟩, -⟩
    exact ⟨sf23, L24.fh⟩
  · rintro q29 s30 σ_ F36 H37 v31 F38 H39 ⟨e40, e41, e42, rfl, sf43, L44, h_number_45, ⟨hp46, fp47, rl48⟩, -⟩ l32 rv33 s49 hm D35 hN34
    have L50 := L44.trans l32
    have sb51 := Same.trans sf43 l32.f
    replace fp47 := l32.nwl hp46 fp47
    replace hp46 := l32.h _ _ hp46
    replace rl48 := rpL.mono l32.f rl48
    refine gt_name ?_
    refine rd_append L50.fh rfl hp46 fp47 rl48 (ev_op (ev_varF rfl h_number_45) (ev_varF rfl h_many) rv_mod) hm ?_
    intro x52 w53 F54 H55 hm m56 fp57 hp58 rl59
    have L60 := m56.l0 _ _ L50 hz10
    have sb61 := Same.trans sb51 m56.f
    refine rd_asgL L60.fh (ev_op (ev_varF rfl h_number_45) (ev_varF rfl h_many) rv_div) hm ?_
    intro x62 v63 F64 H65 hm l66 h_number_67
    have L68 := L60.trans l66
    have sb69 := Same.trans sb61 l66.f
    replace fp57 := l66.nwl hp58 fp57
    replace hp58 := l66.h _ _ hp58
    replace rl59 := rpL.mono l66.f rl59
    obtain rfl := Option.some.inj hm
    exact hN34 _ _ _ ⟨_, _, _, rfl, sb69, L68, (Flat.any h_number_67), ⟨hp58, fp57, rl59⟩, trivial⟩
  · rintro s70 σ_ F71 H72 hm ⟨e73, e74, e75, rfl, sf76, L77, h_number_78, ⟨hp79, fp80, rl81⟩, -⟩
    refine nx_with ?_
    obtain rfl := Option.some.inj hm
    exact rd_retO rfl (hQ _ _ _ _ L77 hz10 fp80 hp79 rl81)
abbrev s_many_tints : Stmt := topS 29
theorem sc_many_tints : FnScope ["points", "many", "found", "k"] ["points", "many"] (defScope s_many_tints) := ⟨rfl, rfl, rfl, by decide +kernel, rfl, by decide +kernel, by decide +kernel⟩
theorem ok_many_tints {f : Addr} {fd : FuncData} (F : Fun K "_law_many_tints" "_law_many_tints" s_many_tints f fd) (gF : mg "_law_many_tints" = some (.ref f)) (T : Txt K mg ad CW) : Fn P w K mg base CX0 1 "_law_many_tints" ["points", "many"] (spO (β := Int) fun (x : Int × Int × Unit) => many_tints x.1 x.2.1) := by
  refine ⟨f, _, gF, F.kp, F.binds (ps := ["points", "many"]) (fun _ _ _ _ _ _ us hl => match us, hl with | [_, _], _ => rfl), F.ok sc_many_tints (spO_len rfl) (fun cdv A outer s H vs Q E hr h => ?_)⟩
  refine ⟨_, (pss_cons (ps_set (i := 2) sc_many_tints.nd rfl (by first | exact Or.inl rfl | exact Or.inr rfl) pe_int)
    (pss_cons (ps_for PassesOwn.never rfl (pi_range1 (by rfl) T.b_range (pa_cons (pv 0) pa_nil)) (pg_name (i := 3) sc_many_tints.nd rfl (by first | exact Or.inl rfl | exact Or.inr rfl)) (pss_one (ps_set (i := 2) sc_many_tints.nd rfl (by first | exact Or.inl rfl | exact Or.inr rfl) (pe_op op_mul (pv 2) (pv 1)))))
    (pss_one (ps_ret (pv 2))))), ?_⟩
  obtain ⟨F0, ⟨x_points, x_many, _⟩, y, s0, ⟨v_points, _, rfl, h_points, v_many, _, rfl, h_many, rfl⟩, hm, hQ⟩ := h
  have L0 : Lat F0 H F0 H := .refl s0
  refine at_st (σ := [some v_points, some v_many, none, none]) rfl ?_
  replace hm : many_tints x_points x_many = some y := hm
  unfold many_tints at hm
  refine rd_asg L0.fh ev_int hm ?_
  intro x1 v2 F3 H4 hm l5 h_found_6
  have L7 := L0.trans l5
  refine rd_for L7.fh (ei_range1 (ev_varF rfl h_points)) hm ?_
  intro xs8 J9 F10 H11 hm l12 wk13
  have L14 := L7.trans l12
  refine rd_loopG wk13 hm (fun (s : Int) σ_ F_ H_ => ∃ (v2_ : V) (o3_ : Option V), σ_ = [some v_points, some v_many, some v2_, o3_] ∧ Same F10 F_ ∧ Lat F0 H F_ H_ ∧ Rep.rp s v2_ F_ ∧ True) ⟨_, _, rfl, (.refl _), L14, (Flat.any h_found_6), trivial⟩ ?_ ?_ ?_
  · rintro s σ_ F_ H_ ⟨e15, e16, rfl, sf17, L18, h_found_19, -⟩
    exact ⟨sf17, L18.fh⟩
  · rintro q20 s21 σ_ F27 H28 v22 F29 H30 ⟨e31, e32, rfl, sf33, L34, h_found_35, -⟩ l23 rv24 s36 hm D26 hN25
    have L37 := L34.trans l23
    have sb38 := Same.trans sf33 l23.f
    refine gt_name ?_
    refine rd_asgL L37.fh (ev_op (ev_varF rfl h_found_35) (ev_varF rfl h_many) rv_mul) hm ?_
    intro x39 v40 F41 H42 hm l43 h_found_44
    have L45 := L37.trans l43
    have sb46 := Same.trans sb38 l43.f
    obtain rfl := Option.some.inj hm
    exact hN25 _ _ _ ⟨_, _, rfl, sb46, L45, (Flat.any h_found_44), trivial⟩
  · rintro s47 σ_ F48 H49 hm ⟨e50, e51, rfl, sf52, L53, h_found_54, -⟩
    refine nx_with ?_
    exact rd_ret0 L53.fh (ev_varF rfl h_found_54) hm fun v F1 H1 l rv => hQ v F1 H1 (L53.trans l) rv
abbrev s_fits : Stmt := topS 30
theorem sc_fits : FnScope ["ties", "tints", "tie"] ["ties", "tints"] (defScope s_fits) := ⟨rfl, rfl, rfl, by decide +kernel, rfl, by decide +kernel, by decide +kernel⟩
theorem ok_fits {f : Addr} {fd : FuncData} (F : Fun K "_law_fits" "_law_fits" s_fits f fd) (gF : mg "_law_fits" = some (.ref f)) (T : Txt K mg ad CW) : Fn P w K mg base CX0 1 "_law_fits" ["ties", "tints"] (spO (β := Bool) fun (x : (List (Int × Int)) × (List Int) × Unit) => fits x.1 x.2.1) := by
  refine ⟨f, _, gF, F.kp, F.binds (ps := ["ties", "tints"]) (fun _ _ _ _ _ _ us hl => match us, hl with | [_, _], _ => rfl), F.ok sc_fits (spO_len rfl) (fun cdv A outer s H vs Q E hr h => ?_)⟩
  refine ⟨_, (pss_cons (ps_for PassesOwn.never rfl (pi_list (pv 0)) (pg_name (i := 2) sc_fits.nd rfl (by first | exact Or.inl rfl | exact Or.inr rfl)) (pss_one (ps_if (pt_cmpR op_eq (pe_ix ix_list (pv 1) (pe_ix ix_tup (pv 2) pe_int (fun _ _ => rfl)) (fun _ _ => rfl)) (pe_ix ix_list (pv 1) (pe_ix ix_tup (pv 2) pe_int (fun _ _ => rfl)) (fun _ _ => rfl)) (nomark _)) (pss_one (ps_ret pe_bl)) pss_nil)))
    (pss_one (ps_ret pe_bl))), ?_⟩
  obtain ⟨F0, ⟨x_ties, x_tints, _⟩, y, s0, ⟨v_ties, _, rfl, h_ties, v_tints, _, rfl, h_tints, rfl⟩, hm, hQ⟩ := h
  have L0 : Lat F0 H F0 H := .refl s0
  refine at_st (σ := [some v_ties, some v_tints, none]) rfl ?_
  replace hm : fits x_ties x_tints = some y := hm
  unfold fits at hm
  refine rd_for L0.fh (ei_list (ev_var rfl h_ties)) hm ?_
  intro xs1 J2 F3 H4 hm l5 wk6
  have L7 := L0.trans l5
  replace h_ties := up h_ties l5
  replace h_tints := up h_tints l5
  refine rd_loopR wk6 hm (fun (s : Unit) σ_ F_ H_ => ∃ (o2_ : Option V), σ_ = [some v_ties, some v_tints, o2_] ∧ Same F3 F_ ∧ Lat F0 H F_ H_ ∧ True) ⟨_, rfl, (.refl _), L7, trivial⟩ ?_ ?_ ?_
  · rintro s σ_ F_ H_ ⟨e8, rfl, sf9, L10, -⟩
    exact ⟨sf9, L10.fh⟩
  · rintro q11 s12 σ_ F18 H19 v13 F20 H21 ⟨e22, rfl, sf23, L24, -⟩ l14 rv15 st27 hm D17 hD25 hN16 hR26
    replace hD25 : D17.rt = Q := hD25
    replace h_tints := Rep.mono sf23 h_tints
    have L28 := L24.trans l14
    have sb29 := Same.trans sf23 l14.f
    replace h_tints := up h_tints l14
    refine gt_name ?_
    refine rd_if L28.fh (evt_of (ev_op (ev_op (ev_var rfl h_tints) (ev_fst (ev_var rfl rv15)) rv_ixL) (ev_op (ev_var rfl h_tints) (ev_snd (ev_var rfl rv15)) rv_ixL) rv_eqI)) hm ?_ ?_
    · intro F30 H31 _ hm l32
      have L33 := L28.trans l32
      have sb34 := Same.trans sb29 l32.f
      replace h_tints := up h_tints l32
      replace rv15 := up rv15 l32
      refine rd_ret L33.fh ev_bl hm ?_
      intro x_ v_ F1_ H1_ hm l_ rv_
      replace hm := hR26 _ (Option.some.inj hm).symm
      obtain rfl := Option.some.inj hm
      rw [hD25]
      exact hQ _ _ _ (L33.trans l_) rv_
    · intro F35 H36 _ hm l37
      have L38 := L28.trans l37
      have sb39 := Same.trans sb29 l37.f
      replace h_tints := up h_tints l37
      replace rv15 := up rv15 l37
      exact hN16 _ (Option.some.inj hm).symm _ _ _ ⟨_, rfl, sb39, L38, trivial⟩
  · rintro s40 σ_ F41 H42 hm ⟨e43, rfl, sf44, L45, -⟩
    refine nx_with ?_
    exact rd_ret0 L45.fh ev_bl hm fun v F1 H1 l rv => hQ v F1 H1 (L45.trans l) rv
abbrev s_ways_by : Stmt := topS 32
theorem sc_ways_by : FnScope ["many", "number", "ways", "k"] ["many", "number"] (defScope s_ways_by) := ⟨rfl, rfl, rfl, by decide +kernel, rfl, by decide +kernel, by decide +kernel⟩
theorem ok_ways_by {f : Addr} {fd : FuncData} (F : Fun K "_law_ways_by" "_law_ways_by" s_ways_by f fd) (gF : mg "_law_ways_by" = some (.ref f)) (T : Txt K mg ad CW) : Fn P w K mg base CX0 1 "_law_ways_by" ["many", "number"] (spN (β := Bool) fun (x : Int × Int × Unit) => ways_by x.1 x.2.1) := by
  refine ⟨f, _, gF, F.kp, F.binds (ps := ["many", "number"]) (fun _ _ _ _ _ _ us hl => match us, hl with | [_, _], _ => rfl), F.ok sc_ways_by (spN_len rfl) (fun cdv A outer s H vs Q E hr h => ?_)⟩
  refine ⟨_, (pss_cons (ps_set (i := 2) sc_ways_by.nd rfl (by first | exact Or.inl rfl | exact Or.inr rfl) (pe_lst pa_nil))
    (pss_cons (ps_for PassesOwn.never rfl (pi_range1 (by rfl) T.b_range (pa_cons (pv 0) pa_nil)) (pg_name (i := 3) sc_ways_by.nd rfl (by first | exact Or.inl rfl | exact Or.inr rfl)) (pss_cons (ps_expr (pe_bm PySem.F.plainAttrs_list PySem.F.slot_list_append PySem.F.type_list_append mt_append (pv 2) (pa_cons (pe_cmpR op_eq (pe_op op_mod (pv 1) pe_int) pe_int (nomark _)) pa_nil)))
    (pss_one (ps_set (i := 1) sc_ways_by.nd rfl (by first | exact Or.inl rfl | exact Or.inr rfl) (pe_op op_fdiv (pv 1) pe_int)))))
    (pss_one (ps_ret (pv 2))))), ?_⟩
  obtain ⟨F0, ⟨x_many, x_number, _⟩, y, s0, ⟨v_many, _, rfl, h_many, v_number, _, rfl, h_number, rfl⟩, hm, hQ⟩ := h
  have L0 : Lat F0 H F0 H := .refl s0
  refine at_st (σ := [some v_many, some v_number, none, none]) rfl ?_
  replace hm : ways_by x_many x_number = some y := hm
  unfold ways_by at hm
  refine rd_asgN L0.fh (evn_nil (α := Bool)) hm ?_
  intro x1 p2 w3 F4 H5 hm l6 hn11 fp8 hp7 rl9
  have hz10 := L0.h.free hn11
  have L12 := L0.trans l6
  refine rd_for L12.fh (ei_range1 (ev_varF rfl h_many)) hm ?_
  intro xs13 J14 F15 H16 hm l17 wk18
  have L19 := L12.trans l17
  replace fp8 := l17.nwl hp7 fp8
  replace hp7 := l17.h _ _ hp7
  replace rl9 := rpL.mono l17.f rl9
  refine rd_loopG wk18 hm (fun (s : Int × (List Bool)) σ_ F_ H_ => ∃ (v1_ : V) (o3_ : Option V) (w2_ : List V), σ_ = [some v_many, some v1_, some (.ref p2), o3_] ∧ Same F15 F_ ∧ Lat F0 H F_ H_ ∧ Rep.rp s.1 v1_ F_ ∧ (H_ p2 = some (.lst w2_) ∧ F_ p2 = none ∧ rpL s.2 w2_ F_) ∧ True) ⟨_, _, _, rfl, (.refl _), L19, (Flat.any h_number), ⟨hp7, fp8, rl9⟩, trivial⟩ ?_ ?_ ?_
  · rintro s σ_ F_ H_ ⟨e20, e21, e22, rfl, sf23, L24, h_number_25, ⟨hp26, fp27, rl28⟩, -⟩
    exact ⟨sf23, L24.fh⟩
  · rintro q29 s30 σ_ F36 H37 v31 F38 H39 ⟨e40, e41, e42, rfl, sf43, L44, h_number_45, ⟨hp46, fp47, rl48⟩, -⟩ l32 rv33 s49 hm D35 hN34
    have L50 := L44.trans l32
    have sb51 := Same.trans sf43 l32.f
    replace fp47 := l32.nwl hp46 fp47
    replace hp46 := l32.h _ _ hp46
    replace rl48 := rpL.mono l32.f rl48
    refine gt_name ?_
    refine rd_append L50.fh rfl hp46 fp47 rl48 (ev_op (ev_op (ev_varF rfl h_number_45) ev_int rv_mod) ev_int rv_eqI) hm ?_
    intro x52 w53 F54 H55 hm m56 fp57 hp58 rl59
    have L60 := m56.l0 _ _ L50 hz10
    have sb61 := Same.trans sb51 m56.f
    refine rd_asgL L60.fh (ev_op (ev_varF rfl h_number_45) ev_int rv_div) hm ?_
    intro x62 v63 F64 H65 hm l66 h_number_67
    have L68 := L60.trans l66
    have sb69 := Same.trans sb61 l66.f
    replace fp57 := l66.nwl hp58 fp57
    replace hp58 := l66.h _ _ hp58
    replace rl59 := rpL.mono l66.f rl59
    obtain rfl := Option.some.inj hm
    exact hN34 _ _ _ ⟨_, _, _, rfl, sb69, L68, (Flat.any h_number_67), ⟨hp58, fp57, rl59⟩, trivial⟩
  · rintro s70 σ_ F71 H72 hm ⟨e73, e74, e75, rfl, sf76, L77, h_number_78, ⟨hp79, fp80, rl81⟩, -⟩
    refine nx_with ?_
    obtain rfl := Option.some.inj hm
    exact rd_retO rfl (hQ _ _ _ _ L77 hz10 fp80 hp79 rl81)
abbrev s_from_to : Stmt := topS 33
theorem sc_from_to : FnScope ["ties", "ways", "found", "k"] ["ties", "ways"] (defScope s_from_to) := ⟨rfl, rfl, rfl, by decide +kernel, rfl, by decide +kernel, by decide +kernel⟩
theorem ok_from_to {f : Addr} {fd : FuncData} (F : Fun K "_law_from_to" "_law_from_to" s_from_to f fd) (gF : mg "_law_from_to" = some (.ref f)) (T : Txt K mg ad CW) : Fn P w K mg base CX0 1 "_law_from_to" ["ties", "ways"] (spN (β := (Int × Int)) fun (x : (List (Int × Int)) × (List Bool) × Unit) => from_to x.1 x.2.1) := by
  refine ⟨f, _, gF, F.kp, F.binds (ps := ["ties", "ways"]) (fun _ _ _ _ _ _ us hl => match us, hl with | [_, _], _ => rfl), F.ok sc_from_to (spN_len rfl) (fun cdv A outer s H vs Q E hr h => ?_)⟩
  refine ⟨_, (pss_cons (ps_set (i := 2) sc_from_to.nd rfl (by first | exact Or.inl rfl | exact Or.inr rfl) (pe_lst pa_nil))
    (pss_cons (ps_for PassesOwn.never rfl (pi_range1 (by rfl) T.b_range (pa_cons (pe_callB call_len_seq (by rfl) T.b_len PySem.boot_len (pa_cons (pv 0) pa_nil)) pa_nil)) (pg_name (i := 3) sc_from_to.nd rfl (by first | exact Or.inl rfl | exact Or.inr rfl)) (pss_one (ps_if (pt_val (pe_ix ix_list (pv 1) (pv 3) (fun _ _ => rfl))) (pss_one (ps_expr (pe_bm PySem.F.plainAttrs_list PySem.F.slot_list_append PySem.F.type_list_append mt_append (pv 2) (pa_cons (pe_ix ix_list (pv 0) (pv 3) (fun _ _ => rfl)) pa_nil)))) (pss_one (ps_expr (pe_bm PySem.F.plainAttrs_list PySem.F.slot_list_append PySem.F.type_list_append mt_append (pv 2) (pa_cons (pe_tup (pa_cons (pe_ix ix_tup (pe_ix ix_list (pv 0) (pv 3) (fun _ _ => rfl)) pe_int (fun _ _ => rfl)) (pa_cons (pe_ix ix_tup (pe_ix ix_list (pv 0) (pv 3) (fun _ _ => rfl)) pe_int (fun _ _ => rfl)) pa_nil))) pa_nil)))))))
    (pss_one (ps_ret (pv 2))))), ?_⟩
  obtain ⟨F0, ⟨x_ties, x_ways, _⟩, y, s0, ⟨v_ties, _, rfl, h_ties, v_ways, _, rfl, h_ways, rfl⟩, hm, hQ⟩ := h
  have L0 : Lat F0 H F0 H := .refl s0
  refine at_st (σ := [some v_ties, some v_ways, none, none]) rfl ?_
  replace hm : from_to x_ties x_ways = some y := hm
  unfold from_to at hm
  refine rd_asgN L0.fh (evn_nil (α := Int × Int)) hm ?_
  intro x1 p2 w3 F4 H5 hm l6 hn11 fp8 hp7 rl9
  have hz10 := L0.h.free hn11
  have L12 := L0.trans l6
  replace h_ties := up h_ties l6
  replace h_ways := up h_ways l6
  refine rd_for L12.fh (ei_range1 (ev_len (ev_var rfl h_ties))) hm ?_
  intro xs13 J14 F15 H16 hm l17 wk18
  have L19 := L12.trans l17
  replace h_ties := up h_ties l17
  replace h_ways := up h_ways l17
  replace fp8 := l17.nwl hp7 fp8
  replace hp7 := l17.h _ _ hp7
  replace rl9 := rpL.mono l17.f rl9
  refine rd_loopG wk18 hm (fun (s : (List (Int × Int))) σ_ F_ H_ => ∃ (o3_ : Option V) (w2_ : List V), σ_ = [some v_ties, some v_ways, some (.ref p2), o3_] ∧ Same F15 F_ ∧ Lat F0 H F_ H_ ∧ (H_ p2 = some (.lst w2_) ∧ F_ p2 = none ∧ rpL s w2_ F_) ∧ True) ⟨_, _, rfl, (.refl _), L19, ⟨hp7, fp8, rl9⟩, trivial⟩ ?_ ?_ ?_
  · rintro s σ_ F_ H_ ⟨e20, e21, rfl, sf22, L23, ⟨hp24, fp25, rl26⟩, -⟩
    exact ⟨sf22, L23.fh⟩
  · rintro q27 s28 σ_ F34 H35 v29 F36 H37 ⟨e38, e39, rfl, sf40, L41, ⟨hp42, fp43, rl44⟩, -⟩ l30 rv31 s45 hm D33 hN32
    replace h_ties := Rep.mono sf40 h_ties
    replace h_ways := Rep.mono sf40 h_ways
    have L46 := L41.trans l30
    have sb47 := Same.trans sf40 l30.f
    replace h_ties := up h_ties l30
    replace h_ways := up h_ways l30
    replace fp43 := l30.nwl hp42 fp43
    replace hp42 := l30.h _ _ hp42
    replace rl44 := rpL.mono l30.f rl44
    refine gt_name ?_
    refine rd_if L46.fh (evt_b (ev_op (ev_var rfl h_ways) (ev_varF rfl rv31) rv_ixL)) hm ?_ ?_
    · intro F48 H49 _ hm l50
      have L51 := L46.trans l50
      have sb52 := Same.trans sb47 l50.f
      replace h_ties := up h_ties l50
      replace h_ways := up h_ways l50
      replace fp43 := l50.nwl hp42 fp43
      replace hp42 := l50.h _ _ hp42
      replace rl44 := rpL.mono l50.f rl44
      refine rd_appendL L51.fh rfl hp42 fp43 rl44 (ev_op (ev_var rfl h_ties) (ev_varF rfl rv31) rv_ixL) hm ?_
      intro x53 w54 F55 H56 hm m57 fp58 hp59 rl60
      have L61 := m57.l0 _ _ L51 hz10
      have sb62 := Same.trans sb52 m57.f
      replace h_ties := Rep.mono m57.f h_ties
      replace h_ways := Rep.mono m57.f h_ways
      obtain rfl := Option.some.inj hm
      exact hN32 _ _ _ ⟨_, _, rfl, sb62, L61, ⟨hp59, fp58, rl60⟩, trivial⟩
    · intro F63 H64 _ hm l65
      have L66 := L46.trans l65
      have sb67 := Same.trans sb47 l65.f
      replace h_ties := up h_ties l65
      replace h_ways := up h_ways l65
      replace fp43 := l65.nwl hp42 fp43
      replace hp42 := l65.h _ _ hp42
      replace rl44 := rpL.mono l65.f rl44
      refine rd_appendL L66.fh rfl hp42 fp43 rl44 (ev_tup (ev_snd (ev_op (ev_var rfl h_ties) (ev_varF rfl rv31) rv_ixL)) (ev_fst (ev_op (ev_var rfl h_ties) (ev_varF rfl rv31) rv_ixL))) hm ?_
      intro x68 w69 F70 H71 hm m72 fp73 hp74 rl75
      have L76 := m72.l0 _ _ L66 hz10
      have sb77 := Same.trans sb67 m72.f
      replace h_ties := Rep.mono m72.f h_ties
      replace h_ways := Rep.mono m72.f h_ways
      obtain rfl := Option.some.inj hm
      exact hN32 _ _ _ ⟨_, _, rfl, sb77, L76, ⟨hp74, fp73, rl75⟩, trivial⟩
  · rintro s78 σ_ F79 H80 hm ⟨e81, e82, rfl, sf83, L84, ⟨hp85, fp86, rl87⟩, -⟩
    refine nx_with ?_
    obtain rfl := Option.some.inj hm
    exact rd_retO rfl (hQ _ _ _ _ L84 hz10 fp86 hp85 rl87)
abbrev s_longest : Stmt := topS 34
theorem sc_longest : FnScope ["points", "steps", "found", "left", "height", "free", "point", "one"] ["points", "steps"] (defScope s_longest) := ⟨rfl, rfl, rfl, by decide +kernel, rfl, by decide +kernel, by decide +kernel⟩
theorem ok_longest {f : Addr} {fd : FuncData} (F : Fun K "_law_longest" "_law_longest" s_longest f fd) (gF : mg "_law_longest" = some (.ref f)) (T : Txt K mg ad CW) : Fn P w K mg base CX0 1 "_law_longest" ["points", "steps"] (spO (β := (Option (List Int))) fun (x : Int × (List (Int × Int)) × Unit) => longest x.1 x.2.1) := by
  refine ⟨f, _, gF, F.kp, F.binds (ps := ["points", "steps"]) (fun _ _ _ _ _ _ us hl => match us, hl with | [_, _], _ => rfl), F.ok sc_longest (spO_len rfl) (fun cdv A outer s H vs Q E hr h => ?_)⟩
  refine ⟨_, (pss_cons (ps_set (i := 2) sc_longest.nd rfl (by first | exact Or.inl rfl | exact Or.inr rfl) (pe_lst pa_nil))
    (pss_cons (ps_set (i := 3) sc_longest.nd rfl (by first | exact Or.inl rfl | exact Or.inr rfl) (pe_listRg rfl rfl T.b_list (prg_1 rfl T.b_range (pv 0))))
    (pss_cons (ps_setLc (i := 4) (own := [("point", 6)]) (g := (gName 6)) rfl sc_longest.nd rfl rfl (sw_true rfl rfl rfl (by decide +kernel)) (pi_list (pv 3)) (blkOk_by (N := ["points", "steps", "found", "left", "height", "free", "point", "one"]) (sc := defScope s_longest) (by decide +kernel)) (fun _ _ _ _ _ => (pg_name (i := 6) sc_longest.nd rfl (by first | exact Or.inl rfl | exact Or.inr rfl))) (fun _ _ _ _ _ => pts_nil) (fun _ _ _ _ _ => pe_int))
    (pss_cons (ps_while PassesOwn.never (pt_cmpR op_gt (pe_callB call_len_seq (by rfl) T.b_len PySem.boot_len (pa_cons (pv 3) pa_nil)) pe_int (nomark _)) (pss_cons (ps_set (i := 5) sc_longest.nd rfl (by first | exact Or.inl rfl | exact Or.inr rfl) (pe_lc (own := [("point", 6)]) (g := (gName 6)) rfl sc_longest.nd (pi_list (pv 3)) (blkOk_by (N := ["points", "steps", "found", "left", "height", "free", "point", "one"]) (sc := defScope s_longest) (by decide +kernel)) (fun _ _ _ _ _ => (pg_name (i := 6) sc_longest.nd rfl (by first | exact Or.inl rfl | exact Or.inr rfl))) (fun _ _ _ _ _ => (pts_one (pt_cmpR op_eq (pe_callB (call_len_seqK rfl) (by rfl) T.b_len PySem.boot_len (pa_cons (pe_lc (own := [("one", 7)]) (g := (gName 7)) rfl sc_longest.nd (pi_listK rfl (pv 1)) (blkOk_by (by rfl)) (fun _ _ _ _ _ => (pg_name (i := 7) sc_longest.nd rfl (by first | exact Or.inl rfl | exact Or.inr rfl))) (fun _ _ _ _ _ => (pts_one (PW.pt (pw_and (pt_cmpR op_eq (pe_ix (ix_tupK rfl) (pv 7) pe_int (fun _ _ => rfl)) (pv 6) (nomark _)) (pw_and1 (pt_cmpR (op_in_seqK rfl) (pe_ix (ix_tupK rfl) (pv 7) pe_int (fun _ _ => rfl)) (pv 3) (by rfl))))))) (fun _ _ _ _ _ => (pv 7))) pa_nil)) pe_int (nomark _)))) (fun _ _ _ _ _ => (pv 6))))
    (pss_cons (ps_if (pt_cmpR op_eq (pe_callB call_len_seq (by rfl) T.b_len PySem.boot_len (pa_cons (pv 5) pa_nil)) pe_int (nomark _)) (pss_one (ps_ret pe_non)) pss_nil)
    (pss_cons (ps_for PassesOwn.never rfl (pi_list (pv 5)) (pg_name (i := 6) sc_longest.nd rfl (by first | exact Or.inl rfl | exact Or.inr rfl)) (pss_one (ps_for PassesOwn.never rfl (pi_list (pv 1)) (pg_name (i := 7) sc_longest.nd rfl (by first | exact Or.inl rfl | exact Or.inr rfl)) (pss_one (ps_if (pt_cmpR op_eq (pe_ix ix_tup (pv 7) pe_int (fun _ _ => rfl)) (pv 6) (nomark _)) (pss_one (ps_asg (pe_callB (call_max2 rfl) (by rfl) T.b_max (by decide +kernel) (pa_cons (pe_ix ix_list (pv 4) (pv 6) (fun _ _ => rfl)) (pa_cons (pe_op op_add (pe_ix ix_list (pv 4) (pe_ix ix_tup (pv 7) pe_int (fun _ _ => rfl)) (fun _ _ => rfl)) pe_int) pa_nil))) (pg_sub (pv 4) (pv 6) set_list))) pss_nil)))))
    (pss_one (ps_set (i := 3) sc_longest.nd rfl (by first | exact Or.inl rfl | exact Or.inr rfl) (pe_lc (own := [("point", 6)]) (g := (gName 6)) rfl sc_longest.nd (pi_list (pv 3)) (blkOk_by (N := ["points", "steps", "found", "left", "height", "free", "point", "one"]) (sc := defScope s_longest) (by decide +kernel)) (fun _ _ _ _ _ => (pg_name (i := 6) sc_longest.nd rfl (by first | exact Or.inl rfl | exact Or.inr rfl))) (fun _ _ _ _ _ => (pts_one (pt_cmpR (op_notIn_seqK rfl) (pv 6) (pv 5) (by rfl)))) (fun _ _ _ _ _ => (pv 6)))))))))
    (pss_one (ps_ret (pv 4))))))), ?_⟩
  obtain ⟨F0, ⟨x_points, x_steps, _⟩, y, s0, ⟨v_points, _, rfl, h_points, v_steps, _, rfl, h_steps, rfl⟩, hm, hQ⟩ := h
  have L0 : Lat F0 H F0 H := .refl s0
  refine at_st (σ := [some v_points, some v_steps, none, none, none, none, none, none]) rfl ?_
  replace hm : longest x_points x_steps = some y := hm
  unfold longest at hm
  refine rd_asg L0.fh (EVN.ev (evn_nil (α := Int))) hm ?_
  intro x1 v2 F3 H4 hm l5 h_found_6
  have L7 := L0.trans l5
  replace h_steps := up h_steps l5
  refine rd_asg L7.fh (EVN.ev (evn_lrng (ev_varF rfl h_points))) hm ?_
  intro x8 v9 F10 H11 hm l12 h_left_13
  have L14 := L7.trans l12
  replace h_steps := up h_steps l12
  refine rd_asgN L14.fh (evn_lc (ei_list (ev_var rfl h_left_13)) (fun x26 v27 _ _ _ l29 r28 k30 => gt_name (k30 _ rfl evt_yes ev_int))) hm ?_
  intro x15 p16 w17 F18 H19 hm l20 hn25 fp22 hp21 rl23
  have hz24 := L14.h.free hn25
  have L31 := L14.trans l20
  replace h_steps := up h_steps l20
  replace h_left_13 := up h_left_13 l20
  refine rd_whileR hm (fun (s : (List Int) × (List Int)) σ_ F_ H_ => ∃ (v3_ : V) (o5_ : Option V) (o6_ : Option V) (o7_ : Option V) (w4_ : List V), σ_ = [some v_points, some v_steps, some v2, some v3_, some (.ref p16), o5_, o6_, o7_] ∧ Same F18 F_ ∧ Lat F0 H F_ H_ ∧ Rep.rp s.1 v3_ F_ ∧ (H_ p16 = some (.lst w4_) ∧ F_ p16 = none ∧ rpL s.2 w4_ F_) ∧ True) ⟨_, _, _, _, _, rfl, (.refl _), L31, h_left_13, ⟨hp21, fp22, rl23⟩, trivial⟩ ?_ ?_ ?_ ?_
  · rintro s σ_ F_ H_ ⟨e32, e33, e34, e35, e36, rfl, sf37, L38, h_left_39, ⟨hp40, fp41, rl42⟩, -⟩
    exact L38.fh
  · rintro s43 σ_ F44 H45 ⟨e46, e47, e48, e49, e50, rfl, sf51, L52, h_left_53, ⟨hp54, fp55, rl56⟩, -⟩
    replace h_steps := Rep.mono sf51 h_steps
    exact (evt_of (ev_op (ev_len (ev_var rfl h_left_53)) ev_int rv_cmp))
  · rintro s57 σ_ F58 H59 F60 H61 ⟨e65, e66, e67, e68, e69, rfl, sf70, L71, h_left_72, ⟨hp73, fp74, rl75⟩, -⟩ l62 st78 hm D63 hD76 hN64 hR77
    replace hD76 : D63.rt = Q := hD76
    replace h_steps := Rep.mono sf70 h_steps
    have L79 := L71.trans l62
    have sb80 := Same.trans sf70 l62.f
    replace h_steps := up h_steps l62
    replace h_left_72 := up h_left_72 l62
    replace fp74 := l62.nwl hp73 fp74
    replace hp73 := l62.h _ _ hp73
    replace rl75 := rpL.mono l62.f rl75
    refine rd_asg L79.fh (EVN.ev (evn_lc (ei_list (ev_var rfl h_left_72)) (fun x87 v88 _ _ _ l90 r89 k91 => gt_name (k91 _ rfl (evt_of (ev_op (ev_len (EVN.ev (evn_lc (ei_list (ev_var rfl (up h_steps l90))) (fun x92 v93 _ _ _ l95 r94 k96 => gt_name (k96 _ rfl (evt_and (evt_of (ev_op (ev_snd (ev_var rfl r94)) (ev_varF rfl r89) rv_eqI)) (evt_of (ev_op (ev_fst (ev_var rfl r94)) (ev_var rfl (up (up h_left_72 l90) l95)) rv_inI))) (ev_var rfl r94)))))) ev_int rv_eqI)) (ev_varF rfl r89))))) hm ?_
    intro x81 v82 F83 H84 hm l85 h_free_86
    have L97 := L79.trans l85
    have sb98 := Same.trans sb80 l85.f
    replace h_steps := up h_steps l85
    replace h_left_72 := up h_left_72 l85
    replace fp74 := l85.nwl hp73 fp74
    replace hp73 := l85.h _ _ hp73
    replace rl75 := rpL.mono l85.f rl75
    refine rd_guard L97.fh (evt_of (ev_op (ev_len (ev_var rfl h_free_86)) ev_int rv_eqI)) hm ?_ ?_
    · intro F99 H100 _ hm l101
      have L102 := L97.trans l101
      have sb103 := Same.trans sb98 l101.f
      replace h_steps := up h_steps l101
      replace h_left_72 := up h_left_72 l101
      replace fp74 := l101.nwl hp73 fp74
      replace hp73 := l101.h _ _ hp73
      replace rl75 := rpL.mono l101.f rl75
      replace h_free_86 := up h_free_86 l101
      refine rd_ret L102.fh (ev_non (α := List Int)) hm ?_
      intro x_ v_ F1_ H1_ hm l_ rv_
      replace hm := hR77 _ (Option.some.inj hm).symm
      obtain rfl := Option.some.inj hm
      rw [hD76]
      exact hQ _ _ _ (L102.trans l_) rv_
    · intro F104 H105 _ hm l106
      have L107 := L97.trans l106
      have sb108 := Same.trans sb98 l106.f
      replace h_steps := up h_steps l106
      replace h_left_72 := up h_left_72 l106
      replace fp74 := l106.nwl hp73 fp74
      replace hp73 := l106.h _ _ hp73
      replace rl75 := rpL.mono l106.f rl75
      replace h_free_86 := up h_free_86 l106
      refine rd_for L107.fh (ei_list (ev_var rfl h_free_86)) hm ?_
      intro xs109 J110 F111 H112 hm l113 wk114
      have L115 := L107.trans l113
      have sb116 := Same.trans sb108 l113.f
      replace h_steps := up h_steps l113
      replace h_left_72 := up h_left_72 l113
      replace fp74 := l113.nwl hp73 fp74
      replace hp73 := l113.h _ _ hp73
      replace rl75 := rpL.mono l113.f rl75
      replace h_free_86 := up h_free_86 l113
      refine rd_loopG wk114 hm (fun (s : (List Int)) σ_ F_ H_ => ∃ (o6_ : Option V) (o7_ : Option V) (w4_ : List V), σ_ = [some v_points, some v_steps, some v2, some e65, some (.ref p16), some v82, o6_, o7_] ∧ Same F111 F_ ∧ Lat F0 H F_ H_ ∧ (H_ p16 = some (.lst w4_) ∧ F_ p16 = none ∧ rpL s w4_ F_) ∧ True) ⟨_, _, _, rfl, (.refl _), L115, ⟨hp73, fp74, rl75⟩, trivial⟩ ?_ ?_ ?_
      · rintro s σ_ F_ H_ ⟨e117, e118, e119, rfl, sf120, L121, ⟨hp122, fp123, rl124⟩, -⟩
        exact ⟨sf120, L121.fh⟩
      · rintro q125 s126 σ_ F132 H133 v127 F134 H135 ⟨e136, e137, e138, rfl, sf139, L140, ⟨hp141, fp142, rl143⟩, -⟩ l128 rv129 s144 hm D131 hN130
        have sb145 := Same.trans sb116 sf139
        replace h_steps := Rep.mono sf139 h_steps
        replace h_left_72 := Rep.mono sf139 h_left_72
        replace h_free_86 := Rep.mono sf139 h_free_86
        have L146 := L140.trans l128
        have sb147 := Same.trans sb145 l128.f
        have sb148 := Same.trans sf139 l128.f
        replace h_steps := up h_steps l128
        replace h_left_72 := up h_left_72 l128
        replace fp142 := l128.nwl hp141 fp142
        replace hp141 := l128.h _ _ hp141
        replace rl143 := rpL.mono l128.f rl143
        replace h_free_86 := up h_free_86 l128
        refine gt_name ?_
        refine rd_forL L146.fh (ei_list (ev_var rfl h_steps)) hm ?_
        intro xs149 J150 F151 H152 hm l153 wk154
        have L155 := L146.trans l153
        have sb156 := Same.trans sb147 l153.f
        have sb157 := Same.trans sb148 l153.f
        replace h_steps := up h_steps l153
        replace h_left_72 := up h_left_72 l153
        replace fp142 := l153.nwl hp141 fp142
        replace hp141 := l153.h _ _ hp141
        replace rl143 := rpL.mono l153.f rl143
        replace h_free_86 := up h_free_86 l153
        refine rd_loopG wk154 hm (fun (s : (List Int)) σ_ F_ H_ => ∃ (o7_ : Option V) (w4_ : List V), σ_ = [some v_points, some v_steps, some v2, some e65, some (.ref p16), some v82, some v127, o7_] ∧ Same F151 F_ ∧ Lat F0 H F_ H_ ∧ (H_ p16 = some (.lst w4_) ∧ F_ p16 = none ∧ rpL s w4_ F_) ∧ True) ⟨_, _, rfl, (.refl _), L155, ⟨hp141, fp142, rl143⟩, trivial⟩ ?_ ?_ ?_
        · rintro s σ_ F_ H_ ⟨e158, e159, rfl, sf160, L161, ⟨hp162, fp163, rl164⟩, -⟩
          exact ⟨sf160, L161.fh⟩
        · rintro q165 s166 σ_ F172 H173 v167 F174 H175 ⟨e176, e177, rfl, sf178, L179, ⟨hp180, fp181, rl182⟩, -⟩ l168 rv169 s183 hm D171 hN170
          have sb184 := Same.trans sb156 sf178
          have sb185 := Same.trans sb157 sf178
          replace h_steps := Rep.mono sf178 h_steps
          replace h_left_72 := Rep.mono sf178 h_left_72
          replace h_free_86 := Rep.mono sf178 h_free_86
          have L186 := L179.trans l168
          have sb187 := Same.trans sb184 l168.f
          have sb188 := Same.trans sb185 l168.f
          have sb189 := Same.trans sf178 l168.f
          replace h_steps := up h_steps l168
          replace h_left_72 := up h_left_72 l168
          replace fp181 := l168.nwl hp180 fp181
          replace hp180 := l168.h _ _ hp180
          replace rl182 := rpL.mono l168.f rl182
          replace h_free_86 := up h_free_86 l168
          refine gt_name ?_
          refine rd_if L186.fh (evt_of (ev_op (ev_snd (ev_var rfl rv169)) (ev_varF rfl rv129) rv_eqI)) hm ?_ ?_
          · intro F190 H191 _ hm l192
            have L193 := L186.trans l192
            have sb194 := Same.trans sb187 l192.f
            have sb195 := Same.trans sb188 l192.f
            have sb196 := Same.trans sb189 l192.f
            replace h_steps := up h_steps l192
            replace h_left_72 := up h_left_72 l192
            replace fp181 := l192.nwl hp180 fp181
            replace hp180 := l192.h _ _ hp180
            replace rl182 := rpL.mono l192.f rl182
            replace h_free_86 := up h_free_86 l192
            replace rv169 := up rv169 l192
            refine rd_setL L193.fh rfl hp180 fp181 rl182 (EV.flat (ev_max2 (ev_op (ev_var rfl (own_rp L193.fh hp180 rl182)) (ev_varF rfl rv129) rv_ixL) (ev_op (ev_op (ev_var rfl (own_rp L193.fh hp180 rl182)) (ev_fst (ev_var rfl (Rep.mono L193.fh rv169))) rv_ixL) ev_int rv_add)) L193.fh) (ev_varF rfl rv129) hm ?_
            intro x197 w198 F199 H200 hm m201 fp202 hp203 rl204
            have L205 := m201.l0 _ _ L193 hz24
            have sb206 := Same.trans sb194 m201.f
            have sb207 := Same.trans sb195 m201.f
            have sb208 := Same.trans sb196 m201.f
            replace h_steps := Rep.mono m201.f h_steps
            replace h_left_72 := Rep.mono m201.f h_left_72
            replace h_free_86 := Rep.mono m201.f h_free_86
            replace rv169 := Rep.mono m201.f rv169
            obtain rfl := Option.some.inj hm
            exact hN170 _ _ _ ⟨_, _, rfl, sb208, L205, ⟨hp203, fp202, rl204⟩, trivial⟩
          · intro F209 H210 _ hm l211
            have L212 := L186.trans l211
            have sb213 := Same.trans sb187 l211.f
            have sb214 := Same.trans sb188 l211.f
            have sb215 := Same.trans sb189 l211.f
            replace h_steps := up h_steps l211
            replace h_left_72 := up h_left_72 l211
            replace fp181 := l211.nwl hp180 fp181
            replace hp180 := l211.h _ _ hp180
            replace rl182 := rpL.mono l211.f rl182
            replace h_free_86 := up h_free_86 l211
            replace rv169 := up rv169 l211
            obtain rfl := Option.some.inj hm
            exact hN170 _ _ _ ⟨_, _, rfl, sb215, L212, ⟨hp180, fp181, rl182⟩, trivial⟩
        · rintro s216 σ_ F217 H218 hm ⟨e219, e220, rfl, sf221, L222, ⟨hp223, fp224, rl225⟩, -⟩
          have sb226 := Same.trans sb156 sf221
          have sb227 := Same.trans sb157 sf221
          replace h_steps := Rep.mono sf221 h_steps
          replace h_left_72 := Rep.mono sf221 h_left_72
          replace h_free_86 := Rep.mono sf221 h_free_86
          obtain rfl := Option.some.inj hm
          exact hN130 _ _ _ ⟨_, _, _, rfl, sb227, L222, ⟨hp223, fp224, rl225⟩, trivial⟩
      · rintro s228 σ_ F229 H230 hm ⟨e231, e232, e233, rfl, sf234, L235, ⟨hp236, fp237, rl238⟩, -⟩
        refine nx_with ?_
        have sb239 := Same.trans sb116 sf234
        replace h_steps := Rep.mono sf234 h_steps
        replace h_left_72 := Rep.mono sf234 h_left_72
        replace h_free_86 := Rep.mono sf234 h_free_86
        refine rd_asgL L235.fh (EVN.ev (evn_lc (ei_list (ev_var rfl h_left_72)) (fun x246 v247 _ _ _ l249 r248 k250 => gt_name (k250 _ rfl (evt_of (ev_op (ev_varF rfl r248) (ev_var rfl (up h_free_86 l249)) rv_notInI)) (ev_varF rfl r248))))) hm ?_
        intro x240 v241 F242 H243 hm l244 h_left_245
        have L251 := L235.trans l244
        have sb252 := Same.trans sb239 l244.f
        replace h_steps := up h_steps l244
        replace fp237 := l244.nwl hp236 fp237
        replace hp236 := l244.h _ _ hp236
        replace rl238 := rpL.mono l244.f rl238
        replace h_free_86 := up h_free_86 l244
        exact hN64 _ (Option.some.inj hm).symm _ _ _ ⟨_, _, _, _, _, rfl, sb252, L251, h_left_245, ⟨hp236, fp237, rl238⟩, trivial⟩
  · rintro s253 σ_ F254 H255 F256 H257 hm ⟨e259, e260, e261, e262, e263, rfl, sf264, L265, h_left_266, ⟨hp267, fp268, rl269⟩, -⟩ l258
    have L270 := L265.trans l258
    replace fp268 := l258.nwl hp267 fp268
    replace hp267 := l258.h _ _ hp267
    replace rl269 := rpL.mono l258.f rl269
    obtain ⟨F271, L272, sf273, h_height_274, fq275⟩ := freeze L270 hz24 fp268 hp267 rl269
    exact rd_ret0 L272.fh (ev_some (ev_var rfl h_height_274)) hm fun v F1 H1 l rv => hQ v F1 H1 (L272.trans l) rv
abbrev s_whole : Stmt := topS 35
theorem sc_whole : FnScope ["found"] ["found"] (defScope s_whole) := ⟨rfl, rfl, rfl, by decide +kernel, rfl, by decide +kernel, by decide +kernel⟩
theorem ok_whole {f : Addr} {fd : FuncData} (F : Fun K "_law_whole" "_law_whole" s_whole f fd) (gF : mg "_law_whole" = some (.ref f)) (T : Txt K mg ad CW) : Fn P w K mg base CX0 1 "_law_whole" ["found"] (spO (β := Bool) fun (x : Int × Unit) => whole x.1) := by
  refine ⟨f, _, gF, F.kp, F.binds (ps := ["found"]) (fun _ _ _ _ _ _ us hl => match us, hl with | [_], _ => rfl), F.ok sc_whole (spO_len rfl) (fun cdv A outer s H vs Q E hr h => ?_)⟩
  refine ⟨_, (pss_one (ps_ret (pe_and (pe_callB call_isi (by rfl) T.b_isinstance (by decide +kernel) (pa_cons (pv 0) (pa_cons (pe_bltn (v := .ty "int") (by rfl) T.b_int (by decide +kernel) rfl) pa_nil))) (pe_one (pe_not (pe_callB call_isi (by rfl) T.b_isinstance (by decide +kernel) (pa_cons (pv 0) (pa_cons (pe_bltn (v := .ty "bool") (by rfl) T.b_bool (by decide +kernel) rfl) pa_nil)))))))), ?_⟩
  obtain ⟨F0, ⟨x_found, _⟩, y, s0, ⟨v_found, _, rfl, h_found, rfl⟩, hm, hQ⟩ := h
  have L0 : Lat F0 H F0 H := .refl s0
  refine at_st (σ := [some v_found]) rfl ?_
  replace hm : whole x_found = some y := hm
  unfold whole at hm
  exact rd_ret0 L0.fh (ev_andV (ev_isi (ev_varF rfl h_found) true) (ev_notV (ev_isi (ev_varF rfl h_found) false))) hm fun v F1 H1 l rv => hQ v F1 H1 (L0.trans l) rv
abbrev s_first_ : Stmt := topS 36
theorem sc_first_ : FnScope ["points", "ties", "many", "number", "tints"] ["points", "ties"] (defScope s_first_) := ⟨rfl, rfl, rfl, by decide +kernel, rfl, by decide +kernel, by decide +kernel⟩
theorem ok_first_ {f : Addr} {fd : FuncData} (F : Fun K "_law_first" "_law_first" s_first_ f fd) (gF : mg "_law_first" = some (.ref f)) (T : Txt K mg ad CW) (C_many_tints : Fn P w K mg base CX0 1 "_law_many_tints" ["points", "many"] (spO (β := Int) fun (x : Int × Int × Unit) => many_tints x.1 x.2.1)) (C_tints_by : Fn P w K mg base CX0 1 "_law_tints_by" ["points", "number", "many"] (spN (β := Int) fun (x : Int × Int × Int × Unit) => tints_by x.1 x.2.1 x.2.2.1)) (C_fits : Fn P w K mg base CX0 1 "_law_fits" ["ties", "tints"] (spO (β := Bool) fun (x : (List (Int × Int)) × (List Int) × Unit) => fits x.1 x.2.1)) : Fn P w K mg base CX0 2 "_law_first" ["points", "ties"] (spO (β := (List Int)) fun (x : Int × (List (Int × Int)) × Unit) => first_ x.1 x.2.1) := by
  refine ⟨f, _, gF, F.kp, F.binds (ps := ["points", "ties"]) (fun _ _ _ _ _ _ us hl => match us, hl with | [_, _], _ => rfl), F.ok sc_first_ (spO_len rfl) (fun cdv A outer s H vs Q E hr h => ?_)⟩
  refine ⟨_, (pss_cons (ps_if (pt_cmpR op_eq (pv 0) pe_int (nomark _)) (pss_one (ps_ret (pe_lst pa_nil))) pss_nil)
    (pss_cons (ps_set (i := 2) sc_first_.nd rfl (by first | exact Or.inl rfl | exact Or.inr rfl) pe_int)
    (pss_one (ps_while PassesOwn.never (pt_val pe_bl) (pss_cons (ps_for PassesOwn.never rfl (pi_range1 (by rfl) T.b_range (pa_cons (pe_fn C_many_tints (hr.mono (by decide)) rfl (pa_cons (pv 0) (pa_cons (pv 2) pa_nil))) pa_nil)) (pg_name (i := 3) sc_first_.nd rfl (by first | exact Or.inl rfl | exact Or.inr rfl)) (pss_cons (ps_set (i := 4) sc_first_.nd rfl (by first | exact Or.inl rfl | exact Or.inr rfl) (pe_revL (pe_fn C_tints_by (hr.mono (by decide)) rfl (pa_cons (pv 0) (pa_cons (pv 3) (pa_cons (pv 2) pa_nil))))))
    (pss_one (ps_if (pt_val (pe_fn C_fits (hr.mono (by decide)) rfl (pa_cons (pv 1) (pa_cons (pv 4) pa_nil)))) (pss_one (ps_ret (pv 4))) pss_nil))))
    (pss_one (ps_set (i := 2) sc_first_.nd rfl (by first | exact Or.inl rfl | exact Or.inr rfl) (pe_op op_add (pv 2) pe_int)))))))), ?_⟩
  obtain ⟨F0, ⟨x_points, x_ties, _⟩, y, s0, ⟨v_points, _, rfl, h_points, v_ties, _, rfl, h_ties, rfl⟩, hm, hQ⟩ := h
  have L0 : Lat F0 H F0 H := .refl s0
  refine at_st (σ := [some v_points, some v_ties, none, none, none]) rfl ?_
  replace hm : first_ x_points x_ties = some y := hm
  unfold first_ at hm
  refine rd_guard L0.fh (evt_of (ev_op (ev_varF rfl h_points) ev_int rv_eqI)) hm ?_ ?_
  · intro F1 H2 _ hm l3
    have L4 := L0.trans l3
    exact rd_ret0 L4.fh (EVN.ev (evn_nil (α := Int))) hm fun v F1 H1 l rv => hQ v F1 H1 (L4.trans l) rv
  · intro F5 H6 _ hm l7
    have L8 := L0.trans l7
    replace h_ties := up h_ties l7
    refine rd_asg L8.fh ev_int hm ?_
    intro x9 v10 F11 H12 hm l13 h_many_14
    have L15 := L8.trans l13
    replace h_ties := up h_ties l13
    refine rd_whileRL hm (fun (s : Int) σ_ F_ H_ => ∃ (v2_ : V) (o3_ : Option V) (o4_ : Option V), σ_ = [some v_points, some v_ties, some v2_, o3_, o4_] ∧ Same F11 F_ ∧ Lat F0 H F_ H_ ∧ Rep.rp s v2_ F_ ∧ True) ⟨_, _, _, rfl, (.refl _), L15, (Flat.any h_many_14), trivial⟩ ?_ ?_ ?_ ?_
    · rintro s σ_ F_ H_ ⟨e16, e17, e18, rfl, sf19, L20, h_many_21, -⟩
      exact L20.fh
    · rintro s22 σ_ F23 H24 ⟨e25, e26, e27, rfl, sf28, L29, h_many_30, -⟩
      replace h_ties := Rep.mono sf28 h_ties
      exact (evt_b ev_bl)
    · rintro s31 σ_ F32 H33 F34 H35 ⟨e39, e40, e41, rfl, sf42, L43, h_many_44, -⟩ l36 st47 hm D37 hD45 hN38 hR46
      replace hD45 : D37.rt = Q := hD45
      replace h_ties := Rep.mono sf42 h_ties
      have L48 := L43.trans l36
      have sb49 := Same.trans sf42 l36.f
      replace h_ties := up h_ties l36
      refine rd_for L48.fh (ei_range1 (ev_call (eva_cons (ev_varF rfl h_points) (eva_cons (ev_varF rfl h_many_44) eva_nil)))) hm ?_
      intro xs50 J51 F52 H53 hm l54 wk55
      have L56 := L48.trans l54
      have sb57 := Same.trans sb49 l54.f
      replace h_ties := up h_ties l54
      refine rd_loopR wk55 hm (fun (s : Unit) σ_ F_ H_ => ∃ (o3_ : Option V) (o4_ : Option V), σ_ = [some v_points, some v_ties, some e39, o3_, o4_] ∧ Same F52 F_ ∧ Lat F0 H F_ H_ ∧ True) ⟨_, _, rfl, (.refl _), L56, trivial⟩ ?_ ?_ ?_
      · rintro s σ_ F_ H_ ⟨e58, e59, rfl, sf60, L61, -⟩
        exact ⟨sf60, L61.fh⟩
      · rintro q62 s63 σ_ F69 H70 v64 F71 H72 ⟨e73, e74, rfl, sf75, L76, -⟩ l65 rv66 st79 hm D68 hD77 hN67 hR78
        replace hD77 : D68.rt = D37.rt := hD77
        have sb80 := Same.trans sb57 sf75
        replace h_ties := Rep.mono sf75 h_ties
        have L81 := L76.trans l65
        have sb82 := Same.trans sb80 l65.f
        have sb83 := Same.trans sf75 l65.f
        replace h_ties := up h_ties l65
        refine gt_name ?_
        refine rd_asg L81.fh (EVN.ev (evn_rev (EVN.ev (evn_call (eva_cons (ev_varF rfl h_points) (eva_cons (ev_varF rfl rv66) (eva_cons (ev_varF rfl h_many_44) eva_nil))))))) hm ?_
        intro x84 v85 F86 H87 hm l88 h_tints_89
        have L90 := L81.trans l88
        have sb91 := Same.trans sb82 l88.f
        have sb92 := Same.trans sb83 l88.f
        replace h_ties := up h_ties l88
        refine rd_if L90.fh (evt_b (ev_call (eva_cons (ev_var rfl h_ties) (eva_cons (ev_var rfl h_tints_89) eva_nil)))) hm ?_ ?_
        · intro F93 H94 _ hm l95
          have L96 := L90.trans l95
          have sb97 := Same.trans sb91 l95.f
          have sb98 := Same.trans sb92 l95.f
          replace h_ties := up h_ties l95
          replace h_tints_89 := up h_tints_89 l95
          refine rd_ret L96.fh (ev_var rfl h_tints_89) hm ?_
          intro x_ v_ F1_ H1_ hm l_ rv_
          replace hm := hR78 _ (Option.some.inj hm).symm
          replace hm := hR46 _ (Option.some.inj hm).symm
          obtain rfl := Option.some.inj hm
          rw [hD77, hD45]
          exact hQ _ _ _ (L96.trans l_) rv_
        · intro F99 H100 _ hm l101
          have L102 := L90.trans l101
          have sb103 := Same.trans sb91 l101.f
          have sb104 := Same.trans sb92 l101.f
          replace h_ties := up h_ties l101
          replace h_tints_89 := up h_tints_89 l101
          exact hN67 _ (Option.some.inj hm).symm _ _ _ ⟨_, _, rfl, sb104, L102, trivial⟩
      · rintro s105 σ_ F106 H107 hm ⟨e108, e109, rfl, sf110, L111, -⟩
        refine nx_with ?_
        have sb112 := Same.trans sb57 sf110
        replace h_ties := Rep.mono sf110 h_ties
        refine rd_asgL L111.fh (ev_op (ev_varF rfl h_many_44) ev_int rv_add) hm ?_
        intro x113 v114 F115 H116 hm l117 h_many_118
        have L119 := L111.trans l117
        have sb120 := Same.trans sb112 l117.f
        replace h_ties := up h_ties l117
        exact hN38 _ (Option.some.inj hm).symm _ _ _ ⟨_, _, _, rfl, sb120, L119, (Flat.any h_many_118), trivial⟩
    · rintro s121 σ_ F122 H123 F124 H125 hm ⟨e127, e128, e129, rfl, sf130, L131, h_many_132, -⟩ l126
      cases hm
abbrev s_law : Stmt := topS 37
theorem sc_law : FnScope ["script", "points", "ties", "handed", "found", "tints", "one", "tie", "height", "number", "k", "other", "few"] ["script"] (defScope s_law) := ⟨rfl, rfl, rfl, by decide +kernel, rfl, by decide +kernel, by decide +kernel⟩
theorem ok_law {f : Addr} {fd : FuncData} (F : Fun K "law" "law" s_law f fd) (gF : mg "law" = some (.ref f)) (T : Txt K mg ad CW) (C_web_by : Fn P w K mg base CX0 2 "_law_web_by" ["script", "k", "most", "cap"] (spO (β := (Int × (List (Int × Int)))) fun (x : (Scr K) × Int × Int × Int × Unit) => web_by x.1.l x.2.1 x.2.2.1 x.2.2.2.1)) (C_flattest : Fn P w K mg base (L2.CX P w) 26 "flattest" ["points", "ties"] (spX (clO ad) (β := (List Bool)) fun (x : Int × (List (Int × Int)) × Unit) => flattest x.1 x.2.1)) (C_first_ : Fn P w K mg base CX0 2 "_law_first" ["points", "ties"] (spO (β := (List Int)) fun (x : Int × (List (Int × Int)) × Unit) => first_ x.1 x.2.1)) (C_longest : Fn P w K mg base CX0 1 "_law_longest" ["points", "steps"] (spO (β := (Option (List Int))) fun (x : Int × (List (Int × Int)) × Unit) => longest x.1 x.2.1)) (C_from_to : Fn P w K mg base CX0 1 "_law_from_to" ["ties", "ways"] (spN (β := (Int × Int)) fun (x : (List (Int × Int)) × (List Bool) × Unit) => from_to x.1 x.2.1)) (C_ways_by : Fn P w K mg base CX0 1 "_law_ways_by" ["many", "number"] (spN (β := Bool) fun (x : Int × Int × Unit) => ways_by x.1 x.2.1)) (C_fewest : Fn P w K mg base (L2.CX P w) 25 "fewest" ["points", "ties"] (spX (clO ad) (β := Int) fun (x : Int × (List (Int × Int)) × Unit) => fewest x.1 x.2.1)) (C_whole : Fn P w K mg base CX0 1 "_law_whole" ["found"] (spO (β := Bool) fun (x : Int × Unit) => whole x.1)) : FnOk P w K mg base CX0 27 f fd ["script"] (spO (β := Bool) fun (x : (Scr K) × Unit) => law x.1.l) := by
  refine F.ok sc_law (spO_len rfl) (fun cdv A outer s H vs Q E hr h => ?_)
  refine ⟨_, (pss_cons (ps_asg (pe_fn C_web_by (hr.mono (by decide)) rfl (pa_cons (pv 0) (pa_cons pe_int (pa_cons pe_int (pa_cons pe_int pa_nil))))) (pg_tup rfl (pgs_cons (pg_name (i := 1) sc_law.nd rfl (by first | exact Or.inl rfl | exact Or.inr rfl)) (pgs_cons (pg_name (i := 2) sc_law.nd rfl (by first | exact Or.inl rfl | exact Or.inr rfl)) pgs_nil))))
    (pss_cons (ps_set (i := 3) sc_law.nd rfl (by first | exact Or.inl rfl | exact Or.inr rfl) (pe_callTy call_list_of (by rfl) T.b_list (by decide +kernel) (pa_cons (pv 2) pa_nil)))
    (pss_cons (ps_set (i := 4) sc_law.nd rfl (by first | exact Or.inl rfl | exact Or.inr rfl) (pe_fn0 C_flattest (hr.mono (by decide)) rfl (pa_cons (pv 1) (pa_cons (pv 3) pa_nil))))
    (pss_cons (ps_if (PW.pt (pw_or (pt_not (pt_val (pe_callB call_isi (by rfl) T.b_isinstance (by decide +kernel) (pa_cons (pv 4) (pa_cons (pe_bltn (v := .ty "list") (by rfl) T.b_list (by decide +kernel) rfl) pa_nil))))) (pw_or (pt_cmpR op_ne (pe_callB call_len_seq (by rfl) T.b_len PySem.boot_len (pa_cons (pv 4) pa_nil)) (pe_callB call_len_seq (by rfl) T.b_len PySem.boot_len (pa_cons (pv 2) pa_nil)) (nomark _)) (pw_or1 (pt_cmpR (op_neD (hu64 hr)) (pv 3) (pv 2) (nomark _)))))) (pss_one (ps_ret pe_bl)) pss_nil)
    (pss_cons (ps_set (i := 5) sc_law.nd rfl (by first | exact Or.inl rfl | exact Or.inr rfl) (pe_fn C_first_ (hr.mono (by decide)) rfl (pa_cons (pv 1) (pa_cons (pv 2) pa_nil))))
    (pss_cons (ps_for PassesOwn.never rfl (pi_zip (by rfl) T.b_zip (pa_cons (pv 4) (pa_cons (pv 2) pa_nil))) (pg_tup rfl (pgs_cons (pg_name (i := 6) sc_law.nd rfl (by first | exact Or.inl rfl | exact Or.inr rfl)) (pgs_cons (pg_name (i := 7) sc_law.nd rfl (by first | exact Or.inl rfl | exact Or.inr rfl)) pgs_nil))) (pss_one (ps_if (PW.pt (pw_or (pt_not (pt_val (pe_callB call_isi (by rfl) T.b_isinstance (by decide +kernel) (pa_cons (pv 6) (pa_cons (pe_bltn (v := .ty "bool") (by rfl) T.b_bool (by decide +kernel) rfl) pa_nil))))) (pw_or1 (pt_cmpR op_ne (pv 6) (pe_cmpR op_lt (pe_ix ix_list (pv 5) (pe_ix ix_tup (pv 7) pe_int (fun _ _ => rfl)) (fun _ _ => rfl)) (pe_ix ix_list (pv 5) (pe_ix ix_tup (pv 7) pe_int (fun _ _ => rfl)) (fun _ _ => rfl)) (nomark _)) (nomark _))))) (pss_one (ps_ret pe_bl)) pss_nil)))
    (pss_cons (ps_set (i := 8) sc_law.nd rfl (by first | exact Or.inl rfl | exact Or.inr rfl) (pe_fn C_longest (hr.mono (by decide)) rfl (pa_cons (pv 1) (pa_cons (pe_fn C_from_to (hr.mono (by decide)) rfl (pa_cons (pv 2) (pa_cons (pv 4) pa_nil))) pa_nil))))
    (pss_cons (ps_if (pt_cmp (pc_isN (pv 8)) rfl) (pss_one (ps_ret pe_bl)) pss_nil)
    (pss_cons (ps_set (i := 9) sc_law.nd rfl (by first | exact Or.inl rfl | exact Or.inr rfl) pe_int)
    (pss_cons (ps_for PassesOwn.never rfl (pi_list (pv 2)) (pg_name (i := 7) sc_law.nd rfl (by first | exact Or.inl rfl | exact Or.inr rfl)) (pss_one (ps_set (i := 9) sc_law.nd rfl (by first | exact Or.inl rfl | exact Or.inr rfl) (pe_op op_mul (pv 9) pe_int))))
    (pss_cons (ps_for PassesOwn.never rfl (pi_range1 (by rfl) T.b_range (pa_cons (pv 9) pa_nil)) (pg_name (i := 10) sc_law.nd rfl (by first | exact Or.inl rfl | exact Or.inr rfl)) (pss_cons (ps_set (i := 11) sc_law.nd rfl (by first | exact Or.inl rfl | exact Or.inr rfl) (pe_fn C_longest (hr.mono (by decide)) rfl (pa_cons (pv 1) (pa_cons (pe_fn C_from_to (hr.mono (by decide)) rfl (pa_cons (pv 2) (pa_cons (pe_fn C_ways_by (hr.mono (by decide)) rfl (pa_cons (pe_callB call_len_seq (by rfl) T.b_len PySem.boot_len (pa_cons (pv 2) pa_nil)) (pa_cons (pv 10) pa_nil))) pa_nil))) pa_nil))))
    (pss_one (ps_if (PW.pt (pw_and (pt_cmp (pc_notN (pv 11)) rfl) (pw_and1 (pt_cmpR op_lt (pe_callBK (cr_maxDf rfl) (by rfl) T.b_max (by decide +kernel) (pa_cons (pv 11) pa_nil) (pk_cons pe_int pk_nil)) (pe_callBK (cr_maxDf rfl) (by rfl) T.b_max (by decide +kernel) (pa_cons (pv 8) pa_nil) (pk_cons pe_int pk_nil)) (nomark _))))) (pss_one (ps_ret pe_bl)) pss_nil))))
    (pss_cons (ps_set (i := 12) sc_law.nd rfl (by first | exact Or.inl rfl | exact Or.inr rfl) (pe_fn0 C_fewest (hr.mono (by decide)) rfl (pa_cons (pv 1) (pa_cons (pv 3) pa_nil))))
    (pss_one (ps_ret (pe_and (pe_fn C_whole (hr.mono (by decide)) rfl (pa_cons (pv 12) pa_nil)) (pe_one (pe_or (pe_and (pe_cmpR op_eq (pv 1) pe_int (nomark _)) (pe_one (pe_cmpR op_eq (pv 12) pe_int (nomark _)))) (pe_one (pe_and (pe_cmpR op_gt (pv 1) pe_int (nomark _)) (pe_one (pe_cmpR op_eq (pv 12) (pe_op op_add (pe_callBK (cr_maxDf rfl) (by rfl) T.b_max (by decide +kernel) (pa_cons (pv 8) pa_nil) (pk_cons pe_int pk_nil)) pe_int) (nomark _)))))))))))))))))))))), ?_⟩
  obtain ⟨F0, ⟨x_script, _⟩, y, s0, ⟨v_script, _, rfl, h_script, rfl⟩, hm, hQ⟩ := h
  have L0 : Lat F0 H F0 H := .refl s0
  refine at_st (σ := [some v_script, none, none, none, none, none, none, none, none, none, none, none, none]) rfl ?_
  replace hm : law x_script.l = some y := hm
  unfold law at hm
  refine rd_asg2 L0.fh (ev_call (eva_cons (ev_var rfl h_script) (eva_cons ev_int (eva_cons ev_int (eva_cons ev_int eva_nil))))) hm ?_
  intro x1 v2 v3 F4 H5 hm l6 h_points_7 h_ties_8
  have L9 := L0.trans l6
  refine rd_asg L9.fh (EVN.ev (evn_list (ev_var rfl h_ties_8))) hm ?_
  intro x10 v11 F12 H13 hm l14 h_handed_15
  have L16 := L9.trans l14
  replace h_ties_8 := up h_ties_8 l14
  refine rd_asg L16.fh (ev_callX (eva_cons (ev_varF rfl h_points_7) (eva_cons (ev_var rfl h_handed_15) eva_nil))) hm ?_
  intro x17 v18 F19 H20 hm l21 h_found_22
  have L23 := L16.trans l21
  replace h_ties_8 := up h_ties_8 l21
  replace h_handed_15 := up h_handed_15 l21
  refine rd_guard L23.fh (evt_or (evt_not (evt_b (ev_isi (ev_var rfl h_found_22) true))) (evt_or (evt_of (ev_op (ev_len (ev_var rfl h_found_22)) (ev_len (ev_var rfl h_ties_8)) rv_neI)) (evt_of (ev_op (ev_var rfl h_handed_15) (ev_var rfl h_ties_8) (fun x y => rv_neD x y))))) hm ?_ ?_
  · intro F24 H25 _ hm l26
    have L27 := L23.trans l26
    exact rd_ret0 L27.fh ev_bl hm fun v F1 H1 l rv => hQ v F1 H1 (L27.trans l) rv
  · intro F28 H29 _ hm l30
    have L31 := L23.trans l30
    replace h_ties_8 := up h_ties_8 l30
    replace h_handed_15 := up h_handed_15 l30
    replace h_found_22 := up h_found_22 l30
    refine rd_asg L31.fh (ev_call (eva_cons (ev_varF rfl h_points_7) (eva_cons (ev_var rfl h_ties_8) eva_nil))) hm ?_
    intro x32 v33 F34 H35 hm l36 h_tints_37
    have L38 := L31.trans l36
    replace h_ties_8 := up h_ties_8 l36
    replace h_handed_15 := up h_handed_15 l36
    replace h_found_22 := up h_found_22 l36
    refine rd_for L38.fh (ei_zip (ev_var rfl h_found_22) (ev_var rfl h_ties_8)) hm ?_
    intro xs39 J40 F41 H42 hm l43 wk44
    have L45 := L38.trans l43
    replace h_ties_8 := up h_ties_8 l43
    replace h_handed_15 := up h_handed_15 l43
    replace h_found_22 := up h_found_22 l43
    replace h_tints_37 := up h_tints_37 l43
    refine rd_loopR wk44 hm (fun (s : Unit) σ_ F_ H_ => ∃ (o6_ : Option V) (o7_ : Option V), σ_ = [some v_script, some v2, some v3, some v11, some v18, some v33, o6_, o7_, none, none, none, none, none] ∧ Same F41 F_ ∧ Lat F0 H F_ H_ ∧ True) ⟨_, _, rfl, (.refl _), L45, trivial⟩ ?_ ?_ ?_
    · rintro s σ_ F_ H_ ⟨e46, e47, rfl, sf48, L49, -⟩
      exact ⟨sf48, L49.fh⟩
    · rintro q50 s51 σ_ F57 H58 v52 F59 H60 ⟨e61, e62, rfl, sf63, L64, -⟩ l53 rv54 st67 hm D56 hD65 hN55 hR66
      replace hD65 : D56.rt = Q := hD65
      replace h_ties_8 := Rep.mono sf63 h_ties_8
      replace h_handed_15 := Rep.mono sf63 h_handed_15
      replace h_found_22 := Rep.mono sf63 h_found_22
      replace h_tints_37 := Rep.mono sf63 h_tints_37
      have L68 := L64.trans l53
      have sb69 := Same.trans sf63 l53.f
      replace h_ties_8 := up h_ties_8 l53
      replace h_handed_15 := up h_handed_15 l53
      replace h_found_22 := up h_found_22 l53
      replace h_tints_37 := up h_tints_37 l53
      refine gt_pair rv54 l53.fh ?_
      intro v70 v71 h_one_72 h_tie_73
      refine rd_if L68.fh (evt_or (evt_not (evt_b (ev_isi (ev_varF rfl h_one_72) true))) (evt_of (ev_op (ev_varF rfl h_one_72) (ev_op (ev_op (ev_var rfl h_tints_37) (ev_fst (ev_var rfl h_tie_73)) rv_ixL) (ev_op (ev_var rfl h_tints_37) (ev_snd (ev_var rfl h_tie_73)) rv_ixL) rv_cmp) rv_neB))) hm ?_ ?_
      · intro F74 H75 _ hm l76
        have L77 := L68.trans l76
        have sb78 := Same.trans sb69 l76.f
        replace h_ties_8 := up h_ties_8 l76
        replace h_handed_15 := up h_handed_15 l76
        replace h_found_22 := up h_found_22 l76
        replace h_tints_37 := up h_tints_37 l76
        replace h_tie_73 := up h_tie_73 l76
        refine rd_ret L77.fh ev_bl hm ?_
        intro x_ v_ F1_ H1_ hm l_ rv_
        replace hm := hR66 _ (Option.some.inj hm).symm
        obtain rfl := Option.some.inj hm
        rw [hD65]
        exact hQ _ _ _ (L77.trans l_) rv_
      · intro F79 H80 _ hm l81
        have L82 := L68.trans l81
        have sb83 := Same.trans sb69 l81.f
        replace h_ties_8 := up h_ties_8 l81
        replace h_handed_15 := up h_handed_15 l81
        replace h_found_22 := up h_found_22 l81
        replace h_tints_37 := up h_tints_37 l81
        replace h_tie_73 := up h_tie_73 l81
        exact hN55 _ (Option.some.inj hm).symm _ _ _ ⟨_, _, rfl, sb83, L82, trivial⟩
    · rintro s84 σ_ F85 H86 hm ⟨e87, e88, rfl, sf89, L90, -⟩
      refine nx_with ?_
      replace h_ties_8 := Rep.mono sf89 h_ties_8
      replace h_handed_15 := Rep.mono sf89 h_handed_15
      replace h_found_22 := Rep.mono sf89 h_found_22
      refine rd_asg L90.fh (ev_call (eva_cons (ev_varF rfl h_points_7) (eva_cons (EVN.ev (evn_call (eva_cons (ev_var rfl h_ties_8) (eva_cons (ev_var rfl h_found_22) eva_nil)))) eva_nil))) hm ?_
      intro x91 v92 F93 H94 hm l95 h_height_96
      have L97 := L90.trans l95
      replace h_ties_8 := up h_ties_8 l95
      replace h_handed_15 := up h_handed_15 l95
      refine rd_guard L97.fh (evt_b (ev_isN (fun x v F h => nn_list x v F h) (ev_var rfl h_height_96))) hm ?_ ?_
      · intro F98 H99 _ hm l100
        have L101 := L97.trans l100
        exact rd_ret0 L101.fh ev_bl hm fun v F1 H1 l rv => hQ v F1 H1 (L101.trans l) rv
      · intro F102 H103 _ hm l104
        have L105 := L97.trans l104
        replace h_ties_8 := up h_ties_8 l104
        replace h_handed_15 := up h_handed_15 l104
        replace h_height_96 := up h_height_96 l104
        refine rd_asg L105.fh ev_int hm ?_
        intro x106 v107 F108 H109 hm l110 h_number_111
        have L112 := L105.trans l110
        replace h_ties_8 := up h_ties_8 l110
        replace h_handed_15 := up h_handed_15 l110
        replace h_height_96 := up h_height_96 l110
        refine rd_for L112.fh (ei_list (ev_var rfl h_ties_8)) hm ?_
        intro xs113 J114 F115 H116 hm l117 wk118
        have L119 := L112.trans l117
        replace h_ties_8 := up h_ties_8 l117
        replace h_handed_15 := up h_handed_15 l117
        replace h_height_96 := up h_height_96 l117
        refine rd_loopG wk118 hm (fun (s : Int) σ_ F_ H_ => ∃ (o7_ : Option V) (v9_ : V), σ_ = [some v_script, some v2, some v3, some v11, some v18, some v33, e87, o7_, some v92, some v9_, none, none, none] ∧ Same F115 F_ ∧ Lat F0 H F_ H_ ∧ Rep.rp s v9_ F_ ∧ True) ⟨_, _, rfl, (.refl _), L119, (Flat.any h_number_111), trivial⟩ ?_ ?_ ?_
        · rintro s σ_ F_ H_ ⟨e120, e121, rfl, sf122, L123, h_number_124, -⟩
          exact ⟨sf122, L123.fh⟩
        · rintro q125 s126 σ_ F132 H133 v127 F134 H135 ⟨e136, e137, rfl, sf138, L139, h_number_140, -⟩ l128 rv129 s141 hm D131 hN130
          replace h_ties_8 := Rep.mono sf138 h_ties_8
          replace h_handed_15 := Rep.mono sf138 h_handed_15
          replace h_height_96 := Rep.mono sf138 h_height_96
          have L142 := L139.trans l128
          have sb143 := Same.trans sf138 l128.f
          replace h_ties_8 := up h_ties_8 l128
          replace h_handed_15 := up h_handed_15 l128
          replace h_height_96 := up h_height_96 l128
          refine gt_name ?_
          refine rd_asgL L142.fh (ev_op (ev_varF rfl h_number_140) ev_int rv_mul) hm ?_
          intro x144 v145 F146 H147 hm l148 h_number_149
          have L150 := L142.trans l148
          have sb151 := Same.trans sb143 l148.f
          replace h_ties_8 := up h_ties_8 l148
          replace h_handed_15 := up h_handed_15 l148
          replace h_height_96 := up h_height_96 l148
          obtain rfl := Option.some.inj hm
          exact hN130 _ _ _ ⟨_, _, rfl, sb151, L150, (Flat.any h_number_149), trivial⟩
        · rintro s152 σ_ F153 H154 hm ⟨e155, e156, rfl, sf157, L158, h_number_159, -⟩
          refine nx_with ?_
          replace h_ties_8 := Rep.mono sf157 h_ties_8
          replace h_handed_15 := Rep.mono sf157 h_handed_15
          replace h_height_96 := Rep.mono sf157 h_height_96
          refine rd_for L158.fh (ei_range1 (ev_varF rfl h_number_159)) hm ?_
          intro xs160 J161 F162 H163 hm l164 wk165
          have L166 := L158.trans l164
          replace h_ties_8 := up h_ties_8 l164
          replace h_handed_15 := up h_handed_15 l164
          replace h_height_96 := up h_height_96 l164
          refine rd_loopR wk165 hm (fun (s : Unit) σ_ F_ H_ => ∃ (o10_ : Option V) (o11_ : Option V), σ_ = [some v_script, some v2, some v3, some v11, some v18, some v33, e87, e155, some v92, some e156, o10_, o11_, none] ∧ Same F162 F_ ∧ Lat F0 H F_ H_ ∧ True) ⟨_, _, rfl, (.refl _), L166, trivial⟩ ?_ ?_ ?_
          · rintro s σ_ F_ H_ ⟨e167, e168, rfl, sf169, L170, -⟩
            exact ⟨sf169, L170.fh⟩
          · rintro q171 s172 σ_ F178 H179 v173 F180 H181 ⟨e182, e183, rfl, sf184, L185, -⟩ l174 rv175 st188 hm D177 hD186 hN176 hR187
            replace hD186 : D177.rt = Q := hD186
            replace h_ties_8 := Rep.mono sf184 h_ties_8
            replace h_handed_15 := Rep.mono sf184 h_handed_15
            replace h_height_96 := Rep.mono sf184 h_height_96
            have L189 := L185.trans l174
            have sb190 := Same.trans sf184 l174.f
            replace h_ties_8 := up h_ties_8 l174
            replace h_handed_15 := up h_handed_15 l174
            replace h_height_96 := up h_height_96 l174
            refine gt_name ?_
            refine rd_asg L189.fh (ev_call (eva_cons (ev_varF rfl h_points_7) (eva_cons (EVN.ev (evn_call (eva_cons (ev_var rfl h_ties_8) (eva_cons (EVN.ev (evn_call (eva_cons (ev_len (ev_var rfl h_ties_8)) (eva_cons (ev_varF rfl rv175) eva_nil)))) eva_nil)))) eva_nil))) hm ?_
            intro x191 v192 F193 H194 hm l195 h_other_196
            have L197 := L189.trans l195
            have sb198 := Same.trans sb190 l195.f
            replace h_ties_8 := up h_ties_8 l195
            replace h_handed_15 := up h_handed_15 l195
            replace h_height_96 := up h_height_96 l195
            refine rd_if L197.fh (evt_and (evt_b (ev_notN (fun x v F h => nn_list x v F h) (ev_var rfl h_other_196))) (evt_of (ev_op (ev_maxD (ev_un (ev_var rfl h_other_196)) ev_int) (ev_maxD (ev_un (ev_var rfl h_height_96)) ev_int) rv_cmp))) hm ?_ ?_
            · intro F199 H200 _ hm l201
              have L202 := L197.trans l201
              have sb203 := Same.trans sb198 l201.f
              replace h_ties_8 := up h_ties_8 l201
              replace h_handed_15 := up h_handed_15 l201
              replace h_height_96 := up h_height_96 l201
              replace h_other_196 := up h_other_196 l201
              refine rd_ret L202.fh ev_bl hm ?_
              intro x_ v_ F1_ H1_ hm l_ rv_
              replace hm := hR187 _ (Option.some.inj hm).symm
              obtain rfl := Option.some.inj hm
              rw [hD186]
              exact hQ _ _ _ (L202.trans l_) rv_
            · intro F204 H205 _ hm l206
              have L207 := L197.trans l206
              have sb208 := Same.trans sb198 l206.f
              replace h_ties_8 := up h_ties_8 l206
              replace h_handed_15 := up h_handed_15 l206
              replace h_height_96 := up h_height_96 l206
              replace h_other_196 := up h_other_196 l206
              exact hN176 _ (Option.some.inj hm).symm _ _ _ ⟨_, _, rfl, sb208, L207, trivial⟩
          · rintro s209 σ_ F210 H211 hm ⟨e212, e213, rfl, sf214, L215, -⟩
            refine nx_with ?_
            replace h_handed_15 := Rep.mono sf214 h_handed_15
            replace h_height_96 := Rep.mono sf214 h_height_96
            refine rd_asg L215.fh (ev_callX (eva_cons (ev_varF rfl h_points_7) (eva_cons (ev_var rfl h_handed_15) eva_nil))) hm ?_
            intro x216 v217 F218 H219 hm l220 h_few_221
            have L222 := L215.trans l220
            replace h_height_96 := up h_height_96 l220
            exact rd_ret0 L222.fh (ev_andV (ev_call (eva_cons (ev_varF rfl h_few_221) eva_nil)) (ev_orV (ev_andV (ev_op (ev_varF rfl h_points_7) ev_int rv_eqI) (ev_op (ev_varF rfl h_few_221) ev_int rv_eqI)) (ev_andV (ev_op (ev_varF rfl h_points_7) ev_int rv_cmp) (ev_op (ev_varF rfl h_few_221) (ev_op (ev_maxD (ev_un (ev_var rfl h_height_96)) ev_int) ev_int rv_add) rv_eqI)))) hm fun v F1 H1 l rv => hQ v F1 H1 (L222.trans l) rv
end
theorem all_mk {l : PySem.W.OpenLaw} {w : World} {K : PySem.W.Frag} {h : Heap} {mg : Str → Option Value} {fa f0 f1 f2 f3 f4 f5 f6 f7 f8 f9 f10 f11 f12 f13 f14 f15 f16 f17 f18 f19 f20 f21 f22 f23 f24 f25 A_NoDyeing A_NoWeb : Addr} (X : K.In h) (G : h.Ns mainGlobals mg) (hfa : mg "law" = some (.ref fa))
    {od0 an0 od1 an1 od2 an2 od3 an3 od4 an4 od5 an5 od6 an6 od7 an7 od8 an8 od9 an9 od10 an10 od11 an11 od12 an12 od13 an13 od14 an14 od15 an15 od16 an16 od17 an17 od18 an18 od19 an19 od20 an20 od21 an21 od22 an22 od23 an23 od24 an24 od25 an25 : Option Addr} {sl0 sl1 sl2 sl3 sl4 sl5 sl6 sl7 sl8 sl9 sl10 sl11 sl12 sl13 sl14 sl15 sl16 sl17 sl18 sl19 sl20 sl21 sl22 sl23 sl24 sl25 : Array (Option Value)} {oc0 kV0 dc0 pm0 cd0 ct0 oc1 kV1 dc1 pm1 cd1 ct1 oc2 kV2 dc2 pm2 cd2 ct2 oc3 kV3 dc3 pm3 cd3 ct3 oc4 kV4 dc4 pm4 cd4 ct4 oc5 kV5 dc5 pm5 cd5 ct5 oc6 kV6 dc6 pm6 cd6 ct6 oc7 kV7 dc7 pm7 cd7 ct7 oc8 kV8 dc8 pm8 cd8 ct8 oc9 kV9 dc9 pm9 cd9 ct9 oc10 kV10 dc10 pm10 cd10 ct10 oc11 kV11 dc11 pm11 cd11 ct11 oc12 kV12 dc12 pm12 cd12 ct12 oc13 kV13 dc13 pm13 cd13 ct13 oc14 kV14 dc14 pm14 cd14 ct14 oc15 kV15 dc15 pm15 cd15 ct15 oc16 kV16 dc16 pm16 cd16 ct16 oc17 kV17 dc17 pm17 cd17 ct17 oc18 kV18 dc18 pm18 cd18 ct18 oc19 kV19 dc19 pm19 cd19 ct19 oc20 kV20 dc20 pm20 cd20 ct20 oc21 kV21 dc21 pm21 cd21 ct21 oc22 kV22 dc22 pm22 cd22 ct22 oc23 kV23 dc23 pm23 cd23 ct23 oc24 kV24 dc24 pm24 cd24 ct24 oc25 kV25 dc25 pm25 cd25 ct25 : Value}
    (a0 : PySem.W.nsIn K mainGlobals "is_web" = some (some (.ref f0))) (l0 : K.lookup f0 = some ⟨oc0, od0, .func (PySem.W.fnOf "is_web" "is_web" (defArgs s_is_web) (defBody s_is_web) (defScope s_is_web) .none kV0 dc0 pm0 an0 cd0 ct0), sl0⟩) (c0 : PySem.W.codeIn K cd0 "is_web" = true) (k0 : PySem.W.keepIn K (.ref f0) = true)
    (a1 : PySem.W.nsIn K mainGlobals "asked_web" = some (some (.ref f1))) (l1 : K.lookup f1 = some ⟨oc1, od1, .func (PySem.W.fnOf "asked_web" "asked_web" (defArgs s_asked_web) (defBody s_asked_web) (defScope s_asked_web) .none kV1 dc1 pm1 an1 cd1 ct1), sl1⟩) (c1 : PySem.W.codeIn K cd1 "asked_web" = true) (k1 : PySem.W.keepIn K (.ref f1) = true)
    (a2 : PySem.W.nsIn K mainGlobals "without" = some (some (.ref f2))) (l2 : K.lookup f2 = some ⟨oc2, od2, .func (PySem.W.fnOf "without" "without" (defArgs s_without) (defBody s_without) (defScope s_without) .none kV2 dc2 pm2 an2 cd2 ct2), sl2⟩) (c2 : PySem.W.codeIn K cd2 "without" = true) (k2 : PySem.W.keepIn K (.ref f2) = true)
    (a3 : PySem.W.nsIn K mainGlobals "named" = some (some (.ref f3))) (l3 : K.lookup f3 = some ⟨oc3, od3, .func (PySem.W.fnOf "named" "named" (defArgs s_named) (defBody s_named) (defScope s_named) .none kV3 dc3 pm3 an3 cd3 ct3), sl3⟩) (c3 : PySem.W.codeIn K cd3 "named" = true) (k3 : PySem.W.keepIn K (.ref f3) = true)
    (a4 : PySem.W.nsIn K mainGlobals "put_together" = some (some (.ref f4))) (l4 : K.lookup f4 = some ⟨oc4, od4, .func (PySem.W.fnOf "put_together" "put_together" (defArgs s_put_together) (defBody s_put_together) (defScope s_put_together) .none kV4 dc4 pm4 an4 cd4 ct4), sl4⟩) (c4 : PySem.W.codeIn K cd4 "put_together" = true) (k4 : PySem.W.keepIn K (.ref f4) = true)
    (a5 : PySem.W.nsIn K mainGlobals "row_by" = some (some (.ref f5))) (l5 : K.lookup f5 = some ⟨oc5, od5, .func (PySem.W.fnOf "row_by" "row_by" (defArgs s_row_by) (defBody s_row_by) (defScope s_row_by) .none kV5 dc5 pm5 an5 cd5 ct5), sl5⟩) (c5 : PySem.W.codeIn K cd5 "row_by" = true) (k5 : PySem.W.keepIn K (.ref f5) = true)
    (a6 : PySem.W.nsIn K mainGlobals "row" = some (some (.ref f6))) (l6 : K.lookup f6 = some ⟨oc6, od6, .func (PySem.W.fnOf "row" "row" (defArgs s_row) (defBody s_row) (defScope s_row) .none kV6 dc6 pm6 an6 cd6 ct6), sl6⟩) (c6 : PySem.W.codeIn K cd6 "row" = true) (k6 : PySem.W.keepIn K (.ref f6) = true)
    (a7 : PySem.W.nsIn K mainGlobals "worth" = some (some (.ref f7))) (l7 : K.lookup f7 = some ⟨oc7, od7, .func (PySem.W.fnOf "worth" "worth" (defArgs s_worth) (defBody s_worth) (defScope s_worth) .none kV7 dc7 pm7 an7 cd7 ct7), sl7⟩) (c7 : PySem.W.codeIn K cd7 "worth" = true) (k7 : PySem.W.keepIn K (.ref f7) = true)
    (a8 : PySem.W.nsIn K mainGlobals "unlike" = some (some (.ref f8))) (l8 : K.lookup f8 = some ⟨oc8, od8, .func (PySem.W.fnOf "unlike" "unlike" (defArgs s_unlike) (defBody s_unlike) (defScope s_unlike) .none kV8 dc8 pm8 an8 cd8 ct8), sl8⟩) (c8 : PySem.W.codeIn K cd8 "unlike" = true) (k8 : PySem.W.keepIn K (.ref f8) = true)
    (a9 : PySem.W.nsIn K mainGlobals "fewest" = some (some (.ref f9))) (l9 : K.lookup f9 = some ⟨oc9, od9, .func (PySem.W.fnOf "fewest" "fewest" (defArgs s_fewest) (defBody s_fewest) (defScope s_fewest) .none kV9 dc9 pm9 an9 cd9 ct9), sl9⟩) (c9 : PySem.W.codeIn K cd9 "fewest" = true) (k9 : PySem.W.keepIn K (.ref f9) = true)
    (a10 : PySem.W.nsIn K mainGlobals "extended" = some (some (.ref f10))) (l10 : K.lookup f10 = some ⟨oc10, od10, .func (PySem.W.fnOf "extended" "extended" (defArgs s_extended) (defBody s_extended) (defScope s_extended) .none kV10 dc10 pm10 an10 cd10 ct10), sl10⟩) (c10 : PySem.W.codeIn K cd10 "extended" = true) (k10 : PySem.W.keepIn K (.ref f10) = true)
    (a11 : PySem.W.nsIn K mainGlobals "least" = some (some (.ref f11))) (l11 : K.lookup f11 = some ⟨oc11, od11, .func (PySem.W.fnOf "least" "least" (defArgs s_least) (defBody s_least) (defScope s_least) .none kV11 dc11 pm11 an11 cd11 ct11), sl11⟩) (c11 : PySem.W.codeIn K cd11 "least" = true) (k11 : PySem.W.keepIn K (.ref f11) = true)
    (a12 : PySem.W.nsIn K mainGlobals "setting_of" = some (some (.ref f12))) (l12 : K.lookup f12 = some ⟨oc12, od12, .func (PySem.W.fnOf "setting_of" "setting_of" (defArgs s_setting_of) (defBody s_setting_of) (defScope s_setting_of) .none kV12 dc12 pm12 an12 cd12 ct12), sl12⟩) (c12 : PySem.W.codeIn K cd12 "setting_of" = true) (k12 : PySem.W.keepIn K (.ref f12) = true)
    (a13 : PySem.W.nsIn K mainGlobals "flattest" = some (some (.ref f13))) (l13 : K.lookup f13 = some ⟨oc13, od13, .func (PySem.W.fnOf "flattest" "flattest" (defArgs s_flattest) (defBody s_flattest) (defScope s_flattest) .none kV13 dc13 pm13 an13 cd13 ct13), sl13⟩) (c13 : PySem.W.codeIn K cd13 "flattest" = true) (k13 : PySem.W.keepIn K (.ref f13) = true)
    (a14 : PySem.W.nsIn K mainGlobals "_law_cell_at" = some (some (.ref f14))) (l14 : K.lookup f14 = some ⟨oc14, od14, .func (PySem.W.fnOf "_law_cell_at" "_law_cell_at" (defArgs s_cell_at) (defBody s_cell_at) (defScope s_cell_at) .none kV14 dc14 pm14 an14 cd14 ct14), sl14⟩) (c14 : PySem.W.codeIn K cd14 "_law_cell_at" = true) (k14 : PySem.W.keepIn K (.ref f14) = true)
    (a15 : PySem.W.nsIn K mainGlobals "_law_next" = some (some (.ref f15))) (l15 : K.lookup f15 = some ⟨oc15, od15, .func (PySem.W.fnOf "_law_next" "_law_next" (defArgs s_next) (defBody s_next) (defScope s_next) .none kV15 dc15 pm15 an15 cd15 ct15), sl15⟩) (c15 : PySem.W.codeIn K cd15 "_law_next" = true) (k15 : PySem.W.keepIn K (.ref f15) = true)
    (a16 : PySem.W.nsIn K mainGlobals "_law_web_by" = some (some (.ref f16))) (l16 : K.lookup f16 = some ⟨oc16, od16, .func (PySem.W.fnOf "_law_web_by" "_law_web_by" (defArgs s_web_by) (defBody s_web_by) (defScope s_web_by) .none kV16 dc16 pm16 an16 cd16 ct16), sl16⟩) (c16 : PySem.W.codeIn K cd16 "_law_web_by" = true) (k16 : PySem.W.keepIn K (.ref f16) = true)
    (a17 : PySem.W.nsIn K mainGlobals "_law_tints_by" = some (some (.ref f17))) (l17 : K.lookup f17 = some ⟨oc17, od17, .func (PySem.W.fnOf "_law_tints_by" "_law_tints_by" (defArgs s_tints_by) (defBody s_tints_by) (defScope s_tints_by) .none kV17 dc17 pm17 an17 cd17 ct17), sl17⟩) (c17 : PySem.W.codeIn K cd17 "_law_tints_by" = true) (k17 : PySem.W.keepIn K (.ref f17) = true)
    (a18 : PySem.W.nsIn K mainGlobals "_law_many_tints" = some (some (.ref f18))) (l18 : K.lookup f18 = some ⟨oc18, od18, .func (PySem.W.fnOf "_law_many_tints" "_law_many_tints" (defArgs s_many_tints) (defBody s_many_tints) (defScope s_many_tints) .none kV18 dc18 pm18 an18 cd18 ct18), sl18⟩) (c18 : PySem.W.codeIn K cd18 "_law_many_tints" = true) (k18 : PySem.W.keepIn K (.ref f18) = true)
    (a19 : PySem.W.nsIn K mainGlobals "_law_fits" = some (some (.ref f19))) (l19 : K.lookup f19 = some ⟨oc19, od19, .func (PySem.W.fnOf "_law_fits" "_law_fits" (defArgs s_fits) (defBody s_fits) (defScope s_fits) .none kV19 dc19 pm19 an19 cd19 ct19), sl19⟩) (c19 : PySem.W.codeIn K cd19 "_law_fits" = true) (k19 : PySem.W.keepIn K (.ref f19) = true)
    (a20 : PySem.W.nsIn K mainGlobals "_law_ways_by" = some (some (.ref f20))) (l20 : K.lookup f20 = some ⟨oc20, od20, .func (PySem.W.fnOf "_law_ways_by" "_law_ways_by" (defArgs s_ways_by) (defBody s_ways_by) (defScope s_ways_by) .none kV20 dc20 pm20 an20 cd20 ct20), sl20⟩) (c20 : PySem.W.codeIn K cd20 "_law_ways_by" = true) (k20 : PySem.W.keepIn K (.ref f20) = true)
    (a21 : PySem.W.nsIn K mainGlobals "_law_from_to" = some (some (.ref f21))) (l21 : K.lookup f21 = some ⟨oc21, od21, .func (PySem.W.fnOf "_law_from_to" "_law_from_to" (defArgs s_from_to) (defBody s_from_to) (defScope s_from_to) .none kV21 dc21 pm21 an21 cd21 ct21), sl21⟩) (c21 : PySem.W.codeIn K cd21 "_law_from_to" = true) (k21 : PySem.W.keepIn K (.ref f21) = true)
    (a22 : PySem.W.nsIn K mainGlobals "_law_longest" = some (some (.ref f22))) (l22 : K.lookup f22 = some ⟨oc22, od22, .func (PySem.W.fnOf "_law_longest" "_law_longest" (defArgs s_longest) (defBody s_longest) (defScope s_longest) .none kV22 dc22 pm22 an22 cd22 ct22), sl22⟩) (c22 : PySem.W.codeIn K cd22 "_law_longest" = true) (k22 : PySem.W.keepIn K (.ref f22) = true)
    (a23 : PySem.W.nsIn K mainGlobals "_law_whole" = some (some (.ref f23))) (l23 : K.lookup f23 = some ⟨oc23, od23, .func (PySem.W.fnOf "_law_whole" "_law_whole" (defArgs s_whole) (defBody s_whole) (defScope s_whole) .none kV23 dc23 pm23 an23 cd23 ct23), sl23⟩) (c23 : PySem.W.codeIn K cd23 "_law_whole" = true) (k23 : PySem.W.keepIn K (.ref f23) = true)
    (a24 : PySem.W.nsIn K mainGlobals "_law_first" = some (some (.ref f24))) (l24 : K.lookup f24 = some ⟨oc24, od24, .func (PySem.W.fnOf "_law_first" "_law_first" (defArgs s_first_) (defBody s_first_) (defScope s_first_) .none kV24 dc24 pm24 an24 cd24 ct24), sl24⟩) (c24 : PySem.W.codeIn K cd24 "_law_first" = true) (k24 : PySem.W.keepIn K (.ref f24) = true)
    (a25 : PySem.W.nsIn K mainGlobals "law" = some (some (.ref f25))) (l25 : K.lookup f25 = some ⟨oc25, od25, .func (PySem.W.fnOf "law" "law" (defArgs s_law) (defBody s_law) (defScope s_law) .none kV25 dc25 pm25 an25 cd25 ct25), sl25⟩) (c25 : PySem.W.codeIn K cd25 "law" = true) (k25 : PySem.W.keepIn K (.ref f25) = true)
    (b_bool : PySem.W.nsIn K mainGlobals "bool" = some none)
    (b_int : PySem.W.nsIn K mainGlobals "int" = some none)
    (b_isinstance : PySem.W.nsIn K mainGlobals "isinstance" = some none)
    (b_len : PySem.W.nsIn K mainGlobals "len" = some none)
    (b_list : PySem.W.nsIn K mainGlobals "list" = some none)
    (b_max : PySem.W.nsIn K mainGlobals "max" = some none)
    (b_min : PySem.W.nsIn K mainGlobals "min" = some none)
    (b_range : PySem.W.nsIn K mainGlobals "range" = some none)
    (b_reversed : PySem.W.nsIn K mainGlobals "reversed" = some none)
    (b_sorted : PySem.W.nsIn K mainGlobals "sorted" = some none)
    (b_zip : PySem.W.nsIn K mainGlobals "zip" = some none)
    {t_MOST_POINTS : Tok} (g_MOST_POINTS : PySem.W.nsIn K mainGlobals "MOST_POINTS" = some (some (.int 7 t_MOST_POINTS)))
    {t_MOST_TIES : Tok} (g_MOST_TIES : PySem.W.nsIn K mainGlobals "MOST_TIES" = some (some (.int 12 t_MOST_TIES)))
    (ga_NoDyeing : PySem.W.nsIn K mainGlobals "NoDyeing" = some (some (.ref A_NoDyeing)))
    (xa_NoDyeing : PySem.W.excIn K A_NoDyeing [.type "ValueError", .type "Exception", .type "BaseException", .type "object"] "ValueError.__new__" = true) (xk_NoDyeing : PySem.W.keepIn K (.ref A_NoDyeing) = true) (xb_NoDyeing : PySem.W.subIn K (.ref A_NoDyeing) (.type "BaseException") = some true) (xt_NoDyeing : PySem.W.typeIn K (.ref A_NoDyeing) = some (.type "type"))
    (ga_NoWeb : PySem.W.nsIn K mainGlobals "NoWeb" = some (some (.ref A_NoWeb)))
    (xa_NoWeb : PySem.W.excIn K A_NoWeb [.type "ValueError", .type "Exception", .type "BaseException", .type "object"] "ValueError.__new__" = true) (xk_NoWeb : PySem.W.keepIn K (.ref A_NoWeb) = true) (xb_NoWeb : PySem.W.subIn K (.ref A_NoWeb) (.type "BaseException") = some true) (xt_NoWeb : PySem.W.typeIn K (.ref A_NoWeb) = some (.type "type")) :
    ∃ fd : FuncData, (∀ (s : Shared) (v : Value), BindsTo s fd ⟨[v], []⟩ [("script", v)]) ∧ ∀ base : Heap, K.In base → base.Ns mainGlobals mg → FnOk l.prog w K mg base CX0 27 fa fd ["script"] (spO (β := Bool) fun (x : (Scr K) × Unit) => law x.1.l) := by
  have e := hfa.symm.trans (PySem.W.mg_of X G a25)
  cases e
  let ad : Er → Addr := fun e => match e with | .noDyeing => A_NoDyeing | .noWeb => A_NoWeb | _ => A_NoDyeing
  have T : Txt K mg ad 0 := { b_bool := PySem.W.mg_none_of X G b_bool, b_int := PySem.W.mg_none_of X G b_int, b_isinstance := PySem.W.mg_none_of X G b_isinstance, b_len := PySem.W.mg_none_of X G b_len, b_list := PySem.W.mg_none_of X G b_list, b_max := PySem.W.mg_none_of X G b_max, b_min := PySem.W.mg_none_of X G b_min, b_range := PySem.W.mg_none_of X G b_range, b_reversed := PySem.W.mg_none_of X G b_reversed, b_sorted := PySem.W.mg_none_of X G b_sorted, b_zip := PySem.W.mg_none_of X G b_zip, g_MOST_POINTS := ⟨_, PySem.W.mg_of X G g_MOST_POINTS⟩, g_MOST_TIES := ⟨_, PySem.W.mg_of X G g_MOST_TIES⟩, nil := trivial, x_NoDyeing := ⟨PySem.W.mg_of X G ga_NoDyeing, xa_NoDyeing, xk_NoDyeing, xb_NoDyeing, xt_NoDyeing⟩, x_NoWeb := ⟨PySem.W.mg_of X G ga_NoWeb, xa_NoWeb, xk_NoWeb, xb_NoWeb, xt_NoWeb⟩ }
  refine ⟨PySem.W.fnOf "law" "law" (defArgs s_law) (defBody s_law) (defScope s_law) .none kV25 dc25 pm25 an25 cd25 ct25, fun s v => .of_eq rfl, fun base _ _ => ?_⟩
  have R_is_web : Fn l.prog w K mg base CX0 1 "is_web" ["points", "ties"] (spO (β := Bool) fun (x : Int × (List (Int × Int)) × Unit) => is_web x.1 x.2.1) := ok_is_web (fun_mk (st := s_is_web) l0 c0 k0) (PySem.W.mg_of X G a0) T 
  have R_asked_web : Fn l.prog w K mg base (L2.CX l.prog w) 2 "asked_web" ["points", "ties"] (spX (clO ad) (β := Unit) fun (x : Int × (List (Int × Int)) × Unit) => asked_web x.1 x.2.1) := ok_asked_web (fun_mk (st := s_asked_web) l1 c1 k1) (PySem.W.mg_of X G a1) T R_is_web
  have R_without : Fn l.prog w K mg base CX0 1 "without" ["ties", "tie"] (spN (β := (Int × Int)) fun (x : (List (Int × Int)) × (Int × Int) × Unit) => without x.1 x.2.1) := ok_without (fun_mk (st := s_without) l2 c2 k2) (PySem.W.mg_of X G a2) T 
  have R_named : Fn l.prog w K mg base CX0 1 "named" ["point", "tie"] (spO (β := Int) fun (x : Int × (Int × Int) × Unit) => named x.1 x.2.1) := ok_named (fun_mk (st := s_named) l3 c3 k3) (PySem.W.mg_of X G a3) T 
  have R_put_together : Fn l.prog w K mg base CX0 2 "put_together" ["ties", "tie"] (spN (β := (Int × Int)) fun (x : (List (Int × Int)) × (Int × Int) × Unit) => put_together x.1 x.2.1) := ok_put_together (fun_mk (st := s_put_together) l4 c4 k4) (PySem.W.mg_of X G a4) T R_without R_named
  have R_row_by : Fn l.prog w K mg base CX0 23 "row_by" ["points", "ties"] (spN (β := Int) fun (x : Int × (List (Int × Int)) × Unit) => row_by x.1 x.2.1) := ok_row_by (fun_mk (st := s_row_by) l5 c5 k5) (PySem.W.mg_of X G a5) T R_put_together 20
  have R_row : Fn l.prog w K mg base (L2.CX l.prog w) 24 "row" ["points", "ties"] (spXN (clO ad) (β := Int) fun (x : Int × (List (Int × Int)) × Unit) => row x.1 x.2.1) := ok_row (fun_mk (st := s_row) l6 c6 k6) (PySem.W.mg_of X G a6) T R_asked_web R_row_by
  have R_worth : Fn l.prog w K mg base CX0 1 "worth" ["numbers", "q"] (spO (β := Int) fun (x : (List Int) × Int × Unit) => worth x.1 x.2.1) := ok_worth (fun_mk (st := s_worth) l7 c7 k7) (PySem.W.mg_of X G a7) T 
  have R_unlike : Fn l.prog w K mg base CX0 1 "unlike" ["ties", "dyes"] (spO (β := Bool) fun (x : (List (Int × Int)) × (List Int) × Unit) => unlike x.1 x.2.1) := ok_unlike (fun_mk (st := s_unlike) l8 c8 k8) (PySem.W.mg_of X G a8) T 
  have R_fewest : Fn l.prog w K mg base (L2.CX l.prog w) 25 "fewest" ["points", "ties"] (spX (clO ad) (β := Int) fun (x : Int × (List (Int × Int)) × Unit) => fewest x.1 x.2.1) := ok_fewest (fun_mk (st := s_fewest) l9 c9 k9) (PySem.W.mg_of X G a9) T R_row R_worth
  have R_extended : Fn l.prog w K mg base CX0 11 "extended" ["points", "ties", "many", "dyes"] (spO (β := (Option (List Int))) fun (x : Int × (List (Int × Int)) × Int × (List Int) × Unit) => extended x.1 x.2.1 x.2.2.1 x.2.2.2.1) := ok_extended (fun_mk (st := s_extended) l10 c10 k10) (PySem.W.mg_of X G a10) T 10
  have R_least : Fn l.prog w K mg base (L2.CX l.prog w) 12 "least" ["points", "ties", "many"] (spX (clO ad) (β := (Option (List Int))) fun (x : Int × (List (Int × Int)) × Int × Unit) => least x.1 x.2.1 x.2.2.1) := ok_least (fun_mk (st := s_least) l11 c11 k11) (PySem.W.mg_of X G a11) T R_asked_web R_extended
  have R_setting_of : Fn l.prog w K mg base (L2.CX l.prog w) 3 "setting_of" ["points", "ties", "dyes"] (spXN (clO ad) (β := Bool) fun (x : Int × (List (Int × Int)) × (List Int) × Unit) => setting_of x.1 x.2.1 x.2.2.1) := ok_setting_of (fun_mk (st := s_setting_of) l12 c12 k12) (PySem.W.mg_of X G a12) T R_asked_web R_unlike
  have R_flattest : Fn l.prog w K mg base (L2.CX l.prog w) 26 "flattest" ["points", "ties"] (spX (clO ad) (β := (List Bool)) fun (x : Int × (List (Int × Int)) × Unit) => flattest x.1 x.2.1) := ok_flattest (fun_mk (st := s_flattest) l13 c13 k13) (PySem.W.mg_of X G a13) T R_setting_of R_least R_fewest
  have R_cell_at : Fn l.prog w K mg base CX0 1 "_law_cell_at" ["script", "k"] (spO (β := Int) fun (x : (Scr K) × Int × Unit) => cell_at x.1.l x.2.1) := ok_cell_at (fun_mk (st := s_cell_at) l14 c14 k14) (PySem.W.mg_of X G a14) T 
  have R_next : Fn l.prog w K mg base CX0 1 "_law_next" ["seed"] (spO (β := Int) fun (x : Int × Unit) => next x.1) := ok_next (fun_mk (st := s_next) l15 c15 k15) (PySem.W.mg_of X G a15) T 
  have R_web_by : Fn l.prog w K mg base CX0 2 "_law_web_by" ["script", "k", "most", "cap"] (spO (β := (Int × (List (Int × Int)))) fun (x : (Scr K) × Int × Int × Int × Unit) => web_by x.1.l x.2.1 x.2.2.1 x.2.2.2.1) := ok_web_by (fun_mk (st := s_web_by) l16 c16 k16) (PySem.W.mg_of X G a16) T R_cell_at R_next
  have R_tints_by : Fn l.prog w K mg base CX0 1 "_law_tints_by" ["points", "number", "many"] (spN (β := Int) fun (x : Int × Int × Int × Unit) => tints_by x.1 x.2.1 x.2.2.1) := ok_tints_by (fun_mk (st := s_tints_by) l17 c17 k17) (PySem.W.mg_of X G a17) T 
  have R_many_tints : Fn l.prog w K mg base CX0 1 "_law_many_tints" ["points", "many"] (spO (β := Int) fun (x : Int × Int × Unit) => many_tints x.1 x.2.1) := ok_many_tints (fun_mk (st := s_many_tints) l18 c18 k18) (PySem.W.mg_of X G a18) T 
  have R_fits : Fn l.prog w K mg base CX0 1 "_law_fits" ["ties", "tints"] (spO (β := Bool) fun (x : (List (Int × Int)) × (List Int) × Unit) => fits x.1 x.2.1) := ok_fits (fun_mk (st := s_fits) l19 c19 k19) (PySem.W.mg_of X G a19) T 
  have R_ways_by : Fn l.prog w K mg base CX0 1 "_law_ways_by" ["many", "number"] (spN (β := Bool) fun (x : Int × Int × Unit) => ways_by x.1 x.2.1) := ok_ways_by (fun_mk (st := s_ways_by) l20 c20 k20) (PySem.W.mg_of X G a20) T 
  have R_from_to : Fn l.prog w K mg base CX0 1 "_law_from_to" ["ties", "ways"] (spN (β := (Int × Int)) fun (x : (List (Int × Int)) × (List Bool) × Unit) => from_to x.1 x.2.1) := ok_from_to (fun_mk (st := s_from_to) l21 c21 k21) (PySem.W.mg_of X G a21) T 
  have R_longest : Fn l.prog w K mg base CX0 1 "_law_longest" ["points", "steps"] (spO (β := (Option (List Int))) fun (x : Int × (List (Int × Int)) × Unit) => longest x.1 x.2.1) := ok_longest (fun_mk (st := s_longest) l22 c22 k22) (PySem.W.mg_of X G a22) T 
  have R_whole : Fn l.prog w K mg base CX0 1 "_law_whole" ["found"] (spO (β := Bool) fun (x : Int × Unit) => whole x.1) := ok_whole (fun_mk (st := s_whole) l23 c23 k23) (PySem.W.mg_of X G a23) T 
  have R_first_ : Fn l.prog w K mg base CX0 2 "_law_first" ["points", "ties"] (spO (β := (List Int)) fun (x : Int × (List (Int × Int)) × Unit) => first_ x.1 x.2.1) := ok_first_ (fun_mk (st := s_first_) l24 c24 k24) (PySem.W.mg_of X G a24) T R_many_tints R_tints_by R_fits
  exact ok_law (fun_mk (st := s_law) l25 c25 k25) (PySem.W.mg_of X G a25) T R_web_by R_flattest R_first_ R_longest R_from_to R_ways_by R_fewest R_whole
theorem walk {l : PySem.W.OpenLaw} {q : Program} {loose : List Str} {XP : (Str → Option Value) → Heap → Prop} {YP : World → Heap → Prop} {d : DefRec} {K : Params → PySem.W.Frag} (hn : l.most = some 63) (hdf : d.params.defaults = [])
    (hY : ∀ (w : World) (h : Heap), YP w h → (K w.params).In h)
    (F : ∀ (w : World) (mg : Str → Option Value) (fa : Addr) (h : Heap), (K w.params).In h → h.Ns mainGlobals mg → mg d.name = some (.ref fa) →
      ∃ fd : FuncData, (∀ (s : Shared) (u : Value), BindsTo s fd ⟨[u], []⟩ [("script", u)]) ∧ ∀ base : Heap, (K w.params).In base → base.Ns mainGlobals mg → FnOk l.prog w (K w.params) mg base CX0 27 fa fd ["script"] (let K := K w.params; (spO (β := Bool) fun (x : (Scr K) × Unit) => law x.1.l))) :
    PySem.W.WalkO q loose XP YP l.row.toRowW d [] (fun f vs => PySem.call f vs) :=
  L2.walk_of (n := 63) (k := 27) (x := "script") (CX := fun _ => CX0) (sp := fun w => (let K := K w.params; (spO (β := Bool) fun (x : (Scr K) × Unit) => law x.1.l))) hn (by decide) hdf ⟨rfl, by decide, by decide⟩ hY F
    (fun _ H a ns hl _ hS => ⟨H, (⟨ns⟩, ()), true, .refl H, ⟨.ref a, [], rfl, ⟨a, rfl, hS⟩, rfl⟩, law_true ns hl, fun v F' H' l r => r⟩) fun _ _ _ _ _ z => z
end Q
open PySem PySem.W PyProof.Rows in
set_option maxRecDepth 100000 in
set_option maxHeartbeats 0 in
theorem PySem.Challenge.cw_dyeweb_k10_whole_flattest_holds : PySem.Challenge.rw_dyeweb_k10_whole_flattest.Holds := by
  w_on; o_law; k_head; (case hw => w_witness2)
  k_fill
  refine Q.walk (l := PySem.Challenge.rw_dyeweb_k10_whole_flattest) rfl rfl (fun w h Y => PySem.W.kIn_of Y) ?F
  case F =>
    intro w mg fa h KX G hmg
    refine' Q.all_mk KX G hmg ?a0 ?l0 ?c0 ?k0 ?a1 ?l1 ?c1 ?k1 ?a2 ?l2 ?c2 ?k2 ?a3 ?l3 ?c3 ?k3 ?a4 ?l4 ?c4 ?k4 ?a5 ?l5 ?c5 ?k5 ?a6 ?l6 ?c6 ?k6 ?a7 ?l7 ?c7 ?k7 ?a8 ?l8 ?c8 ?k8 ?a9 ?l9 ?c9 ?k9 ?a10 ?l10 ?c10 ?k10 ?a11 ?l11 ?c11 ?k11 ?a12 ?l12 ?c12 ?k12 ?a13 ?l13 ?c13 ?k13 ?a14 ?l14 ?c14 ?k14 ?a15 ?l15 ?c15 ?k15 ?a16 ?l16 ?c16 ?k16 ?a17 ?l17 ?c17 ?k17 ?a18 ?l18 ?c18 ?k18 ?a19 ?l19 ?c19 ?k19 ?a20 ?l20 ?c20 ?k20 ?a21 ?l21 ?c21 ?k21 ?a22 ?l22 ?c22 ?k22 ?a23 ?l23 ?c23 ?k23 ?a24 ?l24 ?c24 ?k24 ?a25 ?l25 ?c25 ?k25 ?b_bool ?b_int ?b_isinstance ?b_len ?b_list ?b_max ?b_min ?b_range ?b_reversed ?b_sorted ?b_zip ?g_MOST_POINTS ?g_MOST_TIES ?ga_NoDyeing ?xa_NoDyeing ?xk_NoDyeing ?xb_NoDyeing ?xt_NoDyeing ?ga_NoWeb ?xa_NoWeb ?xk_NoWeb ?xb_NoWeb ?xt_NoWeb
    (case a0 => k_is)
    (case l0 => k_is)
    (case c0 => k_is)
    (case k0 => k_is)
    (case a1 => k_is)
    (case l1 => k_is)
    (case c1 => k_is)
    (case k1 => k_is)
    (case a2 => k_is)
    (case l2 => k_is)
    (case c2 => k_is)
    (case k2 => k_is)
    (case a3 => k_is)
    (case l3 => k_is)
    (case c3 => k_is)
    (case k3 => k_is)
    (case a4 => k_is)
    (case l4 => k_is)
    (case c4 => k_is)
    (case k4 => k_is)
    (case a5 => k_is)
    (case l5 => k_is)
    (case c5 => k_is)
    (case k5 => k_is)
    (case a6 => k_is)
    (case l6 => k_is)
    (case c6 => k_is)
    (case k6 => k_is)
    (case a7 => k_is)
    (case l7 => k_is)
    (case c7 => k_is)
    (case k7 => k_is)
    (case a8 => k_is)
    (case l8 => k_is)
    (case c8 => k_is)
    (case k8 => k_is)
    (case a9 => k_is)
    (case l9 => k_is)
    (case c9 => k_is)
    (case k9 => k_is)
    (case a10 => k_is)
    (case l10 => k_is)
    (case c10 => k_is)
    (case k10 => k_is)
    (case a11 => k_is)
    (case l11 => k_is)
    (case c11 => k_is)
    (case k11 => k_is)
    (case a12 => k_is)
    (case l12 => k_is)
    (case c12 => k_is)
    (case k12 => k_is)
    (case a13 => k_is)
    (case l13 => k_is)
    (case c13 => k_is)
    (case k13 => k_is)
    (case a14 => k_is)
    (case l14 => k_is)
    (case c14 => k_is)
    (case k14 => k_is)
    (case a15 => k_is)
    (case l15 => k_is)
    (case c15 => k_is)
    (case k15 => k_is)
    (case a16 => k_is)
    (case l16 => k_is)
    (case c16 => k_is)
    (case k16 => k_is)
    (case a17 => k_is)
    (case l17 => k_is)
    (case c17 => k_is)
    (case k17 => k_is)
    (case a18 => k_is)
    (case l18 => k_is)
    (case c18 => k_is)
    (case k18 => k_is)
    (case a19 => k_is)
    (case l19 => k_is)
    (case c19 => k_is)
    (case k19 => k_is)
    (case a20 => k_is)
    (case l20 => k_is)
    (case c20 => k_is)
    (case k20 => k_is)
    (case a21 => k_is)
    (case l21 => k_is)
    (case c21 => k_is)
    (case k21 => k_is)
    (case a22 => k_is)
    (case l22 => k_is)
    (case c22 => k_is)
    (case k22 => k_is)
    (case a23 => k_is)
    (case l23 => k_is)
    (case c23 => k_is)
    (case k23 => k_is)
    (case a24 => k_is)
    (case l24 => k_is)
    (case c24 => k_is)
    (case k24 => k_is)
    (case a25 => k_is)
    (case l25 => k_is)
    (case c25 => k_is)
    (case k25 => k_is)
    (case b_bool => k_is)
    (case b_int => k_is)
    (case b_isinstance => k_is)
    (case b_len => k_is)
    (case b_list => k_is)
    (case b_max => k_is)
    (case b_min => k_is)
    (case b_range => k_is)
    (case b_reversed => k_is)
    (case b_sorted => k_is)
    (case b_zip => k_is)
    (case g_MOST_POINTS => k_is)
    (case g_MOST_TIES => k_is)
    (case ga_NoDyeing => k_is)
    (case xa_NoDyeing => k_exc)
    (case xk_NoDyeing => k_is)
    (case xb_NoDyeing => k_is)
    (case xt_NoDyeing => k_is)
    (case ga_NoWeb => k_is)
    (case xa_NoWeb => k_exc)
    (case xk_NoWeb => k_is)
    (case xb_NoWeb => k_is)
    (case xt_NoWeb => k_is)
#print axioms PySem.Challenge.cw_dyeweb_k10_whole_flattest_holds
