import PyProof.Rows.All
import Wide.All
import OpenK.AllK
import Wide.FinOn
import HandS.ForMost
import HandS.ForExc
import HandS.Wide
import HandS.Deep
import HandS.Walk
import HandS.TupLe
import HandS.TupSets
import HandS.Conv
import HandS.Style
import HandS.IsInst
import HandS.SortRule
import PyProof.Rows.Chain
import HandS.ExcIs
import HandS.More
import HandS.SortKw
import PySem.Challenge.RW_dyeweb_k18_no_web
/-! The words that the mirrors are written in: plain Lean, no library. -/
namespace Dv
set_option linter.all false
variable {α β S R : Type}
/-- what leaves a loop's turn -/
inductive Stp (S R : Type) where
  | go (s : S)
  | ret (r : R)
def Stp.elim {T : Type} (st : Stp S R) (f : S → T) (g : R → T) : T := match st with
  | .go s => f s
  | .ret r => g r
@[simp] theorem Stp.elim_go {T : Type} (s : S) (f : S → T) (g : R → T) : (Stp.go s : Stp S R).elim f g = f s := rfl
@[simp] theorem Stp.elim_ret {T : Type} (r : R) (f : S → T) (g : R → T) : (Stp.ret r : Stp S R).elim f g = g r := rfl
def loopG (f : S → α → Option S) : S → List α → Option S
  | s, [] => some s
  | s, x :: xs => (f s x).bind fun s' => loopG f s' xs
def loopR (f : S → α → Option (Stp S R)) : S → List α → Option (Stp S R)
  | s, [] => some (.go s)
  | s, x :: xs => (f s x).bind fun st => st.elim (fun s' => loopR f s' xs) fun r => some (.ret r)
def whileG (c : S → Option Bool) (f : S → Option S) : Nat → S → Option S
  | 0, _ => none
  | n + 1, s => (c s).bind fun b => if b then (f s).bind fun s' => whileG c f n s' else some s
def whileR (c : S → Option Bool) (f : S → Option (Stp S R)) : Nat → S → Option (Stp S R)
  | 0, _ => none
  | n + 1, s => (c s).bind fun b => if b then (f s).bind fun st => st.elim (fun s' => whileR c f n s') fun r => some (.ret r) else some (.go s)
def lcG (c : α → Option Bool) (f : α → Option β) : List α → Option (List β)
  | [] => some []
  | x :: xs => (c x).bind fun b => if b then (f x).bind fun y => (lcG c f xs).bind fun ys => some (y :: ys) else lcG c f xs
/-- a list comprehension over a list that is not too long -/
def lc (c : α → Option Bool) (f : α → Option β) (xs : List α) : Option (List β) := if xs.length < 10000000 then lcG c f xs else none
def ixZ (n : Nat) (i : Int) : Option Nat := if 0 ≤ i then (if i < n then some i.toNat else none) else if -(n : Int) ≤ i then some (i + n).toNat else none
def atZ (xs : List α) (i : Int) : Option α := (ixZ xs.length i).bind fun j => xs[j]?
def setZ (xs : List α) (i : Int) (x : α) : Option (List α) := (ixZ xs.length i).bind fun j => some (xs.set j x)
def rng (a b : Int) : Option (List Int) := if (-4000000000000000000 ≤ a ∧ a ≤ 4000000000000000000) ∧ (-4000000000000000000 ≤ b ∧ b ≤ 4000000000000000000) then some ((List.range (b - a).toNat).map fun i => a + (i : Nat)) else none
def mulZ (i j : Int) : Option Int := if (-(2 ^ 64) < i ∧ i < 2 ^ 64) ∨ (-(2 ^ 64) < j ∧ j < 2 ^ 64) then some (i * j) else none
def divZ (i j : Int) : Option Int := if 0 < j ∧ j < 1073741824 then some (i / j) else none
def divW (i j : Int) : Option Int := if 0 < j ∧ j.natAbs.log2 < 9000 then some (i / j) else none
def modZ (i j : Int) : Option Int := if 0 < j then some (i % j) else none
def addL (xs : List α) (y : α) : Option (List α) := if xs.length < 10000000 then some (xs ++ [y]) else none
def catL (xs ys : List α) : Option (List α) := if xs.length + ys.length ≤ 10000000 then some (xs ++ ys) else none
def cutIx (n d : Nat) : Option Int → Nat
  | none => d
  | some i => if i < 0 then (i + n).toNat else min i.toNat n
def memL [DecidableEq α] (x : α) (xs : List α) : Bool := decide (x ∈ xs)
/-- a part of a list -/
def cutZ (xs : List α) (lo hi : Option Int) : List α := (xs.drop (cutIx xs.length 0 lo)).take (cutIx xs.length xs.length hi - cutIx xs.length 0 lo)
/-- the order of pairs -/
def leP (a b : Int × Int) : Bool := if a.1 = b.1 then decide (a.2 ≤ b.2) else decide (a.1 ≤ b.1)
def ins {γ : Type} (le : γ → γ → Bool) (x : γ) : List γ → List γ
  | [] => [x]
  | y :: ys => if le x y then x :: y :: ys else y :: ins le x ys
def srt {γ : Type} (le : γ → γ → Bool) : List γ → List γ
  | [] => []
  | x :: xs => ins le x (srt le xs)
end Dv
namespace Dv
theorem leP_total (a b : Int × Int) : leP a b = true ∨ leP b a = true := by
  unfold leP
  by_cases h : a.1 = b.1
  · simp only [h, ↓reduceIte, decide_eq_true_eq]
    omega
  · have h' : ¬ b.1 = a.1 := fun e => h e.symm
    simp only [h, h', ↓reduceIte, decide_eq_true_eq]
    omega
theorem leP_trans {a b c : Int × Int} (h1 : leP a b = true) (h2 : leP b c = true) : leP a c = true := by
  unfold leP at *
  split at h1 <;> split at h2 <;> split <;> simp_all <;> omega
theorem leP_anti {a b : Int × Int} (h1 : leP a b = true) (h2 : leP b a = true) : a = b := by
  obtain ⟨a1, a2⟩ := a
  obtain ⟨b1, b2⟩ := b
  unfold leP at *
  dsimp only at *
  split at h1 <;> split at h2 <;> simp_all <;> omega
/-- a total order -/
structure Ord {γ : Type} (le : γ → γ → Bool) : Prop where
  total : ∀ a b, le a b = true ∨ le b a = true
  trans : ∀ a b c, le a b = true → le b c = true → le a c = true
  anti : ∀ a b, le a b = true → le b a = true → a = b
theorem ordP : Ord leP := ⟨leP_total, fun _ _ _ => leP_trans, fun _ _ => leP_anti⟩
def leI (a b : Int) : Bool := decide (a ≤ b)
theorem ordI : Ord leI := ⟨fun a b => by simp only [leI, decide_eq_true_eq]; omega, fun a b c => by simp only [leI, decide_eq_true_eq]; omega, fun a b => by simp only [leI, decide_eq_true_eq]; omega⟩
section
variable {γ : Type} {le : γ → γ → Bool}
theorem ins_perm (x : γ) : ∀ l, (ins le x l).Perm (x :: l)
  | [] => .refl _
  | y :: l => by
    unfold ins
    split
    · exact .refl _
    · exact ((ins_perm x l).cons y).trans (List.Perm.swap x y l)
theorem srt_perm : ∀ l, (srt le l).Perm l
  | [] => .refl _
  | x :: l => (ins_perm x _).trans ((srt_perm l).cons x)
theorem ins_sorted (O : Ord le) (x : γ) : ∀ l, l.Pairwise (fun a b => le a b = true) → (ins le x l).Pairwise (fun a b => le a b = true)
  | [], _ => by simp [ins]
  | y :: l, h => by
    unfold ins
    by_cases c : le x y = true
    · rw [if_pos c]
      refine List.pairwise_cons.mpr ⟨fun z hz => ?_, h⟩
      rcases List.mem_cons.mp hz with rfl | hz
      · exact c
      · exact O.trans _ _ _ c ((List.pairwise_cons.mp h).1 z hz)
    · rw [if_neg c]
      refine List.pairwise_cons.mpr ⟨fun z hz => ?_, ins_sorted O x l (List.pairwise_cons.mp h).2⟩
      rcases List.mem_cons.mp ((ins_perm x l).mem_iff.mp hz) with rfl | hz
      · rcases O.total z y with q | q
        · exact absurd q c
        · exact q
      · exact (List.pairwise_cons.mp h).1 z hz
theorem srt_sorted (O : Ord le) : ∀ l, (srt le l).Pairwise (fun a b => le a b = true)
  | [] => .nil
  | x :: l => ins_sorted O x _ (srt_sorted O l)
theorem sorted_uniq (O : Ord le) : ∀ {l m : List γ}, l.Perm m → l.Pairwise (fun a b => le a b = true) → m.Pairwise (fun a b => le a b = true) → l = m
  | [], m, h, _, _ => (List.Perm.eq_nil h.symm).symm
  | x :: l, [], h, _, _ => absurd h.length_eq (by simp)
  | x :: l, y :: m, h, hl, hm => by
    have e : x = y := by
      rcases List.mem_cons.mp (h.mem_iff.mp (List.mem_cons_self (a := x) (l := l))) with e | hx
      · exact e
      · rcases List.mem_cons.mp (h.mem_iff.mpr (List.mem_cons_self (a := y) (l := m))) with e | hy
        · exact e.symm
        · exact O.anti _ _ ((List.pairwise_cons.mp hl).1 y hy) ((List.pairwise_cons.mp hm).1 x hx)
    subst e
    rw [sorted_uniq O h.cons_inv (List.pairwise_cons.mp hl).2 (List.pairwise_cons.mp hm).2]
theorem srt_uniq (O : Ord le) {l m : List γ} (h : l.Perm m) (hl : l.Pairwise (fun a b => le a b = true)) : l = srt le m :=
  sorted_uniq O (h.trans (srt_perm m).symm) hl (srt_sorted O m)
end
/-- keys of a dict, in the order in which they came -/
def putD {γ : Type} [DecidableEq γ] (ks : List γ) (k : γ) : List γ := if k ∈ ks then ks else ks ++ [k]
end Dv
namespace Dv
/-- the program's refusals -/
inductive Er where
  | noWeb | noTie | noDyeing | noSetting | goesRound | noNote
deriving DecidableEq
abbrev Rs (α : Type) := Option (Except Er α)
def exB {α β : Type} (y : Except Er α) (k : α → Rs β) : Rs β := match y with
  | .ok x => k x
  | .error e => some (.error e)
@[simp] theorem exB_ok {α β : Type} (x : α) (k : α → Rs β) : exB (.ok x) k = k x := rfl
@[simp] theorem exB_error {α β : Type} (e : Er) (k : α → Rs β) : exB (.error e : Except Er α) k = some (.error e) := rfl
/-- an answer that is no refusal -/
def noX {α : Type} (m : Rs α) : Option α := m.bind fun y => match y with
  | .ok x => some x
  | .error _ => none
@[simp] theorem noX_ok {α : Type} (x : α) : noX (some (.ok x) : Rs α) = some x := rfl
/-- try .. except -/
def trX {α β : Type} (m : Rs α) (f : α → Option β) (k : Er → Option β) : Option β := m.bind fun y => match y with
  | .ok x => f x
  | .error e => k e
@[simp] theorem trX_ok {α β : Type} (x : α) (f : α → Option β) (k : Er → Option β) : trX (some (.ok x) : Rs α) f k = f x := rfl
@[simp] theorem trX_error {α β : Type} (e : Er) (f : α → Option β) (k : Er → Option β) : trX (some (.error e) : Rs α) f k = k e := rfl
def isE (e c : Er) : Bool := decide (e = c)
end Dv
namespace Dv
def srtI (xs : List Int) : Option (List Int) := if xs.length < 64 then some (srt leI xs) else none
/-- list(range(n)) -/
def lrng (n : Int) : Option (List Int) := if -4611686018427387904 ≤ n ∧ n ≤ 10000000 then some ((List.range n.toNat).map fun i => ((i : Nat) : Int)) else none
def putDZ (ks : List (Int × Int)) (t : Int × Int) : Option (List (Int × Int)) := if ks.length < 10000000 then some (putD ks t) else none
end Dv
namespace Dv
/-- a list of two of unlike kinds -/
structure Duo (α β : Type) where
  a : α
  b : β
end Dv
namespace Dv
instance {α β : Type} [DecidableEq α] [DecidableEq β] : DecidableEq (Duo α β) := fun x y => decidable_of_iff (x.a = y.a ∧ x.b = y.b) ⟨fun ⟨h1, h2⟩ => by cases x; cases y; cases h1; cases h2; rfl, fun h => by rw [h]; exact ⟨rfl, rfl⟩⟩
end Dv
namespace Dv
def insZ {α : Type} (xs : List α) (i : Int) (y : α) : Option (List α) := if xs.length < 10000000 ∧ 0 ≤ i ∧ i < 4611686018427387904 then some (xs.take i.toNat ++ [y] ++ xs.drop i.toNat) else none
/-- xs.index(x) -/
def idxZ (xs : List Int) (x : Int) : Option Int := if x ∈ xs then some (xs.idxOf x : Int) else none
def isL {α β : Type} : Option (α ⊕ β) → Bool
  | some (.inl _) => true
  | _ => false
def unL {α β : Type} : Option (α ⊕ β) → Option α
  | some (.inl x) => some x
  | _ => none
def unR {α β : Type} : Option (α ⊕ β) → Option β
  | some (.inr x) => some x
  | _ => none
end Dv
namespace Dv
/-- the greatest of a list, or d -/
def mxD : List Int → Int → Int
  | [], d => d
  | x :: xs, _ => xs.foldl (fun m y => if m < y then y else m) x
theorem mxD_go : ∀ (xs : List Int) (x : Int), (xs.foldl (fun m y => if m < y then y else m) x ∈ x :: xs) ∧ ∀ y ∈ x :: xs, y ≤ xs.foldl (fun m y => if m < y then y else m) x
  | [], x => ⟨by simp, by simp⟩
  | z :: xs, x => by
    rw [List.foldl_cons]
    by_cases c : x < z
    · rw [if_pos c]
      obtain ⟨h1, h2⟩ := mxD_go xs z
      have hx := h2 z List.mem_cons_self
      refine ⟨List.mem_cons_of_mem _ h1, fun y hy => ?_⟩
      rcases List.mem_cons.mp hy with rfl | hy
      · omega
      · exact h2 y hy
    · rw [if_neg c]
      obtain ⟨h1, h2⟩ := mxD_go xs x
      have hx := h2 x List.mem_cons_self
      refine ⟨?_, fun y hy => ?_⟩
      · rcases List.mem_cons.mp h1 with h | h
        · exact List.mem_cons.mpr (.inl h)
        · exact List.mem_cons_of_mem _ (List.mem_cons_of_mem _ h)
      · rcases List.mem_cons.mp hy with rfl | hy
        · exact hx
        · rcases List.mem_cons.mp hy with rfl | hy
          · omega
          · exact h2 y (List.mem_cons_of_mem _ hy)
theorem mxD_mem (x : Int) (xs : List Int) (d : Int) : mxD (x :: xs) d ∈ x :: xs := (mxD_go xs x).1
theorem mxD_le (x : Int) (xs : List Int) (d : Int) : ∀ y ∈ x :: xs, y ≤ mxD (x :: xs) d := (mxD_go xs x).2
end Dv

set_option Elab.async false
set_option linter.all false
set_option maxRecDepth 100000
set_option maxHeartbeats 4000000
/-! The layer between the readings of HandS and mirrors in plain Lean. -/
namespace Dw
open PySem L2 Dv

/-! ### what is known stays -/
/-- what may change -/
def Chg : HO → Prop
  | .lst _ => True
  | .dT _ => True
  | _ => False
structure Lat (F H F' H' : Hp) : Prop where
  f : Same F F'
  h : Same H H'
  fh : Same F' H'
  nw : ∀ a o, H a = some o → Chg o → F a = none → F' a = none
theorem Lat.nwl {F H F' H' : Hp} (l : Lat F H F' H') {a : Addr} {vs : List V} (e : H a = some (.lst vs)) (f : F a = none) : F' a = none := l.nw a _ e trivial f
theorem Lat.refl {F H : Hp} (s : Same F H) : Lat F H F H := ⟨.refl _, .refl _, s, fun _ _ _ _ h => h⟩
theorem Lat.trans {F H F1 H1 F2 H2 : Hp} (a : Lat F H F1 H1) (b : Lat F1 H1 F2 H2) : Lat F H F2 H2 :=
  ⟨a.f.trans b.f, a.h.trans b.h, b.fh, fun p o e c f => b.nw p o (a.h _ _ e) c (a.nw p o e c f)⟩
theorem Lat.s0 {F H F' H' : Hp} (a : Lat F H F' H') (s : Same F H) : Same F H' := s.trans a.h
/-- all of the heap held for known -/
theorem Lat.all {F H F' H' : Hp} (a : Lat F H F' H') : Lat H H H' H' := ⟨a.h, a.h, .refl _, fun _ _ e _ f => by rw [e] at f; cases f⟩
/-- the heap grew, nothing new is known -/
theorem Lat.grow {F H H' : Hp} (s : Same F H) (h : Same H H') : Lat F H F H' := ⟨.refl _, h, s.trans h, fun _ _ _ _ f => f⟩
theorem same_upd {H : Hp} {p : Addr} {o : HO} (h : H p = none) : Same H (upd H p o) := fun a u e => by
  rw [upd_ne (ne_of_none e h)]
  exact e
/-- what stands is held for known -/
theorem Lat.know {F H F1 H1 : Hp} {p : Addr} {o : HO} (l : Lat F H F1 H1) (hp : ∀ u, H p = some u → Chg u → F p = none → False) (h1 : F1 p = none) (e : H1 p = some o) : Lat F H (upd F1 p o) H1 := by
  refine ⟨l.f.trans (same_upd h1), l.h, fun a u q => ?_, fun a u q c f => ?_⟩
  · by_cases z : a = p
    · subst z
      rw [upd_same] at q
      rw [e]
      exact q
    · rw [upd_ne z] at q
      exact l.fh _ _ q
  · by_cases z : a = p
    · subst z
      exact (hp u q c f).elim
    · rw [upd_ne z]
      exact l.nw _ _ q c f
/-- what was made is held for known -/
theorem Lat.hold {F H F1 H1 : Hp} {p : Addr} {o : HO} (l : Lat F H F1 H1) (hp : H p = none) (h1 : F1 p = none) (e : H1 p = some o) : Lat F H (upd F1 p o) H1 :=
  l.know (fun u q _ _ => by rw [hp] at q; cases q) h1 e
/-- a new object, not held for known -/
theorem Lat.made {F H : Hp} {p : Addr} {o : HO} (s : Same F H) (h : H p = none) : Lat F H F (upd H p o) := Lat.grow s (same_upd h)
/-- a new object, known from now on -/
theorem Lat.new {F H : Hp} {p : Addr} {o : HO} (s : Same F H) (h : H p = none) : Lat F H (upd F p o) (upd H p o) :=
  (Lat.made s h).hold h (s.free h) upd_same
/-- a list that was made behind H changes -/
theorem Lat.put {F H F1 H1 : Hp} {p : Addr} {o : HO} (l : Lat F H F1 H1) (hp : H p = none) (h1 : F1 p = none) : Lat F H F1 (upd H1 p o) := by
  refine ⟨l.f, fun a u e => ?_, fun a u e => ?_, l.nw⟩
  · rw [upd_ne (ne_of_none e hp)]
    exact l.h _ _ e
  · rw [upd_ne (ne_of_none e h1)]
    exact l.fh _ _ e

/-! ### data in the heap -/
class Rep (α : Type) where
  rp : α → V → Hp → Prop
  mono : ∀ {x : α} {v : V} {F F' : Hp}, Same F F' → rp x v F → rp x v F'
open Rep (rp)
theorem up {α : Type} [Rep α] {x : α} {v : V} {F F' H H' : Hp} (h : rp x v F) (l : Lat F H F' H') : rp x v F' := Rep.mono l.f h
/-- what does not look at the heap -/
class Flat (α : Type) [Rep α] : Prop where
  any : ∀ {x : α} {v : V} {F F' : Hp}, rp x v F → rp x v F'
instance : Rep Int := ⟨fun x v _ => v = .int x, fun _ h => h⟩
instance : Rep Bool := ⟨fun x v _ => v = .bl x, fun _ h => h⟩
instance : Rep Str := ⟨fun x v _ => v = .str x, fun _ h => h⟩
instance : Rep Unit := ⟨fun _ v _ => v = .non, fun _ h => h⟩
instance : Flat Int := ⟨fun h => h⟩
instance : Flat Bool := ⟨fun h => h⟩
instance : Flat Str := ⟨fun h => h⟩
instance : Flat Unit := ⟨fun h => h⟩
def rpO {α : Type} [Rep α] : Option α → V → Hp → Prop
  | none, v, _ => v = .non
  | some x, v, F => rp x v F
instance {α : Type} [Rep α] : Rep (Option α) := ⟨rpO, fun {x} => by
  cases x with
  | none => exact fun _ h => h
  | some x => exact fun s h => Rep.mono (α := α) s h⟩
def rpL {α : Type} [Rep α] : List α → List V → Hp → Prop
  | [], [], _ => True
  | x :: xs, v :: vs, F => rp x v F ∧ rpL xs vs F
  | _, _, _ => False
theorem rpL.mono {α : Type} [Rep α] {F F' : Hp} (s : Same F F') : ∀ {xs : List α} {vs : List V}, rpL xs vs F → rpL xs vs F'
  | [], [], _ => trivial
  | _ :: _, _ :: _, h => ⟨Rep.mono s h.1, rpL.mono s h.2⟩
  | [], _ :: _, h => h
  | _ :: _, [], h => h
theorem rpL.any {α : Type} [Rep α] [Flat α] {F F' : Hp} : ∀ {xs : List α} {vs : List V}, rpL xs vs F → rpL xs vs F'
  | [], [], _ => trivial
  | _ :: _, _ :: _, h => ⟨Flat.any h.1, rpL.any h.2⟩
  | [], _ :: _, h => h
  | _ :: _, [], h => h
theorem rpL.length {α : Type} [Rep α] {F : Hp} : ∀ {xs : List α} {vs : List V}, rpL xs vs F → vs.length = xs.length
  | [], [], _ => rfl
  | _ :: _, _ :: _, h => by simp [rpL.length h.2]
  | [], _ :: _, h => h.elim
  | _ :: _, [], h => h.elim
theorem rpL.get {α : Type} [Rep α] {F : Hp} : ∀ {xs : List α} {vs : List V}, rpL xs vs F → ∀ {i : Nat} {x : α}, xs[i]? = some x → ∃ v, vs[i]? = some v ∧ rp x v F
  | [], [], _, _, _, e => by simp at e
  | a :: _, v :: _, h, 0, x, e => by
    have : a = x := by simpa using e
    subst this
    exact ⟨v, by simp, h.1⟩
  | _ :: _, _ :: _, h, i + 1, x, e => by
    obtain ⟨v, e', r⟩ := rpL.get h.2 (i := i) (x := x) (by simpa using e)
    exact ⟨v, by simpa using e', r⟩
  | [], _ :: _, h, _, _, _ => h.elim
  | _ :: _, [], h, _, _, _ => h.elim
theorem rpL.get' {α : Type} [Rep α] {F : Hp} : ∀ {xs : List α} {vs : List V}, rpL xs vs F → ∀ {i : Nat} {v : V}, vs[i]? = some v → ∃ x, xs[i]? = some x ∧ rp x v F
  | [], [], _, _, _, e => by simp at e
  | a :: _, b :: _, h, 0, v, e => by
    have : b = v := by simpa using e
    subst this
    exact ⟨a, by simp, h.1⟩
  | _ :: _, _ :: _, h, i + 1, x, e => by
    obtain ⟨v, e', r⟩ := rpL.get' h.2 (i := i) (v := x) (by simpa using e)
    exact ⟨v, by simpa using e', r⟩
  | [], _ :: _, h, _, _, _ => h.elim
  | _ :: _, [], h, _, _, _ => h.elim
theorem rpL.append {α : Type} [Rep α] {F : Hp} : ∀ {xs ys : List α} {vs ws : List V}, rpL xs vs F → rpL ys ws F → rpL (xs ++ ys) (vs ++ ws) F
  | [], _, [], _, _, h => h
  | _ :: _, _, _ :: _, _, h, k => ⟨h.1, rpL.append h.2 k⟩
  | [], _, _ :: _, _, h, _ => h.elim
  | _ :: _, _, [], _, h, _ => h.elim
theorem rpL.set {α : Type} [Rep α] {F : Hp} {y : α} {w : V} (hy : rp y w F) : ∀ {xs : List α} {vs : List V} (i : Nat), rpL xs vs F → rpL (xs.set i y) (vs.set i w) F
  | [], [], _, _ => trivial
  | _ :: _, _ :: _, 0, h => ⟨hy, h.2⟩
  | _ :: _, _ :: _, i + 1, h => ⟨h.1, rpL.set hy i h.2⟩
  | [], _ :: _, _, h => h.elim
  | _ :: _, [], _, h => h.elim
theorem rpL.drop {α : Type} [Rep α] {F : Hp} : ∀ {xs : List α} {vs : List V} (i : Nat), rpL xs vs F → rpL (xs.drop i) (vs.drop i) F
  | [], [], i, _ => by simp [rpL]
  | _ :: _, _ :: _, 0, h => h
  | _ :: _, _ :: _, i + 1, h => by simpa using rpL.drop i h.2
  | [], _ :: _, _, h => h.elim
  | _ :: _, [], _, h => h.elim
theorem rpL.take {α : Type} [Rep α] {F : Hp} : ∀ {xs : List α} {vs : List V} (i : Nat), rpL xs vs F → rpL (xs.take i) (vs.take i) F
  | [], [], i, _ => by simp [rpL]
  | _ :: _, _ :: _, 0, h => by simp [rpL]
  | _ :: _, _ :: _, i + 1, h => ⟨h.1, rpL.take i h.2⟩
  | [], _ :: _, _, h => h.elim
  | _ :: _, [], _, h => h.elim
theorem rpL.reverse {α : Type} [Rep α] {F : Hp} : ∀ {xs : List α} {vs : List V}, rpL xs vs F → rpL xs.reverse vs.reverse F
  | [], [], _ => trivial
  | x :: xs, v :: vs, h => by
    rw [List.reverse_cons, List.reverse_cons]
    exact rpL.append (rpL.reverse h.2) ⟨h.1, trivial⟩
  | [], _ :: _, h => h.elim
  | _ :: _, [], h => h.elim
theorem rpL_ints {F : Hp} : ∀ {xs : List Int} {vs : List V}, rpL xs vs F → vs = xs.map V.int
  | [], [], _ => rfl
  | _ :: _, _ :: _, h => by
    rw [List.map_cons, ← rpL_ints h.2]
    exact congrArg (· :: _) h.1
  | [], _ :: _, h => h.elim
  | _ :: _, [], h => h.elim
theorem rpL_ints' {F : Hp} : ∀ (xs : List Int), rpL xs (xs.map V.int) F
  | [] => trivial
  | _ :: xs => ⟨rfl, rpL_ints' xs⟩
instance {α : Type} [Rep α] : Rep (List α) := ⟨fun xs v F => ∃ a vs, v = .ref a ∧ F a = some (.lst vs) ∧ rpL xs vs F, fun s ⟨a, vs, e, h, r⟩ => ⟨a, vs, e, s _ _ h, rpL.mono s r⟩⟩
instance {α β : Type} [Rep α] [Rep β] : Rep (α × β) := ⟨fun x v F => ∃ a v1 v2, v = .ref a ∧ F a = some (.tup [v1, v2]) ∧ rp x.1 v1 F ∧ rp x.2 v2 F,
  fun s ⟨a, v1, v2, e, h, r1, r2⟩ => ⟨a, v1, v2, e, s _ _ h, Rep.mono s r1, Rep.mono s r2⟩⟩
/-- one of two kinds -/
def rpS {α β : Type} [Rep α] [Rep β] : α ⊕ β → V → Hp → Prop
  | .inl x, v, F => rp x v F
  | .inr x, v, F => rp x v F
instance {α β : Type} [Rep α] [Rep β] : Rep (α ⊕ β) := ⟨rpS, fun {x} => by
  cases x with
  | inl x => exact fun s h => Rep.mono (α := α) s h
  | inr x => exact fun s h => Rep.mono (α := β) s h⟩
/-- a list of two things of unlike kinds -/
instance {α β : Type} [Rep α] [Rep β] : Rep (Duo α β) := ⟨fun x v F => ∃ p v1 v2, v = .ref p ∧ F p = some (.lst [v1, v2]) ∧ rp x.a v1 F ∧ rp x.b v2 F,
  fun s ⟨a, v1, v2, e, h, r1, r2⟩ => ⟨a, v1, v2, e, s _ _ h, Rep.mono s r1, Rep.mono s r2⟩⟩
/-- the script, or a list in its place -/
structure Scr (K : PySem.W.Frag) where
  l : List Int
theorem same_rd {H H' : Hp} {a : Addr} {u : HO} (e : Same H H') (h : Rd H a u) : Rd H' a u := by
  rcases h with h | ⟨o, h⟩
  · exact Or.inl (e a _ h)
  · exact Or.inr ⟨o, e a _ h⟩
theorem same_l {K : PySem.W.Frag} {H H' : Hp} {a : Addr} {xs : List V} (e : Same H H') (h : SqL K H a xs) : SqL K H' a xs := by
  rcases h with h | h
  · exact Or.inl (same_rd e h)
  · exact Or.inr h
instance {K : PySem.W.Frag} : Rep (Scr K) := ⟨fun x v F => ∃ a, v = .ref a ∧ SqL K F a (x.l.map V.int), fun s ⟨a, e, h⟩ => ⟨a, e, same_l s h⟩⟩
theorem sqL {K : PySem.W.Frag} {H : Hp} {a : Addr} {xs : List V} (h : H a = some (.lst xs)) : SqL K H a xs := Or.inl (Or.inl h)
theorem sqT {K : PySem.W.Frag} {H : Hp} {a : Addr} {xs : List V} (h : H a = some (.tup xs)) : SqT K H a xs := Or.inl (Or.inl h)

/-! ### arguments -/
class RepA (α : Type) where
  ra : α → List V → Hp → Prop
  mono : ∀ {x : α} {v : List V} {F F' : Hp}, Same F F' → ra x v F → ra x v F'
open RepA (ra)
instance : RepA Unit := ⟨fun _ vs _ => vs = [], fun _ h => h⟩
instance {α β : Type} [Rep α] [RepA β] : RepA (α × β) := ⟨fun x vs F => ∃ v ws, vs = v :: ws ∧ rp x.1 v F ∧ ra x.2 ws F,
  fun s ⟨v, ws, e, h, k⟩ => ⟨v, ws, e, Rep.mono s h, RepA.mono s k⟩⟩

/-! ### what an expression is worth -/
section
variable {α β γ : Type} [Rep α] [Rep β] [Rep γ]
def EV (t : TE) (σ : L2.St) (F H : Hp) (m : Option α) : Prop :=
  ∀ F1 H1, Lat F H F1 H1 → ∀ x, m = some x → ∀ Q : VK, (∀ v F2 H2, Lat F1 H1 F2 H2 → rp x v F2 → Q v H2) → t σ H1 Q
/-- a new list -/
def EVN (t : TE) (σ : L2.St) (F H : Hp) (m : Option (List α)) : Prop :=
  ∀ F1 H1, Lat F H F1 H1 → ∀ xs, m = some xs → ∀ Q : VK, (∀ p vs F2 H2, Lat F1 H1 F2 H2 → H1 p = none → F2 p = none → H2 p = some (.lst vs) → rpL xs vs F2 → Q (.ref p) H2) → t σ H1 Q
def EVT (t : TT) (σ : L2.St) (F H : Hp) (m : Option Bool) : Prop :=
  ∀ F1 H1, Lat F H F1 H1 → ∀ x, m = some x → ∀ Q : Bool → Hp → Prop, (∀ F2 H2, Lat F1 H1 F2 H2 → Q x H2) → t σ H1 Q
def EVA {δ : Type} [RepA δ] (t : TA) (σ : L2.St) (F H : Hp) (m : Option δ) : Prop :=
  ∀ F1 H1, Lat F H F1 H1 → ∀ x, m = some x → ∀ Q : List V → Hp → Prop, (∀ vs F2 H2, Lat F1 H1 F2 H2 → ra x vs F2 → Q vs H2) → t σ H1 Q
/-- a display's items, n of them -/
def EVL (t : TA) (σ : L2.St) (F H : Hp) (n : Nat) (m : Option (List α)) : Prop :=
  (∀ xs, m = some xs → xs.length = n) ∧ ∀ F1 H1, Lat F H F1 H1 → ∀ xs, m = some xs → ∀ Q : List V → Hp → Prop, (∀ vs F2 H2, Lat F1 H1 F2 H2 → rpL xs vs F2 → Q vs H2) → t σ H1 Q
variable {t : TE} {σ : L2.St} {F H : Hp}
theorem EV.at {m : Option α} (h : EV t σ F H m) {F1 H1 : Hp} (l : Lat F H F1 H1) : EV t σ F1 H1 m := fun F2 H2 l2 => h F2 H2 (l.trans l2)
theorem EVN.at {m : Option (List α)} (h : EVN t σ F H m) {F1 H1 : Hp} (l : Lat F H F1 H1) : EVN t σ F1 H1 m := fun F2 H2 l2 => h F2 H2 (l.trans l2)
theorem EVT.at {t : TT} {m : Option Bool} (h : EVT t σ F H m) {F1 H1 : Hp} (l : Lat F H F1 H1) : EVT t σ F1 H1 m := fun F2 H2 l2 => h F2 H2 (l.trans l2)
theorem EVA.at {δ : Type} [RepA δ] {t : TA} {m : Option δ} (h : EVA t σ F H m) {F1 H1 : Hp} (l : Lat F H F1 H1) : EVA t σ F1 H1 m := fun F2 H2 l2 => h F2 H2 (l.trans l2)
theorem EVN.ev {m : Option (List α)} (h : EVN t σ F H m) : EV t σ F H m := fun F1 H1 l x e Q q =>
  h F1 H1 l x e Q fun p vs F2 H2 l2 h1 h2 h3 r => q (.ref p) (upd F2 p (.lst vs)) H2 (l2.hold h1 h2 h3) ⟨p, vs, rfl, upd_same, rpL.mono (same_upd h2) r⟩
/-- flat answers may look at all that stands -/
theorem EV.flat [Flat α] {m : Option α} (h : EV t σ H H m) (s : Same F H) : EV t σ F H m := fun F1 H1 l x e Q q =>
  h H1 H1 l.all x e Q fun v F2 H2 l2 r => q v F1 H2 (.grow l.fh l2.h) (Flat.any r)
theorem EVT.flat {t : TT} {m : Option Bool} (h : EVT t σ H H m) (s : Same F H) : EVT t σ F H m := fun F1 H1 l x e Q q =>
  h H1 H1 l.all x e Q fun F2 H2 l2 => q F1 H2 (.grow l.fh l2.h)
theorem EVN.flat [Flat α] {m : Option (List α)} (h : EVN t σ H H m) (s : Same F H) : EVN t σ F H m := fun F1 H1 l x e Q q =>
  h H1 H1 l.all x e Q fun p vs F2 H2 l2 h1 _ h3 r => q p vs F1 H2 (.grow l.fh l2.h) h1 (l.fh.free h1) h3 (rpL.any r)

theorem ev_var {i : Nat} {x : α} {v : V} (h : σ[i]? = some (some v)) (r : rp x v F) : EV (tVar i) σ F H (some x) := fun F1 H1 l y e Q q => by
  cases e
  exact ⟨v, h, q v F1 H1 (.refl l.fh) (up r l)⟩
theorem ev_c {x : α} {v : V} (r : ∀ F, rp x v F) : EV (tC v) σ F H (some x) := fun F1 H1 l y e Q q => by
  cases e
  exact q v F1 H1 (.refl l.fh) (r _)
theorem ev_int {n : Int} : EV (tC (.int n)) σ F H (some n) := ev_c fun _ => rfl
theorem ev_bl {b : Bool} : EV (tC (.bl b)) σ F H (some b) := ev_c fun _ => rfl
theorem ev_str {z : Str} : EV (tC (.str z)) σ F H (some z) := ev_c fun _ => rfl
theorem ev_non : EV (tC .non) σ F H (some (none : Option α)) := ev_c fun _ => rfl
theorem ev_some {m : Option α} (h : EV t σ F H m) : EV t σ F H (m.bind fun x => some (some x)) := fun F1 H1 l y e Q q => by
  obtain ⟨x, ex, ey⟩ := Option.bind_eq_some_iff.mp e
  cases ey
  exact h F1 H1 l x ex Q q
theorem ev_inl {m : Option α} (h : EV t σ F H m) : EV t σ F H (m.bind fun x => some (Sum.inl x : α ⊕ β)) := fun F1 H1 l y e Q q => by
  obtain ⟨x, ex, ey⟩ := Option.bind_eq_some_iff.mp e
  cases ey
  exact h F1 H1 l x ex Q q
theorem ev_inr {m : Option β} (h : EV t σ F H m) : EV t σ F H (m.bind fun x => some (Sum.inr x : α ⊕ β)) := fun F1 H1 l y e Q q => by
  obtain ⟨x, ex, ey⟩ := Option.bind_eq_some_iff.mp e
  cases ey
  exact h F1 H1 l x ex Q q
/-- an answer that may be None is none here -/
def unO (x : Option α) : Option α := x
theorem ev_un {m : Option (Option α)} (h : EV t σ F H m) : EV t σ F H (m.bind fun x => unO x) := fun F1 H1 l y e Q q => by
  obtain ⟨x, ex, ey⟩ := Option.bind_eq_some_iff.mp e
  refine h F1 H1 l x ex Q fun v F2 H2 l2 r => q v F2 H2 l2 ?_
  have ey' : x = some y := ey
  subst ey'
  exact r
theorem ev_scr {K : PySem.W.Frag} {m : Option (List Int)} (h : EV t σ F H m) : EV t σ F H (m.bind fun x => some (Scr.mk x : Scr K)) := fun F1 H1 l y e Q q => by
  obtain ⟨x, ex, ey⟩ := Option.bind_eq_some_iff.mp e
  cases ey
  refine h F1 H1 l x ex Q fun v F2 H2 l2 r => ?_
  obtain ⟨a, vs, e1, e2, r2⟩ := r
  exact q v F2 H2 l2 ⟨a, e1, sqL (by rw [rpL_ints r2] at e2; exact e2)⟩

/-! ### operators -/
def RV (r : R2) (x : α) (y : β) (m : Option γ) : Prop :=
  ∀ F H v w, Same F H → rp x v F → rp y w F → ∀ z, m = some z → ∀ Q : VK, (∀ u F2 H2, Lat F H F2 H2 → rp z u F2 → Q u H2) → r v w H Q
theorem ev_op {ta tb : TE} {r : R2} {ma : Option α} {mb : Option β} {k : α → β → Option γ} (ha : EV ta σ F H ma) (hb : EV tb σ F H mb) (hr : ∀ x y, RV r x y (k x y)) :
    EV (tOp r ta tb) σ F H (ma.bind fun x => mb.bind fun y => k x y) := fun F1 H1 l z e Q q => by
  obtain ⟨x, ex, e⟩ := Option.bind_eq_some_iff.mp e
  obtain ⟨y, ey, e⟩ := Option.bind_eq_some_iff.mp e
  refine ha F1 H1 l x ex _ fun v F2 H2 l2 rv => hb F2 H2 (l.trans l2) y ey _ fun w F3 H3 l3 rw' => ?_
  exact hr x y F3 H3 v w l3.fh (up rv l3) rw' z e Q fun u F4 H4 l4 ru => q u F4 H4 ((l2.trans l3).trans l4) ru
/-- the same, the answer a new list -/
def RVN (r : R2) (x : α) (y : β) (m : Option (List γ)) : Prop :=
  ∀ F H v w, Same F H → rp x v F → rp y w F → ∀ zs, m = some zs → ∀ Q : VK, (∀ p vs F2 H2, Lat F H F2 H2 → H p = none → F2 p = none → H2 p = some (.lst vs) → rpL zs vs F2 → Q (.ref p) H2) → r v w H Q
theorem evn_op {ta tb : TE} {r : R2} {ma : Option α} {mb : Option β} {k : α → β → Option (List γ)} (ha : EV ta σ F H ma) (hb : EV tb σ F H mb) (hr : ∀ x y, RVN r x y (k x y)) :
    EVN (tOp r ta tb) σ F H (ma.bind fun x => mb.bind fun y => k x y) := fun F1 H1 l z e Q q => by
  obtain ⟨x, ex, e⟩ := Option.bind_eq_some_iff.mp e
  obtain ⟨y, ey, e⟩ := Option.bind_eq_some_iff.mp e
  refine ha F1 H1 l x ex _ fun v F2 H2 l2 rv => hb F2 H2 (l.trans l2) y ey _ fun w F3 H3 l3 rw' => ?_
  refine hr x y F3 H3 v w l3.fh (up rv l3) rw' z e Q fun p vs F4 H4 l4 h1 h2 h3 r => q p vs F4 H4 ((l2.trans l3).trans l4) ?_ h2 h3 r
  exact (l2.trans l3).h.free h1
theorem rv_I0 {g : Int → Int → V} {f : Int → Int → γ} (hg : ∀ i j F, rp (f i j) (g i j) F) (x y : Int) : RV (rI0 g) x y (some (f x y)) := fun F H v w s rv rw' z e Q q => by
  cases e
  exact ⟨x, y, rv, rw', q _ F H (.refl s) (hg _ _ _)⟩
theorem rv_add (x y : Int) : RV (rI0 fun i j => .int (i + j)) x y (some (x + y)) := rv_I0 (fun _ _ _ => rfl) x y
theorem rv_sub (x y : Int) : RV (rI0 fun i j => .int (i - j)) x y (some (x - y)) := rv_I0 (fun _ _ _ => rfl) x y
theorem rv_I {C : Int → Int → Prop} {g : Int → Int → Int} (x y : Int) {m : Option Int} (h : ∀ z, m = some z → C x y ∧ z = g x y) : RV (rI C fun i j => .int (g i j)) x y m := fun F H v w s rv rw' z e Q q => by
  obtain ⟨h1, rfl⟩ := h z e
  exact ⟨x, y, rv, rw', h1, q _ F H (.refl s) rfl⟩
theorem rv_mul (x y : Int) : RV (rI CMul fun i j => .int (i * j)) x y (mulZ x y) := rv_I x y fun z e => by
  unfold mulZ at e
  split at e
  · cases e
    exact ⟨by assumption, rfl⟩
  · cases e
theorem rv_div (x y : Int) : RV (rI CDiv fun i j => .int (i / j)) x y (divZ x y) := rv_I x y fun z e => by
  unfold divZ at e
  split at e
  · cases e
    exact ⟨by assumption, rfl⟩
  · cases e
theorem rv_mod (x y : Int) : RV (rI (fun _ j => 0 < j) fun i j => .int (i % j)) x y (modZ x y) := rv_I x y fun z e => by
  unfold modZ at e
  split at e
  · cases e
    exact ⟨by assumption, rfl⟩
  · cases e
/-- comparisons of ints by pe_cmpR, pt_cmpR -/
theorem rv_cmp {g : Int → Int → Bool} (x y : Int) : RV (rI0 fun i j => .bl (g i j)) x y (some (g x y)) := rv_I0 (fun _ _ _ => rfl) x y
theorem rv_eqI (x y : Int) : RV rEq x y (some (decide (x = y))) := fun F H v w s rv rw' z e Q q => by
  cases e
  cases rv
  cases rw'
  exact ⟨rfl, q _ F H (.refl s) (show V.bl _ = V.bl _ by congr 1; simp)⟩
theorem rv_neI (x y : Int) : RV rNe x y (some (!decide (x = y))) := fun F H v w s rv rw' z e Q q => by
  cases e
  cases rv
  cases rw'
  exact ⟨rfl, q _ F H (.refl s) (show V.bl _ = V.bl _ by congr 1; simp)⟩
theorem rv_eqB (x y : Bool) : RV rEq x y (some (x == y)) := fun F H v w s rv rw' z e Q q => by
  cases e
  cases rv
  cases rw'
  exact ⟨rfl, q _ F H (.refl s) (show V.bl _ = V.bl _ by congr 1; exact dec_bl)⟩
theorem rv_neB (x y : Bool) : RV rNe x y (some (!(x == y))) := fun F H v w s rv rw' z e Q q => by
  cases e
  cases rv
  cases rw'
  exact ⟨rfl, q _ F H (.refl s) (show V.bl _ = V.bl _ by congr 2; exact dec_bl)⟩
theorem rv_eqS (x y : Str) : RV rEq x y (some (decide (x = y))) := fun F H v w s rv rw' z e Q q => by
  cases e
  cases rv
  cases rw'
  exact ⟨rfl, q _ F H (.refl s) (show V.bl _ = V.bl _ by congr 1; simp)⟩
theorem rv_neS (x y : Str) : RV rNe x y (some (!decide (x = y))) := fun F H v w s rv rw' z e Q q => by
  cases e
  cases rv
  cases rw'
  exact ⟨rfl, q _ F H (.refl s) (show V.bl _ = V.bl _ by congr 1; simp)⟩
theorem ixZ_eq (n : Nat) (i : Int) : ixZ n i = ixN n i := rfl
theorem rv_ixL {K : PySem.W.Frag} (xs : List α) (i : Int) : RV (rIxL K) xs i (atZ xs i) := fun F H v w s rv rw' z e Q q => by
  obtain ⟨a, vs, e1, e2, r⟩ := rv
  unfold atZ at e
  obtain ⟨j, ej, e3⟩ := Option.bind_eq_some_iff.mp e
  obtain ⟨u, eu, ru⟩ := r.get e3
  refine ⟨a, vs, i, u, e1, rw', sqL (s _ _ e2), ?_, q u F H (.refl s) ru⟩
  unfold atI
  rw [r.length, ← ixZ_eq, ej]
  exact eu
theorem rv_ixS {K : PySem.W.Frag} (xs : Scr K) (i : Int) : RV (rIxL K) xs i (atZ xs.l i) := fun F H v w s rv rw' z e Q q => by
  obtain ⟨a, e1, e2⟩ := rv
  unfold atZ at e
  obtain ⟨j, ej, e3⟩ := Option.bind_eq_some_iff.mp e
  obtain ⟨u, eu, ru⟩ := (rpL_ints' (F := F) xs.l).get e3
  refine ⟨a, _, i, u, e1, rw', same_l s e2, ?_, q u F H (.refl s) ru⟩
  unfold atI
  rw [List.length_map, ← ixZ_eq, ej]
  exact eu
theorem ev_fst {K : PySem.W.Frag} {m : Option (α × β)} (h : EV t σ F H m) : EV (tOp (rIxT K) t (tC (.int 0))) σ F H (m.bind fun x => some x.1) := fun F1 H1 l z e Q q => by
  obtain ⟨x, ex, e⟩ := Option.bind_eq_some_iff.mp e
  cases e
  refine h F1 H1 l x ex _ fun v F2 H2 l2 ⟨a, v1, v2, e1, e2, r1, r2⟩ => ?_
  exact ⟨a, _, 0, v1, e1, rfl, sqT (l2.fh _ _ e2), rfl, q v1 F2 H2 l2 r1⟩
theorem ev_snd {K : PySem.W.Frag} {m : Option (α × β)} (h : EV t σ F H m) : EV (tOp (rIxT K) t (tC (.int 1))) σ F H (m.bind fun x => some x.2) := fun F1 H1 l z e Q q => by
  obtain ⟨x, ex, e⟩ := Option.bind_eq_some_iff.mp e
  cases e
  refine h F1 H1 l x ex _ fun v F2 H2 l2 ⟨a, v1, v2, e1, e2, r1, r2⟩ => ?_
  exact ⟨a, _, 1, v2, e1, rfl, sqT (l2.fh _ _ e2), rfl, q v2 F2 H2 l2 r2⟩
theorem ev_duoA {K : PySem.W.Frag} {m : Option (Duo α β)} (h : EV t σ F H m) : EV (tOp (rIxL K) t (tC (.int 0))) σ F H (m.bind fun x => some x.a) := fun F1 H1 l z e Q q => by
  obtain ⟨x, ex, e⟩ := Option.bind_eq_some_iff.mp e
  cases e
  refine h F1 H1 l x ex _ fun v F2 H2 l2 ⟨a, v1, v2, e1, e2, r1, r2⟩ => ?_
  exact ⟨a, _, 0, v1, e1, rfl, sqL (l2.fh _ _ e2), rfl, q v1 F2 H2 l2 r1⟩
theorem ev_duoB {K : PySem.W.Frag} {m : Option (Duo α β)} (h : EV t σ F H m) : EV (tOp (rIxL K) t (tC (.int 1))) σ F H (m.bind fun x => some x.b) := fun F1 H1 l z e Q q => by
  obtain ⟨x, ex, e⟩ := Option.bind_eq_some_iff.mp e
  cases e
  refine h F1 H1 l x ex _ fun v F2 H2 l2 ⟨a, v1, v2, e1, e2, r1, r2⟩ => ?_
  exact ⟨a, _, 1, v2, e1, rfl, sqL (l2.fh _ _ e2), rfl, q v2 F2 H2 l2 r2⟩
theorem ev_neg {m : Option Int} (h : EV t σ F H m) : EV (tUn (rU fun i => .int (-i)) t) σ F H (m.bind fun x => some (-x)) := fun F1 H1 l z e Q q => by
  obtain ⟨x, ex, e⟩ := Option.bind_eq_some_iff.mp e
  cases e
  exact h F1 H1 l x ex _ fun v F2 H2 l2 r => ⟨x, r, q _ F2 H2 l2 rfl⟩

/-! ### arguments, displays -/
theorem eva_nil : EVA tNil σ F H (some ()) := fun F1 H1 l z e Q q => q [] F1 H1 (.refl l.fh) rfl
theorem eva_cons {δ : Type} [RepA δ] {tr : TA} {m : Option α} {mr : Option δ} (h : EV t σ F H m) (hr : EVA tr σ F H mr) : EVA (tCons t tr) σ F H (m.bind fun x => mr.bind fun y => some (x, y)) := fun F1 H1 l z e Q q => by
  obtain ⟨x, ex, e⟩ := Option.bind_eq_some_iff.mp e
  obtain ⟨y, ey, e⟩ := Option.bind_eq_some_iff.mp e
  cases e
  exact h F1 H1 l x ex _ fun v F2 H2 l2 rv => hr F2 H2 (l.trans l2) y ey _ fun ws F3 H3 l3 rw' => q (v :: ws) F3 H3 (l2.trans l3) ⟨v, ws, rfl, (up rv l3), rw'⟩
theorem evl_nil : EVL tNil σ F H 0 (some ([] : List α)) := ⟨fun xs e => by cases e; rfl, fun F1 H1 l z e Q q => by
  cases e
  exact q [] F1 H1 (.refl l.fh) trivial⟩
theorem evl_cons {tr : TA} {n : Nat} {m : Option α} {mr : Option (List α)} (h : EV t σ F H m) (hr : EVL tr σ F H n mr) : EVL (tCons t tr) σ F H (n + 1) (m.bind fun x => mr.bind fun y => some (x :: y)) := ⟨fun xs e => by
  obtain ⟨x, ex, e⟩ := Option.bind_eq_some_iff.mp e
  obtain ⟨y, ey, e⟩ := Option.bind_eq_some_iff.mp e
  cases e
  rw [List.length_cons, hr.1 y ey], fun F1 H1 l z e Q q => by
  obtain ⟨x, ex, e⟩ := Option.bind_eq_some_iff.mp e
  obtain ⟨y, ey, e⟩ := Option.bind_eq_some_iff.mp e
  cases e
  exact h F1 H1 l x ex _ fun v F2 H2 l2 rv => hr.2 F2 H2 (l.trans l2) y ey _ fun ws F3 H3 l3 rw' => q (v :: ws) F3 H3 (l2.trans l3) ⟨(up rv l3), rw'⟩⟩
theorem sz_ok {n : Nat} (h : n ≤ 10000000) : n ≤ sizeLine := Nat.le_trans h (by decide)
theorem sz_lt {n : Nat} (h : n < 10000000) : n < sizeLine := Nat.lt_of_lt_of_le h (by decide)
/-- [a, b, ..] -/
theorem evn_lst {tr : TA} {n : Nat} {mr : Option (List α)} (hr : EVL tr σ F H n mr) (hs : n ≤ 10000000 := by decide) : EVN (tLst tr) σ F H mr := fun F1 H1 l xs e Q q =>
  hr.2 F1 H1 l xs e _ fun vs F2 H2 l2 r => ⟨sz_ok (by rw [r.length, hr.1 xs e]; exact hs), fun p hp => q p vs F2 (upd H2 p (.lst vs)) (l2.trans (.made l2.fh hp)) (l2.h.free hp) (l2.fh.free hp) upd_same r⟩
theorem evn_nil : EVN (tLst tNil) σ F H (some ([] : List α)) := evn_lst evl_nil
theorem ev_tup {ta tb : TE} {ma : Option α} {mb : Option β} (ha : EV ta σ F H ma) (hb : EV tb σ F H mb) : EV (tTup (tCons ta (tCons tb tNil))) σ F H (ma.bind fun x => mb.bind fun y => some (x, y)) := fun F1 H1 l z e Q q => by
  obtain ⟨x, ex, e⟩ := Option.bind_eq_some_iff.mp e
  obtain ⟨y, ey, e⟩ := Option.bind_eq_some_iff.mp e
  cases e
  refine ha F1 H1 l x ex _ fun v F2 H2 l2 rv => hb F2 H2 (l.trans l2) y ey _ fun w F3 H3 l3 rw' => ⟨by show 2 ≤ sizeLine; decide, fun p hp => ?_⟩
  refine q (.ref p) (upd F3 p (.tup [v, w])) (upd H3 p (.tup [v, w])) ((l2.trans l3).trans (.new l3.fh hp)) ⟨p, v, w, rfl, upd_same, ?_, ?_⟩
  · exact Rep.mono (same_upd (l3.fh.free hp)) (up rv l3)
  · exact Rep.mono (same_upd (l3.fh.free hp)) rw'
theorem ev_duo {ta tb : TE} {ma : Option α} {mb : Option β} (ha : EV ta σ F H ma) (hb : EV tb σ F H mb) : EV (tLst (tCons ta (tCons tb tNil))) σ F H (ma.bind fun x => mb.bind fun y => some (Duo.mk x y)) := fun F1 H1 l z e Q q => by
  obtain ⟨x, ex, e⟩ := Option.bind_eq_some_iff.mp e
  obtain ⟨y, ey, e⟩ := Option.bind_eq_some_iff.mp e
  cases e
  refine ha F1 H1 l x ex _ fun v F2 H2 l2 rv => hb F2 H2 (l.trans l2) y ey _ fun w F3 H3 l3 rw' => ⟨by show 2 ≤ sizeLine; decide, fun p hp => ?_⟩
  refine q (.ref p) (upd F3 p (.lst [v, w])) (upd H3 p (.lst [v, w])) ((l2.trans l3).trans (.new l3.fh hp)) ⟨p, v, w, rfl, upd_same, ?_, ?_⟩
  · exact Rep.mono (same_upd (l3.fh.free hp)) (up rv l3)
  · exact Rep.mono (same_upd (l3.fh.free hp)) rw'

/-! ### tests -/
theorem evt_of {m : Option Bool} (h : EV t σ F H m) : EVT (tTest t) σ F H m := fun F1 H1 l x e Q q => h F1 H1 l x e _ fun v F2 H2 l2 r => ⟨x, r, q F2 H2 l2⟩
theorem evt_b {m : Option Bool} (h : EV t σ F H m) : EVT (tB t) σ F H m := fun F1 H1 l x e Q q => h F1 H1 l x e _ fun v F2 H2 l2 r => ⟨x, r, q F2 H2 l2⟩
theorem evt_not {c : TT} {m : Option Bool} (h : EVT c σ F H m) : EVT (tNot c) σ F H (m.bind fun b => some (!b)) := fun F1 H1 l x e Q q => by
  obtain ⟨b, eb, e⟩ := Option.bind_eq_some_iff.mp e
  cases e
  exact h F1 H1 l b eb _ fun F2 H2 l2 => q F2 H2 l2
theorem evt_and {c d : TT} {m n : Option Bool} (h : EVT c σ F H m) (k : EVT d σ F H n) : EVT (tAnd c d) σ F H (m.bind fun b => if b then n else some false) := fun F1 H1 l x e Q q => by
  obtain ⟨b, eb, e⟩ := Option.bind_eq_some_iff.mp e
  refine h F1 H1 l b eb _ fun F2 H2 l2 => ?_
  cases b with
  | true => exact iteT (k F2 H2 (l.trans l2) x e _ fun F3 H3 l3 => q F3 H3 (l2.trans l3))
  | false =>
    have e' : false = x := Option.some.inj e
    subst e'
    exact iteF (q F2 H2 l2)
theorem evt_or {c d : TT} {m n : Option Bool} (h : EVT c σ F H m) (k : EVT d σ F H n) : EVT (tOr c d) σ F H (m.bind fun b => if b then some true else n) := fun F1 H1 l x e Q q => by
  obtain ⟨b, eb, e⟩ := Option.bind_eq_some_iff.mp e
  refine h F1 H1 l b eb _ fun F2 H2 l2 => ?_
  cases b with
  | false => exact iteF (k F2 H2 (l.trans l2) x e _ fun F3 H3 l3 => q F3 H3 (l2.trans l3))
  | true =>
    have e' : true = x := Option.some.inj e
    subst e'
    exact iteT (q F2 H2 l2)
theorem ev_andV {ta tb : TE} {m n : Option Bool} (h : EV ta σ F H m) (k : EV tb σ F H n) : EV (tAndV ta tb) σ F H (m.bind fun b => if b then n else some false) := fun F1 H1 l x e Q q => by
  obtain ⟨b, eb, e⟩ := Option.bind_eq_some_iff.mp e
  refine h F1 H1 l b eb _ fun v F2 H2 l2 r => ⟨b, r, ?_⟩
  cases b with
  | true => exact iteT (k F2 H2 (l.trans l2) x e _ fun w F3 H3 l3 r3 => q w F3 H3 (l2.trans l3) r3)
  | false =>
    have e' : false = x := Option.some.inj e
    subst e'
    exact iteF (q _ F2 H2 l2 rfl)
theorem ev_orV {ta tb : TE} {m n : Option Bool} (h : EV ta σ F H m) (k : EV tb σ F H n) : EV (tOrV ta tb) σ F H (m.bind fun b => if b then some true else n) := fun F1 H1 l x e Q q => by
  obtain ⟨b, eb, e⟩ := Option.bind_eq_some_iff.mp e
  refine h F1 H1 l b eb _ fun v F2 H2 l2 r => ⟨b, r, ?_⟩
  cases b with
  | false => exact iteF (k F2 H2 (l.trans l2) x e _ fun w F3 H3 l3 r3 => q w F3 H3 (l2.trans l3) r3)
  | true =>
    have e' : true = x := Option.some.inj e
    subst e'
    exact iteT (q _ F2 H2 l2 rfl)
theorem ev_notV {m : Option Bool} (h : EV t σ F H m) : EV (tNotV t) σ F H (m.bind fun b => some (!b)) := fun F1 H1 l x e Q q => by
  obtain ⟨b, eb, e⟩ := Option.bind_eq_some_iff.mp e
  cases e
  exact h F1 H1 l b eb _ fun v F2 H2 l2 r => ⟨b, r, q _ F2 H2 l2 rfl⟩
theorem ev_isN {m : Option (Option α)} (nn : ∀ (x : α) v F, rp x v F → v ≠ .non) (h : EV t σ F H m) : EV (tIsN t) σ F H (m.bind fun x => some x.isNone) := fun F1 H1 l x e Q q => by
  obtain ⟨b, eb, e⟩ := Option.bind_eq_some_iff.mp e
  cases e
  refine h F1 H1 l b eb _ fun v F2 H2 l2 r => q _ F2 H2 l2 ?_
  show V.bl (decide (v = .non)) = V.bl b.isNone
  cases b with
  | none =>
    have : v = .non := r
    simp [this]
  | some x => simp [nn x v F2 r]
theorem ev_notN {m : Option (Option α)} (nn : ∀ (x : α) v F, rp x v F → v ≠ .non) (h : EV t σ F H m) : EV (tNotN t) σ F H (m.bind fun x => some (!x.isNone)) := fun F1 H1 l x e Q q => by
  obtain ⟨b, eb, e⟩ := Option.bind_eq_some_iff.mp e
  cases e
  refine h F1 H1 l b eb _ fun v F2 H2 l2 r => q _ F2 H2 l2 ?_
  show V.bl (!decide (v = .non)) = V.bl (!b.isNone)
  cases b with
  | none =>
    have : v = .non := r
    simp [this]
  | some x => simp [nn x v F2 r]
theorem nn_list (x : List α) (v : V) (F : Hp) (h : rp x v F) : v ≠ .non := by
  obtain ⟨a, vs, rfl, _⟩ := h
  intro e
  cases e
theorem nn_pair (x : α × β) (v : V) (F : Hp) (h : rp x v F) : v ≠ .non := by
  obtain ⟨a, v1, v2, rfl, _⟩ := h
  intro e
  cases e
theorem ev_if {c : TT} {ta tb : TE} {m : Option Bool} {ma mb : Option α} (hc : EVT c σ F H m) (ha : EV ta σ F H ma) (hb : EV tb σ F H mb) : EV (tIf c ta tb) σ F H (m.bind fun b => if b then ma else mb) := fun F1 H1 l x e Q q => by
  obtain ⟨b, eb, e⟩ := Option.bind_eq_some_iff.mp e
  refine hc F1 H1 l b eb _ fun F2 H2 l2 => ?_
  cases b with
  | true => exact iteT (ha F2 H2 (l.trans l2) x e _ fun w F3 H3 l3 r3 => q w F3 H3 (l2.trans l3) r3)
  | false => exact iteF (hb F2 H2 (l.trans l2) x e _ fun w F3 H3 l3 r3 => q w F3 H3 (l2.trans l3) r3)
/-- a op b op c -/
theorem ev_chain {δ : Type} [Rep δ] {ta tb tc : TE} {r r' : R2} {ma : Option α} {mb : Option β} {mc : Option δ} {k : α → β → Option Bool} {k' : β → δ → Option Bool} (ha : EV ta σ F H ma) (hb : EV tb σ F H mb) (hc : EV tc σ F H mc)
    (hr : ∀ x y, RV r x y (k x y)) (hr' : ∀ x y, RV r' x y (k' x y)) : EV (tChain r r' ta tb tc) σ F H (ma.bind fun x => mb.bind fun y => (k x y).bind fun b => if b then mc.bind fun z => k' y z else some false) := fun F1 H1 l z e Q q => by
  obtain ⟨x, ex, e⟩ := Option.bind_eq_some_iff.mp e
  obtain ⟨y, ey, e⟩ := Option.bind_eq_some_iff.mp e
  obtain ⟨b, eb, e⟩ := Option.bind_eq_some_iff.mp e
  refine ha F1 H1 l x ex _ fun v F2 H2 l2 rv => hb F2 H2 (l.trans l2) y ey _ fun w F3 H3 l3 rw' => ?_
  refine hr x y F3 H3 v w l3.fh (up rv l3) rw' b eb _ fun u F4 H4 l4 ru => ⟨b, ru, ?_⟩
  cases b with
  | true =>
    refine iteT ?_
    obtain ⟨z1, ez1, e⟩ := Option.bind_eq_some_iff.mp e
    refine hc F4 H4 (((l.trans l2).trans l3).trans l4) z1 ez1 _ fun w2 F5 H5 l5 r5 => ?_
    exact hr' y z1 F5 H5 w w2 l5.fh (up (up rw' l4) l5) r5 z e Q fun u F6 H6 l6 r6 => q u F6 H6 ((((l2.trans l3).trans l4).trans l5).trans l6) r6
  | false =>
    have e' : false = z := Option.some.inj e
    subst e'
    exact iteF (q _ F4 H4 ((l2.trans l3).trans l4) rfl)
end
end Dw

set_option Elab.async false
set_option linter.all false
set_option maxRecDepth 100000
set_option maxHeartbeats 4000000
/-! The layer, second part: walks, loops, comprehensions, statements, calls. -/
namespace Dw
open PySem L2 Dv
open Rep (rp)
open RepA (ra)

/-! ### what is walked -/
structure Wk {α : Type} [Rep α] (J : It) (xs : List α) (F : Hp) : Prop where
  stop : ∀ H, Same F H → J.stop xs.length H
  go : ∀ i x H, xs[i]? = some x → Same F H → J.go i H
  yld : ∀ i x H v H', xs[i]? = some x → Same F H → J.yld i H v H' → ∀ F1, Same F F1 → Same F1 H → ∃ F2, Lat F1 H F2 H' ∧ rp x v F2
section
variable {α β γ S R T : Type} [Rep α] [Rep β] [Rep γ] {K : PySem.W.Frag}
def EI (wi : TI) (σ : L2.St) (F H : Hp) (m : Option (List α)) : Prop :=
  ∀ F1 H1, Lat F H F1 H1 → ∀ xs, m = some xs → ∀ R : It → Hp → Prop, (∀ J F2 H2, Lat F1 H1 F2 H2 → Wk J xs F2 → R J H2) → wi σ H1 R
variable {t : TE} {σ : L2.St} {F H : Hp}
theorem EI.flat [Flat α] {wi : TI} {m : Option (List α)} (h : EI wi σ H H m) (s : Same F H) (hJ : ∀ J xs F2 H2, Lat H H F2 H2 → Wk J xs F2 → Wk J (xs : List α) F) : EI wi σ F H m := fun F1 H1 l xs e R q =>
  h H1 H1 l.all xs e R fun J F2 H2 l2 w => q J F1 H2 (.grow l.fh l2.h) (by
    have w2 := hJ J xs F2 H2 (l.all.trans l2) w
    exact ⟨fun H' s' => w2.stop H' (l.f.trans s'), fun i x H' e s' => w2.go i x H' e (l.f.trans s'), fun i x H' v H'' e s' y F1 s1 s2 => w2.yld i x H' v H'' e (l.f.trans s') y F1 (l.f.trans s1) s2⟩)
theorem wk_list {a : Addr} {xs : List α} {vs : List V} (h : F a = some (.lst vs)) (r : rpL xs vs F) : Wk (Itl K a) xs F := by
  refine ⟨fun H s => ⟨vs, sqL (s _ _ h), Nat.le_of_eq r.length⟩, fun i x H e s => ?_, fun i x H v H' e s y F1 s1 s2 => ?_⟩
  · obtain ⟨v, ev, _⟩ := r.get e
    exact ⟨vs, v, sqL (s _ _ h), ev⟩
  · obtain ⟨rfl, y2⟩ := y
    obtain ⟨v', ev, rv⟩ := r.get e
    have := y2 vs (sqL (s _ _ h))
    rw [ev] at this
    cases this
    exact ⟨F1, .refl s2, Rep.mono s1 rv⟩
theorem ei_list {m : Option (List α)} (h : EV t σ F H m) : EI (iList K t) σ F H m := fun F1 H1 l xs e R q =>
  h F1 H1 l xs e _ fun v F2 H2 l2 ⟨a, vs, ev, ea, r⟩ => ⟨a, ev, ⟨vs, sqL (l2.fh _ _ ea)⟩, q _ F2 H2 l2 (wk_list ea r)⟩
/-- a pair walked -/
theorem ei_tup {m : Option (α × α)} (h : EV t σ F H m) : EI (iTup K t) σ F H (m.bind fun x => some [x.1, x.2]) := fun F1 H1 l xs e R q => by
  obtain ⟨x, ex, e⟩ := Option.bind_eq_some_iff.mp e
  cases e
  refine h F1 H1 l x ex _ fun v F2 H2 l2 ⟨a, v1, v2, ev, ea, r1, r2⟩ => ⟨a, ev, ⟨_, sqT (l2.fh _ _ ea)⟩, q _ F2 H2 l2 ?_⟩
  refine ⟨fun H s => ⟨_, sqT (s _ _ ea), Nat.le_refl _⟩, fun i y H e s => ?_, fun i y H v H' e s z F1 s1 s2 => ?_⟩
  · match i, e with
    | 0, _ => exact ⟨_, v1, sqT (s _ _ ea), rfl⟩
    | 1, _ => exact ⟨_, v2, sqT (s _ _ ea), rfl⟩
  · obtain ⟨rfl, z2⟩ := z
    match i, e, z2 with
    | 0, e, z2 =>
      cases e
      have := z2 _ (sqT (s _ _ ea))
      cases this
      exact ⟨F1, .refl s2, Rep.mono s1 r1⟩
    | 1, e, z2 =>
      cases e
      have := z2 _ (sqT (s _ _ ea))
      cases this
      exact ⟨F1, .refl s2, Rep.mono s1 r2⟩
theorem wk_range {lo : Int} {n : Nat} : Wk (Itr lo n) ((List.range n).map fun i => lo + ((i : Nat) : Int)) F := by
  refine ⟨fun H s => ?_, fun i x H e s => ?_, fun i x H v H' e s y F1 s1 s2 => ?_⟩
  · show n ≤ _
    simp
  · have := (List.getElem?_eq_some_iff.mp e).1
    show i < n
    simpa using this
  · obtain ⟨rfl, rfl⟩ := y
    have hi : i < n := by simpa using (List.getElem?_eq_some_iff.mp e).1
    refine ⟨F1, .refl s2, ?_⟩
    rw [List.getElem?_map, List.getElem?_range hi] at e
    cases e
    rfl
theorem ei_range1 {m : Option Int} (h : EV t σ F H m) : EI (iRng1 (tCons t tNil)) σ F H (m.bind fun n => rng 0 n) := fun F1 H1 l xs e R q => by
  obtain ⟨n, en, e⟩ := Option.bind_eq_some_iff.mp e
  unfold rng at e
  split at e
  · rename_i c
    cases e
    refine h F1 H1 l n en _ fun v F2 H2 l2 r => ⟨n, by rw [show v = V.int n from r], by omega, by omega, ?_⟩
    refine q _ F2 H2 l2 ?_
    have z : (n - 0).toNat = n.toNat := by rw [Int.sub_zero]
    rw [z]
    exact wk_range
  · cases e
theorem ei_range2 {ta tb : TE} {ma mb : Option Int} (ha : EV ta σ F H ma) (hb : EV tb σ F H mb) : EI (iRng2 (tCons ta (tCons tb tNil))) σ F H (ma.bind fun a => mb.bind fun b => rng a b) := fun F1 H1 l xs e R q => by
  obtain ⟨a, en, e⟩ := Option.bind_eq_some_iff.mp e
  obtain ⟨b, eb, e⟩ := Option.bind_eq_some_iff.mp e
  unfold rng at e
  split at e
  · rename_i c
    cases e
    refine ha F1 H1 l a en _ fun v F2 H2 l2 r => hb F2 H2 (l.trans l2) b eb _ fun w F3 H3 l3 r3 => ⟨a, b, by rw [show v = V.int a from r, show w = V.int b from r3], ⟨by omega, by omega, by omega, by omega⟩, ?_⟩
    exact q _ F3 H3 (l2.trans l3) wk_range
  · cases e
theorem ei_rev {m : Option (List α)} (h : EV t σ F H m) : EI (iRev K (tCons t tNil)) σ F H (m.bind fun xs => some xs.reverse) := fun F1 H1 l ys e R q => by
  obtain ⟨xs, en, e⟩ := Option.bind_eq_some_iff.mp e
  cases e
  refine h F1 H1 l xs en _ fun v F2 H2 l2 ⟨a, vs, ev, ea, r⟩ => ⟨a, vs, by rw [ev], sqL (l2.fh _ _ ea), q _ F2 H2 l2 ?_⟩
  have w := walk_rev (K := K) (a := a) (xs := vs)
  have hl := r.length
  refine ⟨fun H s => ?_, fun i x H e s => w.goes i H ?_ (sqL (s _ _ ea)), fun i x H v H' e s y F1 s1 s2 => ?_⟩
  · have := w.stops H (sqL (s _ _ ea))
    rw [hl] at this
    rw [List.length_reverse, hl]
    exact this
  · rw [hl]
    have := (List.getElem?_eq_some_iff.mp e).1
    simpa using this
  · have hi : i < xs.length := by
      have := (List.getElem?_eq_some_iff.mp e).1
      simpa using this
    obtain ⟨rfl, y2⟩ := w.yields i H v H' (by rw [hl]; exact hi) (sqL (s _ _ ea)) y
    rw [List.getElem?_reverse hi] at e
    obtain ⟨v', ev', rv⟩ := r.get e
    rw [hl, ev'] at y2
    cases y2
    exact ⟨F1, .refl s2, Rep.mono s1 rv⟩
theorem ei_zip {ta tb : TE} {ma : Option (List α)} {mb : Option (List β)} (ha : EV ta σ F H ma) (hb : EV tb σ F H mb) :
    EI (iZip K (tCons ta (tCons tb tNil))) σ F H (ma.bind fun a => mb.bind fun b => some (a.zip b)) := fun F1 H1 l zs e R q => by
  obtain ⟨xs, en, e⟩ := Option.bind_eq_some_iff.mp e
  obtain ⟨ys, eb, e⟩ := Option.bind_eq_some_iff.mp e
  cases e
  refine ha F1 H1 l xs en _ fun v F2 H2 l2 ⟨a, vs, ev, ea, r⟩ => hb F2 H2 (l.trans l2) ys eb _ fun w F3 H3 l3 ⟨b, ws, ew, eb, r3⟩ => ⟨a, b, vs, ws, by rw [ev, ew], sqL (l3.fh _ _ (l3.f _ _ ea)), sqL (l3.fh _ _ eb), q _ F3 H3 (l2.trans l3) ?_⟩
  have w := walk_zip (K := K) (a := a) (b := b) (xs := vs) (ys := ws) rfl
  have ea := l3.f _ _ ea
  have r := rpL.mono l3.f r
  have h1 := r.length
  have h2 := r3.length
  refine ⟨fun H s => ?_, fun i x H e s => w.goes i H ?_ ⟨sqL (s _ _ ea), sqL (s _ _ eb)⟩, fun i x H v H' e s y F1 s1 s2 => ?_⟩
  · have := w.stops H ⟨sqL (s _ _ ea), sqL (s _ _ eb)⟩
    rw [List.length_zip, ← h1, ← h2]
    exact this
  · have := (List.getElem?_eq_some_iff.mp e).1
    rw [List.length_zip] at this
    rw [h1, h2]
    exact this
  · have hi := (List.getElem?_eq_some_iff.mp e).1
    rw [List.length_zip] at hi
    obtain ⟨T, x1, y1, rfl, hT, rfl, e1, e2⟩ := w.yields i H v H' (by rw [h1, h2]; exact hi) ⟨sqL (s _ _ ea), sqL (s _ _ eb)⟩ y
    obtain ⟨u1, eu1⟩ : ∃ u, xs[i]? = some u := ⟨xs[i], by simp [show i < xs.length by omega]⟩
    obtain ⟨u2, eu2⟩ : ∃ u, ys[i]? = some u := ⟨ys[i], by simp [show i < ys.length by omega]⟩
    have ex : x = (u1, u2) := by
      have z : (xs.zip ys)[i]? = some (u1, u2) := by
        rw [List.getElem?_zip_eq_some]
        exact ⟨eu1, eu2⟩
      rw [z] at e
      exact (Option.some.inj e).symm
    subst ex
    obtain ⟨v1, ev1, rv1⟩ := r.get eu1
    obtain ⟨v2, ev2, rv2⟩ := r3.get eu2
    dsimp only at e1 e2
    rw [ev1] at e1
    rw [ev2] at e2
    cases e1
    cases e2
    refine ⟨upd F1 T (.tup [x1, y1]), .new s2 hT, T, x1, y1, rfl, upd_same, ?_, ?_⟩
    · exact Rep.mono (s1.trans (same_upd (s2.free hT))) rv1
    · exact Rep.mono (s1.trans (same_upd (s2.free hT))) rv2

/-! ### targets -/
theorem gt_name {i : Nat} {v : V} {Q : L2.St → Hp → Prop} (h : Q (σ.set i (some v)) H) : gName i v σ H Q := h
theorem gt_pair {i j : Nat} {v : V} {x : α × β} {Q : L2.St → Hp → Prop} (r : rp x v F) (s : Same F H) (h : ∀ v1 v2, rp x.1 v1 F → rp x.2 v2 F → Q ((σ.set i (some v1)).set j (some v2)) H) :
    gTup K 2 (gCons (gName i) (gCons (gName j) gNil)) v σ H Q := by
  obtain ⟨a, v1, v2, rfl, e, r1, r2⟩ := r
  exact ⟨a, [v1, v2], rfl, sqT (s _ _ e), rfl, v1, [v2], rfl, v2, [], rfl, rfl, h v1 v2 r1 r2⟩

/-! ### loops -/
def tLoop (J : It) (g : TG) (tb : TS) : TS := fun D σ H1 => ∃ W : Nat → Nat → L2.St → Hp → Prop, (∃ m, W 0 m σ H1) ∧ ∀ i m σ H, W i m σ H →
  (J.stop i H ∧ D.nx σ H) ∨ (J.go i H ∧ ∃ N : L2.St → Hp → Prop, (∀ σ' H', N σ' H' → ∃ m', m' < m ∧ W (i + 1) m' σ' H') ∧ ∀ x H', J.yld i H x H' → g x σ H' fun σ2 H2 => tb { D with nx := N, ct := N, bk := D.nx } σ2 H2)
theorem rd_for {wi : TI} {g : TG} {tb u : TS} {D : Ends} {r : R} {mi : Option (List α)} {k : List α → Option R} (hF : Same F H) (ei : EI wi σ F H mi) (hm : mi.bind k = some r)
    (c : ∀ xs J F1 H1, k xs = some r → Lat F H F1 H1 → Wk J xs F1 → tLoop J g tb { D with nx := u D } σ H1) : tSeq (tFor wi g tb) u D σ H := by
  obtain ⟨xs, e1, e2⟩ := Option.bind_eq_some_iff.mp hm
  exact ei F H (.refl hF) xs e1 _ fun J F1 H1 l w => c xs J F1 H1 e2 l w
theorem rd_forL {wi : TI} {g : TG} {tb : TS} {D : Ends} {r : R} {mi : Option (List α)} {k : List α → Option R} (hF : Same F H) (ei : EI wi σ F H mi) (hm : mi.bind k = some r)
    (c : ∀ xs J F1 H1, k xs = some r → Lat F H F1 H1 → Wk J xs F1 → tLoop J g tb D σ H1) : tFor wi g tb D σ H := by
  obtain ⟨xs, e1, e2⟩ := Option.bind_eq_some_iff.mp hm
  exact ei F H (.refl hF) xs e1 _ fun J F1 H1 l w => c xs J F1 H1 e2 l w
theorem rd_loopG {J : It} {g : TG} {tb : TS} {D : Ends} {r : R} {xs : List α} {f : S → α → Option S} {s0 : S} {k : S → Option R} (wk : Wk J xs F) (hm : (loopG f s0 xs).bind k = some r)
    (P : S → L2.St → Hp → Hp → Prop) (h0 : P s0 σ F H) (hS : ∀ s σ' F' H', P s σ' F' H' → Same F F' ∧ Same F' H')
    (hb : ∀ x s σ' F' H' v F2 H2, P s σ' F' H' → Lat F' H' F2 H2 → rp x v F2 → ∀ s', f s x = some s' → ∀ (D' : Ends), (∀ σ3 F3 H3, P s' σ3 F3 H3 → D'.nx σ3 H3) → g v σ' H2 fun σ2 H3 => tb D' σ2 H3)
    (hd : ∀ s σ' F' H', k s = some r → P s σ' F' H' → D.nx σ' H') : tLoop J g tb D σ H := by
  refine ⟨fun i m σ' H' => m = xs.length - i ∧ i ≤ xs.length ∧ ∃ s F', P s σ' F' H' ∧ (loopG f s (xs.drop i)).bind k = some r, ⟨xs.length, by simp, Nat.zero_le _, s0, F, h0, by simpa using hm⟩, ?_⟩
  rintro i m σ' H' ⟨rfl, hi, s, F', hP, hl⟩
  obtain ⟨s1, s2⟩ := hS _ _ _ _ hP
  by_cases hlt : i < xs.length
  · have ex : xs[i]? = some xs[i] := by simp [hlt]
    rw [List.drop_eq_getElem_cons hlt] at hl
    obtain ⟨sE, hl, hk⟩ := Option.bind_eq_some_iff.mp hl
    obtain ⟨s', h1, h2⟩ := Option.bind_eq_some_iff.mp (show (f s xs[i]).bind (fun s' => loopG f s' (xs.drop (i + 1))) = some sE from hl)
    refine .inr ⟨wk.go i _ H' ex (s1.trans s2), fun σ3 H3 => ∃ F3, P s' σ3 F3 H3, fun σ3 H3 ⟨F3, hp⟩ => ⟨xs.length - (i + 1), by omega, rfl, hlt, s', F3, hp, Option.bind_eq_some_iff.mpr ⟨sE, h2, hk⟩⟩, fun v H2 y => ?_⟩
    obtain ⟨F2, l2, rv⟩ := wk.yld i _ H' v H2 ex (s1.trans s2) y F' s1 s2
    exact hb _ s σ' F' H' v F2 H2 hP l2 rv s' h1 _ fun σ3 F3 H3 hp => ⟨F3, hp⟩
  · have e : i = xs.length := by omega
    subst e
    rw [List.drop_length] at hl
    exact .inl ⟨wk.stop H' (s1.trans s2), hd s σ' F' H' hl hP⟩
/-- with a return in the body: E tells what a return may hand back -/
theorem rd_loopR {J : It} {g : TG} {tb : TS} {D : Ends} {r : T} {xs : List α} {f : S → α → Option (Stp S R)} {s0 : S} {k : S → Option T} {k' : R → Option T} (wk : Wk J xs F) (hm : (loopR f s0 xs).bind (fun st => st.elim k k') = some r)
    (P : S → L2.St → Hp → Hp → Prop) (h0 : P s0 σ F H) (hS : ∀ s σ' F' H', P s σ' F' H' → Same F F' ∧ Same F' H')
    (hb : ∀ x s σ' F' H' v F2 H2, P s σ' F' H' → Lat F' H' F2 H2 → rp x v F2 → ∀ st, f s x = some st → ∀ (D' : Ends), D'.rt = D.rt → (∀ s', st = .go s' → ∀ σ3 F3 H3, P s' σ3 F3 H3 → D'.nx σ3 H3) → (∀ y, st = .ret y → k' y = some r) → g v σ' H2 fun σ2 H3 => tb D' σ2 H3)
    (hd : ∀ s σ' F' H', k s = some r → P s σ' F' H' → D.nx σ' H') : tLoop J g tb D σ H := by
  refine ⟨fun i m σ' H' => m = xs.length - i ∧ i ≤ xs.length ∧ ∃ s F', P s σ' F' H' ∧ (loopR f s (xs.drop i)).bind (fun st => st.elim k k') = some r, ⟨xs.length, by simp, Nat.zero_le _, s0, F, h0, by simpa using hm⟩, ?_⟩
  rintro i m σ' H' ⟨rfl, hi, s, F', hP, hl⟩
  obtain ⟨s1, s2⟩ := hS _ _ _ _ hP
  by_cases hlt : i < xs.length
  · have ex : xs[i]? = some xs[i] := by simp [hlt]
    rw [List.drop_eq_getElem_cons hlt] at hl
    obtain ⟨sE, hl, hk⟩ := Option.bind_eq_some_iff.mp hl
    obtain ⟨st, h1, h2⟩ := Option.bind_eq_some_iff.mp (show (f s xs[i]).bind (fun st => st.elim (fun s' => loopR f s' (xs.drop (i + 1))) fun y => some (.ret y)) = some sE from hl)
    refine .inr ⟨wk.go i _ H' ex (s1.trans s2), fun σ3 H3 => ∃ s' F3, st = .go s' ∧ P s' σ3 F3 H3, fun σ3 H3 ⟨s', F3, es, hp⟩ => ⟨xs.length - (i + 1), by omega, rfl, hlt, s', F3, hp, Option.bind_eq_some_iff.mpr ⟨sE, by subst es; exact h2, hk⟩⟩, fun v H2 y => ?_⟩
    obtain ⟨F2, l2, rv⟩ := wk.yld i _ H' v H2 ex (s1.trans s2) y F' s1 s2
    refine hb _ s σ' F' H' v F2 H2 hP l2 rv st h1 _ rfl (fun s' es σ3 F3 H3 hp => ⟨s', F3, es, hp⟩) fun y ey => ?_
    subst ey
    cases h2
    exact hk
  · have e : i = xs.length := by omega
    subst e
    rw [List.drop_length] at hl
    exact .inl ⟨wk.stop H' (s1.trans s2), hd s σ' F' H' hl hP⟩
theorem rd_whileG {tc : TT} {tb u : TS} {D : Ends} {r : R} {n : Nat} {c : S → Option Bool} {f : S → Option S} {s0 : S} {k : S → Option R} (hm : (whileG c f n s0).bind k = some r)
    (P : S → L2.St → Hp → Hp → Prop) (h0 : P s0 σ F H) (hS : ∀ s σ' F' H', P s σ' F' H' → Same F' H')
    (hc : ∀ s σ' F' H', P s σ' F' H' → EVT tc σ' F' H' (c s))
    (hb : ∀ s σ' F' H' F2 H2, P s σ' F' H' → Lat F' H' F2 H2 → ∀ s', f s = some s' → ∀ (D' : Ends), (∀ σ3 F3 H3, P s' σ3 F3 H3 → D'.nx σ3 H3) → tb D' σ' H2)
    (hd : ∀ s σ' F' H' F2 H2, k s = some r → P s σ' F' H' → Lat F' H' F2 H2 → u D σ' H2) : tSeq (tWhile tc tb) u D σ H := by
  refine ⟨fun m σ' H' => ∃ s F', P s σ' F' H' ∧ (whileG c f m s).bind k = some r, ⟨n, s0, F, h0, hm⟩, ?_⟩
  rintro m σ' H' ⟨s, F', hP, hl⟩
  cases m with
  | zero => cases hl
  | succ m =>
    obtain ⟨sE, hl, hk⟩ := Option.bind_eq_some_iff.mp hl
    obtain ⟨b, h1, h2⟩ := Option.bind_eq_some_iff.mp (show (c s).bind (fun b => if b then (f s).bind fun s' => whileG c f m s' else some s) = some sE from hl)
    refine hc s σ' F' H' hP F' H' (.refl (hS _ _ _ _ hP)) b h1 _ fun F2 H2 l2 => ?_
    cases b with
    | true =>
      refine iteT ?_
      obtain ⟨s', h3, h4⟩ := Option.bind_eq_some_iff.mp (show (f s).bind (fun s' => whileG c f m s') = some sE from h2)
      exact ⟨fun σ3 H3 => ∃ F3, P s' σ3 F3 H3, fun σ3 H3 ⟨F3, hp⟩ => ⟨m, Nat.lt_succ_self m, s', F3, hp, Option.bind_eq_some_iff.mpr ⟨sE, h4, hk⟩⟩, hb s σ' F' H' F2 H2 hP l2 s' h3 _ fun σ3 F3 H3 hp => ⟨F3, hp⟩⟩
    | false =>
      have e : s = sE := Option.some.inj h2
      subst e
      exact iteF (hd s σ' F' H' F2 H2 hk hP l2)
theorem rd_whileR {tc : TT} {tb u : TS} {D : Ends} {r : T} {n : Nat} {c : S → Option Bool} {f : S → Option (Stp S R)} {s0 : S} {k : S → Option T} {k' : R → Option T} (hm : (whileR c f n s0).bind (fun st => st.elim k k') = some r)
    (P : S → L2.St → Hp → Hp → Prop) (h0 : P s0 σ F H) (hS : ∀ s σ' F' H', P s σ' F' H' → Same F' H')
    (hc : ∀ s σ' F' H', P s σ' F' H' → EVT tc σ' F' H' (c s))
    (hb : ∀ s σ' F' H' F2 H2, P s σ' F' H' → Lat F' H' F2 H2 → ∀ st, f s = some st → ∀ (D' : Ends), D'.rt = D.rt → (∀ s', st = .go s' → ∀ σ3 F3 H3, P s' σ3 F3 H3 → D'.nx σ3 H3) → (∀ y, st = .ret y → k' y = some r) → tb D' σ' H2)
    (hd : ∀ s σ' F' H' F2 H2, k s = some r → P s σ' F' H' → Lat F' H' F2 H2 → u D σ' H2) : tSeq (tWhile tc tb) u D σ H := by
  refine ⟨fun m σ' H' => ∃ s F', P s σ' F' H' ∧ (whileR c f m s).bind (fun st => st.elim k k') = some r, ⟨n, s0, F, h0, hm⟩, ?_⟩
  rintro m σ' H' ⟨s, F', hP, hl⟩
  cases m with
  | zero => cases hl
  | succ m =>
    obtain ⟨sE, hl, hk⟩ := Option.bind_eq_some_iff.mp hl
    obtain ⟨b, h1, h2⟩ := Option.bind_eq_some_iff.mp (show (c s).bind (fun b => if b then (f s).bind fun st => st.elim (fun s' => whileR c f m s') (fun y => some (.ret y)) else some (.go s)) = some sE from hl)
    refine hc s σ' F' H' hP F' H' (.refl (hS _ _ _ _ hP)) b h1 _ fun F2 H2 l2 => ?_
    cases b with
    | true =>
      refine iteT ?_
      obtain ⟨st, h3, h4⟩ := Option.bind_eq_some_iff.mp (show (f s).bind (fun st => st.elim (fun s' => whileR c f m s') fun y => some (.ret y)) = some sE from h2)
      refine ⟨fun σ3 H3 => ∃ s' F3, st = .go s' ∧ P s' σ3 F3 H3, fun σ3 H3 ⟨s', F3, es, hp⟩ => ⟨m, Nat.lt_succ_self m, s', F3, hp, Option.bind_eq_some_iff.mpr ⟨sE, by subst es; exact h4, hk⟩⟩, hb s σ' F' H' F2 H2 hP l2 st h3 _ rfl (fun s' es σ3 F3 H3 hp => ⟨s', F3, es, hp⟩) fun y ey => ?_⟩
      subst ey
      cases h4
      exact hk
    | false =>
      have e : Stp.go s = sE := Option.some.inj h2
      subst e
      exact iteF (hd s σ' F' H' F2 H2 hk hP l2)

/-! ### comprehensions -/
theorem evn_lc {wi : TI} {g : TG} {tt : TT} {te : TE} {vs : List Nat} {mi : Option (List α)} {c : α → Option Bool} {f : α → Option β} (ei : EI wi σ F H mi)
    (hg : ∀ x v F1 H1 (Q : L2.St → Hp → Prop), Lat F H F1 H1 → rp x v F1 → (∀ σ2, wipe σ2 vs = wipe σ vs → EVT tt σ2 F1 H1 (c x) → EV te σ2 F1 H1 (f x) → Q σ2 H1) → g v (wipe σ vs) H1 Q) :
    EVN (tLc wi g tt te vs) σ F H (mi.bind fun xs => lc c f xs) := fun F1 H1 l ys e Q q => by
  obtain ⟨xs, exs, e⟩ := Option.bind_eq_some_iff.mp e
  unfold lc at e
  split at e
  · rename_i hlen
    refine ei F1 H1 l xs exs _ fun J F2 H2 l2 wk D hD => ?_
    have fD : F2 D = none := l2.fh.free hD
    refine ⟨fun i m H' => m = xs.length - i ∧ i ≤ xs.length ∧ ∃ (acc : List V) (as zs : List β) (F' : Hp), Lat F2 H2 F' H' ∧ F' D = none ∧ H' D = some (.lst acc) ∧ rpL as acc F' ∧ as.length ≤ i ∧ lcG c f (xs.drop i) = some zs ∧ ys = as ++ zs,
      ⟨xs.length, by simp, Nat.zero_le _, [], [], ys, F2, .made l2.fh hD, fD, upd_same, trivial, Nat.zero_le _, by simpa using e, rfl⟩, ?_⟩
    rintro i m H' ⟨rfl, hi, acc, as, zs, F', l3, f3, h3, r3, len3, e3, rfl⟩
    have s1 := l3.f
    have s2 := l3.fh
    by_cases hlt : i < xs.length
    · have ex : xs[i]? = some xs[i] := by simp [hlt]
      rw [List.drop_eq_getElem_cons hlt] at e3
      obtain ⟨b, eb, e4⟩ := Option.bind_eq_some_iff.mp (show (c xs[i]).bind (fun b => if b then (f xs[i]).bind fun y => (lcG c f (xs.drop (i + 1))).bind fun ys => some (y :: ys) else lcG c f (xs.drop (i + 1))) = some zs from e3)
      refine .inr ⟨wk.go i _ H' ex (s1.trans s2), fun H' => i + 1 ≤ xs.length ∧ ∃ (acc : List V) (as' zs' : List β) (F' : Hp), Lat F2 H2 F' H' ∧ F' D = none ∧ H' D = some (.lst acc) ∧ rpL as' acc F' ∧ as'.length ≤ i + 1 ∧ lcG c f (xs.drop (i + 1)) = some zs' ∧ as ++ zs = as' ++ zs',
        fun H4 h4 => ⟨xs.length - (i + 1), by omega, rfl, h4⟩, fun v H4 y => ?_⟩
      obtain ⟨F4, l4, rv⟩ := wk.yld i _ H' v H4 ex (s1.trans s2) y F' s1 s2
      have lAll := (l2.trans l3).trans l4
      refine hg _ v F4 H4 _ (l.trans lAll) rv fun σ2 hw ht he => ⟨hw, ?_⟩
      refine ht F4 H4 (.refl l4.fh) b eb _ fun F5 H5 l5 => ?_
      have hD5 : H5 D = some (.lst acc) := l5.h _ _ (l4.h _ _ h3)
      have fD5 : F5 D = none := l5.nwl (l4.h _ _ h3) (l4.nwl h3 f3)
      have r5 : rpL as acc F5 := rpL.mono (l4.f.trans l5.f) r3
      cases b with
      | true =>
        refine iteT ?_
        obtain ⟨y1, ey1, e5⟩ := Option.bind_eq_some_iff.mp (show (f xs[i]).bind (fun y => (lcG c f (xs.drop (i + 1))).bind fun ys => some (y :: ys)) = some zs from e4)
        obtain ⟨zs', ez, e6⟩ := Option.bind_eq_some_iff.mp e5
        cases e6
        refine he F5 H5 l5 y1 ey1 _ fun w F6 H6 l6 rw' => ⟨acc, l6.h _ _ hD5, sz_lt (by rw [r5.length]; omega), ?_⟩
        have fD6 : F6 D = none := l6.nwl hD5 fD5
        refine ⟨hlt, acc ++ [w], as ++ [y1], zs', F6, ((l3.trans l4).trans (l5.trans l6)).put hD fD6, fD6, upd_same, ?_, ?_, ez, by simp⟩
        · exact rpL.append (rpL.mono l6.f r5) ⟨rw', trivial⟩
        · rw [List.length_append, List.length_singleton]
          omega
      | false =>
        refine iteF ⟨hlt, acc, as, zs, F5, (l3.trans l4).trans l5, fD5, hD5, r5, by omega, e4, rfl⟩
    · have ei : i = xs.length := by omega
      subst ei
      rw [List.drop_length] at e3
      have ez : zs = [] := (Option.some.inj e3).symm
      subst ez
      rw [List.append_nil] at q
      exact .inl ⟨wk.stop H' (s1.trans s2), q D acc F' H' (l2.trans l3) (l2.h.free hD) f3 h3 r3⟩
  · cases e
theorem evt_yes : EVT tYes σ F H (some true) := fun F1 H1 l x e Q q => by
  cases e
  exact q F1 H1 (.refl l.fh)

/-! ### statements -/
variable {te : TE} {u : TS} {D : Ends} {r : R} {i : Nat}
theorem rd_asg {m : Option α} {k : α → Option R} (hF : Same F H) (ev : EV te σ F H m) (hm : m.bind k = some r) (c : ∀ x v F1 H1, k x = some r → Lat F H F1 H1 → rp x v F1 → u D (σ.set i (some v)) H1) : tSeq (tAsg te (gName i)) u D σ H := by
  obtain ⟨x, e1, e2⟩ := Option.bind_eq_some_iff.mp hm
  exact ev F H (.refl hF) x e1 _ fun v F1 H1 l rv => c x v F1 H1 e2 l rv
theorem rd_asgL {m : Option α} {k : α → Option R} (hF : Same F H) (ev : EV te σ F H m) (hm : m.bind k = some r) (c : ∀ x v F1 H1, k x = some r → Lat F H F1 H1 → rp x v F1 → D.nx (σ.set i (some v)) H1) : tAsg te (gName i) D σ H := by
  obtain ⟨x, e1, e2⟩ := Option.bind_eq_some_iff.mp hm
  exact ev F H (.refl hF) x e1 _ fun v F1 H1 l rv => c x v F1 H1 e2 l rv
/-- a new list that will change -/
theorem rd_asgN {m : Option (List α)} {k : List α → Option R} (hF : Same F H) (ev : EVN te σ F H m) (hm : m.bind k = some r)
    (c : ∀ xs p vs F1 H1, k xs = some r → Lat F H F1 H1 → H p = none → F1 p = none → H1 p = some (.lst vs) → rpL xs vs F1 → u D (σ.set i (some (.ref p))) H1) : tSeq (tAsg te (gName i)) u D σ H := by
  obtain ⟨x, e1, e2⟩ := Option.bind_eq_some_iff.mp hm
  exact ev F H (.refl hF) x e1 _ fun p vs F1 H1 l h1 h2 h3 rv => c x p vs F1 H1 e2 l h1 h2 h3 rv
theorem rd_asg2 {j : Nat} {m : Option (α × β)} {k : α × β → Option R} (hF : Same F H) (ev : EV te σ F H m) (hm : m.bind k = some r)
    (c : ∀ x v w F1 H1, k x = some r → Lat F H F1 H1 → rp x.1 v F1 → rp x.2 w F1 → u D ((σ.set i (some v)).set j (some w)) H1) : tSeq (tAsg te (gTup K 2 (gCons (gName i) (gCons (gName j) gNil)))) u D σ H := by
  obtain ⟨x, e1, e2⟩ := Option.bind_eq_some_iff.mp hm
  exact ev F H (.refl hF) x e1 _ fun v F1 H1 l rv => gt_pair rv l.fh fun v1 v2 r1 r2 => c x v1 v2 F1 H1 e2 l r1 r2
theorem rd_ret {m : Option α} {k : α → Option R} (hF : Same F H) (ev : EV te σ F H m) (hm : m.bind k = some r) (c : ∀ x v F1 H1, k x = some r → Lat F H F1 H1 → rp x v F1 → D.rt v H1) : tRet te D σ H := by
  obtain ⟨x, e1, e2⟩ := Option.bind_eq_some_iff.mp hm
  exact ev F H (.refl hF) x e1 _ fun v F1 H1 l rv => c x v F1 H1 e2 l rv
theorem rd_ret0 {m : Option α} {x : α} (hF : Same F H) (ev : EV te σ F H m) (hm : m = some x) (c : ∀ v F1 H1, Lat F H F1 H1 → rp x v F1 → D.rt v H1) : tRet te D σ H :=
  ev F H (.refl hF) x hm _ fun v F1 H1 l rv => c v F1 H1 l rv
theorem rd_retN {m : Option (List α)} {x : List α} (hF : Same F H) (ev : EVN te σ F H m) (hm : m = some x) (c : ∀ p vs F1 H1, Lat F H F1 H1 → H p = none → F1 p = none → H1 p = some (.lst vs) → rpL x vs F1 → D.rt (.ref p) H1) : tRet te D σ H :=
  ev F H (.refl hF) x hm _ fun p vs F1 H1 l h1 h2 h3 rv => c p vs F1 H1 l h1 h2 h3 rv
theorem rd_if {c : TT} {t1 t2 : TS} {m : Option Bool} {A B : Option R} (hF : Same F H) (ev : EVT c σ F H m) (hm : (m.bind fun b => if b then A else B) = some r)
    (ct : ∀ F1 H1, m = some true → A = some r → Lat F H F1 H1 → t1 D σ H1) (cf : ∀ F1 H1, m = some false → B = some r → Lat F H F1 H1 → t2 D σ H1) : tIfS c t1 t2 D σ H := by
  obtain ⟨b, e1, e2⟩ := Option.bind_eq_some_iff.mp hm
  refine ev F H (.refl hF) b e1 _ fun F1 H1 l => ?_
  cases b with
  | true => exact iteT (ct F1 H1 e1 e2 l)
  | false => exact iteF (cf F1 H1 e1 e2 l)
theorem rd_seq {t1 t2 : TS} (h : t1 { D with nx := t2 D } σ H) : tSeq t1 t2 D σ H := h
theorem at_st {t : TS} {σ' : L2.St} (e : σ' = σ) (h : t D σ H) : t D σ' H := by
  rw [e]
  exact h
theorem nx_with {D : Ends} {N : L2.St → Hp → Prop} (h : N σ H) : ({ D with nx := N } : Ends).nx σ H := h
theorem rd_next (h : D.nx σ H) : tNext D σ H := h
/-- an if whose both ways go on -/
theorem rd_join {c : TT} {t1 t2 : TS} {m : Option S} {k : S → Option R} (P : S → L2.St → Hp → Hp → Prop) (hm : m.bind k = some r)
    (h1 : ∀ s, m = some s → ∀ D' : Ends, (∀ σ3 F3 H3, P s σ3 F3 H3 → D'.nx σ3 H3) → tIfS c t1 t2 D' σ H) (h2 : ∀ s σ' F' H', k s = some r → P s σ' F' H' → u D σ' H') : tSeq (tIfS c t1 t2) u D σ H := by
  obtain ⟨s, e1, e2⟩ := Option.bind_eq_some_iff.mp hm
  exact h1 s e1 _ fun σ3 F3 H3 hp => h2 s σ3 F3 H3 e2 hp
/-- e alone -/
theorem rd_drop {m : Option α} {k : α → Option R} (hF : Same F H) (ev : EV te σ F H m) (hm : m.bind k = some r) (c : ∀ x F1 H1, k x = some r → Lat F H F1 H1 → u D σ H1) : tSeq (tDrop te) u D σ H := by
  obtain ⟨x, e1, e2⟩ := Option.bind_eq_some_iff.mp hm
  exact ev F H (.refl hF) x e1 _ fun v F1 H1 l _ => c x F1 H1 e2 l
/-- an owned list changed -/
structure Mt (p : Addr) (F H F' H' : Hp) : Prop where
  f : Same F F'
  fh : Same F' H'
  l0 : ∀ F0 H0, Lat F0 H0 F H → H0 p = none → Lat F0 H0 F' H'
  h : ∀ q o, q ≠ p → H q = some o → H' q = some o
  nw : ∀ q o, H q = some o → Chg o → F q = none → F' q = none
theorem Mt.nwl {p : Addr} {F H F' H' : Hp} (m : Mt p F H F' H') {a : Addr} {vs : List V} (e : H a = some (.lst vs)) (f : F a = none) : F' a = none := m.nw a _ e trivial f
theorem Mt.of {p : Addr} {F H F1 H1 : Hp} {o : HO} (l : Lat F H F1 H1) (fp : F1 p = none) : Mt p F H F1 (upd H1 p o) := by
  refine ⟨l.f, fun a u e => ?_, fun F0 H0 l0 h0 => (l0.trans l).put h0 fp, fun q u n e => ?_, l.nw⟩
  · rw [upd_ne (ne_of_none e fp)]
    exact l.fh _ _ e
  · rw [upd_ne n]
    exact l.h _ _ e
/-- xs.append(e) -/
theorem rd_appendL {p : Addr} {xs : List α} {vs : List V} {m : Option α} {k : List α → Option R} {j : Nat} (hF : Same F H) (hj : σ[j]? = some (some (.ref p))) (hp : H p = some (.lst vs)) (fp : F p = none) (rl : rpL xs vs F) (ev : EV te σ F H m)
    (hm : (m.bind fun y => addL xs y).bind k = some r)
    (c : ∀ ys ws F1 H1, k ys = some r → Mt p F H F1 H1 → F1 p = none → H1 p = some (.lst ws) → rpL ys ws F1 → D.nx σ H1) : tDrop (tBM K "list" rAppend (tVar j) (tCons te tNil)) D σ H := by
  obtain ⟨ys, e1, e2⟩ := Option.bind_eq_some_iff.mp hm
  obtain ⟨y, e3, e4⟩ := Option.bind_eq_some_iff.mp e1
  unfold addL at e4
  split at e4
  · rename_i hlen
    cases e4
    refine ⟨.ref p, hj, .inl ⟨rfl, vs, sqL hp⟩, ?_⟩
    refine ev F H (.refl hF) y e3 _ fun v F1 H1 l rv => ?_
    have fp1 := l.nwl hp fp
    exact ⟨p, vs, v, rfl, rfl, l.h _ _ hp, sz_lt (by rw [rl.length]; exact hlen), c _ (vs ++ [v]) F1 _ e2 (Mt.of l fp1) fp1 upd_same (rpL.append (rpL.mono l.f rl) ⟨rv, trivial⟩)⟩
  · cases e4
theorem rd_append {p : Addr} {xs : List α} {vs : List V} {m : Option α} {k : List α → Option R} {j : Nat} (hF : Same F H) (hj : σ[j]? = some (some (.ref p))) (hp : H p = some (.lst vs)) (fp : F p = none) (rl : rpL xs vs F) (ev : EV te σ F H m)
    (hm : (m.bind fun y => addL xs y).bind k = some r)
    (c : ∀ ys ws F1 H1, k ys = some r → Mt p F H F1 H1 → F1 p = none → H1 p = some (.lst ws) → rpL ys ws F1 → u D σ H1) : tSeq (tDrop (tBM K "list" rAppend (tVar j) (tCons te tNil))) u D σ H := rd_appendL (D := { D with nx := u D }) hF hj hp fp rl ev hm c
/-- xs[i] = e -/
theorem rd_setL {ti : TE} {p : Addr} {xs : List α} {vs : List V} {m : Option α} {mi : Option Int} {k : List α → Option R} {j : Nat} (hF : Same F H) (hj : σ[j]? = some (some (.ref p))) (hp : H p = some (.lst vs)) (fp : F p = none) (rl : rpL xs vs F) (ev : EV te σ F H m) (ei : EV ti σ F H mi)
    (hm : (m.bind fun y => mi.bind fun i => setZ xs i y).bind k = some r)
    (c : ∀ ys ws F1 H1, k ys = some r → Mt p F H F1 H1 → F1 p = none → H1 p = some (.lst ws) → rpL ys ws F1 → D.nx σ H1) : tAsg te (gSub (tVar j) ti rSetL) D σ H := by
  obtain ⟨ys, e1, e2⟩ := Option.bind_eq_some_iff.mp hm
  obtain ⟨y, e3, e4⟩ := Option.bind_eq_some_iff.mp e1
  obtain ⟨i, e5, e6⟩ := Option.bind_eq_some_iff.mp e4
  unfold setZ at e6
  obtain ⟨n, e7, e8⟩ := Option.bind_eq_some_iff.mp e6
  cases e8
  refine ev F H (.refl hF) y e3 _ fun v F1 H1 l rv => ?_
  refine ⟨.ref p, hj, ei F1 H1 l i e5 _ fun w F2 H2 l2 rw' => ?_⟩
  have hl : vs.length = xs.length := rl.length
  have l12 := l.trans l2
  have fp2 := l12.nwl hp fp
  refine ⟨p, vs, i, n, rfl, rw', l12.h _ _ hp, ?_, c _ (vs.set n v) F2 _ e2 (Mt.of l12 fp2) fp2 upd_same ?_⟩
  · rw [hl]
    exact e7
  · exact rpL.set (up rv l2) n (rpL.mono l12.f rl)
theorem rd_set {ti : TE} {p : Addr} {xs : List α} {vs : List V} {m : Option α} {mi : Option Int} {k : List α → Option R} {j : Nat} (hF : Same F H) (hj : σ[j]? = some (some (.ref p))) (hp : H p = some (.lst vs)) (fp : F p = none) (rl : rpL xs vs F) (ev : EV te σ F H m) (ei : EV ti σ F H mi)
    (hm : (m.bind fun y => mi.bind fun i => setZ xs i y).bind k = some r)
    (c : ∀ ys ws F1 H1, k ys = some r → Mt p F H F1 H1 → F1 p = none → H1 p = some (.lst ws) → rpL ys ws F1 → u D σ H1) : tSeq (tAsg te (gSub (tVar j) ti rSetL)) u D σ H := rd_setL (D := { D with nx := u D }) hF hj hp fp rl ev ei hm c
/-- an owned list is held for known from here on -/
theorem freeze {p : Addr} {xs : List α} {vs : List V} {F0 H0 : Hp} (l0 : Lat F0 H0 F H) (h0 : H0 p = none) (fp : F p = none) (hp : H p = some (.lst vs)) (rl : rpL xs vs F) : ∃ F', Lat F0 H0 F' H ∧ Same F F' ∧ rp xs (.ref p) F' ∧ ∀ q, q ≠ p → F q = none → F' q = none :=
  ⟨upd F p (.lst vs), l0.hold h0 fp hp, same_upd fp, ⟨p, vs, rfl, upd_same, rpL.mono (same_upd fp) rl⟩, fun q n e => by rw [upd_ne n]; exact e⟩
/-- an owned list read -/
theorem own_rp {p : Addr} {xs : List α} {vs : List V} (s : Same F H) (hp : H p = some (.lst vs)) (rl : rpL xs vs F) : rp xs (.ref p) H := ⟨p, vs, rfl, hp, rpL.mono s rl⟩
theorem ev_varF [Flat α] {i : Nat} {x : α} {v : V} {F' : Hp} (h : σ[i]? = some (some v)) (r : rp x v F') : EV (tVar i) σ F H (some x) := ev_var h (Flat.any r)
theorem rd_retO {p : Addr} {j : Nat} (hj : σ[j]? = some (some (.ref p))) (c : D.rt (.ref p) H) : tRet (tVar j) D σ H := ⟨.ref p, hj, c⟩
theorem rd_guard {c : TT} {t1 : TS} {m : Option Bool} {A B : Option R} (hF : Same F H) (ev : EVT c σ F H m) (hm : (m.bind fun b => if b then A else B) = some r)
    (ct : ∀ F1 H1, m = some true → A = some r → Lat F H F1 H1 → t1 { D with nx := u D } σ H1) (cf : ∀ F1 H1, m = some false → B = some r → Lat F H F1 H1 → u D σ H1) : tSeq (tIfS c t1 tNext) u D σ H :=
  rd_if (D := { D with nx := u D }) hF ev hm ct cf
end

/-! ### the promise of a def -/
class RepB (α : Type) extends RepA α where
  n : Nat
  len : ∀ {x : α} {vs : List V} {F : Hp}, ra x vs F → vs.length = n
instance : RepB Unit := ⟨0, fun h => by
  have e : _ = [] := h
  rw [e]
  rfl⟩
instance {α β : Type} [Rep α] [RepB β] : RepB (α × β) := ⟨RepB.n β + 1, fun h => by
  obtain ⟨v, ws, e, h, k⟩ := h
  rw [e, List.length_cons, RepB.len k]⟩
section
variable {δ α β : Type} [RepB δ] [Rep α] [Rep β]
/-- a def that hands back m of its arguments -/
def spO (m : δ → Option β) : Sp := fun vs H Q _ => ∃ (F : Hp) (x : δ) (y : β), Same F H ∧ ra x vs F ∧ m x = some y ∧ ∀ v F' H', Lat F H F' H' → rp y v F' → Q v H'
/-- a def that hands back a new list -/
def spN (m : δ → Option (List β)) : Sp := fun vs H Q _ => ∃ (F : Hp) (x : δ) (y : List β), Same F H ∧ ra x vs F ∧ m x = some y ∧ ∀ p vs F' H', Lat F H F' H' → H p = none → F' p = none → H' p = some (.lst vs) → rpL y vs F' → Q (.ref p) H'
theorem spO_len {m : δ → Option β} {n : Nat} (hn : RepB.n δ = n) : ∀ vs H Q E, spO m vs H Q E → vs.length = n := fun vs H Q E ⟨F, x, y, _, h, _⟩ => (RepB.len h).trans hn
theorem spN_len {m : δ → Option (List β)} {n : Nat} (hn : RepB.n δ = n) : ∀ vs H Q E, spN m vs H Q E → vs.length = n := fun vs H Q E ⟨F, x, y, _, h, _⟩ => (RepB.len h).trans hn
variable {σ : L2.St} {F H : Hp} {ta : TA} {ma : Option δ} {E : XK}
theorem ev_call {m : δ → Option β} (ha : EVA ta σ F H ma) : EV (tCall (spO m) [] E ta) σ F H (ma.bind fun x => m x) := fun F1 H1 l y e Q q => by
  obtain ⟨x, ex, e⟩ := Option.bind_eq_some_iff.mp e
  refine ha F1 H1 l x ex _ fun vs F2 H2 l2 r => ?_
  rw [List.append_nil]
  exact ⟨F2, x, y, l2.fh, r, e, fun v F3 H3 l3 r3 => q v F3 H3 (l2.trans l3) r3⟩
theorem evn_call {m : δ → Option (List β)} (ha : EVA ta σ F H ma) : EVN (tCall (spN m) [] E ta) σ F H (ma.bind fun x => m x) := fun F1 H1 l y e Q q => by
  obtain ⟨x, ex, e⟩ := Option.bind_eq_some_iff.mp e
  refine ha F1 H1 l x ex _ fun vs F2 H2 l2 r => ?_
  rw [List.append_nil]
  exact ⟨F2, x, y, l2.fh, r, e, fun p vs F3 H3 l3 h1 h2 h3 r3 => q p vs F3 H3 (l2.trans l3) (l2.h.free h1) h2 h3 r3⟩

/-! ### calls of built-ins -/
theorem ev_len {t : TE} {K : PySem.W.Frag} {m : Option (List α)} (h : EV t σ F H m) : EV (tCB (fun xs H Q => ∃ p ys, xs = [.ref p] ∧ (SqL K H p ys ∨ SqT K H p ys) ∧ Q (.int ys.length) H) (tCons t tNil)) σ F H (m.bind fun xs => some (xs.length : Int)) := fun F1 H1 l y e Q q => by
  obtain ⟨x, ex, e⟩ := Option.bind_eq_some_iff.mp e
  cases e
  refine h F1 H1 l x ex _ fun v F2 H2 l2 ⟨a, vs, e1, e2, r⟩ => ⟨a, vs, by rw [e1], .inl (sqL (l2.fh _ _ e2)), q _ F2 H2 l2 ?_⟩
  rw [r.length]
  rfl
theorem ev_lenS {t : TE} {K : PySem.W.Frag} {m : Option (Scr K)} (h : EV t σ F H m) : EV (tCB (fun xs H Q => ∃ p ys, xs = [.ref p] ∧ (SqL K H p ys ∨ SqT K H p ys) ∧ Q (.int ys.length) H) (tCons t tNil)) σ F H (m.bind fun xs => some (xs.l.length : Int)) := fun F1 H1 l y e Q q => by
  obtain ⟨x, ex, e⟩ := Option.bind_eq_some_iff.mp e
  cases e
  refine h F1 H1 l x ex _ fun v F2 H2 l2 ⟨a, e1, e2⟩ => ⟨a, _, by rw [e1], .inl (same_l l2.fh e2), q _ F2 H2 l2 ?_⟩
  rw [List.length_map]
  rfl
theorem ev_len2 {t : TE} {K : PySem.W.Frag} {m : Option (α × β)} (h : EV t σ F H m) : EV (tCB (fun xs H Q => ∃ p ys, xs = [.ref p] ∧ (SqL K H p ys ∨ SqT K H p ys) ∧ Q (.int ys.length) H) (tCons t tNil)) σ F H (m.bind fun _ => some (2 : Int)) := fun F1 H1 l y e Q q => by
  obtain ⟨x, ex, e⟩ := Option.bind_eq_some_iff.mp e
  cases e
  exact h F1 H1 l x ex _ fun v F2 H2 l2 ⟨a, v1, v2, e1, e2, r⟩ => ⟨a, [v1, v2], by rw [e1], .inr (sqT (l2.fh _ _ e2)), q _ F2 H2 l2 rfl⟩
theorem evn_list {t : TE} {K : PySem.W.Frag} {m : Option (List α)} (h : EV t σ F H m) : EVN (tCB (fun xs H Q => ∃ p ys, xs = [.ref p] ∧ (SqL K H p ys ∨ SqT K H p ys) ∧ ∀ l, H l = none → Q (.ref l) (upd H l (.lst ys))) (tCons t tNil)) σ F H m := fun F1 H1 l y e Q q =>
  h F1 H1 l y e _ fun v F2 H2 l2 ⟨a, vs, e1, e2, r⟩ => ⟨a, vs, by rw [e1], .inl (sqL (l2.fh _ _ e2)), fun p hp => q p vs F2 _ (l2.trans (.made l2.fh hp)) (l2.h.free hp) (l2.fh.free hp) upd_same r⟩
theorem ev_max2 {ta tb : TE} {ma mb : Option Int} (ha : EV ta σ F H ma) (hb : EV tb σ F H mb) : EV (tCB (fun xs H Q => ∃ i j, xs = [.int i, .int j] ∧ Q (.int (if j > i then j else i)) H) (tCons ta (tCons tb tNil))) σ F H (ma.bind fun i => mb.bind fun j => some (if j > i then j else i)) := fun F1 H1 l y e Q q => by
  obtain ⟨x, ex, e⟩ := Option.bind_eq_some_iff.mp e
  obtain ⟨x2, ex2, e⟩ := Option.bind_eq_some_iff.mp e
  cases e
  exact ha F1 H1 l x ex _ fun v F2 H2 l2 rv => hb F2 H2 (l.trans l2) x2 ex2 _ fun w F3 H3 l3 r3 => ⟨x, x2, by rw [show v = V.int x from rv, show w = V.int x2 from r3], q _ F3 H3 (l2.trans l3) rfl⟩
theorem ev_min2 {ta tb : TE} {ma mb : Option Int} (ha : EV ta σ F H ma) (hb : EV tb σ F H mb) : EV (tCB (fun xs H Q => ∃ i j, xs = [.int i, .int j] ∧ Q (.int (if j < i then j else i)) H) (tCons ta (tCons tb tNil))) σ F H (ma.bind fun i => mb.bind fun j => some (if j < i then j else i)) := fun F1 H1 l y e Q q => by
  obtain ⟨x, ex, e⟩ := Option.bind_eq_some_iff.mp e
  obtain ⟨x2, ex2, e⟩ := Option.bind_eq_some_iff.mp e
  cases e
  exact ha F1 H1 l x ex _ fun v F2 H2 l2 rv => hb F2 H2 (l.trans l2) x2 ex2 _ fun w F3 H3 l3 r3 => ⟨x, x2, by rw [show v = V.int x from rv, show w = V.int x2 from r3], q _ F3 H3 (l2.trans l3) rfl⟩
theorem ev_abs {t : TE} {m : Option Int} (h : EV t σ F H m) : EV (tCB (fun xs H Q => ∃ i, xs = [.int i] ∧ Q (.int (if i < 0 then -i else i)) H) (tCons t tNil)) σ F H (m.bind fun i => some (if i < 0 then -i else i)) := fun F1 H1 l y e Q q => by
  obtain ⟨x, ex, e⟩ := Option.bind_eq_some_iff.mp e
  cases e
  exact h F1 H1 l x ex _ fun v F2 H2 l2 r => ⟨x, by rw [show v = V.int x from r], q _ F2 H2 l2 rfl⟩
theorem ev_intB {t : TE} {m : Option Bool} (h : EV t σ F H m) : EV (tCB (fun xs H Q => (∃ i, xs = [.int i] ∧ Q (.int i) H) ∨ ∃ k, xs = [.bl k] ∧ Q (.int (if k then 1 else 0)) H) (tCons t tNil)) σ F H (m.bind fun k => some (if k then (1 : Int) else 0)) := fun F1 H1 l y e Q q => by
  obtain ⟨x, ex, e⟩ := Option.bind_eq_some_iff.mp e
  cases e
  exact h F1 H1 l x ex _ fun v F2 H2 l2 r => .inr ⟨x, by rw [show v = V.bl x from r], q _ F2 H2 l2 rfl⟩

/-! ### lists -/
theorem evn_cut {t : TE} {K : PySem.W.Frag} {m : Option (List α)} {tl th : TO} {lo hi : Option (Option Int)} (h : EV t σ F H m)
    (hl : ∀ F1 H1, Lat F H F1 H1 → ∀ i, lo = some i → ∀ Q : Option Int → Hp → Prop, (∀ F2 H2, Lat F1 H1 F2 H2 → Q i H2) → tl σ H1 Q)
    (hh : ∀ F1 H1, Lat F H F1 H1 → ∀ i, hi = some i → ∀ Q : Option Int → Hp → Prop, (∀ F2 H2, Lat F1 H1 F2 H2 → Q i H2) → th σ H1 Q) :
    EVN (tSl (rSlL K) t tl th) σ F H (m.bind fun xs => lo.bind fun i => hi.bind fun j => some (cutZ xs i j)) := fun F1 H1 l y e Q q => by
  obtain ⟨x, ex, e⟩ := Option.bind_eq_some_iff.mp e
  obtain ⟨i, ei, e⟩ := Option.bind_eq_some_iff.mp e
  obtain ⟨j, ej, e⟩ := Option.bind_eq_some_iff.mp e
  cases e
  refine h F1 H1 l x ex _ fun v F2 H2 l2 ⟨a, vs, e1, e2, r⟩ => hl F2 H2 (l.trans l2) i ei _ fun F3 H3 l3 => hh F3 H3 ((l.trans l2).trans l3) j ej _ fun F4 H4 l4 => ?_
  have L := (l2.trans l3).trans l4
  refine ⟨a, vs, e1, sqL (l4.h _ _ (l3.h _ _ (l2.fh _ _ e2))), fun p hp => q p _ F4 _ (L.trans (.made l4.fh hp)) (L.h.free hp) (l4.fh.free hp) upd_same ?_⟩
  have hln := r.length
  unfold cutZ cutV
  rw [hln]
  exact rpL.take _ (rpL.drop _ (rpL.mono (l3.f.trans l4.f) r))
theorem po_no : ∀ F1 H1, Lat F H F1 H1 → ∀ i, (some none : Option (Option Int)) = some i → ∀ Q : Option Int → Hp → Prop, (∀ F2 H2, Lat F1 H1 F2 H2 → Q i H2) → tNoPart σ H1 Q := fun F1 H1 l i e Q q => by
  cases e
  exact q F1 H1 (.refl l.fh)
theorem po_at {t : TE} {m : Option Int} (h : EV t σ F H m) : ∀ F1 H1, Lat F H F1 H1 → ∀ i, (m.bind fun x => some (some x)) = some i → ∀ Q : Option Int → Hp → Prop, (∀ F2 H2, Lat F1 H1 F2 H2 → Q i H2) → tPart t σ H1 Q := fun F1 H1 l i e Q q => by
  obtain ⟨x, ex, e⟩ := Option.bind_eq_some_iff.mp e
  cases e
  exact h F1 H1 l x ex _ fun v F2 H2 l2 r => ⟨x, r, q F2 H2 l2⟩
theorem evn_rev {t : TE} {K : PySem.W.Frag} {m : Option (List α)} (h : EV t σ F H m) : EVN (tRevL K t) σ F H (m.bind fun xs => some xs.reverse) := fun F1 H1 l y e Q q => by
  obtain ⟨x, ex, e⟩ := Option.bind_eq_some_iff.mp e
  cases e
  exact h F1 H1 l x ex _ fun v F2 H2 l2 ⟨a, vs, e1, e2, r⟩ => ⟨a, vs, e1, sqL (l2.fh _ _ e2), fun p hp => q p _ F2 _ (l2.trans (.made l2.fh hp)) (l2.h.free hp) (l2.fh.free hp) upd_same r.reverse⟩
theorem rvn_cat (xs ys : List α) : RVN rCat xs ys (catL xs ys) := fun F H v w s ⟨a, vs, e1, e2, r⟩ ⟨b, ws, e3, e4, r2⟩ zs e Q q => by
  unfold catL at e
  split at e
  · rename_i hl
    cases e
    refine ⟨a, b, vs, ws, e1, e3, s _ _ e2, s _ _ e4, sz_ok (by rw [r.length, r2.length]; exact hl), fun p hp => ?_⟩
    exact q p _ F _ (.made s hp) hp (s.free hp) upd_same (rpL.append r r2)
  · cases e
end
end Dw

set_option Elab.async false
set_option linter.all false
set_option maxRecDepth 100000
set_option maxHeartbeats 4000000
/-! The layer, third part: data compared, sorted, asked for their kind; defs as they stand. -/
namespace Dw
open PySem L2 Dv
open Rep (rp)
open RepA (ra)

/-! ### data -/
class Dat (α : Type) [Rep α] [DecidableEq α] where
  enc : α → PyData
  dep : Nat
  dp : ∀ {K : PySem.W.Frag} {x : α} {v : V} {F : Hp}, rp x v F → Dp K F v (enc x)
  lay : ∀ x : α, (enc x).canLay0 = true
  depth : ∀ x : α, (enc x).depth ≤ dep
  eqv : ∀ x y : α, PyData.eqv (enc x) (enc y) = decide (x = y)
instance : Dat Int := ⟨fun i => .int i, 0, fun h => by cases h; exact .int _, fun _ => by simp [PyData.canLay0], fun _ => by simp [PyData.depth], fun x y => by
  simp only [PyData.eqv]
  exact Bool.beq_eq_decide_eq _ _⟩
instance : Dat Bool := ⟨fun i => .bool i, 0, fun h => by cases h; exact .bl _, fun _ => by simp [PyData.canLay0], fun _ => by simp [PyData.depth], fun x y => by
  simp only [PyData.eqv]
  exact Bool.beq_eq_decide_eq _ _⟩
section
variable {α β : Type} [Rep α] [DecidableEq α] [Dat α] [Rep β] [DecidableEq β] [Dat β]
theorem dpAll {K : PySem.W.Frag} {F : Hp} : ∀ {xs : List α} {vs : List V}, rpL xs vs F → DpAll K F vs (xs.map Dat.enc)
  | [], [], _ => .nil
  | _ :: _, _ :: _, h => .cons (Dat.dp h.1) (dpAll h.2)
  | [], _ :: _, h => h.elim
  | _ :: _, [], h => h.elim
theorem layAll : ∀ xs : List α, PyData.canLayAll0 (xs.map Dat.enc) = true
  | [] => by simp [PyData.canLayAll0]
  | x :: xs => by simp [PyData.canLayAll0, Dat.lay x, layAll xs]
theorem depAll : ∀ xs : List α, PyData.depthAll (xs.map Dat.enc) ≤ Dat.dep α
  | [] => by simp [PyData.depthAll]
  | x :: xs => by
    have h1 := Dat.depth x
    have h2 := depAll xs
    simp only [List.map_cons, PyData.depthAll]
    omega
theorem eqvAll : ∀ xs ys : List α, PyData.eqvAll (xs.map Dat.enc) (ys.map Dat.enc) = decide (xs = ys)
  | [], [] => by simp [PyData.eqvAll]
  | [], _ :: _ => by simp [PyData.eqvAll]
  | _ :: _, [] => by simp [PyData.eqvAll]
  | x :: xs, y :: ys => by
    simp only [List.map_cons, PyData.eqvAll, Dat.eqv x y, eqvAll xs ys]
    simp
instance : Dat (List α) := ⟨fun xs => .list (xs.map Dat.enc), Dat.dep α + 1, fun ⟨a, vs, e, h, r⟩ => by rw [e]; exact .lst (sqL h) (dpAll r), fun xs => by
  simp only [PyData.canLay0]
  exact layAll xs, fun xs => by
  simp only [PyData.depth]
  exact Nat.succ_le_succ (depAll xs), fun xs ys => by
  simp only [PyData.eqv]
  exact eqvAll xs ys⟩
instance : Dat (α × β) := ⟨fun x => .tuple [Dat.enc x.1, Dat.enc x.2], max (Dat.dep α) (Dat.dep β) + 1, fun ⟨a, v, w, e, h, r1, r2⟩ => by rw [e]; exact .tup (sqT h) (.cons (Dat.dp r1) (.cons (Dat.dp r2) .nil)), fun x => by
  simp [PyData.canLay0, PyData.canLayAll0, Dat.lay], fun x => by
  have h1 := Dat.depth x.1
  have h2 := Dat.depth x.2
  simp only [PyData.depth, PyData.depthAll]
  omega, fun x y => by
  simp only [PyData.eqv, PyData.eqvAll, Dat.eqv]
  obtain ⟨a, b⟩ := x
  obtain ⟨c, d⟩ := y
  simp⟩
instance : Dat (Duo α β) := ⟨fun x => .list [Dat.enc x.a, Dat.enc x.b], max (Dat.dep α) (Dat.dep β) + 1, fun ⟨a, v, w, e, h, r1, r2⟩ => by rw [e]; exact .lst (sqL h) (.cons (Dat.dp r1) (.cons (Dat.dp r2) .nil)), fun x => by
  simp [PyData.canLay0, PyData.canLayAll0, Dat.lay], fun x => by
  have h1 := Dat.depth x.a
  have h2 := Dat.depth x.b
  simp only [PyData.depth, PyData.depthAll]
  omega, fun x y => by
  simp only [PyData.eqv, PyData.eqvAll, Dat.eqv]
  obtain ⟨a, b⟩ := x
  obtain ⟨c, d⟩ := y
  simp⟩
theorem shaped (x : α) (h : Dat.dep α ≤ 64 := by decide) : SeqAt.shaped (Dat.enc x) = true := by
  have h1 := Dat.depth x
  show ((Dat.enc x).canLay0 && decide ((Dat.enc x).depth ≤ 64)) = true
  rw [Bool.and_eq_true]
  exact ⟨Dat.lay x, decide_eq_true (by omega)⟩
theorem dp_up {K : PySem.W.Frag} {F H : Hp} (s : Same F H) {x : α} {v : V} (h : rp x v F) : Dp K H v (Dat.enc x) := Dat.dp (Rep.mono s h)
theorem rv_eqD {K : PySem.W.Frag} (x y : α) (h : Dat.dep α ≤ 64 := by decide) : RV (rEqD K) x y (some (decide (x = y))) := fun F H v w s rv rw' z e Q q => by
  cases e
  refine ⟨Dat.enc x, Dat.enc y, dp_up s rv, dp_up s rw', shaped x h, shaped y h, q _ F H (.refl s) ?_⟩
  rw [Dat.eqv]
  rfl
theorem rv_neD {K : PySem.W.Frag} (x y : α) (h : Dat.dep α ≤ 64 := by decide) : RV (rNeD K) x y (some (!decide (x = y))) := fun F H v w s rv rw' z e Q q => by
  cases e
  refine ⟨Dat.enc x, Dat.enc y, dp_up s rv, dp_up s rw', shaped x h, shaped y h, q _ F H (.refl s) ?_⟩
  rw [Dat.eqv]
  rfl
theorem any_enc (x : α) : ∀ xs : List α, ((xs.map Dat.enc).any fun z => PyData.eqv z (Dat.enc x)) = decide (x ∈ xs)
  | [] => by simp
  | y :: ys => by
    rw [List.map_cons, List.any_cons, any_enc x ys, Dat.eqv]
    by_cases h : y = x
    · simp [h]
    · have h' : ¬ x = y := fun e => h e.symm
      simp [h, h']
theorem rv_inD {K : PySem.W.Frag} (x : α) (xs : List α) (h : Dat.dep α + 1 ≤ 64 := by decide) : RV (rInD K) x xs (some (memL x xs)) := fun F H v w s rv rw' z e Q q => by
  cases e
  refine ⟨Dat.enc x, xs.map Dat.enc, dp_up s rv, dp_up (α := List α) s rw', shaped x (by omega), shaped (α := List α) xs h, q _ F H (.refl s) ?_⟩
  rw [any_enc]
  rfl
theorem rv_notInD {K : PySem.W.Frag} (x : α) (xs : List α) (h : Dat.dep α + 1 ≤ 64 := by decide) : RV (rNotInD K) x xs (some (!memL x xs)) := fun F H v w s rv rw' z e Q q => by
  cases e
  refine ⟨Dat.enc x, xs.map Dat.enc, dp_up s rv, dp_up (α := List α) s rw', shaped x (by omega), shaped (α := List α) xs h, q _ F H (.refl s) ?_⟩
  rw [any_enc]
  rfl
end
theorem flat_ints (xs : List Int) : (xs.map V.int).all flatV = true := by
  induction xs with
  | nil => rfl
  | cons x xs ih => exact ih
theorem inV_ints (x : Int) : ∀ xs : List Int, inV (.int x) (xs.map V.int) = decide (x ∈ xs)
  | [] => by simp [inV]
  | y :: ys => by
    have ih := inV_ints x ys
    unfold inV at ih ⊢
    rw [List.map_cons, List.any_cons, ih]
    show ((y == x) || _) = _
    by_cases h : y = x
    · simp [h]
    · have h' : ¬ x = y := fun e => h e.symm
      simp [h, h']
theorem rv_inI {K : PySem.W.Frag} (x : Int) (xs : List Int) : RV (rIn K false) x xs (some (memL x xs)) := fun F H v w s rv ⟨a, vs, e1, e2, r⟩ z e Q q => by
  cases e
  cases rv
  rw [rpL_ints r] at e2
  refine ⟨a, _, e1, .inl (sqL (s _ _ e2)), rfl, flat_ints xs, q _ F H (.refl s) ?_⟩
  rw [if_neg Bool.false_ne_true, inV_ints]
  rfl
theorem rv_notInI {K : PySem.W.Frag} (x : Int) (xs : List Int) : RV (rIn K true) x xs (some (!memL x xs)) := fun F H v w s rv ⟨a, vs, e1, e2, r⟩ z e Q q => by
  cases e
  cases rv
  rw [rpL_ints r] at e2
  refine ⟨a, _, e1, .inl (sqL (s _ _ e2)), rfl, flat_ints xs, q _ F H (.refl s) ?_⟩
  rw [if_pos rfl, inV_ints]
  rfl

/-! ### order of pairs, sorting -/
theorem rv_leT {K : PySem.W.Frag} (x y : Int × Int) : RV (rLeT K) x y (some (leP x y)) := fun F H v w s ⟨a, v1, v2, e1, e2, r1, r2⟩ ⟨b, w1, w2, e3, e4, r3, r4⟩ z e Q q => by
  cases e
  cases r1
  cases r2
  cases r3
  cases r4
  refine ⟨a, b, [x.1, x.2], [y.1, y.2], e1, e3, sqT (s _ _ e2), sqT (s _ _ e4), q _ F H (.refl s) ?_⟩
  show V.bl _ = V.bl _
  congr 1
  show (if decide (x.1 = y.1) = true then (if decide (x.2 = y.2) = true then decide (2 ≤ 2) else decide (x.2 ≤ y.2)) else decide (x.1 ≤ y.1)) = leP x y
  unfold leP
  by_cases h1 : x.1 = y.1
  · by_cases h2 : x.2 = y.2
    · simp [h1, h2]
    · simp [h1, h2]
  · simp [h1]
def kOf (F : Hp) : V → Int × Int
  | .ref t => match F t with
    | some (.tup [.int a, .int b]) => (a, b)
    | _ => (0, 0)
  | _ => (0, 0)
theorem kOf_rp {F : Hp} {x : Int × Int} {v : V} (h : rp x v F) : kOf F v = x ∧ ∃ t, v = .ref t ∧ F t = some (.tup [.int x.1, .int x.2]) := by
  obtain ⟨a, v1, v2, e1, e2, r1, r2⟩ := h
  cases r1
  cases r2
  subst e1
  refine ⟨?_, a, rfl, e2⟩
  show (match F a with
    | some (.tup [.int a, .int b]) => (a, b)
    | _ => ((0, 0) : Int × Int)) = x
  rw [e2]
theorem rpL_kOf {F : Hp} : ∀ {xs : List (Int × Int)} {vs : List V}, rpL xs vs F → xs = vs.map (kOf F) ∧ ∀ v ∈ vs, ∃ t, v = .ref t ∧ F t = some (.tup [.int (kOf F v).1, .int (kOf F v).2])
  | [], [], _ => ⟨rfl, fun _ h => by simp at h⟩
  | x :: xs, v :: vs, h => by
    obtain ⟨e, h2⟩ := rpL_kOf h.2
    obtain ⟨e1, t, e2, e3⟩ := kOf_rp h.1
    refine ⟨by rw [List.map_cons, e1, ← e], fun w hw => ?_⟩
    rcases List.mem_cons.mp hw with rfl | hw
    · rw [e1]
      exact ⟨t, e2, e3⟩
    · exact h2 w hw
  | [], _ :: _, h => h.elim
  | _ :: _, [], h => h.elim
theorem rpL_of_kOf {F : Hp} : ∀ {vs : List V}, (∀ v ∈ vs, ∃ t, v = .ref t ∧ F t = some (.tup [.int (kOf F v).1, .int (kOf F v).2])) → rpL (vs.map (kOf F)) vs F
  | [], _ => trivial
  | v :: vs, h => by
    obtain ⟨t, e1, e2⟩ := h v List.mem_cons_self
    exact ⟨⟨t, _, _, e1, e2, rfl, rfl⟩, rpL_of_kOf fun w hw => h w (List.mem_cons_of_mem _ hw)⟩
section
variable {t : TE} {σ : L2.St} {F H : Hp} {K : PySem.W.Frag}
theorem evn_sortP {m : Option (List (Int × Int))} (h : EV t σ F H m) : EVN (tCB (rSortedPO K) (tCons t tNil)) σ F H (m.bind fun xs => some (srt leP xs)) := fun F1 H1 l y e Q q => by
  obtain ⟨xs, ex, e⟩ := Option.bind_eq_some_iff.mp e
  cases e
  refine h F1 H1 l xs ex _ fun v F2 H2 l2 ⟨a, vs, e1, e2, r⟩ => ?_
  obtain ⟨k1, k2⟩ := rpL_kOf r
  refine ⟨a, vs, kOf F2, by rw [e1], sqL (l2.fh _ _ e2), fun x hx => ?_, fun ys p hs hst hp => ?_⟩
  · obtain ⟨t, e3, e4⟩ := k2 x hx
    exact ⟨t, e3, l2.fh _ _ e4⟩
  · have e5 : ys.map (kOf F2) = srt leP xs := by
      refine srt_uniq ordP ?_ ?_
      · rw [k1]
        exact hst.perm.map _
      · rw [List.pairwise_map]
        refine List.Pairwise.imp (fun {x y} (hxy : SrtO.lexB (kOf F2 y) (kOf F2 x) = false) => ?_) hs
        have := SrtO.lexB_no.mp hxy
        unfold leP
        split <;> simp only [decide_eq_true_eq] <;> omega
    refine q p ys F2 _ (l2.trans (.made l2.fh hp)) (l2.h.free hp) (l2.fh.free hp) upd_same ?_
    rw [← e5]
    exact rpL_of_kOf fun v hv => k2 v (hst.perm.mem_iff.mp hv)
theorem evn_sortI {m : Option (List Int)} (h : EV t σ F H m) : EVN (tCB (rSorted K) (tCons t tNil)) σ F H (m.bind fun xs => srtI xs) := fun F1 H1 l y e Q q => by
  obtain ⟨xs, ex, e⟩ := Option.bind_eq_some_iff.mp e
  unfold srtI at e
  split at e
  · rename_i hl
    cases e
    refine h F1 H1 l xs ex _ fun v F2 H2 l2 ⟨a, vs, e1, e2, r⟩ => ?_
    rw [rpL_ints r] at e2
    refine ⟨a, xs, by rw [e1], sqL (l2.fh _ _ e2), hl, fun ns' p hp hs hn => ?_⟩
    have e5 : ns' = srt leI xs := srt_uniq ordI hp (List.Pairwise.imp (fun {a b} h => by unfold leI; exact decide_eq_true h) hs)
    subst e5
    exact q p _ F2 _ (l2.trans (.made l2.fh hn)) (l2.h.free hn) (l2.fh.free hn) upd_same (rpL_ints' _)
  · cases e
end

/-! ### isinstance -/
class Typ (α : Type) [Rep α] where
  name : String
  ty : ∀ {K : PySem.W.Frag} {x : α} {v : V} {F : Hp}, rp x v F → TyX K F v (.type name)
instance : Typ Int := ⟨"int", fun h => by cases h; exact .base (.int _)⟩
instance : Typ Bool := ⟨"bool", fun h => by cases h; exact .base (.bl _)⟩
instance : Typ Str := ⟨"str", fun h => by cases h; exact .base (.str _)⟩
instance {α : Type} [Rep α] : Typ (List α) := ⟨"list", fun ⟨a, vs, e, h, r⟩ => by rw [e]; exact .base (.lst h)⟩
instance {α β : Type} [Rep α] [Rep β] : Typ (α × β) := ⟨"tuple", fun ⟨a, v, w, e, h, r⟩ => by rw [e]; exact .base (.tup h)⟩
section
variable {α : Type} [Rep α] [Typ α] {t : TE} {σ : L2.St} {F H : Hp} {K : PySem.W.Frag}
theorem ev_isi {m : Option α} (h : EV t σ F H m) {n : String} (b : Bool) (hk : kitB (Typ.name α) n = some b := by decide +kernel) : EV (tCB (rIsi K) (tCons t (tCons (tC (.ty n)) tNil))) σ F H (m.bind fun _ => some b) := fun F1 H1 l y e Q q => by
  obtain ⟨x, ex, e⟩ := Option.bind_eq_some_iff.mp e
  cases e
  exact h F1 H1 l x ex _ fun v F2 H2 l2 r => ⟨v, .ty n, _, _, b, rfl, .ty n, Typ.ty (Rep.mono l2.fh r), kit_ty hk, q _ F2 H2 l2 rfl⟩
end

/-! ### defs as they stand -/
structure Fn (P : Program) (w : World) (K : PySem.W.Frag) (mg : Str → Option Value) (base : Heap) (CX : CXT) (k : Nat) (x : Str) (ps : List Str) (sp : Sp) : Prop where
  ex : ∃ f fd, mg x = some (.ref f) ∧ PySem.W.keepIn K (.ref f) = true ∧ Binds K fd ps [] ∧ FnOk P w K mg base CX k f fd ps sp
theorem pe_fn {X : Cx} {k : Nat} {x : Str} {ps : List Str} {sp : Sp} {p pos : Pos} {e : Expr} {es : List Expr} {t : TA} (F : Fn X.prog X.w X.K X.mg X.base CX0 k x ps sp) (hr : Room k X.A) (hg : Gl X x)
    (ha : PA X (e :: es) t) (hdb : (x == ("__debug__" : Str)) = false := by decide) (he : starEach (e :: es) X.env = (false, eval e X.env) :: starEach es X.env := by rfl) (hpl : (backTo pos (starEach es X.env)).any (·.1) = false := by rfl) :
    PE X (.Call (.Name x p) (e :: es) [] pos) (tCall sp [] E0 t) := by
  obtain ⟨f, fd, h1, h2, h3, h4⟩ := F.ex
  exact pe_call h4 hr hg h1 h2 h3 .nil pass0 ha hdb he hpl
theorem hu64 {A : Around} {k : Nat} (hr : Room k A) : A.units + 64 < cLine := by have := hr.un; omega
theorem hu65 {A : Around} {k : Nat} (hr : Room k A) : A.units + 65 < cLine := by have := hr.un; omega
theorem hu0 {A : Around} {k : Nat} (hr : Room k A) : A.units < cLine := by have := hr.un; omega
end Dw

set_option Elab.async false
set_option linter.all false
set_option maxRecDepth 100000
set_option maxHeartbeats 4000000
/-! The layer, fourth part: chains of three, ranges as lists, and what else is asked for now and then. -/
namespace L2
open PySem PySem.Spec PyProof.Rows
/-- a op1 b op2 c op3 d -/
def tChain3 (r r' r'' : R2) (ta tb tc td : TE) : TE := fun σ H Q => ta σ H fun x H1 => tb σ H1 fun y H2 => r x y H2 fun z H3 => ∃ k, z = .bl k ∧
  (if k = true then tc σ H3 fun w' H4 => r' y w' H4 fun z' H5 => ∃ k', z' = .bl k' ∧ (if k' = true then td σ H5 fun u' H6 => r'' w' u' H6 Q else Q (.bl false) H5) else Q (.bl false) H3)
section
variable {X : Cx} {a b c d : Expr} {ta tb tc td : TE} {pos : Pos}
theorem pt_chain3 {op op' op'' : CmpOp} {r r' r'' : R2} (ho : OpR X (compareOp op) r) (ho' : OpR X (compareOp op') r') (ho'' : OpR X (compareOp op'') r'') (ha : PE X a ta) (hb : PE X b tb) (hc : PE X c tc) (hd : PE X d td)
    (hm : lastMarks [op, op', op''] [b, c, d] = false := by with_unfolding_all rfl) : PT X (.Compare a [op, op', op''] [b, c, d] pos) (tTest (tChain3 r r' r'' ta tb tc td)) := by
  refine ⟨fun pins s σ H Q I h => ?_⟩
  refine isTrue_chain (thn (ha.run pins s σ H _ I h) fun v s1 ⟨x, H1, I1, r1, q1⟩ => test_link (thn (hb.run pins s1 σ H1 _ I1 q1) fun u s2 ⟨y, H2, I2, r2, q2⟩ =>
    thn (ho pins s2 σ H2 x y v u _ I2 r1 r2 q2) fun e s3 ⟨z, H3, I3, r3, k, ez, q3⟩ => ?_)) hm
  subst ez
  cases r3
  refine wpAny_truthy_bool ?_
  cases k with
  | false =>
    obtain ⟨k', e', q'⟩ := q3
    cases e'
    exact ite_ff ⟨H3, I3, q'⟩
  | true =>
    refine ite_tt (test_link (thn (hc.run pins s3 σ H3 _ I3 q3) fun w' s4 ⟨z', H4, I4, r4, q4⟩ => thn (ho' pins s4 σ H4 y z' u w' _ I4 r2 r4 q4) fun d' s5 ⟨z2, H5, I5, r5, k2, e2, q5⟩ => ?_))
    subst e2
    cases r5
    refine wpAny_truthy_bool ?_
    cases k2 with
    | false =>
      obtain ⟨k', e', q'⟩ := q5
      cases e'
      exact ite_ff ⟨H5, I5, q'⟩
    | true =>
      refine ite_tt (test_last (thn (hd.run pins s5 σ H5 _ I5 q5) fun u' s6 ⟨z6, H6, I6, r6, q6⟩ => thn (ho'' pins s6 σ H6 z' z6 w' u' _ I6 r4 r6 q6) fun d' s7 ⟨z7, H7, I7, r7, k7, e7, q7⟩ => ?_))
      subst e7
      cases r7
      exact wpAny_truthy_bool ⟨H7, I7, q7⟩
end
end L2
namespace Dw
open PySem L2 Dv
open Rep (rp)
open RepA (ra)
section
variable {α β γ δ : Type} [Rep α] [Rep β] [Rep γ] [Rep δ] {t : TE} {σ : L2.St} {F H : Hp} {K : PySem.W.Frag}
theorem ev_chain3 {ta tb tc td : TE} {r r' r'' : R2} {ma : Option α} {mb : Option β} {mc : Option γ} {md : Option δ} {k : α → β → Option Bool} {k' : β → γ → Option Bool} {k'' : γ → δ → Option Bool} (ha : EV ta σ F H ma) (hb : EV tb σ F H mb) (hc : EV tc σ F H mc) (hd : EV td σ F H md)
    (hr : ∀ x y, RV r x y (k x y)) (hr' : ∀ x y, RV r' x y (k' x y)) (hr'' : ∀ x y, RV r'' x y (k'' x y)) :
    EV (tChain3 r r' r'' ta tb tc td) σ F H (ma.bind fun x => mb.bind fun y => (k x y).bind fun b => if b then mc.bind fun z => (k' y z).bind fun b => if b then md.bind fun u => k'' z u else some false else some false) := fun F1 H1 l z e Q q => by
  obtain ⟨x, ex, e⟩ := Option.bind_eq_some_iff.mp e
  obtain ⟨y, ey, e⟩ := Option.bind_eq_some_iff.mp e
  obtain ⟨b, eb, e⟩ := Option.bind_eq_some_iff.mp e
  refine ha F1 H1 l x ex _ fun v F2 H2 l2 rv => hb F2 H2 (l.trans l2) y ey _ fun w F3 H3 l3 rw' => ?_
  refine hr x y F3 H3 v w l3.fh (up rv l3) rw' b eb _ fun u F4 H4 l4 ru => ⟨b, ru, ?_⟩
  cases b with
  | true =>
    refine iteT ?_
    obtain ⟨z1, ez1, e⟩ := Option.bind_eq_some_iff.mp e
    obtain ⟨b2, eb2, e⟩ := Option.bind_eq_some_iff.mp e
    refine hc F4 H4 (((l.trans l2).trans l3).trans l4) z1 ez1 _ fun w2 F5 H5 l5 r5 => ?_
    refine hr' y z1 F5 H5 w w2 l5.fh (up (up rw' l4) l5) r5 b2 eb2 _ fun u6 F6 H6 l6 r6 => ⟨b2, r6, ?_⟩
    cases b2 with
    | true =>
      refine iteT ?_
      obtain ⟨z3, ez3, e⟩ := Option.bind_eq_some_iff.mp e
      refine hd F6 H6 (((((l.trans l2).trans l3).trans l4).trans l5).trans l6) z3 ez3 _ fun w7 F7 H7 l7 r7 => ?_
      exact hr'' z1 z3 F7 H7 w2 w7 l7.fh (up (up r5 l6) l7) r7 z e Q fun u8 F8 H8 l8 r8 => q u8 F8 H8 ((((((l2.trans l3).trans l4).trans l5).trans l6).trans l7).trans l8) r8
    | false =>
      have e' : false = z := Option.some.inj e
      subst e'
      exact iteF (q _ F6 H6 ((((l2.trans l3).trans l4).trans l5).trans l6) rfl)
  | false =>
    have e' : false = z := Option.some.inj e
    subst e'
    exact iteF (q _ F4 H4 ((l2.trans l3).trans l4) rfl)
theorem rv_isB (x y : Bool) : RV rIsB x y (some (decide (x = y))) := fun F H v w s rv rw' z e Q q => by
  cases e
  exact ⟨x, y, rv, rw', q _ F H (.refl s) rfl⟩
theorem rv_isnotB (x y : Bool) : RV rNotB x y (some (!decide (x = y))) := fun F H v w s rv rw' z e Q q => by
  cases e
  exact ⟨x, y, rv, rw', q _ F H (.refl s) rfl⟩
theorem evn_lrng {m : Option Int} (h : EV t σ F H m) : EVN (tLstRg (tRg1 t)) σ F H (m.bind fun n => lrng n) := fun F1 H1 l xs e Q q => by
  obtain ⟨n, en, e⟩ := Option.bind_eq_some_iff.mp e
  unfold lrng at e
  split at e
  · rename_i c
    cases e
    refine h F1 H1 l n en _ fun v F2 H2 l2 r => ⟨n, r, ⟨by omega, by omega, by omega, by omega, ?_⟩, fun p hp => ?_⟩
    · have : (2 : Nat) ^ 24 = 16777216 := by decide
      rw [this]
      omega
    · refine q p _ F2 _ (l2.trans (.made l2.fh hp)) (l2.h.free hp) (l2.fh.free hp) upd_same ?_
      unfold rgV
      have e1 : (n - 0).toNat = n.toNat := by rw [Int.sub_zero]
      rw [e1]
      have e2 : (List.range n.toNat).map (fun i => V.int (0 + ((i : Nat) : Int))) = ((List.range n.toNat).map fun i => ((i : Nat) : Int)).map V.int := by
        rw [List.map_map]
        refine List.map_congr_left fun i _ => ?_
        show V.int (0 + (i : Int)) = V.int (i : Int)
        rw [Int.zero_add]
      rw [e2]
      exact rpL_ints' _
  · cases e
/-- a part of the script -/
theorem evn_cutS {m : Option (Scr K)} {tl th : TO} {lo hi : Option (Option Int)} (h : EV t σ F H m)
    (hl : ∀ F1 H1, Lat F H F1 H1 → ∀ i, lo = some i → ∀ Q : Option Int → Hp → Prop, (∀ F2 H2, Lat F1 H1 F2 H2 → Q i H2) → tl σ H1 Q)
    (hh : ∀ F1 H1, Lat F H F1 H1 → ∀ i, hi = some i → ∀ Q : Option Int → Hp → Prop, (∀ F2 H2, Lat F1 H1 F2 H2 → Q i H2) → th σ H1 Q) :
    EVN (tSl (rSlL K) t tl th) σ F H (m.bind fun xs => lo.bind fun i => hi.bind fun j => some (cutZ xs.l i j)) := fun F1 H1 l y e Q q => by
  obtain ⟨x, ex, e⟩ := Option.bind_eq_some_iff.mp e
  obtain ⟨i, ei, e⟩ := Option.bind_eq_some_iff.mp e
  obtain ⟨j, ej, e⟩ := Option.bind_eq_some_iff.mp e
  cases e
  refine h F1 H1 l x ex _ fun v F2 H2 l2 ⟨a, e1, e2⟩ => hl F2 H2 (l.trans l2) i ei _ fun F3 H3 l3 => hh F3 H3 ((l.trans l2).trans l3) j ej _ fun F4 H4 l4 => ?_
  have L := (l2.trans l3).trans l4
  refine ⟨a, _, e1, same_l (l3.h.trans l4.h) (same_l l2.fh e2), fun p hp => q p _ F4 _ (L.trans (.made l4.fh hp)) (L.h.free hp) (l4.fh.free hp) upd_same ?_⟩
  unfold cutZ cutV
  rw [List.length_map]
  exact rpL.take _ (rpL.drop _ (rpL_ints' _))
theorem ev_powL {ta tb : TE} {x y n : Int} (ha : EV ta σ F H (some x)) (hb : EV tb σ F H (some y)) (hc : CPow x y) (hn : x ^ y.toNat = n) : EV (tOp (rI CPow fun i j => .int (i ^ j.toNat)) ta tb) σ F H (some n) := fun F1 H1 l z e Q q => by
  cases e
  refine ha F1 H1 l x rfl _ fun v F2 H2 l2 rv => hb F2 H2 (l.trans l2) y rfl _ fun w F3 H3 l3 rw' => ?_
  exact ⟨x, y, rv, rw', hc, q _ F3 H3 (l2.trans l3) (show V.int _ = V.int n by rw [hn])⟩
theorem rv_divW (x y : Int) : RV (rI CDivW fun i j => .int (i / j)) x y (divW x y) := rv_I x y fun z e => by
  unfold divW at e
  split at e
  · rename_i c
    cases e
    exact ⟨c, rfl⟩
  · cases e
end
end Dw
/-! ### rules whose reading names the written part K itself (for use within a comprehension) -/
namespace Dw
open PySem L2 Dv
section
variable {X : Cx} {K : PySem.W.Frag}
theorem ix_listK (hK : X.K = K) : IxR X (rIxL K) := hK ▸ ix_list
theorem ix_tupK (hK : X.K = K) : IxR X (rIxT K) := hK ▸ ix_tup
theorem op_in_seqK (hK : X.K = K) : OpR X (compareOp .In) (rIn K false) := hK ▸ op_in_seq
theorem op_notIn_seqK (hK : X.K = K) : OpR X (compareOp .NotIn) (rIn K true) := hK ▸ op_notIn_seq
theorem op_inDK (hK : X.K = K) (hu : X.A.units + 65 < cLine) : OpR X (compareOp .In) (rInD K) := hK ▸ op_inD hu
theorem op_notInDK (hK : X.K = K) (hu : X.A.units + 65 < cLine) : OpR X (compareOp .NotIn) (rNotInD K) := hK ▸ op_notInD hu
theorem op_eqDK (hK : X.K = K) (hu : X.A.units + 64 < cLine) : OpR X (compareOp .Eq) (rEqD K) := hK ▸ op_eqD hu
theorem op_neDK (hK : X.K = K) (hu : X.A.units + 64 < cLine) : OpR X (compareOp .NotEq) (rNeD K) := hK ▸ op_neD hu
theorem op_leTK (hK : X.K = K) (hu : X.A.units < cLine) : OpR X (compareOp .LtE) (rLeT K) := hK ▸ op_leT hu
theorem sl_listK (hK : X.K = K) : SlR X (rSlL K) := hK ▸ sl_list
theorem call_len_seqK (hK : X.K = K) : CallR X (.builtin "len") (fun xs H Q => ∃ p ys, xs = [.ref p] ∧ (SqL K H p ys ∨ SqT K H p ys) ∧ Q (.int ys.length) H) := hK ▸ call_len_seq
theorem call_list_ofK (hK : X.K = K) : CallR X (.type "list") (fun xs H Q => ∃ p ys, xs = [.ref p] ∧ (SqL K H p ys ∨ SqT K H p ys) ∧ ∀ l, H l = none → Q (.ref l) (upd H l (.lst ys))) := hK ▸ call_list_of
theorem cr_sortedPOK (hK : X.K = K) : CallR X (.builtin "sorted") (rSortedPO K) := hK ▸ cr_sortedPO
theorem cr_sortedK (hK : X.K = K) : CallR X (.builtin "sorted") (rSorted K) := hK ▸ cr_sorted
theorem call_isiK (hK : X.K = K) : CallR X (.builtin "isinstance") (rIsi K) := hK ▸ call_isi
theorem pi_listK {tg l : Expr} {tl : TE} (hK : X.K = K) (hl : PE X l tl) : PI X tg l (iList K tl) := hK ▸ pi_list hl
theorem pi_tupK {tg l : Expr} {tl : TE} (hK : X.K = K) (hl : PE X l tl) : PI X tg l (iTup K tl) := hK ▸ pi_tup hl
theorem mt_indexK (hK : X.K = K) : MtR X "list.index" (rIndex K) := hK ▸ mt_index
theorem pe_bmK {T name id : String} {r : V → List V → Hp → VK → Prop} {o : Expr} {to : TE} {e : Expr} {es : List Expr} {t : TA} {apos pos : Pos} (hK : X.K = K) (h : PE X (.Call (.Attribute o name apos) (e :: es) [] pos) (tBM X.K T r to t)) : PE X (.Call (.Attribute o name apos) (e :: es) [] pos) (tBM K T r to t) := hK ▸ h
theorem pg_tup2K {i j : Nat} {es : List Expr} {k : Nat} {pos : Pos} {t : TGs} {n : Nat} (hK : X.K = K) (h : PG X (.Tuple es k pos) (gTup X.K n t)) : PG X (.Tuple es k pos) (gTup K n t) := hK ▸ h
end
end Dw

set_option Elab.async false
set_option linter.all false
set_option maxRecDepth 100000
set_option maxHeartbeats 4000000
/-! The layer, fifth part: defs that refuse, and refusals caught. -/
namespace Dw
open PySem L2 Dv
open Rep (rp)
open RepA (ra)
section
variable {α β γ R : Type} [Rep α] [Rep β] [Rep γ] {cl : Er → Value} {W : WX} {t : TE} {σ : L2.St} {F H : Hp} {K : PySem.W.Frag}
/-- what an expression is worth that may refuse: cl tells the classes, W what is wished then -/
def EX (cl : Er → Value) (W : WX) (t : TE) (σ : L2.St) (F H : Hp) (m : Rs α) : Prop :=
  ∀ F1 H1, Lat F H F1 H1 → ∀ y, m = some y → ∀ Q : VK, (∀ x, y = .ok x → ∀ v F2 H2, Lat F1 H1 F2 H2 → rp x v F2 → Q v H2) →
    (∀ e, y = .error e → ∀ F2 H2, Lat F1 H1 F2 H2 → W (cl e) none σ H2) → t σ H1 Q
/-- the same of arguments -/
def EXA {δ : Type} [RepA δ] (cl : Er → Value) (W : WX) (t : TA) (σ : L2.St) (F H : Hp) (m : Rs δ) : Prop :=
  ∀ F1 H1, Lat F H F1 H1 → ∀ y, m = some y → ∀ Q : List V → Hp → Prop, (∀ x, y = .ok x → ∀ vs F2 H2, Lat F1 H1 F2 H2 → ra x vs F2 → Q vs H2) →
    (∀ e, y = .error e → ∀ F2 H2, Lat F1 H1 F2 H2 → W (cl e) none σ H2) → t σ H1 Q
theorem EV.x {m : Option α} (h : EV t σ F H m) : EX cl W t σ F H (m.bind fun x => some (.ok x)) := fun F1 H1 l y e Q q _ => by
  obtain ⟨x, ex, e⟩ := Option.bind_eq_some_iff.mp e
  cases e
  exact h F1 H1 l x ex Q fun v F2 H2 l2 r => q x rfl v F2 H2 l2 r
theorem EVA.x {δ : Type} [RepA δ] {t : TA} {m : Option δ} (h : EVA t σ F H m) : EXA cl W t σ F H (m.bind fun x => some (.ok x)) := fun F1 H1 l y e Q q _ => by
  obtain ⟨x, ex, e⟩ := Option.bind_eq_some_iff.mp e
  cases e
  exact h F1 H1 l x ex Q fun v F2 H2 l2 r => q x rfl v F2 H2 l2 r
theorem exB_some {y : Except Er α} {k : α → Rs β} {z : Except Er β} (h : exB y k = some z) : (∃ x, y = .ok x ∧ k x = some z) ∨ ∃ e, y = .error e ∧ z = .error e := by
  cases y with
  | ok x => exact .inl ⟨x, rfl, h⟩
  | error e => exact .inr ⟨e, rfl, by cases h; rfl⟩
theorem exa_cons {δ : Type} [RepA δ] {tr : TA} {m : Rs α} {mr : Rs δ} (h : EX cl W t σ F H m) (hr : EXA cl W tr σ F H mr) : EXA cl W (tCons t tr) σ F H (m.bind fun y => exB y fun x => mr.bind fun z => exB z fun w => some (.ok (x, w))) := fun F1 H1 l y e Q q qe => by
  obtain ⟨y1, e1, e⟩ := Option.bind_eq_some_iff.mp e
  refine h F1 H1 l y1 e1 _ (fun x ex v F2 H2 l2 rv => ?_) (fun e2 ee F2 H2 l2 => ?_)
  · subst ex
    obtain ⟨y2, e3, e⟩ := Option.bind_eq_some_iff.mp (show (mr.bind fun z => exB z fun w => some (.ok (x, w))) = some y from e)
    refine hr F2 H2 (l.trans l2) y2 e3 _ (fun w ew ws F3 H3 l3 rw' => ?_) (fun e4 ee F3 H3 l3 => ?_)
    · subst ew
      cases e
      exact q (x, w) rfl (v :: ws) F3 H3 (l2.trans l3) ⟨v, ws, rfl, (up rv l3), rw'⟩
    · subst ee
      cases e
      exact qe e4 rfl F3 H3 (l2.trans l3)
  · subst ee
    cases e
    exact qe e2 rfl F2 H2 l2
theorem ex_some {m : Rs α} (h : EX cl W t σ F H m) : EX cl W t σ F H (m.bind fun y => exB y fun x => some (.ok (some x))) := fun F1 H1 l z e Q q qe => by
  obtain ⟨y1, e1, e⟩ := Option.bind_eq_some_iff.mp e
  refine h F1 H1 l y1 e1 Q (fun x ex v F2 H2 l2 rv => ?_) (fun e2 ee F2 H2 l2 => ?_)
  · subst ex
    cases e
    exact q (some x) rfl v F2 H2 l2 rv
  · subst ee
    cases e
    exact qe e2 rfl F2 H2 l2
theorem ex_inl {m : Rs α} (h : EX cl W t σ F H m) : EX cl W t σ F H (m.bind fun y => exB y fun x => some (.ok (Sum.inl x : α ⊕ β))) := fun F1 H1 l z e Q q qe => by
  obtain ⟨y1, e1, e⟩ := Option.bind_eq_some_iff.mp e
  refine h F1 H1 l y1 e1 Q (fun x ex v F2 H2 l2 rv => ?_) (fun e2 ee F2 H2 l2 => ?_)
  · subst ex
    cases e
    exact q (.inl x) rfl v F2 H2 l2 rv
  · subst ee
    cases e
    exact qe e2 rfl F2 H2 l2
theorem ex_inr {m : Rs β} (h : EX cl W t σ F H m) : EX cl W t σ F H (m.bind fun y => exB y fun x => some (.ok (Sum.inr x : α ⊕ β))) := fun F1 H1 l z e Q q qe => by
  obtain ⟨y1, e1, e⟩ := Option.bind_eq_some_iff.mp e
  refine h F1 H1 l y1 e1 Q (fun x ex v F2 H2 l2 rv => ?_) (fun e2 ee F2 H2 l2 => ?_)
  · subst ex
    cases e
    exact q (.inr x) rfl v F2 H2 l2 rv
  · subst ee
    cases e
    exact qe e2 rfl F2 H2 l2
theorem ex_tup {ta tb : TE} {ma : Rs α} {mb : Rs β} (ha : EX cl W ta σ F H ma) (hb : EX cl W tb σ F H mb) : EX cl W (tTup (tCons ta (tCons tb tNil))) σ F H (ma.bind fun y => exB y fun x => mb.bind fun z => exB z fun w => some (.ok (x, w))) := fun F1 H1 l y e Q q qe => by
  obtain ⟨y1, e1, e⟩ := Option.bind_eq_some_iff.mp e
  refine ha F1 H1 l y1 e1 _ (fun x ex v F2 H2 l2 rv => ?_) (fun e2 ee F2 H2 l2 => ?_)
  · subst ex
    obtain ⟨y2, e3, e⟩ := Option.bind_eq_some_iff.mp (show (mb.bind fun z => exB z fun w => some (.ok (x, w))) = some y from e)
    refine hb F2 H2 (l.trans l2) y2 e3 _ (fun w ew v2 F3 H3 l3 rw' => ?_) (fun e4 ee F3 H3 l3 => ?_)
    · subst ew
      cases e
      refine ⟨by show 2 ≤ sizeLine; decide, fun p hp => ?_⟩
      refine q (x, w) rfl (.ref p) (upd F3 p (.tup [v, v2])) (upd H3 p (.tup [v, v2])) ((l2.trans l3).trans (.new l3.fh hp)) ⟨p, v, v2, rfl, upd_same, ?_, ?_⟩
      · exact Rep.mono (same_upd (l3.fh.free hp)) (up rv l3)
      · exact Rep.mono (same_upd (l3.fh.free hp)) rw'
    · subst ee
      cases e
      exact qe e4 rfl F3 H3 (l2.trans l3)
  · subst ee
    cases e
    exact qe e2 rfl F2 H2 l2
/-- an operator whose left side may refuse -/
theorem ex_op {ta tb : TE} {r : R2} {ma : Rs α} {mb : Option β} {k : α → β → Option γ} (ha : EX cl W ta σ F H ma) (hb : EV tb σ F H mb) (hr : ∀ x y, RV r x y (k x y)) :
    EX cl W (tOp r ta tb) σ F H (ma.bind fun y => exB y fun x => mb.bind fun y => (k x y).bind fun z => some (.ok z)) := fun F1 H1 l z e Q q qe => by
  obtain ⟨y1, e1, e⟩ := Option.bind_eq_some_iff.mp e
  refine ha F1 H1 l y1 e1 _ (fun x ex v F2 H2 l2 rv => ?_) (fun e2 ee F2 H2 l2 => ?_)
  · subst ex
    obtain ⟨y2, e3, e⟩ := Option.bind_eq_some_iff.mp (show (mb.bind fun y => (k x y).bind fun z => some (.ok z)) = some z from e)
    obtain ⟨z1, e4, e⟩ := Option.bind_eq_some_iff.mp e
    cases e
    refine hb F2 H2 (l.trans l2) y2 e3 _ fun w F3 H3 l3 rw' => ?_
    exact hr x y2 F3 H3 v w l3.fh (up rv l3) rw' z1 e4 Q fun u F4 H4 l4 ru => q z1 rfl u F4 H4 ((l2.trans l3).trans l4) ru
  · subst ee
    cases e
    exact qe e2 rfl F2 H2 l2
theorem ex_abs {m : Rs Int} (h : EX cl W t σ F H m) : EX cl W (tCB (fun xs H Q => ∃ i, xs = [.int i] ∧ Q (.int (if i < 0 then -i else i)) H) (tCons t tNil)) σ F H (m.bind fun y => exB y fun i => some (.ok (if i < 0 then -i else i))) := fun F1 H1 l z e Q q qe => by
  obtain ⟨y1, e1, e⟩ := Option.bind_eq_some_iff.mp e
  refine h F1 H1 l y1 e1 _ (fun x ex v F2 H2 l2 rv => ?_) (fun e2 ee F2 H2 l2 => ?_)
  · subst ex
    cases e
    exact ⟨x, by rw [show v = V.int x from rv], q _ rfl _ F2 H2 l2 rfl⟩
  · subst ee
    cases e
    exact qe e2 rfl F2 H2 l2
end

/-! ### promises -/
section
variable {δ α β R : Type} [RepB δ] [Rep α] [Rep β] {cl : Er → Value} {W : WX} {σ : L2.St} {F H : Hp} {ta : TA}
def spX (cl : Er → Value) (m : δ → Rs β) : Sp := fun vs H Q E => ∃ (F : Hp) (x : δ) (y : Except Er β), Same F H ∧ ra x vs F ∧ m x = some y ∧ (∀ z, y = .ok z → ∀ v F' H', Lat F H F' H' → rp z v F' → Q v H') ∧ ∀ e, y = .error e → ∀ F' H', Lat F H F' H' → E (cl e) none H'
def spXN (cl : Er → Value) (m : δ → Rs (List β)) : Sp := fun vs H Q E => ∃ (F : Hp) (x : δ) (y : Except Er (List β)), Same F H ∧ ra x vs F ∧ m x = some y ∧ (∀ z, y = .ok z → ∀ p ws F' H', Lat F H F' H' → H p = none → F' p = none → H' p = some (.lst ws) → rpL z ws F' → Q (.ref p) H') ∧ ∀ e, y = .error e → ∀ F' H', Lat F H F' H' → E (cl e) none H'
theorem spX_len {m : δ → Rs β} {n : Nat} (hn : RepB.n δ = n) : ∀ vs H Q E, spX cl m vs H Q E → vs.length = n := fun vs H Q E ⟨F, x, y, _, h, _⟩ => (RepB.len h).trans hn
theorem spXN_len {m : δ → Rs (List β)} {n : Nat} (hn : RepB.n δ = n) : ∀ vs H Q E, spXN cl m vs H Q E → vs.length = n := fun vs H Q E ⟨F, x, y, _, h, _⟩ => (RepB.len h).trans hn
/-- a call that may refuse -/
theorem ex_call {m : δ → Rs β} {ma : Rs δ} (ha : EXA cl W ta σ F H ma) : EX cl W (tCallS (spX cl m) (WE W) ta) σ F H (ma.bind fun y => exB y fun x => m x) := fun F1 H1 l y e Q q qe => by
  obtain ⟨y1, e1, e⟩ := Option.bind_eq_some_iff.mp e
  refine ha F1 H1 l y1 e1 _ (fun x ex vs F2 H2 l2 r => ?_) (fun e2 ee F2 H2 l2 => ?_)
  · subst ex
    exact ⟨F2, x, y, l2.fh, r, e, fun z ez v F3 H3 l3 r3 => q z ez v F3 H3 (l2.trans l3) r3, fun e2 ee F3 H3 l3 => qe e2 ee F3 H3 (l2.trans l3)⟩
  · subst ee
    cases e
    exact qe e2 rfl F2 H2 l2
theorem ex_callN {m : δ → Rs (List β)} {ma : Rs δ} (ha : EXA cl W ta σ F H ma) : EX cl W (tCallS (spXN cl m) (WE W) ta) σ F H (ma.bind fun y => exB y fun x => m x) := fun F1 H1 l y e Q q qe => by
  obtain ⟨y1, e1, e⟩ := Option.bind_eq_some_iff.mp e
  refine ha F1 H1 l y1 e1 _ (fun x ex vs F2 H2 l2 r => ?_) (fun e2 ee F2 H2 l2 => ?_)
  · subst ex
    exact ⟨F2, x, y, l2.fh, r, e, fun z ez p ws F3 H3 l3 h1 h2 h3 r3 => q z ez (.ref p) (upd F3 p (.lst ws)) H3 ((l2.trans l3).hold (l2.h.free h1) h2 h3) ⟨p, ws, rfl, upd_same, rpL.mono (same_upd h2) r3⟩, fun e2 ee F3 H3 l3 => qe e2 ee F3 H3 (l2.trans l3)⟩
  · subst ee
    cases e
    exact qe e2 rfl F2 H2 l2
/-- a call that does not refuse -/
theorem noX_some {m : Rs β} {y : β} (h : noX m = some y) : m = some (.ok y) := by
  unfold noX at h
  obtain ⟨z, ez, e⟩ := Option.bind_eq_some_iff.mp h
  cases z with
  | ok x =>
    cases e
    exact ez
  | error _ => cases e
theorem ev_callX {m : δ → Rs β} {ma : Option δ} {E : XK} (ha : EVA ta σ F H ma) : EV (tCall (spX cl m) [] E ta) σ F H (ma.bind fun x => noX (m x)) := fun F1 H1 l y e Q q => by
  obtain ⟨x, ex, e⟩ := Option.bind_eq_some_iff.mp e
  refine ha F1 H1 l x ex _ fun vs F2 H2 l2 r => ?_
  rw [List.append_nil]
  exact ⟨F2, x, .ok y, l2.fh, r, noX_some e, fun z ez v F3 H3 l3 r3 => by cases ez; exact q v F3 H3 (l2.trans l3) r3, fun e ee => by cases ee⟩
theorem evn_callX {m : δ → Rs (List β)} {ma : Option δ} {E : XK} (ha : EVA ta σ F H ma) : EVN (tCall (spXN cl m) [] E ta) σ F H (ma.bind fun x => noX (m x)) := fun F1 H1 l y e Q q => by
  obtain ⟨x, ex, e⟩ := Option.bind_eq_some_iff.mp e
  refine ha F1 H1 l x ex _ fun vs F2 H2 l2 r => ?_
  rw [List.append_nil]
  exact ⟨F2, x, .ok y, l2.fh, r, noX_some e, fun z ez p ws F3 H3 l3 h1 h2 h3 r3 => by cases ez; exact q p ws F3 H3 (l2.trans l3) (l2.h.free h1) h2 h3 r3, fun e ee => by cases ee⟩
theorem pe_fnX {X : Cx} {k : Nat} {x : Str} {ps : List Str} {sp : Sp} {p pos : Pos} {e : Expr} {es : List Expr} {t : TA} (tk : Takes X W) (F : Fn X.prog X.w X.K X.mg X.base (L2.CX X.prog X.w) k x ps sp) (hr : Room k X.A) (hg : Gl X x)
    (ha : PA X (e :: es) t) (hdb : (x == ("__debug__" : Str)) = false := by decide) (he : starEach (e :: es) X.env = (false, eval e X.env) :: starEach es X.env := by rfl) (hpl : (backTo pos (starEach es X.env)).any (·.1) = false := by rfl) :
    PE X (.Call (.Name x p) (e :: es) [] pos) (tCallS sp (WE W) t) := by
  obtain ⟨f, fd, h1, h2, h3, h4⟩ := F.ex
  exact pe_callS h4 hr hg h1 h2 h3 (fun σ => passAt tk σ) ha hdb he hpl
theorem pe_fn0 {X : Cx} {k : Nat} {x : Str} {ps : List Str} {sp : Sp} {p pos : Pos} {e : Expr} {es : List Expr} {t : TA} (F : Fn X.prog X.w X.K X.mg X.base (L2.CX X.prog X.w) k x ps sp) (hr : Room k X.A) (hg : Gl X x)
    (ha : PA X (e :: es) t) (hdb : (x == ("__debug__" : Str)) = false := by decide) (he : starEach (e :: es) X.env = (false, eval e X.env) :: starEach es X.env := by rfl) (hpl : (backTo pos (starEach es X.env)).any (·.1) = false := by rfl) :
    PE X (.Call (.Name x p) (e :: es) [] pos) (tCall sp [] E0 t) := by
  obtain ⟨f, fd, h1, h2, h3, h4⟩ := F.ex
  exact pe_call h4 hr hg h1 h2 h3 .nil passL ha hdb he hpl

/-! ### statements -/
variable {te : TE} {u : TS} {D : Ends} {r : Except Er R} {i : Nat}
theorem rd_asgX {m : Rs α} {k : α → Rs R} (hF : Same F H) (ex : EX cl W te σ F H m) (hm : (m.bind fun y => exB y k) = some r) (ce : ∀ e F1 H1, r = .error e → Lat F H F1 H1 → W (cl e) none σ H1)
    (c : ∀ x v F1 H1, k x = some r → Lat F H F1 H1 → rp x v F1 → u D (σ.set i (some v)) H1) : tSeq (tAsg te (gName i)) u D σ H := by
  obtain ⟨y, e1, e2⟩ := Option.bind_eq_some_iff.mp hm
  refine ex F H (.refl hF) y e1 _ (fun x ex v F1 H1 l rv => ?_) (fun e ee F1 H1 l => ?_)
  · subst ex
    exact c x v F1 H1 e2 l rv
  · subst ee
    cases e2
    exact ce e F1 H1 rfl l
theorem rd_dropX {m : Rs α} {k : α → Rs R} (hF : Same F H) (ex : EX cl W te σ F H m) (hm : (m.bind fun y => exB y k) = some r) (ce : ∀ e F1 H1, r = .error e → Lat F H F1 H1 → W (cl e) none σ H1)
    (c : ∀ x F1 H1, k x = some r → Lat F H F1 H1 → u D σ H1) : tSeq (tDrop te) u D σ H := by
  obtain ⟨y, e1, e2⟩ := Option.bind_eq_some_iff.mp hm
  refine ex F H (.refl hF) y e1 _ (fun x ex v F1 H1 l rv => ?_) (fun e ee F1 H1 l => ?_)
  · subst ex
    exact c x F1 H1 e2 l
  · subst ee
    cases e2
    exact ce e F1 H1 rfl l
theorem rd_retNk {R : Type} {r : R} {m : Option (List α)} {k : List α → Option R} (hF : Same F H) (ev : EVN te σ F H m) (hm : m.bind k = some r)
    (c : ∀ x p vs F1 H1, k x = some r → Lat F H F1 H1 → H p = none → F1 p = none → H1 p = some (.lst vs) → rpL x vs F1 → D.rt (.ref p) H1) : tRet te D σ H := by
  obtain ⟨x, e1, e2⟩ := Option.bind_eq_some_iff.mp hm
  exact ev F H (.refl hF) x e1 _ fun p vs F1 H1 l h1 h2 h3 rv => c x p vs F1 H1 e2 l h1 h2 h3 rv
/-- a call of a def that does not refuse, of arguments that may -/
theorem ex_callP {m : δ → Option β} {ma : Rs δ} {E : XK} (ha : EXA cl W ta σ F H ma) : EX cl W (tCall (spO m) [] E ta) σ F H (ma.bind fun y => exB y fun x => (m x).bind fun z => some (.ok z)) := fun F1 H1 l y e Q q qe => by
  obtain ⟨y1, e1, e⟩ := Option.bind_eq_some_iff.mp e
  refine ha F1 H1 l y1 e1 _ (fun x ex vs F2 H2 l2 r => ?_) (fun e2 ee F2 H2 l2 => ?_)
  · subst ex
    obtain ⟨z, ez, e⟩ := Option.bind_eq_some_iff.mp (show ((m x).bind fun z => some (.ok z)) = some y from e)
    cases e
    rw [List.append_nil]
    exact ⟨F2, x, z, l2.fh, r, ez, fun v F3 H3 l3 r3 => q z rfl v F3 H3 (l2.trans l3) r3⟩
  · subst ee
    cases e
    exact qe e2 rfl F2 H2 l2
theorem rd_dropXL {m : Rs α} {k : α → Rs R} (hF : Same F H) (ex : EX cl W te σ F H m) (hm : (m.bind fun y => exB y k) = some r) (ce : ∀ e F1 H1, r = .error e → Lat F H F1 H1 → W (cl e) none σ H1)
    (c : ∀ x F1 H1, k x = some r → Lat F H F1 H1 → D.nx σ H1) : tDrop te D σ H := by
  obtain ⟨y, e1, e2⟩ := Option.bind_eq_some_iff.mp hm
  refine ex F H (.refl hF) y e1 _ (fun x ex v F1 H1 l rv => ?_) (fun e ee F1 H1 l => ?_)
  · subst ex
    exact c x F1 H1 e2 l
  · subst ee
    cases e2
    exact ce e F1 H1 rfl l
theorem rd_retX {m : Rs α} {r : Except Er α} (hF : Same F H) (ex : EX cl W te σ F H m) (hm : m = some r) (ce : ∀ e F1 H1, r = .error e → Lat F H F1 H1 → W (cl e) none σ H1)
    (c : ∀ x v F1 H1, r = .ok x → Lat F H F1 H1 → rp x v F1 → D.rt v H1) : tRet te D σ H :=
  ex F H (.refl hF) r hm _ (fun x ex v F1 H1 l rv => c x v F1 H1 ex l rv) fun e ee F1 H1 l => ce e F1 H1 ee l
end

/-! ### classes -/
structure ErC (K : PySem.W.Frag) (mg : Str → Option Value) (x : Str) (C : Addr) : Prop where
  g : mg x = some (.ref C)
  x : PySem.W.excIn K C [.type "ValueError", .type "Exception", .type "BaseException", .type "object"] "ValueError.__new__" = true
  k : PySem.W.keepIn K (.ref C) = true
  b : PySem.W.subIn K (.ref C) (.type "BaseException") = some true
  t : PySem.W.typeIn K (.ref C) = some (.type "type")
theorem rd_raise {W : WX} {C : Value} {D : Ends} {σ : L2.St} {H : Hp} (h : W C none σ H) : (fun (_ : Ends) σ H => (fun (_ : L2.St) (H : Hp) (Q : XK) => Q C none H) σ H fun cls d H' => W cls d σ H') D σ H := h
theorem ps_raiseE {X : Cx} {W : WX} {x m : Str} {C : Addr} {j : Nat} {p p2 pos pos2 : Pos} (hc : X.calm = true) (tk : Takes X W) (T : ErC X.K X.mg x C) (hg : Gl X x) (hdb : (x == ("__debug__" : Str)) = false := by decide) :
    PS X (.Raise (some (.Call (.Name x p) [.Constant (.str m) j p2] [] pos)) none pos2) (fun _ σ H => W (.ref C) none σ H) :=
  ps_raise hc tk (pmk_own PySem.F.excBase_ValueError T.x T.g T.k (raises_own T.b T.t) hg hdb)

/-! ### refusals caught -/
abbrev clO (ad : Er → Addr) : Er → Value := fun e => .ref (ad e)
section
variable {R S : Type} {ad : Er → Addr} {K : PySem.W.Frag} {σ : L2.St} {F H : Hp} {D : Ends} {i : Nat} {pos : Pos}
/-- a suite that knows which refusal it holds -/
def tsE (ad : Er → Addr) (t : Er → Addr → TS) : Addr → Value → Option Addr → TS := fun a cls d D σ H => ∃ e, cls = clO ad e ∧ d = none ∧ t e a D σ H
theorem pss_suite {X : Cx} {sts : List Stmt} {a : Addr} {oe : Obj} {cls : Value} {d : Option Addr} {t : Er → Addr → TS} (hz : Zc cls d oe) (h : ∀ e, Zc (clO ad e) none oe → PSs X sts (t e a)) : PSs X sts (tsE ad t a cls d) := by
  refine ⟨fun pins s σ H D I hw => ?_⟩
  obtain ⟨e, rfl, rfl, hw⟩ := hw
  exact (h e hz).run pins s σ H D I hw
def tTry (K : PySem.W.Frag) (c : Value) (i : Nat) (ts : Addr → Value → Option Addr → TS) (tb : WX → TS) : TS := fun D σ H => tb (wAs K c i ts (fun _ _ _ _ => False) D) D σ H
theorem ps_tryE {X : Cx} {x n : Str} {c : Value} {body suite : List Stmt} {b₀ : Stmt} {np pos pos' : Pos} {tb : WX → TS} {t : Er → Addr → TS} (hs : X.stack = X.env :: X.outer) (hf : X.env.frame = some X.env.locals) (hN : X.N.Nodup) (hi : X.N[i]? = some n) (hln : X.env.kindOf n = some .local) (hc : Names X x c)
    (hb : ∀ (W : WX) (pn : List (Addr × Obj)) (xe : Value → Shared → Prop), Takes (X.tr pn xe) W → PassesOwn (model X.prog X.w) X.A X.env xe → PSs (X.tr pn xe) body (tb W))
    (hsu : ∀ (e : Er) (a : Addr) (oe : Obj) (pn : List (Addr × Obj)), Zc (clO ad e) none oe → (∃ vs, oe.data = .fields vs) → PSs (X.suite a ((a, oe) :: pn)) (b₀ :: suite) (t e a)) :
    PS X (.Try body [.ExceptHandler (some (.Name x np)) (some n) (b₀ :: suite) pos'] [] [] pos) (tTry X.K c i (tsE ad t) tb) :=
  ps_try_as hs hf hN hi hln hc takes0 hb fun a oe cls d pn hz hv => pss_suite hz fun e hz => hsu e a oe pn hz hv
theorem rd_try {α β : Type} {tb : WX → TS} {t : Er → Addr → TS} {c : Value} {mb : Rs α} {f : α → Option β} {k : Er → Option β} {r : β} {F0 H0 : Hp} (hx : ∀ e, PySem.W.exmOne K (clO ad e) c = some true) (hm : trX mb f k = some r)
    (hb : ∀ y, mb = some y → (∀ x, y = .ok x → f x = some r) → ∀ W : WX, (∀ e F1 H1, y = .error e → Lat F0 H0 F1 H1 → Same F F1 → W (clO ad e) none σ H1) → tb W D σ H)
    (hs : ∀ e a F1 H1, k e = some r → Lat F0 H0 F1 H1 → Same F F1 → H1 a = none → ∀ D' : Ends, D'.rt = D.rt → (∀ σ' H', D.nx (σ'.set i none) H' → D'.nx σ' H') → t e a D' (σ.set i (some (.ref a))) H1) : tTry K c i (tsE ad t) tb D σ H := by
  obtain ⟨y, e1, e2⟩ := Option.bind_eq_some_iff.mp hm
  refine hb y e1 (fun x ex => by subst ex; exact e2) _ fun e F1 H1 ee l sf => ?_
  subst ee
  exact ⟨true, hx e, fun _ a ha => ⟨e, rfl, rfl, hs e a F1 H1 e2 l sf ha _ rfl fun _ _ h => h⟩, fun q => nomatch q⟩
theorem kit_ref {D C : Addr} {b : Bool} (hd : PySem.W.hasDictIn K C = true) (ht : PySem.W.typeIn K (.ref C) = some (.type "type")) (self : PySem.W.subIn K (.ref C) (.ref C) = some true) (hs : PySem.W.subIn K (.ref D) (.ref C) = some b) : PySem.W.kitOne K (.ref D) (.ref C) = some b := by
  obtain ⟨cd, hc, _⟩ := PySem.W.any_some hd
  unfold PySem.W.kitOne
  by_cases e : ((Value.ref D) == (Value.ref C)) = true
  · rw [if_pos e]
    have e2 : Value.ref D = Value.ref C := beq_iff_eq.mp e
    rw [e2, self] at hs
    exact hs
  · rw [if_neg e]
    show (if ((PySem.W.clsIn K C).isSome && PySem.W.typeIn K (.ref C) == some (.type "type")) = true then PySem.W.subIn K (.ref D) (.ref C) else none) = some b
    rw [hc, ht]
    exact hs
theorem kit_type {D : Addr} {T : String} {b : Bool} (hs : PySem.W.subIn K (.ref D) (.type T) = some b) (hm : PySem.W.kitMeta T = true := by decide +kernel) : PySem.W.kitOne K (.ref D) (.type T) = some b := by
  unfold PySem.W.kitOne
  rw [if_neg (by intro h; exact nomatch (beq_iff_eq.mp h))]
  show (if PySem.W.kitMeta T = true then PySem.W.subIn K (.ref D) (.type T) else none) = some b
  rw [if_pos hm]
  exact hs
/-- what the top says of the refusals, where some are caught -/
structure Kit (K : PySem.W.Frag) (ad : Er → Addr) (CW : Addr) : Prop where
  ex : ∀ e, ExcC K (ad e)
  one : ∀ e c, PySem.W.kitOne K (clO ad e) (clO ad c) = some (isE e c)
  val : ∀ e, PySem.W.kitOne K (clO ad e) (.type "ValueError") = some true
  exm : ∀ e, PySem.W.exmOne K (clO ad e) (.ref CW) = some true
theorem ev_isE {m : Er} {e : Er} {a : Addr} {CW : Addr} (T : Kit K ad CW) (h : σ[i]? = some (some (.ref a))) : EV (tCB (rIsE K (ad e) a) (tCons (tVar i) (tCons (tC (.ref (ad m))) tNil))) σ F H (some (isE e m)) := fun F1 H1 l x ex Q q => by
  cases ex
  exact ⟨.ref a, h, .ref (ad m), _, _, rfl, fun u r => r, T.one e m, q _ F1 H1 (.refl l.fh) rfl⟩
theorem ev_isV {e : Er} {a : Addr} {CW : Addr} (T : Kit K ad CW) (h : σ[i]? = some (some (.ref a))) : EV (tCB (rIsE K (ad e) a) (tCons (tVar i) (tCons (tC (.ty "ValueError")) tNil))) σ F H (some true) := fun F1 H1 l x ex Q q => by
  cases ex
  exact ⟨.ref a, h, .ty "ValueError", _, _, rfl, fun u r => r, T.val e, q _ F1 H1 (.refl l.fh) rfl⟩
end

/-! ### dicts with pairs for keys -/
def kk (t : Int × Int) : List Key := [.inl t.1, .inl t.2]
theorem kk_inj {t u : Int × Int} (h : kk t = kk u) : t = u := by
  unfold kk at h
  injection h with h1 h2
  injection h2 with h2 _
  injection h1 with h1
  injection h2 with h2
  exact Prod.ext h1 h2
theorem keys_put {kvs : List (List Key × V)} {ks : List (Int × Int)} (h : kvs.map (·.1) = ks.map kk) (t : Int × Int) (v : V) : (putK kvs (kk t) v).map (·.1) = (putD ks t).map kk := by
  have hm : kk t ∈ kvs.map (·.1) ↔ t ∈ ks := by
    rw [h, List.mem_map]
    exact ⟨fun ⟨u, hu, e⟩ => kk_inj e ▸ hu, fun hu => ⟨t, hu, rfl⟩⟩
  have ha : (kvs.any fun kv => decide (kv.1 = kk t)) = true ↔ t ∈ ks := by
    rw [← hm, List.any_eq_true, List.mem_map]
    exact ⟨fun ⟨p, hp, e⟩ => ⟨p, hp, of_decide_eq_true e⟩, fun ⟨p, hp, e⟩ => ⟨p, hp, decide_eq_true e⟩⟩
  unfold putK putD
  by_cases c : t ∈ ks
  · rw [if_pos (ha.mpr c), if_pos c, List.map_map, ← h]
    refine List.map_congr_left fun kv _ => ?_
    show (if kv.1 = kk t then (kv.1, v) else kv).1 = kv.1
    split <;> rfl
  · rw [if_neg fun q => c (ha.mp q), if_neg c, List.map_append, List.map_append, h]
    rfl
section
variable {R α : Type} [Rep α] {K : PySem.W.Frag} {σ : L2.St} {F H : Hp} {D : Ends} {u : TS} {i j : Nat} {r : R}
/-- {} -/
theorem rd_newD {k : List (Int × Int) → Option R} (hF : Same F H) (hm : (some ([] : List (Int × Int))).bind k = some r)
    (c : ∀ p F1 H1, k [] = some r → Lat F H F1 H1 → H p = none → F1 p = none → H1 p = some (.dT []) → u D (σ.set i (some (.ref p))) H1) : tSeq (tAsg tDNewT (gName i)) u D σ H :=
  fun p hp => c p F _ hm (.made hF hp) hp (hF.free hp) upd_same
theorem dput_t {H : Hp} {a : Addr} {y v : V} {kvs : List (List Key × V)} {t : Int × Int} {F : Hp} (hF : Same F H) (e : H a = some (.dT kvs)) (ry : rp t y F) (hl : kvs.length < sizeLine) : DPut H a y v (upd H a (.dT (putK kvs (kk t) v))) := by
  obtain ⟨b, v1, v2, rfl, eb, r1, r2⟩ := ry
  cases r1
  cases r2
  exact DPut.t e (hF _ _ eb) hl
theorem rd_putDL {p : Addr} {ks : List (Int × Int)} {kvs : List (List Key × V)} {ti tv : TE} {mi : Option (Int × Int)} {mv : Option α} {k : List (Int × Int) → Option R} (hF : Same F H) (hj : σ[j]? = some (some (.ref p))) (hp : H p = some (.dT kvs)) (fp : F p = none) (rl : kvs.map (·.1) = ks.map kk)
    (ev : EV tv σ F H mv) (ei : EV ti σ F H mi) (hm : (mv.bind fun _ => mi.bind fun t => putDZ ks t).bind k = some r)
    (c : ∀ ys ws F1 H1, k ys = some r → Mt p F H F1 H1 → F1 p = none → H1 p = some (.dT ws) → ws.map (·.1) = ys.map kk → D.nx σ H1) : sDPut (tVar j) ti tv D σ H := by
  obtain ⟨ys, e1, e2⟩ := Option.bind_eq_some_iff.mp hm
  obtain ⟨x, e3, e4⟩ := Option.bind_eq_some_iff.mp e1
  obtain ⟨t, e5, e6⟩ := Option.bind_eq_some_iff.mp e4
  unfold putDZ at e6
  split at e6
  · rename_i hlen
    cases e6
    refine ev F H (.refl hF) x e3 _ fun v F1 H1 l rv => ⟨.ref p, hj, ei F1 H1 l t e5 _ fun w F2 H2 l2 rw' => ?_⟩
    have l12 := l.trans l2
    have fp2 := l12.nw _ _ hp trivial fp
    have hln : kvs.length = ks.length := by rw [← List.length_map (·.1) (as := kvs), rl, List.length_map]
    exact ⟨p, _, rfl, dput_t l12.fh (l12.h _ _ hp) rw' (sz_lt (by omega)), c _ _ F2 _ e2 (Mt.of l12 fp2) fp2 upd_same (keys_put rl t v)⟩
  · cases e6
theorem rd_putD {p : Addr} {ks : List (Int × Int)} {kvs : List (List Key × V)} {ti tv : TE} {mi : Option (Int × Int)} {mv : Option α} {k : List (Int × Int) → Option R} (hF : Same F H) (hj : σ[j]? = some (some (.ref p))) (hp : H p = some (.dT kvs)) (fp : F p = none) (rl : kvs.map (·.1) = ks.map kk)
    (ev : EV tv σ F H mv) (ei : EV ti σ F H mi) (hm : (mv.bind fun _ => mi.bind fun t => putDZ ks t).bind k = some r)
    (c : ∀ ys ws F1 H1, k ys = some r → Mt p F H F1 H1 → F1 p = none → H1 p = some (.dT ws) → ws.map (·.1) = ys.map kk → u D σ H1) : tSeq (sDPut (tVar j) ti tv) u D σ H := rd_putDL (D := { D with nx := u D }) hF hj hp fp rl ev ei hm c
/-- tuples may be held for known at any time -/
theorem know_tups {F H F1 H1 : Hp} (l : Lat F H F1 H1) : ∀ bs : List Addr, (∀ b ∈ bs, ∃ xs, H1 b = some (.tup xs)) → ∃ F2, Lat F H F2 H1 ∧ Same F1 F2 ∧ (∀ b ∈ bs, F2 b = H1 b) ∧ ∀ q o, H1 q = some o → Chg o → F1 q = none → F2 q = none
  | [], _ => ⟨F1, l, .refl _, fun _ h => by simp at h, fun _ _ _ _ h => h⟩
  | b :: bs, h => by
    obtain ⟨F2, l2, s2, h2, n2⟩ := know_tups l bs fun x hx => h x (List.mem_cons_of_mem _ hx)
    obtain ⟨xs, e⟩ := h b List.mem_cons_self
    cases q : F2 b with
    | some o =>
      refine ⟨F2, l2, s2, fun x hx => ?_, n2⟩
      rcases List.mem_cons.mp hx with rfl | hx
      · rw [q, l2.fh _ _ q]
      · exact h2 x hx
    | none =>
      refine ⟨upd F2 b (.tup xs), l2.know (fun u hu cu _ => ?_) q e, s2.trans (same_upd q), fun x hx => ?_, fun p o ep co fp => ?_⟩
      · have := l2.h _ _ hu
        rw [e] at this
        cases this
        exact cu
      · by_cases z : x = b
        · subst z
          rw [upd_same, e]
        · rw [upd_ne z]
          rcases List.mem_cons.mp hx with hx | hx
          · exact absurd hx z
          · exact h2 x hx
      · have : p ≠ b := fun z => by
          subst z
          rw [e] at ep
          cases ep
          exact co
        rw [upd_ne this]
        exact n2 p o ep co fp
theorem rpL_keys {F : Hp} : ∀ {kvs : List (List Key × V)} {ks : List (Int × Int)} {bs : List Addr}, kvs.map (·.1) = ks.map kk → IsKeys F kvs bs → rpL ks (bs.map V.ref) F
  | _, [], _, e, .nil => trivial
  | kv :: kvs, k :: ks, b :: bs, e, .cons h t => by
    rw [List.map_cons, List.map_cons] at e
    injection e with e1 e2
    refine ⟨⟨b, .int k.1, .int k.2, rfl, ?_, rfl, rfl⟩, rpL_keys e2 t⟩
    have h' : F b = some (.tup (kv.1.map kV)) := h
    rw [e1] at h'
    exact h'
  | _, _ :: _, _, e, .nil => by simp at e
  | _ :: _, [], _, e, .cons _ _ => by simp at e
theorem isKeys_mono {H F : Hp} : ∀ {kvs : List (List Key × V)} {bs : List Addr}, (∀ b ∈ bs, F b = H b) → IsKeys H kvs bs → IsKeys F kvs bs
  | _, _, _, .nil => .nil
  | _, _ :: _, h, .cons k t => .cons (by rw [h _ List.mem_cons_self]; exact k) (isKeys_mono (fun b hb => h b (List.mem_cons_of_mem _ hb)) t)
theorem isKeys_tup {H : Hp} : ∀ {kvs : List (List Key × V)} {bs : List Addr}, IsKeys H kvs bs → ∀ b ∈ bs, ∃ xs, H b = some (.tup xs)
  | _, _, .nil, b, hb => by simp at hb
  | _, _ :: _, .cons k t, b, hb => by
    rcases List.mem_cons.mp hb with rfl | hb
    · exact ⟨_, k⟩
    · exact isKeys_tup t b hb
/-- list(d) -/
theorem evn_listD {p : Addr} {ks : List (Int × Int)} {kvs : List (List Key × V)} (hj : σ[j]? = some (some (.ref p))) (hp : H p = some (.dT kvs)) (rl : kvs.map (·.1) = ks.map kk) :
    EVN (tCB (fun xs H Q => ∃ d kvs, xs = [V.ref d] ∧ Rd H d (.dT kvs) ∧ ∀ p bs, H p = none → IsKeys H kvs bs → Q (.ref p) (upd H p (.lst (bs.map V.ref)))) (tCons (tVar j) tNil)) σ F H (some ks) := fun F1 H1 l xs e Q q => by
  cases e
  refine ⟨.ref p, hj, p, kvs, rfl, .inl (l.h _ _ hp), fun a bs ha hk => ?_⟩
  obtain ⟨F2, l2, s2, h2, n2⟩ := know_tups (Lat.refl l.fh) bs (isKeys_tup hk)
  exact q a _ F2 _ (l2.trans (.made l2.fh ha)) ha (l2.fh.free ha) upd_same (rpL_keys rl (isKeys_mono h2 hk))
end
end Dw

set_option Elab.async false
set_option linter.all false
set_option maxRecDepth 100000
set_option maxHeartbeats 4000000
/-! The layer, sixth part. -/
namespace Dw
open PySem L2 Dv
open Rep (rp)
open RepA (ra)
section
variable {α β γ S R T : Type} [Rep α] [Rep β] [Rep γ] {K : PySem.W.Frag} {σ : L2.St} {F H : Hp} {D : Ends} {te : TE} {r : R}
/-- an if of whose ways some go on and some hand back -/
theorem rd_joinR {c : TT} {t1 t2 u : TS} {m : Option (Stp S T)} {k : S → Option R} {k' : T → Option R} (P : S → L2.St → Hp → Hp → Prop) (hm : (m.bind fun st => st.elim k k') = some r)
    (h1 : ∀ st, m = some st → ∀ D' : Ends, D'.rt = D.rt → (∀ s, st = .go s → ∀ σ3 F3 H3, P s σ3 F3 H3 → D'.nx σ3 H3) → (∀ y, st = .ret y → k' y = some r) → tIfS c t1 t2 D' σ H)
    (h2 : ∀ s σ' F' H', k s = some r → P s σ' F' H' → u D σ' H') : tSeq (tIfS c t1 t2) u D σ H := by
  obtain ⟨st, e1, e2⟩ := Option.bind_eq_some_iff.mp hm
  refine h1 st e1 { D with nx := u D } rfl (fun s es σ3 F3 H3 hp => ?_) fun y ey => ?_
  · subst es
    exact h2 s σ3 F3 H3 e2 hp
  · subst ey
    exact e2
theorem EV.cg {t : TE} {m m' : Option α} (h : EV t σ F H m) (e : m = m') : EV t σ F H m' := e ▸ h
theorem rd_insertL {u : TS} {ti : TE} {p : Addr} {xs : List α} {vs : List V} {mi : Option Int} {m : Option α} {k : List α → Option R} {j : Nat} (hF : Same F H) (hj : σ[j]? = some (some (.ref p))) (hp : H p = some (.lst vs)) (fp : F p = none) (rl : rpL xs vs F)
    (ei : EV ti σ F H mi) (ev : EV te σ F H m) (hm : (mi.bind fun i => m.bind fun y => insZ xs i y).bind k = some r)
    (c : ∀ ys ws F1 H1, k ys = some r → Mt p F H F1 H1 → F1 p = none → H1 p = some (.lst ws) → rpL ys ws F1 → D.nx σ H1) :
    tDrop (tBM K "list" (fun x vs H Q => ∃ (l : Addr) (xs : List V) (i : Int) (y : V), x = .ref l ∧ vs = [.int i, y] ∧ H l = some (.lst xs) ∧ xs.length < sizeLine ∧ 0 ≤ i ∧ i < 2 ^ 63 ∧
    Q .non (upd H l (.lst (xs.take i.toNat ++ [y] ++ xs.drop i.toNat)))) (tVar j) (tCons ti (tCons te tNil))) D σ H := by
  obtain ⟨ys, e1, e2⟩ := Option.bind_eq_some_iff.mp hm
  obtain ⟨i, e3, e4⟩ := Option.bind_eq_some_iff.mp e1
  obtain ⟨y, e5, e6⟩ := Option.bind_eq_some_iff.mp e4
  unfold insZ at e6
  split at e6
  · rename_i hlen
    obtain ⟨h1, h2, h3⟩ := hlen
    cases e6
    refine ⟨.ref p, hj, .inl ⟨rfl, vs, sqL hp⟩, ?_⟩
    refine ei F H (.refl hF) i e3 _ fun v F1 H1 l rv => ?_
    cases rv
    refine ev F1 H1 l y e5 _ fun w F2 H2 l2 rw' => ?_
    have fp1 := l2.nwl (l.h _ _ hp) (l.nwl hp fp)
    refine ⟨p, vs, i, w, rfl, rfl, l2.h _ _ (l.h _ _ hp), sz_lt (by rw [rl.length]; exact h1), h2, by omega, ?_⟩
    have rl2 := rpL.mono l2.f (rpL.mono l.f rl)
    exact c _ _ F2 _ e2 (Mt.of (l.trans l2) fp1) fp1 upd_same (rpL.append (rpL.append (rpL.take _ rl2) ⟨rw', trivial⟩) (rpL.drop _ rl2))
  · cases e6
theorem rd_insert {u : TS} {ti : TE} {p : Addr} {xs : List α} {vs : List V} {mi : Option Int} {m : Option α} {k : List α → Option R} {j : Nat} (hF : Same F H) (hj : σ[j]? = some (some (.ref p))) (hp : H p = some (.lst vs)) (fp : F p = none) (rl : rpL xs vs F)
    (ei : EV ti σ F H mi) (ev : EV te σ F H m) (hm : (mi.bind fun i => m.bind fun y => insZ xs i y).bind k = some r)
    (c : ∀ ys ws F1 H1, k ys = some r → Mt p F H F1 H1 → F1 p = none → H1 p = some (.lst ws) → rpL ys ws F1 → u D σ H1) :
    tSeq (tDrop (tBM K "list" (fun x vs H Q => ∃ (l : Addr) (xs : List V) (i : Int) (y : V), x = .ref l ∧ vs = [.int i, y] ∧ H l = some (.lst xs) ∧ xs.length < sizeLine ∧ 0 ≤ i ∧ i < 2 ^ 63 ∧
    Q .non (upd H l (.lst (xs.take i.toNat ++ [y] ++ xs.drop i.toNat)))) (tVar j) (tCons ti (tCons te tNil)))) u D σ H := rd_insertL (u := u) (D := { D with nx := u D }) hF hj hp fp rl ei ev hm c
theorem eqV_ints (x : Int) : ∀ {xs : List Int}, x ∈ xs → (xs.map V.int)[xs.idxOf x]? = some (.int x) ∧ ∀ (m : Nat) (z : V), m < xs.idxOf x → (xs.map V.int)[m]? = some z → eqV z (.int x) = false
  | [], h => by simp at h
  | y :: ys, h => by
    by_cases e : y = x
    · subst e
      rw [List.idxOf_cons_self]
      exact ⟨rfl, fun m z hm => by omega⟩
    · have hx : x ∈ ys := by
        rcases List.mem_cons.mp h with h | h
        · exact absurd h.symm e
        · exact h
      have ih := eqV_ints x hx
      have e2 : (y :: ys).idxOf x = ys.idxOf x + 1 := by
        have e3 : (y == x) = false := by simpa using e
        rw [List.idxOf_cons, e3]
        rfl
      rw [e2]
      refine ⟨by simpa using ih.1, fun m z hm hz => ?_⟩
      cases m with
      | zero =>
        have : V.int y = z := by simpa using hz
        subst this
        show (y == x) = false
        simpa using e
      | succ m => exact ih.2 m z (by omega) (by simpa using hz)
theorem ev_index {t tx : TE} {m : Option (List Int)} {mx : Option Int} (h : EV t σ F H m) (hx : EV tx σ F H mx) : EV (tBM K "list" (rIndex K) t (tCons tx tNil)) σ F H (m.bind fun xs => mx.bind fun x => idxZ xs x) := fun F1 H1 l z e Q q => by
  obtain ⟨xs, ex, e⟩ := Option.bind_eq_some_iff.mp e
  obtain ⟨x, ey, e⟩ := Option.bind_eq_some_iff.mp e
  unfold idxZ at e
  split at e
  · rename_i hmem
    cases e
    refine h F1 H1 l xs ex _ fun v F2 H2 l2 ⟨a, vs, e1, e2, r⟩ => ?_
    have hv := rpL_ints r
    subst hv
    subst e1
    refine ⟨.inl ⟨rfl, _, sqL (l2.fh _ _ e2)⟩, hx F2 H2 (l.trans l2) x ey _ fun w F3 H3 l3 rw' => ?_⟩
    cases rw'
    obtain ⟨h1, h2⟩ := eqV_ints x hmem
    refine ⟨a, _, .int x, xs.idxOf x, .int x, rfl, rfl, sqL (l3.h _ _ (l2.fh _ _ e2)), rfl, flat_ints xs, h1, ?_, h2, q _ F3 H3 (l2.trans l3) rfl⟩
    show (x == x) = true
    simp
  · cases e
theorem ev_unL {t : TE} {m : Option (Option (α ⊕ β))} (h : EV t σ F H m) : EV t σ F H (m.bind fun x => unL x) := fun F1 H1 l y e Q q => by
  obtain ⟨x, ex, ey⟩ := Option.bind_eq_some_iff.mp e
  refine h F1 H1 l x ex Q fun v F2 H2 l2 r => q v F2 H2 l2 ?_
  match x, ey, r with
  | some (.inl z), ey, r =>
    have : z = y := by simpa [unL] using ey
    subst this
    exact r
theorem ev_unR {t : TE} {m : Option (Option (α ⊕ β))} (h : EV t σ F H m) : EV t σ F H (m.bind fun x => unR x) := fun F1 H1 l y e Q q => by
  obtain ⟨x, ex, ey⟩ := Option.bind_eq_some_iff.mp e
  refine h F1 H1 l x ex Q fun v F2 H2 l2 r => q v F2 H2 l2 ?_
  match x, ey, r with
  | some (.inr z), ey, r =>
    have : z = y := by simpa [unR] using ey
    subst this
    exact r
theorem ev_isiU {t : TE} {m : Option (Option (Bool ⊕ List Int))} (h : EV t σ F H m) : EV (tCB (rIsi K) (tCons t (tCons (tC (.ty "bool")) tNil))) σ F H (m.bind fun x => some (isL x)) := fun F1 H1 l y e Q q => by
  obtain ⟨x, ex, e⟩ := Option.bind_eq_some_iff.mp e
  cases e
  refine h F1 H1 l x ex _ fun v F2 H2 l2 r => ?_
  match x, r with
  | none, r =>
    have hv : v = .non := r
    subst hv
    exact ⟨.non, .ty "bool", _, _, false, rfl, .ty "bool", .base .non, kit_ty (show kitB "NoneType" "bool" = some false by decide +kernel), q _ F2 H2 l2 rfl⟩
  | some (.inl z), r =>
    have r' : rp z v F2 := r
    exact ⟨v, .ty "bool", _, _, true, rfl, .ty "bool", Typ.ty (Rep.mono l2.fh r'), kit_ty (show kitB "bool" "bool" = some true by decide +kernel), q _ F2 H2 l2 rfl⟩
  | some (.inr z), r =>
    have r' : rp z v F2 := r
    exact ⟨v, .ty "bool", _, _, false, rfl, .ty "bool", Typ.ty (Rep.mono l2.fh r'), kit_ty (show kitB "list" "bool" = some false by decide +kernel), q _ F2 H2 l2 rfl⟩
/-- list(x) of a list that may change -/
theorem evn_listO {p : Addr} {j : Nat} {xs : List α} {vs : List V} (hj : σ[j]? = some (some (.ref p))) (hp : H p = some (.lst vs)) (rl : rpL xs vs F) : EVN (tCB (fun xs H Q => ∃ p ys, xs = [.ref p] ∧ (SqL K H p ys ∨ SqT K H p ys) ∧ ∀ l, H l = none → Q (.ref l) (upd H l (.lst ys))) (tCons (tVar j) tNil)) σ F H (some xs) := fun F1 H1 l y e Q q => by
  cases e
  refine ⟨.ref p, hj, p, vs, rfl, .inl (sqL (l.h _ _ hp)), fun a ha => q a vs F1 _ (.made l.fh ha) ha (l.fh.free ha) upd_same (rpL.mono l.f rl)⟩
end
end Dw

set_option Elab.async false
set_option linter.all false
set_option maxRecDepth 100000
set_option maxHeartbeats 4000000
/-! The layer, seventh part: max(xs, default=d). -/
namespace Dw
open PySem PyProof.Rows
section
variable {prog : Program} {w : World} {A : Around} {E : Value → Shared → Prop} {s : Shared}
abbrev dk : Str := Str.ofString "default"
theorem mxd_args (x d : Value) : argsOk "max" ⟨[x], [(dk, d)]⟩ := by
  unfold argsOk
  kernel_rfl
theorem mxd_call {x d : Value} {Q : Value → Shared → Prop} (body : wpAny (model prog w) A.in1 (Builtin.«max» ⟨[x], [(dk, d)]⟩) (fun fin s' => match fin with
      | .done f => (match (Except.ok f : Result) with
        | .ok (.ret v) => Q v s'
        | .ok _ => False
        | .error e => E e s')
      | .again c' => c'.quiet = true ∧ codeAny (model prog w) A c' (fun r s' => match r with
        | .ok (.ret v) => Q v s'
        | .ok _ => False
        | .error e => E e s') s') E s) : wpAny (model prog w) A (call (.builtin "max") [x] [(dk, d)]) Q E s := by
  refine wpAny_call (codeAny_call_builtin F.plain_max F.entry_max ?_)
  have ok := mxd_args x d
  simp only [checkBuiltinCall, F.kind_max]
  cases sg : Manifest.signature? "max" with
  | none => exact wpAny_pure body
  | some sig =>
    have ok2 : Bind.checkArgs "max" sig ⟨[x], [(dk, d)]⟩ = pure () := by simpa only [argsOk, sg] using ok
    simp only [ok2]
    exact wpAny_pure body
end
section
variable {prog : Program} {w : World} {A : Around} {R : Result → Shared → Prop} {it : Addr} {fp wr : List Addr} {n : Nat} {P : Nat → Value → Prop} {St : Nat → Heap → Prop}
theorem mxd_nm : (toString "max" ++ toString ".loop" : String) = "max.loop" := by decide
/-- from the j-th item on: vb is the greatest so far -/
theorem mxd_loop (W : Walks prog w A.in1 it fp wr n P St) (bt : Nat → Nat → Bool) (gt : CmpOf prog w A.in1 .Gt P bt) (b0 : Addr) (nf : b0 ∉ fp) (d : Value) :
    ∀ (k j : Nat) (s : Shared) (vb : Value) (c : Nat), j + 1 + k = n → St (j + 1) s.heap → P (argBest bt j) vb →
    s.heap.get? b0 = some { cls := .type "list", dict := none, data := .seq #[vb, vb] c, slots := #[] } →
    (∀ v h' tk, P (argBest bt (n - 1)) v → (∀ b o, b ∉ wr → b ≠ b0 → s.heap.get? b = some o → h'.get? b = some o) → R (.ok (.ret v)) { s with heap := h', toks := tk }) →
    codeAny (model prog w) A (.builtin "max.loop" ⟨[.ref it, .none, .ref b0], [(dk, d)]⟩) R s
  | 0, j, s, vb, c, hk, hst, best, hb, fin => by
    have nw : b0 ∉ wr := fun z => nf (W.sub _ z)
    have jn : j + 1 = n := by omega
    refine codeAny_builtin F.entry_max_loop ?_
    rw [Around.under_plainId F.plain_max_loop]
    show wpAny (model prog w) A.in1 (seqItems? (.ref b0) >>= _) _ _ s
    refine wpAny_bind (wpAny_seqItems hb rfl ?_)
    show wpAny (model prog w) A.in1 (tryCatch (pyNext (.ref it)) _ >>= _) _ _ s
    refine wpAny_bind (wpAny_tryCatch (W.done s _ _ (by rw [← jn]; exact hst) fun h1 t1 keep => ?_))
    have hb1 := keep b0 _ nw hb
    show wpAny (model prog w) A.in1 (updateSeq b0 (fun _ => #[]) >>= _) _ _ _
    refine wpAny_bind (wpAny_updateSeq hb1 rfl (wpAny_bind (wpAny_letGo (wpAny_pure ?_))))
    exact fin vb _ t1 (by rw [← jn]; exact best) fun b o b1 b2 e => (Heap.get?_update_other _ _ fun z => b2 z.symm).trans (keep b o b1 e)
  | k + 1, j, s, vb, c, hk, hst, best, hb, fin => by
    have nw : b0 ∉ wr := fun z => nf (W.sub _ z)
    have jn : j + 1 < n := by omega
    refine codeAny_builtin F.entry_max_loop ?_
    rw [Around.under_plainId F.plain_max_loop]
    show wpAny (model prog w) A.in1 (seqItems? (.ref b0) >>= _) _ _ s
    refine wpAny_bind (wpAny_seqItems hb rfl ?_)
    show wpAny (model prog w) A.in1 (tryCatch (pyNext (.ref it)) _ >>= _) _ _ s
    refine wpAny_bind (wpAny_tryCatch (W.item (j + 1) s _ _ jn hst fun v h1 t1 pv st1 keep => ?_))
    have hb1 := keep b0 _ nw hb
    show wpAny (model prog w) A.in1 (tryCatch (holding [v, v] (richCompare .Gt v vb >>= _)) _ >>= _) _ _ _
    refine wpAny_bind (wpAny_tryCatch (wpAny_holding (wpAny_bind (gt (j + 1) (argBest bt j) v vb _ _ _ pv best ?_))))
    refine wpAny_bind (wpAny_holding (wpAny_truthy_bool (wpAny_bind (wpAny_letGo (wpAny_pure ?_)))))
    cases gb : bt (j + 1) (argBest bt j) with
    | false =>
      simp only [Bool.false_eq_true, if_false]
      refine wpAny_bind (wpAny_letGo ?_)
      rw [mxd_nm]
      have best' : P (argBest bt (j + 1)) vb := by simp only [argBest, gb, Bool.false_eq_true, if_false]; exact best
      exact wpAny_pure ⟨plainId_quiet F.plain_max_loop _, mxd_loop W bt gt b0 nf d k (j + 1) _ vb c (by omega) st1 best' hb1 fun v2 h2 t2 p2 keep2 => fin v2 h2 t2 p2 fun b o b1 b2 e => keep2 b o b1 b2 (keep b o b1 e)⟩
    | true =>
      simp only [if_true]
      refine wpAny_bind (wpAny_updateSeq hb1 rfl (wpAny_bind (wpAny_letGo ?_)))
      rw [mxd_nm]
      have best' : P (argBest bt (j + 1)) v := by simp only [argBest, gb, if_true]; exact pv
      refine wpAny_pure ⟨plainId_quiet F.plain_max_loop _, mxd_loop W bt gt b0 nf d k (j + 1) _ v _ (by omega) (W.frame _ _ _ st1 fun b inf o e => ?_) best' (Heap.get?_update_self _ hb1 rfl) fun v2 h2 t2 p2 keep2 => ?_⟩
      · exact (Heap.get?_update_other _ _ (fun z : b0 = b => nf (z ▸ inf))).trans e
      · exact fin v2 h2 t2 p2 fun b o b1 b2 e => keep2 b o b1 b2 ((Heap.get?_update_other _ _ fun z => b2 z.symm).trans (keep b o b1 e))
/-- the first item, or d -/
theorem mxd_first (W : Walks prog w A.in1 it fp wr n P St) (bt : Nat → Nat → Bool) (gt : CmpOf prog w A.in1 .Gt P bt) (b0 : Addr) (nf : b0 ∉ fp) (d : Value) {s : Shared} {c : Nat} (hst : St 0 s.heap)
    (hb : s.heap.get? b0 = some { cls := .type "list", dict := none, data := .seq #[] c, slots := #[] })
    (fin : ∀ v h' tk, (if n = 0 then v = d else P (argBest bt (n - 1)) v) → (∀ b o, b ∉ wr → b ≠ b0 → s.heap.get? b = some o → h'.get? b = some o) → R (.ok (.ret v)) { s with heap := h', toks := tk }) :
    codeAny (model prog w) A (.builtin "max.loop" ⟨[.ref it, .none, .ref b0], [(dk, d)]⟩) R s := by
  have nw : b0 ∉ wr := fun z => nf (W.sub _ z)
  refine codeAny_builtin F.entry_max_loop ?_
  rw [Around.under_plainId F.plain_max_loop]
  show wpAny (model prog w) A.in1 (seqItems? (.ref b0) >>= _) _ _ s
  refine wpAny_bind (wpAny_seqItems hb rfl ?_)
  show wpAny (model prog w) A.in1 (tryCatch (pyNext (.ref it)) _ >>= _) _ _ s
  by_cases z : n = 0
  · subst z
    refine wpAny_bind (wpAny_tryCatch (W.done s _ _ hst fun h1 t1 keep => ?_))
    show wpAny (model prog w) A.in1 (rule _ >>= _) _ _ _
    refine wpAny_bind (wpAny_rule (wpAny_pure ?_))
    exact fin d h1 t1 (by rw [if_pos rfl]) fun b o b1 _ e => keep b o b1 e
  · refine wpAny_bind (wpAny_tryCatch (W.item 0 s _ _ (by omega) hst fun v h1 t1 pv st1 keep => ?_))
    have hb1 := keep b0 _ nw hb
    show wpAny (model prog w) A.in1 (updateSeq b0 (fun _ => #[v, v]) >>= _) _ _ _
    refine wpAny_bind (wpAny_updateSeq hb1 rfl ?_)
    rw [mxd_nm]
    refine wpAny_pure ⟨plainId_quiet F.plain_max_loop _, mxd_loop W bt gt b0 nf d (n - 1) 0 _ v _ (by omega) (W.frame _ _ _ st1 fun b inf o e => ?_) pv (Heap.get?_update_self _ hb1 rfl) fun v2 h2 t2 p2 keep2 => ?_⟩
    · exact (Heap.get?_update_other _ _ (fun z : b0 = b => nf (z ▸ inf))).trans e
    · exact fin v2 h2 t2 (by rw [if_neg z]; exact p2) fun b o b1 b2 e => keep2 b o b1 b2 ((Heap.get?_update_other _ _ fun z => b2 z.symm).trans (keep b o b1 e))
end
end Dw
namespace Dw
open PySem PyProof.Rows L2 Dv
open Rep (rp)
open RepA (ra)
section
variable {prog : Program} {w : World} {A : Around} {E : Value → Shared → Prop} {s : Shared} {a : Addr} {its : List Value} {ns : List Int} {Q : Value → Shared → Prop}
/-- the greatest of a list of whole numbers, or d -/
def Top (ns : List Int) (d m : Int) : Prop := if ns.length = 0 then m = d else m ∈ ns ∧ ∀ y ∈ ns, y ≤ m
theorem mxd_ints (hh : A.handled = none) (isl : s.heap.IsList a its.toArray) (hi : IntsAre its ns) (d : Int) (t : Tok)
    (fin : ∀ h' tk m t', (∀ b o, s.heap.get? b = some o → h'.get? b = some o) → Top ns d m → Q (.int m t') { s with heap := h', toks := tk }) :
    wpAny (model prog w) A (call (.builtin "max") [.ref a] [(dk, .int d t)]) Q E s := by
  obtain ⟨xs, e⟩ := hi.allInts.items
  have same : numsOf (intItems xs).toList = ns := by
    rw [← e]
    exact hi.numsOf
  rw [nums_intItems] at same
  rw [e] at isl
  refine mxd_call ?_
  show wpAny (model prog w) A.in1 (Builtin.Builtins.bindParams "max" ["key", "default"] 0 ⟨[], [(dk, .int d t)]⟩ >>= _) _ _ s
  refine wpAny_bind (wpAny_of_eq (show Builtin.Builtins.bindParams "max" ["key", "default"] 0 ⟨[], [(dk, .int d t)]⟩ = pure [none, some (.int d t)] from rfl) ?_)
  refine wpAny_bind (wpAny_pure (wpAny_bind (PySem.iter_intList isl fun s2 es st bd ne => ?_)))
  subst es
  refine wpAny_bind (wpAny_newObj_type ?_)
  rw [mxd_nm]
  refine wpAny_pure ⟨plainId_quiet F.plain_max_loop _, ?_⟩
  have W := Walks.list (prog := prog) (w := w) (A := A.in1) hh s.heap.objs.size a ne (intItems xs)
  refine mxd_first W (fun i j => decide (numAt xs i > numAt xs j)) (CmpOf.ints_gt (numAt xs) fun _ _ => intItems_at) _ (fun z => Nat.lt_irrefl _ (bd _ z)) _ ?_ (Heap.get?_push_size _ rfl) fun v h2 t2 pv keep => ?_
  · exact W.frame _ _ _ st fun b _ o q => Heap.get?_push_of_some _ q
  · have old : ∀ b o, s.heap.get? b = some o → h2.get? b = some o := fun b o q => by
      have lt := Heap.lt_size q
      refine keep b o (fun z => ?_) (fun z => ?_) (Heap.get?_push_of_some _ (Heap.get?_push_of_some _ q))
      · rw [List.mem_singleton.mp z] at lt
        exact Nat.lt_irrefl _ lt
      · have sz : (s.heap.push { cls := .type "list_iterator", data := .fields #[.ref a, .int 0 0] }).objs.size = s.heap.objs.size + 1 := Heap.size_push ..
        have z' : b = s.heap.objs.size + 1 := by rw [z]; exact sz
        rw [z'] at lt
        exact Nat.not_succ_lt_self lt
    have sz : (intItems xs).size = ns.length := by rw [← same]; simp [intItems]
    have xsz : xs.size = ns.length := by rw [← same]; simp
    rw [sz] at pv
    by_cases z : ns.length = 0
    · rw [if_pos z] at pv
      subst pv
      exact fin h2 t2 d t old (by unfold Top; rw [if_pos z])
    · rw [if_neg z] at pv
      obtain ⟨t3, rfl⟩ := intItems_at pv
      obtain ⟨g1, g2⟩ := argBest_gt (numAt xs) (ns.length - 1)
      refine fin h2 t2 _ t3 old ?_
      unfold Top
      rw [if_neg z, numAt_eq, same]
      have lt : argBest (fun i j => decide (numAt xs i > numAt xs j)) (ns.length - 1) < ns.length := by omega
      refine ⟨?_, fun y hy => ?_⟩
      · rw [List.getD_eq_getElem?_getD, List.getElem?_eq_getElem lt]
        exact List.getElem_mem lt
      · obtain ⟨j, hj, rfl⟩ := List.mem_iff_getElem.mp hy
        have := g2 j (by omega)
        rw [numAt_eq, numAt_eq, same] at this
        rw [List.getD_eq_getElem?_getD, List.getElem?_eq_getElem hj] at this
        exact this
end
def rMaxDf (K : PySem.W.Frag) : List V → List V → Hp → VK → Prop := fun vs zs H Q => ∃ (a : Addr) (ns : List Int) (d : Int), vs = [V.ref a] ∧ zs = [.int d] ∧ SqL K H a (ns.map V.int) ∧ ∀ m, Top ns d m → Q (.int m) H
theorem cr_maxDf {X : Cx} (hc : X.calm = true) : CallRK X (.builtin "max") [dk] (rMaxDf X.K) := by
  intro pins s σ H vs zs us ws Q I r rz h
  obtain ⟨a, ns, d, rfl, rfl, hs, q⟩ := h
  obtain ⟨its, rv, hl, _⟩ := I.list hs
  obtain rfl := Vals.ref1 r
  obtain ⟨w1, rfl, e1⟩ := vals1 rz
  obtain ⟨t, rfl⟩ := e1
  exact mxd_ints (I.ok.hd hc) hl.isList rv.ints d t fun h' tk m t' keep top => ⟨.int m, H, I.kept keep, ⟨_, rfl⟩, q m top⟩
section
variable {t td : TE} {σ : L2.St} {F H : Hp} {K : PySem.W.Frag}
theorem top_eq : ∀ {ns : List Int} {d m : Int}, Top ns d m → m = mxD ns d
  | [], d, m, h => by
    unfold Top at h
    rw [if_pos (show ([] : List Int).length = 0 from rfl)] at h
    exact h
  | x :: xs, d, m, h => by
    unfold Top at h
    rw [if_neg (by simp)] at h
    obtain ⟨h1, h2⟩ := h
    have a := mxD_mem x xs d
    have b := mxD_le x xs d
    have := h2 _ a
    have := b _ h1
    omega
theorem ev_maxD {m : Option (List Int)} {md : Option Int} (h : EV t σ F H m) (hd : EV td σ F H md) : EV (tCKw (rMaxDf K) (tCons t tNil) (tCons td tNil)) σ F H (m.bind fun xs => md.bind fun d => some (mxD xs d)) := fun F1 H1 l y e Q q => by
  obtain ⟨xs, ex, e⟩ := Option.bind_eq_some_iff.mp e
  obtain ⟨d, ed, e⟩ := Option.bind_eq_some_iff.mp e
  cases e
  refine h F1 H1 l xs ex _ fun v F2 H2 l2 ⟨p, vs, e1, e2, r⟩ => ?_
  refine hd F2 H2 (l.trans l2) d ed _ fun u F3 H3 l3 ru => ?_
  cases ru
  subst e1
  rw [rpL_ints r] at e2
  refine ⟨p, xs, d, rfl, rfl, sqL (l3.h _ _ (l2.fh _ _ e2)), fun m tp => q _ F3 H3 (l2.trans l3) ?_⟩
  rw [top_eq tp]
  rfl
end
end Dw
namespace Dw
open PySem L2 Dv
open Rep (rp)
section
variable {α β S R T : Type} [Rep α] [Rep β] {σ : L2.St} {F H : Hp} {cl : Er → Value} {W : WX} {t : TE}
/-- a while that stands last -/
theorem rd_whileRL {tc : TT} {tb : TS} {D : Ends} {r : T} {n : Nat} {c : S → Option Bool} {f : S → Option (Stp S R)} {s0 : S} {k : S → Option T} {k' : R → Option T} (hm : (whileR c f n s0).bind (fun st => st.elim k k') = some r)
    (P : S → L2.St → Hp → Hp → Prop) (h0 : P s0 σ F H) (hS : ∀ s σ' F' H', P s σ' F' H' → Same F' H') (hc : ∀ s σ' F' H', P s σ' F' H' → EVT tc σ' F' H' (c s))
    (hb : ∀ s σ' F' H' F2 H2, P s σ' F' H' → Lat F' H' F2 H2 → ∀ st, f s = some st → ∀ (D' : Ends), D'.rt = D.rt → (∀ s', st = .go s' → ∀ σ3 F3 H3, P s' σ3 F3 H3 → D'.nx σ3 H3) → (∀ y, st = .ret y → k' y = some r) → tb D' σ' H2)
    (hd : ∀ s σ' F' H' F2 H2, k s = some r → P s σ' F' H' → Lat F' H' F2 H2 → D.nx σ' H2) : tWhile tc tb D σ H :=
  rd_whileR (u := tNext) (D := D) hm P h0 hS hc hb hd
theorem ex_un {m : Rs (Option α)} (h : EX cl W t σ F H m) : EX cl W t σ F H (m.bind fun y => exB y fun x => x.bind fun z => some (.ok z)) := fun F1 H1 l z e Q q qe => by
  obtain ⟨y1, e1, e⟩ := Option.bind_eq_some_iff.mp e
  refine h F1 H1 l y1 e1 Q (fun x ex v F2 H2 l2 rv => ?_) (fun e2 ee F2 H2 l2 => ?_)
  · subst ex
    obtain ⟨w, ew, e⟩ := Option.bind_eq_some_iff.mp (show (x.bind fun z => some (.ok z)) = some z from e)
    subst ew
    cases e
    exact q w rfl v F2 H2 l2 rv
  · subst ee
    cases e
    exact qe e2 rfl F2 H2 l2
end
end Dw

set_option linter.all false
/-! Pure lemmas about the vocabulary. -/
namespace Q
open Dv
variable {α β S R : Type}
theorem loopR_any {f : Unit → α → Option (Stp Unit R)} (bad : α → Bool) (r : R) : ∀ {xs : List α}, (∀ x ∈ xs, f () x = some (if bad x = true then .ret r else .go ())) →
    loopR f () xs = some (if xs.any bad = true then .ret r else .go ())
  | [], _ => rfl
  | x :: xs, h => by
    have h1 := h x List.mem_cons_self
    have h2 := loopR_any bad r fun y hy => h y (List.mem_cons_of_mem _ hy)
    show (f () x).bind _ = _
    rw [h1]
    cases hb : bad x
    · simp [hb, h2]
    · simp [hb]
theorem loopG_inv {f : S → α → Option S} (I : List α → S → Prop) : ∀ {xs : List α} {pre : List α} {s : S}, I pre s →
    (∀ pre x s, I pre s → x ∈ xs → ∃ s', f s x = some s' ∧ I (pre ++ [x]) s') → ∃ s', loopG f s xs = some s' ∧ I (pre ++ xs) s'
  | [], pre, s, h, _ => ⟨s, rfl, by rw [List.append_nil]; exact h⟩
  | x :: xs, pre, s, h, hs => by
    obtain ⟨s1, e1, h1⟩ := hs pre x s h List.mem_cons_self
    obtain ⟨s2, e2, h2⟩ := loopG_inv I (xs := xs) h1 fun p y s i m => hs p y s i (List.mem_cons_of_mem _ m)
    refine ⟨s2, ?_, ?_⟩
    · show (f s x).bind _ = _
      rw [e1]
      exact e2
    · rw [show pre ++ x :: xs = pre ++ [x] ++ xs by simp]
      exact h2
/-- a loop that folds -/
theorem loopG_fold {f : S → α → Option S} (g : S → α → S) (I : S → Prop) : ∀ {xs : List α} {s : S}, I s → (∀ s x, I s → x ∈ xs → f s x = some (g s x) ∧ I (g s x)) → loopG f s xs = some (xs.foldl g s) ∧ I (xs.foldl g s)
  | [], s, h, _ => ⟨rfl, h⟩
  | x :: xs, s, h, hs => by
    obtain ⟨e1, h1⟩ := hs s x h List.mem_cons_self
    obtain ⟨e2, h2⟩ := loopG_fold g I (xs := xs) h1 fun s y i m => hs s y i (List.mem_cons_of_mem _ m)
    refine ⟨?_, h2⟩
    show (f s x).bind _ = _
    rw [e1]
    exact e2
theorem rng_nat {a b : Int} (h1 : -1000000 ≤ a) (h2 : a ≤ 1000000) (h3 : -1000000 ≤ b) (h4 : b ≤ 1000000) : rng a b = some ((List.range (b - a).toNat).map fun i => a + (i : Nat)) := by
  unfold rng
  rw [if_pos (by omega)]
theorem rng0 {n : Nat} (h : n ≤ 1000000) : rng 0 (n : Int) = some ((List.range n).map fun i => ((i : Nat) : Int)) := by
  rw [rng_nat (by omega) (by omega) (by omega) (by omega)]
  have e : ((n : Int) - 0).toNat = n := by omega
  rw [e]
  congr 1
  exact List.map_congr_left fun i _ => by omega
theorem mem_rng {a b : Int} {xs : List Int} (h : rng a b = some xs) (x : Int) : x ∈ xs ↔ a ≤ x ∧ x < b := by
  unfold rng at h
  split at h
  · cases h
    rw [List.mem_map]
    constructor
    · rintro ⟨i, hi, rfl⟩
      have := List.mem_range.mp hi
      omega
    · rintro ⟨h1, h2⟩
      exact ⟨(x - a).toNat, List.mem_range.mpr (by omega), by omega⟩
  · cases h
theorem atZ_nat (xs : List α) (k : Nat) : atZ xs (k : Int) = xs[k]? := by
  unfold atZ ixZ
  rw [if_pos (by omega)]
  by_cases h : k < xs.length
  · rw [if_pos (by omega)]
    simp
  · rw [if_neg (by omega)]
    simp [Nat.not_lt.mp h]
theorem atZ_get {xs : List α} {i : Int} (h0 : 0 ≤ i) (h1 : i < xs.length) : ∃ x, atZ xs i = some x ∧ xs[i.toNat]? = some x := by
  have e : ((i.toNat : Nat) : Int) = i := by omega
  have e2 := atZ_nat xs i.toNat
  rw [e] at e2
  have e3 : xs[i.toNat]? = some (xs[i.toNat]'(by omega)) := by simp
  exact ⟨_, e2.trans e3, e3⟩
theorem atZ_mem {xs : List α} {i : Int} {x : α} (h : atZ xs i = some x) : x ∈ xs := by
  unfold atZ at h
  obtain ⟨j, _, e⟩ := Option.bind_eq_some_iff.mp h
  exact List.mem_of_getElem? e
theorem lcG_all {c : α → Option Bool} {f : α → Option β} (p : α → Bool) (g : α → β) : ∀ {xs : List α}, (∀ x ∈ xs, c x = some (p x)) → (∀ x ∈ xs, p x = true → f x = some (g x)) → lcG c f xs = some ((xs.filter p).map g)
  | [], _, _ => rfl
  | x :: xs, h1, h2 => by
    have e := lcG_all p g (fun y hy => h1 y (List.mem_cons_of_mem _ hy)) fun y hy => h2 y (List.mem_cons_of_mem _ hy)
    show (c x).bind _ = _
    rw [h1 x List.mem_cons_self]
    cases hp : p x
    · simp [hp, e]
    · simp [hp, e, h2 x List.mem_cons_self hp]
theorem lc_all {c : α → Option Bool} {f : α → Option β} (p : α → Bool) (g : α → β) {xs : List α} (hl : xs.length < 10000000) (h1 : ∀ x ∈ xs, c x = some (p x)) (h2 : ∀ x ∈ xs, p x = true → f x = some (g x)) : lc c f xs = some ((xs.filter p).map g) := by
  unfold lc
  rw [if_pos hl]
  exact lcG_all p g h1 h2
theorem lc_map {f : α → Option β} (g : α → β) {xs : List α} (hl : xs.length < 10000000) (h2 : ∀ x ∈ xs, f x = some (g x)) : lc (fun _ => some true) f xs = some (xs.map g) := by
  rw [lc_all (fun _ => true) g hl (fun _ _ => rfl) fun x hx _ => h2 x hx]
  rw [List.filter_eq_self.mpr fun _ _ => rfl]
theorem modZ_pos {i j : Int} (h : 0 < j) : modZ i j = some (i % j) := if_pos h
theorem divZ_pos {i j : Int} (h : 0 < j) (h2 : j < 1073741824) : divZ i j = some (i / j) := if_pos ⟨h, h2⟩
theorem mulZ_r {i j : Int} (h : -1000000000000000000 < j) (h2 : j < 1000000000000000000) : mulZ i j = some (i * j) := if_pos (.inr (by omega))
theorem mulZ_l {i j : Int} (h : -1000000000000000000 < i) (h2 : i < 1000000000000000000) : mulZ i j = some (i * j) := if_pos (.inl (by omega))
theorem addL_ok {xs : List α} {y : α} (h : xs.length < 1000000) : addL xs y = some (xs ++ [y]) := if_pos (by omega)
theorem catL_ok {xs ys : List α} (h : xs.length + ys.length < 1000000) : catL xs ys = some (xs ++ ys) := if_pos (by omega)
theorem emod_bd (a : Int) {b : Int} (h : 0 < b) : 0 ≤ a % b ∧ a % b < b := ⟨Int.emod_nonneg _ (by omega), Int.emod_lt_of_pos _ h⟩
theorem cutZ_len (xs : List α) (lo hi : Option Int) : (cutZ xs lo hi).length ≤ xs.length := by
  unfold cutZ
  rw [List.length_take, List.length_drop]
  omega
theorem cutIx_nat (n d k : Nat) : cutIx n d (some (k : Int)) = min k n := by
  show (if (k : Int) < 0 then ((k : Int) + (n : Int)).toNat else min (k : Int).toNat n) = _
  rw [if_neg (by omega)]
  simp
theorem cutZ_upto (xs : List α) (k : Nat) : cutZ xs none (some (k : Int)) = xs.take k := by
  unfold cutZ
  rw [cutIx_nat]
  show List.take (min k xs.length - 0) (xs.drop 0) = _
  rw [List.drop_zero, Nat.sub_zero]
  by_cases h : k ≤ xs.length
  · rw [Nat.min_eq_left h]
  · rw [Nat.min_eq_right (by omega), List.take_of_length_le (Nat.le_refl _), List.take_of_length_le (by omega)]
theorem cutZ_from (xs : List α) (k : Nat) : cutZ xs (some (k : Int)) none = xs.drop k := by
  unfold cutZ
  rw [cutIx_nat]
  show List.take (xs.length - min k xs.length) _ = _
  rw [List.take_of_length_le (by rw [List.length_drop]; omega)]
  by_cases h : k ≤ xs.length
  · rw [Nat.min_eq_left h]
  · rw [Nat.min_eq_right (by omega), List.drop_of_length_le (Nat.le_refl _), List.drop_of_length_le (by omega)]
end Q
namespace Q
open Dv
variable {α β S R : Type}
/-- a loop by what is still to come -/
theorem loopG_rem {f : S → α → Option S} (I : List α → S → Prop) : ∀ {xs : List α} {s : S}, I xs s → (∀ x rest s, I (x :: rest) s → ∃ s', f s x = some s' ∧ I rest s') → ∃ s', loopG f s xs = some s' ∧ I [] s'
  | [], s, h, _ => ⟨s, rfl, h⟩
  | x :: xs, s, h, hs => by
    obtain ⟨s1, e1, h1⟩ := hs x xs s h
    obtain ⟨s2, e2, h2⟩ := loopG_rem I (xs := xs) h1 hs
    refine ⟨s2, ?_, h2⟩
    show (f s x).bind _ = _
    rw [e1]
    exact e2
theorem rng_lt {a b : Int} {xs : List Int} (h : rng a b = some xs) : xs.Pairwise (· < ·) := by
  unfold rng at h
  split at h
  · cases h
    rw [List.pairwise_map]
    exact List.Pairwise.imp (fun {i j} h => by omega) List.pairwise_lt_range
  · cases h
theorem pairwise_adj {r : α → α → Prop} (tr : ∀ a b c, r a b → r b c → r a c) : ∀ {l : List α}, (∀ k a b, l[k]? = some a → l[k + 1]? = some b → r a b) → l.Pairwise r
  | [], _ => .nil
  | [x], _ => by simp
  | x :: y :: l, h => by
    have ih := pairwise_adj tr (l := y :: l) fun k a b h1 h2 => h (k + 1) a b (by simpa using h1) (by simpa using h2)
    have h0 : r x y := h 0 x y rfl rfl
    refine List.pairwise_cons.mpr ⟨fun z hz => ?_, ih⟩
    rcases List.mem_cons.mp hz with rfl | hz
    · exact h0
    · exact tr _ _ _ h0 ((List.pairwise_cons.mp ih).1 z hz)
theorem pairwise_get {r : α → α → Prop} {l : List α} (h : l.Pairwise r) {i j : Nat} {a b : α} (hij : i < j) (ha : l[i]? = some a) (hb : l[j]? = some b) : r a b := by
  obtain ⟨h1, rfl⟩ := List.getElem?_eq_some_iff.mp ha
  obtain ⟨h2, rfl⟩ := List.getElem?_eq_some_iff.mp hb
  exact List.pairwise_iff_getElem.mp h i j h1 h2 hij
end Q
namespace Q
open Dv
variable {α β S R : Type}
/-- a loop that folds, by what is still to come -/
theorem loopG_fr {f : S → α → Option S} (g : S → α → S) (I : List α → S → Prop) : ∀ {xs : List α} {s : S}, I xs s → (∀ x rest s, I (x :: rest) s → f s x = some (g s x) ∧ I rest (g s x)) → loopG f s xs = some (xs.foldl g s) ∧ I [] (xs.foldl g s)
  | [], s, h, _ => ⟨rfl, h⟩
  | x :: xs, s, h, hs => by
    obtain ⟨e1, h1⟩ := hs x xs s h
    obtain ⟨e2, h2⟩ := loopG_fr g I (xs := xs) h1 hs
    refine ⟨?_, h2⟩
    show (f s x).bind _ = _
    rw [e1]
    exact e2
theorem loopG_eq {f : S → α → Option S} (g : S → α → S) {xs : List α} {s : S} (h : ∀ s x, x ∈ xs → f s x = some (g s x)) : loopG f s xs = some (xs.foldl g s) :=
  (loopG_fold g (fun _ => True) (xs := xs) (s := s) trivial fun s x _ hx => ⟨h s x hx, trivial⟩).1
end Q
namespace Q
open Dv
variable {α β S R : Type}
/-- ends, with such an answer -/
def Ok (m : Option α) (P : α → Prop) : Prop := ∃ x, m = some x ∧ P x
theorem Ok.mk {x : α} {P : α → Prop} (h : P x) : Ok (some x) P := ⟨x, rfl, h⟩
theorem Ok.imp {m : Option α} {P P' : α → Prop} (h : Ok m P) (k : ∀ x, P x → P' x) : Ok m P' := h.elim fun x h => ⟨x, h.1, k x h.2⟩
theorem Ok.of {m : Option α} {x : α} {P : α → Prop} (e : m = some x) (h : P x) : Ok m P := ⟨x, e, h⟩
theorem Ok.bind {m : Option α} {f : α → Option β} {P : α → Prop} {P' : β → Prop} (h : Ok m P) (k : ∀ x, P x → Ok (f x) P') : Ok (m.bind f) P' := by
  obtain ⟨x, e, hx⟩ := h
  obtain ⟨y, e2, hy⟩ := k x hx
  exact ⟨y, by rw [e]; exact e2, hy⟩
theorem Ok.get {m : Option α} {x : α} (h : Ok m fun y => y = x) : m = some x := h.elim fun y h => by rw [h.1, h.2]
/-- a step of a block -/
theorem stp {m : Option α} {f : α → Option β} {r : Option β} (P : α → Prop) (h : Ok m P) (k : ∀ x, P x → f x = r) : m.bind f = r := by
  obtain ⟨x, e, hx⟩ := h
  rw [e]
  exact k x hx
end Q
namespace Q
open Dv
variable {α β S R : Type}
/-- a loop by places -/
theorem loopG_ix {f : S → Int → Option S} (I : Nat → S → Prop) {s : S} (h0 : I 0 s) : ∀ {N : Nat}, (∀ i s, i < N → I i s → Ok (f s (i : Int)) (I (i + 1))) → Ok (loopG f s ((List.range N).map fun i => ((i : Nat) : Int))) (I N)
  | 0, _ => ⟨s, rfl, h0⟩
  | N + 1, h => by
    have app : ∀ (xs : List Int) (s0 s1 : S) (y : Int), loopG f s0 xs = some s1 → loopG f s0 (xs ++ [y]) = f s1 y := by
      intro xs
      induction xs with
      | nil =>
        intro s0 s1 y e
        cases e
        show (f s0 y).bind _ = _
        cases f s0 y <;> rfl
      | cons x xs ih =>
        intro s0 s1 y e
        obtain ⟨s2, e1, e2⟩ := Option.bind_eq_some_iff.mp (show (f s0 x).bind (fun s' => loopG f s' xs) = some s1 from e)
        show (f s0 x).bind (fun s' => loopG f s' (xs ++ [y])) = _
        rw [e1]
        exact ih s2 s1 y e2
    obtain ⟨s1, e1, i1⟩ := loopG_ix I h0 (N := N) fun i s hi => h i s (by omega)
    rw [List.range_succ, List.map_append, List.map_singleton]
    obtain ⟨s2, e2, i2⟩ := h N s1 (by omega) i1
    exact ⟨s2, by rw [app _ _ _ _ e1, e2], i2⟩
end Q
namespace Q
open Dv
/-- what holds of a turn's end -/
def StpP {S ρ : Type} (I : S → Prop) (Pr : ρ → Prop) : Stp S ρ → Prop
  | .go s => I s
  | .ret r => Pr r
theorem loopR_pre {α S ρ : Type} {f : S → α → Option (Stp S ρ)} (I : Nat → S → Prop) (Pr : ρ → Prop) : ∀ {xs : List α} {k : Nat} {s : S}, I k s → (∀ i s x, k ≤ i → xs[i - k]? = some x → I i s → Ok (f s x) (StpP (I (i + 1)) Pr)) →
    Ok (loopR f s xs) (StpP (I (k + xs.length)) Pr)
  | [], k, s, h, _ => ⟨.go s, rfl, h⟩
  | x :: xs, k, s, h, hs => by
    obtain ⟨st, e, hst⟩ := hs k s x (Nat.le_refl _) (by simp) h
    cases st with
    | go s1 =>
      obtain ⟨st2, e2, h2⟩ := loopR_pre I Pr (xs := xs) (k := k + 1) (s := s1) hst fun i s y hi hy hI => hs i s y (by omega) (by
        have : i - k = i - (k + 1) + 1 := by omega
        rw [this]
        simpa using hy) hI
      refine ⟨st2, ?_, by rw [List.length_cons, show k + (xs.length + 1) = k + 1 + xs.length by omega]; exact h2⟩
      show (f s x).bind _ = _
      rw [e]
      exact e2
    | ret r =>
      refine ⟨.ret r, ?_, hst⟩
      show (f s x).bind _ = _
      rw [e]
      rfl
theorem loopR_ix {S ρ : Type} {f : S → Int → Option (Stp S ρ)} (I : Nat → S → Prop) (Pr : ρ → Prop) {N : Nat} {s : S} (h0 : I 0 s) (hs : ∀ i s, i < N → I i s → Ok (f s (i : Int)) (StpP (I (i + 1)) Pr)) :
    Ok (loopR f s ((List.range N).map fun i => ((i : Nat) : Int))) (StpP (I N) Pr) := by
  have := loopR_pre (f := f) I Pr (xs := (List.range N).map fun i => ((i : Nat) : Int)) (k := 0) h0 fun i s x _ hx hI => by
    rw [Nat.sub_zero, List.getElem?_map] at hx
    by_cases c : i < N
    · rw [List.getElem?_range c] at hx
      cases hx
      exact hs i s c hI
    · rw [List.getElem?_eq_none (by simpa using c)] at hx
      cases hx
  simpa using this
end Q

set_option linter.all false
/-! Webs: drawn by a law, and looked at. -/
namespace Q
open Dv
def is_web (points : Int) (ties : List (Int × Int)) : Option Bool :=
  ((if (decide (points < 0)) = true then some true else (if (decide (7 < points)) = true then some true else some (decide (12 < (ties.length : Int)))))).bind fun b1 => if b1 = true then
    some false
  else
  (rng 0 (ties.length : Int)).bind fun xs2 => (loopR (S := Unit) (R := Bool) (fun (s3 : Unit) (q4 : Int) =>
      (atZ ties q4).bind fun p8 =>
      ((if (decide (p8.1 < 0)) = true then some true else (if (decide (p8.2 ≤ p8.1)) = true then some true else some (decide (points ≤ p8.2))))).bind fun b9 => if b9 = true then
        (some false).bind fun y10 => some (.ret y10)
      else
      ((if (decide (0 < q4)) = true then (atZ ties q4).bind fun y11 => (atZ ties (q4 - 1)).bind fun y12 => some (leP y11 y12) else some false)).bind fun b13 => if b13 = true then
        (some false).bind fun y14 => some (.ret y14)
      else
      some (.go ())) () xs2).bind fun st5 => st5.elim (fun s6 =>
  some true) (fun y7 => some y7)
def cell_at (script : List Int) (k : Int) : Option Int :=
  (some (decide (k < (script.length : Int)))).bind fun b15 => if b15 = true then
    atZ script k
  else
  some 0
def next (seed : Int) : Option Int :=
  ((mulZ seed 48271).bind fun y17 => some (y17 + 12345)).bind fun y18 => modZ y18 2147483647
def web_by (script : List Int) (k : Int) (most : Int) (cap : Int) : Option (Int × (List (Int × Int))) :=
  ((cell_at script k).bind fun y19 => modZ y19 (most + 1)).bind fun points_20 =>
  (((cell_at script (k + 1)).bind fun y21 => some (y21, ())).bind fun a22 => next a22.1).bind fun seed_23 =>
  (((cell_at script (k + 2)).bind fun y24 => modZ y24 4).bind fun y25 => some (1 + y25)).bind fun thick_26 =>
  (some []).bind fun ties_27 =>
  (rng 0 points_20).bind fun xs28 => (loopG (S := Int × (List (Int × Int))) (fun (s29 : Int × (List (Int × Int))) (q30 : Int) =>
      (rng (q30 + 1) points_20).bind fun xs34 => (loopG (S := Int × (List (Int × Int))) (fun (s35 : Int × (List (Int × Int))) (q36 : Int) =>
          ((
            ((((divZ s35.1 16).bind fun y45 => modZ y45 4).bind fun y46 => some (decide (y46 < thick_26))).bind fun y47 => (if y47 = true then some (decide ((s35.2.length : Int) < cap)) else some false)).bind fun b48 => if b48 = true then
              (addL s35.2 (q30, q36)).bind fun ties_49 =>
              some ties_49
            else
              some s35.2 : Option ((List (Int × Int))))).bind fun s44 =>
          (next s35.1).bind fun seed_50 =>
          some (seed_50, s44)) (s29.1, s29.2) xs34).bind fun s38 =>
      some (s38.1, s38.2)) (seed_23, ties_27) xs28).bind fun s32 =>
  some (points_20, s32.2)
/-- the order of ties -/
def ltT (a b : Int × Int) : Prop := a.1 < b.1 ∨ (a.1 = b.1 ∧ a.2 < b.2)
instance (a b : Int × Int) : Decidable (ltT a b) := inferInstanceAs (Decidable (_ ∨ _))
theorem ltT_trans (a b c : Int × Int) (h1 : ltT a b) (h2 : ltT b c) : ltT a c := by
  unfold ltT at *
  omega
theorem ltT_not_le (a b : Int × Int) : leP a b = false ↔ ltT b a := by
  unfold leP ltT
  split <;> simp only [decide_eq_false_iff_not] <;> omega
/-- a tie of p points -/
def Tie (p : Int) (t : Int × Int) : Prop := 0 ≤ t.1 ∧ t.1 < t.2 ∧ t.2 < p
instance (p : Int) (t : Int × Int) : Decidable (Tie p t) := inferInstanceAs (Decidable (_ ∧ _ ∧ _))
structure Ties (p : Int) (ts : List (Int × Int)) : Prop where
  tie : ∀ t ∈ ts, Tie p t
  ord : ts.Pairwise ltT
instance (p : Int) (ts : List (Int × Int)) : Decidable (Ties p ts) := decidable_of_iff ((∀ t ∈ ts, Tie p t) ∧ ts.Pairwise ltT) ⟨fun h => ⟨h.1, h.2⟩, fun h => ⟨h.1, h.2⟩⟩
def Web (p : Int) (ts : List (Int × Int)) : Prop := (0 ≤ p ∧ p ≤ 7) ∧ ts.length ≤ 12 ∧ Ties p ts
instance (p : Int) (ts : List (Int × Int)) : Decidable (Web p ts) := inferInstanceAs (Decidable (_ ∧ _ ∧ _))
def badAt (p : Int) (ts : List (Int × Int)) (k : Int) : Bool := match atZ ts k with
  | some t => decide (¬ Tie p t) || (decide (0 < k) && match atZ ts (k - 1) with
    | some u => leP t u
    | none => false)
  | none => false
theorem is_web_eq (p : Int) (ts : List (Int × Int)) (h : ts.length ≤ 1000) : is_web p ts = some (decide (Web p ts)) := by
  unfold is_web
  by_cases c : (p < 0 ∨ 7 < p) ∨ 12 < ts.length
  · have n : ¬ Web p ts := fun ⟨h1, h2, _⟩ => by omega
    have e : (if decide (p < 0) = true then some true else if decide (7 < p) = true then some true else some (decide (12 < (ts.length : Int)))) = some true := by
      by_cases h1 : p < 0
      · simp [h1]
      · by_cases h2 : 7 < p
        · simp [h1, h2]
        · have : 12 < (ts.length : Int) := by omega
          simp [h1, h2, this]
    rw [e, Option.bind_some, if_pos rfl, decide_eq_false n]
  · have e : (if decide (p < 0) = true then some true else if decide (7 < p) = true then some true else some (decide (12 < (ts.length : Int)))) = some false := by
      have h1 : ¬ p < 0 := by omega
      have h2 : ¬ 7 < p := by omega
      have h3 : ¬ 12 < (ts.length : Int) := by omega
      simp [h1, h2, h3]
    rw [e, Option.bind_some, if_neg Bool.false_ne_true, rng0 (by omega), Option.bind_some]
    rw [loopR_any (badAt p ts) false]
    · have key : ((List.range ts.length).map fun i => ((i : Nat) : Int)).any (badAt p ts) = decide (¬ Web p ts) := by
        rw [Bool.eq_iff_iff, List.any_eq_true, decide_eq_true_iff]
        constructor
        · rintro ⟨k, hk, hb⟩ ⟨_, _, w⟩
          obtain ⟨i, hi, rfl⟩ := List.mem_map.mp hk
          have hi := List.mem_range.mp hi
          unfold badAt at hb
          rw [atZ_nat] at hb
          have ei : ts[i]? = some ts[i] := by simp [hi]
          rw [ei] at hb
          simp only [Bool.or_eq_true, decide_eq_true_eq, Bool.and_eq_true] at hb
          rcases hb with hb | ⟨h0, hb⟩
          · exact hb (w.tie _ (List.mem_of_getElem? ei))
          · have e1 : ((i : Int) - 1) = ((i - 1 : Nat) : Int) := by omega
            rw [e1, atZ_nat] at hb
            have ej : ts[i - 1]? = some (ts[i - 1]'(by omega)) := by simp
            rw [ej] at hb
            have := (ltT_not_le _ _).mpr (pairwise_get w.ord (show i - 1 < i by omega) ej ei)
            dsimp only at hb
            rw [this] at hb
            cases hb
        · intro nw
          refine Decidable.byContradiction fun no => nw ⟨by omega, by omega, ?_⟩
          have all : ∀ i, i < ts.length → badAt p ts (i : Int) = false := fun i hi => by
            refine Bool.eq_false_iff.mpr fun q => no ⟨(i : Int), List.mem_map.mpr ⟨i, List.mem_range.mpr hi, rfl⟩, q⟩
          refine ⟨fun t ht => ?_, pairwise_adj ltT_trans fun k a b ha hb => ?_⟩
          · obtain ⟨i, hi⟩ := List.mem_iff_getElem?.mp ht
            have hl := (List.getElem?_eq_some_iff.mp hi).1
            have q := all i hl
            unfold badAt at q
            rw [atZ_nat, hi] at q
            simp only [Bool.or_eq_false_iff, decide_eq_false_iff_not, Decidable.not_not] at q
            exact q.1
          · have hl := (List.getElem?_eq_some_iff.mp hb).1
            have q := all (k + 1) hl
            unfold badAt at q
            rw [atZ_nat, hb] at q
            have e1 : (((k + 1 : Nat) : Int) - 1) = ((k : Nat) : Int) := by omega
            simp only [e1, atZ_nat, ha, Bool.or_eq_false_iff, Bool.and_eq_false_iff, decide_eq_false_iff_not] at q
            refine (ltT_not_le _ _).mp ?_
            rcases q.2 with q | q
            · omega
            · exact q
      rw [key]
      by_cases w : Web p ts
      · simp [w]
      · simp [w]
    · intro k hk
      obtain ⟨i, hi, rfl⟩ := List.mem_map.mp hk
      have hi := List.mem_range.mp hi
      obtain ⟨t, ei⟩ : ∃ t, ts[i]? = some t := ⟨ts[i], by simp [hi]⟩
      unfold badAt
      rw [atZ_nat, ei, Option.bind_some]
      by_cases ht : Tie p t
      · obtain ⟨h1, h2, h3⟩ := id ht
        have g1 : ¬ t.1 < 0 := by omega
        have g2 : ¬ t.2 ≤ t.1 := by omega
        have g3 : ¬ p ≤ t.2 := by omega
        simp only [g1, g2, g3, decide_false, Bool.false_eq_true, ↓reduceIte, Option.bind_some, ht, not_true_eq_false, Bool.false_or]
        by_cases h0 : 0 < (i : Int)
        · have e1 : ((i : Int) - 1) = ((i - 1 : Nat) : Int) := by omega
          have ej : ts[i - 1]? = some (ts[i - 1]'(by omega)) := by simp
          simp only [h0, decide_true, ↓reduceIte, e1, atZ_nat, ei, ej, Option.bind_some, Bool.true_and]
          split <;> rfl
        · simp only [h0, decide_false, Bool.false_eq_true, ↓reduceIte, Option.bind_some, Bool.false_and]
      · have e2 : (if decide (t.1 < 0) = true then some true else if decide (t.2 ≤ t.1) = true then some true else some (decide (p ≤ t.2))) = some true := by
          unfold Tie at ht
          by_cases g1 : t.1 < 0
          · simp [g1]
          · by_cases g2 : t.2 ≤ t.1
            · simp [g1, g2]
            · have g3 : p ≤ t.2 := by omega
              simp [g1, g2, g3]
        rw [e2, Option.bind_some, if_pos rfl]
        simp [ht]
def cell (ns : List Int) (k : Int) : Int := ns.getD k.toNat 0
theorem cell_at_eq (ns : List Int) {k : Int} (h : 0 ≤ k) : cell_at ns k = some (cell ns k) := by
  unfold cell_at cell
  rw [Option.bind_some]
  by_cases c : k < (ns.length : Int)
  · obtain ⟨x, e1, e2⟩ := atZ_get h c
    rw [decide_eq_true c, if_pos rfl, e1, List.getD_eq_getElem?_getD, e2]
    rfl
  · rw [decide_eq_false c, if_neg Bool.false_ne_true, List.getD_eq_getElem?_getD, List.getElem?_eq_none (by omega)]
    rfl
def nxt (s : Int) : Int := (s * 48271 + 12345) % 2147483647
theorem next_eq (s : Int) : next s = some (nxt s) := by
  unfold next nxt
  rw [mulZ_r (by decide) (by decide), Option.bind_some, Option.bind_some, modZ_pos (by decide)]
/-- what a turn of the inner loop keeps -/
structure Inn (p lo : Int) (cap : Int) (rem : List Int) (s : Int × List (Int × Int)) : Prop where
  tie : ∀ t ∈ s.2, Tie p t
  ord : s.2.Pairwise ltT
  len : (s.2.length : Int) ≤ max cap 0
  small : s.2.length ≤ 100000
  lt : ∀ t ∈ s.2, t.1 < lo ∨ (t.1 = lo ∧ ∀ y ∈ rem, t.2 < y)
  rp : rem.Pairwise (· < ·)
  bd : ∀ y ∈ rem, lo < y ∧ y < p
structure Out (p : Int) (cap : Int) (rem : List Int) (s : Int × List (Int × Int)) : Prop where
  tie : ∀ t ∈ s.2, Tie p t
  ord : s.2.Pairwise ltT
  len : (s.2.length : Int) ≤ max cap 0
  small : s.2.length ≤ 100000
  lt : ∀ t ∈ s.2, ∀ x ∈ rem, t.1 < x
  rp : rem.Pairwise (· < ·)
  bd : ∀ x ∈ rem, 0 ≤ x ∧ x < p
theorem web_by_spec (ns : List Int) {k most cap : Int} (hk : 0 ≤ k) (h0 : 0 ≤ most) (h1 : most ≤ 1000) (hc : cap ≤ 1000) :
    ∃ p ts, web_by ns k most cap = some (p, ts) ∧ (0 ≤ p ∧ p ≤ most) ∧ (ts.length : Int) ≤ max cap 0 ∧ Ties p ts := by
  unfold web_by
  rw [cell_at_eq ns hk, Option.bind_some, modZ_pos (by omega), Option.bind_some, cell_at_eq ns (show 0 ≤ k + 1 by omega), Option.bind_some, Option.bind_some, next_eq, Option.bind_some, cell_at_eq ns (show 0 ≤ k + 2 by omega), Option.bind_some, modZ_pos (by decide),
    Option.bind_some, Option.bind_some, Option.bind_some]
  obtain ⟨p0, p1⟩ := emod_bd (cell ns k) (show 0 < most + 1 by omega)
  generalize cell ns k % (most + 1) = p at *
  generalize 1 + cell ns (k + 2) % 4 = thick
  rw [rng_nat (by omega) (by omega) (by omega) (by omega), Option.bind_some]
  generalize hxs : (List.range (p - 0).toNat).map (fun i => (0 : Int) + (i : Nat)) = xs
  have hx : rng 0 p = some xs := by rw [rng_nat (by omega) (by omega) (by omega) (by omega), hxs]
  have L1 := fun hs => loopG_rem (f := (fun (s29 : Int × (List (Int × Int))) (q30 : Int) =>
      (rng (q30 + 1) p).bind fun xs34 => (loopG (S := Int × (List (Int × Int))) (fun (s35 : Int × (List (Int × Int))) (q36 : Int) =>
          ((
            ((((divZ s35.1 16).bind fun y45 => modZ y45 4).bind fun y46 => some (decide (y46 < thick))).bind fun y47 => (if y47 = true then some (decide ((s35.2.length : Int) < cap)) else some false)).bind fun b48 => if b48 = true then
              (addL s35.2 (q30, q36)).bind fun ties_49 =>
              some ties_49
            else
              some s35.2 : Option ((List (Int × Int))))).bind fun s44 =>
          (next s35.1).bind fun seed_50 =>
          some (seed_50, s44)) (s29.1, s29.2) xs34).bind fun s38 =>
      some (s38.1, s38.2))) (Out p cap) (xs := xs) (s := (nxt (cell ns (k + 1)), [])) ⟨by simp, by simp, by simp; omega, by simp, by simp, rng_lt hx, fun x hx' => by
      have := (mem_rng hx x).mp hx'
      omega⟩ hs
  refine Exists.elim (L1 ?_) ?_
  rotate_left
  · rintro s' ⟨e, o⟩
    rw [e, Option.bind_some]
    exact ⟨p, s'.2, rfl, by omega, o.len, o.tie, o.ord⟩
  · intro x rest s O
    obtain ⟨bx0, bx1⟩ := O.bd x List.mem_cons_self
    have hr : rng (x + 1) p = some ((List.range (p - (x + 1)).toNat).map fun i => (x + 1) + (i : Nat)) := rng_nat (by omega) (by omega) (by omega) (by omega)
    generalize hys : (List.range (p - (x + 1)).toNat).map (fun i => (x + 1) + ((i : Nat) : Int)) = ys at hr
    rw [hr, Option.bind_some]
    have L2 := fun hs => loopG_rem (f := (fun (s35 : Int × (List (Int × Int))) (q36 : Int) =>
          ((
            ((((divZ s35.1 16).bind fun y45 => modZ y45 4).bind fun y46 => some (decide (y46 < thick))).bind fun y47 => (if y47 = true then some (decide ((s35.2.length : Int) < cap)) else some false)).bind fun b48 => if b48 = true then
              (addL s35.2 (x, q36)).bind fun ties_49 =>
              some ties_49
            else
              some s35.2 : Option ((List (Int × Int))))).bind fun s44 =>
          (next s35.1).bind fun seed_50 =>
          some (seed_50, s44))) (Inn p x cap) (xs := ys) (s := (s.1, s.2)) ⟨O.tie, O.ord, O.len, O.small, fun t ht => .inl (O.lt t ht x List.mem_cons_self), rng_lt hr, fun y hy => by
        have := (mem_rng hr y).mp hy
        omega⟩ hs
    refine Exists.elim (L2 ?_) ?_
    rotate_left
    · rintro s2 ⟨e2, o2⟩
      rw [e2, Option.bind_some]
      refine ⟨_, rfl, o2.tie, o2.ord, o2.len, o2.small, fun t ht z hz => ?_, (List.pairwise_cons.mp O.rp).2, fun z hz => O.bd z (List.mem_cons_of_mem _ hz)⟩
      have hxz := (List.pairwise_cons.mp O.rp).1 z hz
      rcases o2.lt t ht with q | ⟨q, _⟩ <;> omega
    · intro y rest2 s3 O3
      obtain ⟨by0, by1⟩ := O3.bd y List.mem_cons_self
      have rest : ∀ t ∈ s3.2, t.1 < x ∨ (t.1 = x ∧ ∀ z ∈ rest2, t.2 < z) := fun t ht => by
        rcases O3.lt t ht with q | ⟨q1, q2⟩
        · exact .inl q
        · exact .inr ⟨q1, fun z hz => q2 z (List.mem_cons_of_mem _ hz)⟩
      rw [divZ_pos (by decide) (by decide), Option.bind_some, modZ_pos (by decide), Option.bind_some, Option.bind_some, next_eq]
      by_cases c1 : s3.1 / 16 % 4 < thick
      · by_cases c2 : (s3.2.length : Int) < cap
        · simp only [c1, c2, decide_true, ↓reduceIte, Option.bind_some]
          rw [addL_ok (by have := O3.small; omega), Option.bind_some, Option.bind_some]
          refine ⟨_, rfl, fun t ht => ?_, ?_, ?_, ?_, fun t ht => ?_, (List.pairwise_cons.mp O3.rp).2, fun z hz => O3.bd z (List.mem_cons_of_mem _ hz)⟩
          · rcases List.mem_append.mp ht with ht | ht
            · exact O3.tie t ht
            · rw [List.mem_singleton.mp ht]
              exact ⟨by dsimp only; omega, by dsimp only; omega, by dsimp only; omega⟩
          · refine List.pairwise_append.mpr ⟨O3.ord, by simp, fun a ha b hb => ?_⟩
            rw [List.mem_singleton.mp hb]
            rcases O3.lt a ha with q | ⟨q1, q2⟩
            · exact .inl q
            · exact .inr ⟨q1, q2 y List.mem_cons_self⟩
          · rw [List.length_append, List.length_singleton]
            omega
          · rw [List.length_append, List.length_singleton]
            omega
          · rcases List.mem_append.mp ht with ht | ht
            · exact rest t ht
            · rw [List.mem_singleton.mp ht]
              exact .inr ⟨rfl, (List.pairwise_cons.mp O3.rp).1⟩
        · simp only [c1, c2, decide_true, decide_false, ↓reduceIte, Option.bind_some, Bool.false_eq_true]
          exact ⟨_, rfl, O3.tie, O3.ord, O3.len, O3.small, rest, (List.pairwise_cons.mp O3.rp).2, fun z hz => O3.bd z (List.mem_cons_of_mem _ hz)⟩
      · simp only [c1, decide_false, ↓reduceIte, Option.bind_some, Bool.false_eq_true]
        exact ⟨_, rfl, O3.tie, O3.ord, O3.len, O3.small, rest, (List.pairwise_cons.mp O3.rp).2, fun z hz => O3.bd z (List.mem_cons_of_mem _ hz)⟩
end Q

set_option linter.all false
/-! A tie cut, a tie merged. -/
namespace Q
open Dv
def asked_web (points : Int) (ties : List (Int × Int)) : Rs Unit :=
  ((is_web points ties).bind fun y1 => some (!y1)).bind fun b2 => if b2 = true then
    some (.error .noWeb)
  else
  some (.ok ())
def without (ties : List (Int × Int)) (tie : Int × Int) : Option (List (Int × Int)) :=
  lc (fun (q3 : Int × Int) => some (!decide (q3 = tie))) (fun (q3 : Int × Int) => some q3) ties
def named (point : Int) (tie : Int × Int) : Option Int :=
  (some (decide (point = tie.2))).bind fun b5 => if b5 = true then
    some tie.1
  else
  (some (decide (tie.2 < point))).bind fun b6 => if b6 = true then
    some (point - 1)
  else
  some point
def put_together (ties : List (Int × Int)) (tie : Int × Int) : Option (List (Int × Int)) :=
  (some []).bind fun found_7 =>
  (without ties tie).bind fun xs8 => (loopG (S := (List (Int × Int))) (fun (s9 : (List (Int × Int))) (q10 : Int × Int) =>
      (named q10.1 tie).bind fun low_14 =>
      (named q10.2 tie).bind fun high_15 =>
      (putDZ s9 ((if high_15 < low_14 then high_15 else low_14), (if low_14 < high_15 then high_15 else low_14))).bind fun found_16 =>
      some found_16) found_7 xs8).bind fun s12 =>
  some (srt leP s12)
theorem asked_web_eq (p : Int) (ts : List (Int × Int)) (h : ts.length ≤ 1000) : asked_web p ts = some (if Web p ts then .ok () else .error .noWeb) := by
  unfold asked_web
  rw [is_web_eq p ts h]
  by_cases w : Web p ts <;> simp [w]
theorem asked_web_ok {p : Int} {ts : List (Int × Int)} (w : Web p ts) : asked_web p ts = some (.ok ()) := by
  rw [asked_web_eq p ts (by have := w.2.1; omega), if_pos w]
/-- the ties but one -/
def wo (ts : List (Int × Int)) (t : Int × Int) : List (Int × Int) := ts.filter fun u => !decide (u = t)
theorem without_eq (ts : List (Int × Int)) (t : Int × Int) (h : ts.length ≤ 1000) : without ts t = some (wo ts t) := by
  unfold without wo
  rw [lc_all (fun u => !decide (u = t)) (fun u => u) (by omega) (fun _ _ => rfl) fun _ _ _ => rfl]
  simp
theorem wo_len (ts : List (Int × Int)) (t : Int × Int) : (wo ts t).length ≤ ts.length := List.length_filter_le _ _
/-- a point's number behind the merging -/
def nm (t : Int × Int) (x : Int) : Int := if x = t.2 then t.1 else if t.2 < x then x - 1 else x
theorem named_eq (x : Int) (t : Int × Int) : named x t = some (nm t x) := by
  unfold named nm
  by_cases h1 : x = t.2
  · simp [h1]
  · by_cases h2 : t.2 < x <;> simp [h1, h2]
def mm (a b : Int) : Int × Int := (if b < a then b else a, if a < b then b else a)
/-- a tie behind the merging -/
def mt (t u : Int × Int) : Int × Int := mm (nm t u.1) (nm t u.2)
/-- each once, in the order in which they came -/
def uniq (l : List (Int × Int)) : List (Int × Int) := l.foldl putD []
/-- the ties of the web with t merged -/
def mg (ts : List (Int × Int)) (t : Int × Int) : List (Int × Int) := srt leP (uniq ((wo ts t).map (mt t)))
theorem putD_len (s : List (Int × Int)) (t : Int × Int) : (putD s t).length ≤ s.length + 1 := by
  unfold putD
  split
  · omega
  · simp
theorem put_together_eq (ts : List (Int × Int)) (t : Int × Int) (h : ts.length ≤ 1000) : put_together ts t = some (mg ts t) := by
  unfold put_together
  simp only [Option.bind_some]
  rw [without_eq ts t h, Option.bind_some]
  have hl := wo_len ts t
  have key : ∀ (l : List (Int × Int)) (s : List (Int × Int)), s.length + l.length ≤ 1000 → loopG (S := (List (Int × Int))) (fun (s31 : (List (Int × Int))) (q32 : Int × Int) =>
      (named q32.1 t).bind fun low_36 =>
      (named q32.2 t).bind fun high_37 =>
      (putDZ s31 ((if high_37 < low_36 then high_37 else low_36), (if low_36 < high_37 then high_37 else low_36))).bind fun found_38 =>
      some found_38) s l = some ((l.map (mt t)).foldl putD s) := by
    intro l
    induction l with
    | nil => intro s _; rfl
    | cons u l ih =>
      intro s hs
      rw [List.length_cons] at hs
      show ((named u.1 t).bind _).bind _ = _
      rw [named_eq, Option.bind_some, named_eq, Option.bind_some]
      have hp : putDZ s (mt t u) = some (putD s (mt t u)) := if_pos (by omega)
      show ((putDZ s (mt t u)).bind _).bind _ = _
      rw [hp, Option.bind_some, Option.bind_some, ih _ (by have := putD_len s (mt t u); omega)]
      rfl
  rw [key _ [] (by simp; omega), Option.bind_some]
  rfl
theorem putD_mem (s : List (Int × Int)) (t u : Int × Int) : u ∈ putD s t ↔ u ∈ s ∨ u = t := by
  unfold putD
  split
  · rename_i h
    constructor
    · exact .inl
    · rintro (h2 | rfl)
      · exact h2
      · exact h
  · simp
theorem putD_nodup {s : List (Int × Int)} (h : s.Nodup) (t : Int × Int) : (putD s t).Nodup := by
  unfold putD
  split
  · exact h
  · rename_i n
    refine List.nodup_append.mpr ⟨h, by simp, fun a ha b hb => ?_⟩
    rw [List.mem_singleton.mp hb]
    exact fun e => n (e ▸ ha)
theorem uniq_mem (l : List (Int × Int)) (u : Int × Int) : u ∈ uniq l ↔ u ∈ l := by
  have : ∀ (l s : List (Int × Int)), u ∈ l.foldl putD s ↔ u ∈ s ∨ u ∈ l := by
    intro l
    induction l with
    | nil => intro s; simp
    | cons x l ih =>
      intro s
      rw [List.foldl_cons, ih, putD_mem, List.mem_cons, or_assoc]
  have h := this l []
  simp only [List.not_mem_nil, false_or] at h
  exact h
theorem uniq_nodup (l : List (Int × Int)) : (uniq l).Nodup := by
  have : ∀ (l s : List (Int × Int)), s.Nodup → (l.foldl putD s).Nodup := by
    intro l
    induction l with
    | nil => intro s h; exact h
    | cons x l ih => intro s h; exact ih _ (putD_nodup h x)
  exact this l [] .nil
theorem uniq_len (l : List (Int × Int)) : (uniq l).length ≤ l.length := by
  have : ∀ (l s : List (Int × Int)), (l.foldl putD s).length ≤ s.length + l.length := by
    intro l
    induction l with
    | nil => intro s; simp
    | cons x l ih =>
      intro s
      have h1 := ih (putD s x)
      have h2 := putD_len s x
      rw [List.foldl_cons, List.length_cons]
      omega
  have h := this l []
  simp only [List.length_nil, Nat.zero_add] at h
  exact h
theorem mg_mem (ts : List (Int × Int)) (t u : Int × Int) : u ∈ mg ts t ↔ ∃ v ∈ ts, v ≠ t ∧ mt t v = u := by
  unfold mg
  rw [(srt_perm _).mem_iff, uniq_mem, List.mem_map]
  unfold wo
  constructor
  · rintro ⟨v, hv, e⟩
    rw [List.mem_filter] at hv
    exact ⟨v, hv.1, by simpa using hv.2, e⟩
  · rintro ⟨v, hv, hn, e⟩
    exact ⟨v, List.mem_filter.mpr ⟨hv, by simpa using hn⟩, e⟩
theorem mg_nodup (ts : List (Int × Int)) (t : Int × Int) : (mg ts t).Nodup := ((srt_perm _).nodup_iff).mpr (uniq_nodup _)
theorem mg_len (ts : List (Int × Int)) (t : Int × Int) : (mg ts t).length ≤ (wo ts t).length := by
  unfold mg
  rw [(srt_perm _).length_eq]
  have := uniq_len ((wo ts t).map (mt t))
  rw [List.length_map] at this
  exact this
theorem leP_ltT {a b : Int × Int} (h : leP a b = true) (n : a ≠ b) : ltT a b := by
  have n2 : ¬ (a.1 = b.1 ∧ a.2 = b.2) := fun z => n (Prod.ext z.1 z.2)
  unfold leP at h
  unfold ltT
  split at h <;> simp only [decide_eq_true_eq] at h <;> omega
theorem srt_ord {l : List (Int × Int)} (h : l.Nodup) : (srt leP l).Pairwise ltT := by
  have h1 := srt_sorted ordP l
  have h2 : (srt leP l).Nodup := ((srt_perm l).nodup_iff).mpr h
  exact List.Pairwise.imp₂ (fun a b q n => leP_ltT q n) h1 h2
end Q

set_option linter.all false
set_option maxRecDepth 100000
namespace Q
open Dv
def asked_tie (points : Int) (ties : List (Int × Int)) (tie : Int × Int) : Rs Unit :=
  (asked_web points ties).bind fun y1 => exB y1 fun _ =>
  (some (!memL tie ties)).bind fun b4 => if b4 = true then
    some (.error .noTie)
  else
  some (.ok ())
def cut (points : Int) (ties : List (Int × Int)) (tie : Int × Int) : Rs (List (Int × Int)) :=
  (asked_tie points ties tie).bind fun y5 => exB y5 fun _ =>
  (without ties tie).bind fun y8 => some (.ok y8)
def merged (points : Int) (ties : List (Int × Int)) (tie : Int × Int) : Rs (List (Int × Int)) :=
  (asked_tie points ties tie).bind fun y9 => exB y9 fun _ =>
  (put_together ties tie).bind fun y12 => some (.ok y12)
def pieces (points : Int) (ties : List (Int × Int)) : Rs (List (List Int)) :=
  (asked_web points ties).bind fun y13 => exB y13 fun _ =>
  (lrng points).bind fun heads_16 =>
  (rng 0 points).bind fun xs17 => (loopG (S := (List Int)) (fun (s18 : (List Int)) (q19 : Int) =>
      (some ties).bind fun xs23 => (loopG (S := (List Int)) (fun (s24 : (List Int)) (q25 : Int × Int) =>
          ((atZ s24 q25.1).bind fun y29 => (atZ s24 q25.2).bind fun y30 => some (if y30 < y29 then y30 else y29)).bind fun least_31 =>
          (setZ s24 q25.1 least_31).bind fun heads_32 =>
          (setZ heads_32 q25.2 least_31).bind fun heads_33 =>
          some heads_33) s18 xs23).bind fun s27 =>
      some s27) heads_16 xs17).bind fun s21 =>
  (some ([] : List (List Int))).bind fun found_34 =>
  (rng 0 points).bind fun xs35 => (loopG (S := (List (List Int))) (fun (s36 : (List (List Int))) (q37 : Int) =>
      ((rng 0 points).bind fun y44 => lc (fun (q41 : Int) => (atZ s21 q41).bind fun y42 => some (decide (y42 = q37))) (fun (q41 : Int) => some q41) y44).bind fun piece_45 =>
      (some (decide (0 < (piece_45.length : Int)))).bind fun b46 => if b46 = true then
        (addL s36 piece_45).bind fun found_47 =>
        some found_47
      else
        some s36) found_34 xs35).bind fun s39 =>
  (some s39).bind fun y48 => some (.ok y48)
def beside (points : Int) (ties : List (Int × Int)) (more : Int) (others : List (Int × Int)) : Rs (List (Int × Int)) :=
  (asked_web points ties).bind fun y49 => exB y49 fun _ =>
  (asked_web more others).bind fun y52 => exB y52 fun _ =>
  ((lc (fun (q55 : Int × Int) => some true) (fun (q55 : Int × Int) => some ((q55.1 + points), (q55.2 + points))) others).bind fun y57 => catL ties y57).bind fun y58 => some (.ok y58)
def row_byF : Nat → Int → (List (Int × Int)) → Option (List Int)
  | 0, _, _ => none
  | n_ + 1, points, ties =>
  (some (decide ((ties.length : Int) = 0))).bind fun b59 => if b59 = true then
    ((rng 0 points).bind fun y62 => lc (fun (q60 : Int) => some true) (fun (q60 : Int) => some 0) y62).bind fun y63 => catL y63 [1]
  else
  (atZ ties (-1)).bind fun tie_64 =>
  (row_byF n_ points (cutZ ties none (some (-1)))).bind fun less_65 =>
  (((((put_together ties tie_64).bind fun y66 => some (y66, ())).bind fun y67 => some ((points - 1), y67)).bind fun a68 => row_byF n_ a68.1 a68.2.1).bind fun y69 => catL y69 [0]).bind fun other_70 =>
  (rng 0 (points + 1)).bind fun y75 => lc (fun (q71 : Int) => some true) (fun (q71 : Int) => (atZ less_65 q71).bind fun y72 => (atZ other_70 q71).bind fun y73 => some (y72 - y73)) y75
def row_by (points : Int) (ties : List (Int × Int)) : Option (List Int) := row_byF 20 points ties
def row (points : Int) (ties : List (Int × Int)) : Rs (List Int) :=
  (asked_web points ties).bind fun y76 => exB y76 fun _ =>
  (row_by points ties).bind fun y79 => some (.ok y79)
def worth (numbers : List Int) (q : Int) : Option Int :=
  (some 0).bind fun total_80 =>
  (some numbers.reverse).bind fun xs81 => (loopG (S := Int) (fun (s82 : Int) (q83 : Int) =>
      ((mulZ s82 q).bind fun y87 => some (y87 + q83)).bind fun total_88 =>
      some total_88) total_80 xs81).bind fun s85 =>
  some s85
def unlike (ties : List (Int × Int)) (dyes : List Int) : Option Bool :=
  (some ties).bind fun xs89 => (loopR (S := Unit) (R := Bool) (fun (s90 : Unit) (q91 : Int × Int) =>
      ((atZ dyes q91.1).bind fun y95 => (atZ dyes q91.2).bind fun y96 => some (decide (y95 = y96))).bind fun b97 => if b97 = true then
        (some false).bind fun y98 => some (.ret y98)
      else
      some (.go ())) () xs89).bind fun st92 => st92.elim (fun s93 =>
  some true) (fun y94 => some y94)
def is_dyeing (points : Int) (ties : List (Int × Int)) (dyes : List Int) (many : Int) : Rs Bool :=
  (asked_web points ties).bind fun y99 => exB y99 fun _ =>
  (some (!decide ((dyes.length : Int) = points))).bind fun b102 => if b102 = true then
    (some false).bind fun y103 => some (.ok y103)
  else
  (some dyes).bind fun xs104 => (loopR (S := Unit) (R := Bool) (fun (s105 : Unit) (q106 : Int) =>
      ((if (decide (q106 < 0)) = true then some true else some (decide (many ≤ q106)))).bind fun b110 => if b110 = true then
        (some false).bind fun y111 => some (.ret y111)
      else
      some (.go ())) () xs104).bind fun st107 => st107.elim (fun s108 =>
  (unlike ties dyes).bind fun y112 => some (.ok y112)) (fun y109 => some (.ok y109))
def fewest (points : Int) (ties : List (Int × Int)) : Rs Int :=
  (row points ties).bind fun y113 => exB y113 fun numbers_114 =>
  (some 0).bind fun many_117 =>
  (whileG (S := Int) (fun (s118 : Int) => (worth numbers_114 s118).bind fun y122 => some (decide (y122 = 0))) (fun (s118 : Int) =>
      (some (s118 + 1)).bind fun many_123 =>
      some many_123) 20 many_117).bind fun s119 =>
  (some s119).bind fun y124 => some (.ok y124)
def extendedF : Nat → Int → (List (Int × Int)) → Int → (List Int) → Option (Option (List Int))
  | 0, _, _, _, _ => none
  | n_ + 1, points, ties, many, dyes =>
  (some (dyes.length : Int)).bind fun at__125 =>
  (some (decide (at__125 = points))).bind fun b126 => if b126 = true then
    some (some dyes)
  else
  (lc (fun (q127 : Int × Int) => some (decide (q127.2 = at__125))) (fun (q127 : Int × Int) => atZ dyes q127.1) ties).bind fun near_129 =>
  (rng 0 many).bind fun xs130 => (loopR (S := Unit) (R := Option (List Int)) (fun (s131 : Unit) (q132 : Int) =>
      (some (!memL q132 near_129)).bind fun b136 => if b136 = true then
        ((((((catL dyes [q132]).bind fun y137 => some (y137, ())).bind fun y138 => some (many, y138)).bind fun y139 => some (ties, y139)).bind fun y140 => some (points, y140)).bind fun a141 => extendedF n_ a141.1 a141.2.1 a141.2.2.1 a141.2.2.2.1).bind fun found_142 =>
        (some (!found_142.isNone)).bind fun b143 => if b143 = true then
          (some found_142).bind fun y144 => some (.ret y144)
        else
        some (.go ())
      else
        some (.go ())) () xs130).bind fun st133 => st133.elim (fun s134 =>
  some none) (fun y135 => some y135)
def extended (points : Int) (ties : List (Int × Int)) (many : Int) (dyes : List Int) : Option (Option (List Int)) := extendedF 10 points ties many dyes
def least (points : Int) (ties : List (Int × Int)) (many : Int) : Rs (Option (List Int)) :=
  (asked_web points ties).bind fun y145 => exB y145 fun _ =>
  (extended points ties many ([] : List Int)).bind fun y148 => some (.ok y148)
def asked_setting (points : Int) (ties : List (Int × Int)) (arrows : List Bool) : Rs Unit :=
  (asked_web points ties).bind fun y149 => exB y149 fun _ =>
  (some (!decide ((arrows.length : Int) = (ties.length : Int)))).bind fun b152 => if b152 = true then
    some (.error .noSetting)
  else
  some (.ok ())
def led (ties : List (Int × Int)) (arrows : List Bool) : Option (List (Int × Int)) :=
  (some ([] : List (Int × Int))).bind fun found_153 =>
  (some (ties.zip arrows)).bind fun xs154 => (loopG (S := (List (Int × Int))) (fun (s155 : (List (Int × Int))) (q156 : (Int × Int) × Bool) =>
      (some q156.2).bind fun b160 => if b160 = true then
        (addL s155 q156.1).bind fun found_161 =>
        some found_161
      else
        (addL s155 (q156.1.2, q156.1.1)).bind fun found_162 =>
        some found_162) found_153 xs154).bind fun s158 =>
  some s158
def ranks_by (points : Int) (ties : List (Int × Int)) (arrows : List Bool) : Option (Option (List Int)) :=
  (led ties arrows).bind fun pairs_163 =>
  ((rng 0 points).bind fun y166 => lc (fun (q164 : Int) => some true) (fun (q164 : Int) => some 0) y166).bind fun found_167 =>
  (rng 0 (points + 1)).bind fun xs168 => (loopR (S := (List Int)) (R := Option (List Int)) (fun (s169 : (List Int)) (q170 : Int) =>
      ((rng 0 points).bind fun y176 => lc (fun (q174 : Int) => some true) (fun (q174 : Int) => some 0) y176).bind fun later_177 =>
      (some pairs_163).bind fun xs178 => (loopG (S := (List Int)) (fun (s179 : (List Int)) (q180 : Int × Int) =>
          (((atZ s179 q180.2).bind fun y184 => ((atZ s169 q180.1).bind fun y185 => some (y185 + 1)).bind fun y186 => some (if y184 < y186 then y186 else y184)).bind fun y187 => setZ s179 q180.2 y187).bind fun later_188 =>
          some later_188) later_177 xs178).bind fun s182 =>
      (some (decide (s182 = s169))).bind fun b189 => if b189 = true then
        (some (some s169)).bind fun y190 => some (.ret y190)
      else
      (some s182).bind fun found_191 =>
      some (.go found_191)) found_167 xs168).bind fun st171 => st171.elim (fun s172 =>
  some none) (fun y173 => some y173)
def goes_round (points : Int) (ties : List (Int × Int)) (arrows : List Bool) : Rs Bool :=
  (asked_setting points ties arrows).bind fun y192 => exB y192 fun _ =>
  ((ranks_by points ties arrows).bind fun y195 => some y195.isNone).bind fun y196 => some (.ok y196)
def ranks (points : Int) (ties : List (Int × Int)) (arrows : List Bool) : Rs (List Int) :=
  (asked_setting points ties arrows).bind fun y197 => exB y197 fun _ =>
  (ranks_by points ties arrows).bind fun found_200 =>
  (some found_200.isNone).bind fun b201 => if b201 = true then
    some (.error .goesRound)
  else
  (found_200).bind fun y202 => some (.ok y202)
def setting_of (points : Int) (ties : List (Int × Int)) (dyes : List Int) : Rs (List Bool) :=
  (asked_web points ties).bind fun y203 => exB y203 fun _ =>
  ((unlike ties dyes).bind fun y206 => some (!y206)).bind fun b207 => if b207 = true then
    some (.error .noDyeing)
  else
  (lc (fun (q208 : Int × Int) => some true) (fun (q208 : Int × Int) => (atZ dyes q208.1).bind fun y209 => (atZ dyes q208.2).bind fun y210 => some (decide (y209 < y210))) ties).bind fun y212 => some (.ok y212)
def flattest (points : Int) (ties : List (Int × Int)) : Rs (List Bool) :=
  ((((((((((fewest points ties).bind fun y235 => exB y235 fun x236 => (some (.ok (x236, ())) : Rs _)).bind fun z239 => exB z239 fun w240 => (some (.ok (ties, w240)) : Rs _)).bind fun z241 => exB z241 fun w242 => (some (.ok (points, w242)) : Rs _)).bind fun y233 => exB y233 fun x234 => least x234.1 x234.2.1 x234.2.2.1).bind fun y226 => exB y226 fun x227 => x227.bind fun z232 => (some (.ok z232) : Rs _)).bind fun y224 => exB y224 fun x225 => (some (.ok (x225, ())) : Rs _)).bind fun z243 => exB z243 fun w244 => (some (.ok (ties, w244)) : Rs _)).bind fun z245 => exB z245 fun w246 => (some (.ok (points, w246)) : Rs _)).bind fun y213 => exB y213 fun x214 => setting_of x214.1 x214.2.1 x214.2.2.1)
def settings (points : Int) (ties : List (Int × Int)) : Rs Int :=
  ((((row points ties).bind fun y254 => exB y254 fun x255 => (some (.ok (x255, ((-1), ()))) : Rs _)).bind fun y252 => exB y252 fun x253 => (worth x253.1 x253.2.1).bind fun z258 => (some (.ok z258) : Rs _)).bind fun y247 => exB y247 fun x248 => (some (.ok (if x248 < 0 then -x248 else x248)) : Rs _))
def from_spring (points : Int) (ties : List (Int × Int)) (point : Int) : Rs Int :=
  (((row points ties).bind fun y263 => exB y263 fun x264 => (atZ x264 1).bind fun z265 => (some (.ok z265) : Rs _)).bind fun y259 => exB y259 fun x260 => (some (.ok (if x260 < 0 then -x260 else x260)) : Rs _))
def pairs (points : Int) (ties : List (Int × Int)) (q : Int) : Rs Int :=
  ((((row points ties).bind fun y275 => exB y275 fun x276 => (some (.ok (x276, ((-q), ()))) : Rs _)).bind fun y273 => exB y273 fun x274 => (worth x274.1 x274.2.1).bind fun z279 => (some (.ok z279) : Rs _)).bind fun y268 => exB y268 fun x269 => (some (.ok (if x269 < 0 then -x269 else x269)) : Rs _))
def unbroken (points : Int) (ties : List (Int × Int)) (many : Int) : Rs Int :=
  (row points ties).bind fun y280 => exB y280 fun numbers_281 =>
  (some (decide (points < many))).bind fun b284 => if b284 = true then
    (some 0).bind fun y285 => some (.ok y285)
  else
  ((atZ numbers_281 (points - many)).bind fun y286 => some (if y286 < 0 then -y286 else y286)).bind fun y287 => some (.ok y287)
def shown (points : Int) (ties : List (Int × Int)) : Rs Int :=
  (asked_web points ties).bind fun y288 => exB y288 fun _ =>
  none
def spoilt (ties : List (Int × Int)) (way : Int) (cell : Int) : Option (List (Int × Int)) :=
  (modZ cell (ties.length : Int)).bind fun at__291 =>
  (((((atZ ties at__291).bind fun y292 => some y292.2).bind fun y293 => some ((-1), y293)).bind fun y303 => ((((atZ ties at__291).bind fun y294 => some y294.1).bind fun y297 => (((divZ cell 64).bind fun y295 => modZ y295 90).bind fun y296 => some (7 + y296)).bind fun y298 => some (y297, y298)).bind fun y304 => ((((atZ ties at__291).bind fun y299 => some y299.1).bind fun y301 => ((atZ ties at__291).bind fun y300 => some y300.1).bind fun y302 => some (y301, y302)).bind fun y305 => some (y305 :: [])).bind fun y306 => some (y304 :: y306)).bind fun y307 => some (y303 :: y307)).bind fun y308 => ((divZ cell 16).bind fun y309 => modZ y309 3).bind fun y310 => atZ y308 y310).bind fun bad_311 =>
  (some (decide (way = 0))).bind fun b312 => if b312 = true then
    (((atZ ties at__291).bind fun y313 => some (y313 :: [])).bind fun y314 => catL (cutZ ties none (some at__291)) y314).bind fun y315 => catL y315 (cutZ ties (some at__291) none)
  else
  (some (decide (way = 1))).bind fun b316 => if b316 = true then
    (((((atZ ties at__291).bind fun y317 => some y317.2).bind fun y319 => ((atZ ties at__291).bind fun y318 => some y318.1).bind fun y320 => some (y319, y320)).bind fun y321 => some (y321 :: [])).bind fun y322 => catL (cutZ ties none (some at__291)) y322).bind fun y323 => catL y323 (cutZ ties (some (at__291 + 1)) none)
  else
  (some (decide (way = 2))).bind fun b324 => if b324 = true then
    (catL (cutZ ties none (some at__291)) [bad_311]).bind fun y325 => catL y325 (cutZ ties (some (at__291 + 1)) none)
  else
  (some (decide (way = 3))).bind fun b326 => if b326 = true then
    catL ties ties
  else
  catL ties.reverse (cutZ ties none (some 1))
def first_eight (which : Int) (points : Int) (ties : List (Int × Int)) : Rs Unit :=
  ((
    (some (decide (which = 0))).bind fun b330 => if b330 = true then
      (pieces points ties).bind fun y331 => exB y331 fun _ =>
      some (.ok ())
    else
      some (.ok ()) : Rs Unit)).bind fun y329 => exB y329 fun s328 =>
  ((
    (some (decide (which = 1))).bind fun b337 => if b337 = true then
      (beside points ties 0 ([] : List (Int × Int))).bind fun y338 => exB y338 fun _ =>
      some (.ok ())
    else
      some (.ok ()) : Rs Unit)).bind fun y336 => exB y336 fun s335 =>
  ((
    (some (decide (which = 2))).bind fun b344 => if b344 = true then
      (beside 0 ([] : List (Int × Int)) points ties).bind fun y345 => exB y345 fun _ =>
      some (.ok ())
    else
      some (.ok ()) : Rs Unit)).bind fun y343 => exB y343 fun s342 =>
  ((
    (some (decide (which = 3))).bind fun b351 => if b351 = true then
      (row points ties).bind fun y352 => exB y352 fun _ =>
      some (.ok ())
    else
      some (.ok ()) : Rs Unit)).bind fun y350 => exB y350 fun s349 =>
  ((
    (some (decide (which = 4))).bind fun b358 => if b358 = true then
      (is_dyeing points ties [0] 3).bind fun y359 => exB y359 fun _ =>
      some (.ok ())
    else
      some (.ok ()) : Rs Unit)).bind fun y357 => exB y357 fun s356 =>
  ((
    (some (decide (which = 5))).bind fun b365 => if b365 = true then
      (fewest points ties).bind fun y366 => exB y366 fun _ =>
      some (.ok ())
    else
      some (.ok ()) : Rs Unit)).bind fun y364 => exB y364 fun s363 =>
  ((
    (some (decide (which = 6))).bind fun b372 => if b372 = true then
      (least points ties 2).bind fun y373 => exB y373 fun _ =>
      some (.ok ())
    else
      some (.ok ()) : Rs Unit)).bind fun y371 => exB y371 fun s370 =>
  (some (decide (which = 7))).bind fun b376 => if b376 = true then
    (shown points ties).bind fun y377 => exB y377 fun _ =>
    some (.ok ())
  else
    some (.ok ())
def others (which : Int) (points : Int) (ties : List (Int × Int)) (tints : List Int) : Rs Unit :=
  ((
    (some (decide (which = 8))).bind fun b383 => if b383 = true then
      (goes_round points ties [true]).bind fun y384 => exB y384 fun _ =>
      some (.ok ())
    else
      some (.ok ()) : Rs Unit)).bind fun y382 => exB y382 fun s381 =>
  ((
    (some (decide (which = 9))).bind fun b390 => if b390 = true then
      (ranks points ties ([] : List Bool)).bind fun y391 => exB y391 fun _ =>
      some (.ok ())
    else
      some (.ok ()) : Rs Unit)).bind fun y389 => exB y389 fun s388 =>
  ((
    (some (decide (which = 10))).bind fun b397 => if b397 = true then
      (setting_of points ties tints).bind fun y398 => exB y398 fun _ =>
      some (.ok ())
    else
      some (.ok ()) : Rs Unit)).bind fun y396 => exB y396 fun s395 =>
  ((
    (some (decide (which = 11))).bind fun b404 => if b404 = true then
      (flattest points ties).bind fun y405 => exB y405 fun _ =>
      some (.ok ())
    else
      some (.ok ()) : Rs Unit)).bind fun y403 => exB y403 fun s402 =>
  ((
    (some (decide (which = 12))).bind fun b411 => if b411 = true then
      (settings points ties).bind fun y412 => exB y412 fun _ =>
      some (.ok ())
    else
      some (.ok ()) : Rs Unit)).bind fun y410 => exB y410 fun s409 =>
  ((
    (some (decide (which = 13))).bind fun b418 => if b418 = true then
      (from_spring points ties 0).bind fun y419 => exB y419 fun _ =>
      some (.ok ())
    else
      some (.ok ()) : Rs Unit)).bind fun y417 => exB y417 fun s416 =>
  ((
    (some (decide (which = 14))).bind fun b425 => if b425 = true then
      (pairs points ties 20).bind fun y426 => exB y426 fun _ =>
      some (.ok ())
    else
      some (.ok ()) : Rs Unit)).bind fun y424 => exB y424 fun s423 =>
  ((
    (some (decide (which = 15))).bind fun b432 => if b432 = true then
      (unbroken points ties 20).bind fun y433 => exB y433 fun _ =>
      some (.ok ())
    else
      some (.ok ()) : Rs Unit)).bind fun y431 => exB y431 fun s430 =>
  ((
    (some (decide (which = 16))).bind fun b439 => if b439 = true then
      (cut points ties (5, 4)).bind fun y440 => exB y440 fun _ =>
      some (.ok ())
    else
      some (.ok ()) : Rs Unit)).bind fun y438 => exB y438 fun s437 =>
  (some (decide (which = 17))).bind fun b443 => if b443 = true then
    (merged points ties (5, 4)).bind fun y444 => exB y444 fun _ =>
    some (.ok ())
  else
    some (.ok ())
def law (script : List Int) : Option Bool :=
  (((((((cell_at script 0).bind fun y447 => modZ y447 6).bind fun y448 => some (2 + y448)).bind fun y449 => some (y449 :: [])).bind fun y450 => catL y450 (cutZ script (some 1) none)).bind fun y451 => some (y451, (0, (7, (12, ()))))).bind fun a452 => web_by a452.1 a452.2.1 a452.2.2.1 a452.2.2.2.1).bind fun p453 =>
  ((
    (some (decide ((p453.2.length : Int) = 0))).bind fun b456 => if b456 = true then
      (some [(0, 1)]).bind fun ties_457 =>
      some ties_457
    else
      some p453.2 : Option ((List (Int × Int))))).bind fun s455 =>
  ((cell_at script 3).bind fun y458 => modZ y458 7).bind fun way_459 =>
  ((
    (some (decide (way_459 < 5))).bind fun b462 => if b462 = true then
      (((((((cell_at script 4).bind fun y463 => some (y463, ())).bind fun a464 => next a464.1).bind fun y465 => some (y465, ())).bind fun y466 => some (way_459, y466)).bind fun y467 => some (s455, y467)).bind fun a468 => spoilt a468.1 a468.2.1 a468.2.2.1).bind fun ties_469 =>
      some (ties_469, p453.1)
    else
      ((cell_at script 4).bind fun y470 => modZ y470 93).bind fun far_471 =>
      ((
        ((((cell_at script 5).bind fun y485 => divZ y485 4).bind fun y486 => modZ y486 4).bind fun y487 => some (decide (y487 = 1))).bind fun b488 => if b488 = true then
          (some ([] : List (Int × Int))).bind fun ties_489 =>
          some ties_489
        else
          some s455 : Option ((List (Int × Int))))).bind fun s480 =>
      (((cell_at script 5).bind fun y490 => modZ y490 4).bind fun y491 => atZ [(-1), 8, ((-1) - far_471), (8 + far_471)] y491).bind fun points_492 =>
      some (s480, points_492) : Option ((List (Int × Int)) × Int))).bind fun s461 =>
  ((cell_at script 6).bind fun y493 => modZ y493 18).bind fun which_494 =>
  ((rng 0 (if 0 < s461.2 then s461.2 else 0)).bind fun y497 => lc (fun (q495 : Int) => some true) (fun (q495 : Int) => some 0) y497).bind fun tints_498 =>
  (some s461.1).bind fun handed_499 =>
  trX (α := Unit) (
      (first_eight which_494 s461.2 handed_499).bind fun y502 => exB y502 fun _ =>
      (others which_494 s461.2 handed_499 tints_498).bind fun y505 => exB y505 fun _ =>
      some (.ok ())) (fun x501 =>
      some false) (fun er500 =>
      ((if (isE er500 .goesRound) = true then some true else (if (isE er500 .noDyeing) = true then some true else some (isE er500 .noNote)))).bind fun other_508 =>
      ((if other_508 = true then some true else (if (isE er500 .noSetting) = true then some true else some (isE er500 .noTie)))).bind fun other_509 =>
      (if (isE er500 .noWeb) = true then (if true = true then (if (!other_509) = true then some (decide (handed_499 = s461.1)) else some false) else some false) else some false))
theorem ask_no {p : Int} {ts : List (Int × Int)} (h : ts.length ≤ 1000) (w : ¬ Web p ts) : asked_web p ts = some (.error .noWeb) := by
  rw [asked_web_eq p ts h, if_neg w]
section
variable {p : Int} {ts : List (Int × Int)} (hA : asked_web p ts = some (.error .noWeb))
include hA
theorem asked_tie_n (t : Int × Int) : asked_tie p ts t = some (.error .noWeb) := by
  unfold asked_tie
  rw [hA, Option.bind_some, exB_error]
theorem cut_n (t : Int × Int) : cut p ts t = some (.error .noWeb) := by
  unfold cut
  rw [asked_tie_n hA, Option.bind_some, exB_error]
theorem merged_n (t : Int × Int) : merged p ts t = some (.error .noWeb) := by
  unfold merged
  rw [asked_tie_n hA, Option.bind_some, exB_error]
theorem pieces_n : pieces p ts = some (.error .noWeb) := by
  unfold pieces
  rw [hA, Option.bind_some, exB_error]
theorem beside_n (q : Int) (us : List (Int × Int)) : beside p ts q us = some (.error .noWeb) := by
  unfold beside
  rw [hA, Option.bind_some, exB_error]
theorem beside_n2 : beside 0 [] p ts = some (.error .noWeb) := by
  unfold beside
  rw [asked_web_ok (by decide), Option.bind_some, exB_ok, hA, Option.bind_some, exB_error]
theorem row_n : row p ts = some (.error .noWeb) := by
  unfold row
  rw [hA, Option.bind_some, exB_error]
theorem is_dyeing_n (d : List Int) (m : Int) : is_dyeing p ts d m = some (.error .noWeb) := by
  unfold is_dyeing
  rw [hA, Option.bind_some, exB_error]
theorem fewest_n : fewest p ts = some (.error .noWeb) := by
  unfold fewest
  rw [row_n hA, Option.bind_some, exB_error]
theorem least_n (m : Int) : least p ts m = some (.error .noWeb) := by
  unfold least
  rw [hA, Option.bind_some, exB_error]
theorem asked_setting_n (a : List Bool) : asked_setting p ts a = some (.error .noWeb) := by
  unfold asked_setting
  rw [hA, Option.bind_some, exB_error]
theorem goes_round_n (a : List Bool) : goes_round p ts a = some (.error .noWeb) := by
  unfold goes_round
  rw [asked_setting_n hA, Option.bind_some, exB_error]
theorem ranks_n (a : List Bool) : ranks p ts a = some (.error .noWeb) := by
  unfold ranks
  rw [asked_setting_n hA, Option.bind_some, exB_error]
theorem setting_of_n (d : List Int) : setting_of p ts d = some (.error .noWeb) := by
  unfold setting_of
  rw [hA, Option.bind_some, exB_error]
theorem flattest_n : flattest p ts = some (.error .noWeb) := by
  unfold flattest
  simp only [fewest_n hA, Option.bind_some, exB_error]
theorem settings_n : settings p ts = some (.error .noWeb) := by
  unfold settings
  simp only [row_n hA, Option.bind_some, exB_error]
theorem from_spring_n (x : Int) : from_spring p ts x = some (.error .noWeb) := by
  unfold from_spring
  simp only [row_n hA, Option.bind_some, exB_error]
theorem pairs_n (x : Int) : pairs p ts x = some (.error .noWeb) := by
  unfold pairs
  simp only [row_n hA, Option.bind_some, exB_error]
theorem unbroken_n (x : Int) : unbroken p ts x = some (.error .noWeb) := by
  unfold unbroken
  simp only [row_n hA, Option.bind_some, exB_error]
theorem shown_n : shown p ts = some (.error .noWeb) := by
  unfold shown
  rw [hA, Option.bind_some, exB_error]
theorem first_n {w : Int} (h0 : 0 ≤ w) (h1 : w < 8) : first_eight w p ts = some (.error .noWeb) := by
  have : w = 0 ∨ w = 1 ∨ w = 2 ∨ w = 3 ∨ w = 4 ∨ w = 5 ∨ w = 6 ∨ w = 7 := by omega
  unfold first_eight
  rcases this with rfl | rfl | rfl | rfl | rfl | rfl | rfl | rfl <;>
    simp [pieces_n hA, beside_n hA, beside_n2 hA, row_n hA, is_dyeing_n hA, fewest_n hA, least_n hA, shown_n hA]
theorem others_n {w : Int} (h0 : 8 ≤ w) (h1 : w < 18) (d : List Int) : others w p ts d = some (.error .noWeb) := by
  have : w = 8 ∨ w = 9 ∨ w = 10 ∨ w = 11 ∨ w = 12 ∨ w = 13 ∨ w = 14 ∨ w = 15 ∨ w = 16 ∨ w = 17 := by omega
  unfold others
  rcases this with rfl | rfl | rfl | rfl | rfl | rfl | rfl | rfl | rfl | rfl <;>
    simp [goes_round_n hA, ranks_n hA, setting_of_n hA, flattest_n hA, settings_n hA, from_spring_n hA, pairs_n hA, unbroken_n hA, cut_n hA, merged_n hA]
end
theorem first_y {w : Int} (h0 : 8 ≤ w) (p : Int) (ts : List (Int × Int)) : first_eight w p ts = some (.ok ()) := by
  have e0 : ¬ w = 0 := by omega
  have e1 : ¬ w = 1 := by omega
  have e2 : ¬ w = 2 := by omega
  have e3 : ¬ w = 3 := by omega
  have e4 : ¬ w = 4 := by omega
  have e5 : ¬ w = 5 := by omega
  have e6 : ¬ w = 6 := by omega
  have e7 : ¬ w = 7 := by omega
  unfold first_eight
  simp [e0, e1, e2, e3, e4, e5, e6, e7]
theorem ltT_irr (t : Int × Int) : ¬ ltT t t := fun h => by
  unfold ltT at h
  omega
theorem no_dup {p : Int} {A B : List (Int × Int)} {t : Int × Int} (h1 : t ∈ A) (h2 : t ∈ B) : ¬ Web p (A ++ B) := fun w =>
  ltT_irr t ((List.pairwise_append.mp w.2.2.ord).2.2 t h1 t h2)
theorem no_bad {p : Int} {A : List (Int × Int)} {b : Int × Int} (h1 : b ∈ A) (h : ¬ Tie p b) : ¬ Web p A := fun w => h (w.2.2.tie b h1)
theorem spoilt_eq {p : Int} (hp : p ≤ 7) {ts : List (Int × Int)} (h0 : 0 < ts.length) (hl : ts.length ≤ 12) (ht : ∀ t ∈ ts, t.1 < t.2) {way c : Int} (hc : 0 ≤ c) (w0 : 0 ≤ way) (w1 : way < 5) :
    ∃ us, spoilt ts way c = some us ∧ us.length ≤ 1000 ∧ ¬ Web p us := by
  unfold spoilt
  have hL : (0 : Int) < (ts.length : Int) := by omega
  obtain ⟨k0, k1⟩ := emod_bd c hL
  obtain ⟨j0, j1⟩ := emod_bd (c / 16) (show (0 : Int) < 3 by decide)
  have n0 : 0 ≤ c / 64 % 90 := (emod_bd (c / 64) (show (0 : Int) < 90 by decide)).1
  rw [modZ_pos hL, Option.bind_some]
  generalize c % (ts.length : Int) = k at *
  obtain ⟨t, et, gt⟩ := atZ_get k0 k1
  have tm : t ∈ ts := atZ_mem et
  have tlt := ht t tm
  have d16 : divZ c 16 = some (c / 16) := by unfold divZ; rw [if_pos (by omega)]
  have d64 : divZ c 64 = some (c / 64) := by unfold divZ; rw [if_pos (by omega)]
  simp only [et, Option.bind_some, d16, d64, modZ_pos (show (0 : Int) < 3 by decide), modZ_pos (show (0 : Int) < 90 by decide)]
  obtain ⟨b, eb, _⟩ := atZ_get (xs := [(-1, t.2), (t.1, 7 + c / 64 % 90), (t.1, t.1)]) j0 (by simpa using j1)
  have bad : ¬ Tie p b := by
    have := atZ_mem eb
    simp only [List.mem_cons, List.not_mem_nil, or_false] at this
    unfold Tie
    rcases this with rfl | rfl | rfl <;> dsimp only <;> omega
  rw [eb, Option.bind_some]
  have ek : ((k.toNat : Nat) : Int) = k := by omega
  have c1 : cutZ ts none (some k) = ts.take k.toNat := by rw [← ek]; exact cutZ_upto ts _
  have c2 : cutZ ts (some k) none = ts.drop k.toNat := by rw [← ek]; exact cutZ_from ts _
  have c3 : (cutZ ts (some (k + 1)) none).length ≤ ts.length := cutZ_len _ _ _
  have c4 : (ts.take k.toNat).length ≤ ts.length := by rw [List.length_take]; omega
  have c5 : (ts.drop k.toNat).length ≤ ts.length := by rw [List.length_drop]; omega
  have c6 : cutZ ts none (some 1) = ts.take 1 := cutZ_upto ts 1
  have td : t ∈ ts.drop k.toNat := by
    obtain ⟨hk, e⟩ := List.getElem?_eq_some_iff.mp gt
    rw [List.drop_eq_getElem_cons hk, e]
    exact List.mem_cons_self
  have cat : ∀ A B : List (Int × Int), A.length ≤ 100 → B.length ≤ 100 → catL A B = some (A ++ B) := fun A B h1 h2 => by unfold catL; rw [if_pos (by omega)]
  have : way = 0 ∨ way = 1 ∨ way = 2 ∨ way = 3 ∨ way = 4 := by omega
  rcases this with rfl | rfl | rfl | rfl | rfl
  · refine ⟨ts.take k.toNat ++ [t] ++ ts.drop k.toNat, ?_, ?_, no_dup (t := t) (by simp) td⟩
    · rw [c1, c2, cat (ts.take k.toNat) [t] (by omega) (by simp)]
      simp only [decide_true, ↓reduceIte, Option.bind_some]
      exact cat _ _ (by simp only [List.length_append, List.length_cons, List.length_nil]; omega) (by omega)
    · simp only [List.length_append, List.length_cons, List.length_nil]; omega
  · refine ⟨ts.take k.toNat ++ [(t.2, t.1)] ++ cutZ ts (some (k + 1)) none, ?_, ?_, no_bad (b := (t.2, t.1)) (by simp) (by unfold Tie; dsimp only; omega)⟩
    · rw [c1, cat (ts.take k.toNat) [(t.2, t.1)] (by omega) (by simp)]
      have z : ¬ (1 : Int) = 0 := by decide
      simp only [z, decide_true, decide_false, Bool.false_eq_true, ↓reduceIte, Option.bind_some]
      exact cat _ _ (by simp only [List.length_append, List.length_cons, List.length_nil]; omega) (by omega)
    · simp only [List.length_append, List.length_cons, List.length_nil]; omega
  · refine ⟨ts.take k.toNat ++ [b] ++ cutZ ts (some (k + 1)) none, ?_, ?_, no_bad (b := b) (by simp) bad⟩
    · rw [c1, cat (ts.take k.toNat) [b] (by omega) (by simp)]
      have z : ¬ (2 : Int) = 0 := by decide
      have z1 : ¬ (2 : Int) = 1 := by decide
      simp only [z, z1, decide_true, decide_false, Bool.false_eq_true, ↓reduceIte, Option.bind_some]
      exact cat _ _ (by simp only [List.length_append, List.length_cons, List.length_nil]; omega) (by omega)
    · simp only [List.length_append, List.length_cons, List.length_nil]; omega
  · refine ⟨ts ++ ts, ?_, ?_, no_dup tm tm⟩
    · have z : ¬ (3 : Int) = 0 := by decide
      have z1 : ¬ (3 : Int) = 1 := by decide
      have z2 : ¬ (3 : Int) = 2 := by decide
      simp only [z, z1, z2, decide_true, decide_false, Bool.false_eq_true, ↓reduceIte, Option.bind_some]
      exact cat _ _ (by omega) (by omega)
    · simp only [List.length_append]; omega
  · cases ts with
    | nil => simp at h0
    | cons u us =>
      refine ⟨(u :: us).reverse ++ [u], ?_, ?_, no_dup (t := u) (by simp) (by simp)⟩
      · have z : ¬ (4 : Int) = 0 := by decide
        have z1 : ¬ (4 : Int) = 1 := by decide
        have z2 : ¬ (4 : Int) = 2 := by decide
        have z3 : ¬ (4 : Int) = 3 := by decide
        simp only [z, z1, z2, z3, decide_false, Bool.false_eq_true, ↓reduceIte, Option.bind_some]
        rw [c6, cat (u :: us).reverse ((u :: us).take 1) (by rw [List.length_reverse]; omega) (by rw [List.length_take]; omega)]
        rfl
      · rw [List.length_append, List.length_reverse]
        simp only [List.length_cons, List.length_nil] at hl ⊢
        omega
theorem end_eq {p : Int} {ts : List (Int × Int)} (hA : asked_web p ts = some (.error .noWeb)) {w : Int} (h0 : 0 ≤ w) (h1 : w < 18) (d : List Int) :
    ((first_eight w p ts).bind fun y => exB y fun _ => (others w p ts d).bind fun y => exB y fun _ => (some (.ok ()) : Rs Unit)) = some (.error .noWeb) := by
  by_cases c : w < 8
  · rw [first_n hA h0 c, Option.bind_some, exB_error]
  · rw [first_y (by omega), Option.bind_some, exB_ok, others_n hA (by omega) h1, Option.bind_some, exB_error]
theorem law_true (ns : List Int) (hn : ns.length ≤ 63) : law ns = some true := by
  unfold law
  have m7 := emod_bd (cell ns 3) (show (0 : Int) < 7 by decide)
  have m18 := emod_bd (cell ns 6) (show (0 : Int) < 18 by decide)
  have m93 := emod_bd (cell ns 4) (show (0 : Int) < 93 by decide)
  have m4 := emod_bd (cell ns 5) (show (0 : Int) < 4 by decide)
  have d4 : divZ (cell ns 5) 4 = some (cell ns 5 / 4) := by unfold divZ; rw [if_pos (by omega)]
  have hc : (cutZ ns (some 1) none).length ≤ ns.length := cutZ_len _ _ _
  have ec : catL [2 + cell ns 0 % 6] (cutZ ns (some 1) none) = some ([2 + cell ns 0 % 6] ++ cutZ ns (some 1) none) := by
    unfold catL
    rw [if_pos (by simp only [List.length_cons, List.length_nil]; omega)]
  obtain ⟨p, ts, e0, hp, hl, hT⟩ := web_by_spec ([2 + cell ns 0 % 6] ++ cutZ ns (some 1) none) (k := 0) (most := 7) (cap := 12) (by decide) (by decide) (by decide) (by decide)
  simp only [cell_at_eq ns (show (0 : Int) ≤ 0 by decide), cell_at_eq ns (show (0 : Int) ≤ 3 by decide), cell_at_eq ns (show (0 : Int) ≤ 4 by decide), cell_at_eq ns (show (0 : Int) ≤ 5 by decide), cell_at_eq ns (show (0 : Int) ≤ 6 by decide), Option.bind_some,
    modZ_pos (show (0 : Int) < 6 by decide), modZ_pos (show (0 : Int) < 7 by decide), modZ_pos (show (0 : Int) < 18 by decide), modZ_pos (show (0 : Int) < 93 by decide), modZ_pos (show (0 : Int) < 4 by decide), d4, ec, e0, next_eq]
  generalize cell ns 3 % 7 = way at *
  generalize cell ns 6 % 18 = which at *
  generalize cell ns 4 % 93 = far at *
  generalize cell ns 5 % 4 = m at *
  -- the web to be spoilt
  have S0 : ∃ us : List (Int × Int), (if decide ((ts.length : Int) = 0) = true then some [((0 : Int), (1 : Int))] else some ts) = some us ∧ 0 < us.length ∧ us.length ≤ 12 ∧ ∀ t ∈ us, t.1 < t.2 := by
    by_cases c : (ts.length : Int) = 0
    · exact ⟨[(0, 1)], by rw [if_pos (by simpa using c)], by simp, by simp, by simp⟩
    · exact ⟨ts, by rw [if_neg (by simpa using c)], by omega, by omega, fun t ht => (hT.tie t ht).2.1⟩
  obtain ⟨us, e1, u0, u12, ult⟩ := S0
  rw [e1, Option.bind_some]
  have S1 : ∃ (vs : List (Int × Int)) (q : Int), (if decide (way < 5) = true then (spoilt us way (nxt (cell ns 4))).bind fun ties => some (ties, p) else
      (if decide (cell ns 5 / 4 % 4 = 1) = true then some ([] : List (Int × Int)) else some us).bind fun s => (atZ [(-1), 8, ((-1) - far), (8 + far)] m).bind fun points => some (s, points)) = some (vs, q) ∧ vs.length ≤ 1000 ∧ ¬ Web q vs ∧ q ≤ 1000 := by
    by_cases c : way < 5
    · rw [if_pos (by simpa using c)]
      obtain ⟨vs, e2, h2, h3⟩ := spoilt_eq (p := p) (by omega) u0 u12 ult (c := nxt (cell ns 4)) (emod_bd _ (by decide)).1 (by omega) c
      exact ⟨vs, p, by rw [e2, Option.bind_some], h2, h3, by omega⟩
    · rw [if_neg (by simpa using c)]
      obtain ⟨q, e2, _⟩ := atZ_get (xs := [(-1), 8, ((-1) - far), (8 + far)]) m4.1 (by simpa using m4.2)
      have hq : ¬ (0 ≤ q ∧ q ≤ 7) ∧ q ≤ 1000 := by
        have := atZ_mem e2
        simp only [List.mem_cons, List.not_mem_nil, or_false] at this
        rcases this with rfl | rfl | rfl | rfl <;> omega
      by_cases d : cell ns 5 / 4 % 4 = 1
      · exact ⟨[], q, by rw [if_pos (by simpa using d), Option.bind_some, e2, Option.bind_some], by simp, fun w => hq.1 w.1, hq.2⟩
      · exact ⟨us, q, by rw [if_neg (by simpa using d), Option.bind_some, e2, Option.bind_some], by omega, fun w => hq.1 w.1, hq.2⟩
  obtain ⟨vs, q, e2, v1, nw, q1⟩ := S1
  rw [e2, Option.bind_some]
  dsimp only
  have er : ∃ ds : List Int, ((rng 0 (if 0 < q then q else 0)).bind fun y => lc (fun (_ : Int) => some true) (fun (_ : Int) => some 0) y) = some ds := by
    have hb : 0 ≤ (if 0 < q then q else 0) ∧ (if 0 < q then q else 0) ≤ 1000 := by split <;> omega
    rw [rng_nat (by omega) (by omega) (by omega) (by omega), Option.bind_some]
    exact ⟨_, lc_map (fun _ => 0) (by rw [List.length_map, List.length_range]; omega) fun _ _ => rfl⟩
  obtain ⟨ds, e3⟩ := er
  rw [e3, Option.bind_some, end_eq (ask_no v1 nw) m18.1 m18.2 ds, trX_error]
  simp [isE]
end Q

set_option Elab.async false
set_option linter.all false
set_option maxRecDepth 100000
set_option maxHeartbeats 4000000
namespace Q
open PySem L2 Dv Dw
abbrev topS (i : Nat) : Stmt := PySem.Challenge.pw_dyeweb_k18_no_web.main.body.getD i (.Pass ⟨0, 0, 0, 0⟩)
structure Txt (K : PySem.W.Frag) (mg : Str → Option Value) (ad : Er → Addr) (CW : Addr) : Prop where
  b_ValueError : mg "ValueError" = none
  b_abs : mg "abs" = none
  b_isinstance : mg "isinstance" = none
  b_len : mg "len" = none
  b_list : mg "list" = none
  b_max : mg "max" = none
  b_min : mg "min" = none
  b_range : mg "range" = none
  b_reversed : mg "reversed" = none
  b_sorted : mg "sorted" = none
  b_zip : mg "zip" = none
  g_MOST_POINTS : ∃ t, mg "MOST_POINTS" = some (.int 7 t)
  g_MOST_TIES : ∃ t, mg "MOST_TIES" = some (.int 12 t)
  x_GoesRound : ErC K mg "GoesRound" (ad .goesRound)
  x_NoDyeing : ErC K mg "NoDyeing" (ad .noDyeing)
  x_NoSetting : ErC K mg "NoSetting" (ad .noSetting)
  x_NoTie : ErC K mg "NoTie" (ad .noTie)
  x_NoWeb : ErC K mg "NoWeb" (ad .noWeb)
  kit : Kit K ad CW
  g_WebError : mg "WebError" = some (.ref CW)
  e_GoesRound : mg "GoesRound" = some (.ref (ad .goesRound))
  e_NoDyeing : mg "NoDyeing" = some (.ref (ad .noDyeing))
  e_NoNote : mg "NoNote" = some (.ref (ad .noNote))
  e_NoSetting : mg "NoSetting" = some (.ref (ad .noSetting))
  e_NoTie : mg "NoTie" = some (.ref (ad .noTie))
  e_NoWeb : mg "NoWeb" = some (.ref (ad .noWeb))
  nil : True
theorem rd_joinX {S R : Type} {c : TT} {t1 t2 u : TS} {σ : L2.St} {H : Hp} {D : Ends} {r : Except Er R} {m : Rs S} {k : S → Rs R} (P : S → L2.St → Hp → Hp → Prop) (hm : (m.bind fun y => exB y k) = some r)
    (h1 : ∀ y, m = some y → ∀ D' : Ends, (∀ s, y = .ok s → ∀ σ3 F3 H3, P s σ3 F3 H3 → D'.nx σ3 H3) → (∀ e, y = .error e → r = .error e) → tIfS c t1 t2 D' σ H)
    (h2 : ∀ s σ' F' H', k s = some r → P s σ' F' H' → u D σ' H') : tSeq (tIfS c t1 t2) u D σ H := by
  obtain ⟨y, e1, e2⟩ := Option.bind_eq_some_iff.mp hm
  refine h1 y e1 _ (fun s es σ3 F3 H3 hp => ?_) (fun e ee => ?_)
  · subst es
    exact h2 s σ3 F3 H3 e2 hp
  · subst ee
    exact (Option.some.inj e2).symm
theorem pe_blind {X : Cx} {e : Expr} : PE X e (fun _ _ _ => False) := ⟨fun _ _ _ _ _ _ h => h.elim⟩
section
variable {P : Program} {w : World} {K : PySem.W.Frag} {mg : Str → Option Value} {base : Heap} {ad : Er → Addr} {CW : Addr}
abbrev s_is_web : Stmt := topS 11
theorem sc_is_web : FnScope ["points", "ties", "k", "low", "high"] ["points", "ties"] (defScope s_is_web) := ⟨rfl, rfl, rfl, by decide +kernel, rfl, by decide +kernel, by decide +kernel⟩
theorem ok_is_web {f : Addr} {fd : FuncData} (F : Fun K "is_web" "is_web" s_is_web f fd) (gF : mg "is_web" = some (.ref f)) (T : Txt K mg ad CW) : Fn P w K mg base CX0 1 "is_web" ["points", "ties"] (spO (β := Bool) fun (x : Int × (List (Int × Int)) × Unit) => is_web x.1 x.2.1) := by
  obtain ⟨t_MOST_POINTS, T_g_MOST_POINTS⟩ := T.g_MOST_POINTS
  obtain ⟨t_MOST_TIES, T_g_MOST_TIES⟩ := T.g_MOST_TIES
  refine ⟨f, _, gF, F.kp, F.binds (ps := ["points", "ties"]) (fun _ _ _ _ _ _ us hl => match us, hl with | [_, _], _ => rfl), F.ok sc_is_web (spO_len rfl) (fun cdv A outer s H vs Q E hr h => ?_)⟩
  refine ⟨_, (pss_cons (ps_if (PW.pt (pw_or (pt_cmpR op_lt (pv 0) pe_int (nomark _)) (pw_or (pt_cmpR op_gt (pv 0) (pe_glob (v := .int 7) rfl T_g_MOST_POINTS ⟨_, rfl⟩) (nomark _)) (pw_or1 (pt_cmpR op_gt (pe_callB call_len_seq (by rfl) T.b_len PySem.boot_len (pa_cons (pv 1) pa_nil)) (pe_glob (v := .int 12) rfl T_g_MOST_TIES ⟨_, rfl⟩) (nomark _)))))) (pss_one (ps_ret pe_bl)) pss_nil)
    (pss_cons (ps_for PassesOwn.never rfl (pi_range1 (by rfl) T.b_range (pa_cons (pe_callB call_len_seq (by rfl) T.b_len PySem.boot_len (pa_cons (pv 1) pa_nil)) pa_nil)) (pg_name (i := 2) sc_is_web.nd rfl (by first | exact Or.inl rfl | exact Or.inr rfl)) (pss_cons (ps_asg (pe_ix ix_list (pv 1) (pv 2) (fun _ _ => rfl)) (pg_tup rfl (pgs_cons (pg_name (i := 3) sc_is_web.nd rfl (by first | exact Or.inl rfl | exact Or.inr rfl)) (pgs_cons (pg_name (i := 4) sc_is_web.nd rfl (by first | exact Or.inl rfl | exact Or.inr rfl)) pgs_nil))))
    (pss_cons (ps_if (PW.pt (pw_or (pt_cmpR op_lt (pv 3) pe_int (nomark _)) (pw_or (pt_cmpR op_ge (pv 3) (pv 4) (nomark _)) (pw_or1 (pt_cmpR op_ge (pv 4) (pv 0) (nomark _)))))) (pss_one (ps_ret pe_bl)) pss_nil)
    (pss_one (ps_if (PW.pt (pw_and (pt_cmpR op_gt (pv 2) pe_int (nomark _)) (pw_and1 (pt_cmpR (op_leT (hu0 hr)) (pe_ix ix_list (pv 1) (pv 2) (fun _ _ => rfl)) (pe_ix ix_list (pv 1) (pe_op op_sub (pv 2) pe_int) (fun _ _ => rfl)) (nomark _))))) (pss_one (ps_ret pe_bl)) pss_nil)))))
    (pss_one (ps_ret pe_bl)))), ?_⟩
  obtain ⟨F0, ⟨x_points, x_ties, _⟩, y, s0, ⟨v_points, _, rfl, h_points, v_ties, _, rfl, h_ties, rfl⟩, hm, hQ⟩ := h
  have L0 : Lat F0 H F0 H := .refl s0
  refine at_st (σ := [some v_points, some v_ties, none, none, none]) rfl ?_
  replace hm : is_web x_points x_ties = some y := hm
  unfold is_web at hm
  refine rd_guard L0.fh (evt_or (evt_of (ev_op (ev_varF rfl h_points) ev_int rv_cmp)) (evt_or (evt_of (ev_op (ev_varF rfl h_points) ev_int rv_cmp)) (evt_of (ev_op (ev_len (ev_var rfl h_ties)) ev_int rv_cmp)))) hm ?_ ?_
  · intro F1 H2 _ hm l3
    have L4 := L0.trans l3
    exact rd_ret0 L4.fh ev_bl hm fun v F1 H1 l rv => hQ v F1 H1 (L4.trans l) rv
  · intro F5 H6 _ hm l7
    have L8 := L0.trans l7
    replace h_ties := up h_ties l7
    refine rd_for L8.fh (ei_range1 (ev_len (ev_var rfl h_ties))) hm ?_
    intro xs9 J10 F11 H12 hm l13 wk14
    have L15 := L8.trans l13
    replace h_ties := up h_ties l13
    refine rd_loopR wk14 hm (fun (s : Unit) σ_ F_ H_ => ∃ (o2_ : Option V) (o3_ : Option V) (o4_ : Option V), σ_ = [some v_points, some v_ties, o2_, o3_, o4_] ∧ Same F11 F_ ∧ Lat F0 H F_ H_ ∧ True) ⟨_, _, _, rfl, (.refl _), L15, trivial⟩ ?_ ?_ ?_
    · rintro s σ_ F_ H_ ⟨e16, e17, e18, rfl, sf19, L20, -⟩
      exact ⟨sf19, L20.fh⟩
    · rintro q21 s22 σ_ F28 H29 v23 F30 H31 ⟨e32, e33, e34, rfl, sf35, L36, -⟩ l24 rv25 st39 hm D27 hD37 hN26 hR38
      replace hD37 : D27.rt = Q := hD37
      replace h_ties := Rep.mono sf35 h_ties
      have L40 := L36.trans l24
      have sb41 := Same.trans sf35 l24.f
      replace h_ties := up h_ties l24
      refine gt_name ?_
      refine rd_asg2 L40.fh (ev_op (ev_var rfl h_ties) (ev_varF rfl rv25) rv_ixL) hm ?_
      intro x42 v43 v44 F45 H46 hm l47 h_low_48 h_high_49
      have L50 := L40.trans l47
      have sb51 := Same.trans sb41 l47.f
      replace h_ties := up h_ties l47
      refine rd_guard L50.fh (evt_or (evt_of (ev_op (ev_varF rfl h_low_48) ev_int rv_cmp)) (evt_or (evt_of (ev_op (ev_varF rfl h_low_48) (ev_varF rfl h_high_49) rv_cmp)) (evt_of (ev_op (ev_varF rfl h_high_49) (ev_varF rfl h_points) rv_cmp)))) hm ?_ ?_
      · intro F52 H53 _ hm l54
        have L55 := L50.trans l54
        have sb56 := Same.trans sb51 l54.f
        replace h_ties := up h_ties l54
        refine rd_ret L55.fh ev_bl hm ?_
        intro x_ v_ F1_ H1_ hm l_ rv_
        replace hm := hR38 _ (Option.some.inj hm).symm
        obtain rfl := Option.some.inj hm
        rw [hD37]
        exact hQ _ _ _ (L55.trans l_) rv_
      · intro F57 H58 _ hm l59
        have L60 := L50.trans l59
        have sb61 := Same.trans sb51 l59.f
        replace h_ties := up h_ties l59
        refine rd_if L60.fh (evt_and (evt_of (ev_op (ev_varF rfl rv25) ev_int rv_cmp)) (evt_of (ev_op (ev_op (ev_var rfl h_ties) (ev_varF rfl rv25) rv_ixL) (ev_op (ev_var rfl h_ties) (ev_op (ev_varF rfl rv25) ev_int rv_sub) rv_ixL) rv_leT))) hm ?_ ?_
        · intro F62 H63 _ hm l64
          have L65 := L60.trans l64
          have sb66 := Same.trans sb61 l64.f
          replace h_ties := up h_ties l64
          refine rd_ret L65.fh ev_bl hm ?_
          intro x_ v_ F1_ H1_ hm l_ rv_
          replace hm := hR38 _ (Option.some.inj hm).symm
          obtain rfl := Option.some.inj hm
          rw [hD37]
          exact hQ _ _ _ (L65.trans l_) rv_
        · intro F67 H68 _ hm l69
          have L70 := L60.trans l69
          have sb71 := Same.trans sb61 l69.f
          replace h_ties := up h_ties l69
          exact hN26 _ (Option.some.inj hm).symm _ _ _ ⟨_, _, _, rfl, sb71, L70, trivial⟩
    · rintro s72 σ_ F73 H74 hm ⟨e75, e76, e77, rfl, sf78, L79, -⟩
      refine nx_with ?_
      exact rd_ret0 L79.fh ev_bl hm fun v F1 H1 l rv => hQ v F1 H1 (L79.trans l) rv
abbrev s_asked_web : Stmt := topS 12
theorem sc_asked_web : FnScope ["points", "ties"] ["points", "ties"] (defScope s_asked_web) := ⟨rfl, rfl, rfl, by decide +kernel, rfl, by decide +kernel, by decide +kernel⟩
theorem ok_asked_web {f : Addr} {fd : FuncData} (F : Fun K "asked_web" "asked_web" s_asked_web f fd) (gF : mg "asked_web" = some (.ref f)) (T : Txt K mg ad CW) (C_is_web : Fn P w K mg base CX0 1 "is_web" ["points", "ties"] (spO (β := Bool) fun (x : Int × (List (Int × Int)) × Unit) => is_web x.1 x.2.1)) : Fn P w K mg base (L2.CX P w) 2 "asked_web" ["points", "ties"] (spX (clO ad) (β := Unit) fun (x : Int × (List (Int × Int)) × Unit) => asked_web x.1 x.2.1) := by
  refine ⟨f, _, gF, F.kp, F.binds (ps := ["points", "ties"]) (fun _ _ _ _ _ _ us hl => match us, hl with | [_, _], _ => rfl), F.okX sc_asked_web (spX_len rfl) (fun cdv A outer s H vs Q E hr h => ?_)⟩
  refine ⟨_, (pss_one (ps_if (pt_not (pt_val (pe_fn C_is_web (hr.mono (by decide)) rfl (pa_cons (pv 0) (pa_cons (pv 1) pa_nil))))) (pss_one (ps_raiseE rfl (takes_of rfl rfl rfl rfl) T.x_NoWeb rfl)) pss_nil)), ?_⟩
  obtain ⟨F0, ⟨x_points, x_ties, _⟩, y, s0, ⟨v_points, _, rfl, h_points, v_ties, _, rfl, h_ties, rfl⟩, hm, hQ, hE⟩ := h
  have L0 : Lat F0 H F0 H := .refl s0
  refine at_st (σ := [some v_points, some v_ties]) rfl ?_
  replace hm : asked_web x_points x_ties = some y := hm
  unfold asked_web at hm
  refine rd_if L0.fh (evt_not (evt_b (ev_call (eva_cons (ev_varF rfl h_points) (eva_cons (ev_var rfl h_ties) eva_nil))))) hm ?_ ?_
  · intro F1 H2 _ hm l3
    have L4 := L0.trans l3
    exact (fun e F1 H1 ee l => hE e ee F1 H1 (L4.trans l)) _ _ _ (Option.some.inj hm).symm (.refl L4.fh)
  · intro F5 H6 _ hm l7
    have L8 := L0.trans l7
    exact hQ () (Option.some.inj hm).symm .non _ _ L8 rfl
abbrev s_asked_tie : Stmt := topS 13
theorem sc_asked_tie : FnScope ["points", "ties", "tie"] ["points", "ties", "tie"] (defScope s_asked_tie) := ⟨rfl, rfl, rfl, by decide +kernel, rfl, by decide +kernel, by decide +kernel⟩
theorem ok_asked_tie {f : Addr} {fd : FuncData} (F : Fun K "asked_tie" "asked_tie" s_asked_tie f fd) (gF : mg "asked_tie" = some (.ref f)) (T : Txt K mg ad CW) (C_asked_web : Fn P w K mg base (L2.CX P w) 2 "asked_web" ["points", "ties"] (spX (clO ad) (β := Unit) fun (x : Int × (List (Int × Int)) × Unit) => asked_web x.1 x.2.1)) : Fn P w K mg base (L2.CX P w) 3 "asked_tie" ["points", "ties", "tie"] (spX (clO ad) (β := Unit) fun (x : Int × (List (Int × Int)) × (Int × Int) × Unit) => asked_tie x.1 x.2.1 x.2.2.1) := by
  refine ⟨f, _, gF, F.kp, F.binds (ps := ["points", "ties", "tie"]) (fun _ _ _ _ _ _ us hl => match us, hl with | [_, _, _], _ => rfl), F.okX sc_asked_tie (spX_len rfl) (fun cdv A outer s H vs Q E hr h => ?_)⟩
  refine ⟨_, (pss_cons (ps_expr (pe_fnX (takes_of rfl rfl rfl rfl) C_asked_web (hr.mono (by decide)) rfl (pa_cons (pv 0) (pa_cons (pv 1) pa_nil))))
    (pss_one (ps_if (pt_cmpR (op_notInD (hu65 hr)) (pv 2) (pv 1) (by rfl)) (pss_one (ps_raiseE rfl (takes_of rfl rfl rfl rfl) T.x_NoTie rfl)) pss_nil))), ?_⟩
  obtain ⟨F0, ⟨x_points, x_ties, x_tie, _⟩, y, s0, ⟨v_points, _, rfl, h_points, v_ties, _, rfl, h_ties, v_tie, _, rfl, h_tie, rfl⟩, hm, hQ, hE⟩ := h
  have L0 : Lat F0 H F0 H := .refl s0
  refine at_st (σ := [some v_points, some v_ties, some v_tie]) rfl ?_
  replace hm : asked_tie x_points x_ties x_tie = some y := hm
  unfold asked_tie at hm
  refine rd_dropX L0.fh (ex_call (EVA.x (eva_cons (ev_varF rfl h_points) (eva_cons (ev_var rfl h_ties) eva_nil)))) hm (fun e F1 H1 ee l => hE e ee F1 H1 (L0.trans l)) ?_
  intro x1 F2 H3 hm l4
  have L5 := L0.trans l4
  replace h_ties := up h_ties l4
  replace h_tie := up h_tie l4
  refine rd_if L5.fh (evt_of (ev_op (ev_var rfl h_tie) (ev_var rfl h_ties) (fun x y => rv_notInD x y))) hm ?_ ?_
  · intro F6 H7 _ hm l8
    have L9 := L5.trans l8
    exact (fun e F1 H1 ee l => hE e ee F1 H1 (L9.trans l)) _ _ _ (Option.some.inj hm).symm (.refl L9.fh)
  · intro F10 H11 _ hm l12
    have L13 := L5.trans l12
    exact hQ () (Option.some.inj hm).symm .non _ _ L13 rfl
abbrev s_without : Stmt := topS 14
theorem sc_without : FnScope ["ties", "tie", "one"] ["ties", "tie"] (defScope s_without) := ⟨rfl, rfl, rfl, by decide +kernel, rfl, by decide +kernel, by decide +kernel⟩
theorem ok_without {f : Addr} {fd : FuncData} (F : Fun K "without" "without" s_without f fd) (gF : mg "without" = some (.ref f)) (T : Txt K mg ad CW) : Fn P w K mg base CX0 1 "without" ["ties", "tie"] (spN (β := (Int × Int)) fun (x : (List (Int × Int)) × (Int × Int) × Unit) => without x.1 x.2.1) := by
  refine ⟨f, _, gF, F.kp, F.binds (ps := ["ties", "tie"]) (fun _ _ _ _ _ _ us hl => match us, hl with | [_, _], _ => rfl), F.ok sc_without (spN_len rfl) (fun cdv A outer s H vs Q E hr h => ?_)⟩
  refine ⟨_, (pss_one (ps_ret (pe_lc (own := [("one", 2)]) (g := (gName 2)) rfl sc_without.nd (pi_list (pv 0)) (blkOk_by (N := ["ties", "tie", "one"]) (sc := defScope s_without) (by decide +kernel)) (fun _ _ _ _ _ => (pg_name (i := 2) sc_without.nd rfl (by first | exact Or.inl rfl | exact Or.inr rfl))) (fun _ _ _ _ _ => (pts_one (pt_cmpR (op_neDK rfl (hu64 hr)) (pv 2) (pv 1) (nomark _)))) (fun _ _ _ _ _ => (pv 2))))), ?_⟩
  obtain ⟨F0, ⟨x_ties, x_tie, _⟩, y, s0, ⟨v_ties, _, rfl, h_ties, v_tie, _, rfl, h_tie, rfl⟩, hm, hQ⟩ := h
  have L0 : Lat F0 H F0 H := .refl s0
  refine at_st (σ := [some v_ties, some v_tie, none]) rfl ?_
  replace hm : without x_ties x_tie = some y := hm
  unfold without at hm
  exact rd_retN L0.fh (evn_lc (ei_list (ev_var rfl h_ties)) (fun x1 v2 _ _ _ l4 r3 k5 => gt_name (k5 _ rfl (evt_of (ev_op (ev_var rfl r3) (ev_var rfl (up h_tie l4)) (fun x y => rv_neD x y))) (ev_var rfl r3)))) hm fun p vs F1 H1 l h1 h2 h3 rv => hQ p vs F1 H1 (L0.trans l) (L0.h.free h1) h2 h3 rv
abbrev s_cut : Stmt := topS 15
theorem sc_cut : FnScope ["points", "ties", "tie"] ["points", "ties", "tie"] (defScope s_cut) := ⟨rfl, rfl, rfl, by decide +kernel, rfl, by decide +kernel, by decide +kernel⟩
theorem ok_cut {f : Addr} {fd : FuncData} (F : Fun K "cut" "cut" s_cut f fd) (gF : mg "cut" = some (.ref f)) (T : Txt K mg ad CW) (C_asked_tie : Fn P w K mg base (L2.CX P w) 3 "asked_tie" ["points", "ties", "tie"] (spX (clO ad) (β := Unit) fun (x : Int × (List (Int × Int)) × (Int × Int) × Unit) => asked_tie x.1 x.2.1 x.2.2.1)) (C_without : Fn P w K mg base CX0 1 "without" ["ties", "tie"] (spN (β := (Int × Int)) fun (x : (List (Int × Int)) × (Int × Int) × Unit) => without x.1 x.2.1)) : Fn P w K mg base (L2.CX P w) 4 "cut" ["points", "ties", "tie"] (spXN (clO ad) (β := (Int × Int)) fun (x : Int × (List (Int × Int)) × (Int × Int) × Unit) => cut x.1 x.2.1 x.2.2.1) := by
  refine ⟨f, _, gF, F.kp, F.binds (ps := ["points", "ties", "tie"]) (fun _ _ _ _ _ _ us hl => match us, hl with | [_, _, _], _ => rfl), F.okX sc_cut (spXN_len rfl) (fun cdv A outer s H vs Q E hr h => ?_)⟩
  refine ⟨_, (pss_cons (ps_expr (pe_fnX (takes_of rfl rfl rfl rfl) C_asked_tie (hr.mono (by decide)) rfl (pa_cons (pv 0) (pa_cons (pv 1) (pa_cons (pv 2) pa_nil)))))
    (pss_one (ps_ret (pe_fn C_without (hr.mono (by decide)) rfl (pa_cons (pv 1) (pa_cons (pv 2) pa_nil)))))), ?_⟩
  obtain ⟨F0, ⟨x_points, x_ties, x_tie, _⟩, y, s0, ⟨v_points, _, rfl, h_points, v_ties, _, rfl, h_ties, v_tie, _, rfl, h_tie, rfl⟩, hm, hQ, hE⟩ := h
  have L0 : Lat F0 H F0 H := .refl s0
  refine at_st (σ := [some v_points, some v_ties, some v_tie]) rfl ?_
  replace hm : cut x_points x_ties x_tie = some y := hm
  unfold cut at hm
  refine rd_dropX L0.fh (ex_call (EVA.x (eva_cons (ev_varF rfl h_points) (eva_cons (ev_var rfl h_ties) (eva_cons (ev_var rfl h_tie) eva_nil))))) hm (fun e F1 H1 ee l => hE e ee F1 H1 (L0.trans l)) ?_
  intro x1 F2 H3 hm l4
  have L5 := L0.trans l4
  replace h_ties := up h_ties l4
  replace h_tie := up h_tie l4
  exact rd_retNk L5.fh (evn_call (eva_cons (ev_var rfl h_ties) (eva_cons (ev_var rfl h_tie) eva_nil))) hm fun x p vs F1 H1 hm l h1 h2 h3 rv => hQ x (Option.some.inj hm).symm p vs F1 H1 (L5.trans l) (L5.h.free h1) h2 h3 rv
abbrev s_named : Stmt := topS 16
theorem sc_named : FnScope ["point", "tie"] ["point", "tie"] (defScope s_named) := ⟨rfl, rfl, rfl, by decide +kernel, rfl, by decide +kernel, by decide +kernel⟩
theorem ok_named {f : Addr} {fd : FuncData} (F : Fun K "named" "named" s_named f fd) (gF : mg "named" = some (.ref f)) (T : Txt K mg ad CW) : Fn P w K mg base CX0 1 "named" ["point", "tie"] (spO (β := Int) fun (x : Int × (Int × Int) × Unit) => named x.1 x.2.1) := by
  refine ⟨f, _, gF, F.kp, F.binds (ps := ["point", "tie"]) (fun _ _ _ _ _ _ us hl => match us, hl with | [_, _], _ => rfl), F.ok sc_named (spO_len rfl) (fun cdv A outer s H vs Q E hr h => ?_)⟩
  refine ⟨_, (pss_cons (ps_if (pt_cmpR op_eq (pv 0) (pe_ix ix_tup (pv 1) pe_int (fun _ _ => rfl)) (nomark _)) (pss_one (ps_ret (pe_ix ix_tup (pv 1) pe_int (fun _ _ => rfl)))) pss_nil)
    (pss_cons (ps_if (pt_cmpR op_gt (pv 0) (pe_ix ix_tup (pv 1) pe_int (fun _ _ => rfl)) (nomark _)) (pss_one (ps_ret (pe_op op_sub (pv 0) pe_int))) pss_nil)
    (pss_one (ps_ret (pv 0))))), ?_⟩
  obtain ⟨F0, ⟨x_point, x_tie, _⟩, y, s0, ⟨v_point, _, rfl, h_point, v_tie, _, rfl, h_tie, rfl⟩, hm, hQ⟩ := h
  have L0 : Lat F0 H F0 H := .refl s0
  refine at_st (σ := [some v_point, some v_tie]) rfl ?_
  replace hm : named x_point x_tie = some y := hm
  unfold named at hm
  refine rd_guard L0.fh (evt_of (ev_op (ev_varF rfl h_point) (ev_snd (ev_var rfl h_tie)) rv_eqI)) hm ?_ ?_
  · intro F1 H2 _ hm l3
    have L4 := L0.trans l3
    replace h_tie := up h_tie l3
    exact rd_ret0 L4.fh (ev_fst (ev_var rfl h_tie)) hm fun v F1 H1 l rv => hQ v F1 H1 (L4.trans l) rv
  · intro F5 H6 _ hm l7
    have L8 := L0.trans l7
    replace h_tie := up h_tie l7
    refine rd_guard L8.fh (evt_of (ev_op (ev_varF rfl h_point) (ev_snd (ev_var rfl h_tie)) rv_cmp)) hm ?_ ?_
    · intro F9 H10 _ hm l11
      have L12 := L8.trans l11
      exact rd_ret0 L12.fh (ev_op (ev_varF rfl h_point) ev_int rv_sub) hm fun v F1 H1 l rv => hQ v F1 H1 (L12.trans l) rv
    · intro F13 H14 _ hm l15
      have L16 := L8.trans l15
      exact rd_ret0 L16.fh (ev_varF rfl h_point) hm fun v F1 H1 l rv => hQ v F1 H1 (L16.trans l) rv
abbrev s_put_together : Stmt := topS 17
theorem sc_put_together : FnScope ["ties", "tie", "found", "one", "low", "high"] ["ties", "tie"] (defScope s_put_together) := ⟨rfl, rfl, rfl, by decide +kernel, rfl, by decide +kernel, by decide +kernel⟩
theorem ok_put_together {f : Addr} {fd : FuncData} (F : Fun K "put_together" "put_together" s_put_together f fd) (gF : mg "put_together" = some (.ref f)) (T : Txt K mg ad CW) (C_without : Fn P w K mg base CX0 1 "without" ["ties", "tie"] (spN (β := (Int × Int)) fun (x : (List (Int × Int)) × (Int × Int) × Unit) => without x.1 x.2.1)) (C_named : Fn P w K mg base CX0 1 "named" ["point", "tie"] (spO (β := Int) fun (x : Int × (Int × Int) × Unit) => named x.1 x.2.1)) : Fn P w K mg base CX0 2 "put_together" ["ties", "tie"] (spN (β := (Int × Int)) fun (x : (List (Int × Int)) × (Int × Int) × Unit) => put_together x.1 x.2.1) := by
  refine ⟨f, _, gF, F.kp, F.binds (ps := ["ties", "tie"]) (fun _ _ _ _ _ _ us hl => match us, hl with | [_, _], _ => rfl), F.ok sc_put_together (spN_len rfl) (fun cdv A outer s H vs Q E hr h => ?_)⟩
  refine ⟨_, (pss_cons (ps_set (i := 2) sc_put_together.nd rfl (by first | exact Or.inl rfl | exact Or.inr rfl) pe_dnewT)
    (pss_cons (ps_for PassesOwn.never rfl (pi_list (pe_fn C_without (hr.mono (by decide)) rfl (pa_cons (pv 0) (pa_cons (pv 1) pa_nil)))) (pg_name (i := 3) sc_put_together.nd rfl (by first | exact Or.inl rfl | exact Or.inr rfl)) (pss_cons (ps_set (i := 4) sc_put_together.nd rfl (by first | exact Or.inl rfl | exact Or.inr rfl) (pe_fn C_named (hr.mono (by decide)) rfl (pa_cons (pe_ix ix_tup (pv 3) pe_int (fun _ _ => rfl)) (pa_cons (pv 1) pa_nil))))
    (pss_cons (ps_set (i := 5) sc_put_together.nd rfl (by first | exact Or.inl rfl | exact Or.inr rfl) (pe_fn C_named (hr.mono (by decide)) rfl (pa_cons (pe_ix ix_tup (pv 3) pe_int (fun _ _ => rfl)) (pa_cons (pv 1) pa_nil))))
    (pss_one (ps_dput (hu_of hr) (pv 2) (pe_tup (pa_cons (pe_callB (call_min2 rfl) (by rfl) T.b_min (by decide +kernel) (pa_cons (pv 4) (pa_cons (pv 5) pa_nil))) (pa_cons (pe_callB (call_max2 rfl) (by rfl) T.b_max (by decide +kernel) (pa_cons (pv 4) (pa_cons (pv 5) pa_nil))) pa_nil))) pe_bl rfl)))))
    (pss_one (ps_ret (pe_callB cr_sortedPO (by rfl) T.b_sorted (by decide +kernel) (pa_cons (pe_callTy (call_list_dT rfl) (by rfl) T.b_list (by decide +kernel) (pa_cons (pv 2) pa_nil)) pa_nil)))))), ?_⟩
  obtain ⟨F0, ⟨x_ties, x_tie, _⟩, y, s0, ⟨v_ties, _, rfl, h_ties, v_tie, _, rfl, h_tie, rfl⟩, hm, hQ⟩ := h
  have L0 : Lat F0 H F0 H := .refl s0
  refine at_st (σ := [some v_ties, some v_tie, none, none, none, none]) rfl ?_
  replace hm : put_together x_ties x_tie = some y := hm
  unfold put_together at hm
  refine rd_newD L0.fh hm ?_
  intro p1 F2 H3 hm l4 hn5 fp7 hp6
  have rl8 : List.map (fun x => x.1) ([] : List (List Key × V)) = List.map kk [] := rfl
  have hz9 := L0.h.free hn5
  have L10 := L0.trans l4
  replace h_ties := up h_ties l4
  replace h_tie := up h_tie l4
  refine rd_for L10.fh (ei_list (EVN.ev (evn_call (eva_cons (ev_var rfl h_ties) (eva_cons (ev_var rfl h_tie) eva_nil))))) hm ?_
  intro xs11 J12 F13 H14 hm l15 wk16
  have L17 := L10.trans l15
  replace h_ties := up h_ties l15
  replace h_tie := up h_tie l15
  replace fp7 := l15.nw _ _ hp6 trivial fp7
  replace hp6 := l15.h _ _ hp6
  refine rd_loopG wk16 hm (fun (s : (List (Int × Int))) σ_ F_ H_ => ∃ (o3_ : Option V) (o4_ : Option V) (o5_ : Option V) (w2_ : List (List Key × V)), σ_ = [some v_ties, some v_tie, some (.ref p1), o3_, o4_, o5_] ∧ Same F13 F_ ∧ Lat F0 H F_ H_ ∧ (H_ p1 = some (.dT w2_) ∧ F_ p1 = none ∧ List.map (fun x => x.1) w2_ = List.map kk s) ∧ True) ⟨_, _, _, _, rfl, (.refl _), L17, ⟨hp6, fp7, rl8⟩, trivial⟩ ?_ ?_ ?_
  · rintro s σ_ F_ H_ ⟨e18, e19, e20, e21, rfl, sf22, L23, ⟨hp24, fp25, rl26⟩, -⟩
    exact ⟨sf22, L23.fh⟩
  · rintro q27 s28 σ_ F34 H35 v29 F36 H37 ⟨e38, e39, e40, e41, rfl, sf42, L43, ⟨hp44, fp45, rl46⟩, -⟩ l30 rv31 s47 hm D33 hN32
    replace h_tie := Rep.mono sf42 h_tie
    have L48 := L43.trans l30
    have sb49 := Same.trans sf42 l30.f
    replace h_tie := up h_tie l30
    replace fp45 := l30.nw _ _ hp44 trivial fp45
    replace hp44 := l30.h _ _ hp44
    refine gt_name ?_
    refine rd_asg L48.fh (ev_call (eva_cons (ev_fst (ev_var rfl rv31)) (eva_cons (ev_var rfl h_tie) eva_nil))) hm ?_
    intro x50 v51 F52 H53 hm l54 h_low_55
    have L56 := L48.trans l54
    have sb57 := Same.trans sb49 l54.f
    replace h_tie := up h_tie l54
    replace fp45 := l54.nw _ _ hp44 trivial fp45
    replace hp44 := l54.h _ _ hp44
    replace rv31 := up rv31 l54
    refine rd_asg L56.fh (ev_call (eva_cons (ev_snd (ev_var rfl rv31)) (eva_cons (ev_var rfl h_tie) eva_nil))) hm ?_
    intro x58 v59 F60 H61 hm l62 h_high_63
    have L64 := L56.trans l62
    have sb65 := Same.trans sb57 l62.f
    replace h_tie := up h_tie l62
    replace fp45 := l62.nw _ _ hp44 trivial fp45
    replace hp44 := l62.h _ _ hp44
    replace rv31 := up rv31 l62
    refine rd_putDL L64.fh rfl hp44 fp45 rl46 ev_bl (ev_tup (ev_min2 (ev_varF rfl h_low_55) (ev_varF rfl h_high_63)) (ev_max2 (ev_varF rfl h_low_55) (ev_varF rfl h_high_63))) hm ?_
    intro x66 w67 F68 H69 hm m70 fp71 hp72 rl73
    have L74 := m70.l0 _ _ L64 hz9
    have sb75 := Same.trans sb65 m70.f
    replace h_tie := Rep.mono m70.f h_tie
    replace rv31 := Rep.mono m70.f rv31
    obtain rfl := Option.some.inj hm
    exact hN32 _ _ _ ⟨_, _, _, _, rfl, sb75, L74, ⟨hp72, fp71, rl73⟩, trivial⟩
  · rintro s76 σ_ F77 H78 hm ⟨e79, e80, e81, e82, rfl, sf83, L84, ⟨hp85, fp86, rl87⟩, -⟩
    refine nx_with ?_
    exact rd_retN L84.fh (evn_sortP (EVN.ev (evn_listD rfl hp85 rl87))) hm fun p vs F1 H1 l h1 h2 h3 rv => hQ p vs F1 H1 (L84.trans l) (L84.h.free h1) h2 h3 rv
abbrev s_merged : Stmt := topS 18
theorem sc_merged : FnScope ["points", "ties", "tie"] ["points", "ties", "tie"] (defScope s_merged) := ⟨rfl, rfl, rfl, by decide +kernel, rfl, by decide +kernel, by decide +kernel⟩
theorem ok_merged {f : Addr} {fd : FuncData} (F : Fun K "merged" "merged" s_merged f fd) (gF : mg "merged" = some (.ref f)) (T : Txt K mg ad CW) (C_asked_tie : Fn P w K mg base (L2.CX P w) 3 "asked_tie" ["points", "ties", "tie"] (spX (clO ad) (β := Unit) fun (x : Int × (List (Int × Int)) × (Int × Int) × Unit) => asked_tie x.1 x.2.1 x.2.2.1)) (C_put_together : Fn P w K mg base CX0 2 "put_together" ["ties", "tie"] (spN (β := (Int × Int)) fun (x : (List (Int × Int)) × (Int × Int) × Unit) => put_together x.1 x.2.1)) : Fn P w K mg base (L2.CX P w) 4 "merged" ["points", "ties", "tie"] (spXN (clO ad) (β := (Int × Int)) fun (x : Int × (List (Int × Int)) × (Int × Int) × Unit) => merged x.1 x.2.1 x.2.2.1) := by
  refine ⟨f, _, gF, F.kp, F.binds (ps := ["points", "ties", "tie"]) (fun _ _ _ _ _ _ us hl => match us, hl with | [_, _, _], _ => rfl), F.okX sc_merged (spXN_len rfl) (fun cdv A outer s H vs Q E hr h => ?_)⟩
  refine ⟨_, (pss_cons (ps_expr (pe_fnX (takes_of rfl rfl rfl rfl) C_asked_tie (hr.mono (by decide)) rfl (pa_cons (pv 0) (pa_cons (pv 1) (pa_cons (pv 2) pa_nil)))))
    (pss_one (ps_ret (pe_fn C_put_together (hr.mono (by decide)) rfl (pa_cons (pv 1) (pa_cons (pv 2) pa_nil)))))), ?_⟩
  obtain ⟨F0, ⟨x_points, x_ties, x_tie, _⟩, y, s0, ⟨v_points, _, rfl, h_points, v_ties, _, rfl, h_ties, v_tie, _, rfl, h_tie, rfl⟩, hm, hQ, hE⟩ := h
  have L0 : Lat F0 H F0 H := .refl s0
  refine at_st (σ := [some v_points, some v_ties, some v_tie]) rfl ?_
  replace hm : merged x_points x_ties x_tie = some y := hm
  unfold merged at hm
  refine rd_dropX L0.fh (ex_call (EVA.x (eva_cons (ev_varF rfl h_points) (eva_cons (ev_var rfl h_ties) (eva_cons (ev_var rfl h_tie) eva_nil))))) hm (fun e F1 H1 ee l => hE e ee F1 H1 (L0.trans l)) ?_
  intro x1 F2 H3 hm l4
  have L5 := L0.trans l4
  replace h_ties := up h_ties l4
  replace h_tie := up h_tie l4
  exact rd_retNk L5.fh (evn_call (eva_cons (ev_var rfl h_ties) (eva_cons (ev_var rfl h_tie) eva_nil))) hm fun x p vs F1 H1 hm l h1 h2 h3 rv => hQ x (Option.some.inj hm).symm p vs F1 H1 (L5.trans l) (L5.h.free h1) h2 h3 rv
abbrev s_pieces : Stmt := topS 19
theorem sc_pieces : FnScope ["points", "ties", "heads", "lap", "low", "high", "least", "found", "head", "piece", "point"] ["points", "ties"] (defScope s_pieces) := ⟨rfl, rfl, rfl, by decide +kernel, rfl, by decide +kernel, by decide +kernel⟩
theorem ok_pieces {f : Addr} {fd : FuncData} (F : Fun K "pieces" "pieces" s_pieces f fd) (gF : mg "pieces" = some (.ref f)) (T : Txt K mg ad CW) (C_asked_web : Fn P w K mg base (L2.CX P w) 2 "asked_web" ["points", "ties"] (spX (clO ad) (β := Unit) fun (x : Int × (List (Int × Int)) × Unit) => asked_web x.1 x.2.1)) : Fn P w K mg base (L2.CX P w) 3 "pieces" ["points", "ties"] (spXN (clO ad) (β := (List Int)) fun (x : Int × (List (Int × Int)) × Unit) => pieces x.1 x.2.1) := by
  refine ⟨f, _, gF, F.kp, F.binds (ps := ["points", "ties"]) (fun _ _ _ _ _ _ us hl => match us, hl with | [_, _], _ => rfl), F.okX sc_pieces (spXN_len rfl) (fun cdv A outer s H vs Q E hr h => ?_)⟩
  refine ⟨_, (pss_cons (ps_expr (pe_fnX (takes_of rfl rfl rfl rfl) C_asked_web (hr.mono (by decide)) rfl (pa_cons (pv 0) (pa_cons (pv 1) pa_nil))))
    (pss_cons (ps_set (i := 2) sc_pieces.nd rfl (by first | exact Or.inl rfl | exact Or.inr rfl) (pe_listRg rfl rfl T.b_list (prg_1 rfl T.b_range (pv 0))))
    (PSs.nox (pss_cons (ps_for PassesOwn.never rfl (pi_range1 (by rfl) T.b_range (pa_cons (pv 0) pa_nil)) (pg_name (i := 3) sc_pieces.nd rfl (by first | exact Or.inl rfl | exact Or.inr rfl)) (PSs.nox (pss_one (ps_for PassesOwn.never rfl (pi_list (pv 1)) (pg_tup rfl (pgs_cons (pg_name (i := 4) sc_pieces.nd rfl (by first | exact Or.inl rfl | exact Or.inr rfl)) (pgs_cons (pg_name (i := 5) sc_pieces.nd rfl (by first | exact Or.inl rfl | exact Or.inr rfl)) pgs_nil))) (pss_cons (ps_set (i := 6) sc_pieces.nd rfl (by first | exact Or.inl rfl | exact Or.inr rfl) (pe_callB (call_min2 rfl) (by rfl) T.b_min (by decide +kernel) (pa_cons (pe_ix ix_list (pv 2) (pv 4) (fun _ _ => rfl)) (pa_cons (pe_ix ix_list (pv 2) (pv 5) (fun _ _ => rfl)) pa_nil))))
    (pss_cons (ps_asg (pv 6) (pg_sub (pv 2) (pv 4) set_list))
    (pss_one (ps_asg (pv 6) (pg_sub (pv 2) (pv 5) set_list)))))))))
    (pss_cons (ps_set (i := 7) sc_pieces.nd rfl (by first | exact Or.inl rfl | exact Or.inr rfl) (pe_lst pa_nil))
    (pss_cons (ps_for PassesOwn.never rfl (pi_range1 (by rfl) T.b_range (pa_cons (pv 0) pa_nil)) (pg_name (i := 8) sc_pieces.nd rfl (by first | exact Or.inl rfl | exact Or.inr rfl)) (pss_cons (ps_setLc (i := 9) (own := [("point", 10)]) (g := (gName 10)) rfl sc_pieces.nd rfl rfl (sw_true rfl rfl rfl (by decide +kernel)) (pi_range1 (by rfl) T.b_range (pa_cons (pv 0) pa_nil)) (blkOk_by (N := ["points", "ties", "heads", "lap", "low", "high", "least", "found", "head", "piece", "point"]) (sc := defScope s_pieces) (by decide +kernel)) (fun _ _ _ _ _ => (pg_name (i := 10) sc_pieces.nd rfl (by first | exact Or.inl rfl | exact Or.inr rfl))) (fun _ _ _ _ _ => (pts_one (pt_cmpR op_eq (pe_ix (ix_listK rfl) (pv 2) (pv 10) (fun _ _ => rfl)) (pv 8) (nomark _)))) (fun _ _ _ _ _ => (pv 10)))
    (pss_one (ps_if (pt_cmpR op_gt (pe_callB call_len_seq (by rfl) T.b_len PySem.boot_len (pa_cons (pv 9) pa_nil)) pe_int (nomark _)) (pss_one (ps_expr (pe_bm PySem.F.plainAttrs_list PySem.F.slot_list_append PySem.F.type_list_append mt_append (pv 7) (pa_cons (pv 9) pa_nil)))) pss_nil))))
    (pss_one (ps_ret (pv 7))))))))), ?_⟩
  obtain ⟨F0, ⟨x_points, x_ties, _⟩, y, s0, ⟨v_points, _, rfl, h_points, v_ties, _, rfl, h_ties, rfl⟩, hm, hQ, hE⟩ := h
  have L0 : Lat F0 H F0 H := .refl s0
  refine at_st (σ := [some v_points, some v_ties, none, none, none, none, none, none, none, none, none]) rfl ?_
  replace hm : pieces x_points x_ties = some y := hm
  unfold pieces at hm
  refine rd_dropX L0.fh (ex_call (EVA.x (eva_cons (ev_varF rfl h_points) (eva_cons (ev_var rfl h_ties) eva_nil)))) hm (fun e F1 H1 ee l => hE e ee F1 H1 (L0.trans l)) ?_
  intro x1 F2 H3 hm l4
  have L5 := L0.trans l4
  replace h_ties := up h_ties l4
  refine rd_asgN L5.fh (evn_lrng (ev_varF rfl h_points)) hm ?_
  intro x6 p7 w8 F9 H10 hm l11 hn16 fp13 hp12 rl14
  have hz15 := L5.h.free hn16
  have L17 := L5.trans l11
  replace h_ties := up h_ties l11
  refine rd_for L17.fh (ei_range1 (ev_varF rfl h_points)) hm ?_
  intro xs18 J19 F20 H21 hm l22 wk23
  have L24 := L17.trans l22
  replace h_ties := up h_ties l22
  replace fp13 := l22.nwl hp12 fp13
  replace hp12 := l22.h _ _ hp12
  replace rl14 := rpL.mono l22.f rl14
  refine rd_loopG wk23 hm (fun (s : (List Int)) σ_ F_ H_ => ∃ (o3_ : Option V) (o4_ : Option V) (o5_ : Option V) (o6_ : Option V) (w2_ : List V), σ_ = [some v_points, some v_ties, some (.ref p7), o3_, o4_, o5_, o6_, none, none, none, none] ∧ Same F20 F_ ∧ Lat F0 H F_ H_ ∧ (H_ p7 = some (.lst w2_) ∧ F_ p7 = none ∧ rpL s w2_ F_) ∧ True) ⟨_, _, _, _, _, rfl, (.refl _), L24, ⟨hp12, fp13, rl14⟩, trivial⟩ ?_ ?_ ?_
  · rintro s σ_ F_ H_ ⟨e25, e26, e27, e28, e29, rfl, sf30, L31, ⟨hp32, fp33, rl34⟩, -⟩
    exact ⟨sf30, L31.fh⟩
  · rintro q35 s36 σ_ F42 H43 v37 F44 H45 ⟨e46, e47, e48, e49, e50, rfl, sf51, L52, ⟨hp53, fp54, rl55⟩, -⟩ l38 rv39 s56 hm D41 hN40
    replace h_ties := Rep.mono sf51 h_ties
    have L57 := L52.trans l38
    have sb58 := Same.trans sf51 l38.f
    replace h_ties := up h_ties l38
    replace fp54 := l38.nwl hp53 fp54
    replace hp53 := l38.h _ _ hp53
    replace rl55 := rpL.mono l38.f rl55
    refine gt_name ?_
    refine rd_forL L57.fh (ei_list (ev_var rfl h_ties)) hm ?_
    intro xs59 J60 F61 H62 hm l63 wk64
    have L65 := L57.trans l63
    have sb66 := Same.trans sb58 l63.f
    replace h_ties := up h_ties l63
    replace fp54 := l63.nwl hp53 fp54
    replace hp53 := l63.h _ _ hp53
    replace rl55 := rpL.mono l63.f rl55
    refine rd_loopG wk64 hm (fun (s : (List Int)) σ_ F_ H_ => ∃ (o4_ : Option V) (o5_ : Option V) (o6_ : Option V) (w2_ : List V), σ_ = [some v_points, some v_ties, some (.ref p7), some v37, o4_, o5_, o6_, none, none, none, none] ∧ Same F61 F_ ∧ Lat F0 H F_ H_ ∧ (H_ p7 = some (.lst w2_) ∧ F_ p7 = none ∧ rpL s w2_ F_) ∧ True) ⟨_, _, _, _, rfl, (.refl _), L65, ⟨hp53, fp54, rl55⟩, trivial⟩ ?_ ?_ ?_
    · rintro s σ_ F_ H_ ⟨e67, e68, e69, e70, rfl, sf71, L72, ⟨hp73, fp74, rl75⟩, -⟩
      exact ⟨sf71, L72.fh⟩
    · rintro q76 s77 σ_ F83 H84 v78 F85 H86 ⟨e87, e88, e89, e90, rfl, sf91, L92, ⟨hp93, fp94, rl95⟩, -⟩ l79 rv80 s96 hm D82 hN81
      have sb97 := Same.trans sb66 sf91
      replace h_ties := Rep.mono sf91 h_ties
      have L98 := L92.trans l79
      have sb99 := Same.trans sb97 l79.f
      have sb100 := Same.trans sf91 l79.f
      replace h_ties := up h_ties l79
      replace fp94 := l79.nwl hp93 fp94
      replace hp93 := l79.h _ _ hp93
      replace rl95 := rpL.mono l79.f rl95
      refine gt_pair rv80 l79.fh ?_
      intro v101 v102 h_low_103 h_high_104
      refine rd_asg L98.fh (EV.flat (ev_min2 (ev_op (ev_var rfl (own_rp L98.fh hp93 rl95)) (ev_varF rfl h_low_103) rv_ixL) (ev_op (ev_var rfl (own_rp L98.fh hp93 rl95)) (ev_varF rfl h_high_104) rv_ixL)) L98.fh) hm ?_
      intro x105 v106 F107 H108 hm l109 h_least_110
      have L111 := L98.trans l109
      have sb112 := Same.trans sb99 l109.f
      have sb113 := Same.trans sb100 l109.f
      replace h_ties := up h_ties l109
      replace fp94 := l109.nwl hp93 fp94
      replace hp93 := l109.h _ _ hp93
      replace rl95 := rpL.mono l109.f rl95
      refine rd_set L111.fh rfl hp93 fp94 rl95 (ev_varF rfl h_least_110) (ev_varF rfl h_low_103) hm ?_
      intro x114 w115 F116 H117 hm m118 fp119 hp120 rl121
      have L122 := m118.l0 _ _ L111 hz15
      have sb123 := Same.trans sb112 m118.f
      have sb124 := Same.trans sb113 m118.f
      replace h_ties := Rep.mono m118.f h_ties
      refine rd_setL L122.fh rfl hp120 fp119 rl121 (ev_varF rfl h_least_110) (ev_varF rfl h_high_104) hm ?_
      intro x125 w126 F127 H128 hm m129 fp130 hp131 rl132
      have L133 := m129.l0 _ _ L122 hz15
      have sb134 := Same.trans sb123 m129.f
      have sb135 := Same.trans sb124 m129.f
      replace h_ties := Rep.mono m129.f h_ties
      obtain rfl := Option.some.inj hm
      exact hN81 _ _ _ ⟨_, _, _, _, rfl, sb135, L133, ⟨hp131, fp130, rl132⟩, trivial⟩
    · rintro s136 σ_ F137 H138 hm ⟨e139, e140, e141, e142, rfl, sf143, L144, ⟨hp145, fp146, rl147⟩, -⟩
      have sb148 := Same.trans sb66 sf143
      replace h_ties := Rep.mono sf143 h_ties
      obtain rfl := Option.some.inj hm
      exact hN40 _ _ _ ⟨_, _, _, _, _, rfl, sb148, L144, ⟨hp145, fp146, rl147⟩, trivial⟩
  · rintro s149 σ_ F150 H151 hm ⟨e152, e153, e154, e155, e156, rfl, sf157, L158, ⟨hp159, fp160, rl161⟩, -⟩
    refine nx_with ?_
    obtain ⟨F162, L163, sf164, h_heads_165, fq166⟩ := freeze L158 hz15 fp160 hp159 rl161
    refine rd_asgN L163.fh (evn_nil (α := List Int)) hm ?_
    intro x167 p168 w169 F170 H171 hm l172 hn177 fp174 hp173 rl175
    have hz176 := L163.h.free hn177
    have L178 := L163.trans l172
    replace h_heads_165 := up h_heads_165 l172
    refine rd_for L178.fh (ei_range1 (ev_varF rfl h_points)) hm ?_
    intro xs179 J180 F181 H182 hm l183 wk184
    have L185 := L178.trans l183
    replace h_heads_165 := up h_heads_165 l183
    replace fp174 := l183.nwl hp173 fp174
    replace hp173 := l183.h _ _ hp173
    replace rl175 := rpL.mono l183.f rl175
    refine rd_loopG wk184 hm (fun (s : (List (List Int))) σ_ F_ H_ => ∃ (o8_ : Option V) (o9_ : Option V) (w7_ : List V), σ_ = [some v_points, some v_ties, some (.ref p7), e152, e153, e154, e155, some (.ref p168), o8_, o9_, none] ∧ Same F181 F_ ∧ Lat F0 H F_ H_ ∧ (H_ p168 = some (.lst w7_) ∧ F_ p168 = none ∧ rpL s w7_ F_) ∧ True) ⟨_, _, _, rfl, (.refl _), L185, ⟨hp173, fp174, rl175⟩, trivial⟩ ?_ ?_ ?_
    · rintro s σ_ F_ H_ ⟨e186, e187, e188, rfl, sf189, L190, ⟨hp191, fp192, rl193⟩, -⟩
      exact ⟨sf189, L190.fh⟩
    · rintro q194 s195 σ_ F201 H202 v196 F203 H204 ⟨e205, e206, e207, rfl, sf208, L209, ⟨hp210, fp211, rl212⟩, -⟩ l197 rv198 s213 hm D200 hN199
      replace h_heads_165 := Rep.mono sf208 h_heads_165
      have L214 := L209.trans l197
      have sb215 := Same.trans sf208 l197.f
      replace h_heads_165 := up h_heads_165 l197
      replace fp211 := l197.nwl hp210 fp211
      replace hp210 := l197.h _ _ hp210
      replace rl212 := rpL.mono l197.f rl212
      refine gt_name ?_
      refine rd_asg L214.fh (EVN.ev (evn_lc (ei_range1 (ev_varF rfl h_points)) (fun x222 v223 _ _ _ l225 r224 k226 => gt_name (k226 _ rfl (evt_of (ev_op (ev_op (ev_var rfl (up h_heads_165 l225)) (ev_varF rfl r224) rv_ixL) (ev_varF rfl rv198) rv_eqI)) (ev_varF rfl r224))))) hm ?_
      intro x216 v217 F218 H219 hm l220 h_piece_221
      have L227 := L214.trans l220
      have sb228 := Same.trans sb215 l220.f
      replace h_heads_165 := up h_heads_165 l220
      replace fp211 := l220.nwl hp210 fp211
      replace hp210 := l220.h _ _ hp210
      replace rl212 := rpL.mono l220.f rl212
      refine rd_if L227.fh (evt_of (ev_op (ev_len (ev_var rfl h_piece_221)) ev_int rv_cmp)) hm ?_ ?_
      · intro F229 H230 _ hm l231
        have L232 := L227.trans l231
        have sb233 := Same.trans sb228 l231.f
        replace h_heads_165 := up h_heads_165 l231
        replace fp211 := l231.nwl hp210 fp211
        replace hp210 := l231.h _ _ hp210
        replace rl212 := rpL.mono l231.f rl212
        replace h_piece_221 := up h_piece_221 l231
        refine rd_appendL L232.fh rfl hp210 fp211 rl212 (ev_var rfl h_piece_221) hm ?_
        intro x234 w235 F236 H237 hm m238 fp239 hp240 rl241
        have L242 := m238.l0 _ _ L232 hz176
        have sb243 := Same.trans sb233 m238.f
        replace h_heads_165 := Rep.mono m238.f h_heads_165
        replace h_piece_221 := Rep.mono m238.f h_piece_221
        obtain rfl := Option.some.inj hm
        exact hN199 _ _ _ ⟨_, _, _, rfl, sb243, L242, ⟨hp240, fp239, rl241⟩, trivial⟩
      · intro F244 H245 _ hm l246
        have L247 := L227.trans l246
        have sb248 := Same.trans sb228 l246.f
        replace h_heads_165 := up h_heads_165 l246
        replace fp211 := l246.nwl hp210 fp211
        replace hp210 := l246.h _ _ hp210
        replace rl212 := rpL.mono l246.f rl212
        replace h_piece_221 := up h_piece_221 l246
        obtain rfl := Option.some.inj hm
        exact hN199 _ _ _ ⟨_, _, _, rfl, sb248, L247, ⟨hp210, fp211, rl212⟩, trivial⟩
    · rintro s249 σ_ F250 H251 hm ⟨e252, e253, e254, rfl, sf255, L256, ⟨hp257, fp258, rl259⟩, -⟩
      refine nx_with ?_
      exact rd_retO rfl (hQ _ (Option.some.inj hm).symm _ _ _ _ L256 hz176 fp258 hp257 rl259)
abbrev s_beside : Stmt := topS 20
theorem sc_beside : FnScope ["points", "ties", "more", "others", "low", "high"] ["points", "ties", "more", "others"] (defScope s_beside) := ⟨rfl, rfl, rfl, by decide +kernel, rfl, by decide +kernel, by decide +kernel⟩
theorem ok_beside {f : Addr} {fd : FuncData} (F : Fun K "beside" "beside" s_beside f fd) (gF : mg "beside" = some (.ref f)) (T : Txt K mg ad CW) (C_asked_web : Fn P w K mg base (L2.CX P w) 2 "asked_web" ["points", "ties"] (spX (clO ad) (β := Unit) fun (x : Int × (List (Int × Int)) × Unit) => asked_web x.1 x.2.1)) : Fn P w K mg base (L2.CX P w) 3 "beside" ["points", "ties", "more", "others"] (spXN (clO ad) (β := (Int × Int)) fun (x : Int × (List (Int × Int)) × Int × (List (Int × Int)) × Unit) => beside x.1 x.2.1 x.2.2.1 x.2.2.2.1) := by
  refine ⟨f, _, gF, F.kp, F.binds (ps := ["points", "ties", "more", "others"]) (fun _ _ _ _ _ _ us hl => match us, hl with | [_, _, _, _], _ => rfl), F.okX sc_beside (spXN_len rfl) (fun cdv A outer s H vs Q E hr h => ?_)⟩
  refine ⟨_, (pss_cons (ps_expr (pe_fnX (takes_of rfl rfl rfl rfl) C_asked_web (hr.mono (by decide)) rfl (pa_cons (pv 0) (pa_cons (pv 1) pa_nil))))
    (pss_cons (ps_expr (pe_fnX (takes_of rfl rfl rfl rfl) C_asked_web (hr.mono (by decide)) rfl (pa_cons (pv 2) (pa_cons (pv 3) pa_nil))))
    (pss_one (ps_ret (pe_op op_cat (pe_callTy call_list_of (by rfl) T.b_list (by decide +kernel) (pa_cons (pv 1) pa_nil)) (pe_lc (own := [("low", 4), ("high", 5)]) (g := (gTup K 2 (gCons (gName 4) (gCons (gName 5) gNil)))) rfl sc_beside.nd (pi_list (pv 3)) (blkOk_by (N := ["points", "ties", "more", "others", "low", "high"]) (sc := defScope s_beside) (by decide +kernel)) (fun _ _ _ _ _ => (pg_tup rfl (pgs_cons (pg_name (i := 4) sc_beside.nd rfl (by first | exact Or.inl rfl | exact Or.inr rfl)) (pgs_cons (pg_name (i := 5) sc_beside.nd rfl (by first | exact Or.inl rfl | exact Or.inr rfl)) pgs_nil)))) (fun _ _ _ _ _ => pts_nil) (fun _ _ _ _ _ => (pe_tup (pa_cons (pe_op op_add (pv 4) (pv 0)) (pa_cons (pe_op op_add (pv 5) (pv 0)) pa_nil)))))))))), ?_⟩
  obtain ⟨F0, ⟨x_points, x_ties, x_more, x_others, _⟩, y, s0, ⟨v_points, _, rfl, h_points, v_ties, _, rfl, h_ties, v_more, _, rfl, h_more, v_others, _, rfl, h_others, rfl⟩, hm, hQ, hE⟩ := h
  have L0 : Lat F0 H F0 H := .refl s0
  refine at_st (σ := [some v_points, some v_ties, some v_more, some v_others, none, none]) rfl ?_
  replace hm : beside x_points x_ties x_more x_others = some y := hm
  unfold beside at hm
  refine rd_dropX L0.fh (ex_call (EVA.x (eva_cons (ev_varF rfl h_points) (eva_cons (ev_var rfl h_ties) eva_nil)))) hm (fun e F1 H1 ee l => hE e ee F1 H1 (L0.trans l)) ?_
  intro x1 F2 H3 hm l4
  have L5 := L0.trans l4
  replace h_ties := up h_ties l4
  replace h_others := up h_others l4
  refine rd_dropX L5.fh (ex_call (EVA.x (eva_cons (ev_varF rfl h_more) (eva_cons (ev_var rfl h_others) eva_nil)))) hm (fun e F1 H1 ee l => hE e ee F1 H1 (L5.trans l)) ?_
  intro x6 F7 H8 hm l9
  have L10 := L5.trans l9
  replace h_ties := up h_ties l9
  replace h_others := up h_others l9
  exact rd_retNk L10.fh (evn_op (EVN.ev (evn_list (ev_var rfl h_ties))) (EVN.ev (evn_lc (ei_list (ev_var rfl h_others)) (fun x11 v12 _ _ _ l14 r13 k15 => gt_pair r13 l14.fh fun _ _ r16 r17 => (k15 _ rfl evt_yes (ev_tup (ev_op (ev_varF rfl r16) (ev_varF rfl h_points) rv_add) (ev_op (ev_varF rfl r17) (ev_varF rfl h_points) rv_add)))))) rvn_cat) hm fun x p vs F1 H1 hm l h1 h2 h3 rv => hQ x (Option.some.inj hm).symm p vs F1 H1 (L10.trans l) (L10.h.free h1) h2 h3 rv
abbrev s_row_by : Stmt := topS 22
theorem sc_row_by : FnScope ["points", "ties", "tie", "less", "other", "k"] ["points", "ties"] (defScope s_row_by) := ⟨rfl, rfl, rfl, by decide +kernel, rfl, by decide +kernel, by decide +kernel⟩
theorem ok_row_by {f : Addr} {fd : FuncData} (F : Fun K "row_by" "row_by" s_row_by f fd) (gF : mg "row_by" = some (.ref f)) (T : Txt K mg ad CW) (C_put_together : Fn P w K mg base CX0 2 "put_together" ["ties", "tie"] (spN (β := (Int × Int)) fun (x : (List (Int × Int)) × (Int × Int) × Unit) => put_together x.1 x.2.1)) : ∀ d_ : Nat, Fn P w K mg base CX0 (3 + d_) "row_by" ["points", "ties"] (spN (β := Int) fun (x : Int × (List (Int × Int)) × Unit) => row_byF d_ x.1 x.2.1)
  | 0 => ⟨f, _, gF, F.kp, F.binds (ps := ["points", "ties"]) (fun _ _ _ _ _ _ us hl => match us, hl with | [_, _], _ => rfl), F.ok (k := 2) sc_row_by (spN_len rfl) (fun cdv A outer s H vs Q E hr h => by obtain ⟨F0, _, y, s0, _, hm, _⟩ := h; cases hm)⟩
  | n_ + 1 => by
    have C_row_by := ok_row_by F gF T C_put_together n_
    refine ⟨f, _, gF, F.kp, F.binds (ps := ["points", "ties"]) (fun _ _ _ _ _ _ us hl => match us, hl with | [_, _], _ => rfl), F.ok (k := 3 + n_) sc_row_by (spN_len rfl) (fun cdv A outer s H vs Q E hr h => ?_)⟩
    refine ⟨_, (pss_cons (ps_if (pt_cmpR op_eq (pe_callB call_len_seq (by rfl) T.b_len PySem.boot_len (pa_cons (pv 1) pa_nil)) pe_int (nomark _)) (pss_one (ps_ret (pe_op op_cat (pe_lc (own := [("k", 5)]) (g := (gName 5)) rfl sc_row_by.nd (pi_range1 (by rfl) T.b_range (pa_cons (pv 0) pa_nil)) (blkOk_by (N := ["points", "ties", "tie", "less", "other", "k"]) (sc := defScope s_row_by) (by decide +kernel)) (fun _ _ _ _ _ => (pg_name (i := 5) sc_row_by.nd rfl (by first | exact Or.inl rfl | exact Or.inr rfl))) (fun _ _ _ _ _ => pts_nil) (fun _ _ _ _ _ => pe_int)) (pe_lst (pa_cons pe_int pa_nil))))) pss_nil)
    (pss_cons (ps_set (i := 2) sc_row_by.nd rfl (by first | exact Or.inl rfl | exact Or.inr rfl) (pe_ix ix_list (pv 1) (pe_un un_neg pe_int) (fun _ _ => rfl)))
    (pss_cons (ps_set (i := 3) sc_row_by.nd rfl (by first | exact Or.inl rfl | exact Or.inr rfl) (pe_fn C_row_by (hr.mono (by omega)) rfl (pa_cons (pv 0) (pa_cons (pe_slice sl_list (pv 1) po_none (po_some (pe_un un_neg pe_int))) pa_nil))))
    (pss_cons (ps_set (i := 4) sc_row_by.nd rfl (by first | exact Or.inl rfl | exact Or.inr rfl) (pe_op op_cat (pe_fn C_row_by (hr.mono (by omega)) rfl (pa_cons (pe_op op_sub (pv 0) pe_int) (pa_cons (pe_fn C_put_together (hr.mono (by omega)) rfl (pa_cons (pv 1) (pa_cons (pv 2) pa_nil))) pa_nil))) (pe_lst (pa_cons pe_int pa_nil))))
    (pss_one (ps_ret (pe_lc (own := [("k", 5)]) (g := (gName 5)) rfl sc_row_by.nd (pi_range1 (by rfl) T.b_range (pa_cons (pe_op op_add (pv 0) pe_int) pa_nil)) (blkOk_by (N := ["points", "ties", "tie", "less", "other", "k"]) (sc := defScope s_row_by) (by decide +kernel)) (fun _ _ _ _ _ => (pg_name (i := 5) sc_row_by.nd rfl (by first | exact Or.inl rfl | exact Or.inr rfl))) (fun _ _ _ _ _ => pts_nil) (fun _ _ _ _ _ => (pe_op op_sub (pe_ix (ix_listK rfl) (pv 3) (pv 5) (fun _ _ => rfl)) (pe_ix (ix_listK rfl) (pv 4) (pv 5) (fun _ _ => rfl))))))))))), ?_⟩
    obtain ⟨F0, ⟨x_points, x_ties, _⟩, y, s0, ⟨v_points, _, rfl, h_points, v_ties, _, rfl, h_ties, rfl⟩, hm, hQ⟩ := h
    have L0 : Lat F0 H F0 H := .refl s0
    refine at_st (σ := [some v_points, some v_ties, none, none, none, none]) rfl ?_
    replace hm : row_byF (n_ + 1) x_points x_ties = some y := hm
    unfold row_byF at hm
    refine rd_guard L0.fh (evt_of (ev_op (ev_len (ev_var rfl h_ties)) ev_int rv_eqI)) hm ?_ ?_
    · intro F1 H2 _ hm l3
      have L4 := L0.trans l3
      exact rd_retN L4.fh (evn_op (EVN.ev (evn_lc (ei_range1 (ev_varF rfl h_points)) (fun x5 v6 _ _ _ l8 r7 k9 => gt_name (k9 _ rfl evt_yes ev_int)))) (EVN.ev (evn_lst (evl_cons ev_int evl_nil))) rvn_cat) hm fun p vs F1 H1 l h1 h2 h3 rv => hQ p vs F1 H1 (L4.trans l) (L4.h.free h1) h2 h3 rv
    · intro F10 H11 _ hm l12
      have L13 := L0.trans l12
      replace h_ties := up h_ties l12
      refine rd_asg L13.fh (ev_op (ev_var rfl h_ties) (ev_neg ev_int) rv_ixL) hm ?_
      intro x14 v15 F16 H17 hm l18 h_tie_19
      have L20 := L13.trans l18
      replace h_ties := up h_ties l18
      refine rd_asg L20.fh (EVN.ev (evn_call (eva_cons (ev_varF rfl h_points) (eva_cons (EVN.ev (evn_cut (ev_var rfl h_ties) po_no (po_at (ev_neg ev_int)))) eva_nil)))) hm ?_
      intro x21 v22 F23 H24 hm l25 h_less_26
      have L27 := L20.trans l25
      replace h_ties := up h_ties l25
      replace h_tie_19 := up h_tie_19 l25
      refine rd_asg L27.fh (EVN.ev (evn_op (EVN.ev (evn_call (eva_cons (ev_op (ev_varF rfl h_points) ev_int rv_sub) (eva_cons (EVN.ev (evn_call (eva_cons (ev_var rfl h_ties) (eva_cons (ev_var rfl h_tie_19) eva_nil)))) eva_nil)))) (EVN.ev (evn_lst (evl_cons ev_int evl_nil))) rvn_cat)) hm ?_
      intro x28 v29 F30 H31 hm l32 h_other_33
      have L34 := L27.trans l32
      replace h_less_26 := up h_less_26 l32
      exact rd_retN L34.fh (evn_lc (ei_range1 (ev_op (ev_varF rfl h_points) ev_int rv_add)) (fun x35 v36 _ _ _ l38 r37 k39 => gt_name (k39 _ rfl evt_yes (ev_op (ev_op (ev_var rfl (up h_less_26 l38)) (ev_varF rfl r37) rv_ixL) (ev_op (ev_var rfl (up h_other_33 l38)) (ev_varF rfl r37) rv_ixL) rv_sub)))) hm fun p vs F1 H1 l h1 h2 h3 rv => hQ p vs F1 H1 (L34.trans l) (L34.h.free h1) h2 h3 rv
abbrev s_row : Stmt := topS 23
theorem sc_row : FnScope ["points", "ties"] ["points", "ties"] (defScope s_row) := ⟨rfl, rfl, rfl, by decide +kernel, rfl, by decide +kernel, by decide +kernel⟩
theorem ok_row {f : Addr} {fd : FuncData} (F : Fun K "row" "row" s_row f fd) (gF : mg "row" = some (.ref f)) (T : Txt K mg ad CW) (C_asked_web : Fn P w K mg base (L2.CX P w) 2 "asked_web" ["points", "ties"] (spX (clO ad) (β := Unit) fun (x : Int × (List (Int × Int)) × Unit) => asked_web x.1 x.2.1)) (C_row_by : Fn P w K mg base CX0 23 "row_by" ["points", "ties"] (spN (β := Int) fun (x : Int × (List (Int × Int)) × Unit) => row_by x.1 x.2.1)) : Fn P w K mg base (L2.CX P w) 24 "row" ["points", "ties"] (spXN (clO ad) (β := Int) fun (x : Int × (List (Int × Int)) × Unit) => row x.1 x.2.1) := by
  refine ⟨f, _, gF, F.kp, F.binds (ps := ["points", "ties"]) (fun _ _ _ _ _ _ us hl => match us, hl with | [_, _], _ => rfl), F.okX sc_row (spXN_len rfl) (fun cdv A outer s H vs Q E hr h => ?_)⟩
  refine ⟨_, (pss_cons (ps_expr (pe_fnX (takes_of rfl rfl rfl rfl) C_asked_web (hr.mono (by decide)) rfl (pa_cons (pv 0) (pa_cons (pv 1) pa_nil))))
    (pss_one (ps_ret (pe_fn C_row_by (hr.mono (by decide)) rfl (pa_cons (pv 0) (pa_cons (pe_callTy call_list_of (by rfl) T.b_list (by decide +kernel) (pa_cons (pv 1) pa_nil)) pa_nil)))))), ?_⟩
  obtain ⟨F0, ⟨x_points, x_ties, _⟩, y, s0, ⟨v_points, _, rfl, h_points, v_ties, _, rfl, h_ties, rfl⟩, hm, hQ, hE⟩ := h
  have L0 : Lat F0 H F0 H := .refl s0
  refine at_st (σ := [some v_points, some v_ties]) rfl ?_
  replace hm : row x_points x_ties = some y := hm
  unfold row at hm
  refine rd_dropX L0.fh (ex_call (EVA.x (eva_cons (ev_varF rfl h_points) (eva_cons (ev_var rfl h_ties) eva_nil)))) hm (fun e F1 H1 ee l => hE e ee F1 H1 (L0.trans l)) ?_
  intro x1 F2 H3 hm l4
  have L5 := L0.trans l4
  replace h_ties := up h_ties l4
  exact rd_retNk L5.fh (evn_call (eva_cons (ev_varF rfl h_points) (eva_cons (EVN.ev (evn_list (ev_var rfl h_ties))) eva_nil))) hm fun x p vs F1 H1 hm l h1 h2 h3 rv => hQ x (Option.some.inj hm).symm p vs F1 H1 (L5.trans l) (L5.h.free h1) h2 h3 rv
abbrev s_worth : Stmt := topS 24
theorem sc_worth : FnScope ["numbers", "q", "total", "number"] ["numbers", "q"] (defScope s_worth) := ⟨rfl, rfl, rfl, by decide +kernel, rfl, by decide +kernel, by decide +kernel⟩
theorem ok_worth {f : Addr} {fd : FuncData} (F : Fun K "worth" "worth" s_worth f fd) (gF : mg "worth" = some (.ref f)) (T : Txt K mg ad CW) : Fn P w K mg base CX0 1 "worth" ["numbers", "q"] (spO (β := Int) fun (x : (List Int) × Int × Unit) => worth x.1 x.2.1) := by
  refine ⟨f, _, gF, F.kp, F.binds (ps := ["numbers", "q"]) (fun _ _ _ _ _ _ us hl => match us, hl with | [_, _], _ => rfl), F.ok sc_worth (spO_len rfl) (fun cdv A outer s H vs Q E hr h => ?_)⟩
  refine ⟨_, (pss_cons (ps_set (i := 2) sc_worth.nd rfl (by first | exact Or.inl rfl | exact Or.inr rfl) pe_int)
    (pss_cons (ps_for PassesOwn.never rfl (pi_reversed (by rfl) T.b_reversed (pa_cons (pv 0) pa_nil)) (pg_name (i := 3) sc_worth.nd rfl (by first | exact Or.inl rfl | exact Or.inr rfl)) (pss_one (ps_set (i := 2) sc_worth.nd rfl (by first | exact Or.inl rfl | exact Or.inr rfl) (pe_op op_add (pe_op op_mul (pv 2) (pv 1)) (pv 3)))))
    (pss_one (ps_ret (pv 2))))), ?_⟩
  obtain ⟨F0, ⟨x_numbers, x_q, _⟩, y, s0, ⟨v_numbers, _, rfl, h_numbers, v_q, _, rfl, h_q, rfl⟩, hm, hQ⟩ := h
  have L0 : Lat F0 H F0 H := .refl s0
  refine at_st (σ := [some v_numbers, some v_q, none, none]) rfl ?_
  replace hm : worth x_numbers x_q = some y := hm
  unfold worth at hm
  refine rd_asg L0.fh ev_int hm ?_
  intro x1 v2 F3 H4 hm l5 h_total_6
  have L7 := L0.trans l5
  replace h_numbers := up h_numbers l5
  refine rd_for L7.fh (ei_rev (ev_var rfl h_numbers)) hm ?_
  intro xs8 J9 F10 H11 hm l12 wk13
  have L14 := L7.trans l12
  replace h_numbers := up h_numbers l12
  refine rd_loopG wk13 hm (fun (s : Int) σ_ F_ H_ => ∃ (v2_ : V) (o3_ : Option V), σ_ = [some v_numbers, some v_q, some v2_, o3_] ∧ Same F10 F_ ∧ Lat F0 H F_ H_ ∧ Rep.rp s v2_ F_ ∧ True) ⟨_, _, rfl, (.refl _), L14, (Flat.any h_total_6), trivial⟩ ?_ ?_ ?_
  · rintro s σ_ F_ H_ ⟨e15, e16, rfl, sf17, L18, h_total_19, -⟩
    exact ⟨sf17, L18.fh⟩
  · rintro q20 s21 σ_ F27 H28 v22 F29 H30 ⟨e31, e32, rfl, sf33, L34, h_total_35, -⟩ l23 rv24 s36 hm D26 hN25
    have L37 := L34.trans l23
    have sb38 := Same.trans sf33 l23.f
    refine gt_name ?_
    refine rd_asgL L37.fh (ev_op (ev_op (ev_varF rfl h_total_35) (ev_varF rfl h_q) rv_mul) (ev_varF rfl rv24) rv_add) hm ?_
    intro x39 v40 F41 H42 hm l43 h_total_44
    have L45 := L37.trans l43
    have sb46 := Same.trans sb38 l43.f
    obtain rfl := Option.some.inj hm
    exact hN25 _ _ _ ⟨_, _, rfl, sb46, L45, (Flat.any h_total_44), trivial⟩
  · rintro s47 σ_ F48 H49 hm ⟨e50, e51, rfl, sf52, L53, h_total_54, -⟩
    refine nx_with ?_
    exact rd_ret0 L53.fh (ev_varF rfl h_total_54) hm fun v F1 H1 l rv => hQ v F1 H1 (L53.trans l) rv
abbrev s_unlike : Stmt := topS 26
theorem sc_unlike : FnScope ["ties", "dyes", "low", "high"] ["ties", "dyes"] (defScope s_unlike) := ⟨rfl, rfl, rfl, by decide +kernel, rfl, by decide +kernel, by decide +kernel⟩
theorem ok_unlike {f : Addr} {fd : FuncData} (F : Fun K "unlike" "unlike" s_unlike f fd) (gF : mg "unlike" = some (.ref f)) (T : Txt K mg ad CW) : Fn P w K mg base CX0 1 "unlike" ["ties", "dyes"] (spO (β := Bool) fun (x : (List (Int × Int)) × (List Int) × Unit) => unlike x.1 x.2.1) := by
  refine ⟨f, _, gF, F.kp, F.binds (ps := ["ties", "dyes"]) (fun _ _ _ _ _ _ us hl => match us, hl with | [_, _], _ => rfl), F.ok sc_unlike (spO_len rfl) (fun cdv A outer s H vs Q E hr h => ?_)⟩
  refine ⟨_, (pss_cons (ps_for PassesOwn.never rfl (pi_list (pv 0)) (pg_tup rfl (pgs_cons (pg_name (i := 2) sc_unlike.nd rfl (by first | exact Or.inl rfl | exact Or.inr rfl)) (pgs_cons (pg_name (i := 3) sc_unlike.nd rfl (by first | exact Or.inl rfl | exact Or.inr rfl)) pgs_nil))) (pss_one (ps_if (pt_cmpR op_eq (pe_ix ix_list (pv 1) (pv 2) (fun _ _ => rfl)) (pe_ix ix_list (pv 1) (pv 3) (fun _ _ => rfl)) (nomark _)) (pss_one (ps_ret pe_bl)) pss_nil)))
    (pss_one (ps_ret pe_bl))), ?_⟩
  obtain ⟨F0, ⟨x_ties, x_dyes, _⟩, y, s0, ⟨v_ties, _, rfl, h_ties, v_dyes, _, rfl, h_dyes, rfl⟩, hm, hQ⟩ := h
  have L0 : Lat F0 H F0 H := .refl s0
  refine at_st (σ := [some v_ties, some v_dyes, none, none]) rfl ?_
  replace hm : unlike x_ties x_dyes = some y := hm
  unfold unlike at hm
  refine rd_for L0.fh (ei_list (ev_var rfl h_ties)) hm ?_
  intro xs1 J2 F3 H4 hm l5 wk6
  have L7 := L0.trans l5
  replace h_ties := up h_ties l5
  replace h_dyes := up h_dyes l5
  refine rd_loopR wk6 hm (fun (s : Unit) σ_ F_ H_ => ∃ (o2_ : Option V) (o3_ : Option V), σ_ = [some v_ties, some v_dyes, o2_, o3_] ∧ Same F3 F_ ∧ Lat F0 H F_ H_ ∧ True) ⟨_, _, rfl, (.refl _), L7, trivial⟩ ?_ ?_ ?_
  · rintro s σ_ F_ H_ ⟨e8, e9, rfl, sf10, L11, -⟩
    exact ⟨sf10, L11.fh⟩
  · rintro q12 s13 σ_ F19 H20 v14 F21 H22 ⟨e23, e24, rfl, sf25, L26, -⟩ l15 rv16 st29 hm D18 hD27 hN17 hR28
    replace hD27 : D18.rt = Q := hD27
    replace h_dyes := Rep.mono sf25 h_dyes
    have L30 := L26.trans l15
    have sb31 := Same.trans sf25 l15.f
    replace h_dyes := up h_dyes l15
    refine gt_pair rv16 l15.fh ?_
    intro v32 v33 h_low_34 h_high_35
    refine rd_if L30.fh (evt_of (ev_op (ev_op (ev_var rfl h_dyes) (ev_varF rfl h_low_34) rv_ixL) (ev_op (ev_var rfl h_dyes) (ev_varF rfl h_high_35) rv_ixL) rv_eqI)) hm ?_ ?_
    · intro F36 H37 _ hm l38
      have L39 := L30.trans l38
      have sb40 := Same.trans sb31 l38.f
      replace h_dyes := up h_dyes l38
      refine rd_ret L39.fh ev_bl hm ?_
      intro x_ v_ F1_ H1_ hm l_ rv_
      replace hm := hR28 _ (Option.some.inj hm).symm
      obtain rfl := Option.some.inj hm
      rw [hD27]
      exact hQ _ _ _ (L39.trans l_) rv_
    · intro F41 H42 _ hm l43
      have L44 := L30.trans l43
      have sb45 := Same.trans sb31 l43.f
      replace h_dyes := up h_dyes l43
      exact hN17 _ (Option.some.inj hm).symm _ _ _ ⟨_, _, rfl, sb45, L44, trivial⟩
  · rintro s46 σ_ F47 H48 hm ⟨e49, e50, rfl, sf51, L52, -⟩
    refine nx_with ?_
    exact rd_ret0 L52.fh ev_bl hm fun v F1 H1 l rv => hQ v F1 H1 (L52.trans l) rv
abbrev s_is_dyeing : Stmt := topS 27
theorem sc_is_dyeing : FnScope ["points", "ties", "dyes", "many", "dye"] ["points", "ties", "dyes", "many"] (defScope s_is_dyeing) := ⟨rfl, rfl, rfl, by decide +kernel, rfl, by decide +kernel, by decide +kernel⟩
theorem ok_is_dyeing {f : Addr} {fd : FuncData} (F : Fun K "is_dyeing" "is_dyeing" s_is_dyeing f fd) (gF : mg "is_dyeing" = some (.ref f)) (T : Txt K mg ad CW) (C_asked_web : Fn P w K mg base (L2.CX P w) 2 "asked_web" ["points", "ties"] (spX (clO ad) (β := Unit) fun (x : Int × (List (Int × Int)) × Unit) => asked_web x.1 x.2.1)) (C_unlike : Fn P w K mg base CX0 1 "unlike" ["ties", "dyes"] (spO (β := Bool) fun (x : (List (Int × Int)) × (List Int) × Unit) => unlike x.1 x.2.1)) : Fn P w K mg base (L2.CX P w) 3 "is_dyeing" ["points", "ties", "dyes", "many"] (spX (clO ad) (β := Bool) fun (x : Int × (List (Int × Int)) × (List Int) × Int × Unit) => is_dyeing x.1 x.2.1 x.2.2.1 x.2.2.2.1) := by
  refine ⟨f, _, gF, F.kp, F.binds (ps := ["points", "ties", "dyes", "many"]) (fun _ _ _ _ _ _ us hl => match us, hl with | [_, _, _, _], _ => rfl), F.okX sc_is_dyeing (spX_len rfl) (fun cdv A outer s H vs Q E hr h => ?_)⟩
  refine ⟨_, (pss_cons (ps_expr (pe_fnX (takes_of rfl rfl rfl rfl) C_asked_web (hr.mono (by decide)) rfl (pa_cons (pv 0) (pa_cons (pv 1) pa_nil))))
    (pss_cons (ps_if (pt_cmpR op_ne (pe_callB call_len_seq (by rfl) T.b_len PySem.boot_len (pa_cons (pv 2) pa_nil)) (pv 0) (nomark _)) (pss_one (ps_ret pe_bl)) pss_nil)
    (PSs.nox (pss_cons (ps_for PassesOwn.never rfl (pi_list (pv 2)) (pg_name (i := 4) sc_is_dyeing.nd rfl (by first | exact Or.inl rfl | exact Or.inr rfl)) (pss_one (ps_if (PW.pt (pw_or (pt_cmpR op_lt (pv 4) pe_int (nomark _)) (pw_or1 (pt_cmpR op_ge (pv 4) (pv 3) (nomark _))))) (pss_one (ps_ret pe_bl)) pss_nil)))
    (pss_one (ps_ret (pe_fn C_unlike (hr.mono (by decide)) rfl (pa_cons (pv 1) (pa_cons (pv 2) pa_nil))))))))), ?_⟩
  obtain ⟨F0, ⟨x_points, x_ties, x_dyes, x_many, _⟩, y, s0, ⟨v_points, _, rfl, h_points, v_ties, _, rfl, h_ties, v_dyes, _, rfl, h_dyes, v_many, _, rfl, h_many, rfl⟩, hm, hQ, hE⟩ := h
  have L0 : Lat F0 H F0 H := .refl s0
  refine at_st (σ := [some v_points, some v_ties, some v_dyes, some v_many, none]) rfl ?_
  replace hm : is_dyeing x_points x_ties x_dyes x_many = some y := hm
  unfold is_dyeing at hm
  refine rd_dropX L0.fh (ex_call (EVA.x (eva_cons (ev_varF rfl h_points) (eva_cons (ev_var rfl h_ties) eva_nil)))) hm (fun e F1 H1 ee l => hE e ee F1 H1 (L0.trans l)) ?_
  intro x1 F2 H3 hm l4
  have L5 := L0.trans l4
  replace h_ties := up h_ties l4
  replace h_dyes := up h_dyes l4
  refine rd_guard L5.fh (evt_of (ev_op (ev_len (ev_var rfl h_dyes)) (ev_varF rfl h_points) rv_neI)) hm ?_ ?_
  · intro F6 H7 _ hm l8
    have L9 := L5.trans l8
    exact rd_ret L9.fh ev_bl hm fun x v F1 H1 hm l rv => hQ x (Option.some.inj hm).symm v F1 H1 (L9.trans l) rv
  · intro F10 H11 _ hm l12
    have L13 := L5.trans l12
    replace h_ties := up h_ties l12
    replace h_dyes := up h_dyes l12
    refine rd_for L13.fh (ei_list (ev_var rfl h_dyes)) hm ?_
    intro xs14 J15 F16 H17 hm l18 wk19
    have L20 := L13.trans l18
    replace h_ties := up h_ties l18
    replace h_dyes := up h_dyes l18
    refine rd_loopR wk19 hm (fun (s : Unit) σ_ F_ H_ => ∃ (o4_ : Option V), σ_ = [some v_points, some v_ties, some v_dyes, some v_many, o4_] ∧ Same F16 F_ ∧ Lat F0 H F_ H_ ∧ True) ⟨_, rfl, (.refl _), L20, trivial⟩ ?_ ?_ ?_
    · rintro s σ_ F_ H_ ⟨e21, rfl, sf22, L23, -⟩
      exact ⟨sf22, L23.fh⟩
    · rintro q24 s25 σ_ F31 H32 v26 F33 H34 ⟨e35, rfl, sf36, L37, -⟩ l27 rv28 st40 hm D30 hD38 hN29 hR39
      replace hD38 : D30.rt = Q := hD38
      replace h_ties := Rep.mono sf36 h_ties
      replace h_dyes := Rep.mono sf36 h_dyes
      have L41 := L37.trans l27
      have sb42 := Same.trans sf36 l27.f
      replace h_ties := up h_ties l27
      replace h_dyes := up h_dyes l27
      refine gt_name ?_
      refine rd_if L41.fh (evt_or (evt_of (ev_op (ev_varF rfl rv28) ev_int rv_cmp)) (evt_of (ev_op (ev_varF rfl rv28) (ev_varF rfl h_many) rv_cmp))) hm ?_ ?_
      · intro F43 H44 _ hm l45
        have L46 := L41.trans l45
        have sb47 := Same.trans sb42 l45.f
        replace h_ties := up h_ties l45
        replace h_dyes := up h_dyes l45
        refine rd_ret L46.fh ev_bl hm ?_
        intro x_ v_ F1_ H1_ hm l_ rv_
        replace hm := hR39 _ (Option.some.inj hm).symm
        rw [hD38]
        exact hQ _ (Option.some.inj hm).symm _ _ _ (L46.trans l_) rv_
      · intro F48 H49 _ hm l50
        have L51 := L41.trans l50
        have sb52 := Same.trans sb42 l50.f
        replace h_ties := up h_ties l50
        replace h_dyes := up h_dyes l50
        exact hN29 _ (Option.some.inj hm).symm _ _ _ ⟨_, rfl, sb52, L51, trivial⟩
    · rintro s53 σ_ F54 H55 hm ⟨e56, rfl, sf57, L58, -⟩
      refine nx_with ?_
      replace h_ties := Rep.mono sf57 h_ties
      replace h_dyes := Rep.mono sf57 h_dyes
      exact rd_ret L58.fh (ev_call (eva_cons (ev_var rfl h_ties) (eva_cons (ev_var rfl h_dyes) eva_nil))) hm fun x v F1 H1 hm l rv => hQ x (Option.some.inj hm).symm v F1 H1 (L58.trans l) rv
abbrev s_fewest : Stmt := topS 28
theorem sc_fewest : FnScope ["points", "ties", "numbers", "many"] ["points", "ties"] (defScope s_fewest) := ⟨rfl, rfl, rfl, by decide +kernel, rfl, by decide +kernel, by decide +kernel⟩
theorem ok_fewest {f : Addr} {fd : FuncData} (F : Fun K "fewest" "fewest" s_fewest f fd) (gF : mg "fewest" = some (.ref f)) (T : Txt K mg ad CW) (C_row : Fn P w K mg base (L2.CX P w) 24 "row" ["points", "ties"] (spXN (clO ad) (β := Int) fun (x : Int × (List (Int × Int)) × Unit) => row x.1 x.2.1)) (C_worth : Fn P w K mg base CX0 1 "worth" ["numbers", "q"] (spO (β := Int) fun (x : (List Int) × Int × Unit) => worth x.1 x.2.1)) : Fn P w K mg base (L2.CX P w) 25 "fewest" ["points", "ties"] (spX (clO ad) (β := Int) fun (x : Int × (List (Int × Int)) × Unit) => fewest x.1 x.2.1) := by
  refine ⟨f, _, gF, F.kp, F.binds (ps := ["points", "ties"]) (fun _ _ _ _ _ _ us hl => match us, hl with | [_, _], _ => rfl), F.okX sc_fewest (spX_len rfl) (fun cdv A outer s H vs Q E hr h => ?_)⟩
  refine ⟨_, (pss_cons (ps_set (i := 2) sc_fewest.nd rfl (by first | exact Or.inl rfl | exact Or.inr rfl) (pe_fnX (takes_of rfl rfl rfl rfl) C_row (hr.mono (by decide)) rfl (pa_cons (pv 0) (pa_cons (pv 1) pa_nil))))
    (pss_cons (ps_set (i := 3) sc_fewest.nd rfl (by first | exact Or.inl rfl | exact Or.inr rfl) pe_int)
    (PSs.nox (pss_cons (ps_while PassesOwn.never (pt_cmpR op_eq (pe_fn C_worth (hr.mono (by decide)) rfl (pa_cons (pv 2) (pa_cons (pv 3) pa_nil))) pe_int (nomark _)) (pss_one (ps_set (i := 3) sc_fewest.nd rfl (by first | exact Or.inl rfl | exact Or.inr rfl) (pe_op op_add (pv 3) pe_int))))
    (pss_one (ps_ret (pv 3))))))), ?_⟩
  obtain ⟨F0, ⟨x_points, x_ties, _⟩, y, s0, ⟨v_points, _, rfl, h_points, v_ties, _, rfl, h_ties, rfl⟩, hm, hQ, hE⟩ := h
  have L0 : Lat F0 H F0 H := .refl s0
  refine at_st (σ := [some v_points, some v_ties, none, none]) rfl ?_
  replace hm : fewest x_points x_ties = some y := hm
  unfold fewest at hm
  refine rd_asgX L0.fh (ex_callN (EVA.x (eva_cons (ev_varF rfl h_points) (eva_cons (ev_var rfl h_ties) eva_nil)))) hm (fun e F1 H1 ee l => hE e ee F1 H1 (L0.trans l)) ?_
  intro x1 v2 F3 H4 hm l5 h_numbers_6
  have L7 := L0.trans l5
  refine rd_asg L7.fh ev_int hm ?_
  intro x8 v9 F10 H11 hm l12 h_many_13
  have L14 := L7.trans l12
  replace h_numbers_6 := up h_numbers_6 l12
  refine rd_whileG hm (fun (s : Int) σ_ F_ H_ => ∃ (v3_ : V), σ_ = [some v_points, some v_ties, some v2, some v3_] ∧ Same F10 F_ ∧ Lat F0 H F_ H_ ∧ Rep.rp s v3_ F_ ∧ True) ⟨_, rfl, (.refl _), L14, (Flat.any h_many_13), trivial⟩ ?_ ?_ ?_ ?_
  · rintro s σ_ F_ H_ ⟨e15, rfl, sf16, L17, h_many_18, -⟩
    exact L17.fh
  · rintro s19 σ_ F20 H21 ⟨e22, rfl, sf23, L24, h_many_25, -⟩
    replace h_numbers_6 := Rep.mono sf23 h_numbers_6
    exact (evt_of (ev_op (ev_call (eva_cons (ev_var rfl h_numbers_6) (eva_cons (ev_varF rfl h_many_25) eva_nil))) ev_int rv_eqI))
  · rintro s26 σ_ F27 H28 F29 H30 ⟨e34, rfl, sf35, L36, h_many_37, -⟩ l31 s38 hm D32 hN33
    replace h_numbers_6 := Rep.mono sf35 h_numbers_6
    have L39 := L36.trans l31
    have sb40 := Same.trans sf35 l31.f
    replace h_numbers_6 := up h_numbers_6 l31
    refine rd_asgL L39.fh (ev_op (ev_varF rfl h_many_37) ev_int rv_add) hm ?_
    intro x41 v42 F43 H44 hm l45 h_many_46
    have L47 := L39.trans l45
    have sb48 := Same.trans sb40 l45.f
    replace h_numbers_6 := up h_numbers_6 l45
    obtain rfl := Option.some.inj hm
    exact hN33 _ _ _ ⟨_, rfl, sb48, L47, (Flat.any h_many_46), trivial⟩
  · rintro s49 σ_ F50 H51 F52 H53 hm ⟨e55, rfl, sf56, L57, h_many_58, -⟩ l54
    have L59 := L57.trans l54
    exact rd_ret L59.fh (ev_varF rfl h_many_58) hm fun x v F1 H1 hm l rv => hQ x (Option.some.inj hm).symm v F1 H1 (L59.trans l) rv
abbrev s_extended : Stmt := topS 29
theorem sc_extended : FnScope ["points", "ties", "many", "dyes", "at", "near", "dye", "found", "low", "high"] ["points", "ties", "many", "dyes"] (defScope s_extended) := ⟨rfl, rfl, rfl, by decide +kernel, rfl, by decide +kernel, by decide +kernel⟩
theorem ok_extended {f : Addr} {fd : FuncData} (F : Fun K "extended" "extended" s_extended f fd) (gF : mg "extended" = some (.ref f)) (T : Txt K mg ad CW) : ∀ d_ : Nat, Fn P w K mg base CX0 (1 + d_) "extended" ["points", "ties", "many", "dyes"] (spO (β := (Option (List Int))) fun (x : Int × (List (Int × Int)) × Int × (List Int) × Unit) => extendedF d_ x.1 x.2.1 x.2.2.1 x.2.2.2.1)
  | 0 => ⟨f, _, gF, F.kp, F.binds (ps := ["points", "ties", "many", "dyes"]) (fun _ _ _ _ _ _ us hl => match us, hl with | [_, _, _, _], _ => rfl), F.ok (k := 0) sc_extended (spO_len rfl) (fun cdv A outer s H vs Q E hr h => by obtain ⟨F0, _, y, s0, _, hm, _⟩ := h; cases hm)⟩
  | n_ + 1 => by
    have C_extended := ok_extended F gF T  n_
    refine ⟨f, _, gF, F.kp, F.binds (ps := ["points", "ties", "many", "dyes"]) (fun _ _ _ _ _ _ us hl => match us, hl with | [_, _, _, _], _ => rfl), F.ok (k := 1 + n_) sc_extended (spO_len rfl) (fun cdv A outer s H vs Q E hr h => ?_)⟩
    refine ⟨_, (pss_cons (ps_set (i := 4) sc_extended.nd rfl (by first | exact Or.inl rfl | exact Or.inr rfl) (pe_callB call_len_seq (by rfl) T.b_len PySem.boot_len (pa_cons (pv 3) pa_nil)))
    (pss_cons (ps_if (pt_cmpR op_eq (pv 4) (pv 0) (nomark _)) (pss_one (ps_ret (pv 3))) pss_nil)
    (pss_cons (ps_setLc (i := 5) (own := [("low", 8), ("high", 9)]) (g := (gTup K 2 (gCons (gName 8) (gCons (gName 9) gNil)))) rfl sc_extended.nd rfl rfl (sw_true rfl rfl rfl (by decide +kernel)) (pi_list (pv 1)) (blkOk_by (N := ["points", "ties", "many", "dyes", "at", "near", "dye", "found", "low", "high"]) (sc := defScope s_extended) (by decide +kernel)) (fun _ _ _ _ _ => (pg_tup rfl (pgs_cons (pg_name (i := 8) sc_extended.nd rfl (by first | exact Or.inl rfl | exact Or.inr rfl)) (pgs_cons (pg_name (i := 9) sc_extended.nd rfl (by first | exact Or.inl rfl | exact Or.inr rfl)) pgs_nil)))) (fun _ _ _ _ _ => (pts_one (pt_cmpR op_eq (pv 9) (pv 4) (nomark _)))) (fun _ _ _ _ _ => (pe_ix (ix_listK rfl) (pv 3) (pv 8) (fun _ _ => rfl))))
    (pss_cons (ps_for PassesOwn.never rfl (pi_range1 (by rfl) T.b_range (pa_cons (pv 2) pa_nil)) (pg_name (i := 6) sc_extended.nd rfl (by first | exact Or.inl rfl | exact Or.inr rfl)) (pss_one (ps_if (pt_cmpR op_notIn_seq (pv 6) (pv 5) (by rfl)) (pss_cons (ps_set (i := 7) sc_extended.nd rfl (by first | exact Or.inl rfl | exact Or.inr rfl) (pe_fn C_extended (hr.mono (by omega)) rfl (pa_cons (pv 0) (pa_cons (pv 1) (pa_cons (pv 2) (pa_cons (pe_op op_cat (pv 3) (pe_lst (pa_cons (pv 6) pa_nil))) pa_nil))))))
    (pss_one (ps_if (pt_cmp (pc_notN (pv 7)) rfl) (pss_one (ps_ret (pv 7))) pss_nil))) pss_nil)))
    (pss_one (ps_ret pe_non)))))), ?_⟩
    obtain ⟨F0, ⟨x_points, x_ties, x_many, x_dyes, _⟩, y, s0, ⟨v_points, _, rfl, h_points, v_ties, _, rfl, h_ties, v_many, _, rfl, h_many, v_dyes, _, rfl, h_dyes, rfl⟩, hm, hQ⟩ := h
    have L0 : Lat F0 H F0 H := .refl s0
    refine at_st (σ := [some v_points, some v_ties, some v_many, some v_dyes, none, none, none, none, none, none]) rfl ?_
    replace hm : extendedF (n_ + 1) x_points x_ties x_many x_dyes = some y := hm
    unfold extendedF at hm
    refine rd_asg L0.fh (ev_len (ev_var rfl h_dyes)) hm ?_
    intro x1 v2 F3 H4 hm l5 h_at_6
    have L7 := L0.trans l5
    replace h_ties := up h_ties l5
    replace h_dyes := up h_dyes l5
    refine rd_guard L7.fh (evt_of (ev_op (ev_varF rfl h_at_6) (ev_varF rfl h_points) rv_eqI)) hm ?_ ?_
    · intro F8 H9 _ hm l10
      have L11 := L7.trans l10
      replace h_dyes := up h_dyes l10
      exact rd_ret0 L11.fh (ev_some (ev_var rfl h_dyes)) hm fun v F1 H1 l rv => hQ v F1 H1 (L11.trans l) rv
    · intro F12 H13 _ hm l14
      have L15 := L7.trans l14
      replace h_ties := up h_ties l14
      replace h_dyes := up h_dyes l14
      refine rd_asg L15.fh (EVN.ev (evn_lc (ei_list (ev_var rfl h_ties)) (fun x22 v23 _ _ _ l25 r24 k26 => gt_pair r24 l25.fh fun _ _ r27 r28 => (k26 _ rfl (evt_of (ev_op (ev_varF rfl r28) (ev_varF rfl h_at_6) rv_eqI)) (ev_op (ev_var rfl (up h_dyes l25)) (ev_varF rfl r27) rv_ixL))))) hm ?_
      intro x16 v17 F18 H19 hm l20 h_near_21
      have L29 := L15.trans l20
      replace h_ties := up h_ties l20
      replace h_dyes := up h_dyes l20
      refine rd_for L29.fh (ei_range1 (ev_varF rfl h_many)) hm ?_
      intro xs30 J31 F32 H33 hm l34 wk35
      have L36 := L29.trans l34
      replace h_ties := up h_ties l34
      replace h_dyes := up h_dyes l34
      replace h_near_21 := up h_near_21 l34
      refine rd_loopR wk35 hm (fun (s : Unit) σ_ F_ H_ => ∃ (o6_ : Option V) (o7_ : Option V), σ_ = [some v_points, some v_ties, some v_many, some v_dyes, some v2, some v17, o6_, o7_, none, none] ∧ Same F32 F_ ∧ Lat F0 H F_ H_ ∧ True) ⟨_, _, rfl, (.refl _), L36, trivial⟩ ?_ ?_ ?_
      · rintro s σ_ F_ H_ ⟨e37, e38, rfl, sf39, L40, -⟩
        exact ⟨sf39, L40.fh⟩
      · rintro q41 s42 σ_ F48 H49 v43 F50 H51 ⟨e52, e53, rfl, sf54, L55, -⟩ l44 rv45 st58 hm D47 hD56 hN46 hR57
        replace hD56 : D47.rt = Q := hD56
        replace h_ties := Rep.mono sf54 h_ties
        replace h_dyes := Rep.mono sf54 h_dyes
        replace h_near_21 := Rep.mono sf54 h_near_21
        have L59 := L55.trans l44
        have sb60 := Same.trans sf54 l44.f
        replace h_ties := up h_ties l44
        replace h_dyes := up h_dyes l44
        replace h_near_21 := up h_near_21 l44
        refine gt_name ?_
        refine rd_if L59.fh (evt_of (ev_op (ev_varF rfl rv45) (ev_var rfl h_near_21) rv_notInI)) hm ?_ ?_
        · intro F61 H62 _ hm l63
          have L64 := L59.trans l63
          have sb65 := Same.trans sb60 l63.f
          replace h_ties := up h_ties l63
          replace h_dyes := up h_dyes l63
          replace h_near_21 := up h_near_21 l63
          refine rd_asg L64.fh (ev_call (eva_cons (ev_varF rfl h_points) (eva_cons (ev_var rfl h_ties) (eva_cons (ev_varF rfl h_many) (eva_cons (EVN.ev (evn_op (ev_var rfl h_dyes) (EVN.ev (evn_lst (evl_cons (ev_varF rfl rv45) evl_nil))) rvn_cat)) eva_nil))))) hm ?_
          intro x66 v67 F68 H69 hm l70 h_found_71
          have L72 := L64.trans l70
          have sb73 := Same.trans sb65 l70.f
          replace h_ties := up h_ties l70
          replace h_dyes := up h_dyes l70
          replace h_near_21 := up h_near_21 l70
          refine rd_if L72.fh (evt_b (ev_notN (fun x v F h => nn_list x v F h) (ev_var rfl h_found_71))) hm ?_ ?_
          · intro F74 H75 _ hm l76
            have L77 := L72.trans l76
            have sb78 := Same.trans sb73 l76.f
            replace h_ties := up h_ties l76
            replace h_dyes := up h_dyes l76
            replace h_near_21 := up h_near_21 l76
            replace h_found_71 := up h_found_71 l76
            refine rd_ret L77.fh (ev_var rfl h_found_71) hm ?_
            intro x_ v_ F1_ H1_ hm l_ rv_
            replace hm := hR57 _ (Option.some.inj hm).symm
            obtain rfl := Option.some.inj hm
            rw [hD56]
            exact hQ _ _ _ (L77.trans l_) rv_
          · intro F79 H80 _ hm l81
            have L82 := L72.trans l81
            have sb83 := Same.trans sb73 l81.f
            replace h_ties := up h_ties l81
            replace h_dyes := up h_dyes l81
            replace h_near_21 := up h_near_21 l81
            replace h_found_71 := up h_found_71 l81
            exact hN46 _ (Option.some.inj hm).symm _ _ _ ⟨_, _, rfl, sb83, L82, trivial⟩
        · intro F84 H85 _ hm l86
          have L87 := L59.trans l86
          have sb88 := Same.trans sb60 l86.f
          replace h_ties := up h_ties l86
          replace h_dyes := up h_dyes l86
          replace h_near_21 := up h_near_21 l86
          exact hN46 _ (Option.some.inj hm).symm _ _ _ ⟨_, _, rfl, sb88, L87, trivial⟩
      · rintro s89 σ_ F90 H91 hm ⟨e92, e93, rfl, sf94, L95, -⟩
        refine nx_with ?_
        exact rd_ret0 L95.fh (ev_non (α := List Int)) hm fun v F1 H1 l rv => hQ v F1 H1 (L95.trans l) rv
abbrev s_least : Stmt := topS 30
theorem sc_least : FnScope ["points", "ties", "many"] ["points", "ties", "many"] (defScope s_least) := ⟨rfl, rfl, rfl, by decide +kernel, rfl, by decide +kernel, by decide +kernel⟩
theorem ok_least {f : Addr} {fd : FuncData} (F : Fun K "least" "least" s_least f fd) (gF : mg "least" = some (.ref f)) (T : Txt K mg ad CW) (C_asked_web : Fn P w K mg base (L2.CX P w) 2 "asked_web" ["points", "ties"] (spX (clO ad) (β := Unit) fun (x : Int × (List (Int × Int)) × Unit) => asked_web x.1 x.2.1)) (C_extended : Fn P w K mg base CX0 11 "extended" ["points", "ties", "many", "dyes"] (spO (β := (Option (List Int))) fun (x : Int × (List (Int × Int)) × Int × (List Int) × Unit) => extended x.1 x.2.1 x.2.2.1 x.2.2.2.1)) : Fn P w K mg base (L2.CX P w) 12 "least" ["points", "ties", "many"] (spX (clO ad) (β := (Option (List Int))) fun (x : Int × (List (Int × Int)) × Int × Unit) => least x.1 x.2.1 x.2.2.1) := by
  refine ⟨f, _, gF, F.kp, F.binds (ps := ["points", "ties", "many"]) (fun _ _ _ _ _ _ us hl => match us, hl with | [_, _, _], _ => rfl), F.okX sc_least (spX_len rfl) (fun cdv A outer s H vs Q E hr h => ?_)⟩
  refine ⟨_, (pss_cons (ps_expr (pe_fnX (takes_of rfl rfl rfl rfl) C_asked_web (hr.mono (by decide)) rfl (pa_cons (pv 0) (pa_cons (pv 1) pa_nil))))
    (pss_one (ps_ret (pe_fn C_extended (hr.mono (by decide)) rfl (pa_cons (pv 0) (pa_cons (pv 1) (pa_cons (pv 2) (pa_cons (pe_lst pa_nil) pa_nil)))))))), ?_⟩
  obtain ⟨F0, ⟨x_points, x_ties, x_many, _⟩, y, s0, ⟨v_points, _, rfl, h_points, v_ties, _, rfl, h_ties, v_many, _, rfl, h_many, rfl⟩, hm, hQ, hE⟩ := h
  have L0 : Lat F0 H F0 H := .refl s0
  refine at_st (σ := [some v_points, some v_ties, some v_many]) rfl ?_
  replace hm : least x_points x_ties x_many = some y := hm
  unfold least at hm
  refine rd_dropX L0.fh (ex_call (EVA.x (eva_cons (ev_varF rfl h_points) (eva_cons (ev_var rfl h_ties) eva_nil)))) hm (fun e F1 H1 ee l => hE e ee F1 H1 (L0.trans l)) ?_
  intro x1 F2 H3 hm l4
  have L5 := L0.trans l4
  replace h_ties := up h_ties l4
  exact rd_ret L5.fh (ev_call (eva_cons (ev_varF rfl h_points) (eva_cons (ev_var rfl h_ties) (eva_cons (ev_varF rfl h_many) (eva_cons (EVN.ev (evn_nil (α := Int))) eva_nil))))) hm fun x v F1 H1 hm l rv => hQ x (Option.some.inj hm).symm v F1 H1 (L5.trans l) rv
abbrev s_asked_setting : Stmt := topS 32
theorem sc_asked_setting : FnScope ["points", "ties", "arrows"] ["points", "ties", "arrows"] (defScope s_asked_setting) := ⟨rfl, rfl, rfl, by decide +kernel, rfl, by decide +kernel, by decide +kernel⟩
theorem ok_asked_setting {f : Addr} {fd : FuncData} (F : Fun K "asked_setting" "asked_setting" s_asked_setting f fd) (gF : mg "asked_setting" = some (.ref f)) (T : Txt K mg ad CW) (C_asked_web : Fn P w K mg base (L2.CX P w) 2 "asked_web" ["points", "ties"] (spX (clO ad) (β := Unit) fun (x : Int × (List (Int × Int)) × Unit) => asked_web x.1 x.2.1)) : Fn P w K mg base (L2.CX P w) 3 "asked_setting" ["points", "ties", "arrows"] (spX (clO ad) (β := Unit) fun (x : Int × (List (Int × Int)) × (List Bool) × Unit) => asked_setting x.1 x.2.1 x.2.2.1) := by
  refine ⟨f, _, gF, F.kp, F.binds (ps := ["points", "ties", "arrows"]) (fun _ _ _ _ _ _ us hl => match us, hl with | [_, _, _], _ => rfl), F.okX sc_asked_setting (spX_len rfl) (fun cdv A outer s H vs Q E hr h => ?_)⟩
  refine ⟨_, (pss_cons (ps_expr (pe_fnX (takes_of rfl rfl rfl rfl) C_asked_web (hr.mono (by decide)) rfl (pa_cons (pv 0) (pa_cons (pv 1) pa_nil))))
    (pss_one (ps_if (pt_cmpR op_ne (pe_callB call_len_seq (by rfl) T.b_len PySem.boot_len (pa_cons (pv 2) pa_nil)) (pe_callB call_len_seq (by rfl) T.b_len PySem.boot_len (pa_cons (pv 1) pa_nil)) (nomark _)) (pss_one (ps_raiseE rfl (takes_of rfl rfl rfl rfl) T.x_NoSetting rfl)) pss_nil))), ?_⟩
  obtain ⟨F0, ⟨x_points, x_ties, x_arrows, _⟩, y, s0, ⟨v_points, _, rfl, h_points, v_ties, _, rfl, h_ties, v_arrows, _, rfl, h_arrows, rfl⟩, hm, hQ, hE⟩ := h
  have L0 : Lat F0 H F0 H := .refl s0
  refine at_st (σ := [some v_points, some v_ties, some v_arrows]) rfl ?_
  replace hm : asked_setting x_points x_ties x_arrows = some y := hm
  unfold asked_setting at hm
  refine rd_dropX L0.fh (ex_call (EVA.x (eva_cons (ev_varF rfl h_points) (eva_cons (ev_var rfl h_ties) eva_nil)))) hm (fun e F1 H1 ee l => hE e ee F1 H1 (L0.trans l)) ?_
  intro x1 F2 H3 hm l4
  have L5 := L0.trans l4
  replace h_ties := up h_ties l4
  replace h_arrows := up h_arrows l4
  refine rd_if L5.fh (evt_of (ev_op (ev_len (ev_var rfl h_arrows)) (ev_len (ev_var rfl h_ties)) rv_neI)) hm ?_ ?_
  · intro F6 H7 _ hm l8
    have L9 := L5.trans l8
    exact (fun e F1 H1 ee l => hE e ee F1 H1 (L9.trans l)) _ _ _ (Option.some.inj hm).symm (.refl L9.fh)
  · intro F10 H11 _ hm l12
    have L13 := L5.trans l12
    exact hQ () (Option.some.inj hm).symm .non _ _ L13 rfl
abbrev s_led : Stmt := topS 33
theorem sc_led : FnScope ["ties", "arrows", "found", "tie", "forth"] ["ties", "arrows"] (defScope s_led) := ⟨rfl, rfl, rfl, by decide +kernel, rfl, by decide +kernel, by decide +kernel⟩
theorem ok_led {f : Addr} {fd : FuncData} (F : Fun K "led" "led" s_led f fd) (gF : mg "led" = some (.ref f)) (T : Txt K mg ad CW) : Fn P w K mg base CX0 1 "led" ["ties", "arrows"] (spN (β := (Int × Int)) fun (x : (List (Int × Int)) × (List Bool) × Unit) => led x.1 x.2.1) := by
  refine ⟨f, _, gF, F.kp, F.binds (ps := ["ties", "arrows"]) (fun _ _ _ _ _ _ us hl => match us, hl with | [_, _], _ => rfl), F.ok sc_led (spN_len rfl) (fun cdv A outer s H vs Q E hr h => ?_)⟩
  refine ⟨_, (pss_cons (ps_set (i := 2) sc_led.nd rfl (by first | exact Or.inl rfl | exact Or.inr rfl) (pe_lst pa_nil))
    (pss_cons (ps_for PassesOwn.never rfl (pi_zip (by rfl) T.b_zip (pa_cons (pv 0) (pa_cons (pv 1) pa_nil))) (pg_tup rfl (pgs_cons (pg_name (i := 3) sc_led.nd rfl (by first | exact Or.inl rfl | exact Or.inr rfl)) (pgs_cons (pg_name (i := 4) sc_led.nd rfl (by first | exact Or.inl rfl | exact Or.inr rfl)) pgs_nil))) (pss_one (ps_if (pt_val (pv 4)) (pss_one (ps_expr (pe_bm PySem.F.plainAttrs_list PySem.F.slot_list_append PySem.F.type_list_append mt_append (pv 2) (pa_cons (pv 3) pa_nil)))) (pss_one (ps_expr (pe_bm PySem.F.plainAttrs_list PySem.F.slot_list_append PySem.F.type_list_append mt_append (pv 2) (pa_cons (pe_tup (pa_cons (pe_ix ix_tup (pv 3) pe_int (fun _ _ => rfl)) (pa_cons (pe_ix ix_tup (pv 3) pe_int (fun _ _ => rfl)) pa_nil))) pa_nil)))))))
    (pss_one (ps_ret (pv 2))))), ?_⟩
  obtain ⟨F0, ⟨x_ties, x_arrows, _⟩, y, s0, ⟨v_ties, _, rfl, h_ties, v_arrows, _, rfl, h_arrows, rfl⟩, hm, hQ⟩ := h
  have L0 : Lat F0 H F0 H := .refl s0
  refine at_st (σ := [some v_ties, some v_arrows, none, none, none]) rfl ?_
  replace hm : led x_ties x_arrows = some y := hm
  unfold led at hm
  refine rd_asgN L0.fh (evn_nil (α := Int × Int)) hm ?_
  intro x1 p2 w3 F4 H5 hm l6 hn11 fp8 hp7 rl9
  have hz10 := L0.h.free hn11
  have L12 := L0.trans l6
  replace h_ties := up h_ties l6
  replace h_arrows := up h_arrows l6
  refine rd_for L12.fh (ei_zip (ev_var rfl h_ties) (ev_var rfl h_arrows)) hm ?_
  intro xs13 J14 F15 H16 hm l17 wk18
  have L19 := L12.trans l17
  replace h_ties := up h_ties l17
  replace h_arrows := up h_arrows l17
  replace fp8 := l17.nwl hp7 fp8
  replace hp7 := l17.h _ _ hp7
  replace rl9 := rpL.mono l17.f rl9
  refine rd_loopG wk18 hm (fun (s : (List (Int × Int))) σ_ F_ H_ => ∃ (o3_ : Option V) (o4_ : Option V) (w2_ : List V), σ_ = [some v_ties, some v_arrows, some (.ref p2), o3_, o4_] ∧ Same F15 F_ ∧ Lat F0 H F_ H_ ∧ (H_ p2 = some (.lst w2_) ∧ F_ p2 = none ∧ rpL s w2_ F_) ∧ True) ⟨_, _, _, rfl, (.refl _), L19, ⟨hp7, fp8, rl9⟩, trivial⟩ ?_ ?_ ?_
  · rintro s σ_ F_ H_ ⟨e20, e21, e22, rfl, sf23, L24, ⟨hp25, fp26, rl27⟩, -⟩
    exact ⟨sf23, L24.fh⟩
  · rintro q28 s29 σ_ F35 H36 v30 F37 H38 ⟨e39, e40, e41, rfl, sf42, L43, ⟨hp44, fp45, rl46⟩, -⟩ l31 rv32 s47 hm D34 hN33
    have L48 := L43.trans l31
    have sb49 := Same.trans sf42 l31.f
    replace fp45 := l31.nwl hp44 fp45
    replace hp44 := l31.h _ _ hp44
    replace rl46 := rpL.mono l31.f rl46
    refine gt_pair rv32 l31.fh ?_
    intro v50 v51 h_tie_52 h_forth_53
    refine rd_if L48.fh (evt_b (ev_varF rfl h_forth_53)) hm ?_ ?_
    · intro F54 H55 _ hm l56
      have L57 := L48.trans l56
      have sb58 := Same.trans sb49 l56.f
      replace fp45 := l56.nwl hp44 fp45
      replace hp44 := l56.h _ _ hp44
      replace rl46 := rpL.mono l56.f rl46
      replace h_tie_52 := up h_tie_52 l56
      refine rd_appendL L57.fh rfl hp44 fp45 rl46 (ev_var rfl h_tie_52) hm ?_
      intro x59 w60 F61 H62 hm m63 fp64 hp65 rl66
      have L67 := m63.l0 _ _ L57 hz10
      have sb68 := Same.trans sb58 m63.f
      replace h_tie_52 := Rep.mono m63.f h_tie_52
      obtain rfl := Option.some.inj hm
      exact hN33 _ _ _ ⟨_, _, _, rfl, sb68, L67, ⟨hp65, fp64, rl66⟩, trivial⟩
    · intro F69 H70 _ hm l71
      have L72 := L48.trans l71
      have sb73 := Same.trans sb49 l71.f
      replace fp45 := l71.nwl hp44 fp45
      replace hp44 := l71.h _ _ hp44
      replace rl46 := rpL.mono l71.f rl46
      replace h_tie_52 := up h_tie_52 l71
      refine rd_appendL L72.fh rfl hp44 fp45 rl46 (ev_tup (ev_snd (ev_var rfl h_tie_52)) (ev_fst (ev_var rfl h_tie_52))) hm ?_
      intro x74 w75 F76 H77 hm m78 fp79 hp80 rl81
      have L82 := m78.l0 _ _ L72 hz10
      have sb83 := Same.trans sb73 m78.f
      replace h_tie_52 := Rep.mono m78.f h_tie_52
      obtain rfl := Option.some.inj hm
      exact hN33 _ _ _ ⟨_, _, _, rfl, sb83, L82, ⟨hp80, fp79, rl81⟩, trivial⟩
  · rintro s84 σ_ F85 H86 hm ⟨e87, e88, e89, rfl, sf90, L91, ⟨hp92, fp93, rl94⟩, -⟩
    refine nx_with ?_
    obtain rfl := Option.some.inj hm
    exact rd_retO rfl (hQ _ _ _ _ L91 hz10 fp93 hp92 rl94)
abbrev s_ranks_by : Stmt := topS 34
theorem sc_ranks_by : FnScope ["points", "ties", "arrows", "pairs", "found", "lap", "later", "begin", "end", "point"] ["points", "ties", "arrows"] (defScope s_ranks_by) := ⟨rfl, rfl, rfl, by decide +kernel, rfl, by decide +kernel, by decide +kernel⟩
theorem ok_ranks_by {f : Addr} {fd : FuncData} (F : Fun K "ranks_by" "ranks_by" s_ranks_by f fd) (gF : mg "ranks_by" = some (.ref f)) (T : Txt K mg ad CW) (C_led : Fn P w K mg base CX0 1 "led" ["ties", "arrows"] (spN (β := (Int × Int)) fun (x : (List (Int × Int)) × (List Bool) × Unit) => led x.1 x.2.1)) : Fn P w K mg base CX0 2 "ranks_by" ["points", "ties", "arrows"] (spO (β := (Option (List Int))) fun (x : Int × (List (Int × Int)) × (List Bool) × Unit) => ranks_by x.1 x.2.1 x.2.2.1) := by
  refine ⟨f, _, gF, F.kp, F.binds (ps := ["points", "ties", "arrows"]) (fun _ _ _ _ _ _ us hl => match us, hl with | [_, _, _], _ => rfl), F.ok sc_ranks_by (spO_len rfl) (fun cdv A outer s H vs Q E hr h => ?_)⟩
  refine ⟨_, (pss_cons (ps_set (i := 3) sc_ranks_by.nd rfl (by first | exact Or.inl rfl | exact Or.inr rfl) (pe_fn C_led (hr.mono (by decide)) rfl (pa_cons (pv 1) (pa_cons (pv 2) pa_nil))))
    (pss_cons (ps_setLc (i := 4) (own := [("point", 9)]) (g := (gName 9)) rfl sc_ranks_by.nd rfl rfl (sw_true rfl rfl rfl (by decide +kernel)) (pi_range1 (by rfl) T.b_range (pa_cons (pv 0) pa_nil)) (blkOk_by (N := ["points", "ties", "arrows", "pairs", "found", "lap", "later", "begin", "end", "point"]) (sc := defScope s_ranks_by) (by decide +kernel)) (fun _ _ _ _ _ => (pg_name (i := 9) sc_ranks_by.nd rfl (by first | exact Or.inl rfl | exact Or.inr rfl))) (fun _ _ _ _ _ => pts_nil) (fun _ _ _ _ _ => pe_int))
    (pss_cons (ps_for PassesOwn.never rfl (pi_range1 (by rfl) T.b_range (pa_cons (pe_op op_add (pv 0) pe_int) pa_nil)) (pg_name (i := 5) sc_ranks_by.nd rfl (by first | exact Or.inl rfl | exact Or.inr rfl)) (pss_cons (ps_setLc (i := 6) (own := [("point", 9)]) (g := (gName 9)) rfl sc_ranks_by.nd rfl rfl (sw_true rfl rfl rfl (by decide +kernel)) (pi_range1 (by rfl) T.b_range (pa_cons (pv 0) pa_nil)) (blkOk_by (N := ["points", "ties", "arrows", "pairs", "found", "lap", "later", "begin", "end", "point"]) (sc := defScope s_ranks_by) (by decide +kernel)) (fun _ _ _ _ _ => (pg_name (i := 9) sc_ranks_by.nd rfl (by first | exact Or.inl rfl | exact Or.inr rfl))) (fun _ _ _ _ _ => pts_nil) (fun _ _ _ _ _ => pe_int))
    (pss_cons (ps_for PassesOwn.never rfl (pi_list (pv 3)) (pg_tup rfl (pgs_cons (pg_name (i := 7) sc_ranks_by.nd rfl (by first | exact Or.inl rfl | exact Or.inr rfl)) (pgs_cons (pg_name (i := 8) sc_ranks_by.nd rfl (by first | exact Or.inl rfl | exact Or.inr rfl)) pgs_nil))) (pss_one (ps_asg (pe_callB (call_max2 rfl) (by rfl) T.b_max (by decide +kernel) (pa_cons (pe_ix ix_list (pv 6) (pv 8) (fun _ _ => rfl)) (pa_cons (pe_op op_add (pe_ix ix_list (pv 4) (pv 7) (fun _ _ => rfl)) pe_int) pa_nil))) (pg_sub (pv 6) (pv 8) set_list))))
    (pss_cons (ps_if (pt_cmpR (op_eqD (hu64 hr)) (pv 6) (pv 4) (nomark _)) (pss_one (ps_ret (pv 4))) pss_nil)
    (pss_one (ps_set (i := 4) sc_ranks_by.nd rfl (by first | exact Or.inl rfl | exact Or.inr rfl) (pv 6)))))))
    (pss_one (ps_ret pe_non))))), ?_⟩
  obtain ⟨F0, ⟨x_points, x_ties, x_arrows, _⟩, y, s0, ⟨v_points, _, rfl, h_points, v_ties, _, rfl, h_ties, v_arrows, _, rfl, h_arrows, rfl⟩, hm, hQ⟩ := h
  have L0 : Lat F0 H F0 H := .refl s0
  refine at_st (σ := [some v_points, some v_ties, some v_arrows, none, none, none, none, none, none, none]) rfl ?_
  replace hm : ranks_by x_points x_ties x_arrows = some y := hm
  unfold ranks_by at hm
  refine rd_asg L0.fh (EVN.ev (evn_call (eva_cons (ev_var rfl h_ties) (eva_cons (ev_var rfl h_arrows) eva_nil)))) hm ?_
  intro x1 v2 F3 H4 hm l5 h_pairs_6
  have L7 := L0.trans l5
  refine rd_asg L7.fh (EVN.ev (evn_lc (ei_range1 (ev_varF rfl h_points)) (fun x14 v15 _ _ _ l17 r16 k18 => gt_name (k18 _ rfl evt_yes ev_int)))) hm ?_
  intro x8 v9 F10 H11 hm l12 h_found_13
  have L19 := L7.trans l12
  replace h_pairs_6 := up h_pairs_6 l12
  refine rd_for L19.fh (ei_range1 (ev_op (ev_varF rfl h_points) ev_int rv_add)) hm ?_
  intro xs20 J21 F22 H23 hm l24 wk25
  have L26 := L19.trans l24
  replace h_pairs_6 := up h_pairs_6 l24
  replace h_found_13 := up h_found_13 l24
  refine rd_loopR wk25 hm (fun (s : (List Int)) σ_ F_ H_ => ∃ (v4_ : V) (o5_ : Option V) (o6_ : Option V) (o7_ : Option V) (o8_ : Option V), σ_ = [some v_points, some v_ties, some v_arrows, some v2, some v4_, o5_, o6_, o7_, o8_, none] ∧ Same F22 F_ ∧ Lat F0 H F_ H_ ∧ Rep.rp s v4_ F_ ∧ True) ⟨_, _, _, _, _, rfl, (.refl _), L26, h_found_13, trivial⟩ ?_ ?_ ?_
  · rintro s σ_ F_ H_ ⟨e27, e28, e29, e30, e31, rfl, sf32, L33, h_found_34, -⟩
    exact ⟨sf32, L33.fh⟩
  · rintro q35 s36 σ_ F42 H43 v37 F44 H45 ⟨e46, e47, e48, e49, e50, rfl, sf51, L52, h_found_53, -⟩ l38 rv39 st56 hm D41 hD54 hN40 hR55
    replace hD54 : D41.rt = Q := hD54
    replace h_pairs_6 := Rep.mono sf51 h_pairs_6
    have L57 := L52.trans l38
    have sb58 := Same.trans sf51 l38.f
    replace h_pairs_6 := up h_pairs_6 l38
    replace h_found_53 := up h_found_53 l38
    refine gt_name ?_
    refine rd_asgN L57.fh (evn_lc (ei_range1 (ev_varF rfl h_points)) (fun x70 v71 _ _ _ l73 r72 k74 => gt_name (k74 _ rfl evt_yes ev_int))) hm ?_
    intro x59 p60 w61 F62 H63 hm l64 hn69 fp66 hp65 rl67
    have hz68 := L57.h.free hn69
    have L75 := L57.trans l64
    have sb76 := Same.trans sb58 l64.f
    replace h_pairs_6 := up h_pairs_6 l64
    replace h_found_53 := up h_found_53 l64
    refine rd_for L75.fh (ei_list (ev_var rfl h_pairs_6)) hm ?_
    intro xs77 J78 F79 H80 hm l81 wk82
    have L83 := L75.trans l81
    have sb84 := Same.trans sb76 l81.f
    replace h_pairs_6 := up h_pairs_6 l81
    replace h_found_53 := up h_found_53 l81
    replace fp66 := l81.nwl hp65 fp66
    replace hp65 := l81.h _ _ hp65
    replace rl67 := rpL.mono l81.f rl67
    refine rd_loopG wk82 hm (fun (s : (List Int)) σ_ F_ H_ => ∃ (o7_ : Option V) (o8_ : Option V) (w6_ : List V), σ_ = [some v_points, some v_ties, some v_arrows, some v2, some e46, some v37, some (.ref p60), o7_, o8_, none] ∧ Same F79 F_ ∧ Lat F0 H F_ H_ ∧ (H_ p60 = some (.lst w6_) ∧ F_ p60 = none ∧ rpL s w6_ F_) ∧ True) ⟨_, _, _, rfl, (.refl _), L83, ⟨hp65, fp66, rl67⟩, trivial⟩ ?_ ?_ ?_
    · rintro s σ_ F_ H_ ⟨e85, e86, e87, rfl, sf88, L89, ⟨hp90, fp91, rl92⟩, -⟩
      exact ⟨sf88, L89.fh⟩
    · rintro q93 s94 σ_ F100 H101 v95 F102 H103 ⟨e104, e105, e106, rfl, sf107, L108, ⟨hp109, fp110, rl111⟩, -⟩ l96 rv97 s112 hm D99 hN98
      have sb113 := Same.trans sb84 sf107
      replace h_pairs_6 := Rep.mono sf107 h_pairs_6
      replace h_found_53 := Rep.mono sf107 h_found_53
      have L114 := L108.trans l96
      have sb115 := Same.trans sb113 l96.f
      have sb116 := Same.trans sf107 l96.f
      replace h_pairs_6 := up h_pairs_6 l96
      replace h_found_53 := up h_found_53 l96
      replace fp110 := l96.nwl hp109 fp110
      replace hp109 := l96.h _ _ hp109
      replace rl111 := rpL.mono l96.f rl111
      refine gt_pair rv97 l96.fh ?_
      intro v117 v118 h_begin_119 h_end_120
      refine rd_setL L114.fh rfl hp109 fp110 rl111 (EV.flat (ev_max2 (ev_op (ev_var rfl (own_rp L114.fh hp109 rl111)) (ev_varF rfl h_end_120) rv_ixL) (ev_op (ev_op (ev_var rfl (Rep.mono L114.fh h_found_53)) (ev_varF rfl h_begin_119) rv_ixL) ev_int rv_add)) L114.fh) (ev_varF rfl h_end_120) hm ?_
      intro x121 w122 F123 H124 hm m125 fp126 hp127 rl128
      have L129 := m125.l0 _ _ L114 hz68
      have sb130 := Same.trans sb115 m125.f
      have sb131 := Same.trans sb116 m125.f
      replace h_pairs_6 := Rep.mono m125.f h_pairs_6
      replace h_found_53 := Rep.mono m125.f h_found_53
      obtain rfl := Option.some.inj hm
      exact hN98 _ _ _ ⟨_, _, _, rfl, sb131, L129, ⟨hp127, fp126, rl128⟩, trivial⟩
    · rintro s132 σ_ F133 H134 hm ⟨e135, e136, e137, rfl, sf138, L139, ⟨hp140, fp141, rl142⟩, -⟩
      refine nx_with ?_
      have sb143 := Same.trans sb84 sf138
      replace h_pairs_6 := Rep.mono sf138 h_pairs_6
      replace h_found_53 := Rep.mono sf138 h_found_53
      obtain ⟨F144, L145, sf146, h_later_147, fq148⟩ := freeze L139 hz68 fp141 hp140 rl142
      have sb149 := Same.trans sb143 sf146
      replace h_pairs_6 := Rep.mono sf146 h_pairs_6
      replace h_found_53 := Rep.mono sf146 h_found_53
      refine rd_guard L145.fh (evt_of (ev_op (ev_var rfl h_later_147) (ev_var rfl h_found_53) (fun x y => rv_eqD x y))) hm ?_ ?_
      · intro F150 H151 _ hm l152
        have L153 := L145.trans l152
        have sb154 := Same.trans sb149 l152.f
        replace h_pairs_6 := up h_pairs_6 l152
        replace h_found_53 := up h_found_53 l152
        replace h_later_147 := up h_later_147 l152
        refine rd_ret L153.fh (ev_some (ev_var rfl h_found_53)) hm ?_
        intro x_ v_ F1_ H1_ hm l_ rv_
        replace hm := hR55 _ (Option.some.inj hm).symm
        obtain rfl := Option.some.inj hm
        rw [hD54]
        exact hQ _ _ _ (L153.trans l_) rv_
      · intro F155 H156 _ hm l157
        have L158 := L145.trans l157
        have sb159 := Same.trans sb149 l157.f
        replace h_pairs_6 := up h_pairs_6 l157
        replace h_found_53 := up h_found_53 l157
        replace h_later_147 := up h_later_147 l157
        refine rd_asgL L158.fh (ev_var rfl h_later_147) hm ?_
        intro x160 v161 F162 H163 hm l164 h_found_165
        have L166 := L158.trans l164
        have sb167 := Same.trans sb159 l164.f
        replace h_pairs_6 := up h_pairs_6 l164
        replace h_later_147 := up h_later_147 l164
        exact hN40 _ (Option.some.inj hm).symm _ _ _ ⟨_, _, _, _, _, rfl, sb167, L166, h_found_165, trivial⟩
  · rintro s168 σ_ F169 H170 hm ⟨e171, e172, e173, e174, e175, rfl, sf176, L177, h_found_178, -⟩
    refine nx_with ?_
    exact rd_ret0 L177.fh (ev_non (α := List Int)) hm fun v F1 H1 l rv => hQ v F1 H1 (L177.trans l) rv
abbrev s_goes_round : Stmt := topS 35
theorem sc_goes_round : FnScope ["points", "ties", "arrows"] ["points", "ties", "arrows"] (defScope s_goes_round) := ⟨rfl, rfl, rfl, by decide +kernel, rfl, by decide +kernel, by decide +kernel⟩
theorem ok_goes_round {f : Addr} {fd : FuncData} (F : Fun K "goes_round" "goes_round" s_goes_round f fd) (gF : mg "goes_round" = some (.ref f)) (T : Txt K mg ad CW) (C_asked_setting : Fn P w K mg base (L2.CX P w) 3 "asked_setting" ["points", "ties", "arrows"] (spX (clO ad) (β := Unit) fun (x : Int × (List (Int × Int)) × (List Bool) × Unit) => asked_setting x.1 x.2.1 x.2.2.1)) (C_ranks_by : Fn P w K mg base CX0 2 "ranks_by" ["points", "ties", "arrows"] (spO (β := (Option (List Int))) fun (x : Int × (List (Int × Int)) × (List Bool) × Unit) => ranks_by x.1 x.2.1 x.2.2.1)) : Fn P w K mg base (L2.CX P w) 4 "goes_round" ["points", "ties", "arrows"] (spX (clO ad) (β := Bool) fun (x : Int × (List (Int × Int)) × (List Bool) × Unit) => goes_round x.1 x.2.1 x.2.2.1) := by
  refine ⟨f, _, gF, F.kp, F.binds (ps := ["points", "ties", "arrows"]) (fun _ _ _ _ _ _ us hl => match us, hl with | [_, _, _], _ => rfl), F.okX sc_goes_round (spX_len rfl) (fun cdv A outer s H vs Q E hr h => ?_)⟩
  refine ⟨_, (pss_cons (ps_expr (pe_fnX (takes_of rfl rfl rfl rfl) C_asked_setting (hr.mono (by decide)) rfl (pa_cons (pv 0) (pa_cons (pv 1) (pa_cons (pv 2) pa_nil)))))
    (pss_one (ps_ret (pe_cmp (pc_isN (pe_fn C_ranks_by (hr.mono (by decide)) rfl (pa_cons (pv 0) (pa_cons (pv 1) (pa_cons (pv 2) pa_nil))))) rfl)))), ?_⟩
  obtain ⟨F0, ⟨x_points, x_ties, x_arrows, _⟩, y, s0, ⟨v_points, _, rfl, h_points, v_ties, _, rfl, h_ties, v_arrows, _, rfl, h_arrows, rfl⟩, hm, hQ, hE⟩ := h
  have L0 : Lat F0 H F0 H := .refl s0
  refine at_st (σ := [some v_points, some v_ties, some v_arrows]) rfl ?_
  replace hm : goes_round x_points x_ties x_arrows = some y := hm
  unfold goes_round at hm
  refine rd_dropX L0.fh (ex_call (EVA.x (eva_cons (ev_varF rfl h_points) (eva_cons (ev_var rfl h_ties) (eva_cons (ev_var rfl h_arrows) eva_nil))))) hm (fun e F1 H1 ee l => hE e ee F1 H1 (L0.trans l)) ?_
  intro x1 F2 H3 hm l4
  have L5 := L0.trans l4
  replace h_ties := up h_ties l4
  replace h_arrows := up h_arrows l4
  exact rd_ret L5.fh (ev_isN (fun x v F h => nn_list x v F h) (ev_call (eva_cons (ev_varF rfl h_points) (eva_cons (ev_var rfl h_ties) (eva_cons (ev_var rfl h_arrows) eva_nil))))) hm fun x v F1 H1 hm l rv => hQ x (Option.some.inj hm).symm v F1 H1 (L5.trans l) rv
abbrev s_ranks : Stmt := topS 36
theorem sc_ranks : FnScope ["points", "ties", "arrows", "found"] ["points", "ties", "arrows"] (defScope s_ranks) := ⟨rfl, rfl, rfl, by decide +kernel, rfl, by decide +kernel, by decide +kernel⟩
theorem ok_ranks {f : Addr} {fd : FuncData} (F : Fun K "ranks" "ranks" s_ranks f fd) (gF : mg "ranks" = some (.ref f)) (T : Txt K mg ad CW) (C_asked_setting : Fn P w K mg base (L2.CX P w) 3 "asked_setting" ["points", "ties", "arrows"] (spX (clO ad) (β := Unit) fun (x : Int × (List (Int × Int)) × (List Bool) × Unit) => asked_setting x.1 x.2.1 x.2.2.1)) (C_ranks_by : Fn P w K mg base CX0 2 "ranks_by" ["points", "ties", "arrows"] (spO (β := (Option (List Int))) fun (x : Int × (List (Int × Int)) × (List Bool) × Unit) => ranks_by x.1 x.2.1 x.2.2.1)) : Fn P w K mg base (L2.CX P w) 4 "ranks" ["points", "ties", "arrows"] (spX (clO ad) (β := (List Int)) fun (x : Int × (List (Int × Int)) × (List Bool) × Unit) => ranks x.1 x.2.1 x.2.2.1) := by
  refine ⟨f, _, gF, F.kp, F.binds (ps := ["points", "ties", "arrows"]) (fun _ _ _ _ _ _ us hl => match us, hl with | [_, _, _], _ => rfl), F.okX sc_ranks (spX_len rfl) (fun cdv A outer s H vs Q E hr h => ?_)⟩
  refine ⟨_, (pss_cons (ps_expr (pe_fnX (takes_of rfl rfl rfl rfl) C_asked_setting (hr.mono (by decide)) rfl (pa_cons (pv 0) (pa_cons (pv 1) (pa_cons (pv 2) pa_nil)))))
    (pss_cons (ps_set (i := 3) sc_ranks.nd rfl (by first | exact Or.inl rfl | exact Or.inr rfl) (pe_fn C_ranks_by (hr.mono (by decide)) rfl (pa_cons (pv 0) (pa_cons (pv 1) (pa_cons (pv 2) pa_nil)))))
    (pss_cons (ps_if (pt_cmp (pc_isN (pv 3)) rfl) (pss_one (ps_raiseE rfl (takes_of rfl rfl rfl rfl) T.x_GoesRound rfl)) pss_nil)
    (pss_one (ps_ret (pv 3)))))), ?_⟩
  obtain ⟨F0, ⟨x_points, x_ties, x_arrows, _⟩, y, s0, ⟨v_points, _, rfl, h_points, v_ties, _, rfl, h_ties, v_arrows, _, rfl, h_arrows, rfl⟩, hm, hQ, hE⟩ := h
  have L0 : Lat F0 H F0 H := .refl s0
  refine at_st (σ := [some v_points, some v_ties, some v_arrows, none]) rfl ?_
  replace hm : ranks x_points x_ties x_arrows = some y := hm
  unfold ranks at hm
  refine rd_dropX L0.fh (ex_call (EVA.x (eva_cons (ev_varF rfl h_points) (eva_cons (ev_var rfl h_ties) (eva_cons (ev_var rfl h_arrows) eva_nil))))) hm (fun e F1 H1 ee l => hE e ee F1 H1 (L0.trans l)) ?_
  intro x1 F2 H3 hm l4
  have L5 := L0.trans l4
  replace h_ties := up h_ties l4
  replace h_arrows := up h_arrows l4
  refine rd_asg L5.fh (ev_call (eva_cons (ev_varF rfl h_points) (eva_cons (ev_var rfl h_ties) (eva_cons (ev_var rfl h_arrows) eva_nil)))) hm ?_
  intro x6 v7 F8 H9 hm l10 h_found_11
  have L12 := L5.trans l10
  refine rd_guard L12.fh (evt_b (ev_isN (fun x v F h => nn_list x v F h) (ev_var rfl h_found_11))) hm ?_ ?_
  · intro F13 H14 _ hm l15
    have L16 := L12.trans l15
    exact (fun e F1 H1 ee l => hE e ee F1 H1 (L16.trans l)) _ _ _ (Option.some.inj hm).symm (.refl L16.fh)
  · intro F17 H18 _ hm l19
    have L20 := L12.trans l19
    replace h_found_11 := up h_found_11 l19
    exact rd_ret L20.fh (ev_un (ev_var rfl h_found_11)) hm fun x v F1 H1 hm l rv => hQ x (Option.some.inj hm).symm v F1 H1 (L20.trans l) rv
abbrev s_setting_of : Stmt := topS 37
theorem sc_setting_of : FnScope ["points", "ties", "dyes", "low", "high"] ["points", "ties", "dyes"] (defScope s_setting_of) := ⟨rfl, rfl, rfl, by decide +kernel, rfl, by decide +kernel, by decide +kernel⟩
theorem ok_setting_of {f : Addr} {fd : FuncData} (F : Fun K "setting_of" "setting_of" s_setting_of f fd) (gF : mg "setting_of" = some (.ref f)) (T : Txt K mg ad CW) (C_asked_web : Fn P w K mg base (L2.CX P w) 2 "asked_web" ["points", "ties"] (spX (clO ad) (β := Unit) fun (x : Int × (List (Int × Int)) × Unit) => asked_web x.1 x.2.1)) (C_unlike : Fn P w K mg base CX0 1 "unlike" ["ties", "dyes"] (spO (β := Bool) fun (x : (List (Int × Int)) × (List Int) × Unit) => unlike x.1 x.2.1)) : Fn P w K mg base (L2.CX P w) 3 "setting_of" ["points", "ties", "dyes"] (spXN (clO ad) (β := Bool) fun (x : Int × (List (Int × Int)) × (List Int) × Unit) => setting_of x.1 x.2.1 x.2.2.1) := by
  refine ⟨f, _, gF, F.kp, F.binds (ps := ["points", "ties", "dyes"]) (fun _ _ _ _ _ _ us hl => match us, hl with | [_, _, _], _ => rfl), F.okX sc_setting_of (spXN_len rfl) (fun cdv A outer s H vs Q E hr h => ?_)⟩
  refine ⟨_, (pss_cons (ps_expr (pe_fnX (takes_of rfl rfl rfl rfl) C_asked_web (hr.mono (by decide)) rfl (pa_cons (pv 0) (pa_cons (pv 1) pa_nil))))
    (pss_cons (ps_if (pt_not (pt_val (pe_fn C_unlike (hr.mono (by decide)) rfl (pa_cons (pv 1) (pa_cons (pv 2) pa_nil))))) (pss_one (ps_raiseE rfl (takes_of rfl rfl rfl rfl) T.x_NoDyeing rfl)) pss_nil)
    (pss_one (ps_ret (pe_lc (own := [("low", 3), ("high", 4)]) (g := (gTup K 2 (gCons (gName 3) (gCons (gName 4) gNil)))) rfl sc_setting_of.nd (pi_list (pv 1)) (blkOk_by (N := ["points", "ties", "dyes", "low", "high"]) (sc := defScope s_setting_of) (by decide +kernel)) (fun _ _ _ _ _ => (pg_tup rfl (pgs_cons (pg_name (i := 3) sc_setting_of.nd rfl (by first | exact Or.inl rfl | exact Or.inr rfl)) (pgs_cons (pg_name (i := 4) sc_setting_of.nd rfl (by first | exact Or.inl rfl | exact Or.inr rfl)) pgs_nil)))) (fun _ _ _ _ _ => pts_nil) (fun _ _ _ _ _ => (pe_cmpR op_lt (pe_ix (ix_listK rfl) (pv 2) (pv 3) (fun _ _ => rfl)) (pe_ix (ix_listK rfl) (pv 2) (pv 4) (fun _ _ => rfl)) (nomark _)))))))), ?_⟩
  obtain ⟨F0, ⟨x_points, x_ties, x_dyes, _⟩, y, s0, ⟨v_points, _, rfl, h_points, v_ties, _, rfl, h_ties, v_dyes, _, rfl, h_dyes, rfl⟩, hm, hQ, hE⟩ := h
  have L0 : Lat F0 H F0 H := .refl s0
  refine at_st (σ := [some v_points, some v_ties, some v_dyes, none, none]) rfl ?_
  replace hm : setting_of x_points x_ties x_dyes = some y := hm
  unfold setting_of at hm
  refine rd_dropX L0.fh (ex_call (EVA.x (eva_cons (ev_varF rfl h_points) (eva_cons (ev_var rfl h_ties) eva_nil)))) hm (fun e F1 H1 ee l => hE e ee F1 H1 (L0.trans l)) ?_
  intro x1 F2 H3 hm l4
  have L5 := L0.trans l4
  replace h_ties := up h_ties l4
  replace h_dyes := up h_dyes l4
  refine rd_guard L5.fh (evt_not (evt_b (ev_call (eva_cons (ev_var rfl h_ties) (eva_cons (ev_var rfl h_dyes) eva_nil))))) hm ?_ ?_
  · intro F6 H7 _ hm l8
    have L9 := L5.trans l8
    exact (fun e F1 H1 ee l => hE e ee F1 H1 (L9.trans l)) _ _ _ (Option.some.inj hm).symm (.refl L9.fh)
  · intro F10 H11 _ hm l12
    have L13 := L5.trans l12
    replace h_ties := up h_ties l12
    replace h_dyes := up h_dyes l12
    exact rd_retNk L13.fh (evn_lc (ei_list (ev_var rfl h_ties)) (fun x14 v15 _ _ _ l17 r16 k18 => gt_pair r16 l17.fh fun _ _ r19 r20 => (k18 _ rfl evt_yes (ev_op (ev_op (ev_var rfl (up h_dyes l17)) (ev_varF rfl r19) rv_ixL) (ev_op (ev_var rfl (up h_dyes l17)) (ev_varF rfl r20) rv_ixL) rv_cmp)))) hm fun x p vs F1 H1 hm l h1 h2 h3 rv => hQ x (Option.some.inj hm).symm p vs F1 H1 (L13.trans l) (L13.h.free h1) h2 h3 rv
abbrev s_flattest : Stmt := topS 38
theorem sc_flattest : FnScope ["points", "ties"] ["points", "ties"] (defScope s_flattest) := ⟨rfl, rfl, rfl, by decide +kernel, rfl, by decide +kernel, by decide +kernel⟩
theorem ok_flattest {f : Addr} {fd : FuncData} (F : Fun K "flattest" "flattest" s_flattest f fd) (gF : mg "flattest" = some (.ref f)) (T : Txt K mg ad CW) (C_setting_of : Fn P w K mg base (L2.CX P w) 3 "setting_of" ["points", "ties", "dyes"] (spXN (clO ad) (β := Bool) fun (x : Int × (List (Int × Int)) × (List Int) × Unit) => setting_of x.1 x.2.1 x.2.2.1)) (C_least : Fn P w K mg base (L2.CX P w) 12 "least" ["points", "ties", "many"] (spX (clO ad) (β := (Option (List Int))) fun (x : Int × (List (Int × Int)) × Int × Unit) => least x.1 x.2.1 x.2.2.1)) (C_fewest : Fn P w K mg base (L2.CX P w) 25 "fewest" ["points", "ties"] (spX (clO ad) (β := Int) fun (x : Int × (List (Int × Int)) × Unit) => fewest x.1 x.2.1)) : Fn P w K mg base (L2.CX P w) 26 "flattest" ["points", "ties"] (spX (clO ad) (β := (List Bool)) fun (x : Int × (List (Int × Int)) × Unit) => flattest x.1 x.2.1) := by
  refine ⟨f, _, gF, F.kp, F.binds (ps := ["points", "ties"]) (fun _ _ _ _ _ _ us hl => match us, hl with | [_, _], _ => rfl), F.okX sc_flattest (spX_len rfl) (fun cdv A outer s H vs Q E hr h => ?_)⟩
  refine ⟨_, (pss_one (ps_ret (pe_fnX (takes_of rfl rfl rfl rfl) C_setting_of (hr.mono (by decide)) rfl (pa_cons (pv 0) (pa_cons (pv 1) (pa_cons (pe_fnX (takes_of rfl rfl rfl rfl) C_least (hr.mono (by decide)) rfl (pa_cons (pv 0) (pa_cons (pv 1) (pa_cons (pe_fnX (takes_of rfl rfl rfl rfl) C_fewest (hr.mono (by decide)) rfl (pa_cons (pv 0) (pa_cons (pv 1) pa_nil))) pa_nil)))) pa_nil)))))), ?_⟩
  obtain ⟨F0, ⟨x_points, x_ties, _⟩, y, s0, ⟨v_points, _, rfl, h_points, v_ties, _, rfl, h_ties, rfl⟩, hm, hQ, hE⟩ := h
  have L0 : Lat F0 H F0 H := .refl s0
  refine at_st (σ := [some v_points, some v_ties]) rfl ?_
  replace hm : flattest x_points x_ties = some y := hm
  unfold flattest at hm
  exact rd_retX L0.fh (ex_callN (exa_cons (EV.x (ev_varF rfl h_points)) (exa_cons (EV.x (ev_var rfl h_ties)) (exa_cons (ex_un (ex_call (exa_cons (EV.x (ev_varF rfl h_points)) (exa_cons (EV.x (ev_var rfl h_ties)) (exa_cons (ex_call (EVA.x (eva_cons (ev_varF rfl h_points) (eva_cons (ev_var rfl h_ties) eva_nil)))) (EVA.x eva_nil)))))) (EVA.x eva_nil))))) hm (fun e F1 H1 ee l => hE e ee F1 H1 (L0.trans l)) fun x v F1 H1 ex l rv => hQ x ex v F1 H1 (L0.trans l) rv
abbrev s_settings : Stmt := topS 40
theorem sc_settings : FnScope ["points", "ties"] ["points", "ties"] (defScope s_settings) := ⟨rfl, rfl, rfl, by decide +kernel, rfl, by decide +kernel, by decide +kernel⟩
theorem ok_settings {f : Addr} {fd : FuncData} (F : Fun K "settings" "settings" s_settings f fd) (gF : mg "settings" = some (.ref f)) (T : Txt K mg ad CW) (C_worth : Fn P w K mg base CX0 1 "worth" ["numbers", "q"] (spO (β := Int) fun (x : (List Int) × Int × Unit) => worth x.1 x.2.1)) (C_row : Fn P w K mg base (L2.CX P w) 24 "row" ["points", "ties"] (spXN (clO ad) (β := Int) fun (x : Int × (List (Int × Int)) × Unit) => row x.1 x.2.1)) : Fn P w K mg base (L2.CX P w) 25 "settings" ["points", "ties"] (spX (clO ad) (β := Int) fun (x : Int × (List (Int × Int)) × Unit) => settings x.1 x.2.1) := by
  refine ⟨f, _, gF, F.kp, F.binds (ps := ["points", "ties"]) (fun _ _ _ _ _ _ us hl => match us, hl with | [_, _], _ => rfl), F.okX sc_settings (spX_len rfl) (fun cdv A outer s H vs Q E hr h => ?_)⟩
  refine ⟨_, (pss_one (ps_ret (pe_callB call_abs (by rfl) T.b_abs (by decide +kernel) (pa_cons (pe_fn C_worth (hr.mono (by decide)) rfl (pa_cons (pe_fnX (takes_of rfl rfl rfl rfl) C_row (hr.mono (by decide)) rfl (pa_cons (pv 0) (pa_cons (pv 1) pa_nil))) (pa_cons (pe_un un_neg pe_int) pa_nil))) pa_nil)))), ?_⟩
  obtain ⟨F0, ⟨x_points, x_ties, _⟩, y, s0, ⟨v_points, _, rfl, h_points, v_ties, _, rfl, h_ties, rfl⟩, hm, hQ, hE⟩ := h
  have L0 : Lat F0 H F0 H := .refl s0
  refine at_st (σ := [some v_points, some v_ties]) rfl ?_
  replace hm : settings x_points x_ties = some y := hm
  unfold settings at hm
  exact rd_retX L0.fh (ex_abs (ex_callP (exa_cons (ex_callN (EVA.x (eva_cons (ev_varF rfl h_points) (eva_cons (ev_var rfl h_ties) eva_nil)))) (exa_cons (EV.x (ev_neg ev_int)) (EVA.x eva_nil))))) hm (fun e F1 H1 ee l => hE e ee F1 H1 (L0.trans l)) fun x v F1 H1 ex l rv => hQ x ex v F1 H1 (L0.trans l) rv
abbrev s_from_spring : Stmt := topS 41
theorem sc_from_spring : FnScope ["points", "ties", "point"] ["points", "ties", "point"] (defScope s_from_spring) := ⟨rfl, rfl, rfl, by decide +kernel, rfl, by decide +kernel, by decide +kernel⟩
theorem ok_from_spring {f : Addr} {fd : FuncData} (F : Fun K "from_spring" "from_spring" s_from_spring f fd) (gF : mg "from_spring" = some (.ref f)) (T : Txt K mg ad CW) (C_row : Fn P w K mg base (L2.CX P w) 24 "row" ["points", "ties"] (spXN (clO ad) (β := Int) fun (x : Int × (List (Int × Int)) × Unit) => row x.1 x.2.1)) : Fn P w K mg base (L2.CX P w) 25 "from_spring" ["points", "ties", "point"] (spX (clO ad) (β := Int) fun (x : Int × (List (Int × Int)) × Int × Unit) => from_spring x.1 x.2.1 x.2.2.1) := by
  refine ⟨f, _, gF, F.kp, F.binds (ps := ["points", "ties", "point"]) (fun _ _ _ _ _ _ us hl => match us, hl with | [_, _, _], _ => rfl), F.okX sc_from_spring (spX_len rfl) (fun cdv A outer s H vs Q E hr h => ?_)⟩
  refine ⟨_, (pss_one (ps_ret (pe_callB call_abs (by rfl) T.b_abs (by decide +kernel) (pa_cons (pe_ix ix_list (pe_fnX (takes_of rfl rfl rfl rfl) C_row (hr.mono (by decide)) rfl (pa_cons (pv 0) (pa_cons (pv 1) pa_nil))) pe_int (fun _ _ => rfl)) pa_nil)))), ?_⟩
  obtain ⟨F0, ⟨x_points, x_ties, x_point, _⟩, y, s0, ⟨v_points, _, rfl, h_points, v_ties, _, rfl, h_ties, v_point, _, rfl, h_point, rfl⟩, hm, hQ, hE⟩ := h
  have L0 : Lat F0 H F0 H := .refl s0
  refine at_st (σ := [some v_points, some v_ties, some v_point]) rfl ?_
  replace hm : from_spring x_points x_ties x_point = some y := hm
  unfold from_spring at hm
  exact rd_retX L0.fh (ex_abs (ex_op (ex_callN (EVA.x (eva_cons (ev_varF rfl h_points) (eva_cons (ev_var rfl h_ties) eva_nil)))) ev_int rv_ixL)) hm (fun e F1 H1 ee l => hE e ee F1 H1 (L0.trans l)) fun x v F1 H1 ex l rv => hQ x ex v F1 H1 (L0.trans l) rv
abbrev s_pairs : Stmt := topS 42
theorem sc_pairs : FnScope ["points", "ties", "q"] ["points", "ties", "q"] (defScope s_pairs) := ⟨rfl, rfl, rfl, by decide +kernel, rfl, by decide +kernel, by decide +kernel⟩
theorem ok_pairs {f : Addr} {fd : FuncData} (F : Fun K "pairs" "pairs" s_pairs f fd) (gF : mg "pairs" = some (.ref f)) (T : Txt K mg ad CW) (C_worth : Fn P w K mg base CX0 1 "worth" ["numbers", "q"] (spO (β := Int) fun (x : (List Int) × Int × Unit) => worth x.1 x.2.1)) (C_row : Fn P w K mg base (L2.CX P w) 24 "row" ["points", "ties"] (spXN (clO ad) (β := Int) fun (x : Int × (List (Int × Int)) × Unit) => row x.1 x.2.1)) : Fn P w K mg base (L2.CX P w) 25 "pairs" ["points", "ties", "q"] (spX (clO ad) (β := Int) fun (x : Int × (List (Int × Int)) × Int × Unit) => pairs x.1 x.2.1 x.2.2.1) := by
  refine ⟨f, _, gF, F.kp, F.binds (ps := ["points", "ties", "q"]) (fun _ _ _ _ _ _ us hl => match us, hl with | [_, _, _], _ => rfl), F.okX sc_pairs (spX_len rfl) (fun cdv A outer s H vs Q E hr h => ?_)⟩
  refine ⟨_, (pss_one (ps_ret (pe_callB call_abs (by rfl) T.b_abs (by decide +kernel) (pa_cons (pe_fn C_worth (hr.mono (by decide)) rfl (pa_cons (pe_fnX (takes_of rfl rfl rfl rfl) C_row (hr.mono (by decide)) rfl (pa_cons (pv 0) (pa_cons (pv 1) pa_nil))) (pa_cons (pe_un un_neg (pv 2)) pa_nil))) pa_nil)))), ?_⟩
  obtain ⟨F0, ⟨x_points, x_ties, x_q, _⟩, y, s0, ⟨v_points, _, rfl, h_points, v_ties, _, rfl, h_ties, v_q, _, rfl, h_q, rfl⟩, hm, hQ, hE⟩ := h
  have L0 : Lat F0 H F0 H := .refl s0
  refine at_st (σ := [some v_points, some v_ties, some v_q]) rfl ?_
  replace hm : pairs x_points x_ties x_q = some y := hm
  unfold pairs at hm
  exact rd_retX L0.fh (ex_abs (ex_callP (exa_cons (ex_callN (EVA.x (eva_cons (ev_varF rfl h_points) (eva_cons (ev_var rfl h_ties) eva_nil)))) (exa_cons (EV.x (ev_neg (ev_varF rfl h_q))) (EVA.x eva_nil))))) hm (fun e F1 H1 ee l => hE e ee F1 H1 (L0.trans l)) fun x v F1 H1 ex l rv => hQ x ex v F1 H1 (L0.trans l) rv
abbrev s_unbroken : Stmt := topS 43
theorem sc_unbroken : FnScope ["points", "ties", "many", "numbers"] ["points", "ties", "many"] (defScope s_unbroken) := ⟨rfl, rfl, rfl, by decide +kernel, rfl, by decide +kernel, by decide +kernel⟩
theorem ok_unbroken {f : Addr} {fd : FuncData} (F : Fun K "unbroken" "unbroken" s_unbroken f fd) (gF : mg "unbroken" = some (.ref f)) (T : Txt K mg ad CW) (C_row : Fn P w K mg base (L2.CX P w) 24 "row" ["points", "ties"] (spXN (clO ad) (β := Int) fun (x : Int × (List (Int × Int)) × Unit) => row x.1 x.2.1)) : Fn P w K mg base (L2.CX P w) 25 "unbroken" ["points", "ties", "many"] (spX (clO ad) (β := Int) fun (x : Int × (List (Int × Int)) × Int × Unit) => unbroken x.1 x.2.1 x.2.2.1) := by
  refine ⟨f, _, gF, F.kp, F.binds (ps := ["points", "ties", "many"]) (fun _ _ _ _ _ _ us hl => match us, hl with | [_, _, _], _ => rfl), F.okX sc_unbroken (spX_len rfl) (fun cdv A outer s H vs Q E hr h => ?_)⟩
  refine ⟨_, (pss_cons (ps_set (i := 3) sc_unbroken.nd rfl (by first | exact Or.inl rfl | exact Or.inr rfl) (pe_fnX (takes_of rfl rfl rfl rfl) C_row (hr.mono (by decide)) rfl (pa_cons (pv 0) (pa_cons (pv 1) pa_nil))))
    (pss_cons (ps_if (pt_cmpR op_gt (pv 2) (pv 0) (nomark _)) (pss_one (ps_ret pe_int)) pss_nil)
    (pss_one (ps_ret (pe_callB call_abs (by rfl) T.b_abs (by decide +kernel) (pa_cons (pe_ix ix_list (pv 3) (pe_op op_sub (pv 0) (pv 2)) (fun _ _ => rfl)) pa_nil)))))), ?_⟩
  obtain ⟨F0, ⟨x_points, x_ties, x_many, _⟩, y, s0, ⟨v_points, _, rfl, h_points, v_ties, _, rfl, h_ties, v_many, _, rfl, h_many, rfl⟩, hm, hQ, hE⟩ := h
  have L0 : Lat F0 H F0 H := .refl s0
  refine at_st (σ := [some v_points, some v_ties, some v_many, none]) rfl ?_
  replace hm : unbroken x_points x_ties x_many = some y := hm
  unfold unbroken at hm
  refine rd_asgX L0.fh (ex_callN (EVA.x (eva_cons (ev_varF rfl h_points) (eva_cons (ev_var rfl h_ties) eva_nil)))) hm (fun e F1 H1 ee l => hE e ee F1 H1 (L0.trans l)) ?_
  intro x1 v2 F3 H4 hm l5 h_numbers_6
  have L7 := L0.trans l5
  refine rd_guard L7.fh (evt_of (ev_op (ev_varF rfl h_many) (ev_varF rfl h_points) rv_cmp)) hm ?_ ?_
  · intro F8 H9 _ hm l10
    have L11 := L7.trans l10
    exact rd_ret L11.fh ev_int hm fun x v F1 H1 hm l rv => hQ x (Option.some.inj hm).symm v F1 H1 (L11.trans l) rv
  · intro F12 H13 _ hm l14
    have L15 := L7.trans l14
    replace h_numbers_6 := up h_numbers_6 l14
    exact rd_ret L15.fh (ev_abs (ev_op (ev_var rfl h_numbers_6) (ev_op (ev_varF rfl h_points) (ev_varF rfl h_many) rv_sub) rv_ixL)) hm fun x v F1 H1 hm l rv => hQ x (Option.some.inj hm).symm v F1 H1 (L15.trans l) rv
abbrev s_shown : Stmt := topS 45
theorem sc_shown : FnScope ["points", "ties", "low", "high"] ["points", "ties"] (defScope s_shown) := ⟨rfl, rfl, rfl, by decide +kernel, rfl, by decide +kernel, by decide +kernel⟩
theorem ok_shown {f : Addr} {fd : FuncData} (F : Fun K "shown" "shown" s_shown f fd) (gF : mg "shown" = some (.ref f)) (T : Txt K mg ad CW) (C_asked_web : Fn P w K mg base (L2.CX P w) 2 "asked_web" ["points", "ties"] (spX (clO ad) (β := Unit) fun (x : Int × (List (Int × Int)) × Unit) => asked_web x.1 x.2.1)) : Fn P w K mg base (L2.CX P w) 3 "shown" ["points", "ties"] (spX (clO ad) (β := Int) fun (x : Int × (List (Int × Int)) × Unit) => shown x.1 x.2.1) := by
  refine ⟨f, _, gF, F.kp, F.binds (ps := ["points", "ties"]) (fun _ _ _ _ _ _ us hl => match us, hl with | [_, _], _ => rfl), F.okX sc_shown (spX_len rfl) (fun cdv A outer s H vs Q E hr h => ?_)⟩
  refine ⟨_, (pss_cons (ps_expr (pe_fnX (takes_of rfl rfl rfl rfl) C_asked_web (hr.mono (by decide)) rfl (pa_cons (pv 0) (pa_cons (pv 1) pa_nil))))
    (pss_one (ps_ret pe_blind))), ?_⟩
  obtain ⟨F0, ⟨x_points, x_ties, _⟩, y, s0, ⟨v_points, _, rfl, h_points, v_ties, _, rfl, h_ties, rfl⟩, hm, hQ, hE⟩ := h
  have L0 : Lat F0 H F0 H := .refl s0
  refine at_st (σ := [some v_points, some v_ties, none, none]) rfl ?_
  replace hm : shown x_points x_ties = some y := hm
  unfold shown at hm
  refine rd_dropX L0.fh (ex_call (EVA.x (eva_cons (ev_varF rfl h_points) (eva_cons (ev_var rfl h_ties) eva_nil)))) hm (fun e F1 H1 ee l => hE e ee F1 H1 (L0.trans l)) ?_
  intro x1 F2 H3 hm l4
  have L5 := L0.trans l4
  replace h_ties := up h_ties l4
  cases hm
abbrev s_cell_at : Stmt := topS 47
theorem sc_cell_at : FnScope ["script", "k"] ["script", "k"] (defScope s_cell_at) := ⟨rfl, rfl, rfl, by decide +kernel, rfl, by decide +kernel, by decide +kernel⟩
theorem ok_cell_at {f : Addr} {fd : FuncData} (F : Fun K "_law_cell_at" "_law_cell_at" s_cell_at f fd) (gF : mg "_law_cell_at" = some (.ref f)) (T : Txt K mg ad CW) : Fn P w K mg base CX0 1 "_law_cell_at" ["script", "k"] (spO (β := Int) fun (x : (Scr K) × Int × Unit) => cell_at x.1.l x.2.1) := by
  refine ⟨f, _, gF, F.kp, F.binds (ps := ["script", "k"]) (fun _ _ _ _ _ _ us hl => match us, hl with | [_, _], _ => rfl), F.ok sc_cell_at (spO_len rfl) (fun cdv A outer s H vs Q E hr h => ?_)⟩
  refine ⟨_, (pss_cons (ps_if (pt_cmpR op_lt (pv 1) (pe_callB call_len_seq (by rfl) T.b_len PySem.boot_len (pa_cons (pv 0) pa_nil)) (nomark _)) (pss_one (ps_ret (pe_ix ix_list (pv 0) (pv 1) (fun _ _ => rfl)))) pss_nil)
    (pss_one (ps_ret pe_int))), ?_⟩
  obtain ⟨F0, ⟨x_script, x_k, _⟩, y, s0, ⟨v_script, _, rfl, h_script, v_k, _, rfl, h_k, rfl⟩, hm, hQ⟩ := h
  have L0 : Lat F0 H F0 H := .refl s0
  refine at_st (σ := [some v_script, some v_k]) rfl ?_
  replace hm : cell_at x_script.l x_k = some y := hm
  unfold cell_at at hm
  refine rd_guard L0.fh (evt_of (ev_op (ev_varF rfl h_k) (ev_lenS (ev_var rfl h_script)) rv_cmp)) hm ?_ ?_
  · intro F1 H2 _ hm l3
    have L4 := L0.trans l3
    replace h_script := up h_script l3
    exact rd_ret0 L4.fh (ev_op (ev_var rfl h_script) (ev_varF rfl h_k) rv_ixS) hm fun v F1 H1 l rv => hQ v F1 H1 (L4.trans l) rv
  · intro F5 H6 _ hm l7
    have L8 := L0.trans l7
    exact rd_ret0 L8.fh ev_int hm fun v F1 H1 l rv => hQ v F1 H1 (L8.trans l) rv
abbrev s_next : Stmt := topS 48
theorem sc_next : FnScope ["seed"] ["seed"] (defScope s_next) := ⟨rfl, rfl, rfl, by decide +kernel, rfl, by decide +kernel, by decide +kernel⟩
theorem ok_next {f : Addr} {fd : FuncData} (F : Fun K "_law_next" "_law_next" s_next f fd) (gF : mg "_law_next" = some (.ref f)) (T : Txt K mg ad CW) : Fn P w K mg base CX0 1 "_law_next" ["seed"] (spO (β := Int) fun (x : Int × Unit) => next x.1) := by
  refine ⟨f, _, gF, F.kp, F.binds (ps := ["seed"]) (fun _ _ _ _ _ _ us hl => match us, hl with | [_], _ => rfl), F.ok sc_next (spO_len rfl) (fun cdv A outer s H vs Q E hr h => ?_)⟩
  refine ⟨_, (pss_one (ps_ret (pe_op op_mod (pe_op op_add (pe_op op_mul (pv 0) pe_int) pe_int) pe_int))), ?_⟩
  obtain ⟨F0, ⟨x_seed, _⟩, y, s0, ⟨v_seed, _, rfl, h_seed, rfl⟩, hm, hQ⟩ := h
  have L0 : Lat F0 H F0 H := .refl s0
  refine at_st (σ := [some v_seed]) rfl ?_
  replace hm : next x_seed = some y := hm
  unfold next at hm
  exact rd_ret0 L0.fh (ev_op (ev_op (ev_op (ev_varF rfl h_seed) ev_int rv_mul) ev_int rv_add) ev_int rv_mod) hm fun v F1 H1 l rv => hQ v F1 H1 (L0.trans l) rv
abbrev s_web_by : Stmt := topS 49
theorem sc_web_by : FnScope ["script", "k", "most", "cap", "points", "seed", "thick", "ties", "low", "high"] ["script", "k", "most", "cap"] (defScope s_web_by) := ⟨rfl, rfl, rfl, by decide +kernel, rfl, by decide +kernel, by decide +kernel⟩
theorem ok_web_by {f : Addr} {fd : FuncData} (F : Fun K "_law_web_by" "_law_web_by" s_web_by f fd) (gF : mg "_law_web_by" = some (.ref f)) (T : Txt K mg ad CW) (C_cell_at : Fn P w K mg base CX0 1 "_law_cell_at" ["script", "k"] (spO (β := Int) fun (x : (Scr K) × Int × Unit) => cell_at x.1.l x.2.1)) (C_next : Fn P w K mg base CX0 1 "_law_next" ["seed"] (spO (β := Int) fun (x : Int × Unit) => next x.1)) : Fn P w K mg base CX0 2 "_law_web_by" ["script", "k", "most", "cap"] (spO (β := (Int × (List (Int × Int)))) fun (x : (Scr K) × Int × Int × Int × Unit) => web_by x.1.l x.2.1 x.2.2.1 x.2.2.2.1) := by
  refine ⟨f, _, gF, F.kp, F.binds (ps := ["script", "k", "most", "cap"]) (fun _ _ _ _ _ _ us hl => match us, hl with | [_, _, _, _], _ => rfl), F.ok sc_web_by (spO_len rfl) (fun cdv A outer s H vs Q E hr h => ?_)⟩
  refine ⟨_, (pss_cons (ps_set (i := 4) sc_web_by.nd rfl (by first | exact Or.inl rfl | exact Or.inr rfl) (pe_op op_mod (pe_fn C_cell_at (hr.mono (by decide)) rfl (pa_cons (pv 0) (pa_cons (pv 1) pa_nil))) (pe_op op_add (pv 2) pe_int)))
    (pss_cons (ps_set (i := 5) sc_web_by.nd rfl (by first | exact Or.inl rfl | exact Or.inr rfl) (pe_fn C_next (hr.mono (by decide)) rfl (pa_cons (pe_fn C_cell_at (hr.mono (by decide)) rfl (pa_cons (pv 0) (pa_cons (pe_op op_add (pv 1) pe_int) pa_nil))) pa_nil)))
    (pss_cons (ps_set (i := 6) sc_web_by.nd rfl (by first | exact Or.inl rfl | exact Or.inr rfl) (pe_op op_add pe_int (pe_op op_mod (pe_fn C_cell_at (hr.mono (by decide)) rfl (pa_cons (pv 0) (pa_cons (pe_op op_add (pv 1) pe_int) pa_nil))) pe_int)))
    (pss_cons (ps_set (i := 7) sc_web_by.nd rfl (by first | exact Or.inl rfl | exact Or.inr rfl) (pe_lst pa_nil))
    (pss_cons (ps_for PassesOwn.never rfl (pi_range1 (by rfl) T.b_range (pa_cons (pv 4) pa_nil)) (pg_name (i := 8) sc_web_by.nd rfl (by first | exact Or.inl rfl | exact Or.inr rfl)) (pss_one (ps_for PassesOwn.never rfl (pi_range2 (by rfl) T.b_range (pa_cons (pe_op op_add (pv 8) pe_int) (pa_cons (pv 4) pa_nil))) (pg_name (i := 9) sc_web_by.nd rfl (by first | exact Or.inl rfl | exact Or.inr rfl)) (pss_cons (ps_if (PW.pt (pw_and (pt_cmpR op_lt (pe_op op_mod (pe_op op_fdiv (pv 5) pe_int) pe_int) (pv 6) (nomark _)) (pw_and1 (pt_cmpR op_lt (pe_callB call_len_seq (by rfl) T.b_len PySem.boot_len (pa_cons (pv 7) pa_nil)) (pv 3) (nomark _))))) (pss_one (ps_expr (pe_bm PySem.F.plainAttrs_list PySem.F.slot_list_append PySem.F.type_list_append mt_append (pv 7) (pa_cons (pe_tup (pa_cons (pv 8) (pa_cons (pv 9) pa_nil))) pa_nil)))) pss_nil)
    (pss_one (ps_set (i := 5) sc_web_by.nd rfl (by first | exact Or.inl rfl | exact Or.inr rfl) (pe_fn C_next (hr.mono (by decide)) rfl (pa_cons (pv 5) pa_nil))))))))
    (pss_one (ps_ret (pe_tup (pa_cons (pv 4) (pa_cons (pv 7) pa_nil)))))))))), ?_⟩
  obtain ⟨F0, ⟨x_script, x_k, x_most, x_cap, _⟩, y, s0, ⟨v_script, _, rfl, h_script, v_k, _, rfl, h_k, v_most, _, rfl, h_most, v_cap, _, rfl, h_cap, rfl⟩, hm, hQ⟩ := h
  have L0 : Lat F0 H F0 H := .refl s0
  refine at_st (σ := [some v_script, some v_k, some v_most, some v_cap, none, none, none, none, none, none]) rfl ?_
  replace hm : web_by x_script.l x_k x_most x_cap = some y := hm
  unfold web_by at hm
  refine rd_asg L0.fh (ev_op (ev_call (eva_cons (ev_var rfl h_script) (eva_cons (ev_varF rfl h_k) eva_nil))) (ev_op (ev_varF rfl h_most) ev_int rv_add) rv_mod) hm ?_
  intro x1 v2 F3 H4 hm l5 h_points_6
  have L7 := L0.trans l5
  replace h_script := up h_script l5
  refine rd_asg L7.fh (ev_call (eva_cons (ev_call (eva_cons (ev_var rfl h_script) (eva_cons (ev_op (ev_varF rfl h_k) ev_int rv_add) eva_nil))) eva_nil)) hm ?_
  intro x8 v9 F10 H11 hm l12 h_seed_13
  have L14 := L7.trans l12
  replace h_script := up h_script l12
  refine rd_asg L14.fh (ev_op ev_int (ev_op (ev_call (eva_cons (ev_var rfl h_script) (eva_cons (ev_op (ev_varF rfl h_k) ev_int rv_add) eva_nil))) ev_int rv_mod) rv_add) hm ?_
  intro x15 v16 F17 H18 hm l19 h_thick_20
  have L21 := L14.trans l19
  refine rd_asgN L21.fh (evn_nil (α := Int × Int)) hm ?_
  intro x22 p23 w24 F25 H26 hm l27 hn32 fp29 hp28 rl30
  have hz31 := L21.h.free hn32
  have L33 := L21.trans l27
  refine rd_for L33.fh (ei_range1 (ev_varF rfl h_points_6)) hm ?_
  intro xs34 J35 F36 H37 hm l38 wk39
  have L40 := L33.trans l38
  replace fp29 := l38.nwl hp28 fp29
  replace hp28 := l38.h _ _ hp28
  replace rl30 := rpL.mono l38.f rl30
  refine rd_loopG wk39 hm (fun (s : Int × (List (Int × Int))) σ_ F_ H_ => ∃ (v5_ : V) (o8_ : Option V) (o9_ : Option V) (w7_ : List V), σ_ = [some v_script, some v_k, some v_most, some v_cap, some v2, some v5_, some v16, some (.ref p23), o8_, o9_] ∧ Same F36 F_ ∧ Lat F0 H F_ H_ ∧ Rep.rp s.1 v5_ F_ ∧ (H_ p23 = some (.lst w7_) ∧ F_ p23 = none ∧ rpL s.2 w7_ F_) ∧ True) ⟨_, _, _, _, rfl, (.refl _), L40, (Flat.any h_seed_13), ⟨hp28, fp29, rl30⟩, trivial⟩ ?_ ?_ ?_
  · rintro s σ_ F_ H_ ⟨e41, e42, e43, e44, rfl, sf45, L46, h_seed_47, ⟨hp48, fp49, rl50⟩, -⟩
    exact ⟨sf45, L46.fh⟩
  · rintro q51 s52 σ_ F58 H59 v53 F60 H61 ⟨e62, e63, e64, e65, rfl, sf66, L67, h_seed_68, ⟨hp69, fp70, rl71⟩, -⟩ l54 rv55 s72 hm D57 hN56
    have L73 := L67.trans l54
    have sb74 := Same.trans sf66 l54.f
    replace fp70 := l54.nwl hp69 fp70
    replace hp69 := l54.h _ _ hp69
    replace rl71 := rpL.mono l54.f rl71
    refine gt_name ?_
    refine rd_forL L73.fh (ei_range2 (ev_op (ev_varF rfl rv55) ev_int rv_add) (ev_varF rfl h_points_6)) hm ?_
    intro xs75 J76 F77 H78 hm l79 wk80
    have L81 := L73.trans l79
    have sb82 := Same.trans sb74 l79.f
    replace fp70 := l79.nwl hp69 fp70
    replace hp69 := l79.h _ _ hp69
    replace rl71 := rpL.mono l79.f rl71
    refine rd_loopG wk80 hm (fun (s : Int × (List (Int × Int))) σ_ F_ H_ => ∃ (v5_ : V) (o9_ : Option V) (w7_ : List V), σ_ = [some v_script, some v_k, some v_most, some v_cap, some v2, some v5_, some v16, some (.ref p23), some v53, o9_] ∧ Same F77 F_ ∧ Lat F0 H F_ H_ ∧ Rep.rp s.1 v5_ F_ ∧ (H_ p23 = some (.lst w7_) ∧ F_ p23 = none ∧ rpL s.2 w7_ F_) ∧ True) ⟨_, _, _, rfl, (.refl _), L81, (Flat.any h_seed_68), ⟨hp69, fp70, rl71⟩, trivial⟩ ?_ ?_ ?_
    · rintro s σ_ F_ H_ ⟨e83, e84, e85, rfl, sf86, L87, h_seed_88, ⟨hp89, fp90, rl91⟩, -⟩
      exact ⟨sf86, L87.fh⟩
    · rintro q92 s93 σ_ F99 H100 v94 F101 H102 ⟨e103, e104, e105, rfl, sf106, L107, h_seed_108, ⟨hp109, fp110, rl111⟩, -⟩ l95 rv96 s112 hm D98 hN97
      have sb113 := Same.trans sb82 sf106
      have L114 := L107.trans l95
      have sb115 := Same.trans sb113 l95.f
      have sb116 := Same.trans sf106 l95.f
      replace fp110 := l95.nwl hp109 fp110
      replace hp109 := l95.h _ _ hp109
      replace rl111 := rpL.mono l95.f rl111
      refine gt_name ?_
      refine rd_join (fun (s : (List (Int × Int))) σ_ F_ H_ => ∃ (w7_ : List V), σ_ = [some v_script, some v_k, some v_most, some v_cap, some v2, some e103, some v16, some (.ref p23), some v53, some v94] ∧ Same F101 F_ ∧ Lat F0 H F_ H_ ∧ (H_ p23 = some (.lst w7_) ∧ F_ p23 = none ∧ rpL s w7_ F_) ∧ True) hm ?_ ?_
      · intro s117 hm D118 hN119 
        refine rd_if L114.fh (EVT.flat (evt_and (evt_of (ev_op (ev_op (ev_op (ev_varF rfl h_seed_108) ev_int rv_div) ev_int rv_mod) (ev_varF rfl h_thick_20) rv_cmp)) (evt_of (ev_op (ev_len (ev_var rfl (own_rp L114.fh hp109 rl111))) (ev_varF rfl h_cap) rv_cmp))) L114.fh) hm ?_ ?_
        · intro F120 H121 _ hm l122
          have L123 := L114.trans l122
          have sb124 := Same.trans sb115 l122.f
          have sb125 := Same.trans sb116 l122.f
          replace fp110 := l122.nwl hp109 fp110
          replace hp109 := l122.h _ _ hp109
          replace rl111 := rpL.mono l122.f rl111
          refine rd_appendL L123.fh rfl hp109 fp110 rl111 (ev_tup (ev_varF rfl rv55) (ev_varF rfl rv96)) hm ?_
          intro x126 w127 F128 H129 hm m130 fp131 hp132 rl133
          have L134 := m130.l0 _ _ L123 hz31
          have sb135 := Same.trans sb124 m130.f
          have sb136 := Same.trans sb125 m130.f
          have sb137 := Same.trans l122.f m130.f
          obtain rfl := Option.some.inj hm
          exact hN119 _ _ _ ⟨_, rfl, sb137, L134, ⟨hp132, fp131, rl133⟩, trivial⟩
        · intro F138 H139 _ hm l140
          have L141 := L114.trans l140
          have sb142 := Same.trans sb115 l140.f
          have sb143 := Same.trans sb116 l140.f
          replace fp110 := l140.nwl hp109 fp110
          replace hp109 := l140.h _ _ hp109
          replace rl111 := rpL.mono l140.f rl111
          obtain rfl := Option.some.inj hm
          exact hN119 _ _ _ ⟨_, rfl, l140.f, L141, ⟨hp109, fp110, rl111⟩, trivial⟩
      · rintro s144 σ_ F145 H146 hm ⟨e147, rfl, sf148, L149, ⟨hp150, fp151, rl152⟩, -⟩
        have sb153 := Same.trans sb115 sf148
        have sb154 := Same.trans sb116 sf148
        refine rd_asgL L149.fh (ev_call (eva_cons (ev_varF rfl h_seed_108) eva_nil)) hm ?_
        intro x155 v156 F157 H158 hm l159 h_seed_160
        have L161 := L149.trans l159
        have sb162 := Same.trans sb153 l159.f
        have sb163 := Same.trans sb154 l159.f
        replace fp151 := l159.nwl hp150 fp151
        replace hp150 := l159.h _ _ hp150
        replace rl152 := rpL.mono l159.f rl152
        obtain rfl := Option.some.inj hm
        exact hN97 _ _ _ ⟨_, _, _, rfl, sb163, L161, (Flat.any h_seed_160), ⟨hp150, fp151, rl152⟩, trivial⟩
    · rintro s164 σ_ F165 H166 hm ⟨e167, e168, e169, rfl, sf170, L171, h_seed_172, ⟨hp173, fp174, rl175⟩, -⟩
      have sb176 := Same.trans sb82 sf170
      obtain rfl := Option.some.inj hm
      exact hN56 _ _ _ ⟨_, _, _, _, rfl, sb176, L171, (Flat.any h_seed_172), ⟨hp173, fp174, rl175⟩, trivial⟩
  · rintro s177 σ_ F178 H179 hm ⟨e180, e181, e182, e183, rfl, sf184, L185, h_seed_186, ⟨hp187, fp188, rl189⟩, -⟩
    refine nx_with ?_
    obtain ⟨F190, L191, sf192, h_ties_193, fq194⟩ := freeze L185 hz31 fp188 hp187 rl189
    exact rd_ret0 L191.fh (ev_tup (ev_varF rfl h_points_6) (ev_var rfl h_ties_193)) hm fun v F1 H1 l rv => hQ v F1 H1 (L191.trans l) rv
abbrev s_spoilt : Stmt := topS 51
theorem sc_spoilt : FnScope ["ties", "way", "cell", "at", "bad"] ["ties", "way", "cell"] (defScope s_spoilt) := ⟨rfl, rfl, rfl, by decide +kernel, rfl, by decide +kernel, by decide +kernel⟩
theorem ok_spoilt {f : Addr} {fd : FuncData} (F : Fun K "_law_spoilt" "_law_spoilt" s_spoilt f fd) (gF : mg "_law_spoilt" = some (.ref f)) (T : Txt K mg ad CW) : Fn P w K mg base CX0 1 "_law_spoilt" ["ties", "way", "cell"] (spO (β := (List (Int × Int))) fun (x : (List (Int × Int)) × Int × Int × Unit) => spoilt x.1 x.2.1 x.2.2.1) := by
  refine ⟨f, _, gF, F.kp, F.binds (ps := ["ties", "way", "cell"]) (fun _ _ _ _ _ _ us hl => match us, hl with | [_, _, _], _ => rfl), F.ok sc_spoilt (spO_len rfl) (fun cdv A outer s H vs Q E hr h => ?_)⟩
  refine ⟨_, (pss_cons (ps_set (i := 3) sc_spoilt.nd rfl (by first | exact Or.inl rfl | exact Or.inr rfl) (pe_op op_mod (pv 2) (pe_callB call_len_seq (by rfl) T.b_len PySem.boot_len (pa_cons (pv 0) pa_nil))))
    (pss_cons (ps_set (i := 4) sc_spoilt.nd rfl (by first | exact Or.inl rfl | exact Or.inr rfl) (pe_ix ix_list (pe_lst (pa_cons (pe_tup (pa_cons (pe_un un_neg pe_int) (pa_cons (pe_ix ix_tup (pe_ix ix_list (pv 0) (pv 3) (fun _ _ => rfl)) pe_int (fun _ _ => rfl)) pa_nil))) (pa_cons (pe_tup (pa_cons (pe_ix ix_tup (pe_ix ix_list (pv 0) (pv 3) (fun _ _ => rfl)) pe_int (fun _ _ => rfl)) (pa_cons (pe_op op_add pe_int (pe_op op_mod (pe_op op_fdiv (pv 2) pe_int) pe_int)) pa_nil))) (pa_cons (pe_tup (pa_cons (pe_ix ix_tup (pe_ix ix_list (pv 0) (pv 3) (fun _ _ => rfl)) pe_int (fun _ _ => rfl)) (pa_cons (pe_ix ix_tup (pe_ix ix_list (pv 0) (pv 3) (fun _ _ => rfl)) pe_int (fun _ _ => rfl)) pa_nil))) pa_nil)))) (pe_op op_mod (pe_op op_fdiv (pv 2) pe_int) pe_int) (fun _ _ => rfl)))
    (pss_cons (ps_if (pt_cmpR op_eq (pv 1) pe_int (nomark _)) (pss_one (ps_ret (pe_op op_cat (pe_op op_cat (pe_slice sl_list (pv 0) po_none (po_some (pv 3))) (pe_lst (pa_cons (pe_ix ix_list (pv 0) (pv 3) (fun _ _ => rfl)) pa_nil))) (pe_slice sl_list (pv 0) (po_some (pv 3)) po_none)))) pss_nil)
    (pss_cons (ps_if (pt_cmpR op_eq (pv 1) pe_int (nomark _)) (pss_one (ps_ret (pe_op op_cat (pe_op op_cat (pe_slice sl_list (pv 0) po_none (po_some (pv 3))) (pe_lst (pa_cons (pe_tup (pa_cons (pe_ix ix_tup (pe_ix ix_list (pv 0) (pv 3) (fun _ _ => rfl)) pe_int (fun _ _ => rfl)) (pa_cons (pe_ix ix_tup (pe_ix ix_list (pv 0) (pv 3) (fun _ _ => rfl)) pe_int (fun _ _ => rfl)) pa_nil))) pa_nil))) (pe_slice sl_list (pv 0) (po_some (pe_op op_add (pv 3) pe_int)) po_none)))) pss_nil)
    (pss_cons (ps_if (pt_cmpR op_eq (pv 1) pe_int (nomark _)) (pss_one (ps_ret (pe_op op_cat (pe_op op_cat (pe_slice sl_list (pv 0) po_none (po_some (pv 3))) (pe_lst (pa_cons (pv 4) pa_nil))) (pe_slice sl_list (pv 0) (po_some (pe_op op_add (pv 3) pe_int)) po_none)))) pss_nil)
    (pss_cons (ps_if (pt_cmpR op_eq (pv 1) pe_int (nomark _)) (pss_one (ps_ret (pe_op op_cat (pv 0) (pv 0)))) pss_nil)
    (pss_one (ps_ret (pe_op op_cat (pe_revL (pv 0)) (pe_slice sl_list (pv 0) po_none (po_some pe_int))))))))))), ?_⟩
  obtain ⟨F0, ⟨x_ties, x_way, x_cell, _⟩, y, s0, ⟨v_ties, _, rfl, h_ties, v_way, _, rfl, h_way, v_cell, _, rfl, h_cell, rfl⟩, hm, hQ⟩ := h
  have L0 : Lat F0 H F0 H := .refl s0
  refine at_st (σ := [some v_ties, some v_way, some v_cell, none, none]) rfl ?_
  replace hm : spoilt x_ties x_way x_cell = some y := hm
  unfold spoilt at hm
  refine rd_asg L0.fh (ev_op (ev_varF rfl h_cell) (ev_len (ev_var rfl h_ties)) rv_mod) hm ?_
  intro x1 v2 F3 H4 hm l5 h_at_6
  have L7 := L0.trans l5
  replace h_ties := up h_ties l5
  refine rd_asg L7.fh (ev_op (EVN.ev (evn_lst (evl_cons (ev_tup (ev_neg ev_int) (ev_snd (ev_op (ev_var rfl h_ties) (ev_varF rfl h_at_6) rv_ixL))) (evl_cons (ev_tup (ev_fst (ev_op (ev_var rfl h_ties) (ev_varF rfl h_at_6) rv_ixL)) (ev_op ev_int (ev_op (ev_op (ev_varF rfl h_cell) ev_int rv_div) ev_int rv_mod) rv_add)) (evl_cons (ev_tup (ev_fst (ev_op (ev_var rfl h_ties) (ev_varF rfl h_at_6) rv_ixL)) (ev_fst (ev_op (ev_var rfl h_ties) (ev_varF rfl h_at_6) rv_ixL))) evl_nil))))) (ev_op (ev_op (ev_varF rfl h_cell) ev_int rv_div) ev_int rv_mod) rv_ixL) hm ?_
  intro x8 v9 F10 H11 hm l12 h_bad_13
  have L14 := L7.trans l12
  replace h_ties := up h_ties l12
  refine rd_guard L14.fh (evt_of (ev_op (ev_varF rfl h_way) ev_int rv_eqI)) hm ?_ ?_
  · intro F15 H16 _ hm l17
    have L18 := L14.trans l17
    replace h_ties := up h_ties l17
    exact rd_ret0 L18.fh (EVN.ev (evn_op (EVN.ev (evn_op (EVN.ev (evn_cut (ev_var rfl h_ties) po_no (po_at (ev_varF rfl h_at_6)))) (EVN.ev (evn_lst (evl_cons (ev_op (ev_var rfl h_ties) (ev_varF rfl h_at_6) rv_ixL) evl_nil))) rvn_cat)) (EVN.ev (evn_cut (ev_var rfl h_ties) (po_at (ev_varF rfl h_at_6)) po_no)) rvn_cat)) hm fun v F1 H1 l rv => hQ v F1 H1 (L18.trans l) rv
  · intro F19 H20 _ hm l21
    have L22 := L14.trans l21
    replace h_ties := up h_ties l21
    replace h_bad_13 := up h_bad_13 l21
    refine rd_guard L22.fh (evt_of (ev_op (ev_varF rfl h_way) ev_int rv_eqI)) hm ?_ ?_
    · intro F23 H24 _ hm l25
      have L26 := L22.trans l25
      replace h_ties := up h_ties l25
      exact rd_ret0 L26.fh (EVN.ev (evn_op (EVN.ev (evn_op (EVN.ev (evn_cut (ev_var rfl h_ties) po_no (po_at (ev_varF rfl h_at_6)))) (EVN.ev (evn_lst (evl_cons (ev_tup (ev_snd (ev_op (ev_var rfl h_ties) (ev_varF rfl h_at_6) rv_ixL)) (ev_fst (ev_op (ev_var rfl h_ties) (ev_varF rfl h_at_6) rv_ixL))) evl_nil))) rvn_cat)) (EVN.ev (evn_cut (ev_var rfl h_ties) (po_at (ev_op (ev_varF rfl h_at_6) ev_int rv_add)) po_no)) rvn_cat)) hm fun v F1 H1 l rv => hQ v F1 H1 (L26.trans l) rv
    · intro F27 H28 _ hm l29
      have L30 := L22.trans l29
      replace h_ties := up h_ties l29
      replace h_bad_13 := up h_bad_13 l29
      refine rd_guard L30.fh (evt_of (ev_op (ev_varF rfl h_way) ev_int rv_eqI)) hm ?_ ?_
      · intro F31 H32 _ hm l33
        have L34 := L30.trans l33
        replace h_ties := up h_ties l33
        replace h_bad_13 := up h_bad_13 l33
        exact rd_ret0 L34.fh (EVN.ev (evn_op (EVN.ev (evn_op (EVN.ev (evn_cut (ev_var rfl h_ties) po_no (po_at (ev_varF rfl h_at_6)))) (EVN.ev (evn_lst (evl_cons (ev_var rfl h_bad_13) evl_nil))) rvn_cat)) (EVN.ev (evn_cut (ev_var rfl h_ties) (po_at (ev_op (ev_varF rfl h_at_6) ev_int rv_add)) po_no)) rvn_cat)) hm fun v F1 H1 l rv => hQ v F1 H1 (L34.trans l) rv
      · intro F35 H36 _ hm l37
        have L38 := L30.trans l37
        replace h_ties := up h_ties l37
        refine rd_guard L38.fh (evt_of (ev_op (ev_varF rfl h_way) ev_int rv_eqI)) hm ?_ ?_
        · intro F39 H40 _ hm l41
          have L42 := L38.trans l41
          replace h_ties := up h_ties l41
          exact rd_ret0 L42.fh (EVN.ev (evn_op (ev_var rfl h_ties) (ev_var rfl h_ties) rvn_cat)) hm fun v F1 H1 l rv => hQ v F1 H1 (L42.trans l) rv
        · intro F43 H44 _ hm l45
          have L46 := L38.trans l45
          replace h_ties := up h_ties l45
          exact rd_ret0 L46.fh (EVN.ev (evn_op (EVN.ev (evn_rev (ev_var rfl h_ties))) (EVN.ev (evn_cut (ev_var rfl h_ties) po_no (po_at ev_int))) rvn_cat)) hm fun v F1 H1 l rv => hQ v F1 H1 (L46.trans l) rv
abbrev s_first_eight : Stmt := topS 52
theorem sc_first_eight : FnScope ["which", "points", "ties"] ["which", "points", "ties"] (defScope s_first_eight) := ⟨rfl, rfl, rfl, by decide +kernel, rfl, by decide +kernel, by decide +kernel⟩
theorem ok_first_eight {f : Addr} {fd : FuncData} (F : Fun K "_law_first_eight" "_law_first_eight" s_first_eight f fd) (gF : mg "_law_first_eight" = some (.ref f)) (T : Txt K mg ad CW) (C_pieces : Fn P w K mg base (L2.CX P w) 3 "pieces" ["points", "ties"] (spXN (clO ad) (β := (List Int)) fun (x : Int × (List (Int × Int)) × Unit) => pieces x.1 x.2.1)) (C_beside : Fn P w K mg base (L2.CX P w) 3 "beside" ["points", "ties", "more", "others"] (spXN (clO ad) (β := (Int × Int)) fun (x : Int × (List (Int × Int)) × Int × (List (Int × Int)) × Unit) => beside x.1 x.2.1 x.2.2.1 x.2.2.2.1)) (C_row : Fn P w K mg base (L2.CX P w) 24 "row" ["points", "ties"] (spXN (clO ad) (β := Int) fun (x : Int × (List (Int × Int)) × Unit) => row x.1 x.2.1)) (C_is_dyeing : Fn P w K mg base (L2.CX P w) 3 "is_dyeing" ["points", "ties", "dyes", "many"] (spX (clO ad) (β := Bool) fun (x : Int × (List (Int × Int)) × (List Int) × Int × Unit) => is_dyeing x.1 x.2.1 x.2.2.1 x.2.2.2.1)) (C_fewest : Fn P w K mg base (L2.CX P w) 25 "fewest" ["points", "ties"] (spX (clO ad) (β := Int) fun (x : Int × (List (Int × Int)) × Unit) => fewest x.1 x.2.1)) (C_least : Fn P w K mg base (L2.CX P w) 12 "least" ["points", "ties", "many"] (spX (clO ad) (β := (Option (List Int))) fun (x : Int × (List (Int × Int)) × Int × Unit) => least x.1 x.2.1 x.2.2.1)) (C_shown : Fn P w K mg base (L2.CX P w) 3 "shown" ["points", "ties"] (spX (clO ad) (β := Int) fun (x : Int × (List (Int × Int)) × Unit) => shown x.1 x.2.1)) : Fn P w K mg base (L2.CX P w) 26 "_law_first_eight" ["which", "points", "ties"] (spX (clO ad) (β := Unit) fun (x : Int × Int × (List (Int × Int)) × Unit) => first_eight x.1 x.2.1 x.2.2.1) := by
  refine ⟨f, _, gF, F.kp, F.binds (ps := ["which", "points", "ties"]) (fun _ _ _ _ _ _ us hl => match us, hl with | [_, _, _], _ => rfl), F.okX sc_first_eight (spX_len rfl) (fun cdv A outer s H vs Q E hr h => ?_)⟩
  refine ⟨_, (pss_cons (ps_if (pt_cmpR op_eq (pv 0) pe_int (nomark _)) (pss_one (ps_expr (pe_fnX (takes_of rfl rfl rfl rfl) C_pieces (hr.mono (by decide)) rfl (pa_cons (pv 1) (pa_cons (pv 2) pa_nil))))) pss_nil)
    (pss_cons (ps_if (pt_cmpR op_eq (pv 0) pe_int (nomark _)) (pss_one (ps_expr (pe_fnX (takes_of rfl rfl rfl rfl) C_beside (hr.mono (by decide)) rfl (pa_cons (pv 1) (pa_cons (pv 2) (pa_cons pe_int (pa_cons (pe_lst pa_nil) pa_nil))))))) pss_nil)
    (pss_cons (ps_if (pt_cmpR op_eq (pv 0) pe_int (nomark _)) (pss_one (ps_expr (pe_fnX (takes_of rfl rfl rfl rfl) C_beside (hr.mono (by decide)) rfl (pa_cons pe_int (pa_cons (pe_lst pa_nil) (pa_cons (pv 1) (pa_cons (pv 2) pa_nil))))))) pss_nil)
    (pss_cons (ps_if (pt_cmpR op_eq (pv 0) pe_int (nomark _)) (pss_one (ps_expr (pe_fnX (takes_of rfl rfl rfl rfl) C_row (hr.mono (by decide)) rfl (pa_cons (pv 1) (pa_cons (pv 2) pa_nil))))) pss_nil)
    (pss_cons (ps_if (pt_cmpR op_eq (pv 0) pe_int (nomark _)) (pss_one (ps_expr (pe_fnX (takes_of rfl rfl rfl rfl) C_is_dyeing (hr.mono (by decide)) rfl (pa_cons (pv 1) (pa_cons (pv 2) (pa_cons (pe_lst (pa_cons pe_int pa_nil)) (pa_cons pe_int pa_nil))))))) pss_nil)
    (pss_cons (ps_if (pt_cmpR op_eq (pv 0) pe_int (nomark _)) (pss_one (ps_expr (pe_fnX (takes_of rfl rfl rfl rfl) C_fewest (hr.mono (by decide)) rfl (pa_cons (pv 1) (pa_cons (pv 2) pa_nil))))) pss_nil)
    (pss_cons (ps_if (pt_cmpR op_eq (pv 0) pe_int (nomark _)) (pss_one (ps_expr (pe_fnX (takes_of rfl rfl rfl rfl) C_least (hr.mono (by decide)) rfl (pa_cons (pv 1) (pa_cons (pv 2) (pa_cons pe_int pa_nil)))))) pss_nil)
    (pss_one (ps_if (pt_cmpR op_eq (pv 0) pe_int (nomark _)) (pss_one (ps_expr (pe_fnX (takes_of rfl rfl rfl rfl) C_shown (hr.mono (by decide)) rfl (pa_cons (pv 1) (pa_cons (pv 2) pa_nil))))) pss_nil))))))))), ?_⟩
  obtain ⟨F0, ⟨x_which, x_points, x_ties, _⟩, y, s0, ⟨v_which, _, rfl, h_which, v_points, _, rfl, h_points, v_ties, _, rfl, h_ties, rfl⟩, hm, hQ, hE⟩ := h
  have L0 : Lat F0 H F0 H := .refl s0
  refine at_st (σ := [some v_which, some v_points, some v_ties]) rfl ?_
  replace hm : first_eight x_which x_points x_ties = some y := hm
  unfold first_eight at hm
  refine rd_joinX (fun (s : Unit) σ_ F_ H_ => σ_ = [some v_which, some v_points, some v_ties] ∧ Same F0 F_ ∧ Lat F0 H F_ H_ ∧ True) hm ?_ ?_
  · intro s1 hm D2 hN3 hX4
    refine rd_if L0.fh (evt_of (ev_op (ev_varF rfl h_which) ev_int rv_eqI)) hm ?_ ?_
    · intro F5 H6 _ hm l7
      have L8 := L0.trans l7
      replace h_ties := up h_ties l7
      refine rd_dropXL L8.fh (ex_callN (EVA.x (eva_cons (ev_varF rfl h_points) (eva_cons (ev_var rfl h_ties) eva_nil)))) hm (fun e F1 H1 ee l => (fun e F1 H1 ee l => hE e ee F1 H1 (L8.trans l)) e F1 H1 (hX4 e ee) l) ?_
      intro x9 F10 H11 hm l12
      have L13 := L8.trans l12
      have sb14 := Same.trans l7.f l12.f
      replace h_ties := up h_ties l12
      exact hN3 _ (Option.some.inj hm).symm _ _ _ ⟨rfl, sb14, L13, trivial⟩
    · intro F15 H16 _ hm l17
      have L18 := L0.trans l17
      replace h_ties := up h_ties l17
      exact hN3 _ (Option.some.inj hm).symm _ _ _ ⟨rfl, l17.f, L18, trivial⟩
  · rintro s19 σ_ F20 H21 hm ⟨rfl, sf22, L23, -⟩
    replace h_ties := Rep.mono sf22 h_ties
    refine rd_joinX (fun (s : Unit) σ_ F_ H_ => σ_ = [some v_which, some v_points, some v_ties] ∧ Same F20 F_ ∧ Lat F0 H F_ H_ ∧ True) hm ?_ ?_
    · intro s24 hm D25 hN26 hX27
      refine rd_if L23.fh (evt_of (ev_op (ev_varF rfl h_which) ev_int rv_eqI)) hm ?_ ?_
      · intro F28 H29 _ hm l30
        have L31 := L23.trans l30
        replace h_ties := up h_ties l30
        refine rd_dropXL L31.fh (ex_callN (EVA.x (eva_cons (ev_varF rfl h_points) (eva_cons (ev_var rfl h_ties) (eva_cons ev_int (eva_cons (EVN.ev (evn_nil (α := Int × Int))) eva_nil)))))) hm (fun e F1 H1 ee l => (fun e F1 H1 ee l => hE e ee F1 H1 (L31.trans l)) e F1 H1 (hX27 e ee) l) ?_
        intro x32 F33 H34 hm l35
        have L36 := L31.trans l35
        have sb37 := Same.trans l30.f l35.f
        replace h_ties := up h_ties l35
        exact hN26 _ (Option.some.inj hm).symm _ _ _ ⟨rfl, sb37, L36, trivial⟩
      · intro F38 H39 _ hm l40
        have L41 := L23.trans l40
        replace h_ties := up h_ties l40
        exact hN26 _ (Option.some.inj hm).symm _ _ _ ⟨rfl, l40.f, L41, trivial⟩
    · rintro s42 σ_ F43 H44 hm ⟨rfl, sf45, L46, -⟩
      replace h_ties := Rep.mono sf45 h_ties
      refine rd_joinX (fun (s : Unit) σ_ F_ H_ => σ_ = [some v_which, some v_points, some v_ties] ∧ Same F43 F_ ∧ Lat F0 H F_ H_ ∧ True) hm ?_ ?_
      · intro s47 hm D48 hN49 hX50
        refine rd_if L46.fh (evt_of (ev_op (ev_varF rfl h_which) ev_int rv_eqI)) hm ?_ ?_
        · intro F51 H52 _ hm l53
          have L54 := L46.trans l53
          replace h_ties := up h_ties l53
          refine rd_dropXL L54.fh (ex_callN (EVA.x (eva_cons ev_int (eva_cons (EVN.ev (evn_nil (α := Int × Int))) (eva_cons (ev_varF rfl h_points) (eva_cons (ev_var rfl h_ties) eva_nil)))))) hm (fun e F1 H1 ee l => (fun e F1 H1 ee l => hE e ee F1 H1 (L54.trans l)) e F1 H1 (hX50 e ee) l) ?_
          intro x55 F56 H57 hm l58
          have L59 := L54.trans l58
          have sb60 := Same.trans l53.f l58.f
          replace h_ties := up h_ties l58
          exact hN49 _ (Option.some.inj hm).symm _ _ _ ⟨rfl, sb60, L59, trivial⟩
        · intro F61 H62 _ hm l63
          have L64 := L46.trans l63
          replace h_ties := up h_ties l63
          exact hN49 _ (Option.some.inj hm).symm _ _ _ ⟨rfl, l63.f, L64, trivial⟩
      · rintro s65 σ_ F66 H67 hm ⟨rfl, sf68, L69, -⟩
        replace h_ties := Rep.mono sf68 h_ties
        refine rd_joinX (fun (s : Unit) σ_ F_ H_ => σ_ = [some v_which, some v_points, some v_ties] ∧ Same F66 F_ ∧ Lat F0 H F_ H_ ∧ True) hm ?_ ?_
        · intro s70 hm D71 hN72 hX73
          refine rd_if L69.fh (evt_of (ev_op (ev_varF rfl h_which) ev_int rv_eqI)) hm ?_ ?_
          · intro F74 H75 _ hm l76
            have L77 := L69.trans l76
            replace h_ties := up h_ties l76
            refine rd_dropXL L77.fh (ex_callN (EVA.x (eva_cons (ev_varF rfl h_points) (eva_cons (ev_var rfl h_ties) eva_nil)))) hm (fun e F1 H1 ee l => (fun e F1 H1 ee l => hE e ee F1 H1 (L77.trans l)) e F1 H1 (hX73 e ee) l) ?_
            intro x78 F79 H80 hm l81
            have L82 := L77.trans l81
            have sb83 := Same.trans l76.f l81.f
            replace h_ties := up h_ties l81
            exact hN72 _ (Option.some.inj hm).symm _ _ _ ⟨rfl, sb83, L82, trivial⟩
          · intro F84 H85 _ hm l86
            have L87 := L69.trans l86
            replace h_ties := up h_ties l86
            exact hN72 _ (Option.some.inj hm).symm _ _ _ ⟨rfl, l86.f, L87, trivial⟩
        · rintro s88 σ_ F89 H90 hm ⟨rfl, sf91, L92, -⟩
          replace h_ties := Rep.mono sf91 h_ties
          refine rd_joinX (fun (s : Unit) σ_ F_ H_ => σ_ = [some v_which, some v_points, some v_ties] ∧ Same F89 F_ ∧ Lat F0 H F_ H_ ∧ True) hm ?_ ?_
          · intro s93 hm D94 hN95 hX96
            refine rd_if L92.fh (evt_of (ev_op (ev_varF rfl h_which) ev_int rv_eqI)) hm ?_ ?_
            · intro F97 H98 _ hm l99
              have L100 := L92.trans l99
              replace h_ties := up h_ties l99
              refine rd_dropXL L100.fh (ex_call (EVA.x (eva_cons (ev_varF rfl h_points) (eva_cons (ev_var rfl h_ties) (eva_cons (EVN.ev (evn_lst (evl_cons ev_int evl_nil))) (eva_cons ev_int eva_nil)))))) hm (fun e F1 H1 ee l => (fun e F1 H1 ee l => hE e ee F1 H1 (L100.trans l)) e F1 H1 (hX96 e ee) l) ?_
              intro x101 F102 H103 hm l104
              have L105 := L100.trans l104
              have sb106 := Same.trans l99.f l104.f
              replace h_ties := up h_ties l104
              exact hN95 _ (Option.some.inj hm).symm _ _ _ ⟨rfl, sb106, L105, trivial⟩
            · intro F107 H108 _ hm l109
              have L110 := L92.trans l109
              replace h_ties := up h_ties l109
              exact hN95 _ (Option.some.inj hm).symm _ _ _ ⟨rfl, l109.f, L110, trivial⟩
          · rintro s111 σ_ F112 H113 hm ⟨rfl, sf114, L115, -⟩
            replace h_ties := Rep.mono sf114 h_ties
            refine rd_joinX (fun (s : Unit) σ_ F_ H_ => σ_ = [some v_which, some v_points, some v_ties] ∧ Same F112 F_ ∧ Lat F0 H F_ H_ ∧ True) hm ?_ ?_
            · intro s116 hm D117 hN118 hX119
              refine rd_if L115.fh (evt_of (ev_op (ev_varF rfl h_which) ev_int rv_eqI)) hm ?_ ?_
              · intro F120 H121 _ hm l122
                have L123 := L115.trans l122
                replace h_ties := up h_ties l122
                refine rd_dropXL L123.fh (ex_call (EVA.x (eva_cons (ev_varF rfl h_points) (eva_cons (ev_var rfl h_ties) eva_nil)))) hm (fun e F1 H1 ee l => (fun e F1 H1 ee l => hE e ee F1 H1 (L123.trans l)) e F1 H1 (hX119 e ee) l) ?_
                intro x124 F125 H126 hm l127
                have L128 := L123.trans l127
                have sb129 := Same.trans l122.f l127.f
                replace h_ties := up h_ties l127
                exact hN118 _ (Option.some.inj hm).symm _ _ _ ⟨rfl, sb129, L128, trivial⟩
              · intro F130 H131 _ hm l132
                have L133 := L115.trans l132
                replace h_ties := up h_ties l132
                exact hN118 _ (Option.some.inj hm).symm _ _ _ ⟨rfl, l132.f, L133, trivial⟩
            · rintro s134 σ_ F135 H136 hm ⟨rfl, sf137, L138, -⟩
              replace h_ties := Rep.mono sf137 h_ties
              refine rd_joinX (fun (s : Unit) σ_ F_ H_ => σ_ = [some v_which, some v_points, some v_ties] ∧ Same F135 F_ ∧ Lat F0 H F_ H_ ∧ True) hm ?_ ?_
              · intro s139 hm D140 hN141 hX142
                refine rd_if L138.fh (evt_of (ev_op (ev_varF rfl h_which) ev_int rv_eqI)) hm ?_ ?_
                · intro F143 H144 _ hm l145
                  have L146 := L138.trans l145
                  replace h_ties := up h_ties l145
                  refine rd_dropXL L146.fh (ex_call (EVA.x (eva_cons (ev_varF rfl h_points) (eva_cons (ev_var rfl h_ties) (eva_cons ev_int eva_nil))))) hm (fun e F1 H1 ee l => (fun e F1 H1 ee l => hE e ee F1 H1 (L146.trans l)) e F1 H1 (hX142 e ee) l) ?_
                  intro x147 F148 H149 hm l150
                  have L151 := L146.trans l150
                  have sb152 := Same.trans l145.f l150.f
                  replace h_ties := up h_ties l150
                  exact hN141 _ (Option.some.inj hm).symm _ _ _ ⟨rfl, sb152, L151, trivial⟩
                · intro F153 H154 _ hm l155
                  have L156 := L138.trans l155
                  replace h_ties := up h_ties l155
                  exact hN141 _ (Option.some.inj hm).symm _ _ _ ⟨rfl, l155.f, L156, trivial⟩
              · rintro s157 σ_ F158 H159 hm ⟨rfl, sf160, L161, -⟩
                replace h_ties := Rep.mono sf160 h_ties
                refine rd_if L161.fh (evt_of (ev_op (ev_varF rfl h_which) ev_int rv_eqI)) hm ?_ ?_
                · intro F162 H163 _ hm l164
                  have L165 := L161.trans l164
                  replace h_ties := up h_ties l164
                  refine rd_dropXL L165.fh (ex_call (EVA.x (eva_cons (ev_varF rfl h_points) (eva_cons (ev_var rfl h_ties) eva_nil)))) hm (fun e F1 H1 ee l => hE e ee F1 H1 (L165.trans l)) ?_
                  intro x166 F167 H168 hm l169
                  have L170 := L165.trans l169
                  exact hQ () (Option.some.inj hm).symm .non _ _ L170 rfl
                · intro F171 H172 _ hm l173
                  have L174 := L161.trans l173
                  exact hQ () (Option.some.inj hm).symm .non _ _ L174 rfl
abbrev s_others : Stmt := topS 53
theorem sc_others : FnScope ["which", "points", "ties", "tints"] ["which", "points", "ties", "tints"] (defScope s_others) := ⟨rfl, rfl, rfl, by decide +kernel, rfl, by decide +kernel, by decide +kernel⟩
theorem ok_others {f : Addr} {fd : FuncData} (F : Fun K "_law_others" "_law_others" s_others f fd) (gF : mg "_law_others" = some (.ref f)) (T : Txt K mg ad CW) (C_goes_round : Fn P w K mg base (L2.CX P w) 4 "goes_round" ["points", "ties", "arrows"] (spX (clO ad) (β := Bool) fun (x : Int × (List (Int × Int)) × (List Bool) × Unit) => goes_round x.1 x.2.1 x.2.2.1)) (C_ranks : Fn P w K mg base (L2.CX P w) 4 "ranks" ["points", "ties", "arrows"] (spX (clO ad) (β := (List Int)) fun (x : Int × (List (Int × Int)) × (List Bool) × Unit) => ranks x.1 x.2.1 x.2.2.1)) (C_setting_of : Fn P w K mg base (L2.CX P w) 3 "setting_of" ["points", "ties", "dyes"] (spXN (clO ad) (β := Bool) fun (x : Int × (List (Int × Int)) × (List Int) × Unit) => setting_of x.1 x.2.1 x.2.2.1)) (C_flattest : Fn P w K mg base (L2.CX P w) 26 "flattest" ["points", "ties"] (spX (clO ad) (β := (List Bool)) fun (x : Int × (List (Int × Int)) × Unit) => flattest x.1 x.2.1)) (C_settings : Fn P w K mg base (L2.CX P w) 25 "settings" ["points", "ties"] (spX (clO ad) (β := Int) fun (x : Int × (List (Int × Int)) × Unit) => settings x.1 x.2.1)) (C_from_spring : Fn P w K mg base (L2.CX P w) 25 "from_spring" ["points", "ties", "point"] (spX (clO ad) (β := Int) fun (x : Int × (List (Int × Int)) × Int × Unit) => from_spring x.1 x.2.1 x.2.2.1)) (C_pairs : Fn P w K mg base (L2.CX P w) 25 "pairs" ["points", "ties", "q"] (spX (clO ad) (β := Int) fun (x : Int × (List (Int × Int)) × Int × Unit) => pairs x.1 x.2.1 x.2.2.1)) (C_unbroken : Fn P w K mg base (L2.CX P w) 25 "unbroken" ["points", "ties", "many"] (spX (clO ad) (β := Int) fun (x : Int × (List (Int × Int)) × Int × Unit) => unbroken x.1 x.2.1 x.2.2.1)) (C_cut : Fn P w K mg base (L2.CX P w) 4 "cut" ["points", "ties", "tie"] (spXN (clO ad) (β := (Int × Int)) fun (x : Int × (List (Int × Int)) × (Int × Int) × Unit) => cut x.1 x.2.1 x.2.2.1)) (C_merged : Fn P w K mg base (L2.CX P w) 4 "merged" ["points", "ties", "tie"] (spXN (clO ad) (β := (Int × Int)) fun (x : Int × (List (Int × Int)) × (Int × Int) × Unit) => merged x.1 x.2.1 x.2.2.1)) : Fn P w K mg base (L2.CX P w) 27 "_law_others" ["which", "points", "ties", "tints"] (spX (clO ad) (β := Unit) fun (x : Int × Int × (List (Int × Int)) × (List Int) × Unit) => others x.1 x.2.1 x.2.2.1 x.2.2.2.1) := by
  refine ⟨f, _, gF, F.kp, F.binds (ps := ["which", "points", "ties", "tints"]) (fun _ _ _ _ _ _ us hl => match us, hl with | [_, _, _, _], _ => rfl), F.okX sc_others (spX_len rfl) (fun cdv A outer s H vs Q E hr h => ?_)⟩
  refine ⟨_, (pss_cons (ps_if (pt_cmpR op_eq (pv 0) pe_int (nomark _)) (pss_one (ps_expr (pe_fnX (takes_of rfl rfl rfl rfl) C_goes_round (hr.mono (by decide)) rfl (pa_cons (pv 1) (pa_cons (pv 2) (pa_cons (pe_lst (pa_cons pe_bl pa_nil)) pa_nil)))))) pss_nil)
    (pss_cons (ps_if (pt_cmpR op_eq (pv 0) pe_int (nomark _)) (pss_one (ps_expr (pe_fnX (takes_of rfl rfl rfl rfl) C_ranks (hr.mono (by decide)) rfl (pa_cons (pv 1) (pa_cons (pv 2) (pa_cons (pe_lst pa_nil) pa_nil)))))) pss_nil)
    (pss_cons (ps_if (pt_cmpR op_eq (pv 0) pe_int (nomark _)) (pss_one (ps_expr (pe_fnX (takes_of rfl rfl rfl rfl) C_setting_of (hr.mono (by decide)) rfl (pa_cons (pv 1) (pa_cons (pv 2) (pa_cons (pv 3) pa_nil)))))) pss_nil)
    (pss_cons (ps_if (pt_cmpR op_eq (pv 0) pe_int (nomark _)) (pss_one (ps_expr (pe_fnX (takes_of rfl rfl rfl rfl) C_flattest (hr.mono (by decide)) rfl (pa_cons (pv 1) (pa_cons (pv 2) pa_nil))))) pss_nil)
    (pss_cons (ps_if (pt_cmpR op_eq (pv 0) pe_int (nomark _)) (pss_one (ps_expr (pe_fnX (takes_of rfl rfl rfl rfl) C_settings (hr.mono (by decide)) rfl (pa_cons (pv 1) (pa_cons (pv 2) pa_nil))))) pss_nil)
    (pss_cons (ps_if (pt_cmpR op_eq (pv 0) pe_int (nomark _)) (pss_one (ps_expr (pe_fnX (takes_of rfl rfl rfl rfl) C_from_spring (hr.mono (by decide)) rfl (pa_cons (pv 1) (pa_cons (pv 2) (pa_cons pe_int pa_nil)))))) pss_nil)
    (pss_cons (ps_if (pt_cmpR op_eq (pv 0) pe_int (nomark _)) (pss_one (ps_expr (pe_fnX (takes_of rfl rfl rfl rfl) C_pairs (hr.mono (by decide)) rfl (pa_cons (pv 1) (pa_cons (pv 2) (pa_cons pe_int pa_nil)))))) pss_nil)
    (pss_cons (ps_if (pt_cmpR op_eq (pv 0) pe_int (nomark _)) (pss_one (ps_expr (pe_fnX (takes_of rfl rfl rfl rfl) C_unbroken (hr.mono (by decide)) rfl (pa_cons (pv 1) (pa_cons (pv 2) (pa_cons pe_int pa_nil)))))) pss_nil)
    (pss_cons (ps_if (pt_cmpR op_eq (pv 0) pe_int (nomark _)) (pss_one (ps_expr (pe_fnX (takes_of rfl rfl rfl rfl) C_cut (hr.mono (by decide)) rfl (pa_cons (pv 1) (pa_cons (pv 2) (pa_cons (pe_tup (pa_cons pe_int (pa_cons pe_int pa_nil))) pa_nil)))))) pss_nil)
    (pss_one (ps_if (pt_cmpR op_eq (pv 0) pe_int (nomark _)) (pss_one (ps_expr (pe_fnX (takes_of rfl rfl rfl rfl) C_merged (hr.mono (by decide)) rfl (pa_cons (pv 1) (pa_cons (pv 2) (pa_cons (pe_tup (pa_cons pe_int (pa_cons pe_int pa_nil))) pa_nil)))))) pss_nil))))))))))), ?_⟩
  obtain ⟨F0, ⟨x_which, x_points, x_ties, x_tints, _⟩, y, s0, ⟨v_which, _, rfl, h_which, v_points, _, rfl, h_points, v_ties, _, rfl, h_ties, v_tints, _, rfl, h_tints, rfl⟩, hm, hQ, hE⟩ := h
  have L0 : Lat F0 H F0 H := .refl s0
  refine at_st (σ := [some v_which, some v_points, some v_ties, some v_tints]) rfl ?_
  replace hm : others x_which x_points x_ties x_tints = some y := hm
  unfold others at hm
  refine rd_joinX (fun (s : Unit) σ_ F_ H_ => σ_ = [some v_which, some v_points, some v_ties, some v_tints] ∧ Same F0 F_ ∧ Lat F0 H F_ H_ ∧ True) hm ?_ ?_
  · intro s1 hm D2 hN3 hX4
    refine rd_if L0.fh (evt_of (ev_op (ev_varF rfl h_which) ev_int rv_eqI)) hm ?_ ?_
    · intro F5 H6 _ hm l7
      have L8 := L0.trans l7
      replace h_ties := up h_ties l7
      replace h_tints := up h_tints l7
      refine rd_dropXL L8.fh (ex_call (EVA.x (eva_cons (ev_varF rfl h_points) (eva_cons (ev_var rfl h_ties) (eva_cons (EVN.ev (evn_lst (evl_cons ev_bl evl_nil))) eva_nil))))) hm (fun e F1 H1 ee l => (fun e F1 H1 ee l => hE e ee F1 H1 (L8.trans l)) e F1 H1 (hX4 e ee) l) ?_
      intro x9 F10 H11 hm l12
      have L13 := L8.trans l12
      have sb14 := Same.trans l7.f l12.f
      replace h_ties := up h_ties l12
      replace h_tints := up h_tints l12
      exact hN3 _ (Option.some.inj hm).symm _ _ _ ⟨rfl, sb14, L13, trivial⟩
    · intro F15 H16 _ hm l17
      have L18 := L0.trans l17
      replace h_ties := up h_ties l17
      replace h_tints := up h_tints l17
      exact hN3 _ (Option.some.inj hm).symm _ _ _ ⟨rfl, l17.f, L18, trivial⟩
  · rintro s19 σ_ F20 H21 hm ⟨rfl, sf22, L23, -⟩
    replace h_ties := Rep.mono sf22 h_ties
    replace h_tints := Rep.mono sf22 h_tints
    refine rd_joinX (fun (s : Unit) σ_ F_ H_ => σ_ = [some v_which, some v_points, some v_ties, some v_tints] ∧ Same F20 F_ ∧ Lat F0 H F_ H_ ∧ True) hm ?_ ?_
    · intro s24 hm D25 hN26 hX27
      refine rd_if L23.fh (evt_of (ev_op (ev_varF rfl h_which) ev_int rv_eqI)) hm ?_ ?_
      · intro F28 H29 _ hm l30
        have L31 := L23.trans l30
        replace h_ties := up h_ties l30
        replace h_tints := up h_tints l30
        refine rd_dropXL L31.fh (ex_call (EVA.x (eva_cons (ev_varF rfl h_points) (eva_cons (ev_var rfl h_ties) (eva_cons (EVN.ev (evn_nil (α := Bool))) eva_nil))))) hm (fun e F1 H1 ee l => (fun e F1 H1 ee l => hE e ee F1 H1 (L31.trans l)) e F1 H1 (hX27 e ee) l) ?_
        intro x32 F33 H34 hm l35
        have L36 := L31.trans l35
        have sb37 := Same.trans l30.f l35.f
        replace h_ties := up h_ties l35
        replace h_tints := up h_tints l35
        exact hN26 _ (Option.some.inj hm).symm _ _ _ ⟨rfl, sb37, L36, trivial⟩
      · intro F38 H39 _ hm l40
        have L41 := L23.trans l40
        replace h_ties := up h_ties l40
        replace h_tints := up h_tints l40
        exact hN26 _ (Option.some.inj hm).symm _ _ _ ⟨rfl, l40.f, L41, trivial⟩
    · rintro s42 σ_ F43 H44 hm ⟨rfl, sf45, L46, -⟩
      replace h_ties := Rep.mono sf45 h_ties
      replace h_tints := Rep.mono sf45 h_tints
      refine rd_joinX (fun (s : Unit) σ_ F_ H_ => σ_ = [some v_which, some v_points, some v_ties, some v_tints] ∧ Same F43 F_ ∧ Lat F0 H F_ H_ ∧ True) hm ?_ ?_
      · intro s47 hm D48 hN49 hX50
        refine rd_if L46.fh (evt_of (ev_op (ev_varF rfl h_which) ev_int rv_eqI)) hm ?_ ?_
        · intro F51 H52 _ hm l53
          have L54 := L46.trans l53
          replace h_ties := up h_ties l53
          replace h_tints := up h_tints l53
          refine rd_dropXL L54.fh (ex_callN (EVA.x (eva_cons (ev_varF rfl h_points) (eva_cons (ev_var rfl h_ties) (eva_cons (ev_var rfl h_tints) eva_nil))))) hm (fun e F1 H1 ee l => (fun e F1 H1 ee l => hE e ee F1 H1 (L54.trans l)) e F1 H1 (hX50 e ee) l) ?_
          intro x55 F56 H57 hm l58
          have L59 := L54.trans l58
          have sb60 := Same.trans l53.f l58.f
          replace h_ties := up h_ties l58
          exact hN49 _ (Option.some.inj hm).symm _ _ _ ⟨rfl, sb60, L59, trivial⟩
        · intro F61 H62 _ hm l63
          have L64 := L46.trans l63
          replace h_ties := up h_ties l63
          exact hN49 _ (Option.some.inj hm).symm _ _ _ ⟨rfl, l63.f, L64, trivial⟩
      · rintro s65 σ_ F66 H67 hm ⟨rfl, sf68, L69, -⟩
        replace h_ties := Rep.mono sf68 h_ties
        refine rd_joinX (fun (s : Unit) σ_ F_ H_ => σ_ = [some v_which, some v_points, some v_ties, some v_tints] ∧ Same F66 F_ ∧ Lat F0 H F_ H_ ∧ True) hm ?_ ?_
        · intro s70 hm D71 hN72 hX73
          refine rd_if L69.fh (evt_of (ev_op (ev_varF rfl h_which) ev_int rv_eqI)) hm ?_ ?_
          · intro F74 H75 _ hm l76
            have L77 := L69.trans l76
            replace h_ties := up h_ties l76
            refine rd_dropXL L77.fh (ex_call (EVA.x (eva_cons (ev_varF rfl h_points) (eva_cons (ev_var rfl h_ties) eva_nil)))) hm (fun e F1 H1 ee l => (fun e F1 H1 ee l => hE e ee F1 H1 (L77.trans l)) e F1 H1 (hX73 e ee) l) ?_
            intro x78 F79 H80 hm l81
            have L82 := L77.trans l81
            have sb83 := Same.trans l76.f l81.f
            replace h_ties := up h_ties l81
            exact hN72 _ (Option.some.inj hm).symm _ _ _ ⟨rfl, sb83, L82, trivial⟩
          · intro F84 H85 _ hm l86
            have L87 := L69.trans l86
            replace h_ties := up h_ties l86
            exact hN72 _ (Option.some.inj hm).symm _ _ _ ⟨rfl, l86.f, L87, trivial⟩
        · rintro s88 σ_ F89 H90 hm ⟨rfl, sf91, L92, -⟩
          replace h_ties := Rep.mono sf91 h_ties
          refine rd_joinX (fun (s : Unit) σ_ F_ H_ => σ_ = [some v_which, some v_points, some v_ties, some v_tints] ∧ Same F89 F_ ∧ Lat F0 H F_ H_ ∧ True) hm ?_ ?_
          · intro s93 hm D94 hN95 hX96
            refine rd_if L92.fh (evt_of (ev_op (ev_varF rfl h_which) ev_int rv_eqI)) hm ?_ ?_
            · intro F97 H98 _ hm l99
              have L100 := L92.trans l99
              replace h_ties := up h_ties l99
              refine rd_dropXL L100.fh (ex_call (EVA.x (eva_cons (ev_varF rfl h_points) (eva_cons (ev_var rfl h_ties) eva_nil)))) hm (fun e F1 H1 ee l => (fun e F1 H1 ee l => hE e ee F1 H1 (L100.trans l)) e F1 H1 (hX96 e ee) l) ?_
              intro x101 F102 H103 hm l104
              have L105 := L100.trans l104
              have sb106 := Same.trans l99.f l104.f
              replace h_ties := up h_ties l104
              exact hN95 _ (Option.some.inj hm).symm _ _ _ ⟨rfl, sb106, L105, trivial⟩
            · intro F107 H108 _ hm l109
              have L110 := L92.trans l109
              replace h_ties := up h_ties l109
              exact hN95 _ (Option.some.inj hm).symm _ _ _ ⟨rfl, l109.f, L110, trivial⟩
          · rintro s111 σ_ F112 H113 hm ⟨rfl, sf114, L115, -⟩
            replace h_ties := Rep.mono sf114 h_ties
            refine rd_joinX (fun (s : Unit) σ_ F_ H_ => σ_ = [some v_which, some v_points, some v_ties, some v_tints] ∧ Same F112 F_ ∧ Lat F0 H F_ H_ ∧ True) hm ?_ ?_
            · intro s116 hm D117 hN118 hX119
              refine rd_if L115.fh (evt_of (ev_op (ev_varF rfl h_which) ev_int rv_eqI)) hm ?_ ?_
              · intro F120 H121 _ hm l122
                have L123 := L115.trans l122
                replace h_ties := up h_ties l122
                refine rd_dropXL L123.fh (ex_call (EVA.x (eva_cons (ev_varF rfl h_points) (eva_cons (ev_var rfl h_ties) (eva_cons ev_int eva_nil))))) hm (fun e F1 H1 ee l => (fun e F1 H1 ee l => hE e ee F1 H1 (L123.trans l)) e F1 H1 (hX119 e ee) l) ?_
                intro x124 F125 H126 hm l127
                have L128 := L123.trans l127
                have sb129 := Same.trans l122.f l127.f
                replace h_ties := up h_ties l127
                exact hN118 _ (Option.some.inj hm).symm _ _ _ ⟨rfl, sb129, L128, trivial⟩
              · intro F130 H131 _ hm l132
                have L133 := L115.trans l132
                replace h_ties := up h_ties l132
                exact hN118 _ (Option.some.inj hm).symm _ _ _ ⟨rfl, l132.f, L133, trivial⟩
            · rintro s134 σ_ F135 H136 hm ⟨rfl, sf137, L138, -⟩
              replace h_ties := Rep.mono sf137 h_ties
              refine rd_joinX (fun (s : Unit) σ_ F_ H_ => σ_ = [some v_which, some v_points, some v_ties, some v_tints] ∧ Same F135 F_ ∧ Lat F0 H F_ H_ ∧ True) hm ?_ ?_
              · intro s139 hm D140 hN141 hX142
                refine rd_if L138.fh (evt_of (ev_op (ev_varF rfl h_which) ev_int rv_eqI)) hm ?_ ?_
                · intro F143 H144 _ hm l145
                  have L146 := L138.trans l145
                  replace h_ties := up h_ties l145
                  refine rd_dropXL L146.fh (ex_call (EVA.x (eva_cons (ev_varF rfl h_points) (eva_cons (ev_var rfl h_ties) (eva_cons ev_int eva_nil))))) hm (fun e F1 H1 ee l => (fun e F1 H1 ee l => hE e ee F1 H1 (L146.trans l)) e F1 H1 (hX142 e ee) l) ?_
                  intro x147 F148 H149 hm l150
                  have L151 := L146.trans l150
                  have sb152 := Same.trans l145.f l150.f
                  replace h_ties := up h_ties l150
                  exact hN141 _ (Option.some.inj hm).symm _ _ _ ⟨rfl, sb152, L151, trivial⟩
                · intro F153 H154 _ hm l155
                  have L156 := L138.trans l155
                  replace h_ties := up h_ties l155
                  exact hN141 _ (Option.some.inj hm).symm _ _ _ ⟨rfl, l155.f, L156, trivial⟩
              · rintro s157 σ_ F158 H159 hm ⟨rfl, sf160, L161, -⟩
                replace h_ties := Rep.mono sf160 h_ties
                refine rd_joinX (fun (s : Unit) σ_ F_ H_ => σ_ = [some v_which, some v_points, some v_ties, some v_tints] ∧ Same F158 F_ ∧ Lat F0 H F_ H_ ∧ True) hm ?_ ?_
                · intro s162 hm D163 hN164 hX165
                  refine rd_if L161.fh (evt_of (ev_op (ev_varF rfl h_which) ev_int rv_eqI)) hm ?_ ?_
                  · intro F166 H167 _ hm l168
                    have L169 := L161.trans l168
                    replace h_ties := up h_ties l168
                    refine rd_dropXL L169.fh (ex_call (EVA.x (eva_cons (ev_varF rfl h_points) (eva_cons (ev_var rfl h_ties) (eva_cons ev_int eva_nil))))) hm (fun e F1 H1 ee l => (fun e F1 H1 ee l => hE e ee F1 H1 (L169.trans l)) e F1 H1 (hX165 e ee) l) ?_
                    intro x170 F171 H172 hm l173
                    have L174 := L169.trans l173
                    have sb175 := Same.trans l168.f l173.f
                    replace h_ties := up h_ties l173
                    exact hN164 _ (Option.some.inj hm).symm _ _ _ ⟨rfl, sb175, L174, trivial⟩
                  · intro F176 H177 _ hm l178
                    have L179 := L161.trans l178
                    replace h_ties := up h_ties l178
                    exact hN164 _ (Option.some.inj hm).symm _ _ _ ⟨rfl, l178.f, L179, trivial⟩
                · rintro s180 σ_ F181 H182 hm ⟨rfl, sf183, L184, -⟩
                  replace h_ties := Rep.mono sf183 h_ties
                  refine rd_joinX (fun (s : Unit) σ_ F_ H_ => σ_ = [some v_which, some v_points, some v_ties, some v_tints] ∧ Same F181 F_ ∧ Lat F0 H F_ H_ ∧ True) hm ?_ ?_
                  · intro s185 hm D186 hN187 hX188
                    refine rd_if L184.fh (evt_of (ev_op (ev_varF rfl h_which) ev_int rv_eqI)) hm ?_ ?_
                    · intro F189 H190 _ hm l191
                      have L192 := L184.trans l191
                      replace h_ties := up h_ties l191
                      refine rd_dropXL L192.fh (ex_callN (EVA.x (eva_cons (ev_varF rfl h_points) (eva_cons (ev_var rfl h_ties) (eva_cons (ev_tup ev_int ev_int) eva_nil))))) hm (fun e F1 H1 ee l => (fun e F1 H1 ee l => hE e ee F1 H1 (L192.trans l)) e F1 H1 (hX188 e ee) l) ?_
                      intro x193 F194 H195 hm l196
                      have L197 := L192.trans l196
                      have sb198 := Same.trans l191.f l196.f
                      replace h_ties := up h_ties l196
                      exact hN187 _ (Option.some.inj hm).symm _ _ _ ⟨rfl, sb198, L197, trivial⟩
                    · intro F199 H200 _ hm l201
                      have L202 := L184.trans l201
                      replace h_ties := up h_ties l201
                      exact hN187 _ (Option.some.inj hm).symm _ _ _ ⟨rfl, l201.f, L202, trivial⟩
                  · rintro s203 σ_ F204 H205 hm ⟨rfl, sf206, L207, -⟩
                    replace h_ties := Rep.mono sf206 h_ties
                    refine rd_if L207.fh (evt_of (ev_op (ev_varF rfl h_which) ev_int rv_eqI)) hm ?_ ?_
                    · intro F208 H209 _ hm l210
                      have L211 := L207.trans l210
                      replace h_ties := up h_ties l210
                      refine rd_dropXL L211.fh (ex_callN (EVA.x (eva_cons (ev_varF rfl h_points) (eva_cons (ev_var rfl h_ties) (eva_cons (ev_tup ev_int ev_int) eva_nil))))) hm (fun e F1 H1 ee l => hE e ee F1 H1 (L211.trans l)) ?_
                      intro x212 F213 H214 hm l215
                      have L216 := L211.trans l215
                      exact hQ () (Option.some.inj hm).symm .non _ _ L216 rfl
                    · intro F217 H218 _ hm l219
                      have L220 := L207.trans l219
                      exact hQ () (Option.some.inj hm).symm .non _ _ L220 rfl
abbrev s_law : Stmt := topS 54
theorem sc_law : FnScope ["script", "points", "ties", "way", "far", "which", "tints", "handed", "other", "k", "e"] ["script"] (defScope s_law) := ⟨rfl, rfl, rfl, by decide +kernel, rfl, by decide +kernel, by decide +kernel⟩
theorem ok_law {f : Addr} {fd : FuncData} (F : Fun K "law" "law" s_law f fd) (gF : mg "law" = some (.ref f)) (T : Txt K mg ad CW) (C_web_by : Fn P w K mg base CX0 2 "_law_web_by" ["script", "k", "most", "cap"] (spO (β := (Int × (List (Int × Int)))) fun (x : (Scr K) × Int × Int × Int × Unit) => web_by x.1.l x.2.1 x.2.2.1 x.2.2.2.1)) (C_cell_at : Fn P w K mg base CX0 1 "_law_cell_at" ["script", "k"] (spO (β := Int) fun (x : (Scr K) × Int × Unit) => cell_at x.1.l x.2.1)) (C_spoilt : Fn P w K mg base CX0 1 "_law_spoilt" ["ties", "way", "cell"] (spO (β := (List (Int × Int))) fun (x : (List (Int × Int)) × Int × Int × Unit) => spoilt x.1 x.2.1 x.2.2.1)) (C_next : Fn P w K mg base CX0 1 "_law_next" ["seed"] (spO (β := Int) fun (x : Int × Unit) => next x.1)) (C_first_eight : Fn P w K mg base (L2.CX P w) 26 "_law_first_eight" ["which", "points", "ties"] (spX (clO ad) (β := Unit) fun (x : Int × Int × (List (Int × Int)) × Unit) => first_eight x.1 x.2.1 x.2.2.1)) (C_others : Fn P w K mg base (L2.CX P w) 27 "_law_others" ["which", "points", "ties", "tints"] (spX (clO ad) (β := Unit) fun (x : Int × Int × (List (Int × Int)) × (List Int) × Unit) => others x.1 x.2.1 x.2.2.1 x.2.2.2.1)) : FnOk P w K mg base CX0 28 f fd ["script"] (spO (β := Bool) fun (x : (Scr K) × Unit) => law x.1.l) := by
  refine F.ok sc_law (spO_len rfl) (fun cdv A outer s H vs Q E hr h => ?_)
  refine ⟨_, (pss_cons (ps_asg (pe_fn C_web_by (hr.mono (by decide)) rfl (pa_cons (pe_op op_cat (pe_lst (pa_cons (pe_op op_add pe_int (pe_op op_mod (pe_fn C_cell_at (hr.mono (by decide)) rfl (pa_cons (pv 0) (pa_cons pe_int pa_nil))) pe_int)) pa_nil)) (pe_slice sl_list (pv 0) (po_some pe_int) po_none)) (pa_cons pe_int (pa_cons pe_int (pa_cons pe_int pa_nil))))) (pg_tup rfl (pgs_cons (pg_name (i := 1) sc_law.nd rfl (by first | exact Or.inl rfl | exact Or.inr rfl)) (pgs_cons (pg_name (i := 2) sc_law.nd rfl (by first | exact Or.inl rfl | exact Or.inr rfl)) pgs_nil))))
    (pss_cons (ps_if (pt_cmpR op_eq (pe_callB call_len_seq (by rfl) T.b_len PySem.boot_len (pa_cons (pv 2) pa_nil)) pe_int (nomark _)) (pss_one (ps_set (i := 2) sc_law.nd rfl (by first | exact Or.inl rfl | exact Or.inr rfl) (pe_lst (pa_cons (pe_tup (pa_cons pe_int (pa_cons pe_int pa_nil))) pa_nil)))) pss_nil)
    (pss_cons (ps_set (i := 3) sc_law.nd rfl (by first | exact Or.inl rfl | exact Or.inr rfl) (pe_op op_mod (pe_fn C_cell_at (hr.mono (by decide)) rfl (pa_cons (pv 0) (pa_cons pe_int pa_nil))) pe_int))
    (pss_cons (ps_if (pt_cmpR op_lt (pv 3) pe_int (nomark _)) (pss_one (ps_set (i := 2) sc_law.nd rfl (by first | exact Or.inl rfl | exact Or.inr rfl) (pe_fn C_spoilt (hr.mono (by decide)) rfl (pa_cons (pv 2) (pa_cons (pv 3) (pa_cons (pe_fn C_next (hr.mono (by decide)) rfl (pa_cons (pe_fn C_cell_at (hr.mono (by decide)) rfl (pa_cons (pv 0) (pa_cons pe_int pa_nil))) pa_nil)) pa_nil)))))) (pss_cons (ps_set (i := 4) sc_law.nd rfl (by first | exact Or.inl rfl | exact Or.inr rfl) (pe_op op_mod (pe_fn C_cell_at (hr.mono (by decide)) rfl (pa_cons (pv 0) (pa_cons pe_int pa_nil))) pe_int))
    (pss_cons (ps_if (pt_cmpR op_eq (pe_op op_mod (pe_op op_fdiv (pe_fn C_cell_at (hr.mono (by decide)) rfl (pa_cons (pv 0) (pa_cons pe_int pa_nil))) pe_int) pe_int) pe_int (nomark _)) (pss_one (ps_set (i := 2) sc_law.nd rfl (by first | exact Or.inl rfl | exact Or.inr rfl) (pe_lst pa_nil))) pss_nil)
    (pss_one (ps_set (i := 1) sc_law.nd rfl (by first | exact Or.inl rfl | exact Or.inr rfl) (pe_ix ix_list (pe_lst (pa_cons (pe_un un_neg pe_int) (pa_cons pe_int (pa_cons (pe_op op_sub (pe_un un_neg pe_int) (pv 4)) (pa_cons (pe_op op_add pe_int (pv 4)) pa_nil))))) (pe_op op_mod (pe_fn C_cell_at (hr.mono (by decide)) rfl (pa_cons (pv 0) (pa_cons pe_int pa_nil))) pe_int) (fun _ _ => rfl)))))))
    (pss_cons (ps_set (i := 5) sc_law.nd rfl (by first | exact Or.inl rfl | exact Or.inr rfl) (pe_op op_mod (pe_fn C_cell_at (hr.mono (by decide)) rfl (pa_cons (pv 0) (pa_cons pe_int pa_nil))) pe_int))
    (pss_cons (ps_setLc (i := 6) (own := [("k", 9)]) (g := (gName 9)) rfl sc_law.nd rfl rfl (sw_true rfl rfl rfl (by decide +kernel)) (pi_range1 (by rfl) T.b_range (pa_cons (pe_callB (call_max2 rfl) (by rfl) T.b_max (by decide +kernel) (pa_cons pe_int (pa_cons (pv 1) pa_nil))) pa_nil)) (blkOk_by (N := ["script", "points", "ties", "way", "far", "which", "tints", "handed", "other", "k", "e"]) (sc := defScope s_law) (by decide +kernel)) (fun _ _ _ _ _ => (pg_name (i := 9) sc_law.nd rfl (by first | exact Or.inl rfl | exact Or.inr rfl))) (fun _ _ _ _ _ => pts_nil) (fun _ _ _ _ _ => pe_int))
    (pss_cons (ps_set (i := 7) sc_law.nd rfl (by first | exact Or.inl rfl | exact Or.inr rfl) (pe_callTy call_list_of (by rfl) T.b_list (by decide +kernel) (pa_cons (pv 2) pa_nil)))
    (pss_cons (ps_tryE (ad := ad) (i := 10) rfl rfl sc_law.nd rfl rfl ⟨rfl, by decide, .inl T.g_WebError⟩ (fun W pn xe tk _ => (pss_cons (ps_expr (pe_fnX tk C_first_eight (hr.mono (by decide)) rfl (pa_cons (pv 5) (pa_cons (pv 1) (pa_cons (pv 7) pa_nil)))))
    (pss_one (ps_expr (pe_fnX tk C_others (hr.mono (by decide)) rfl (pa_cons (pv 5) (pa_cons (pv 1) (pa_cons (pv 7) (pa_cons (pv 6) pa_nil))))))))) (fun er a oe pn hz hv => (pss_cons (ps_set (i := 8) sc_law.nd rfl (by first | exact Or.inl rfl | exact Or.inr rfl) (pe_or (pe_callB (call_isE (T.kit.ex er) hz hv) (by rfl) T.b_isinstance (by decide +kernel) (pa_cons (pv 10) (pa_cons (pe_glob (v := .ref (ad .goesRound)) rfl T.e_GoesRound rfl) pa_nil))) (pe_or (pe_callB (call_isE (T.kit.ex er) hz hv) (by rfl) T.b_isinstance (by decide +kernel) (pa_cons (pv 10) (pa_cons (pe_glob (v := .ref (ad .noDyeing)) rfl T.e_NoDyeing rfl) pa_nil))) (pe_one (pe_callB (call_isE (T.kit.ex er) hz hv) (by rfl) T.b_isinstance (by decide +kernel) (pa_cons (pv 10) (pa_cons (pe_glob (v := .ref (ad .noNote)) rfl T.e_NoNote rfl) pa_nil)))))))
    (pss_cons (ps_set (i := 8) sc_law.nd rfl (by first | exact Or.inl rfl | exact Or.inr rfl) (pe_or (pv 8) (pe_or (pe_callB (call_isE (T.kit.ex er) hz hv) (by rfl) T.b_isinstance (by decide +kernel) (pa_cons (pv 10) (pa_cons (pe_glob (v := .ref (ad .noSetting)) rfl T.e_NoSetting rfl) pa_nil))) (pe_one (pe_callB (call_isE (T.kit.ex er) hz hv) (by rfl) T.b_isinstance (by decide +kernel) (pa_cons (pv 10) (pa_cons (pe_glob (v := .ref (ad .noTie)) rfl T.e_NoTie rfl) pa_nil)))))))
    (pss_one (ps_ret (pe_and (pe_callB (call_isE (T.kit.ex er) hz hv) (by rfl) T.b_isinstance (by decide +kernel) (pa_cons (pv 10) (pa_cons (pe_glob (v := .ref (ad .noWeb)) rfl T.e_NoWeb rfl) pa_nil))) (pe_and (pe_callB (call_isE (T.kit.ex er) hz hv) (by rfl) T.b_isinstance (by decide +kernel) (pa_cons (pv 10) (pa_cons (pe_bltn (v := .ty "ValueError") (by rfl) T.b_ValueError (by decide +kernel) rfl) pa_nil))) (pe_and (pe_not (pv 8)) (pe_one (pe_cmpR (op_eqDK (K := K) rfl (by have z_ := hu64 hr; exact z_)) (pv 7) (pv 2) (nomark _))))))))))))
    (pss_one (ps_ret pe_bl)))))))))), ?_⟩
  obtain ⟨F0, ⟨x_script, _⟩, y, s0, ⟨v_script, _, rfl, h_script, rfl⟩, hm, hQ⟩ := h
  have L0 : Lat F0 H F0 H := .refl s0
  refine at_st (σ := [some v_script, none, none, none, none, none, none, none, none, none, none]) rfl ?_
  replace hm : law x_script.l = some y := hm
  unfold law at hm
  refine rd_asg2 L0.fh (EV.cg (ev_call (eva_cons (ev_scr (EVN.ev (evn_op (EVN.ev (evn_lst (evl_cons (ev_op ev_int (ev_op (ev_call (eva_cons (ev_var rfl h_script) (eva_cons ev_int eva_nil))) ev_int rv_mod) rv_add) evl_nil))) (EVN.ev (evn_cutS (ev_var rfl h_script) (po_at ev_int) po_no)) rvn_cat))) (eva_cons ev_int (eva_cons ev_int (eva_cons ev_int eva_nil))))) (by first | (simp only [Option.bind_assoc, Option.bind_some]; done) | (simp only [Option.bind_assoc, Option.bind_some]; rfl))) hm ?_
  intro x1 v2 v3 F4 H5 hm l6 h_points_7 h_ties_8
  have L9 := L0.trans l6
  replace h_script := up h_script l6
  refine rd_join (fun (s : (List (Int × Int))) σ_ F_ H_ => ∃ (v2_ : V), σ_ = [some v_script, some v2, some v2_, none, none, none, none, none, none, none, none] ∧ Same F4 F_ ∧ Lat F0 H F_ H_ ∧ Rep.rp s v2_ F_ ∧ True) hm ?_ ?_
  · intro s10 hm D11 hN12 
    refine rd_if L9.fh (evt_of (ev_op (ev_len (ev_var rfl h_ties_8)) ev_int rv_eqI)) hm ?_ ?_
    · intro F13 H14 _ hm l15
      have L16 := L9.trans l15
      replace h_script := up h_script l15
      replace h_ties_8 := up h_ties_8 l15
      refine rd_asgL L16.fh (EVN.ev (evn_lst (evl_cons (ev_tup ev_int ev_int) evl_nil))) hm ?_
      intro x17 v18 F19 H20 hm l21 h_ties_22
      have L23 := L16.trans l21
      have sb24 := Same.trans l15.f l21.f
      replace h_script := up h_script l21
      obtain rfl := Option.some.inj hm
      exact hN12 _ _ _ ⟨_, rfl, sb24, L23, h_ties_22, trivial⟩
    · intro F25 H26 _ hm l27
      have L28 := L9.trans l27
      replace h_script := up h_script l27
      replace h_ties_8 := up h_ties_8 l27
      obtain rfl := Option.some.inj hm
      exact hN12 _ _ _ ⟨_, rfl, l27.f, L28, h_ties_8, trivial⟩
  · rintro s29 σ_ F30 H31 hm ⟨e32, rfl, sf33, L34, h_ties_35, -⟩
    replace h_script := Rep.mono sf33 h_script
    refine rd_asg L34.fh (ev_op (ev_call (eva_cons (ev_var rfl h_script) (eva_cons ev_int eva_nil))) ev_int rv_mod) hm ?_
    intro x36 v37 F38 H39 hm l40 h_way_41
    have L42 := L34.trans l40
    replace h_script := up h_script l40
    replace h_ties_35 := up h_ties_35 l40
    refine rd_join (fun (s : (List (Int × Int)) × Int) σ_ F_ H_ => ∃ (v1_ : V) (v2_ : V) (o4_ : Option V), σ_ = [some v_script, some v1_, some v2_, some v37, o4_, none, none, none, none, none, none] ∧ Same F38 F_ ∧ Lat F0 H F_ H_ ∧ Rep.rp s.1 v2_ F_ ∧ Rep.rp s.2 v1_ F_ ∧ True) hm ?_ ?_
    · intro s43 hm D44 hN45 
      refine rd_if L42.fh (evt_of (ev_op (ev_varF rfl h_way_41) ev_int rv_cmp)) hm ?_ ?_
      · intro F46 H47 _ hm l48
        have L49 := L42.trans l48
        replace h_script := up h_script l48
        replace h_ties_35 := up h_ties_35 l48
        refine rd_asgL L49.fh (ev_call (eva_cons (ev_var rfl h_ties_35) (eva_cons (ev_varF rfl h_way_41) (eva_cons (ev_call (eva_cons (ev_call (eva_cons (ev_var rfl h_script) (eva_cons ev_int eva_nil))) eva_nil)) eva_nil)))) hm ?_
        intro x50 v51 F52 H53 hm l54 h_ties_55
        have L56 := L49.trans l54
        have sb57 := Same.trans l48.f l54.f
        replace h_script := up h_script l54
        obtain rfl := Option.some.inj hm
        exact hN45 _ _ _ ⟨_, _, _, rfl, sb57, L56, h_ties_55, (Flat.any h_points_7), trivial⟩
      · intro F58 H59 _ hm l60
        have L61 := L42.trans l60
        replace h_script := up h_script l60
        replace h_ties_35 := up h_ties_35 l60
        refine rd_asg L61.fh (ev_op (ev_call (eva_cons (ev_var rfl h_script) (eva_cons ev_int eva_nil))) ev_int rv_mod) hm ?_
        intro x62 v63 F64 H65 hm l66 h_far_67
        have L68 := L61.trans l66
        have sb69 := Same.trans l60.f l66.f
        replace h_script := up h_script l66
        replace h_ties_35 := up h_ties_35 l66
        refine rd_join (fun (s : (List (Int × Int))) σ_ F_ H_ => ∃ (v2_ : V), σ_ = [some v_script, some v2, some v2_, some v37, some v63, none, none, none, none, none, none] ∧ Same F64 F_ ∧ Lat F0 H F_ H_ ∧ Rep.rp s v2_ F_ ∧ True) hm ?_ ?_
        · intro s70 hm D71 hN72 
          refine rd_if L68.fh (evt_of (ev_op (ev_op (ev_op (ev_call (eva_cons (ev_var rfl h_script) (eva_cons ev_int eva_nil))) ev_int rv_div) ev_int rv_mod) ev_int rv_eqI)) hm ?_ ?_
          · intro F73 H74 _ hm l75
            have L76 := L68.trans l75
            have sb77 := Same.trans sb69 l75.f
            replace h_script := up h_script l75
            replace h_ties_35 := up h_ties_35 l75
            refine rd_asgL L76.fh (EVN.ev (evn_nil (α := Int × Int))) hm ?_
            intro x78 v79 F80 H81 hm l82 h_ties_83
            have L84 := L76.trans l82
            have sb85 := Same.trans sb77 l82.f
            have sb86 := Same.trans l75.f l82.f
            replace h_script := up h_script l82
            obtain rfl := Option.some.inj hm
            exact hN72 _ _ _ ⟨_, rfl, sb86, L84, h_ties_83, trivial⟩
          · intro F87 H88 _ hm l89
            have L90 := L68.trans l89
            have sb91 := Same.trans sb69 l89.f
            replace h_script := up h_script l89
            replace h_ties_35 := up h_ties_35 l89
            obtain rfl := Option.some.inj hm
            exact hN72 _ _ _ ⟨_, rfl, l89.f, L90, h_ties_35, trivial⟩
        · rintro s92 σ_ F93 H94 hm ⟨e95, rfl, sf96, L97, h_ties_98, -⟩
          have sb99 := Same.trans sb69 sf96
          replace h_script := Rep.mono sf96 h_script
          refine rd_asgL L97.fh (ev_op (EVN.ev (evn_lst (evl_cons (ev_neg ev_int) (evl_cons ev_int (evl_cons (ev_op (ev_neg ev_int) (ev_varF rfl h_far_67) rv_sub) (evl_cons (ev_op ev_int (ev_varF rfl h_far_67) rv_add) evl_nil)))))) (ev_op (ev_call (eva_cons (ev_var rfl h_script) (eva_cons ev_int eva_nil))) ev_int rv_mod) rv_ixL) hm ?_
          intro x100 v101 F102 H103 hm l104 h_points_105
          have L106 := L97.trans l104
          have sb107 := Same.trans sb99 l104.f
          replace h_script := up h_script l104
          replace h_ties_98 := up h_ties_98 l104
          obtain rfl := Option.some.inj hm
          exact hN45 _ _ _ ⟨_, _, _, rfl, sb107, L106, h_ties_98, (Flat.any h_points_105), trivial⟩
    · rintro s108 σ_ F109 H110 hm ⟨e111, e112, e113, rfl, sf114, L115, h_ties_116, h_points_117, -⟩
      replace h_script := Rep.mono sf114 h_script
      refine rd_asg L115.fh (ev_op (ev_call (eva_cons (ev_var rfl h_script) (eva_cons ev_int eva_nil))) ev_int rv_mod) hm ?_
      intro x118 v119 F120 H121 hm l122 h_which_123
      have L124 := L115.trans l122
      replace h_ties_116 := up h_ties_116 l122
      refine rd_asg L124.fh (EVN.ev (evn_lc (ei_range1 (ev_max2 ev_int (ev_varF rfl h_points_117))) (fun x131 v132 _ _ _ l134 r133 k135 => gt_name (k135 _ rfl evt_yes ev_int)))) hm ?_
      intro x125 v126 F127 H128 hm l129 h_tints_130
      have L136 := L124.trans l129
      replace h_ties_116 := up h_ties_116 l129
      refine rd_asg L136.fh (EVN.ev (evn_list (ev_var rfl h_ties_116))) hm ?_
      intro x137 v138 F139 H140 hm l141 h_handed_142
      have L143 := L136.trans l141
      replace h_ties_116 := up h_ties_116 l141
      replace h_tints_130 := up h_tints_130 l141
      refine rd_seq (rd_try (F := F139) (F0 := F0) (H0 := H) T.kit.exm hm ?_ ?_)
      · intro y144 hm hf145 W146 hW147
        refine rd_dropX L143.fh (ex_call (EVA.x (eva_cons (ev_varF rfl h_which_123) (eva_cons (ev_varF rfl h_points_117) (eva_cons (ev_var rfl h_handed_142) eva_nil))))) hm (fun e F1 H1 ee l => hW147 e F1 H1 ee (L143.trans l) l.f) ?_
        intro x158 F159 H160 hm l161
        have L162 := L143.trans l161
        replace h_ties_116 := up h_ties_116 l161
        replace h_tints_130 := up h_tints_130 l161
        replace h_handed_142 := up h_handed_142 l161
        refine rd_dropXL L162.fh (ex_call (EVA.x (eva_cons (ev_varF rfl h_which_123) (eva_cons (ev_varF rfl h_points_117) (eva_cons (ev_var rfl h_handed_142) (eva_cons (ev_var rfl h_tints_130) eva_nil)))))) hm (fun e F1 H1 ee l => hW147 e F1 H1 ee (L162.trans l) (Same.trans l161.f l.f)) ?_
        intro x163 F164 H165 hm l166
        have L167 := L162.trans l166
        have sb168 := Same.trans l161.f l166.f
        replace h_ties_116 := up h_ties_116 l166
        replace h_handed_142 := up h_handed_142 l166
        replace hm := hf145 () (Option.some.inj hm).symm
        first | refine nx_with ?_ | skip
        exact rd_ret0 L167.fh ev_bl hm fun v F1 H1 l rv => hQ v F1 H1 (L167.trans l) rv
      · intro er148 a149 F150 H151 hm L152 sf153 ha154 D155 hD156 hN157
        replace h_ties_116 := Rep.mono sf153 h_ties_116
        replace h_handed_142 := Rep.mono sf153 h_handed_142
        refine rd_asg L152.fh (ev_orV (ev_isE T.kit rfl) (ev_orV (ev_isE T.kit rfl) (ev_isE T.kit rfl))) hm ?_
        intro x169 v170 F171 H172 hm l173 h_other_174
        have L175 := L152.trans l173
        replace h_ties_116 := up h_ties_116 l173
        replace h_handed_142 := up h_handed_142 l173
        refine rd_asg L175.fh (ev_orV (ev_varF rfl h_other_174) (ev_orV (ev_isE T.kit rfl) (ev_isE T.kit rfl))) hm ?_
        intro x176 v177 F178 H179 hm l180 h_other_181
        have L182 := L175.trans l180
        replace h_ties_116 := up h_ties_116 l180
        replace h_handed_142 := up h_handed_142 l180
        refine rd_ret0 L182.fh (ev_andV (ev_isE T.kit rfl) (ev_andV (ev_isV T.kit rfl) (ev_andV (ev_notV (ev_varF rfl h_other_181)) (ev_op (ev_var rfl h_handed_142) (ev_var rfl h_ties_116) (fun x y => rv_eqD x y))))) hm ?_
        intro v_ F1_ H1_ l_ rv_
        rw [hD156]
        exact hQ _ _ _ (L182.trans l_) rv_
end
theorem all_mk {l : PySem.W.OpenLaw} {w : World} {K : PySem.W.Frag} {h : Heap} {mg : Str → Option Value} {fa f0 f1 f2 f3 f4 f5 f6 f7 f8 f9 f10 f11 f12 f13 f14 f15 f16 f17 f18 f19 f20 f21 f22 f23 f24 f25 f26 f27 f28 f29 f30 f31 f32 f33 f34 f35 f36 A_GoesRound A_NoDyeing A_NoNote A_NoSetting A_NoTie A_NoWeb A_WebError : Addr} (X : K.In h) (G : h.Ns mainGlobals mg) (hfa : mg "law" = some (.ref fa))
    {od0 an0 od1 an1 od2 an2 od3 an3 od4 an4 od5 an5 od6 an6 od7 an7 od8 an8 od9 an9 od10 an10 od11 an11 od12 an12 od13 an13 od14 an14 od15 an15 od16 an16 od17 an17 od18 an18 od19 an19 od20 an20 od21 an21 od22 an22 od23 an23 od24 an24 od25 an25 od26 an26 od27 an27 od28 an28 od29 an29 od30 an30 od31 an31 od32 an32 od33 an33 od34 an34 od35 an35 od36 an36 : Option Addr} {sl0 sl1 sl2 sl3 sl4 sl5 sl6 sl7 sl8 sl9 sl10 sl11 sl12 sl13 sl14 sl15 sl16 sl17 sl18 sl19 sl20 sl21 sl22 sl23 sl24 sl25 sl26 sl27 sl28 sl29 sl30 sl31 sl32 sl33 sl34 sl35 sl36 : Array (Option Value)} {oc0 kV0 dc0 pm0 cd0 ct0 oc1 kV1 dc1 pm1 cd1 ct1 oc2 kV2 dc2 pm2 cd2 ct2 oc3 kV3 dc3 pm3 cd3 ct3 oc4 kV4 dc4 pm4 cd4 ct4 oc5 kV5 dc5 pm5 cd5 ct5 oc6 kV6 dc6 pm6 cd6 ct6 oc7 kV7 dc7 pm7 cd7 ct7 oc8 kV8 dc8 pm8 cd8 ct8 oc9 kV9 dc9 pm9 cd9 ct9 oc10 kV10 dc10 pm10 cd10 ct10 oc11 kV11 dc11 pm11 cd11 ct11 oc12 kV12 dc12 pm12 cd12 ct12 oc13 kV13 dc13 pm13 cd13 ct13 oc14 kV14 dc14 pm14 cd14 ct14 oc15 kV15 dc15 pm15 cd15 ct15 oc16 kV16 dc16 pm16 cd16 ct16 oc17 kV17 dc17 pm17 cd17 ct17 oc18 kV18 dc18 pm18 cd18 ct18 oc19 kV19 dc19 pm19 cd19 ct19 oc20 kV20 dc20 pm20 cd20 ct20 oc21 kV21 dc21 pm21 cd21 ct21 oc22 kV22 dc22 pm22 cd22 ct22 oc23 kV23 dc23 pm23 cd23 ct23 oc24 kV24 dc24 pm24 cd24 ct24 oc25 kV25 dc25 pm25 cd25 ct25 oc26 kV26 dc26 pm26 cd26 ct26 oc27 kV27 dc27 pm27 cd27 ct27 oc28 kV28 dc28 pm28 cd28 ct28 oc29 kV29 dc29 pm29 cd29 ct29 oc30 kV30 dc30 pm30 cd30 ct30 oc31 kV31 dc31 pm31 cd31 ct31 oc32 kV32 dc32 pm32 cd32 ct32 oc33 kV33 dc33 pm33 cd33 ct33 oc34 kV34 dc34 pm34 cd34 ct34 oc35 kV35 dc35 pm35 cd35 ct35 oc36 kV36 dc36 pm36 cd36 ct36 : Value}
    (a0 : PySem.W.nsIn K mainGlobals "is_web" = some (some (.ref f0))) (l0 : K.lookup f0 = some ⟨oc0, od0, .func (PySem.W.fnOf "is_web" "is_web" (defArgs s_is_web) (defBody s_is_web) (defScope s_is_web) .none kV0 dc0 pm0 an0 cd0 ct0), sl0⟩) (c0 : PySem.W.codeIn K cd0 "is_web" = true) (k0 : PySem.W.keepIn K (.ref f0) = true)
    (a1 : PySem.W.nsIn K mainGlobals "asked_web" = some (some (.ref f1))) (l1 : K.lookup f1 = some ⟨oc1, od1, .func (PySem.W.fnOf "asked_web" "asked_web" (defArgs s_asked_web) (defBody s_asked_web) (defScope s_asked_web) .none kV1 dc1 pm1 an1 cd1 ct1), sl1⟩) (c1 : PySem.W.codeIn K cd1 "asked_web" = true) (k1 : PySem.W.keepIn K (.ref f1) = true)
    (a2 : PySem.W.nsIn K mainGlobals "asked_tie" = some (some (.ref f2))) (l2 : K.lookup f2 = some ⟨oc2, od2, .func (PySem.W.fnOf "asked_tie" "asked_tie" (defArgs s_asked_tie) (defBody s_asked_tie) (defScope s_asked_tie) .none kV2 dc2 pm2 an2 cd2 ct2), sl2⟩) (c2 : PySem.W.codeIn K cd2 "asked_tie" = true) (k2 : PySem.W.keepIn K (.ref f2) = true)
    (a3 : PySem.W.nsIn K mainGlobals "without" = some (some (.ref f3))) (l3 : K.lookup f3 = some ⟨oc3, od3, .func (PySem.W.fnOf "without" "without" (defArgs s_without) (defBody s_without) (defScope s_without) .none kV3 dc3 pm3 an3 cd3 ct3), sl3⟩) (c3 : PySem.W.codeIn K cd3 "without" = true) (k3 : PySem.W.keepIn K (.ref f3) = true)
    (a4 : PySem.W.nsIn K mainGlobals "cut" = some (some (.ref f4))) (l4 : K.lookup f4 = some ⟨oc4, od4, .func (PySem.W.fnOf "cut" "cut" (defArgs s_cut) (defBody s_cut) (defScope s_cut) .none kV4 dc4 pm4 an4 cd4 ct4), sl4⟩) (c4 : PySem.W.codeIn K cd4 "cut" = true) (k4 : PySem.W.keepIn K (.ref f4) = true)
    (a5 : PySem.W.nsIn K mainGlobals "named" = some (some (.ref f5))) (l5 : K.lookup f5 = some ⟨oc5, od5, .func (PySem.W.fnOf "named" "named" (defArgs s_named) (defBody s_named) (defScope s_named) .none kV5 dc5 pm5 an5 cd5 ct5), sl5⟩) (c5 : PySem.W.codeIn K cd5 "named" = true) (k5 : PySem.W.keepIn K (.ref f5) = true)
    (a6 : PySem.W.nsIn K mainGlobals "put_together" = some (some (.ref f6))) (l6 : K.lookup f6 = some ⟨oc6, od6, .func (PySem.W.fnOf "put_together" "put_together" (defArgs s_put_together) (defBody s_put_together) (defScope s_put_together) .none kV6 dc6 pm6 an6 cd6 ct6), sl6⟩) (c6 : PySem.W.codeIn K cd6 "put_together" = true) (k6 : PySem.W.keepIn K (.ref f6) = true)
    (a7 : PySem.W.nsIn K mainGlobals "merged" = some (some (.ref f7))) (l7 : K.lookup f7 = some ⟨oc7, od7, .func (PySem.W.fnOf "merged" "merged" (defArgs s_merged) (defBody s_merged) (defScope s_merged) .none kV7 dc7 pm7 an7 cd7 ct7), sl7⟩) (c7 : PySem.W.codeIn K cd7 "merged" = true) (k7 : PySem.W.keepIn K (.ref f7) = true)
    (a8 : PySem.W.nsIn K mainGlobals "pieces" = some (some (.ref f8))) (l8 : K.lookup f8 = some ⟨oc8, od8, .func (PySem.W.fnOf "pieces" "pieces" (defArgs s_pieces) (defBody s_pieces) (defScope s_pieces) .none kV8 dc8 pm8 an8 cd8 ct8), sl8⟩) (c8 : PySem.W.codeIn K cd8 "pieces" = true) (k8 : PySem.W.keepIn K (.ref f8) = true)
    (a9 : PySem.W.nsIn K mainGlobals "beside" = some (some (.ref f9))) (l9 : K.lookup f9 = some ⟨oc9, od9, .func (PySem.W.fnOf "beside" "beside" (defArgs s_beside) (defBody s_beside) (defScope s_beside) .none kV9 dc9 pm9 an9 cd9 ct9), sl9⟩) (c9 : PySem.W.codeIn K cd9 "beside" = true) (k9 : PySem.W.keepIn K (.ref f9) = true)
    (a10 : PySem.W.nsIn K mainGlobals "row_by" = some (some (.ref f10))) (l10 : K.lookup f10 = some ⟨oc10, od10, .func (PySem.W.fnOf "row_by" "row_by" (defArgs s_row_by) (defBody s_row_by) (defScope s_row_by) .none kV10 dc10 pm10 an10 cd10 ct10), sl10⟩) (c10 : PySem.W.codeIn K cd10 "row_by" = true) (k10 : PySem.W.keepIn K (.ref f10) = true)
    (a11 : PySem.W.nsIn K mainGlobals "row" = some (some (.ref f11))) (l11 : K.lookup f11 = some ⟨oc11, od11, .func (PySem.W.fnOf "row" "row" (defArgs s_row) (defBody s_row) (defScope s_row) .none kV11 dc11 pm11 an11 cd11 ct11), sl11⟩) (c11 : PySem.W.codeIn K cd11 "row" = true) (k11 : PySem.W.keepIn K (.ref f11) = true)
    (a12 : PySem.W.nsIn K mainGlobals "worth" = some (some (.ref f12))) (l12 : K.lookup f12 = some ⟨oc12, od12, .func (PySem.W.fnOf "worth" "worth" (defArgs s_worth) (defBody s_worth) (defScope s_worth) .none kV12 dc12 pm12 an12 cd12 ct12), sl12⟩) (c12 : PySem.W.codeIn K cd12 "worth" = true) (k12 : PySem.W.keepIn K (.ref f12) = true)
    (a13 : PySem.W.nsIn K mainGlobals "unlike" = some (some (.ref f13))) (l13 : K.lookup f13 = some ⟨oc13, od13, .func (PySem.W.fnOf "unlike" "unlike" (defArgs s_unlike) (defBody s_unlike) (defScope s_unlike) .none kV13 dc13 pm13 an13 cd13 ct13), sl13⟩) (c13 : PySem.W.codeIn K cd13 "unlike" = true) (k13 : PySem.W.keepIn K (.ref f13) = true)
    (a14 : PySem.W.nsIn K mainGlobals "is_dyeing" = some (some (.ref f14))) (l14 : K.lookup f14 = some ⟨oc14, od14, .func (PySem.W.fnOf "is_dyeing" "is_dyeing" (defArgs s_is_dyeing) (defBody s_is_dyeing) (defScope s_is_dyeing) .none kV14 dc14 pm14 an14 cd14 ct14), sl14⟩) (c14 : PySem.W.codeIn K cd14 "is_dyeing" = true) (k14 : PySem.W.keepIn K (.ref f14) = true)
    (a15 : PySem.W.nsIn K mainGlobals "fewest" = some (some (.ref f15))) (l15 : K.lookup f15 = some ⟨oc15, od15, .func (PySem.W.fnOf "fewest" "fewest" (defArgs s_fewest) (defBody s_fewest) (defScope s_fewest) .none kV15 dc15 pm15 an15 cd15 ct15), sl15⟩) (c15 : PySem.W.codeIn K cd15 "fewest" = true) (k15 : PySem.W.keepIn K (.ref f15) = true)
    (a16 : PySem.W.nsIn K mainGlobals "extended" = some (some (.ref f16))) (l16 : K.lookup f16 = some ⟨oc16, od16, .func (PySem.W.fnOf "extended" "extended" (defArgs s_extended) (defBody s_extended) (defScope s_extended) .none kV16 dc16 pm16 an16 cd16 ct16), sl16⟩) (c16 : PySem.W.codeIn K cd16 "extended" = true) (k16 : PySem.W.keepIn K (.ref f16) = true)
    (a17 : PySem.W.nsIn K mainGlobals "least" = some (some (.ref f17))) (l17 : K.lookup f17 = some ⟨oc17, od17, .func (PySem.W.fnOf "least" "least" (defArgs s_least) (defBody s_least) (defScope s_least) .none kV17 dc17 pm17 an17 cd17 ct17), sl17⟩) (c17 : PySem.W.codeIn K cd17 "least" = true) (k17 : PySem.W.keepIn K (.ref f17) = true)
    (a18 : PySem.W.nsIn K mainGlobals "asked_setting" = some (some (.ref f18))) (l18 : K.lookup f18 = some ⟨oc18, od18, .func (PySem.W.fnOf "asked_setting" "asked_setting" (defArgs s_asked_setting) (defBody s_asked_setting) (defScope s_asked_setting) .none kV18 dc18 pm18 an18 cd18 ct18), sl18⟩) (c18 : PySem.W.codeIn K cd18 "asked_setting" = true) (k18 : PySem.W.keepIn K (.ref f18) = true)
    (a19 : PySem.W.nsIn K mainGlobals "led" = some (some (.ref f19))) (l19 : K.lookup f19 = some ⟨oc19, od19, .func (PySem.W.fnOf "led" "led" (defArgs s_led) (defBody s_led) (defScope s_led) .none kV19 dc19 pm19 an19 cd19 ct19), sl19⟩) (c19 : PySem.W.codeIn K cd19 "led" = true) (k19 : PySem.W.keepIn K (.ref f19) = true)
    (a20 : PySem.W.nsIn K mainGlobals "ranks_by" = some (some (.ref f20))) (l20 : K.lookup f20 = some ⟨oc20, od20, .func (PySem.W.fnOf "ranks_by" "ranks_by" (defArgs s_ranks_by) (defBody s_ranks_by) (defScope s_ranks_by) .none kV20 dc20 pm20 an20 cd20 ct20), sl20⟩) (c20 : PySem.W.codeIn K cd20 "ranks_by" = true) (k20 : PySem.W.keepIn K (.ref f20) = true)
    (a21 : PySem.W.nsIn K mainGlobals "goes_round" = some (some (.ref f21))) (l21 : K.lookup f21 = some ⟨oc21, od21, .func (PySem.W.fnOf "goes_round" "goes_round" (defArgs s_goes_round) (defBody s_goes_round) (defScope s_goes_round) .none kV21 dc21 pm21 an21 cd21 ct21), sl21⟩) (c21 : PySem.W.codeIn K cd21 "goes_round" = true) (k21 : PySem.W.keepIn K (.ref f21) = true)
    (a22 : PySem.W.nsIn K mainGlobals "ranks" = some (some (.ref f22))) (l22 : K.lookup f22 = some ⟨oc22, od22, .func (PySem.W.fnOf "ranks" "ranks" (defArgs s_ranks) (defBody s_ranks) (defScope s_ranks) .none kV22 dc22 pm22 an22 cd22 ct22), sl22⟩) (c22 : PySem.W.codeIn K cd22 "ranks" = true) (k22 : PySem.W.keepIn K (.ref f22) = true)
    (a23 : PySem.W.nsIn K mainGlobals "setting_of" = some (some (.ref f23))) (l23 : K.lookup f23 = some ⟨oc23, od23, .func (PySem.W.fnOf "setting_of" "setting_of" (defArgs s_setting_of) (defBody s_setting_of) (defScope s_setting_of) .none kV23 dc23 pm23 an23 cd23 ct23), sl23⟩) (c23 : PySem.W.codeIn K cd23 "setting_of" = true) (k23 : PySem.W.keepIn K (.ref f23) = true)
    (a24 : PySem.W.nsIn K mainGlobals "flattest" = some (some (.ref f24))) (l24 : K.lookup f24 = some ⟨oc24, od24, .func (PySem.W.fnOf "flattest" "flattest" (defArgs s_flattest) (defBody s_flattest) (defScope s_flattest) .none kV24 dc24 pm24 an24 cd24 ct24), sl24⟩) (c24 : PySem.W.codeIn K cd24 "flattest" = true) (k24 : PySem.W.keepIn K (.ref f24) = true)
    (a25 : PySem.W.nsIn K mainGlobals "settings" = some (some (.ref f25))) (l25 : K.lookup f25 = some ⟨oc25, od25, .func (PySem.W.fnOf "settings" "settings" (defArgs s_settings) (defBody s_settings) (defScope s_settings) .none kV25 dc25 pm25 an25 cd25 ct25), sl25⟩) (c25 : PySem.W.codeIn K cd25 "settings" = true) (k25 : PySem.W.keepIn K (.ref f25) = true)
    (a26 : PySem.W.nsIn K mainGlobals "from_spring" = some (some (.ref f26))) (l26 : K.lookup f26 = some ⟨oc26, od26, .func (PySem.W.fnOf "from_spring" "from_spring" (defArgs s_from_spring) (defBody s_from_spring) (defScope s_from_spring) .none kV26 dc26 pm26 an26 cd26 ct26), sl26⟩) (c26 : PySem.W.codeIn K cd26 "from_spring" = true) (k26 : PySem.W.keepIn K (.ref f26) = true)
    (a27 : PySem.W.nsIn K mainGlobals "pairs" = some (some (.ref f27))) (l27 : K.lookup f27 = some ⟨oc27, od27, .func (PySem.W.fnOf "pairs" "pairs" (defArgs s_pairs) (defBody s_pairs) (defScope s_pairs) .none kV27 dc27 pm27 an27 cd27 ct27), sl27⟩) (c27 : PySem.W.codeIn K cd27 "pairs" = true) (k27 : PySem.W.keepIn K (.ref f27) = true)
    (a28 : PySem.W.nsIn K mainGlobals "unbroken" = some (some (.ref f28))) (l28 : K.lookup f28 = some ⟨oc28, od28, .func (PySem.W.fnOf "unbroken" "unbroken" (defArgs s_unbroken) (defBody s_unbroken) (defScope s_unbroken) .none kV28 dc28 pm28 an28 cd28 ct28), sl28⟩) (c28 : PySem.W.codeIn K cd28 "unbroken" = true) (k28 : PySem.W.keepIn K (.ref f28) = true)
    (a29 : PySem.W.nsIn K mainGlobals "shown" = some (some (.ref f29))) (l29 : K.lookup f29 = some ⟨oc29, od29, .func (PySem.W.fnOf "shown" "shown" (defArgs s_shown) (defBody s_shown) (defScope s_shown) .none kV29 dc29 pm29 an29 cd29 ct29), sl29⟩) (c29 : PySem.W.codeIn K cd29 "shown" = true) (k29 : PySem.W.keepIn K (.ref f29) = true)
    (a30 : PySem.W.nsIn K mainGlobals "_law_cell_at" = some (some (.ref f30))) (l30 : K.lookup f30 = some ⟨oc30, od30, .func (PySem.W.fnOf "_law_cell_at" "_law_cell_at" (defArgs s_cell_at) (defBody s_cell_at) (defScope s_cell_at) .none kV30 dc30 pm30 an30 cd30 ct30), sl30⟩) (c30 : PySem.W.codeIn K cd30 "_law_cell_at" = true) (k30 : PySem.W.keepIn K (.ref f30) = true)
    (a31 : PySem.W.nsIn K mainGlobals "_law_next" = some (some (.ref f31))) (l31 : K.lookup f31 = some ⟨oc31, od31, .func (PySem.W.fnOf "_law_next" "_law_next" (defArgs s_next) (defBody s_next) (defScope s_next) .none kV31 dc31 pm31 an31 cd31 ct31), sl31⟩) (c31 : PySem.W.codeIn K cd31 "_law_next" = true) (k31 : PySem.W.keepIn K (.ref f31) = true)
    (a32 : PySem.W.nsIn K mainGlobals "_law_web_by" = some (some (.ref f32))) (l32 : K.lookup f32 = some ⟨oc32, od32, .func (PySem.W.fnOf "_law_web_by" "_law_web_by" (defArgs s_web_by) (defBody s_web_by) (defScope s_web_by) .none kV32 dc32 pm32 an32 cd32 ct32), sl32⟩) (c32 : PySem.W.codeIn K cd32 "_law_web_by" = true) (k32 : PySem.W.keepIn K (.ref f32) = true)
    (a33 : PySem.W.nsIn K mainGlobals "_law_spoilt" = some (some (.ref f33))) (l33 : K.lookup f33 = some ⟨oc33, od33, .func (PySem.W.fnOf "_law_spoilt" "_law_spoilt" (defArgs s_spoilt) (defBody s_spoilt) (defScope s_spoilt) .none kV33 dc33 pm33 an33 cd33 ct33), sl33⟩) (c33 : PySem.W.codeIn K cd33 "_law_spoilt" = true) (k33 : PySem.W.keepIn K (.ref f33) = true)
    (a34 : PySem.W.nsIn K mainGlobals "_law_first_eight" = some (some (.ref f34))) (l34 : K.lookup f34 = some ⟨oc34, od34, .func (PySem.W.fnOf "_law_first_eight" "_law_first_eight" (defArgs s_first_eight) (defBody s_first_eight) (defScope s_first_eight) .none kV34 dc34 pm34 an34 cd34 ct34), sl34⟩) (c34 : PySem.W.codeIn K cd34 "_law_first_eight" = true) (k34 : PySem.W.keepIn K (.ref f34) = true)
    (a35 : PySem.W.nsIn K mainGlobals "_law_others" = some (some (.ref f35))) (l35 : K.lookup f35 = some ⟨oc35, od35, .func (PySem.W.fnOf "_law_others" "_law_others" (defArgs s_others) (defBody s_others) (defScope s_others) .none kV35 dc35 pm35 an35 cd35 ct35), sl35⟩) (c35 : PySem.W.codeIn K cd35 "_law_others" = true) (k35 : PySem.W.keepIn K (.ref f35) = true)
    (a36 : PySem.W.nsIn K mainGlobals "law" = some (some (.ref f36))) (l36 : K.lookup f36 = some ⟨oc36, od36, .func (PySem.W.fnOf "law" "law" (defArgs s_law) (defBody s_law) (defScope s_law) .none kV36 dc36 pm36 an36 cd36 ct36), sl36⟩) (c36 : PySem.W.codeIn K cd36 "law" = true) (k36 : PySem.W.keepIn K (.ref f36) = true)
    (b_ValueError : PySem.W.nsIn K mainGlobals "ValueError" = some none)
    (b_abs : PySem.W.nsIn K mainGlobals "abs" = some none)
    (b_isinstance : PySem.W.nsIn K mainGlobals "isinstance" = some none)
    (b_len : PySem.W.nsIn K mainGlobals "len" = some none)
    (b_list : PySem.W.nsIn K mainGlobals "list" = some none)
    (b_max : PySem.W.nsIn K mainGlobals "max" = some none)
    (b_min : PySem.W.nsIn K mainGlobals "min" = some none)
    (b_range : PySem.W.nsIn K mainGlobals "range" = some none)
    (b_reversed : PySem.W.nsIn K mainGlobals "reversed" = some none)
    (b_sorted : PySem.W.nsIn K mainGlobals "sorted" = some none)
    (b_zip : PySem.W.nsIn K mainGlobals "zip" = some none)
    {t_MOST_POINTS : Tok} (g_MOST_POINTS : PySem.W.nsIn K mainGlobals "MOST_POINTS" = some (some (.int 7 t_MOST_POINTS)))
    {t_MOST_TIES : Tok} (g_MOST_TIES : PySem.W.nsIn K mainGlobals "MOST_TIES" = some (some (.int 12 t_MOST_TIES)))
    (ga_GoesRound : PySem.W.nsIn K mainGlobals "GoesRound" = some (some (.ref A_GoesRound)))
    (xa_GoesRound : PySem.W.excIn K A_GoesRound [.type "ValueError", .type "Exception", .type "BaseException", .type "object"] "ValueError.__new__" = true) (xk_GoesRound : PySem.W.keepIn K (.ref A_GoesRound) = true) (xb_GoesRound : PySem.W.subIn K (.ref A_GoesRound) (.type "BaseException") = some true) (xt_GoesRound : PySem.W.typeIn K (.ref A_GoesRound) = some (.type "type"))
    (ga_NoDyeing : PySem.W.nsIn K mainGlobals "NoDyeing" = some (some (.ref A_NoDyeing)))
    (xa_NoDyeing : PySem.W.excIn K A_NoDyeing [.type "ValueError", .type "Exception", .type "BaseException", .type "object"] "ValueError.__new__" = true) (xk_NoDyeing : PySem.W.keepIn K (.ref A_NoDyeing) = true) (xb_NoDyeing : PySem.W.subIn K (.ref A_NoDyeing) (.type "BaseException") = some true) (xt_NoDyeing : PySem.W.typeIn K (.ref A_NoDyeing) = some (.type "type"))
    (ga_NoNote : PySem.W.nsIn K mainGlobals "NoNote" = some (some (.ref A_NoNote)))
    (ga_NoSetting : PySem.W.nsIn K mainGlobals "NoSetting" = some (some (.ref A_NoSetting)))
    (xa_NoSetting : PySem.W.excIn K A_NoSetting [.type "ValueError", .type "Exception", .type "BaseException", .type "object"] "ValueError.__new__" = true) (xk_NoSetting : PySem.W.keepIn K (.ref A_NoSetting) = true) (xb_NoSetting : PySem.W.subIn K (.ref A_NoSetting) (.type "BaseException") = some true) (xt_NoSetting : PySem.W.typeIn K (.ref A_NoSetting) = some (.type "type"))
    (ga_NoTie : PySem.W.nsIn K mainGlobals "NoTie" = some (some (.ref A_NoTie)))
    (xa_NoTie : PySem.W.excIn K A_NoTie [.type "ValueError", .type "Exception", .type "BaseException", .type "object"] "ValueError.__new__" = true) (xk_NoTie : PySem.W.keepIn K (.ref A_NoTie) = true) (xb_NoTie : PySem.W.subIn K (.ref A_NoTie) (.type "BaseException") = some true) (xt_NoTie : PySem.W.typeIn K (.ref A_NoTie) = some (.type "type"))
    (ga_NoWeb : PySem.W.nsIn K mainGlobals "NoWeb" = some (some (.ref A_NoWeb)))
    (xa_NoWeb : PySem.W.excIn K A_NoWeb [.type "ValueError", .type "Exception", .type "BaseException", .type "object"] "ValueError.__new__" = true) (xk_NoWeb : PySem.W.keepIn K (.ref A_NoWeb) = true) (xb_NoWeb : PySem.W.subIn K (.ref A_NoWeb) (.type "BaseException") = some true) (xt_NoWeb : PySem.W.typeIn K (.ref A_NoWeb) = some (.type "type"))
    (ga_WebError : PySem.W.nsIn K mainGlobals "WebError" = some (some (.ref A_WebError)))
    (wb : PySem.W.subIn K (.ref A_WebError) (.type "BaseException") = some true) (wd : PySem.W.hasDictIn K A_WebError = true) (wt : PySem.W.typeIn K (.ref A_WebError) = some (.type "type"))
    (hn : PySem.W.specialIn K (.builtin "object.__class__") "__get__" = some (some (.builtin "getset_descriptor.__get__"))) (ht : PySem.W.takesIn K (.builtin "object.__class__") = some true)
    (p1_GoesRound : PySem.W.findIn K (.ref A_GoesRound) "__getattribute__" = some (some (.builtin "BaseException.__getattribute__"))) (p2_GoesRound : PySem.W.findIn K (.ref A_GoesRound) "__getattr__" = some none) (p3_GoesRound : PySem.W.subIn K (.ref A_GoesRound) (.type "BaseException") = some true) (p4_GoesRound : PySem.W.hasDictIn K A_GoesRound = true) (p5_GoesRound : PySem.W.findIn K (.ref A_GoesRound) "__class__" = some (some (.builtin "object.__class__"))) (p6_GoesRound : PySem.W.mroIn K A_GoesRound (.type "object") = some true) (p7_GoesRound : PySem.W.subIn K (.ref A_GoesRound) (.type "ValueError") = some true) (p8_GoesRound : PySem.W.subIn K (.ref A_GoesRound) (.ref A_WebError) = some true) (p9_GoesRound : PySem.W.typeIn K (.ref A_GoesRound) = some (.type "type"))
    (k_GoesRound_GoesRound : PySem.W.subIn K (.ref A_GoesRound) (.ref A_GoesRound) = some true)
    (k_GoesRound_NoDyeing : PySem.W.subIn K (.ref A_GoesRound) (.ref A_NoDyeing) = some false)
    (k_GoesRound_NoNote : PySem.W.subIn K (.ref A_GoesRound) (.ref A_NoNote) = some false)
    (k_GoesRound_NoSetting : PySem.W.subIn K (.ref A_GoesRound) (.ref A_NoSetting) = some false)
    (k_GoesRound_NoTie : PySem.W.subIn K (.ref A_GoesRound) (.ref A_NoTie) = some false)
    (k_GoesRound_NoWeb : PySem.W.subIn K (.ref A_GoesRound) (.ref A_NoWeb) = some false)
    (p1_NoDyeing : PySem.W.findIn K (.ref A_NoDyeing) "__getattribute__" = some (some (.builtin "BaseException.__getattribute__"))) (p2_NoDyeing : PySem.W.findIn K (.ref A_NoDyeing) "__getattr__" = some none) (p3_NoDyeing : PySem.W.subIn K (.ref A_NoDyeing) (.type "BaseException") = some true) (p4_NoDyeing : PySem.W.hasDictIn K A_NoDyeing = true) (p5_NoDyeing : PySem.W.findIn K (.ref A_NoDyeing) "__class__" = some (some (.builtin "object.__class__"))) (p6_NoDyeing : PySem.W.mroIn K A_NoDyeing (.type "object") = some true) (p7_NoDyeing : PySem.W.subIn K (.ref A_NoDyeing) (.type "ValueError") = some true) (p8_NoDyeing : PySem.W.subIn K (.ref A_NoDyeing) (.ref A_WebError) = some true) (p9_NoDyeing : PySem.W.typeIn K (.ref A_NoDyeing) = some (.type "type"))
    (k_NoDyeing_GoesRound : PySem.W.subIn K (.ref A_NoDyeing) (.ref A_GoesRound) = some false)
    (k_NoDyeing_NoDyeing : PySem.W.subIn K (.ref A_NoDyeing) (.ref A_NoDyeing) = some true)
    (k_NoDyeing_NoNote : PySem.W.subIn K (.ref A_NoDyeing) (.ref A_NoNote) = some false)
    (k_NoDyeing_NoSetting : PySem.W.subIn K (.ref A_NoDyeing) (.ref A_NoSetting) = some false)
    (k_NoDyeing_NoTie : PySem.W.subIn K (.ref A_NoDyeing) (.ref A_NoTie) = some false)
    (k_NoDyeing_NoWeb : PySem.W.subIn K (.ref A_NoDyeing) (.ref A_NoWeb) = some false)
    (p1_NoNote : PySem.W.findIn K (.ref A_NoNote) "__getattribute__" = some (some (.builtin "BaseException.__getattribute__"))) (p2_NoNote : PySem.W.findIn K (.ref A_NoNote) "__getattr__" = some none) (p3_NoNote : PySem.W.subIn K (.ref A_NoNote) (.type "BaseException") = some true) (p4_NoNote : PySem.W.hasDictIn K A_NoNote = true) (p5_NoNote : PySem.W.findIn K (.ref A_NoNote) "__class__" = some (some (.builtin "object.__class__"))) (p6_NoNote : PySem.W.mroIn K A_NoNote (.type "object") = some true) (p7_NoNote : PySem.W.subIn K (.ref A_NoNote) (.type "ValueError") = some true) (p8_NoNote : PySem.W.subIn K (.ref A_NoNote) (.ref A_WebError) = some true) (p9_NoNote : PySem.W.typeIn K (.ref A_NoNote) = some (.type "type"))
    (k_NoNote_GoesRound : PySem.W.subIn K (.ref A_NoNote) (.ref A_GoesRound) = some false)
    (k_NoNote_NoDyeing : PySem.W.subIn K (.ref A_NoNote) (.ref A_NoDyeing) = some false)
    (k_NoNote_NoNote : PySem.W.subIn K (.ref A_NoNote) (.ref A_NoNote) = some true)
    (k_NoNote_NoSetting : PySem.W.subIn K (.ref A_NoNote) (.ref A_NoSetting) = some false)
    (k_NoNote_NoTie : PySem.W.subIn K (.ref A_NoNote) (.ref A_NoTie) = some false)
    (k_NoNote_NoWeb : PySem.W.subIn K (.ref A_NoNote) (.ref A_NoWeb) = some false)
    (p1_NoSetting : PySem.W.findIn K (.ref A_NoSetting) "__getattribute__" = some (some (.builtin "BaseException.__getattribute__"))) (p2_NoSetting : PySem.W.findIn K (.ref A_NoSetting) "__getattr__" = some none) (p3_NoSetting : PySem.W.subIn K (.ref A_NoSetting) (.type "BaseException") = some true) (p4_NoSetting : PySem.W.hasDictIn K A_NoSetting = true) (p5_NoSetting : PySem.W.findIn K (.ref A_NoSetting) "__class__" = some (some (.builtin "object.__class__"))) (p6_NoSetting : PySem.W.mroIn K A_NoSetting (.type "object") = some true) (p7_NoSetting : PySem.W.subIn K (.ref A_NoSetting) (.type "ValueError") = some true) (p8_NoSetting : PySem.W.subIn K (.ref A_NoSetting) (.ref A_WebError) = some true) (p9_NoSetting : PySem.W.typeIn K (.ref A_NoSetting) = some (.type "type"))
    (k_NoSetting_GoesRound : PySem.W.subIn K (.ref A_NoSetting) (.ref A_GoesRound) = some false)
    (k_NoSetting_NoDyeing : PySem.W.subIn K (.ref A_NoSetting) (.ref A_NoDyeing) = some false)
    (k_NoSetting_NoNote : PySem.W.subIn K (.ref A_NoSetting) (.ref A_NoNote) = some false)
    (k_NoSetting_NoSetting : PySem.W.subIn K (.ref A_NoSetting) (.ref A_NoSetting) = some true)
    (k_NoSetting_NoTie : PySem.W.subIn K (.ref A_NoSetting) (.ref A_NoTie) = some false)
    (k_NoSetting_NoWeb : PySem.W.subIn K (.ref A_NoSetting) (.ref A_NoWeb) = some false)
    (p1_NoTie : PySem.W.findIn K (.ref A_NoTie) "__getattribute__" = some (some (.builtin "BaseException.__getattribute__"))) (p2_NoTie : PySem.W.findIn K (.ref A_NoTie) "__getattr__" = some none) (p3_NoTie : PySem.W.subIn K (.ref A_NoTie) (.type "BaseException") = some true) (p4_NoTie : PySem.W.hasDictIn K A_NoTie = true) (p5_NoTie : PySem.W.findIn K (.ref A_NoTie) "__class__" = some (some (.builtin "object.__class__"))) (p6_NoTie : PySem.W.mroIn K A_NoTie (.type "object") = some true) (p7_NoTie : PySem.W.subIn K (.ref A_NoTie) (.type "ValueError") = some true) (p8_NoTie : PySem.W.subIn K (.ref A_NoTie) (.ref A_WebError) = some true) (p9_NoTie : PySem.W.typeIn K (.ref A_NoTie) = some (.type "type"))
    (k_NoTie_GoesRound : PySem.W.subIn K (.ref A_NoTie) (.ref A_GoesRound) = some false)
    (k_NoTie_NoDyeing : PySem.W.subIn K (.ref A_NoTie) (.ref A_NoDyeing) = some false)
    (k_NoTie_NoNote : PySem.W.subIn K (.ref A_NoTie) (.ref A_NoNote) = some false)
    (k_NoTie_NoSetting : PySem.W.subIn K (.ref A_NoTie) (.ref A_NoSetting) = some false)
    (k_NoTie_NoTie : PySem.W.subIn K (.ref A_NoTie) (.ref A_NoTie) = some true)
    (k_NoTie_NoWeb : PySem.W.subIn K (.ref A_NoTie) (.ref A_NoWeb) = some false)
    (p1_NoWeb : PySem.W.findIn K (.ref A_NoWeb) "__getattribute__" = some (some (.builtin "BaseException.__getattribute__"))) (p2_NoWeb : PySem.W.findIn K (.ref A_NoWeb) "__getattr__" = some none) (p3_NoWeb : PySem.W.subIn K (.ref A_NoWeb) (.type "BaseException") = some true) (p4_NoWeb : PySem.W.hasDictIn K A_NoWeb = true) (p5_NoWeb : PySem.W.findIn K (.ref A_NoWeb) "__class__" = some (some (.builtin "object.__class__"))) (p6_NoWeb : PySem.W.mroIn K A_NoWeb (.type "object") = some true) (p7_NoWeb : PySem.W.subIn K (.ref A_NoWeb) (.type "ValueError") = some true) (p8_NoWeb : PySem.W.subIn K (.ref A_NoWeb) (.ref A_WebError) = some true) (p9_NoWeb : PySem.W.typeIn K (.ref A_NoWeb) = some (.type "type"))
    (k_NoWeb_GoesRound : PySem.W.subIn K (.ref A_NoWeb) (.ref A_GoesRound) = some false)
    (k_NoWeb_NoDyeing : PySem.W.subIn K (.ref A_NoWeb) (.ref A_NoDyeing) = some false)
    (k_NoWeb_NoNote : PySem.W.subIn K (.ref A_NoWeb) (.ref A_NoNote) = some false)
    (k_NoWeb_NoSetting : PySem.W.subIn K (.ref A_NoWeb) (.ref A_NoSetting) = some false)
    (k_NoWeb_NoTie : PySem.W.subIn K (.ref A_NoWeb) (.ref A_NoTie) = some false)
    (k_NoWeb_NoWeb : PySem.W.subIn K (.ref A_NoWeb) (.ref A_NoWeb) = some true) :
    ∃ fd : FuncData, (∀ (s : Shared) (v : Value), BindsTo s fd ⟨[v], []⟩ [("script", v)]) ∧ ∀ base : Heap, K.In base → base.Ns mainGlobals mg → FnOk l.prog w K mg base CX0 28 fa fd ["script"] (spO (β := Bool) fun (x : (Scr K) × Unit) => law x.1.l) := by
  have e := hfa.symm.trans (PySem.W.mg_of X G a36)
  cases e
  let ad : Er → Addr := fun e => match e with | .goesRound => A_GoesRound | .noDyeing => A_NoDyeing | .noNote => A_NoNote | .noSetting => A_NoSetting | .noTie => A_NoTie | .noWeb => A_NoWeb
  have T : Txt K mg ad A_WebError := { b_ValueError := PySem.W.mg_none_of X G b_ValueError, b_abs := PySem.W.mg_none_of X G b_abs, b_isinstance := PySem.W.mg_none_of X G b_isinstance, b_len := PySem.W.mg_none_of X G b_len, b_list := PySem.W.mg_none_of X G b_list, b_max := PySem.W.mg_none_of X G b_max, b_min := PySem.W.mg_none_of X G b_min, b_range := PySem.W.mg_none_of X G b_range, b_reversed := PySem.W.mg_none_of X G b_reversed, b_sorted := PySem.W.mg_none_of X G b_sorted, b_zip := PySem.W.mg_none_of X G b_zip, g_MOST_POINTS := ⟨_, PySem.W.mg_of X G g_MOST_POINTS⟩, g_MOST_TIES := ⟨_, PySem.W.mg_of X G g_MOST_TIES⟩, nil := trivial, x_GoesRound := ⟨PySem.W.mg_of X G ga_GoesRound, xa_GoesRound, xk_GoesRound, xb_GoesRound, xt_GoesRound⟩, x_NoDyeing := ⟨PySem.W.mg_of X G ga_NoDyeing, xa_NoDyeing, xk_NoDyeing, xb_NoDyeing, xt_NoDyeing⟩, x_NoSetting := ⟨PySem.W.mg_of X G ga_NoSetting, xa_NoSetting, xk_NoSetting, xb_NoSetting, xt_NoSetting⟩, x_NoTie := ⟨PySem.W.mg_of X G ga_NoTie, xa_NoTie, xk_NoTie, xb_NoTie, xt_NoTie⟩, x_NoWeb := ⟨PySem.W.mg_of X G ga_NoWeb, xa_NoWeb, xk_NoWeb, xb_NoWeb, xt_NoWeb⟩, g_WebError := PySem.W.mg_of X G ga_WebError, e_GoesRound := PySem.W.mg_of X G ga_GoesRound, e_NoDyeing := PySem.W.mg_of X G ga_NoDyeing, e_NoNote := PySem.W.mg_of X G ga_NoNote, e_NoSetting := PySem.W.mg_of X G ga_NoSetting, e_NoTie := PySem.W.mg_of X G ga_NoTie, e_NoWeb := PySem.W.mg_of X G ga_NoWeb, kit := ⟨(fun e => match e with | .goesRound => ⟨p1_GoesRound, p2_GoesRound, p3_GoesRound, p4_GoesRound, p5_GoesRound, hn, ht, p6_GoesRound⟩ | .noDyeing => ⟨p1_NoDyeing, p2_NoDyeing, p3_NoDyeing, p4_NoDyeing, p5_NoDyeing, hn, ht, p6_NoDyeing⟩ | .noNote => ⟨p1_NoNote, p2_NoNote, p3_NoNote, p4_NoNote, p5_NoNote, hn, ht, p6_NoNote⟩ | .noSetting => ⟨p1_NoSetting, p2_NoSetting, p3_NoSetting, p4_NoSetting, p5_NoSetting, hn, ht, p6_NoSetting⟩ | .noTie => ⟨p1_NoTie, p2_NoTie, p3_NoTie, p4_NoTie, p5_NoTie, hn, ht, p6_NoTie⟩ | .noWeb => ⟨p1_NoWeb, p2_NoWeb, p3_NoWeb, p4_NoWeb, p5_NoWeb, hn, ht, p6_NoWeb⟩), (fun e c => match e, c with | .goesRound, .goesRound => kit_ref p4_GoesRound p9_GoesRound k_GoesRound_GoesRound k_GoesRound_GoesRound | .goesRound, .noDyeing => kit_ref p4_NoDyeing p9_NoDyeing k_NoDyeing_NoDyeing k_GoesRound_NoDyeing | .goesRound, .noNote => kit_ref p4_NoNote p9_NoNote k_NoNote_NoNote k_GoesRound_NoNote | .goesRound, .noSetting => kit_ref p4_NoSetting p9_NoSetting k_NoSetting_NoSetting k_GoesRound_NoSetting | .goesRound, .noTie => kit_ref p4_NoTie p9_NoTie k_NoTie_NoTie k_GoesRound_NoTie | .goesRound, .noWeb => kit_ref p4_NoWeb p9_NoWeb k_NoWeb_NoWeb k_GoesRound_NoWeb | .noDyeing, .goesRound => kit_ref p4_GoesRound p9_GoesRound k_GoesRound_GoesRound k_NoDyeing_GoesRound | .noDyeing, .noDyeing => kit_ref p4_NoDyeing p9_NoDyeing k_NoDyeing_NoDyeing k_NoDyeing_NoDyeing | .noDyeing, .noNote => kit_ref p4_NoNote p9_NoNote k_NoNote_NoNote k_NoDyeing_NoNote | .noDyeing, .noSetting => kit_ref p4_NoSetting p9_NoSetting k_NoSetting_NoSetting k_NoDyeing_NoSetting | .noDyeing, .noTie => kit_ref p4_NoTie p9_NoTie k_NoTie_NoTie k_NoDyeing_NoTie | .noDyeing, .noWeb => kit_ref p4_NoWeb p9_NoWeb k_NoWeb_NoWeb k_NoDyeing_NoWeb | .noNote, .goesRound => kit_ref p4_GoesRound p9_GoesRound k_GoesRound_GoesRound k_NoNote_GoesRound | .noNote, .noDyeing => kit_ref p4_NoDyeing p9_NoDyeing k_NoDyeing_NoDyeing k_NoNote_NoDyeing | .noNote, .noNote => kit_ref p4_NoNote p9_NoNote k_NoNote_NoNote k_NoNote_NoNote | .noNote, .noSetting => kit_ref p4_NoSetting p9_NoSetting k_NoSetting_NoSetting k_NoNote_NoSetting | .noNote, .noTie => kit_ref p4_NoTie p9_NoTie k_NoTie_NoTie k_NoNote_NoTie | .noNote, .noWeb => kit_ref p4_NoWeb p9_NoWeb k_NoWeb_NoWeb k_NoNote_NoWeb | .noSetting, .goesRound => kit_ref p4_GoesRound p9_GoesRound k_GoesRound_GoesRound k_NoSetting_GoesRound | .noSetting, .noDyeing => kit_ref p4_NoDyeing p9_NoDyeing k_NoDyeing_NoDyeing k_NoSetting_NoDyeing | .noSetting, .noNote => kit_ref p4_NoNote p9_NoNote k_NoNote_NoNote k_NoSetting_NoNote | .noSetting, .noSetting => kit_ref p4_NoSetting p9_NoSetting k_NoSetting_NoSetting k_NoSetting_NoSetting | .noSetting, .noTie => kit_ref p4_NoTie p9_NoTie k_NoTie_NoTie k_NoSetting_NoTie | .noSetting, .noWeb => kit_ref p4_NoWeb p9_NoWeb k_NoWeb_NoWeb k_NoSetting_NoWeb | .noTie, .goesRound => kit_ref p4_GoesRound p9_GoesRound k_GoesRound_GoesRound k_NoTie_GoesRound | .noTie, .noDyeing => kit_ref p4_NoDyeing p9_NoDyeing k_NoDyeing_NoDyeing k_NoTie_NoDyeing | .noTie, .noNote => kit_ref p4_NoNote p9_NoNote k_NoNote_NoNote k_NoTie_NoNote | .noTie, .noSetting => kit_ref p4_NoSetting p9_NoSetting k_NoSetting_NoSetting k_NoTie_NoSetting | .noTie, .noTie => kit_ref p4_NoTie p9_NoTie k_NoTie_NoTie k_NoTie_NoTie | .noTie, .noWeb => kit_ref p4_NoWeb p9_NoWeb k_NoWeb_NoWeb k_NoTie_NoWeb | .noWeb, .goesRound => kit_ref p4_GoesRound p9_GoesRound k_GoesRound_GoesRound k_NoWeb_GoesRound | .noWeb, .noDyeing => kit_ref p4_NoDyeing p9_NoDyeing k_NoDyeing_NoDyeing k_NoWeb_NoDyeing | .noWeb, .noNote => kit_ref p4_NoNote p9_NoNote k_NoNote_NoNote k_NoWeb_NoNote | .noWeb, .noSetting => kit_ref p4_NoSetting p9_NoSetting k_NoSetting_NoSetting k_NoWeb_NoSetting | .noWeb, .noTie => kit_ref p4_NoTie p9_NoTie k_NoTie_NoTie k_NoWeb_NoTie | .noWeb, .noWeb => kit_ref p4_NoWeb p9_NoWeb k_NoWeb_NoWeb k_NoWeb_NoWeb), (fun e => match e with | .goesRound => kit_type p7_GoesRound | .noDyeing => kit_type p7_NoDyeing | .noNote => kit_type p7_NoNote | .noSetting => kit_type p7_NoSetting | .noTie => kit_type p7_NoTie | .noWeb => kit_type p7_NoWeb), (fun e => match e with | .goesRound => PySem.W.exm_ref wb wd wt p8_GoesRound | .noDyeing => PySem.W.exm_ref wb wd wt p8_NoDyeing | .noNote => PySem.W.exm_ref wb wd wt p8_NoNote | .noSetting => PySem.W.exm_ref wb wd wt p8_NoSetting | .noTie => PySem.W.exm_ref wb wd wt p8_NoTie | .noWeb => PySem.W.exm_ref wb wd wt p8_NoWeb)⟩ }
  refine ⟨PySem.W.fnOf "law" "law" (defArgs s_law) (defBody s_law) (defScope s_law) .none kV36 dc36 pm36 an36 cd36 ct36, fun s v => .of_eq rfl, fun base _ _ => ?_⟩
  have R_is_web : Fn l.prog w K mg base CX0 1 "is_web" ["points", "ties"] (spO (β := Bool) fun (x : Int × (List (Int × Int)) × Unit) => is_web x.1 x.2.1) := ok_is_web (fun_mk (st := s_is_web) l0 c0 k0) (PySem.W.mg_of X G a0) T 
  have R_asked_web : Fn l.prog w K mg base (L2.CX l.prog w) 2 "asked_web" ["points", "ties"] (spX (clO ad) (β := Unit) fun (x : Int × (List (Int × Int)) × Unit) => asked_web x.1 x.2.1) := ok_asked_web (fun_mk (st := s_asked_web) l1 c1 k1) (PySem.W.mg_of X G a1) T R_is_web
  have R_asked_tie : Fn l.prog w K mg base (L2.CX l.prog w) 3 "asked_tie" ["points", "ties", "tie"] (spX (clO ad) (β := Unit) fun (x : Int × (List (Int × Int)) × (Int × Int) × Unit) => asked_tie x.1 x.2.1 x.2.2.1) := ok_asked_tie (fun_mk (st := s_asked_tie) l2 c2 k2) (PySem.W.mg_of X G a2) T R_asked_web
  have R_without : Fn l.prog w K mg base CX0 1 "without" ["ties", "tie"] (spN (β := (Int × Int)) fun (x : (List (Int × Int)) × (Int × Int) × Unit) => without x.1 x.2.1) := ok_without (fun_mk (st := s_without) l3 c3 k3) (PySem.W.mg_of X G a3) T 
  have R_cut : Fn l.prog w K mg base (L2.CX l.prog w) 4 "cut" ["points", "ties", "tie"] (spXN (clO ad) (β := (Int × Int)) fun (x : Int × (List (Int × Int)) × (Int × Int) × Unit) => cut x.1 x.2.1 x.2.2.1) := ok_cut (fun_mk (st := s_cut) l4 c4 k4) (PySem.W.mg_of X G a4) T R_asked_tie R_without
  have R_named : Fn l.prog w K mg base CX0 1 "named" ["point", "tie"] (spO (β := Int) fun (x : Int × (Int × Int) × Unit) => named x.1 x.2.1) := ok_named (fun_mk (st := s_named) l5 c5 k5) (PySem.W.mg_of X G a5) T 
  have R_put_together : Fn l.prog w K mg base CX0 2 "put_together" ["ties", "tie"] (spN (β := (Int × Int)) fun (x : (List (Int × Int)) × (Int × Int) × Unit) => put_together x.1 x.2.1) := ok_put_together (fun_mk (st := s_put_together) l6 c6 k6) (PySem.W.mg_of X G a6) T R_without R_named
  have R_merged : Fn l.prog w K mg base (L2.CX l.prog w) 4 "merged" ["points", "ties", "tie"] (spXN (clO ad) (β := (Int × Int)) fun (x : Int × (List (Int × Int)) × (Int × Int) × Unit) => merged x.1 x.2.1 x.2.2.1) := ok_merged (fun_mk (st := s_merged) l7 c7 k7) (PySem.W.mg_of X G a7) T R_asked_tie R_put_together
  have R_pieces : Fn l.prog w K mg base (L2.CX l.prog w) 3 "pieces" ["points", "ties"] (spXN (clO ad) (β := (List Int)) fun (x : Int × (List (Int × Int)) × Unit) => pieces x.1 x.2.1) := ok_pieces (fun_mk (st := s_pieces) l8 c8 k8) (PySem.W.mg_of X G a8) T R_asked_web
  have R_beside : Fn l.prog w K mg base (L2.CX l.prog w) 3 "beside" ["points", "ties", "more", "others"] (spXN (clO ad) (β := (Int × Int)) fun (x : Int × (List (Int × Int)) × Int × (List (Int × Int)) × Unit) => beside x.1 x.2.1 x.2.2.1 x.2.2.2.1) := ok_beside (fun_mk (st := s_beside) l9 c9 k9) (PySem.W.mg_of X G a9) T R_asked_web
  have R_row_by : Fn l.prog w K mg base CX0 23 "row_by" ["points", "ties"] (spN (β := Int) fun (x : Int × (List (Int × Int)) × Unit) => row_by x.1 x.2.1) := ok_row_by (fun_mk (st := s_row_by) l10 c10 k10) (PySem.W.mg_of X G a10) T R_put_together 20
  have R_row : Fn l.prog w K mg base (L2.CX l.prog w) 24 "row" ["points", "ties"] (spXN (clO ad) (β := Int) fun (x : Int × (List (Int × Int)) × Unit) => row x.1 x.2.1) := ok_row (fun_mk (st := s_row) l11 c11 k11) (PySem.W.mg_of X G a11) T R_asked_web R_row_by
  have R_worth : Fn l.prog w K mg base CX0 1 "worth" ["numbers", "q"] (spO (β := Int) fun (x : (List Int) × Int × Unit) => worth x.1 x.2.1) := ok_worth (fun_mk (st := s_worth) l12 c12 k12) (PySem.W.mg_of X G a12) T 
  have R_unlike : Fn l.prog w K mg base CX0 1 "unlike" ["ties", "dyes"] (spO (β := Bool) fun (x : (List (Int × Int)) × (List Int) × Unit) => unlike x.1 x.2.1) := ok_unlike (fun_mk (st := s_unlike) l13 c13 k13) (PySem.W.mg_of X G a13) T 
  have R_is_dyeing : Fn l.prog w K mg base (L2.CX l.prog w) 3 "is_dyeing" ["points", "ties", "dyes", "many"] (spX (clO ad) (β := Bool) fun (x : Int × (List (Int × Int)) × (List Int) × Int × Unit) => is_dyeing x.1 x.2.1 x.2.2.1 x.2.2.2.1) := ok_is_dyeing (fun_mk (st := s_is_dyeing) l14 c14 k14) (PySem.W.mg_of X G a14) T R_asked_web R_unlike
  have R_fewest : Fn l.prog w K mg base (L2.CX l.prog w) 25 "fewest" ["points", "ties"] (spX (clO ad) (β := Int) fun (x : Int × (List (Int × Int)) × Unit) => fewest x.1 x.2.1) := ok_fewest (fun_mk (st := s_fewest) l15 c15 k15) (PySem.W.mg_of X G a15) T R_row R_worth
  have R_extended : Fn l.prog w K mg base CX0 11 "extended" ["points", "ties", "many", "dyes"] (spO (β := (Option (List Int))) fun (x : Int × (List (Int × Int)) × Int × (List Int) × Unit) => extended x.1 x.2.1 x.2.2.1 x.2.2.2.1) := ok_extended (fun_mk (st := s_extended) l16 c16 k16) (PySem.W.mg_of X G a16) T 10
  have R_least : Fn l.prog w K mg base (L2.CX l.prog w) 12 "least" ["points", "ties", "many"] (spX (clO ad) (β := (Option (List Int))) fun (x : Int × (List (Int × Int)) × Int × Unit) => least x.1 x.2.1 x.2.2.1) := ok_least (fun_mk (st := s_least) l17 c17 k17) (PySem.W.mg_of X G a17) T R_asked_web R_extended
  have R_asked_setting : Fn l.prog w K mg base (L2.CX l.prog w) 3 "asked_setting" ["points", "ties", "arrows"] (spX (clO ad) (β := Unit) fun (x : Int × (List (Int × Int)) × (List Bool) × Unit) => asked_setting x.1 x.2.1 x.2.2.1) := ok_asked_setting (fun_mk (st := s_asked_setting) l18 c18 k18) (PySem.W.mg_of X G a18) T R_asked_web
  have R_led : Fn l.prog w K mg base CX0 1 "led" ["ties", "arrows"] (spN (β := (Int × Int)) fun (x : (List (Int × Int)) × (List Bool) × Unit) => led x.1 x.2.1) := ok_led (fun_mk (st := s_led) l19 c19 k19) (PySem.W.mg_of X G a19) T 
  have R_ranks_by : Fn l.prog w K mg base CX0 2 "ranks_by" ["points", "ties", "arrows"] (spO (β := (Option (List Int))) fun (x : Int × (List (Int × Int)) × (List Bool) × Unit) => ranks_by x.1 x.2.1 x.2.2.1) := ok_ranks_by (fun_mk (st := s_ranks_by) l20 c20 k20) (PySem.W.mg_of X G a20) T R_led
  have R_goes_round : Fn l.prog w K mg base (L2.CX l.prog w) 4 "goes_round" ["points", "ties", "arrows"] (spX (clO ad) (β := Bool) fun (x : Int × (List (Int × Int)) × (List Bool) × Unit) => goes_round x.1 x.2.1 x.2.2.1) := ok_goes_round (fun_mk (st := s_goes_round) l21 c21 k21) (PySem.W.mg_of X G a21) T R_asked_setting R_ranks_by
  have R_ranks : Fn l.prog w K mg base (L2.CX l.prog w) 4 "ranks" ["points", "ties", "arrows"] (spX (clO ad) (β := (List Int)) fun (x : Int × (List (Int × Int)) × (List Bool) × Unit) => ranks x.1 x.2.1 x.2.2.1) := ok_ranks (fun_mk (st := s_ranks) l22 c22 k22) (PySem.W.mg_of X G a22) T R_asked_setting R_ranks_by
  have R_setting_of : Fn l.prog w K mg base (L2.CX l.prog w) 3 "setting_of" ["points", "ties", "dyes"] (spXN (clO ad) (β := Bool) fun (x : Int × (List (Int × Int)) × (List Int) × Unit) => setting_of x.1 x.2.1 x.2.2.1) := ok_setting_of (fun_mk (st := s_setting_of) l23 c23 k23) (PySem.W.mg_of X G a23) T R_asked_web R_unlike
  have R_flattest : Fn l.prog w K mg base (L2.CX l.prog w) 26 "flattest" ["points", "ties"] (spX (clO ad) (β := (List Bool)) fun (x : Int × (List (Int × Int)) × Unit) => flattest x.1 x.2.1) := ok_flattest (fun_mk (st := s_flattest) l24 c24 k24) (PySem.W.mg_of X G a24) T R_setting_of R_least R_fewest
  have R_settings : Fn l.prog w K mg base (L2.CX l.prog w) 25 "settings" ["points", "ties"] (spX (clO ad) (β := Int) fun (x : Int × (List (Int × Int)) × Unit) => settings x.1 x.2.1) := ok_settings (fun_mk (st := s_settings) l25 c25 k25) (PySem.W.mg_of X G a25) T R_worth R_row
  have R_from_spring : Fn l.prog w K mg base (L2.CX l.prog w) 25 "from_spring" ["points", "ties", "point"] (spX (clO ad) (β := Int) fun (x : Int × (List (Int × Int)) × Int × Unit) => from_spring x.1 x.2.1 x.2.2.1) := ok_from_spring (fun_mk (st := s_from_spring) l26 c26 k26) (PySem.W.mg_of X G a26) T R_row
  have R_pairs : Fn l.prog w K mg base (L2.CX l.prog w) 25 "pairs" ["points", "ties", "q"] (spX (clO ad) (β := Int) fun (x : Int × (List (Int × Int)) × Int × Unit) => pairs x.1 x.2.1 x.2.2.1) := ok_pairs (fun_mk (st := s_pairs) l27 c27 k27) (PySem.W.mg_of X G a27) T R_worth R_row
  have R_unbroken : Fn l.prog w K mg base (L2.CX l.prog w) 25 "unbroken" ["points", "ties", "many"] (spX (clO ad) (β := Int) fun (x : Int × (List (Int × Int)) × Int × Unit) => unbroken x.1 x.2.1 x.2.2.1) := ok_unbroken (fun_mk (st := s_unbroken) l28 c28 k28) (PySem.W.mg_of X G a28) T R_row
  have R_shown : Fn l.prog w K mg base (L2.CX l.prog w) 3 "shown" ["points", "ties"] (spX (clO ad) (β := Int) fun (x : Int × (List (Int × Int)) × Unit) => shown x.1 x.2.1) := ok_shown (fun_mk (st := s_shown) l29 c29 k29) (PySem.W.mg_of X G a29) T R_asked_web
  have R_cell_at : Fn l.prog w K mg base CX0 1 "_law_cell_at" ["script", "k"] (spO (β := Int) fun (x : (Scr K) × Int × Unit) => cell_at x.1.l x.2.1) := ok_cell_at (fun_mk (st := s_cell_at) l30 c30 k30) (PySem.W.mg_of X G a30) T 
  have R_next : Fn l.prog w K mg base CX0 1 "_law_next" ["seed"] (spO (β := Int) fun (x : Int × Unit) => next x.1) := ok_next (fun_mk (st := s_next) l31 c31 k31) (PySem.W.mg_of X G a31) T 
  have R_web_by : Fn l.prog w K mg base CX0 2 "_law_web_by" ["script", "k", "most", "cap"] (spO (β := (Int × (List (Int × Int)))) fun (x : (Scr K) × Int × Int × Int × Unit) => web_by x.1.l x.2.1 x.2.2.1 x.2.2.2.1) := ok_web_by (fun_mk (st := s_web_by) l32 c32 k32) (PySem.W.mg_of X G a32) T R_cell_at R_next
  have R_spoilt : Fn l.prog w K mg base CX0 1 "_law_spoilt" ["ties", "way", "cell"] (spO (β := (List (Int × Int))) fun (x : (List (Int × Int)) × Int × Int × Unit) => spoilt x.1 x.2.1 x.2.2.1) := ok_spoilt (fun_mk (st := s_spoilt) l33 c33 k33) (PySem.W.mg_of X G a33) T 
  have R_first_eight : Fn l.prog w K mg base (L2.CX l.prog w) 26 "_law_first_eight" ["which", "points", "ties"] (spX (clO ad) (β := Unit) fun (x : Int × Int × (List (Int × Int)) × Unit) => first_eight x.1 x.2.1 x.2.2.1) := ok_first_eight (fun_mk (st := s_first_eight) l34 c34 k34) (PySem.W.mg_of X G a34) T R_pieces R_beside R_row R_is_dyeing R_fewest R_least R_shown
  have R_others : Fn l.prog w K mg base (L2.CX l.prog w) 27 "_law_others" ["which", "points", "ties", "tints"] (spX (clO ad) (β := Unit) fun (x : Int × Int × (List (Int × Int)) × (List Int) × Unit) => others x.1 x.2.1 x.2.2.1 x.2.2.2.1) := ok_others (fun_mk (st := s_others) l35 c35 k35) (PySem.W.mg_of X G a35) T R_goes_round R_ranks R_setting_of R_flattest R_settings R_from_spring R_pairs R_unbroken R_cut R_merged
  exact ok_law (fun_mk (st := s_law) l36 c36 k36) (PySem.W.mg_of X G a36) T R_web_by R_cell_at R_spoilt R_next R_first_eight R_others
theorem walk {l : PySem.W.OpenLaw} {q : Program} {loose : List Str} {XP : (Str → Option Value) → Heap → Prop} {YP : World → Heap → Prop} {d : DefRec} {K : Params → PySem.W.Frag} (hn : l.most = some 63) (hdf : d.params.defaults = [])
    (hY : ∀ (w : World) (h : Heap), YP w h → (K w.params).In h)
    (F : ∀ (w : World) (mg : Str → Option Value) (fa : Addr) (h : Heap), (K w.params).In h → h.Ns mainGlobals mg → mg d.name = some (.ref fa) →
      ∃ fd : FuncData, (∀ (s : Shared) (u : Value), BindsTo s fd ⟨[u], []⟩ [("script", u)]) ∧ ∀ base : Heap, (K w.params).In base → base.Ns mainGlobals mg → FnOk l.prog w (K w.params) mg base CX0 28 fa fd ["script"] (let K := K w.params; (spO (β := Bool) fun (x : (Scr K) × Unit) => law x.1.l))) :
    PySem.W.WalkO q loose XP YP l.row.toRowW d [] (fun f vs => PySem.call f vs) :=
  L2.walk_of (n := 63) (k := 28) (x := "script") (CX := fun _ => CX0) (sp := fun w => (let K := K w.params; (spO (β := Bool) fun (x : (Scr K) × Unit) => law x.1.l))) hn (by decide) hdf ⟨rfl, by decide, by decide⟩ hY F
    (fun _ H a ns hl _ hS => ⟨H, (⟨ns⟩, ()), true, .refl H, ⟨.ref a, [], rfl, ⟨a, rfl, hS⟩, rfl⟩, law_true ns hl, fun v F' H' l r => r⟩) fun _ _ _ _ _ z => z
end Q
open PySem PySem.W PyProof.Rows in
set_option maxRecDepth 100000 in
set_option maxHeartbeats 0 in
theorem PySem.Challenge.cw_dyeweb_k18_no_web_holds : PySem.Challenge.rw_dyeweb_k18_no_web.Holds := by
  w_on; o_law; k_head; (case hw => w_witness2)
  k_fill
  refine Q.walk (l := PySem.Challenge.rw_dyeweb_k18_no_web) rfl rfl (fun w h Y => PySem.W.kIn_of Y) ?F
  case F =>
    intro w mg fa h KX G hmg
    refine' Q.all_mk KX G hmg ?a0 ?l0 ?c0 ?k0 ?a1 ?l1 ?c1 ?k1 ?a2 ?l2 ?c2 ?k2 ?a3 ?l3 ?c3 ?k3 ?a4 ?l4 ?c4 ?k4 ?a5 ?l5 ?c5 ?k5 ?a6 ?l6 ?c6 ?k6 ?a7 ?l7 ?c7 ?k7 ?a8 ?l8 ?c8 ?k8 ?a9 ?l9 ?c9 ?k9 ?a10 ?l10 ?c10 ?k10 ?a11 ?l11 ?c11 ?k11 ?a12 ?l12 ?c12 ?k12 ?a13 ?l13 ?c13 ?k13 ?a14 ?l14 ?c14 ?k14 ?a15 ?l15 ?c15 ?k15 ?a16 ?l16 ?c16 ?k16 ?a17 ?l17 ?c17 ?k17 ?a18 ?l18 ?c18 ?k18 ?a19 ?l19 ?c19 ?k19 ?a20 ?l20 ?c20 ?k20 ?a21 ?l21 ?c21 ?k21 ?a22 ?l22 ?c22 ?k22 ?a23 ?l23 ?c23 ?k23 ?a24 ?l24 ?c24 ?k24 ?a25 ?l25 ?c25 ?k25 ?a26 ?l26 ?c26 ?k26 ?a27 ?l27 ?c27 ?k27 ?a28 ?l28 ?c28 ?k28 ?a29 ?l29 ?c29 ?k29 ?a30 ?l30 ?c30 ?k30 ?a31 ?l31 ?c31 ?k31 ?a32 ?l32 ?c32 ?k32 ?a33 ?l33 ?c33 ?k33 ?a34 ?l34 ?c34 ?k34 ?a35 ?l35 ?c35 ?k35 ?a36 ?l36 ?c36 ?k36 ?b_ValueError ?b_abs ?b_isinstance ?b_len ?b_list ?b_max ?b_min ?b_range ?b_reversed ?b_sorted ?b_zip ?g_MOST_POINTS ?g_MOST_TIES ?ga_GoesRound ?xa_GoesRound ?xk_GoesRound ?xb_GoesRound ?xt_GoesRound ?ga_NoDyeing ?xa_NoDyeing ?xk_NoDyeing ?xb_NoDyeing ?xt_NoDyeing ?ga_NoNote ?ga_NoSetting ?xa_NoSetting ?xk_NoSetting ?xb_NoSetting ?xt_NoSetting ?ga_NoTie ?xa_NoTie ?xk_NoTie ?xb_NoTie ?xt_NoTie ?ga_NoWeb ?xa_NoWeb ?xk_NoWeb ?xb_NoWeb ?xt_NoWeb ?ga_WebError ?wb ?wd ?wt ?hn ?ht ?p1_GoesRound ?p2_GoesRound ?p3_GoesRound ?p4_GoesRound ?p5_GoesRound ?p6_GoesRound ?p7_GoesRound ?p8_GoesRound ?p9_GoesRound ?k_GoesRound_GoesRound ?k_GoesRound_NoDyeing ?k_GoesRound_NoNote ?k_GoesRound_NoSetting ?k_GoesRound_NoTie ?k_GoesRound_NoWeb ?p1_NoDyeing ?p2_NoDyeing ?p3_NoDyeing ?p4_NoDyeing ?p5_NoDyeing ?p6_NoDyeing ?p7_NoDyeing ?p8_NoDyeing ?p9_NoDyeing ?k_NoDyeing_GoesRound ?k_NoDyeing_NoDyeing ?k_NoDyeing_NoNote ?k_NoDyeing_NoSetting ?k_NoDyeing_NoTie ?k_NoDyeing_NoWeb ?p1_NoNote ?p2_NoNote ?p3_NoNote ?p4_NoNote ?p5_NoNote ?p6_NoNote ?p7_NoNote ?p8_NoNote ?p9_NoNote ?k_NoNote_GoesRound ?k_NoNote_NoDyeing ?k_NoNote_NoNote ?k_NoNote_NoSetting ?k_NoNote_NoTie ?k_NoNote_NoWeb ?p1_NoSetting ?p2_NoSetting ?p3_NoSetting ?p4_NoSetting ?p5_NoSetting ?p6_NoSetting ?p7_NoSetting ?p8_NoSetting ?p9_NoSetting ?k_NoSetting_GoesRound ?k_NoSetting_NoDyeing ?k_NoSetting_NoNote ?k_NoSetting_NoSetting ?k_NoSetting_NoTie ?k_NoSetting_NoWeb ?p1_NoTie ?p2_NoTie ?p3_NoTie ?p4_NoTie ?p5_NoTie ?p6_NoTie ?p7_NoTie ?p8_NoTie ?p9_NoTie ?k_NoTie_GoesRound ?k_NoTie_NoDyeing ?k_NoTie_NoNote ?k_NoTie_NoSetting ?k_NoTie_NoTie ?k_NoTie_NoWeb ?p1_NoWeb ?p2_NoWeb ?p3_NoWeb ?p4_NoWeb ?p5_NoWeb ?p6_NoWeb ?p7_NoWeb ?p8_NoWeb ?p9_NoWeb ?k_NoWeb_GoesRound ?k_NoWeb_NoDyeing ?k_NoWeb_NoNote ?k_NoWeb_NoSetting ?k_NoWeb_NoTie ?k_NoWeb_NoWeb
    (case a0 => k_is)
    (case l0 => k_is)
    (case c0 => k_is)
    (case k0 => k_is)
    (case a1 => k_is)
    (case l1 => k_is)
    (case c1 => k_is)
    (case k1 => k_is)
    (case a2 => k_is)
    (case l2 => k_is)
    (case c2 => k_is)
    (case k2 => k_is)
    (case a3 => k_is)
    (case l3 => k_is)
    (case c3 => k_is)
    (case k3 => k_is)
    (case a4 => k_is)
    (case l4 => k_is)
    (case c4 => k_is)
    (case k4 => k_is)
    (case a5 => k_is)
    (case l5 => k_is)
    (case c5 => k_is)
    (case k5 => k_is)
    (case a6 => k_is)
    (case l6 => k_is)
    (case c6 => k_is)
    (case k6 => k_is)
    (case a7 => k_is)
    (case l7 => k_is)
    (case c7 => k_is)
    (case k7 => k_is)
    (case a8 => k_is)
    (case l8 => k_is)
    (case c8 => k_is)
    (case k8 => k_is)
    (case a9 => k_is)
    (case l9 => k_is)
    (case c9 => k_is)
    (case k9 => k_is)
    (case a10 => k_is)
    (case l10 => k_is)
    (case c10 => k_is)
    (case k10 => k_is)
    (case a11 => k_is)
    (case l11 => k_is)
    (case c11 => k_is)
    (case k11 => k_is)
    (case a12 => k_is)
    (case l12 => k_is)
    (case c12 => k_is)
    (case k12 => k_is)
    (case a13 => k_is)
    (case l13 => k_is)
    (case c13 => k_is)
    (case k13 => k_is)
    (case a14 => k_is)
    (case l14 => k_is)
    (case c14 => k_is)
    (case k14 => k_is)
    (case a15 => k_is)
    (case l15 => k_is)
    (case c15 => k_is)
    (case k15 => k_is)
    (case a16 => k_is)
    (case l16 => k_is)
    (case c16 => k_is)
    (case k16 => k_is)
    (case a17 => k_is)
    (case l17 => k_is)
    (case c17 => k_is)
    (case k17 => k_is)
    (case a18 => k_is)
    (case l18 => k_is)
    (case c18 => k_is)
    (case k18 => k_is)
    (case a19 => k_is)
    (case l19 => k_is)
    (case c19 => k_is)
    (case k19 => k_is)
    (case a20 => k_is)
    (case l20 => k_is)
    (case c20 => k_is)
    (case k20 => k_is)
    (case a21 => k_is)
    (case l21 => k_is)
    (case c21 => k_is)
    (case k21 => k_is)
    (case a22 => k_is)
    (case l22 => k_is)
    (case c22 => k_is)
    (case k22 => k_is)
    (case a23 => k_is)
    (case l23 => k_is)
    (case c23 => k_is)
    (case k23 => k_is)
    (case a24 => k_is)
    (case l24 => k_is)
    (case c24 => k_is)
    (case k24 => k_is)
    (case a25 => k_is)
    (case l25 => k_is)
    (case c25 => k_is)
    (case k25 => k_is)
    (case a26 => k_is)
    (case l26 => k_is)
    (case c26 => k_is)
    (case k26 => k_is)
    (case a27 => k_is)
    (case l27 => k_is)
    (case c27 => k_is)
    (case k27 => k_is)
    (case a28 => k_is)
    (case l28 => k_is)
    (case c28 => k_is)
    (case k28 => k_is)
    (case a29 => k_is)
    (case l29 => k_is)
    (case c29 => k_is)
    (case k29 => k_is)
    (case a30 => k_is)
    (case l30 => k_is)
    (case c30 => k_is)
    (case k30 => k_is)
    (case a31 => k_is)
    (case l31 => k_is)
    (case c31 => k_is)
    (case k31 => k_is)
    (case a32 => k_is)
    (case l32 => k_is)
    (case c32 => k_is)
    (case k32 => k_is)
    (case a33 => k_is)
    (case l33 => k_is)
    (case c33 => k_is)
    (case k33 => k_is)
    (case a34 => k_is)
    (case l34 => k_is)
    (case c34 => k_is)
    (case k34 => k_is)
    (case a35 => k_is)
    (case l35 => k_is)
    (case c35 => k_is)
    (case k35 => k_is)
    (case a36 => k_is)
    (case l36 => k_is)
    (case c36 => k_is)
    (case k36 => k_is)
    (case b_ValueError => k_is)
    (case b_abs => k_is)
    (case b_isinstance => k_is)
    (case b_len => k_is)
    (case b_list => k_is)
    (case b_max => k_is)
    (case b_min => k_is)
    (case b_range => k_is)
    (case b_reversed => k_is)
    (case b_sorted => k_is)
    (case b_zip => k_is)
    (case g_MOST_POINTS => k_is)
    (case g_MOST_TIES => k_is)
    (case ga_GoesRound => k_is)
    (case xa_GoesRound => k_exc)
    (case xk_GoesRound => k_is)
    (case xb_GoesRound => k_is)
    (case xt_GoesRound => k_is)
    (case ga_NoDyeing => k_is)
    (case xa_NoDyeing => k_exc)
    (case xk_NoDyeing => k_is)
    (case xb_NoDyeing => k_is)
    (case xt_NoDyeing => k_is)
    (case ga_NoNote => k_is)
    (case ga_NoSetting => k_is)
    (case xa_NoSetting => k_exc)
    (case xk_NoSetting => k_is)
    (case xb_NoSetting => k_is)
    (case xt_NoSetting => k_is)
    (case ga_NoTie => k_is)
    (case xa_NoTie => k_exc)
    (case xk_NoTie => k_is)
    (case xb_NoTie => k_is)
    (case xt_NoTie => k_is)
    (case ga_NoWeb => k_is)
    (case xa_NoWeb => k_exc)
    (case xk_NoWeb => k_is)
    (case xb_NoWeb => k_is)
    (case xt_NoWeb => k_is)
    (case ga_WebError => k_is)
    (case wb => k_is)
    (case wd => k_is)
    (case wt => k_is)
    (case hn => k_is)
    (case ht => k_is)
    (case p1_GoesRound => k_is)
    (case p2_GoesRound => k_is)
    (case p3_GoesRound => k_is)
    (case p4_GoesRound => k_is)
    (case p5_GoesRound => k_is)
    (case p6_GoesRound => k_is)
    (case p7_GoesRound => k_is)
    (case p8_GoesRound => k_is)
    (case p9_GoesRound => k_is)
    (case k_GoesRound_GoesRound => k_is)
    (case k_GoesRound_NoDyeing => k_is)
    (case k_GoesRound_NoNote => k_is)
    (case k_GoesRound_NoSetting => k_is)
    (case k_GoesRound_NoTie => k_is)
    (case k_GoesRound_NoWeb => k_is)
    (case p1_NoDyeing => k_is)
    (case p2_NoDyeing => k_is)
    (case p3_NoDyeing => k_is)
    (case p4_NoDyeing => k_is)
    (case p5_NoDyeing => k_is)
    (case p6_NoDyeing => k_is)
    (case p7_NoDyeing => k_is)
    (case p8_NoDyeing => k_is)
    (case p9_NoDyeing => k_is)
    (case k_NoDyeing_GoesRound => k_is)
    (case k_NoDyeing_NoDyeing => k_is)
    (case k_NoDyeing_NoNote => k_is)
    (case k_NoDyeing_NoSetting => k_is)
    (case k_NoDyeing_NoTie => k_is)
    (case k_NoDyeing_NoWeb => k_is)
    (case p1_NoNote => k_is)
    (case p2_NoNote => k_is)
    (case p3_NoNote => k_is)
    (case p4_NoNote => k_is)
    (case p5_NoNote => k_is)
    (case p6_NoNote => k_is)
    (case p7_NoNote => k_is)
    (case p8_NoNote => k_is)
    (case p9_NoNote => k_is)
    (case k_NoNote_GoesRound => k_is)
    (case k_NoNote_NoDyeing => k_is)
    (case k_NoNote_NoNote => k_is)
    (case k_NoNote_NoSetting => k_is)
    (case k_NoNote_NoTie => k_is)
    (case k_NoNote_NoWeb => k_is)
    (case p1_NoSetting => k_is)
    (case p2_NoSetting => k_is)
    (case p3_NoSetting => k_is)
    (case p4_NoSetting => k_is)
    (case p5_NoSetting => k_is)
    (case p6_NoSetting => k_is)
    (case p7_NoSetting => k_is)
    (case p8_NoSetting => k_is)
    (case p9_NoSetting => k_is)
    (case k_NoSetting_GoesRound => k_is)
    (case k_NoSetting_NoDyeing => k_is)
    (case k_NoSetting_NoNote => k_is)
    (case k_NoSetting_NoSetting => k_is)
    (case k_NoSetting_NoTie => k_is)
    (case k_NoSetting_NoWeb => k_is)
    (case p1_NoTie => k_is)
    (case p2_NoTie => k_is)
    (case p3_NoTie => k_is)
    (case p4_NoTie => k_is)
    (case p5_NoTie => k_is)
    (case p6_NoTie => k_is)
    (case p7_NoTie => k_is)
    (case p8_NoTie => k_is)
    (case p9_NoTie => k_is)
    (case k_NoTie_GoesRound => k_is)
    (case k_NoTie_NoDyeing => k_is)
    (case k_NoTie_NoNote => k_is)
    (case k_NoTie_NoSetting => k_is)
    (case k_NoTie_NoTie => k_is)
    (case k_NoTie_NoWeb => k_is)
    (case p1_NoWeb => k_is)
    (case p2_NoWeb => k_is)
    (case p3_NoWeb => k_is)
    (case p4_NoWeb => k_is)
    (case p5_NoWeb => k_is)
    (case p6_NoWeb => k_is)
    (case p7_NoWeb => k_is)
    (case p8_NoWeb => k_is)
    (case p9_NoWeb => k_is)
    (case k_NoWeb_GoesRound => k_is)
    (case k_NoWeb_NoDyeing => k_is)
    (case k_NoWeb_NoNote => k_is)
    (case k_NoWeb_NoSetting => k_is)
    (case k_NoWeb_NoTie => k_is)
    (case k_NoWeb_NoWeb => k_is)
#print axioms PySem.Challenge.cw_dyeweb_k18_no_web_holds
