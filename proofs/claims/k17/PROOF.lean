import PyProof.Rows.All
import Wide.All
import OpenK.AllK
import Wide.FinOn
import HandS.ForMost
import HandS.ForExc
import HandS.Wide
import HandS.Deep
import HandS.Walk
import HandS.TupLe
import HandS.TupSets
import HandS.Conv
import HandS.Style
import HandS.IsInst
import HandS.SortRule
import PyProof.Rows.Chain
import HandS.ExcIs
import HandS.More
import HandS.SortKw
import HandS.Text
import HandS.Codes
import PyProof.CompFree
import PySem.Challenge.RW_dyeweb_k17_read_or_refused
/-! The words that the mirrors are written in: plain Lean, no library. -/
namespace Dv
set_option linter.all false
variable {α β S R : Type}
/-- what leaves a loop's turn -/
inductive Stp (S R : Type) where
  | go (s : S)
  | ret (r : R)
def Stp.elim {T : Type} (st : Stp S R) (f : S → T) (g : R → T) : T := match st with
  | .go s => f s
  | .ret r => g r
@[simp] theorem Stp.elim_go {T : Type} (s : S) (f : S → T) (g : R → T) : (Stp.go s : Stp S R).elim f g = f s := rfl
@[simp] theorem Stp.elim_ret {T : Type} (r : R) (f : S → T) (g : R → T) : (Stp.ret r : Stp S R).elim f g = g r := rfl
def loopG (f : S → α → Option S) : S → List α → Option S
  | s, [] => some s
  | s, x :: xs => (f s x).bind fun s' => loopG f s' xs
def loopR (f : S → α → Option (Stp S R)) : S → List α → Option (Stp S R)
  | s, [] => some (.go s)
  | s, x :: xs => (f s x).bind fun st => st.elim (fun s' => loopR f s' xs) fun r => some (.ret r)
def whileG (c : S → Option Bool) (f : S → Option S) : Nat → S → Option S
  | 0, _ => none
  | n + 1, s => (c s).bind fun b => if b then (f s).bind fun s' => whileG c f n s' else some s
def whileR (c : S → Option Bool) (f : S → Option (Stp S R)) : Nat → S → Option (Stp S R)
  | 0, _ => none
  | n + 1, s => (c s).bind fun b => if b then (f s).bind fun st => st.elim (fun s' => whileR c f n s') fun r => some (.ret r) else some (.go s)
def lcG (c : α → Option Bool) (f : α → Option β) : List α → Option (List β)
  | [] => some []
  | x :: xs => (c x).bind fun b => if b then (f x).bind fun y => (lcG c f xs).bind fun ys => some (y :: ys) else lcG c f xs
/-- a list comprehension over a list that is not too long -/
def lc (c : α → Option Bool) (f : α → Option β) (xs : List α) : Option (List β) := if xs.length < 10000000 then lcG c f xs else none
def ixZ (n : Nat) (i : Int) : Option Nat := if 0 ≤ i then (if i < n then some i.toNat else none) else if -(n : Int) ≤ i then some (i + n).toNat else none
def atZ (xs : List α) (i : Int) : Option α := (ixZ xs.length i).bind fun j => xs[j]?
def setZ (xs : List α) (i : Int) (x : α) : Option (List α) := (ixZ xs.length i).bind fun j => some (xs.set j x)
def rng (a b : Int) : Option (List Int) := if (-4000000000000000000 ≤ a ∧ a ≤ 4000000000000000000) ∧ (-4000000000000000000 ≤ b ∧ b ≤ 4000000000000000000) then some ((List.range (b - a).toNat).map fun i => a + (i : Nat)) else none
def mulZ (i j : Int) : Option Int := if (-(2 ^ 64) < i ∧ i < 2 ^ 64) ∨ (-(2 ^ 64) < j ∧ j < 2 ^ 64) then some (i * j) else none
def divZ (i j : Int) : Option Int := if 0 < j ∧ j < 1073741824 then some (i / j) else none
def divW (i j : Int) : Option Int := if 0 < j ∧ j.natAbs.log2 < 9000 then some (i / j) else none
def modZ (i j : Int) : Option Int := if 0 < j then some (i % j) else none
def addL (xs : List α) (y : α) : Option (List α) := if xs.length < 10000000 then some (xs ++ [y]) else none
def catL (xs ys : List α) : Option (List α) := if xs.length + ys.length ≤ 10000000 then some (xs ++ ys) else none
def cutIx (n d : Nat) : Option Int → Nat
  | none => d
  | some i => if i < 0 then (i + n).toNat else min i.toNat n
def memL [DecidableEq α] (x : α) (xs : List α) : Bool := decide (x ∈ xs)
/-- a part of a list -/
def cutZ (xs : List α) (lo hi : Option Int) : List α := (xs.drop (cutIx xs.length 0 lo)).take (cutIx xs.length xs.length hi - cutIx xs.length 0 lo)
/-- the order of pairs -/
def leP (a b : Int × Int) : Bool := if a.1 = b.1 then decide (a.2 ≤ b.2) else decide (a.1 ≤ b.1)
def ins {γ : Type} (le : γ → γ → Bool) (x : γ) : List γ → List γ
  | [] => [x]
  | y :: ys => if le x y then x :: y :: ys else y :: ins le x ys
def srt {γ : Type} (le : γ → γ → Bool) : List γ → List γ
  | [] => []
  | x :: xs => ins le x (srt le xs)
end Dv
namespace Dv
theorem leP_total (a b : Int × Int) : leP a b = true ∨ leP b a = true := by
  unfold leP
  by_cases h : a.1 = b.1
  · simp only [h, ↓reduceIte, decide_eq_true_eq]
    omega
  · have h' : ¬ b.1 = a.1 := fun e => h e.symm
    simp only [h, h', ↓reduceIte, decide_eq_true_eq]
    omega
theorem leP_trans {a b c : Int × Int} (h1 : leP a b = true) (h2 : leP b c = true) : leP a c = true := by
  unfold leP at *
  split at h1 <;> split at h2 <;> split <;> simp_all <;> omega
theorem leP_anti {a b : Int × Int} (h1 : leP a b = true) (h2 : leP b a = true) : a = b := by
  obtain ⟨a1, a2⟩ := a
  obtain ⟨b1, b2⟩ := b
  unfold leP at *
  dsimp only at *
  split at h1 <;> split at h2 <;> simp_all <;> omega
/-- a total order -/
structure Ord {γ : Type} (le : γ → γ → Bool) : Prop where
  total : ∀ a b, le a b = true ∨ le b a = true
  trans : ∀ a b c, le a b = true → le b c = true → le a c = true
  anti : ∀ a b, le a b = true → le b a = true → a = b
theorem ordP : Ord leP := ⟨leP_total, fun _ _ _ => leP_trans, fun _ _ => leP_anti⟩
def leI (a b : Int) : Bool := decide (a ≤ b)
theorem ordI : Ord leI := ⟨fun a b => by simp only [leI, decide_eq_true_eq]; omega, fun a b c => by simp only [leI, decide_eq_true_eq]; omega, fun a b => by simp only [leI, decide_eq_true_eq]; omega⟩
section
variable {γ : Type} {le : γ → γ → Bool}
theorem ins_perm (x : γ) : ∀ l, (ins le x l).Perm (x :: l)
  | [] => .refl _
  | y :: l => by
    unfold ins
    split
    · exact .refl _
    · exact ((ins_perm x l).cons y).trans (List.Perm.swap x y l)
theorem srt_perm : ∀ l, (srt le l).Perm l
  | [] => .refl _
  | x :: l => (ins_perm x _).trans ((srt_perm l).cons x)
theorem ins_sorted (O : Ord le) (x : γ) : ∀ l, l.Pairwise (fun a b => le a b = true) → (ins le x l).Pairwise (fun a b => le a b = true)
  | [], _ => by simp [ins]
  | y :: l, h => by
    unfold ins
    by_cases c : le x y = true
    · rw [if_pos c]
      refine List.pairwise_cons.mpr ⟨fun z hz => ?_, h⟩
      rcases List.mem_cons.mp hz with rfl | hz
      · exact c
      · exact O.trans _ _ _ c ((List.pairwise_cons.mp h).1 z hz)
    · rw [if_neg c]
      refine List.pairwise_cons.mpr ⟨fun z hz => ?_, ins_sorted O x l (List.pairwise_cons.mp h).2⟩
      rcases List.mem_cons.mp ((ins_perm x l).mem_iff.mp hz) with rfl | hz
      · rcases O.total z y with q | q
        · exact absurd q c
        · exact q
      · exact (List.pairwise_cons.mp h).1 z hz
theorem srt_sorted (O : Ord le) : ∀ l, (srt le l).Pairwise (fun a b => le a b = true)
  | [] => .nil
  | x :: l => ins_sorted O x _ (srt_sorted O l)
theorem sorted_uniq (O : Ord le) : ∀ {l m : List γ}, l.Perm m → l.Pairwise (fun a b => le a b = true) → m.Pairwise (fun a b => le a b = true) → l = m
  | [], m, h, _, _ => (List.Perm.eq_nil h.symm).symm
  | x :: l, [], h, _, _ => absurd h.length_eq (by simp)
  | x :: l, y :: m, h, hl, hm => by
    have e : x = y := by
      rcases List.mem_cons.mp (h.mem_iff.mp (List.mem_cons_self (a := x) (l := l))) with e | hx
      · exact e
      · rcases List.mem_cons.mp (h.mem_iff.mpr (List.mem_cons_self (a := y) (l := m))) with e | hy
        · exact e.symm
        · exact O.anti _ _ ((List.pairwise_cons.mp hl).1 y hy) ((List.pairwise_cons.mp hm).1 x hx)
    subst e
    rw [sorted_uniq O h.cons_inv (List.pairwise_cons.mp hl).2 (List.pairwise_cons.mp hm).2]
theorem srt_uniq (O : Ord le) {l m : List γ} (h : l.Perm m) (hl : l.Pairwise (fun a b => le a b = true)) : l = srt le m :=
  sorted_uniq O (h.trans (srt_perm m).symm) hl (srt_sorted O m)
end
/-- keys of a dict, in the order in which they came -/
def putD {γ : Type} [DecidableEq γ] (ks : List γ) (k : γ) : List γ := if k ∈ ks then ks else ks ++ [k]
end Dv
namespace Dv
/-- the program's refusals -/
inductive Er where
  | noWeb | noTie | noDyeing | noSetting | goesRound | noNote
deriving DecidableEq
abbrev Rs (α : Type) := Option (Except Er α)
def exB {α β : Type} (y : Except Er α) (k : α → Rs β) : Rs β := match y with
  | .ok x => k x
  | .error e => some (.error e)
@[simp] theorem exB_ok {α β : Type} (x : α) (k : α → Rs β) : exB (.ok x) k = k x := rfl
@[simp] theorem exB_error {α β : Type} (e : Er) (k : α → Rs β) : exB (.error e : Except Er α) k = some (.error e) := rfl
/-- an answer that is no refusal -/
def noX {α : Type} (m : Rs α) : Option α := m.bind fun y => match y with
  | .ok x => some x
  | .error _ => none
@[simp] theorem noX_ok {α : Type} (x : α) : noX (some (.ok x) : Rs α) = some x := rfl
/-- try .. except -/
def trX {α β : Type} (m : Rs α) (f : α → Option β) (k : Er → Option β) : Option β := m.bind fun y => match y with
  | .ok x => f x
  | .error e => k e
@[simp] theorem trX_ok {α β : Type} (x : α) (f : α → Option β) (k : Er → Option β) : trX (some (.ok x) : Rs α) f k = f x := rfl
@[simp] theorem trX_error {α β : Type} (e : Er) (f : α → Option β) (k : Er → Option β) : trX (some (.error e) : Rs α) f k = k e := rfl
def isE (e c : Er) : Bool := decide (e = c)
end Dv
namespace Dv
def srtI (xs : List Int) : Option (List Int) := if xs.length < 64 then some (srt leI xs) else none
/-- list(range(n)) -/
def lrng (n : Int) : Option (List Int) := if -4611686018427387904 ≤ n ∧ n ≤ 10000000 then some ((List.range n.toNat).map fun i => ((i : Nat) : Int)) else none
def putDZ (ks : List (Int × Int)) (t : Int × Int) : Option (List (Int × Int)) := if ks.length < 10000000 then some (putD ks t) else none
end Dv
namespace Dv
/-- a list of two of unlike kinds -/
structure Duo (α β : Type) where
  a : α
  b : β
end Dv
namespace Dv
instance {α β : Type} [DecidableEq α] [DecidableEq β] : DecidableEq (Duo α β) := fun x y => decidable_of_iff (x.a = y.a ∧ x.b = y.b) ⟨fun ⟨h1, h2⟩ => by cases x; cases y; cases h1; cases h2; rfl, fun h => by rw [h]; exact ⟨rfl, rfl⟩⟩
end Dv
namespace Dv
def insZ {α : Type} (xs : List α) (i : Int) (y : α) : Option (List α) := if xs.length < 10000000 ∧ 0 ≤ i ∧ i < 4611686018427387904 then some (xs.take i.toNat ++ [y] ++ xs.drop i.toNat) else none
/-- xs.index(x) -/
def idxZ (xs : List Int) (x : Int) : Option Int := if x ∈ xs then some (xs.idxOf x : Int) else none
def isL {α β : Type} : Option (α ⊕ β) → Bool
  | some (.inl _) => true
  | _ => false
def unL {α β : Type} : Option (α ⊕ β) → Option α
  | some (.inl x) => some x
  | _ => none
def unR {α β : Type} : Option (α ⊕ β) → Option β
  | some (.inr x) => some x
  | _ => none
end Dv
namespace Dv
/-- the greatest of a list, or d -/
def mxD : List Int → Int → Int
  | [], d => d
  | x :: xs, _ => xs.foldl (fun m y => if m < y then y else m) x
theorem mxD_go : ∀ (xs : List Int) (x : Int), (xs.foldl (fun m y => if m < y then y else m) x ∈ x :: xs) ∧ ∀ y ∈ x :: xs, y ≤ xs.foldl (fun m y => if m < y then y else m) x
  | [], x => ⟨by simp, by simp⟩
  | z :: xs, x => by
    rw [List.foldl_cons]
    by_cases c : x < z
    · rw [if_pos c]
      obtain ⟨h1, h2⟩ := mxD_go xs z
      have hx := h2 z List.mem_cons_self
      refine ⟨List.mem_cons_of_mem _ h1, fun y hy => ?_⟩
      rcases List.mem_cons.mp hy with rfl | hy
      · omega
      · exact h2 y hy
    · rw [if_neg c]
      obtain ⟨h1, h2⟩ := mxD_go xs x
      have hx := h2 x List.mem_cons_self
      refine ⟨?_, fun y hy => ?_⟩
      · rcases List.mem_cons.mp h1 with h | h
        · exact List.mem_cons.mpr (.inl h)
        · exact List.mem_cons_of_mem _ (List.mem_cons_of_mem _ h)
      · rcases List.mem_cons.mp hy with rfl | hy
        · exact hx
        · rcases List.mem_cons.mp hy with rfl | hy
          · omega
          · exact h2 y (List.mem_cons_of_mem _ hy)
theorem mxD_mem (x : Int) (xs : List Int) (d : Int) : mxD (x :: xs) d ∈ x :: xs := (mxD_go xs x).1
theorem mxD_le (x : Int) (xs : List Int) (d : Int) : ∀ y ∈ x :: xs, y ≤ mxD (x :: xs) d := (mxD_go xs x).2
end Dv

set_option Elab.async false
set_option linter.all false
set_option maxRecDepth 100000
set_option maxHeartbeats 4000000
/-! The layer between the readings of HandS and mirrors in plain Lean. -/
namespace Dw
open PySem L2 Dv

/-! ### what is known stays -/
/-- what may change -/
def Chg : HO → Prop
  | .lst _ => True
  | .dT _ => True
  | _ => False
structure Lat (F H F' H' : Hp) : Prop where
  f : Same F F'
  h : Same H H'
  fh : Same F' H'
  nw : ∀ a o, H a = some o → Chg o → F a = none → F' a = none
theorem Lat.nwl {F H F' H' : Hp} (l : Lat F H F' H') {a : Addr} {vs : List V} (e : H a = some (.lst vs)) (f : F a = none) : F' a = none := l.nw a _ e trivial f
theorem Lat.refl {F H : Hp} (s : Same F H) : Lat F H F H := ⟨.refl _, .refl _, s, fun _ _ _ _ h => h⟩
theorem Lat.trans {F H F1 H1 F2 H2 : Hp} (a : Lat F H F1 H1) (b : Lat F1 H1 F2 H2) : Lat F H F2 H2 :=
  ⟨a.f.trans b.f, a.h.trans b.h, b.fh, fun p o e c f => b.nw p o (a.h _ _ e) c (a.nw p o e c f)⟩
theorem Lat.s0 {F H F' H' : Hp} (a : Lat F H F' H') (s : Same F H) : Same F H' := s.trans a.h
/-- all of the heap held for known -/
theorem Lat.all {F H F' H' : Hp} (a : Lat F H F' H') : Lat H H H' H' := ⟨a.h, a.h, .refl _, fun _ _ e _ f => by rw [e] at f; cases f⟩
/-- the heap grew, nothing new is known -/
theorem Lat.grow {F H H' : Hp} (s : Same F H) (h : Same H H') : Lat F H F H' := ⟨.refl _, h, s.trans h, fun _ _ _ _ f => f⟩
theorem same_upd {H : Hp} {p : Addr} {o : HO} (h : H p = none) : Same H (upd H p o) := fun a u e => by
  rw [upd_ne (ne_of_none e h)]
  exact e
/-- what stands is held for known -/
theorem Lat.know {F H F1 H1 : Hp} {p : Addr} {o : HO} (l : Lat F H F1 H1) (hp : ∀ u, H p = some u → Chg u → F p = none → False) (h1 : F1 p = none) (e : H1 p = some o) : Lat F H (upd F1 p o) H1 := by
  refine ⟨l.f.trans (same_upd h1), l.h, fun a u q => ?_, fun a u q c f => ?_⟩
  · by_cases z : a = p
    · subst z
      rw [upd_same] at q
      rw [e]
      exact q
    · rw [upd_ne z] at q
      exact l.fh _ _ q
  · by_cases z : a = p
    · subst z
      exact (hp u q c f).elim
    · rw [upd_ne z]
      exact l.nw _ _ q c f
/-- what was made is held for known -/
theorem Lat.hold {F H F1 H1 : Hp} {p : Addr} {o : HO} (l : Lat F H F1 H1) (hp : H p = none) (h1 : F1 p = none) (e : H1 p = some o) : Lat F H (upd F1 p o) H1 :=
  l.know (fun u q _ _ => by rw [hp] at q; cases q) h1 e
/-- a new object, not held for known -/
theorem Lat.made {F H : Hp} {p : Addr} {o : HO} (s : Same F H) (h : H p = none) : Lat F H F (upd H p o) := Lat.grow s (same_upd h)
/-- a new object, known from now on -/
theorem Lat.new {F H : Hp} {p : Addr} {o : HO} (s : Same F H) (h : H p = none) : Lat F H (upd F p o) (upd H p o) :=
  (Lat.made s h).hold h (s.free h) upd_same
/-- a list that was made behind H changes -/
theorem Lat.put {F H F1 H1 : Hp} {p : Addr} {o : HO} (l : Lat F H F1 H1) (hp : H p = none) (h1 : F1 p = none) : Lat F H F1 (upd H1 p o) := by
  refine ⟨l.f, fun a u e => ?_, fun a u e => ?_, l.nw⟩
  · rw [upd_ne (ne_of_none e hp)]
    exact l.h _ _ e
  · rw [upd_ne (ne_of_none e h1)]
    exact l.fh _ _ e

/-! ### data in the heap -/
class Rep (α : Type) where
  rp : α → V → Hp → Prop
  mono : ∀ {x : α} {v : V} {F F' : Hp}, Same F F' → rp x v F → rp x v F'
open Rep (rp)
theorem up {α : Type} [Rep α] {x : α} {v : V} {F F' H H' : Hp} (h : rp x v F) (l : Lat F H F' H') : rp x v F' := Rep.mono l.f h
/-- what does not look at the heap -/
class Flat (α : Type) [Rep α] : Prop where
  any : ∀ {x : α} {v : V} {F F' : Hp}, rp x v F → rp x v F'
instance : Rep Int := ⟨fun x v _ => v = .int x, fun _ h => h⟩
instance : Rep Bool := ⟨fun x v _ => v = .bl x, fun _ h => h⟩
instance : Rep Str := ⟨fun x v _ => v = .str x, fun _ h => h⟩
instance : Rep Unit := ⟨fun _ v _ => v = .non, fun _ h => h⟩
instance : Flat Int := ⟨fun h => h⟩
instance : Flat Bool := ⟨fun h => h⟩
instance : Flat Str := ⟨fun h => h⟩
instance : Flat Unit := ⟨fun h => h⟩
def rpO {α : Type} [Rep α] : Option α → V → Hp → Prop
  | none, v, _ => v = .non
  | some x, v, F => rp x v F
instance {α : Type} [Rep α] : Rep (Option α) := ⟨rpO, fun {x} => by
  cases x with
  | none => exact fun _ h => h
  | some x => exact fun s h => Rep.mono (α := α) s h⟩
def rpL {α : Type} [Rep α] : List α → List V → Hp → Prop
  | [], [], _ => True
  | x :: xs, v :: vs, F => rp x v F ∧ rpL xs vs F
  | _, _, _ => False
theorem rpL.mono {α : Type} [Rep α] {F F' : Hp} (s : Same F F') : ∀ {xs : List α} {vs : List V}, rpL xs vs F → rpL xs vs F'
  | [], [], _ => trivial
  | _ :: _, _ :: _, h => ⟨Rep.mono s h.1, rpL.mono s h.2⟩
  | [], _ :: _, h => h
  | _ :: _, [], h => h
theorem rpL.any {α : Type} [Rep α] [Flat α] {F F' : Hp} : ∀ {xs : List α} {vs : List V}, rpL xs vs F → rpL xs vs F'
  | [], [], _ => trivial
  | _ :: _, _ :: _, h => ⟨Flat.any h.1, rpL.any h.2⟩
  | [], _ :: _, h => h
  | _ :: _, [], h => h
theorem rpL.length {α : Type} [Rep α] {F : Hp} : ∀ {xs : List α} {vs : List V}, rpL xs vs F → vs.length = xs.length
  | [], [], _ => rfl
  | _ :: _, _ :: _, h => by simp [rpL.length h.2]
  | [], _ :: _, h => h.elim
  | _ :: _, [], h => h.elim
theorem rpL.get {α : Type} [Rep α] {F : Hp} : ∀ {xs : List α} {vs : List V}, rpL xs vs F → ∀ {i : Nat} {x : α}, xs[i]? = some x → ∃ v, vs[i]? = some v ∧ rp x v F
  | [], [], _, _, _, e => by simp at e
  | a :: _, v :: _, h, 0, x, e => by
    have : a = x := by simpa using e
    subst this
    exact ⟨v, by simp, h.1⟩
  | _ :: _, _ :: _, h, i + 1, x, e => by
    obtain ⟨v, e', r⟩ := rpL.get h.2 (i := i) (x := x) (by simpa using e)
    exact ⟨v, by simpa using e', r⟩
  | [], _ :: _, h, _, _, _ => h.elim
  | _ :: _, [], h, _, _, _ => h.elim
theorem rpL.get' {α : Type} [Rep α] {F : Hp} : ∀ {xs : List α} {vs : List V}, rpL xs vs F → ∀ {i : Nat} {v : V}, vs[i]? = some v → ∃ x, xs[i]? = some x ∧ rp x v F
  | [], [], _, _, _, e => by simp at e
  | a :: _, b :: _, h, 0, v, e => by
    have : b = v := by simpa using e
    subst this
    exact ⟨a, by simp, h.1⟩
  | _ :: _, _ :: _, h, i + 1, x, e => by
    obtain ⟨v, e', r⟩ := rpL.get' h.2 (i := i) (v := x) (by simpa using e)
    exact ⟨v, by simpa using e', r⟩
  | [], _ :: _, h, _, _, _ => h.elim
  | _ :: _, [], h, _, _, _ => h.elim
theorem rpL.append {α : Type} [Rep α] {F : Hp} : ∀ {xs ys : List α} {vs ws : List V}, rpL xs vs F → rpL ys ws F → rpL (xs ++ ys) (vs ++ ws) F
  | [], _, [], _, _, h => h
  | _ :: _, _, _ :: _, _, h, k => ⟨h.1, rpL.append h.2 k⟩
  | [], _, _ :: _, _, h, _ => h.elim
  | _ :: _, _, [], _, h, _ => h.elim
theorem rpL.set {α : Type} [Rep α] {F : Hp} {y : α} {w : V} (hy : rp y w F) : ∀ {xs : List α} {vs : List V} (i : Nat), rpL xs vs F → rpL (xs.set i y) (vs.set i w) F
  | [], [], _, _ => trivial
  | _ :: _, _ :: _, 0, h => ⟨hy, h.2⟩
  | _ :: _, _ :: _, i + 1, h => ⟨h.1, rpL.set hy i h.2⟩
  | [], _ :: _, _, h => h.elim
  | _ :: _, [], _, h => h.elim
theorem rpL.drop {α : Type} [Rep α] {F : Hp} : ∀ {xs : List α} {vs : List V} (i : Nat), rpL xs vs F → rpL (xs.drop i) (vs.drop i) F
  | [], [], i, _ => by simp [rpL]
  | _ :: _, _ :: _, 0, h => h
  | _ :: _, _ :: _, i + 1, h => by simpa using rpL.drop i h.2
  | [], _ :: _, _, h => h.elim
  | _ :: _, [], _, h => h.elim
theorem rpL.take {α : Type} [Rep α] {F : Hp} : ∀ {xs : List α} {vs : List V} (i : Nat), rpL xs vs F → rpL (xs.take i) (vs.take i) F
  | [], [], i, _ => by simp [rpL]
  | _ :: _, _ :: _, 0, h => by simp [rpL]
  | _ :: _, _ :: _, i + 1, h => ⟨h.1, rpL.take i h.2⟩
  | [], _ :: _, _, h => h.elim
  | _ :: _, [], _, h => h.elim
theorem rpL.reverse {α : Type} [Rep α] {F : Hp} : ∀ {xs : List α} {vs : List V}, rpL xs vs F → rpL xs.reverse vs.reverse F
  | [], [], _ => trivial
  | x :: xs, v :: vs, h => by
    rw [List.reverse_cons, List.reverse_cons]
    exact rpL.append (rpL.reverse h.2) ⟨h.1, trivial⟩
  | [], _ :: _, h => h.elim
  | _ :: _, [], h => h.elim
theorem rpL_ints {F : Hp} : ∀ {xs : List Int} {vs : List V}, rpL xs vs F → vs = xs.map V.int
  | [], [], _ => rfl
  | _ :: _, _ :: _, h => by
    rw [List.map_cons, ← rpL_ints h.2]
    exact congrArg (· :: _) h.1
  | [], _ :: _, h => h.elim
  | _ :: _, [], h => h.elim
theorem rpL_ints' {F : Hp} : ∀ (xs : List Int), rpL xs (xs.map V.int) F
  | [] => trivial
  | _ :: xs => ⟨rfl, rpL_ints' xs⟩
instance {α : Type} [Rep α] : Rep (List α) := ⟨fun xs v F => ∃ a vs, v = .ref a ∧ F a = some (.lst vs) ∧ rpL xs vs F, fun s ⟨a, vs, e, h, r⟩ => ⟨a, vs, e, s _ _ h, rpL.mono s r⟩⟩
instance {α β : Type} [Rep α] [Rep β] : Rep (α × β) := ⟨fun x v F => ∃ a v1 v2, v = .ref a ∧ F a = some (.tup [v1, v2]) ∧ rp x.1 v1 F ∧ rp x.2 v2 F,
  fun s ⟨a, v1, v2, e, h, r1, r2⟩ => ⟨a, v1, v2, e, s _ _ h, Rep.mono s r1, Rep.mono s r2⟩⟩
/-- one of two kinds -/
def rpS {α β : Type} [Rep α] [Rep β] : α ⊕ β → V → Hp → Prop
  | .inl x, v, F => rp x v F
  | .inr x, v, F => rp x v F
instance {α β : Type} [Rep α] [Rep β] : Rep (α ⊕ β) := ⟨rpS, fun {x} => by
  cases x with
  | inl x => exact fun s h => Rep.mono (α := α) s h
  | inr x => exact fun s h => Rep.mono (α := β) s h⟩
/-- a list of two things of unlike kinds -/
instance {α β : Type} [Rep α] [Rep β] : Rep (Duo α β) := ⟨fun x v F => ∃ p v1 v2, v = .ref p ∧ F p = some (.lst [v1, v2]) ∧ rp x.a v1 F ∧ rp x.b v2 F,
  fun s ⟨a, v1, v2, e, h, r1, r2⟩ => ⟨a, v1, v2, e, s _ _ h, Rep.mono s r1, Rep.mono s r2⟩⟩
/-- the script, or a list in its place -/
structure Scr (K : PySem.W.Frag) where
  l : List Int
theorem same_rd {H H' : Hp} {a : Addr} {u : HO} (e : Same H H') (h : Rd H a u) : Rd H' a u := by
  rcases h with h | ⟨o, h⟩
  · exact Or.inl (e a _ h)
  · exact Or.inr ⟨o, e a _ h⟩
theorem same_l {K : PySem.W.Frag} {H H' : Hp} {a : Addr} {xs : List V} (e : Same H H') (h : SqL K H a xs) : SqL K H' a xs := by
  rcases h with h | h
  · exact Or.inl (same_rd e h)
  · exact Or.inr h
instance {K : PySem.W.Frag} : Rep (Scr K) := ⟨fun x v F => ∃ a, v = .ref a ∧ SqL K F a (x.l.map V.int), fun s ⟨a, e, h⟩ => ⟨a, e, same_l s h⟩⟩
theorem sqL {K : PySem.W.Frag} {H : Hp} {a : Addr} {xs : List V} (h : H a = some (.lst xs)) : SqL K H a xs := Or.inl (Or.inl h)
theorem sqT {K : PySem.W.Frag} {H : Hp} {a : Addr} {xs : List V} (h : H a = some (.tup xs)) : SqT K H a xs := Or.inl (Or.inl h)

/-! ### arguments -/
class RepA (α : Type) where
  ra : α → List V → Hp → Prop
  mono : ∀ {x : α} {v : List V} {F F' : Hp}, Same F F' → ra x v F → ra x v F'
open RepA (ra)
instance : RepA Unit := ⟨fun _ vs _ => vs = [], fun _ h => h⟩
instance {α β : Type} [Rep α] [RepA β] : RepA (α × β) := ⟨fun x vs F => ∃ v ws, vs = v :: ws ∧ rp x.1 v F ∧ ra x.2 ws F,
  fun s ⟨v, ws, e, h, k⟩ => ⟨v, ws, e, Rep.mono s h, RepA.mono s k⟩⟩

/-! ### what an expression is worth -/
section
variable {α β γ : Type} [Rep α] [Rep β] [Rep γ]
def EV (t : TE) (σ : L2.St) (F H : Hp) (m : Option α) : Prop :=
  ∀ F1 H1, Lat F H F1 H1 → ∀ x, m = some x → ∀ Q : VK, (∀ v F2 H2, Lat F1 H1 F2 H2 → rp x v F2 → Q v H2) → t σ H1 Q
/-- a new list -/
def EVN (t : TE) (σ : L2.St) (F H : Hp) (m : Option (List α)) : Prop :=
  ∀ F1 H1, Lat F H F1 H1 → ∀ xs, m = some xs → ∀ Q : VK, (∀ p vs F2 H2, Lat F1 H1 F2 H2 → H1 p = none → F2 p = none → H2 p = some (.lst vs) → rpL xs vs F2 → Q (.ref p) H2) → t σ H1 Q
def EVT (t : TT) (σ : L2.St) (F H : Hp) (m : Option Bool) : Prop :=
  ∀ F1 H1, Lat F H F1 H1 → ∀ x, m = some x → ∀ Q : Bool → Hp → Prop, (∀ F2 H2, Lat F1 H1 F2 H2 → Q x H2) → t σ H1 Q
def EVA {δ : Type} [RepA δ] (t : TA) (σ : L2.St) (F H : Hp) (m : Option δ) : Prop :=
  ∀ F1 H1, Lat F H F1 H1 → ∀ x, m = some x → ∀ Q : List V → Hp → Prop, (∀ vs F2 H2, Lat F1 H1 F2 H2 → ra x vs F2 → Q vs H2) → t σ H1 Q
/-- a display's items, n of them -/
def EVL (t : TA) (σ : L2.St) (F H : Hp) (n : Nat) (m : Option (List α)) : Prop :=
  (∀ xs, m = some xs → xs.length = n) ∧ ∀ F1 H1, Lat F H F1 H1 → ∀ xs, m = some xs → ∀ Q : List V → Hp → Prop, (∀ vs F2 H2, Lat F1 H1 F2 H2 → rpL xs vs F2 → Q vs H2) → t σ H1 Q
variable {t : TE} {σ : L2.St} {F H : Hp}
theorem EV.at {m : Option α} (h : EV t σ F H m) {F1 H1 : Hp} (l : Lat F H F1 H1) : EV t σ F1 H1 m := fun F2 H2 l2 => h F2 H2 (l.trans l2)
theorem EVN.at {m : Option (List α)} (h : EVN t σ F H m) {F1 H1 : Hp} (l : Lat F H F1 H1) : EVN t σ F1 H1 m := fun F2 H2 l2 => h F2 H2 (l.trans l2)
theorem EVT.at {t : TT} {m : Option Bool} (h : EVT t σ F H m) {F1 H1 : Hp} (l : Lat F H F1 H1) : EVT t σ F1 H1 m := fun F2 H2 l2 => h F2 H2 (l.trans l2)
theorem EVA.at {δ : Type} [RepA δ] {t : TA} {m : Option δ} (h : EVA t σ F H m) {F1 H1 : Hp} (l : Lat F H F1 H1) : EVA t σ F1 H1 m := fun F2 H2 l2 => h F2 H2 (l.trans l2)
theorem EVN.ev {m : Option (List α)} (h : EVN t σ F H m) : EV t σ F H m := fun F1 H1 l x e Q q =>
  h F1 H1 l x e Q fun p vs F2 H2 l2 h1 h2 h3 r => q (.ref p) (upd F2 p (.lst vs)) H2 (l2.hold h1 h2 h3) ⟨p, vs, rfl, upd_same, rpL.mono (same_upd h2) r⟩
/-- flat answers may look at all that stands -/
theorem EV.flat [Flat α] {m : Option α} (h : EV t σ H H m) (s : Same F H) : EV t σ F H m := fun F1 H1 l x e Q q =>
  h H1 H1 l.all x e Q fun v F2 H2 l2 r => q v F1 H2 (.grow l.fh l2.h) (Flat.any r)
theorem EVT.flat {t : TT} {m : Option Bool} (h : EVT t σ H H m) (s : Same F H) : EVT t σ F H m := fun F1 H1 l x e Q q =>
  h H1 H1 l.all x e Q fun F2 H2 l2 => q F1 H2 (.grow l.fh l2.h)
theorem EVN.flat [Flat α] {m : Option (List α)} (h : EVN t σ H H m) (s : Same F H) : EVN t σ F H m := fun F1 H1 l x e Q q =>
  h H1 H1 l.all x e Q fun p vs F2 H2 l2 h1 _ h3 r => q p vs F1 H2 (.grow l.fh l2.h) h1 (l.fh.free h1) h3 (rpL.any r)

theorem ev_var {i : Nat} {x : α} {v : V} (h : σ[i]? = some (some v)) (r : rp x v F) : EV (tVar i) σ F H (some x) := fun F1 H1 l y e Q q => by
  cases e
  exact ⟨v, h, q v F1 H1 (.refl l.fh) (up r l)⟩
theorem ev_c {x : α} {v : V} (r : ∀ F, rp x v F) : EV (tC v) σ F H (some x) := fun F1 H1 l y e Q q => by
  cases e
  exact q v F1 H1 (.refl l.fh) (r _)
theorem ev_int {n : Int} : EV (tC (.int n)) σ F H (some n) := ev_c fun _ => rfl
theorem ev_bl {b : Bool} : EV (tC (.bl b)) σ F H (some b) := ev_c fun _ => rfl
theorem ev_str {z : Str} : EV (tC (.str z)) σ F H (some z) := ev_c fun _ => rfl
theorem ev_non : EV (tC .non) σ F H (some (none : Option α)) := ev_c fun _ => rfl
theorem ev_some {m : Option α} (h : EV t σ F H m) : EV t σ F H (m.bind fun x => some (some x)) := fun F1 H1 l y e Q q => by
  obtain ⟨x, ex, ey⟩ := Option.bind_eq_some_iff.mp e
  cases ey
  exact h F1 H1 l x ex Q q
theorem ev_inl {m : Option α} (h : EV t σ F H m) : EV t σ F H (m.bind fun x => some (Sum.inl x : α ⊕ β)) := fun F1 H1 l y e Q q => by
  obtain ⟨x, ex, ey⟩ := Option.bind_eq_some_iff.mp e
  cases ey
  exact h F1 H1 l x ex Q q
theorem ev_inr {m : Option β} (h : EV t σ F H m) : EV t σ F H (m.bind fun x => some (Sum.inr x : α ⊕ β)) := fun F1 H1 l y e Q q => by
  obtain ⟨x, ex, ey⟩ := Option.bind_eq_some_iff.mp e
  cases ey
  exact h F1 H1 l x ex Q q
/-- an answer that may be None is none here -/
def unO (x : Option α) : Option α := x
theorem ev_un {m : Option (Option α)} (h : EV t σ F H m) : EV t σ F H (m.bind fun x => unO x) := fun F1 H1 l y e Q q => by
  obtain ⟨x, ex, ey⟩ := Option.bind_eq_some_iff.mp e
  refine h F1 H1 l x ex Q fun v F2 H2 l2 r => q v F2 H2 l2 ?_
  have ey' : x = some y := ey
  subst ey'
  exact r
theorem ev_scr {K : PySem.W.Frag} {m : Option (List Int)} (h : EV t σ F H m) : EV t σ F H (m.bind fun x => some (Scr.mk x : Scr K)) := fun F1 H1 l y e Q q => by
  obtain ⟨x, ex, ey⟩ := Option.bind_eq_some_iff.mp e
  cases ey
  refine h F1 H1 l x ex Q fun v F2 H2 l2 r => ?_
  obtain ⟨a, vs, e1, e2, r2⟩ := r
  exact q v F2 H2 l2 ⟨a, e1, sqL (by rw [rpL_ints r2] at e2; exact e2)⟩

/-! ### operators -/
def RV (r : R2) (x : α) (y : β) (m : Option γ) : Prop :=
  ∀ F H v w, Same F H → rp x v F → rp y w F → ∀ z, m = some z → ∀ Q : VK, (∀ u F2 H2, Lat F H F2 H2 → rp z u F2 → Q u H2) → r v w H Q
theorem ev_op {ta tb : TE} {r : R2} {ma : Option α} {mb : Option β} {k : α → β → Option γ} (ha : EV ta σ F H ma) (hb : EV tb σ F H mb) (hr : ∀ x y, RV r x y (k x y)) :
    EV (tOp r ta tb) σ F H (ma.bind fun x => mb.bind fun y => k x y) := fun F1 H1 l z e Q q => by
  obtain ⟨x, ex, e⟩ := Option.bind_eq_some_iff.mp e
  obtain ⟨y, ey, e⟩ := Option.bind_eq_some_iff.mp e
  refine ha F1 H1 l x ex _ fun v F2 H2 l2 rv => hb F2 H2 (l.trans l2) y ey _ fun w F3 H3 l3 rw' => ?_
  exact hr x y F3 H3 v w l3.fh (up rv l3) rw' z e Q fun u F4 H4 l4 ru => q u F4 H4 ((l2.trans l3).trans l4) ru
/-- the same, the answer a new list -/
def RVN (r : R2) (x : α) (y : β) (m : Option (List γ)) : Prop :=
  ∀ F H v w, Same F H → rp x v F → rp y w F → ∀ zs, m = some zs → ∀ Q : VK, (∀ p vs F2 H2, Lat F H F2 H2 → H p = none → F2 p = none → H2 p = some (.lst vs) → rpL zs vs F2 → Q (.ref p) H2) → r v w H Q
theorem evn_op {ta tb : TE} {r : R2} {ma : Option α} {mb : Option β} {k : α → β → Option (List γ)} (ha : EV ta σ F H ma) (hb : EV tb σ F H mb) (hr : ∀ x y, RVN r x y (k x y)) :
    EVN (tOp r ta tb) σ F H (ma.bind fun x => mb.bind fun y => k x y) := fun F1 H1 l z e Q q => by
  obtain ⟨x, ex, e⟩ := Option.bind_eq_some_iff.mp e
  obtain ⟨y, ey, e⟩ := Option.bind_eq_some_iff.mp e
  refine ha F1 H1 l x ex _ fun v F2 H2 l2 rv => hb F2 H2 (l.trans l2) y ey _ fun w F3 H3 l3 rw' => ?_
  refine hr x y F3 H3 v w l3.fh (up rv l3) rw' z e Q fun p vs F4 H4 l4 h1 h2 h3 r => q p vs F4 H4 ((l2.trans l3).trans l4) ?_ h2 h3 r
  exact (l2.trans l3).h.free h1
theorem rv_I0 {g : Int → Int → V} {f : Int → Int → γ} (hg : ∀ i j F, rp (f i j) (g i j) F) (x y : Int) : RV (rI0 g) x y (some (f x y)) := fun F H v w s rv rw' z e Q q => by
  cases e
  exact ⟨x, y, rv, rw', q _ F H (.refl s) (hg _ _ _)⟩
theorem rv_add (x y : Int) : RV (rI0 fun i j => .int (i + j)) x y (some (x + y)) := rv_I0 (fun _ _ _ => rfl) x y
theorem rv_sub (x y : Int) : RV (rI0 fun i j => .int (i - j)) x y (some (x - y)) := rv_I0 (fun _ _ _ => rfl) x y
theorem rv_I {C : Int → Int → Prop} {g : Int → Int → Int} (x y : Int) {m : Option Int} (h : ∀ z, m = some z → C x y ∧ z = g x y) : RV (rI C fun i j => .int (g i j)) x y m := fun F H v w s rv rw' z e Q q => by
  obtain ⟨h1, rfl⟩ := h z e
  exact ⟨x, y, rv, rw', h1, q _ F H (.refl s) rfl⟩
theorem rv_mul (x y : Int) : RV (rI CMul fun i j => .int (i * j)) x y (mulZ x y) := rv_I x y fun z e => by
  unfold mulZ at e
  split at e
  · cases e
    exact ⟨by assumption, rfl⟩
  · cases e
theorem rv_div (x y : Int) : RV (rI CDiv fun i j => .int (i / j)) x y (divZ x y) := rv_I x y fun z e => by
  unfold divZ at e
  split at e
  · cases e
    exact ⟨by assumption, rfl⟩
  · cases e
theorem rv_mod (x y : Int) : RV (rI (fun _ j => 0 < j) fun i j => .int (i % j)) x y (modZ x y) := rv_I x y fun z e => by
  unfold modZ at e
  split at e
  · cases e
    exact ⟨by assumption, rfl⟩
  · cases e
/-- comparisons of ints by pe_cmpR, pt_cmpR -/
theorem rv_cmp {g : Int → Int → Bool} (x y : Int) : RV (rI0 fun i j => .bl (g i j)) x y (some (g x y)) := rv_I0 (fun _ _ _ => rfl) x y
theorem rv_eqI (x y : Int) : RV rEq x y (some (decide (x = y))) := fun F H v w s rv rw' z e Q q => by
  cases e
  cases rv
  cases rw'
  exact ⟨rfl, q _ F H (.refl s) (show V.bl _ = V.bl _ by congr 1; simp)⟩
theorem rv_neI (x y : Int) : RV rNe x y (some (!decide (x = y))) := fun F H v w s rv rw' z e Q q => by
  cases e
  cases rv
  cases rw'
  exact ⟨rfl, q _ F H (.refl s) (show V.bl _ = V.bl _ by congr 1; simp)⟩
theorem rv_eqB (x y : Bool) : RV rEq x y (some (x == y)) := fun F H v w s rv rw' z e Q q => by
  cases e
  cases rv
  cases rw'
  exact ⟨rfl, q _ F H (.refl s) (show V.bl _ = V.bl _ by congr 1; exact dec_bl)⟩
theorem rv_neB (x y : Bool) : RV rNe x y (some (!(x == y))) := fun F H v w s rv rw' z e Q q => by
  cases e
  cases rv
  cases rw'
  exact ⟨rfl, q _ F H (.refl s) (show V.bl _ = V.bl _ by congr 2; exact dec_bl)⟩
theorem rv_eqS (x y : Str) : RV rEq x y (some (decide (x = y))) := fun F H v w s rv rw' z e Q q => by
  cases e
  cases rv
  cases rw'
  exact ⟨rfl, q _ F H (.refl s) (show V.bl _ = V.bl _ by congr 1; simp)⟩
theorem rv_neS (x y : Str) : RV rNe x y (some (!decide (x = y))) := fun F H v w s rv rw' z e Q q => by
  cases e
  cases rv
  cases rw'
  exact ⟨rfl, q _ F H (.refl s) (show V.bl _ = V.bl _ by congr 1; simp)⟩
theorem ixZ_eq (n : Nat) (i : Int) : ixZ n i = ixN n i := rfl
theorem rv_ixL {K : PySem.W.Frag} (xs : List α) (i : Int) : RV (rIxL K) xs i (atZ xs i) := fun F H v w s rv rw' z e Q q => by
  obtain ⟨a, vs, e1, e2, r⟩ := rv
  unfold atZ at e
  obtain ⟨j, ej, e3⟩ := Option.bind_eq_some_iff.mp e
  obtain ⟨u, eu, ru⟩ := r.get e3
  refine ⟨a, vs, i, u, e1, rw', sqL (s _ _ e2), ?_, q u F H (.refl s) ru⟩
  unfold atI
  rw [r.length, ← ixZ_eq, ej]
  exact eu
theorem rv_ixS {K : PySem.W.Frag} (xs : Scr K) (i : Int) : RV (rIxL K) xs i (atZ xs.l i) := fun F H v w s rv rw' z e Q q => by
  obtain ⟨a, e1, e2⟩ := rv
  unfold atZ at e
  obtain ⟨j, ej, e3⟩ := Option.bind_eq_some_iff.mp e
  obtain ⟨u, eu, ru⟩ := (rpL_ints' (F := F) xs.l).get e3
  refine ⟨a, _, i, u, e1, rw', same_l s e2, ?_, q u F H (.refl s) ru⟩
  unfold atI
  rw [List.length_map, ← ixZ_eq, ej]
  exact eu
theorem ev_fst {K : PySem.W.Frag} {m : Option (α × β)} (h : EV t σ F H m) : EV (tOp (rIxT K) t (tC (.int 0))) σ F H (m.bind fun x => some x.1) := fun F1 H1 l z e Q q => by
  obtain ⟨x, ex, e⟩ := Option.bind_eq_some_iff.mp e
  cases e
  refine h F1 H1 l x ex _ fun v F2 H2 l2 ⟨a, v1, v2, e1, e2, r1, r2⟩ => ?_
  exact ⟨a, _, 0, v1, e1, rfl, sqT (l2.fh _ _ e2), rfl, q v1 F2 H2 l2 r1⟩
theorem ev_snd {K : PySem.W.Frag} {m : Option (α × β)} (h : EV t σ F H m) : EV (tOp (rIxT K) t (tC (.int 1))) σ F H (m.bind fun x => some x.2) := fun F1 H1 l z e Q q => by
  obtain ⟨x, ex, e⟩ := Option.bind_eq_some_iff.mp e
  cases e
  refine h F1 H1 l x ex _ fun v F2 H2 l2 ⟨a, v1, v2, e1, e2, r1, r2⟩ => ?_
  exact ⟨a, _, 1, v2, e1, rfl, sqT (l2.fh _ _ e2), rfl, q v2 F2 H2 l2 r2⟩
theorem ev_duoA {K : PySem.W.Frag} {m : Option (Duo α β)} (h : EV t σ F H m) : EV (tOp (rIxL K) t (tC (.int 0))) σ F H (m.bind fun x => some x.a) := fun F1 H1 l z e Q q => by
  obtain ⟨x, ex, e⟩ := Option.bind_eq_some_iff.mp e
  cases e
  refine h F1 H1 l x ex _ fun v F2 H2 l2 ⟨a, v1, v2, e1, e2, r1, r2⟩ => ?_
  exact ⟨a, _, 0, v1, e1, rfl, sqL (l2.fh _ _ e2), rfl, q v1 F2 H2 l2 r1⟩
theorem ev_duoB {K : PySem.W.Frag} {m : Option (Duo α β)} (h : EV t σ F H m) : EV (tOp (rIxL K) t (tC (.int 1))) σ F H (m.bind fun x => some x.b) := fun F1 H1 l z e Q q => by
  obtain ⟨x, ex, e⟩ := Option.bind_eq_some_iff.mp e
  cases e
  refine h F1 H1 l x ex _ fun v F2 H2 l2 ⟨a, v1, v2, e1, e2, r1, r2⟩ => ?_
  exact ⟨a, _, 1, v2, e1, rfl, sqL (l2.fh _ _ e2), rfl, q v2 F2 H2 l2 r2⟩
theorem ev_neg {m : Option Int} (h : EV t σ F H m) : EV (tUn (rU fun i => .int (-i)) t) σ F H (m.bind fun x => some (-x)) := fun F1 H1 l z e Q q => by
  obtain ⟨x, ex, e⟩ := Option.bind_eq_some_iff.mp e
  cases e
  exact h F1 H1 l x ex _ fun v F2 H2 l2 r => ⟨x, r, q _ F2 H2 l2 rfl⟩

/-! ### arguments, displays -/
theorem eva_nil : EVA tNil σ F H (some ()) := fun F1 H1 l z e Q q => q [] F1 H1 (.refl l.fh) rfl
theorem eva_cons {δ : Type} [RepA δ] {tr : TA} {m : Option α} {mr : Option δ} (h : EV t σ F H m) (hr : EVA tr σ F H mr) : EVA (tCons t tr) σ F H (m.bind fun x => mr.bind fun y => some (x, y)) := fun F1 H1 l z e Q q => by
  obtain ⟨x, ex, e⟩ := Option.bind_eq_some_iff.mp e
  obtain ⟨y, ey, e⟩ := Option.bind_eq_some_iff.mp e
  cases e
  exact h F1 H1 l x ex _ fun v F2 H2 l2 rv => hr F2 H2 (l.trans l2) y ey _ fun ws F3 H3 l3 rw' => q (v :: ws) F3 H3 (l2.trans l3) ⟨v, ws, rfl, (up rv l3), rw'⟩
theorem evl_nil : EVL tNil σ F H 0 (some ([] : List α)) := ⟨fun xs e => by cases e; rfl, fun F1 H1 l z e Q q => by
  cases e
  exact q [] F1 H1 (.refl l.fh) trivial⟩
theorem evl_cons {tr : TA} {n : Nat} {m : Option α} {mr : Option (List α)} (h : EV t σ F H m) (hr : EVL tr σ F H n mr) : EVL (tCons t tr) σ F H (n + 1) (m.bind fun x => mr.bind fun y => some (x :: y)) := ⟨fun xs e => by
  obtain ⟨x, ex, e⟩ := Option.bind_eq_some_iff.mp e
  obtain ⟨y, ey, e⟩ := Option.bind_eq_some_iff.mp e
  cases e
  rw [List.length_cons, hr.1 y ey], fun F1 H1 l z e Q q => by
  obtain ⟨x, ex, e⟩ := Option.bind_eq_some_iff.mp e
  obtain ⟨y, ey, e⟩ := Option.bind_eq_some_iff.mp e
  cases e
  exact h F1 H1 l x ex _ fun v F2 H2 l2 rv => hr.2 F2 H2 (l.trans l2) y ey _ fun ws F3 H3 l3 rw' => q (v :: ws) F3 H3 (l2.trans l3) ⟨(up rv l3), rw'⟩⟩
theorem sz_ok {n : Nat} (h : n ≤ 10000000) : n ≤ sizeLine := Nat.le_trans h (by decide)
theorem sz_lt {n : Nat} (h : n < 10000000) : n < sizeLine := Nat.lt_of_lt_of_le h (by decide)
/-- [a, b, ..] -/
theorem evn_lst {tr : TA} {n : Nat} {mr : Option (List α)} (hr : EVL tr σ F H n mr) (hs : n ≤ 10000000 := by decide) : EVN (tLst tr) σ F H mr := fun F1 H1 l xs e Q q =>
  hr.2 F1 H1 l xs e _ fun vs F2 H2 l2 r => ⟨sz_ok (by rw [r.length, hr.1 xs e]; exact hs), fun p hp => q p vs F2 (upd H2 p (.lst vs)) (l2.trans (.made l2.fh hp)) (l2.h.free hp) (l2.fh.free hp) upd_same r⟩
theorem evn_nil : EVN (tLst tNil) σ F H (some ([] : List α)) := evn_lst evl_nil
theorem ev_tup {ta tb : TE} {ma : Option α} {mb : Option β} (ha : EV ta σ F H ma) (hb : EV tb σ F H mb) : EV (tTup (tCons ta (tCons tb tNil))) σ F H (ma.bind fun x => mb.bind fun y => some (x, y)) := fun F1 H1 l z e Q q => by
  obtain ⟨x, ex, e⟩ := Option.bind_eq_some_iff.mp e
  obtain ⟨y, ey, e⟩ := Option.bind_eq_some_iff.mp e
  cases e
  refine ha F1 H1 l x ex _ fun v F2 H2 l2 rv => hb F2 H2 (l.trans l2) y ey _ fun w F3 H3 l3 rw' => ⟨by show 2 ≤ sizeLine; decide, fun p hp => ?_⟩
  refine q (.ref p) (upd F3 p (.tup [v, w])) (upd H3 p (.tup [v, w])) ((l2.trans l3).trans (.new l3.fh hp)) ⟨p, v, w, rfl, upd_same, ?_, ?_⟩
  · exact Rep.mono (same_upd (l3.fh.free hp)) (up rv l3)
  · exact Rep.mono (same_upd (l3.fh.free hp)) rw'
theorem ev_duo {ta tb : TE} {ma : Option α} {mb : Option β} (ha : EV ta σ F H ma) (hb : EV tb σ F H mb) : EV (tLst (tCons ta (tCons tb tNil))) σ F H (ma.bind fun x => mb.bind fun y => some (Duo.mk x y)) := fun F1 H1 l z e Q q => by
  obtain ⟨x, ex, e⟩ := Option.bind_eq_some_iff.mp e
  obtain ⟨y, ey, e⟩ := Option.bind_eq_some_iff.mp e
  cases e
  refine ha F1 H1 l x ex _ fun v F2 H2 l2 rv => hb F2 H2 (l.trans l2) y ey _ fun w F3 H3 l3 rw' => ⟨by show 2 ≤ sizeLine; decide, fun p hp => ?_⟩
  refine q (.ref p) (upd F3 p (.lst [v, w])) (upd H3 p (.lst [v, w])) ((l2.trans l3).trans (.new l3.fh hp)) ⟨p, v, w, rfl, upd_same, ?_, ?_⟩
  · exact Rep.mono (same_upd (l3.fh.free hp)) (up rv l3)
  · exact Rep.mono (same_upd (l3.fh.free hp)) rw'

/-! ### tests -/
theorem evt_of {m : Option Bool} (h : EV t σ F H m) : EVT (tTest t) σ F H m := fun F1 H1 l x e Q q => h F1 H1 l x e _ fun v F2 H2 l2 r => ⟨x, r, q F2 H2 l2⟩
theorem evt_b {m : Option Bool} (h : EV t σ F H m) : EVT (tB t) σ F H m := fun F1 H1 l x e Q q => h F1 H1 l x e _ fun v F2 H2 l2 r => ⟨x, r, q F2 H2 l2⟩
theorem evt_not {c : TT} {m : Option Bool} (h : EVT c σ F H m) : EVT (tNot c) σ F H (m.bind fun b => some (!b)) := fun F1 H1 l x e Q q => by
  obtain ⟨b, eb, e⟩ := Option.bind_eq_some_iff.mp e
  cases e
  exact h F1 H1 l b eb _ fun F2 H2 l2 => q F2 H2 l2
theorem evt_and {c d : TT} {m n : Option Bool} (h : EVT c σ F H m) (k : EVT d σ F H n) : EVT (tAnd c d) σ F H (m.bind fun b => if b then n else some false) := fun F1 H1 l x e Q q => by
  obtain ⟨b, eb, e⟩ := Option.bind_eq_some_iff.mp e
  refine h F1 H1 l b eb _ fun F2 H2 l2 => ?_
  cases b with
  | true => exact iteT (k F2 H2 (l.trans l2) x e _ fun F3 H3 l3 => q F3 H3 (l2.trans l3))
  | false =>
    have e' : false = x := Option.some.inj e
    subst e'
    exact iteF (q F2 H2 l2)
theorem evt_or {c d : TT} {m n : Option Bool} (h : EVT c σ F H m) (k : EVT d σ F H n) : EVT (tOr c d) σ F H (m.bind fun b => if b then some true else n) := fun F1 H1 l x e Q q => by
  obtain ⟨b, eb, e⟩ := Option.bind_eq_some_iff.mp e
  refine h F1 H1 l b eb _ fun F2 H2 l2 => ?_
  cases b with
  | false => exact iteF (k F2 H2 (l.trans l2) x e _ fun F3 H3 l3 => q F3 H3 (l2.trans l3))
  | true =>
    have e' : true = x := Option.some.inj e
    subst e'
    exact iteT (q F2 H2 l2)
theorem ev_andV {ta tb : TE} {m n : Option Bool} (h : EV ta σ F H m) (k : EV tb σ F H n) : EV (tAndV ta tb) σ F H (m.bind fun b => if b then n else some false) := fun F1 H1 l x e Q q => by
  obtain ⟨b, eb, e⟩ := Option.bind_eq_some_iff.mp e
  refine h F1 H1 l b eb _ fun v F2 H2 l2 r => ⟨b, r, ?_⟩
  cases b with
  | true => exact iteT (k F2 H2 (l.trans l2) x e _ fun w F3 H3 l3 r3 => q w F3 H3 (l2.trans l3) r3)
  | false =>
    have e' : false = x := Option.some.inj e
    subst e'
    exact iteF (q _ F2 H2 l2 rfl)
theorem ev_orV {ta tb : TE} {m n : Option Bool} (h : EV ta σ F H m) (k : EV tb σ F H n) : EV (tOrV ta tb) σ F H (m.bind fun b => if b then some true else n) := fun F1 H1 l x e Q q => by
  obtain ⟨b, eb, e⟩ := Option.bind_eq_some_iff.mp e
  refine h F1 H1 l b eb _ fun v F2 H2 l2 r => ⟨b, r, ?_⟩
  cases b with
  | false => exact iteF (k F2 H2 (l.trans l2) x e _ fun w F3 H3 l3 r3 => q w F3 H3 (l2.trans l3) r3)
  | true =>
    have e' : true = x := Option.some.inj e
    subst e'
    exact iteT (q _ F2 H2 l2 rfl)
theorem ev_notV {m : Option Bool} (h : EV t σ F H m) : EV (tNotV t) σ F H (m.bind fun b => some (!b)) := fun F1 H1 l x e Q q => by
  obtain ⟨b, eb, e⟩ := Option.bind_eq_some_iff.mp e
  cases e
  exact h F1 H1 l b eb _ fun v F2 H2 l2 r => ⟨b, r, q _ F2 H2 l2 rfl⟩
theorem ev_isN {m : Option (Option α)} (nn : ∀ (x : α) v F, rp x v F → v ≠ .non) (h : EV t σ F H m) : EV (tIsN t) σ F H (m.bind fun x => some x.isNone) := fun F1 H1 l x e Q q => by
  obtain ⟨b, eb, e⟩ := Option.bind_eq_some_iff.mp e
  cases e
  refine h F1 H1 l b eb _ fun v F2 H2 l2 r => q _ F2 H2 l2 ?_
  show V.bl (decide (v = .non)) = V.bl b.isNone
  cases b with
  | none =>
    have : v = .non := r
    simp [this]
  | some x => simp [nn x v F2 r]
theorem ev_notN {m : Option (Option α)} (nn : ∀ (x : α) v F, rp x v F → v ≠ .non) (h : EV t σ F H m) : EV (tNotN t) σ F H (m.bind fun x => some (!x.isNone)) := fun F1 H1 l x e Q q => by
  obtain ⟨b, eb, e⟩ := Option.bind_eq_some_iff.mp e
  cases e
  refine h F1 H1 l b eb _ fun v F2 H2 l2 r => q _ F2 H2 l2 ?_
  show V.bl (!decide (v = .non)) = V.bl (!b.isNone)
  cases b with
  | none =>
    have : v = .non := r
    simp [this]
  | some x => simp [nn x v F2 r]
theorem nn_list (x : List α) (v : V) (F : Hp) (h : rp x v F) : v ≠ .non := by
  obtain ⟨a, vs, rfl, _⟩ := h
  intro e
  cases e
theorem nn_pair (x : α × β) (v : V) (F : Hp) (h : rp x v F) : v ≠ .non := by
  obtain ⟨a, v1, v2, rfl, _⟩ := h
  intro e
  cases e
theorem ev_if {c : TT} {ta tb : TE} {m : Option Bool} {ma mb : Option α} (hc : EVT c σ F H m) (ha : EV ta σ F H ma) (hb : EV tb σ F H mb) : EV (tIf c ta tb) σ F H (m.bind fun b => if b then ma else mb) := fun F1 H1 l x e Q q => by
  obtain ⟨b, eb, e⟩ := Option.bind_eq_some_iff.mp e
  refine hc F1 H1 l b eb _ fun F2 H2 l2 => ?_
  cases b with
  | true => exact iteT (ha F2 H2 (l.trans l2) x e _ fun w F3 H3 l3 r3 => q w F3 H3 (l2.trans l3) r3)
  | false => exact iteF (hb F2 H2 (l.trans l2) x e _ fun w F3 H3 l3 r3 => q w F3 H3 (l2.trans l3) r3)
/-- a op b op c -/
theorem ev_chain {δ : Type} [Rep δ] {ta tb tc : TE} {r r' : R2} {ma : Option α} {mb : Option β} {mc : Option δ} {k : α → β → Option Bool} {k' : β → δ → Option Bool} (ha : EV ta σ F H ma) (hb : EV tb σ F H mb) (hc : EV tc σ F H mc)
    (hr : ∀ x y, RV r x y (k x y)) (hr' : ∀ x y, RV r' x y (k' x y)) : EV (tChain r r' ta tb tc) σ F H (ma.bind fun x => mb.bind fun y => (k x y).bind fun b => if b then mc.bind fun z => k' y z else some false) := fun F1 H1 l z e Q q => by
  obtain ⟨x, ex, e⟩ := Option.bind_eq_some_iff.mp e
  obtain ⟨y, ey, e⟩ := Option.bind_eq_some_iff.mp e
  obtain ⟨b, eb, e⟩ := Option.bind_eq_some_iff.mp e
  refine ha F1 H1 l x ex _ fun v F2 H2 l2 rv => hb F2 H2 (l.trans l2) y ey _ fun w F3 H3 l3 rw' => ?_
  refine hr x y F3 H3 v w l3.fh (up rv l3) rw' b eb _ fun u F4 H4 l4 ru => ⟨b, ru, ?_⟩
  cases b with
  | true =>
    refine iteT ?_
    obtain ⟨z1, ez1, e⟩ := Option.bind_eq_some_iff.mp e
    refine hc F4 H4 (((l.trans l2).trans l3).trans l4) z1 ez1 _ fun w2 F5 H5 l5 r5 => ?_
    exact hr' y z1 F5 H5 w w2 l5.fh (up (up rw' l4) l5) r5 z e Q fun u F6 H6 l6 r6 => q u F6 H6 ((((l2.trans l3).trans l4).trans l5).trans l6) r6
  | false =>
    have e' : false = z := Option.some.inj e
    subst e'
    exact iteF (q _ F4 H4 ((l2.trans l3).trans l4) rfl)
end
end Dw

set_option Elab.async false
set_option linter.all false
set_option maxRecDepth 100000
set_option maxHeartbeats 4000000
/-! The layer, second part: walks, loops, comprehensions, statements, calls. -/
namespace Dw
open PySem L2 Dv
open Rep (rp)
open RepA (ra)

/-! ### what is walked -/
structure Wk {α : Type} [Rep α] (J : It) (xs : List α) (F : Hp) : Prop where
  stop : ∀ H, Same F H → J.stop xs.length H
  go : ∀ i x H, xs[i]? = some x → Same F H → J.go i H
  yld : ∀ i x H v H', xs[i]? = some x → Same F H → J.yld i H v H' → ∀ F1, Same F F1 → Same F1 H → ∃ F2, Lat F1 H F2 H' ∧ rp x v F2
section
variable {α β γ S R T : Type} [Rep α] [Rep β] [Rep γ] {K : PySem.W.Frag}
def EI (wi : TI) (σ : L2.St) (F H : Hp) (m : Option (List α)) : Prop :=
  ∀ F1 H1, Lat F H F1 H1 → ∀ xs, m = some xs → ∀ R : It → Hp → Prop, (∀ J F2 H2, Lat F1 H1 F2 H2 → Wk J xs F2 → R J H2) → wi σ H1 R
variable {t : TE} {σ : L2.St} {F H : Hp}
theorem EI.flat [Flat α] {wi : TI} {m : Option (List α)} (h : EI wi σ H H m) (s : Same F H) (hJ : ∀ J xs F2 H2, Lat H H F2 H2 → Wk J xs F2 → Wk J (xs : List α) F) : EI wi σ F H m := fun F1 H1 l xs e R q =>
  h H1 H1 l.all xs e R fun J F2 H2 l2 w => q J F1 H2 (.grow l.fh l2.h) (by
    have w2 := hJ J xs F2 H2 (l.all.trans l2) w
    exact ⟨fun H' s' => w2.stop H' (l.f.trans s'), fun i x H' e s' => w2.go i x H' e (l.f.trans s'), fun i x H' v H'' e s' y F1 s1 s2 => w2.yld i x H' v H'' e (l.f.trans s') y F1 (l.f.trans s1) s2⟩)
theorem wk_list {a : Addr} {xs : List α} {vs : List V} (h : F a = some (.lst vs)) (r : rpL xs vs F) : Wk (Itl K a) xs F := by
  refine ⟨fun H s => ⟨vs, sqL (s _ _ h), Nat.le_of_eq r.length⟩, fun i x H e s => ?_, fun i x H v H' e s y F1 s1 s2 => ?_⟩
  · obtain ⟨v, ev, _⟩ := r.get e
    exact ⟨vs, v, sqL (s _ _ h), ev⟩
  · obtain ⟨rfl, y2⟩ := y
    obtain ⟨v', ev, rv⟩ := r.get e
    have := y2 vs (sqL (s _ _ h))
    rw [ev] at this
    cases this
    exact ⟨F1, .refl s2, Rep.mono s1 rv⟩
theorem ei_list {m : Option (List α)} (h : EV t σ F H m) : EI (iList K t) σ F H m := fun F1 H1 l xs e R q =>
  h F1 H1 l xs e _ fun v F2 H2 l2 ⟨a, vs, ev, ea, r⟩ => ⟨a, ev, ⟨vs, sqL (l2.fh _ _ ea)⟩, q _ F2 H2 l2 (wk_list ea r)⟩
/-- a pair walked -/
theorem ei_tup {m : Option (α × α)} (h : EV t σ F H m) : EI (iTup K t) σ F H (m.bind fun x => some [x.1, x.2]) := fun F1 H1 l xs e R q => by
  obtain ⟨x, ex, e⟩ := Option.bind_eq_some_iff.mp e
  cases e
  refine h F1 H1 l x ex _ fun v F2 H2 l2 ⟨a, v1, v2, ev, ea, r1, r2⟩ => ⟨a, ev, ⟨_, sqT (l2.fh _ _ ea)⟩, q _ F2 H2 l2 ?_⟩
  refine ⟨fun H s => ⟨_, sqT (s _ _ ea), Nat.le_refl _⟩, fun i y H e s => ?_, fun i y H v H' e s z F1 s1 s2 => ?_⟩
  · match i, e with
    | 0, _ => exact ⟨_, v1, sqT (s _ _ ea), rfl⟩
    | 1, _ => exact ⟨_, v2, sqT (s _ _ ea), rfl⟩
  · obtain ⟨rfl, z2⟩ := z
    match i, e, z2 with
    | 0, e, z2 =>
      cases e
      have := z2 _ (sqT (s _ _ ea))
      cases this
      exact ⟨F1, .refl s2, Rep.mono s1 r1⟩
    | 1, e, z2 =>
      cases e
      have := z2 _ (sqT (s _ _ ea))
      cases this
      exact ⟨F1, .refl s2, Rep.mono s1 r2⟩
theorem wk_range {lo : Int} {n : Nat} : Wk (Itr lo n) ((List.range n).map fun i => lo + ((i : Nat) : Int)) F := by
  refine ⟨fun H s => ?_, fun i x H e s => ?_, fun i x H v H' e s y F1 s1 s2 => ?_⟩
  · show n ≤ _
    simp
  · have := (List.getElem?_eq_some_iff.mp e).1
    show i < n
    simpa using this
  · obtain ⟨rfl, rfl⟩ := y
    have hi : i < n := by simpa using (List.getElem?_eq_some_iff.mp e).1
    refine ⟨F1, .refl s2, ?_⟩
    rw [List.getElem?_map, List.getElem?_range hi] at e
    cases e
    rfl
theorem ei_range1 {m : Option Int} (h : EV t σ F H m) : EI (iRng1 (tCons t tNil)) σ F H (m.bind fun n => rng 0 n) := fun F1 H1 l xs e R q => by
  obtain ⟨n, en, e⟩ := Option.bind_eq_some_iff.mp e
  unfold rng at e
  split at e
  · rename_i c
    cases e
    refine h F1 H1 l n en _ fun v F2 H2 l2 r => ⟨n, by rw [show v = V.int n from r], by omega, by omega, ?_⟩
    refine q _ F2 H2 l2 ?_
    have z : (n - 0).toNat = n.toNat := by rw [Int.sub_zero]
    rw [z]
    exact wk_range
  · cases e
theorem ei_range2 {ta tb : TE} {ma mb : Option Int} (ha : EV ta σ F H ma) (hb : EV tb σ F H mb) : EI (iRng2 (tCons ta (tCons tb tNil))) σ F H (ma.bind fun a => mb.bind fun b => rng a b) := fun F1 H1 l xs e R q => by
  obtain ⟨a, en, e⟩ := Option.bind_eq_some_iff.mp e
  obtain ⟨b, eb, e⟩ := Option.bind_eq_some_iff.mp e
  unfold rng at e
  split at e
  · rename_i c
    cases e
    refine ha F1 H1 l a en _ fun v F2 H2 l2 r => hb F2 H2 (l.trans l2) b eb _ fun w F3 H3 l3 r3 => ⟨a, b, by rw [show v = V.int a from r, show w = V.int b from r3], ⟨by omega, by omega, by omega, by omega⟩, ?_⟩
    exact q _ F3 H3 (l2.trans l3) wk_range
  · cases e
theorem ei_rev {m : Option (List α)} (h : EV t σ F H m) : EI (iRev K (tCons t tNil)) σ F H (m.bind fun xs => some xs.reverse) := fun F1 H1 l ys e R q => by
  obtain ⟨xs, en, e⟩ := Option.bind_eq_some_iff.mp e
  cases e
  refine h F1 H1 l xs en _ fun v F2 H2 l2 ⟨a, vs, ev, ea, r⟩ => ⟨a, vs, by rw [ev], sqL (l2.fh _ _ ea), q _ F2 H2 l2 ?_⟩
  have w := walk_rev (K := K) (a := a) (xs := vs)
  have hl := r.length
  refine ⟨fun H s => ?_, fun i x H e s => w.goes i H ?_ (sqL (s _ _ ea)), fun i x H v H' e s y F1 s1 s2 => ?_⟩
  · have := w.stops H (sqL (s _ _ ea))
    rw [hl] at this
    rw [List.length_reverse, hl]
    exact this
  · rw [hl]
    have := (List.getElem?_eq_some_iff.mp e).1
    simpa using this
  · have hi : i < xs.length := by
      have := (List.getElem?_eq_some_iff.mp e).1
      simpa using this
    obtain ⟨rfl, y2⟩ := w.yields i H v H' (by rw [hl]; exact hi) (sqL (s _ _ ea)) y
    rw [List.getElem?_reverse hi] at e
    obtain ⟨v', ev', rv⟩ := r.get e
    rw [hl, ev'] at y2
    cases y2
    exact ⟨F1, .refl s2, Rep.mono s1 rv⟩
theorem ei_zip {ta tb : TE} {ma : Option (List α)} {mb : Option (List β)} (ha : EV ta σ F H ma) (hb : EV tb σ F H mb) :
    EI (iZip K (tCons ta (tCons tb tNil))) σ F H (ma.bind fun a => mb.bind fun b => some (a.zip b)) := fun F1 H1 l zs e R q => by
  obtain ⟨xs, en, e⟩ := Option.bind_eq_some_iff.mp e
  obtain ⟨ys, eb, e⟩ := Option.bind_eq_some_iff.mp e
  cases e
  refine ha F1 H1 l xs en _ fun v F2 H2 l2 ⟨a, vs, ev, ea, r⟩ => hb F2 H2 (l.trans l2) ys eb _ fun w F3 H3 l3 ⟨b, ws, ew, eb, r3⟩ => ⟨a, b, vs, ws, by rw [ev, ew], sqL (l3.fh _ _ (l3.f _ _ ea)), sqL (l3.fh _ _ eb), q _ F3 H3 (l2.trans l3) ?_⟩
  have w := walk_zip (K := K) (a := a) (b := b) (xs := vs) (ys := ws) rfl
  have ea := l3.f _ _ ea
  have r := rpL.mono l3.f r
  have h1 := r.length
  have h2 := r3.length
  refine ⟨fun H s => ?_, fun i x H e s => w.goes i H ?_ ⟨sqL (s _ _ ea), sqL (s _ _ eb)⟩, fun i x H v H' e s y F1 s1 s2 => ?_⟩
  · have := w.stops H ⟨sqL (s _ _ ea), sqL (s _ _ eb)⟩
    rw [List.length_zip, ← h1, ← h2]
    exact this
  · have := (List.getElem?_eq_some_iff.mp e).1
    rw [List.length_zip] at this
    rw [h1, h2]
    exact this
  · have hi := (List.getElem?_eq_some_iff.mp e).1
    rw [List.length_zip] at hi
    obtain ⟨T, x1, y1, rfl, hT, rfl, e1, e2⟩ := w.yields i H v H' (by rw [h1, h2]; exact hi) ⟨sqL (s _ _ ea), sqL (s _ _ eb)⟩ y
    obtain ⟨u1, eu1⟩ : ∃ u, xs[i]? = some u := ⟨xs[i], by simp [show i < xs.length by omega]⟩
    obtain ⟨u2, eu2⟩ : ∃ u, ys[i]? = some u := ⟨ys[i], by simp [show i < ys.length by omega]⟩
    have ex : x = (u1, u2) := by
      have z : (xs.zip ys)[i]? = some (u1, u2) := by
        rw [List.getElem?_zip_eq_some]
        exact ⟨eu1, eu2⟩
      rw [z] at e
      exact (Option.some.inj e).symm
    subst ex
    obtain ⟨v1, ev1, rv1⟩ := r.get eu1
    obtain ⟨v2, ev2, rv2⟩ := r3.get eu2
    dsimp only at e1 e2
    rw [ev1] at e1
    rw [ev2] at e2
    cases e1
    cases e2
    refine ⟨upd F1 T (.tup [x1, y1]), .new s2 hT, T, x1, y1, rfl, upd_same, ?_, ?_⟩
    · exact Rep.mono (s1.trans (same_upd (s2.free hT))) rv1
    · exact Rep.mono (s1.trans (same_upd (s2.free hT))) rv2

/-! ### targets -/
theorem gt_name {i : Nat} {v : V} {Q : L2.St → Hp → Prop} (h : Q (σ.set i (some v)) H) : gName i v σ H Q := h
theorem gt_pair {i j : Nat} {v : V} {x : α × β} {Q : L2.St → Hp → Prop} (r : rp x v F) (s : Same F H) (h : ∀ v1 v2, rp x.1 v1 F → rp x.2 v2 F → Q ((σ.set i (some v1)).set j (some v2)) H) :
    gTup K 2 (gCons (gName i) (gCons (gName j) gNil)) v σ H Q := by
  obtain ⟨a, v1, v2, rfl, e, r1, r2⟩ := r
  exact ⟨a, [v1, v2], rfl, sqT (s _ _ e), rfl, v1, [v2], rfl, v2, [], rfl, rfl, h v1 v2 r1 r2⟩

/-! ### loops -/
def tLoop (J : It) (g : TG) (tb : TS) : TS := fun D σ H1 => ∃ W : Nat → Nat → L2.St → Hp → Prop, (∃ m, W 0 m σ H1) ∧ ∀ i m σ H, W i m σ H →
  (J.stop i H ∧ D.nx σ H) ∨ (J.go i H ∧ ∃ N : L2.St → Hp → Prop, (∀ σ' H', N σ' H' → ∃ m', m' < m ∧ W (i + 1) m' σ' H') ∧ ∀ x H', J.yld i H x H' → g x σ H' fun σ2 H2 => tb { D with nx := N, ct := N, bk := D.nx } σ2 H2)
theorem rd_for {wi : TI} {g : TG} {tb u : TS} {D : Ends} {r : R} {mi : Option (List α)} {k : List α → Option R} (hF : Same F H) (ei : EI wi σ F H mi) (hm : mi.bind k = some r)
    (c : ∀ xs J F1 H1, k xs = some r → Lat F H F1 H1 → Wk J xs F1 → tLoop J g tb { D with nx := u D } σ H1) : tSeq (tFor wi g tb) u D σ H := by
  obtain ⟨xs, e1, e2⟩ := Option.bind_eq_some_iff.mp hm
  exact ei F H (.refl hF) xs e1 _ fun J F1 H1 l w => c xs J F1 H1 e2 l w
theorem rd_forL {wi : TI} {g : TG} {tb : TS} {D : Ends} {r : R} {mi : Option (List α)} {k : List α → Option R} (hF : Same F H) (ei : EI wi σ F H mi) (hm : mi.bind k = some r)
    (c : ∀ xs J F1 H1, k xs = some r → Lat F H F1 H1 → Wk J xs F1 → tLoop J g tb D σ H1) : tFor wi g tb D σ H := by
  obtain ⟨xs, e1, e2⟩ := Option.bind_eq_some_iff.mp hm
  exact ei F H (.refl hF) xs e1 _ fun J F1 H1 l w => c xs J F1 H1 e2 l w
theorem rd_loopG {J : It} {g : TG} {tb : TS} {D : Ends} {r : R} {xs : List α} {f : S → α → Option S} {s0 : S} {k : S → Option R} (wk : Wk J xs F) (hm : (loopG f s0 xs).bind k = some r)
    (P : S → L2.St → Hp → Hp → Prop) (h0 : P s0 σ F H) (hS : ∀ s σ' F' H', P s σ' F' H' → Same F F' ∧ Same F' H')
    (hb : ∀ x s σ' F' H' v F2 H2, P s σ' F' H' → Lat F' H' F2 H2 → rp x v F2 → ∀ s', f s x = some s' → ∀ (D' : Ends), (∀ σ3 F3 H3, P s' σ3 F3 H3 → D'.nx σ3 H3) → g v σ' H2 fun σ2 H3 => tb D' σ2 H3)
    (hd : ∀ s σ' F' H', k s = some r → P s σ' F' H' → D.nx σ' H') : tLoop J g tb D σ H := by
  refine ⟨fun i m σ' H' => m = xs.length - i ∧ i ≤ xs.length ∧ ∃ s F', P s σ' F' H' ∧ (loopG f s (xs.drop i)).bind k = some r, ⟨xs.length, by simp, Nat.zero_le _, s0, F, h0, by simpa using hm⟩, ?_⟩
  rintro i m σ' H' ⟨rfl, hi, s, F', hP, hl⟩
  obtain ⟨s1, s2⟩ := hS _ _ _ _ hP
  by_cases hlt : i < xs.length
  · have ex : xs[i]? = some xs[i] := by simp [hlt]
    rw [List.drop_eq_getElem_cons hlt] at hl
    obtain ⟨sE, hl, hk⟩ := Option.bind_eq_some_iff.mp hl
    obtain ⟨s', h1, h2⟩ := Option.bind_eq_some_iff.mp (show (f s xs[i]).bind (fun s' => loopG f s' (xs.drop (i + 1))) = some sE from hl)
    refine .inr ⟨wk.go i _ H' ex (s1.trans s2), fun σ3 H3 => ∃ F3, P s' σ3 F3 H3, fun σ3 H3 ⟨F3, hp⟩ => ⟨xs.length - (i + 1), by omega, rfl, hlt, s', F3, hp, Option.bind_eq_some_iff.mpr ⟨sE, h2, hk⟩⟩, fun v H2 y => ?_⟩
    obtain ⟨F2, l2, rv⟩ := wk.yld i _ H' v H2 ex (s1.trans s2) y F' s1 s2
    exact hb _ s σ' F' H' v F2 H2 hP l2 rv s' h1 _ fun σ3 F3 H3 hp => ⟨F3, hp⟩
  · have e : i = xs.length := by omega
    subst e
    rw [List.drop_length] at hl
    exact .inl ⟨wk.stop H' (s1.trans s2), hd s σ' F' H' hl hP⟩
/-- with a return in the body: E tells what a return may hand back -/
theorem rd_loopR {J : It} {g : TG} {tb : TS} {D : Ends} {r : T} {xs : List α} {f : S → α → Option (Stp S R)} {s0 : S} {k : S → Option T} {k' : R → Option T} (wk : Wk J xs F) (hm : (loopR f s0 xs).bind (fun st => st.elim k k') = some r)
    (P : S → L2.St → Hp → Hp → Prop) (h0 : P s0 σ F H) (hS : ∀ s σ' F' H', P s σ' F' H' → Same F F' ∧ Same F' H')
    (hb : ∀ x s σ' F' H' v F2 H2, P s σ' F' H' → Lat F' H' F2 H2 → rp x v F2 → ∀ st, f s x = some st → ∀ (D' : Ends), D'.rt = D.rt → (∀ s', st = .go s' → ∀ σ3 F3 H3, P s' σ3 F3 H3 → D'.nx σ3 H3) → (∀ y, st = .ret y → k' y = some r) → g v σ' H2 fun σ2 H3 => tb D' σ2 H3)
    (hd : ∀ s σ' F' H', k s = some r → P s σ' F' H' → D.nx σ' H') : tLoop J g tb D σ H := by
  refine ⟨fun i m σ' H' => m = xs.length - i ∧ i ≤ xs.length ∧ ∃ s F', P s σ' F' H' ∧ (loopR f s (xs.drop i)).bind (fun st => st.elim k k') = some r, ⟨xs.length, by simp, Nat.zero_le _, s0, F, h0, by simpa using hm⟩, ?_⟩
  rintro i m σ' H' ⟨rfl, hi, s, F', hP, hl⟩
  obtain ⟨s1, s2⟩ := hS _ _ _ _ hP
  by_cases hlt : i < xs.length
  · have ex : xs[i]? = some xs[i] := by simp [hlt]
    rw [List.drop_eq_getElem_cons hlt] at hl
    obtain ⟨sE, hl, hk⟩ := Option.bind_eq_some_iff.mp hl
    obtain ⟨st, h1, h2⟩ := Option.bind_eq_some_iff.mp (show (f s xs[i]).bind (fun st => st.elim (fun s' => loopR f s' (xs.drop (i + 1))) fun y => some (.ret y)) = some sE from hl)
    refine .inr ⟨wk.go i _ H' ex (s1.trans s2), fun σ3 H3 => ∃ s' F3, st = .go s' ∧ P s' σ3 F3 H3, fun σ3 H3 ⟨s', F3, es, hp⟩ => ⟨xs.length - (i + 1), by omega, rfl, hlt, s', F3, hp, Option.bind_eq_some_iff.mpr ⟨sE, by subst es; exact h2, hk⟩⟩, fun v H2 y => ?_⟩
    obtain ⟨F2, l2, rv⟩ := wk.yld i _ H' v H2 ex (s1.trans s2) y F' s1 s2
    refine hb _ s σ' F' H' v F2 H2 hP l2 rv st h1 _ rfl (fun s' es σ3 F3 H3 hp => ⟨s', F3, es, hp⟩) fun y ey => ?_
    subst ey
    cases h2
    exact hk
  · have e : i = xs.length := by omega
    subst e
    rw [List.drop_length] at hl
    exact .inl ⟨wk.stop H' (s1.trans s2), hd s σ' F' H' hl hP⟩
theorem rd_whileG {tc : TT} {tb u : TS} {D : Ends} {r : R} {n : Nat} {c : S → Option Bool} {f : S → Option S} {s0 : S} {k : S → Option R} (hm : (whileG c f n s0).bind k = some r)
    (P : S → L2.St → Hp → Hp → Prop) (h0 : P s0 σ F H) (hS : ∀ s σ' F' H', P s σ' F' H' → Same F' H')
    (hc : ∀ s σ' F' H', P s σ' F' H' → EVT tc σ' F' H' (c s))
    (hb : ∀ s σ' F' H' F2 H2, P s σ' F' H' → Lat F' H' F2 H2 → ∀ s', f s = some s' → ∀ (D' : Ends), (∀ σ3 F3 H3, P s' σ3 F3 H3 → D'.nx σ3 H3) → tb D' σ' H2)
    (hd : ∀ s σ' F' H' F2 H2, k s = some r → P s σ' F' H' → Lat F' H' F2 H2 → u D σ' H2) : tSeq (tWhile tc tb) u D σ H := by
  refine ⟨fun m σ' H' => ∃ s F', P s σ' F' H' ∧ (whileG c f m s).bind k = some r, ⟨n, s0, F, h0, hm⟩, ?_⟩
  rintro m σ' H' ⟨s, F', hP, hl⟩
  cases m with
  | zero => cases hl
  | succ m =>
    obtain ⟨sE, hl, hk⟩ := Option.bind_eq_some_iff.mp hl
    obtain ⟨b, h1, h2⟩ := Option.bind_eq_some_iff.mp (show (c s).bind (fun b => if b then (f s).bind fun s' => whileG c f m s' else some s) = some sE from hl)
    refine hc s σ' F' H' hP F' H' (.refl (hS _ _ _ _ hP)) b h1 _ fun F2 H2 l2 => ?_
    cases b with
    | true =>
      refine iteT ?_
      obtain ⟨s', h3, h4⟩ := Option.bind_eq_some_iff.mp (show (f s).bind (fun s' => whileG c f m s') = some sE from h2)
      exact ⟨fun σ3 H3 => ∃ F3, P s' σ3 F3 H3, fun σ3 H3 ⟨F3, hp⟩ => ⟨m, Nat.lt_succ_self m, s', F3, hp, Option.bind_eq_some_iff.mpr ⟨sE, h4, hk⟩⟩, hb s σ' F' H' F2 H2 hP l2 s' h3 _ fun σ3 F3 H3 hp => ⟨F3, hp⟩⟩
    | false =>
      have e : s = sE := Option.some.inj h2
      subst e
      exact iteF (hd s σ' F' H' F2 H2 hk hP l2)
theorem rd_whileR {tc : TT} {tb u : TS} {D : Ends} {r : T} {n : Nat} {c : S → Option Bool} {f : S → Option (Stp S R)} {s0 : S} {k : S → Option T} {k' : R → Option T} (hm : (whileR c f n s0).bind (fun st => st.elim k k') = some r)
    (P : S → L2.St → Hp → Hp → Prop) (h0 : P s0 σ F H) (hS : ∀ s σ' F' H', P s σ' F' H' → Same F' H')
    (hc : ∀ s σ' F' H', P s σ' F' H' → EVT tc σ' F' H' (c s))
    (hb : ∀ s σ' F' H' F2 H2, P s σ' F' H' → Lat F' H' F2 H2 → ∀ st, f s = some st → ∀ (D' : Ends), D'.rt = D.rt → (∀ s', st = .go s' → ∀ σ3 F3 H3, P s' σ3 F3 H3 → D'.nx σ3 H3) → (∀ y, st = .ret y → k' y = some r) → tb D' σ' H2)
    (hd : ∀ s σ' F' H' F2 H2, k s = some r → P s σ' F' H' → Lat F' H' F2 H2 → u D σ' H2) : tSeq (tWhile tc tb) u D σ H := by
  refine ⟨fun m σ' H' => ∃ s F', P s σ' F' H' ∧ (whileR c f m s).bind (fun st => st.elim k k') = some r, ⟨n, s0, F, h0, hm⟩, ?_⟩
  rintro m σ' H' ⟨s, F', hP, hl⟩
  cases m with
  | zero => cases hl
  | succ m =>
    obtain ⟨sE, hl, hk⟩ := Option.bind_eq_some_iff.mp hl
    obtain ⟨b, h1, h2⟩ := Option.bind_eq_some_iff.mp (show (c s).bind (fun b => if b then (f s).bind fun st => st.elim (fun s' => whileR c f m s') (fun y => some (.ret y)) else some (.go s)) = some sE from hl)
    refine hc s σ' F' H' hP F' H' (.refl (hS _ _ _ _ hP)) b h1 _ fun F2 H2 l2 => ?_
    cases b with
    | true =>
      refine iteT ?_
      obtain ⟨st, h3, h4⟩ := Option.bind_eq_some_iff.mp (show (f s).bind (fun st => st.elim (fun s' => whileR c f m s') fun y => some (.ret y)) = some sE from h2)
      refine ⟨fun σ3 H3 => ∃ s' F3, st = .go s' ∧ P s' σ3 F3 H3, fun σ3 H3 ⟨s', F3, es, hp⟩ => ⟨m, Nat.lt_succ_self m, s', F3, hp, Option.bind_eq_some_iff.mpr ⟨sE, by subst es; exact h4, hk⟩⟩, hb s σ' F' H' F2 H2 hP l2 st h3 _ rfl (fun s' es σ3 F3 H3 hp => ⟨s', F3, es, hp⟩) fun y ey => ?_⟩
      subst ey
      cases h4
      exact hk
    | false =>
      have e : Stp.go s = sE := Option.some.inj h2
      subst e
      exact iteF (hd s σ' F' H' F2 H2 hk hP l2)

/-! ### comprehensions -/
theorem evn_lc {wi : TI} {g : TG} {tt : TT} {te : TE} {vs : List Nat} {mi : Option (List α)} {c : α → Option Bool} {f : α → Option β} (ei : EI wi σ F H mi)
    (hg : ∀ x v F1 H1 (Q : L2.St → Hp → Prop), Lat F H F1 H1 → rp x v F1 → (∀ σ2, wipe σ2 vs = wipe σ vs → EVT tt σ2 F1 H1 (c x) → EV te σ2 F1 H1 (f x) → Q σ2 H1) → g v (wipe σ vs) H1 Q) :
    EVN (tLc wi g tt te vs) σ F H (mi.bind fun xs => lc c f xs) := fun F1 H1 l ys e Q q => by
  obtain ⟨xs, exs, e⟩ := Option.bind_eq_some_iff.mp e
  unfold lc at e
  split at e
  · rename_i hlen
    refine ei F1 H1 l xs exs _ fun J F2 H2 l2 wk D hD => ?_
    have fD : F2 D = none := l2.fh.free hD
    refine ⟨fun i m H' => m = xs.length - i ∧ i ≤ xs.length ∧ ∃ (acc : List V) (as zs : List β) (F' : Hp), Lat F2 H2 F' H' ∧ F' D = none ∧ H' D = some (.lst acc) ∧ rpL as acc F' ∧ as.length ≤ i ∧ lcG c f (xs.drop i) = some zs ∧ ys = as ++ zs,
      ⟨xs.length, by simp, Nat.zero_le _, [], [], ys, F2, .made l2.fh hD, fD, upd_same, trivial, Nat.zero_le _, by simpa using e, rfl⟩, ?_⟩
    rintro i m H' ⟨rfl, hi, acc, as, zs, F', l3, f3, h3, r3, len3, e3, rfl⟩
    have s1 := l3.f
    have s2 := l3.fh
    by_cases hlt : i < xs.length
    · have ex : xs[i]? = some xs[i] := by simp [hlt]
      rw [List.drop_eq_getElem_cons hlt] at e3
      obtain ⟨b, eb, e4⟩ := Option.bind_eq_some_iff.mp (show (c xs[i]).bind (fun b => if b then (f xs[i]).bind fun y => (lcG c f (xs.drop (i + 1))).bind fun ys => some (y :: ys) else lcG c f (xs.drop (i + 1))) = some zs from e3)
      refine .inr ⟨wk.go i _ H' ex (s1.trans s2), fun H' => i + 1 ≤ xs.length ∧ ∃ (acc : List V) (as' zs' : List β) (F' : Hp), Lat F2 H2 F' H' ∧ F' D = none ∧ H' D = some (.lst acc) ∧ rpL as' acc F' ∧ as'.length ≤ i + 1 ∧ lcG c f (xs.drop (i + 1)) = some zs' ∧ as ++ zs = as' ++ zs',
        fun H4 h4 => ⟨xs.length - (i + 1), by omega, rfl, h4⟩, fun v H4 y => ?_⟩
      obtain ⟨F4, l4, rv⟩ := wk.yld i _ H' v H4 ex (s1.trans s2) y F' s1 s2
      have lAll := (l2.trans l3).trans l4
      refine hg _ v F4 H4 _ (l.trans lAll) rv fun σ2 hw ht he => ⟨hw, ?_⟩
      refine ht F4 H4 (.refl l4.fh) b eb _ fun F5 H5 l5 => ?_
      have hD5 : H5 D = some (.lst acc) := l5.h _ _ (l4.h _ _ h3)
      have fD5 : F5 D = none := l5.nwl (l4.h _ _ h3) (l4.nwl h3 f3)
      have r5 : rpL as acc F5 := rpL.mono (l4.f.trans l5.f) r3
      cases b with
      | true =>
        refine iteT ?_
        obtain ⟨y1, ey1, e5⟩ := Option.bind_eq_some_iff.mp (show (f xs[i]).bind (fun y => (lcG c f (xs.drop (i + 1))).bind fun ys => some (y :: ys)) = some zs from e4)
        obtain ⟨zs', ez, e6⟩ := Option.bind_eq_some_iff.mp e5
        cases e6
        refine he F5 H5 l5 y1 ey1 _ fun w F6 H6 l6 rw' => ⟨acc, l6.h _ _ hD5, sz_lt (by rw [r5.length]; omega), ?_⟩
        have fD6 : F6 D = none := l6.nwl hD5 fD5
        refine ⟨hlt, acc ++ [w], as ++ [y1], zs', F6, ((l3.trans l4).trans (l5.trans l6)).put hD fD6, fD6, upd_same, ?_, ?_, ez, by simp⟩
        · exact rpL.append (rpL.mono l6.f r5) ⟨rw', trivial⟩
        · rw [List.length_append, List.length_singleton]
          omega
      | false =>
        refine iteF ⟨hlt, acc, as, zs, F5, (l3.trans l4).trans l5, fD5, hD5, r5, by omega, e4, rfl⟩
    · have ei : i = xs.length := by omega
      subst ei
      rw [List.drop_length] at e3
      have ez : zs = [] := (Option.some.inj e3).symm
      subst ez
      rw [List.append_nil] at q
      exact .inl ⟨wk.stop H' (s1.trans s2), q D acc F' H' (l2.trans l3) (l2.h.free hD) f3 h3 r3⟩
  · cases e
theorem evt_yes : EVT tYes σ F H (some true) := fun F1 H1 l x e Q q => by
  cases e
  exact q F1 H1 (.refl l.fh)

/-! ### statements -/
variable {te : TE} {u : TS} {D : Ends} {r : R} {i : Nat}
theorem rd_asg {m : Option α} {k : α → Option R} (hF : Same F H) (ev : EV te σ F H m) (hm : m.bind k = some r) (c : ∀ x v F1 H1, k x = some r → Lat F H F1 H1 → rp x v F1 → u D (σ.set i (some v)) H1) : tSeq (tAsg te (gName i)) u D σ H := by
  obtain ⟨x, e1, e2⟩ := Option.bind_eq_some_iff.mp hm
  exact ev F H (.refl hF) x e1 _ fun v F1 H1 l rv => c x v F1 H1 e2 l rv
theorem rd_asgL {m : Option α} {k : α → Option R} (hF : Same F H) (ev : EV te σ F H m) (hm : m.bind k = some r) (c : ∀ x v F1 H1, k x = some r → Lat F H F1 H1 → rp x v F1 → D.nx (σ.set i (some v)) H1) : tAsg te (gName i) D σ H := by
  obtain ⟨x, e1, e2⟩ := Option.bind_eq_some_iff.mp hm
  exact ev F H (.refl hF) x e1 _ fun v F1 H1 l rv => c x v F1 H1 e2 l rv
/-- a new list that will change -/
theorem rd_asgN {m : Option (List α)} {k : List α → Option R} (hF : Same F H) (ev : EVN te σ F H m) (hm : m.bind k = some r)
    (c : ∀ xs p vs F1 H1, k xs = some r → Lat F H F1 H1 → H p = none → F1 p = none → H1 p = some (.lst vs) → rpL xs vs F1 → u D (σ.set i (some (.ref p))) H1) : tSeq (tAsg te (gName i)) u D σ H := by
  obtain ⟨x, e1, e2⟩ := Option.bind_eq_some_iff.mp hm
  exact ev F H (.refl hF) x e1 _ fun p vs F1 H1 l h1 h2 h3 rv => c x p vs F1 H1 e2 l h1 h2 h3 rv
theorem rd_asg2 {j : Nat} {m : Option (α × β)} {k : α × β → Option R} (hF : Same F H) (ev : EV te σ F H m) (hm : m.bind k = some r)
    (c : ∀ x v w F1 H1, k x = some r → Lat F H F1 H1 → rp x.1 v F1 → rp x.2 w F1 → u D ((σ.set i (some v)).set j (some w)) H1) : tSeq (tAsg te (gTup K 2 (gCons (gName i) (gCons (gName j) gNil)))) u D σ H := by
  obtain ⟨x, e1, e2⟩ := Option.bind_eq_some_iff.mp hm
  exact ev F H (.refl hF) x e1 _ fun v F1 H1 l rv => gt_pair rv l.fh fun v1 v2 r1 r2 => c x v1 v2 F1 H1 e2 l r1 r2
theorem rd_ret {m : Option α} {k : α → Option R} (hF : Same F H) (ev : EV te σ F H m) (hm : m.bind k = some r) (c : ∀ x v F1 H1, k x = some r → Lat F H F1 H1 → rp x v F1 → D.rt v H1) : tRet te D σ H := by
  obtain ⟨x, e1, e2⟩ := Option.bind_eq_some_iff.mp hm
  exact ev F H (.refl hF) x e1 _ fun v F1 H1 l rv => c x v F1 H1 e2 l rv
theorem rd_ret0 {m : Option α} {x : α} (hF : Same F H) (ev : EV te σ F H m) (hm : m = some x) (c : ∀ v F1 H1, Lat F H F1 H1 → rp x v F1 → D.rt v H1) : tRet te D σ H :=
  ev F H (.refl hF) x hm _ fun v F1 H1 l rv => c v F1 H1 l rv
theorem rd_retN {m : Option (List α)} {x : List α} (hF : Same F H) (ev : EVN te σ F H m) (hm : m = some x) (c : ∀ p vs F1 H1, Lat F H F1 H1 → H p = none → F1 p = none → H1 p = some (.lst vs) → rpL x vs F1 → D.rt (.ref p) H1) : tRet te D σ H :=
  ev F H (.refl hF) x hm _ fun p vs F1 H1 l h1 h2 h3 rv => c p vs F1 H1 l h1 h2 h3 rv
theorem rd_if {c : TT} {t1 t2 : TS} {m : Option Bool} {A B : Option R} (hF : Same F H) (ev : EVT c σ F H m) (hm : (m.bind fun b => if b then A else B) = some r)
    (ct : ∀ F1 H1, m = some true → A = some r → Lat F H F1 H1 → t1 D σ H1) (cf : ∀ F1 H1, m = some false → B = some r → Lat F H F1 H1 → t2 D σ H1) : tIfS c t1 t2 D σ H := by
  obtain ⟨b, e1, e2⟩ := Option.bind_eq_some_iff.mp hm
  refine ev F H (.refl hF) b e1 _ fun F1 H1 l => ?_
  cases b with
  | true => exact iteT (ct F1 H1 e1 e2 l)
  | false => exact iteF (cf F1 H1 e1 e2 l)
theorem rd_seq {t1 t2 : TS} (h : t1 { D with nx := t2 D } σ H) : tSeq t1 t2 D σ H := h
theorem at_st {t : TS} {σ' : L2.St} (e : σ' = σ) (h : t D σ H) : t D σ' H := by
  rw [e]
  exact h
theorem nx_with {D : Ends} {N : L2.St → Hp → Prop} (h : N σ H) : ({ D with nx := N } : Ends).nx σ H := h
theorem rd_next (h : D.nx σ H) : tNext D σ H := h
/-- an if whose both ways go on -/
theorem rd_join {c : TT} {t1 t2 : TS} {m : Option S} {k : S → Option R} (P : S → L2.St → Hp → Hp → Prop) (hm : m.bind k = some r)
    (h1 : ∀ s, m = some s → ∀ D' : Ends, (∀ σ3 F3 H3, P s σ3 F3 H3 → D'.nx σ3 H3) → tIfS c t1 t2 D' σ H) (h2 : ∀ s σ' F' H', k s = some r → P s σ' F' H' → u D σ' H') : tSeq (tIfS c t1 t2) u D σ H := by
  obtain ⟨s, e1, e2⟩ := Option.bind_eq_some_iff.mp hm
  exact h1 s e1 _ fun σ3 F3 H3 hp => h2 s σ3 F3 H3 e2 hp
/-- e alone -/
theorem rd_drop {m : Option α} {k : α → Option R} (hF : Same F H) (ev : EV te σ F H m) (hm : m.bind k = some r) (c : ∀ x F1 H1, k x = some r → Lat F H F1 H1 → u D σ H1) : tSeq (tDrop te) u D σ H := by
  obtain ⟨x, e1, e2⟩ := Option.bind_eq_some_iff.mp hm
  exact ev F H (.refl hF) x e1 _ fun v F1 H1 l _ => c x F1 H1 e2 l
/-- an owned list changed -/
structure Mt (p : Addr) (F H F' H' : Hp) : Prop where
  f : Same F F'
  fh : Same F' H'
  l0 : ∀ F0 H0, Lat F0 H0 F H → H0 p = none → Lat F0 H0 F' H'
  h : ∀ q o, q ≠ p → H q = some o → H' q = some o
  nw : ∀ q o, H q = some o → Chg o → F q = none → F' q = none
theorem Mt.nwl {p : Addr} {F H F' H' : Hp} (m : Mt p F H F' H') {a : Addr} {vs : List V} (e : H a = some (.lst vs)) (f : F a = none) : F' a = none := m.nw a _ e trivial f
theorem Mt.of {p : Addr} {F H F1 H1 : Hp} {o : HO} (l : Lat F H F1 H1) (fp : F1 p = none) : Mt p F H F1 (upd H1 p o) := by
  refine ⟨l.f, fun a u e => ?_, fun F0 H0 l0 h0 => (l0.trans l).put h0 fp, fun q u n e => ?_, l.nw⟩
  · rw [upd_ne (ne_of_none e fp)]
    exact l.fh _ _ e
  · rw [upd_ne n]
    exact l.h _ _ e
/-- xs.append(e) -/
theorem rd_appendL {p : Addr} {xs : List α} {vs : List V} {m : Option α} {k : List α → Option R} {j : Nat} (hF : Same F H) (hj : σ[j]? = some (some (.ref p))) (hp : H p = some (.lst vs)) (fp : F p = none) (rl : rpL xs vs F) (ev : EV te σ F H m)
    (hm : (m.bind fun y => addL xs y).bind k = some r)
    (c : ∀ ys ws F1 H1, k ys = some r → Mt p F H F1 H1 → F1 p = none → H1 p = some (.lst ws) → rpL ys ws F1 → D.nx σ H1) : tDrop (tBM K "list" rAppend (tVar j) (tCons te tNil)) D σ H := by
  obtain ⟨ys, e1, e2⟩ := Option.bind_eq_some_iff.mp hm
  obtain ⟨y, e3, e4⟩ := Option.bind_eq_some_iff.mp e1
  unfold addL at e4
  split at e4
  · rename_i hlen
    cases e4
    refine ⟨.ref p, hj, .inl ⟨rfl, vs, sqL hp⟩, ?_⟩
    refine ev F H (.refl hF) y e3 _ fun v F1 H1 l rv => ?_
    have fp1 := l.nwl hp fp
    exact ⟨p, vs, v, rfl, rfl, l.h _ _ hp, sz_lt (by rw [rl.length]; exact hlen), c _ (vs ++ [v]) F1 _ e2 (Mt.of l fp1) fp1 upd_same (rpL.append (rpL.mono l.f rl) ⟨rv, trivial⟩)⟩
  · cases e4
theorem rd_append {p : Addr} {xs : List α} {vs : List V} {m : Option α} {k : List α → Option R} {j : Nat} (hF : Same F H) (hj : σ[j]? = some (some (.ref p))) (hp : H p = some (.lst vs)) (fp : F p = none) (rl : rpL xs vs F) (ev : EV te σ F H m)
    (hm : (m.bind fun y => addL xs y).bind k = some r)
    (c : ∀ ys ws F1 H1, k ys = some r → Mt p F H F1 H1 → F1 p = none → H1 p = some (.lst ws) → rpL ys ws F1 → u D σ H1) : tSeq (tDrop (tBM K "list" rAppend (tVar j) (tCons te tNil))) u D σ H := rd_appendL (D := { D with nx := u D }) hF hj hp fp rl ev hm c
/-- xs[i] = e -/
theorem rd_setL {ti : TE} {p : Addr} {xs : List α} {vs : List V} {m : Option α} {mi : Option Int} {k : List α → Option R} {j : Nat} (hF : Same F H) (hj : σ[j]? = some (some (.ref p))) (hp : H p = some (.lst vs)) (fp : F p = none) (rl : rpL xs vs F) (ev : EV te σ F H m) (ei : EV ti σ F H mi)
    (hm : (m.bind fun y => mi.bind fun i => setZ xs i y).bind k = some r)
    (c : ∀ ys ws F1 H1, k ys = some r → Mt p F H F1 H1 → F1 p = none → H1 p = some (.lst ws) → rpL ys ws F1 → D.nx σ H1) : tAsg te (gSub (tVar j) ti rSetL) D σ H := by
  obtain ⟨ys, e1, e2⟩ := Option.bind_eq_some_iff.mp hm
  obtain ⟨y, e3, e4⟩ := Option.bind_eq_some_iff.mp e1
  obtain ⟨i, e5, e6⟩ := Option.bind_eq_some_iff.mp e4
  unfold setZ at e6
  obtain ⟨n, e7, e8⟩ := Option.bind_eq_some_iff.mp e6
  cases e8
  refine ev F H (.refl hF) y e3 _ fun v F1 H1 l rv => ?_
  refine ⟨.ref p, hj, ei F1 H1 l i e5 _ fun w F2 H2 l2 rw' => ?_⟩
  have hl : vs.length = xs.length := rl.length
  have l12 := l.trans l2
  have fp2 := l12.nwl hp fp
  refine ⟨p, vs, i, n, rfl, rw', l12.h _ _ hp, ?_, c _ (vs.set n v) F2 _ e2 (Mt.of l12 fp2) fp2 upd_same ?_⟩
  · rw [hl]
    exact e7
  · exact rpL.set (up rv l2) n (rpL.mono l12.f rl)
theorem rd_set {ti : TE} {p : Addr} {xs : List α} {vs : List V} {m : Option α} {mi : Option Int} {k : List α → Option R} {j : Nat} (hF : Same F H) (hj : σ[j]? = some (some (.ref p))) (hp : H p = some (.lst vs)) (fp : F p = none) (rl : rpL xs vs F) (ev : EV te σ F H m) (ei : EV ti σ F H mi)
    (hm : (m.bind fun y => mi.bind fun i => setZ xs i y).bind k = some r)
    (c : ∀ ys ws F1 H1, k ys = some r → Mt p F H F1 H1 → F1 p = none → H1 p = some (.lst ws) → rpL ys ws F1 → u D σ H1) : tSeq (tAsg te (gSub (tVar j) ti rSetL)) u D σ H := rd_setL (D := { D with nx := u D }) hF hj hp fp rl ev ei hm c
/-- an owned list is held for known from here on -/
theorem freeze {p : Addr} {xs : List α} {vs : List V} {F0 H0 : Hp} (l0 : Lat F0 H0 F H) (h0 : H0 p = none) (fp : F p = none) (hp : H p = some (.lst vs)) (rl : rpL xs vs F) : ∃ F', Lat F0 H0 F' H ∧ Same F F' ∧ rp xs (.ref p) F' ∧ ∀ q, q ≠ p → F q = none → F' q = none :=
  ⟨upd F p (.lst vs), l0.hold h0 fp hp, same_upd fp, ⟨p, vs, rfl, upd_same, rpL.mono (same_upd fp) rl⟩, fun q n e => by rw [upd_ne n]; exact e⟩
/-- an owned list read -/
theorem own_rp {p : Addr} {xs : List α} {vs : List V} (s : Same F H) (hp : H p = some (.lst vs)) (rl : rpL xs vs F) : rp xs (.ref p) H := ⟨p, vs, rfl, hp, rpL.mono s rl⟩
theorem ev_varF [Flat α] {i : Nat} {x : α} {v : V} {F' : Hp} (h : σ[i]? = some (some v)) (r : rp x v F') : EV (tVar i) σ F H (some x) := ev_var h (Flat.any r)
theorem rd_retO {p : Addr} {j : Nat} (hj : σ[j]? = some (some (.ref p))) (c : D.rt (.ref p) H) : tRet (tVar j) D σ H := ⟨.ref p, hj, c⟩
theorem rd_guard {c : TT} {t1 : TS} {m : Option Bool} {A B : Option R} (hF : Same F H) (ev : EVT c σ F H m) (hm : (m.bind fun b => if b then A else B) = some r)
    (ct : ∀ F1 H1, m = some true → A = some r → Lat F H F1 H1 → t1 { D with nx := u D } σ H1) (cf : ∀ F1 H1, m = some false → B = some r → Lat F H F1 H1 → u D σ H1) : tSeq (tIfS c t1 tNext) u D σ H :=
  rd_if (D := { D with nx := u D }) hF ev hm ct cf
end

/-! ### the promise of a def -/
class RepB (α : Type) extends RepA α where
  n : Nat
  len : ∀ {x : α} {vs : List V} {F : Hp}, ra x vs F → vs.length = n
instance : RepB Unit := ⟨0, fun h => by
  have e : _ = [] := h
  rw [e]
  rfl⟩
instance {α β : Type} [Rep α] [RepB β] : RepB (α × β) := ⟨RepB.n β + 1, fun h => by
  obtain ⟨v, ws, e, h, k⟩ := h
  rw [e, List.length_cons, RepB.len k]⟩
section
variable {δ α β : Type} [RepB δ] [Rep α] [Rep β]
/-- a def that hands back m of its arguments -/
def spO (m : δ → Option β) : Sp := fun vs H Q _ => ∃ (F : Hp) (x : δ) (y : β), Same F H ∧ ra x vs F ∧ m x = some y ∧ ∀ v F' H', Lat F H F' H' → rp y v F' → Q v H'
/-- a def that hands back a new list -/
def spN (m : δ → Option (List β)) : Sp := fun vs H Q _ => ∃ (F : Hp) (x : δ) (y : List β), Same F H ∧ ra x vs F ∧ m x = some y ∧ ∀ p vs F' H', Lat F H F' H' → H p = none → F' p = none → H' p = some (.lst vs) → rpL y vs F' → Q (.ref p) H'
theorem spO_len {m : δ → Option β} {n : Nat} (hn : RepB.n δ = n) : ∀ vs H Q E, spO m vs H Q E → vs.length = n := fun vs H Q E ⟨F, x, y, _, h, _⟩ => (RepB.len h).trans hn
theorem spN_len {m : δ → Option (List β)} {n : Nat} (hn : RepB.n δ = n) : ∀ vs H Q E, spN m vs H Q E → vs.length = n := fun vs H Q E ⟨F, x, y, _, h, _⟩ => (RepB.len h).trans hn
variable {σ : L2.St} {F H : Hp} {ta : TA} {ma : Option δ} {E : XK}
theorem ev_call {m : δ → Option β} (ha : EVA ta σ F H ma) : EV (tCall (spO m) [] E ta) σ F H (ma.bind fun x => m x) := fun F1 H1 l y e Q q => by
  obtain ⟨x, ex, e⟩ := Option.bind_eq_some_iff.mp e
  refine ha F1 H1 l x ex _ fun vs F2 H2 l2 r => ?_
  rw [List.append_nil]
  exact ⟨F2, x, y, l2.fh, r, e, fun v F3 H3 l3 r3 => q v F3 H3 (l2.trans l3) r3⟩
theorem evn_call {m : δ → Option (List β)} (ha : EVA ta σ F H ma) : EVN (tCall (spN m) [] E ta) σ F H (ma.bind fun x => m x) := fun F1 H1 l y e Q q => by
  obtain ⟨x, ex, e⟩ := Option.bind_eq_some_iff.mp e
  refine ha F1 H1 l x ex _ fun vs F2 H2 l2 r => ?_
  rw [List.append_nil]
  exact ⟨F2, x, y, l2.fh, r, e, fun p vs F3 H3 l3 h1 h2 h3 r3 => q p vs F3 H3 (l2.trans l3) (l2.h.free h1) h2 h3 r3⟩

/-! ### calls of built-ins -/
theorem ev_len {t : TE} {K : PySem.W.Frag} {m : Option (List α)} (h : EV t σ F H m) : EV (tCB (fun xs H Q => ∃ p ys, xs = [.ref p] ∧ (SqL K H p ys ∨ SqT K H p ys) ∧ Q (.int ys.length) H) (tCons t tNil)) σ F H (m.bind fun xs => some (xs.length : Int)) := fun F1 H1 l y e Q q => by
  obtain ⟨x, ex, e⟩ := Option.bind_eq_some_iff.mp e
  cases e
  refine h F1 H1 l x ex _ fun v F2 H2 l2 ⟨a, vs, e1, e2, r⟩ => ⟨a, vs, by rw [e1], .inl (sqL (l2.fh _ _ e2)), q _ F2 H2 l2 ?_⟩
  rw [r.length]
  rfl
theorem ev_lenS {t : TE} {K : PySem.W.Frag} {m : Option (Scr K)} (h : EV t σ F H m) : EV (tCB (fun xs H Q => ∃ p ys, xs = [.ref p] ∧ (SqL K H p ys ∨ SqT K H p ys) ∧ Q (.int ys.length) H) (tCons t tNil)) σ F H (m.bind fun xs => some (xs.l.length : Int)) := fun F1 H1 l y e Q q => by
  obtain ⟨x, ex, e⟩ := Option.bind_eq_some_iff.mp e
  cases e
  refine h F1 H1 l x ex _ fun v F2 H2 l2 ⟨a, e1, e2⟩ => ⟨a, _, by rw [e1], .inl (same_l l2.fh e2), q _ F2 H2 l2 ?_⟩
  rw [List.length_map]
  rfl
theorem ev_len2 {t : TE} {K : PySem.W.Frag} {m : Option (α × β)} (h : EV t σ F H m) : EV (tCB (fun xs H Q => ∃ p ys, xs = [.ref p] ∧ (SqL K H p ys ∨ SqT K H p ys) ∧ Q (.int ys.length) H) (tCons t tNil)) σ F H (m.bind fun _ => some (2 : Int)) := fun F1 H1 l y e Q q => by
  obtain ⟨x, ex, e⟩ := Option.bind_eq_some_iff.mp e
  cases e
  exact h F1 H1 l x ex _ fun v F2 H2 l2 ⟨a, v1, v2, e1, e2, r⟩ => ⟨a, [v1, v2], by rw [e1], .inr (sqT (l2.fh _ _ e2)), q _ F2 H2 l2 rfl⟩
theorem evn_list {t : TE} {K : PySem.W.Frag} {m : Option (List α)} (h : EV t σ F H m) : EVN (tCB (fun xs H Q => ∃ p ys, xs = [.ref p] ∧ (SqL K H p ys ∨ SqT K H p ys) ∧ ∀ l, H l = none → Q (.ref l) (upd H l (.lst ys))) (tCons t tNil)) σ F H m := fun F1 H1 l y e Q q =>
  h F1 H1 l y e _ fun v F2 H2 l2 ⟨a, vs, e1, e2, r⟩ => ⟨a, vs, by rw [e1], .inl (sqL (l2.fh _ _ e2)), fun p hp => q p vs F2 _ (l2.trans (.made l2.fh hp)) (l2.h.free hp) (l2.fh.free hp) upd_same r⟩
theorem ev_max2 {ta tb : TE} {ma mb : Option Int} (ha : EV ta σ F H ma) (hb : EV tb σ F H mb) : EV (tCB (fun xs H Q => ∃ i j, xs = [.int i, .int j] ∧ Q (.int (if j > i then j else i)) H) (tCons ta (tCons tb tNil))) σ F H (ma.bind fun i => mb.bind fun j => some (if j > i then j else i)) := fun F1 H1 l y e Q q => by
  obtain ⟨x, ex, e⟩ := Option.bind_eq_some_iff.mp e
  obtain ⟨x2, ex2, e⟩ := Option.bind_eq_some_iff.mp e
  cases e
  exact ha F1 H1 l x ex _ fun v F2 H2 l2 rv => hb F2 H2 (l.trans l2) x2 ex2 _ fun w F3 H3 l3 r3 => ⟨x, x2, by rw [show v = V.int x from rv, show w = V.int x2 from r3], q _ F3 H3 (l2.trans l3) rfl⟩
theorem ev_min2 {ta tb : TE} {ma mb : Option Int} (ha : EV ta σ F H ma) (hb : EV tb σ F H mb) : EV (tCB (fun xs H Q => ∃ i j, xs = [.int i, .int j] ∧ Q (.int (if j < i then j else i)) H) (tCons ta (tCons tb tNil))) σ F H (ma.bind fun i => mb.bind fun j => some (if j < i then j else i)) := fun F1 H1 l y e Q q => by
  obtain ⟨x, ex, e⟩ := Option.bind_eq_some_iff.mp e
  obtain ⟨x2, ex2, e⟩ := Option.bind_eq_some_iff.mp e
  cases e
  exact ha F1 H1 l x ex _ fun v F2 H2 l2 rv => hb F2 H2 (l.trans l2) x2 ex2 _ fun w F3 H3 l3 r3 => ⟨x, x2, by rw [show v = V.int x from rv, show w = V.int x2 from r3], q _ F3 H3 (l2.trans l3) rfl⟩
theorem ev_abs {t : TE} {m : Option Int} (h : EV t σ F H m) : EV (tCB (fun xs H Q => ∃ i, xs = [.int i] ∧ Q (.int (if i < 0 then -i else i)) H) (tCons t tNil)) σ F H (m.bind fun i => some (if i < 0 then -i else i)) := fun F1 H1 l y e Q q => by
  obtain ⟨x, ex, e⟩ := Option.bind_eq_some_iff.mp e
  cases e
  exact h F1 H1 l x ex _ fun v F2 H2 l2 r => ⟨x, by rw [show v = V.int x from r], q _ F2 H2 l2 rfl⟩
theorem ev_intB {t : TE} {m : Option Bool} (h : EV t σ F H m) : EV (tCB (fun xs H Q => (∃ i, xs = [.int i] ∧ Q (.int i) H) ∨ ∃ k, xs = [.bl k] ∧ Q (.int (if k then 1 else 0)) H) (tCons t tNil)) σ F H (m.bind fun k => some (if k then (1 : Int) else 0)) := fun F1 H1 l y e Q q => by
  obtain ⟨x, ex, e⟩ := Option.bind_eq_some_iff.mp e
  cases e
  exact h F1 H1 l x ex _ fun v F2 H2 l2 r => .inr ⟨x, by rw [show v = V.bl x from r], q _ F2 H2 l2 rfl⟩

/-! ### lists -/
theorem evn_cut {t : TE} {K : PySem.W.Frag} {m : Option (List α)} {tl th : TO} {lo hi : Option (Option Int)} (h : EV t σ F H m)
    (hl : ∀ F1 H1, Lat F H F1 H1 → ∀ i, lo = some i → ∀ Q : Option Int → Hp → Prop, (∀ F2 H2, Lat F1 H1 F2 H2 → Q i H2) → tl σ H1 Q)
    (hh : ∀ F1 H1, Lat F H F1 H1 → ∀ i, hi = some i → ∀ Q : Option Int → Hp → Prop, (∀ F2 H2, Lat F1 H1 F2 H2 → Q i H2) → th σ H1 Q) :
    EVN (tSl (rSlL K) t tl th) σ F H (m.bind fun xs => lo.bind fun i => hi.bind fun j => some (cutZ xs i j)) := fun F1 H1 l y e Q q => by
  obtain ⟨x, ex, e⟩ := Option.bind_eq_some_iff.mp e
  obtain ⟨i, ei, e⟩ := Option.bind_eq_some_iff.mp e
  obtain ⟨j, ej, e⟩ := Option.bind_eq_some_iff.mp e
  cases e
  refine h F1 H1 l x ex _ fun v F2 H2 l2 ⟨a, vs, e1, e2, r⟩ => hl F2 H2 (l.trans l2) i ei _ fun F3 H3 l3 => hh F3 H3 ((l.trans l2).trans l3) j ej _ fun F4 H4 l4 => ?_
  have L := (l2.trans l3).trans l4
  refine ⟨a, vs, e1, sqL (l4.h _ _ (l3.h _ _ (l2.fh _ _ e2))), fun p hp => q p _ F4 _ (L.trans (.made l4.fh hp)) (L.h.free hp) (l4.fh.free hp) upd_same ?_⟩
  have hln := r.length
  unfold cutZ cutV
  rw [hln]
  exact rpL.take _ (rpL.drop _ (rpL.mono (l3.f.trans l4.f) r))
theorem po_no : ∀ F1 H1, Lat F H F1 H1 → ∀ i, (some none : Option (Option Int)) = some i → ∀ Q : Option Int → Hp → Prop, (∀ F2 H2, Lat F1 H1 F2 H2 → Q i H2) → tNoPart σ H1 Q := fun F1 H1 l i e Q q => by
  cases e
  exact q F1 H1 (.refl l.fh)
theorem po_at {t : TE} {m : Option Int} (h : EV t σ F H m) : ∀ F1 H1, Lat F H F1 H1 → ∀ i, (m.bind fun x => some (some x)) = some i → ∀ Q : Option Int → Hp → Prop, (∀ F2 H2, Lat F1 H1 F2 H2 → Q i H2) → tPart t σ H1 Q := fun F1 H1 l i e Q q => by
  obtain ⟨x, ex, e⟩ := Option.bind_eq_some_iff.mp e
  cases e
  exact h F1 H1 l x ex _ fun v F2 H2 l2 r => ⟨x, r, q F2 H2 l2⟩
theorem evn_rev {t : TE} {K : PySem.W.Frag} {m : Option (List α)} (h : EV t σ F H m) : EVN (tRevL K t) σ F H (m.bind fun xs => some xs.reverse) := fun F1 H1 l y e Q q => by
  obtain ⟨x, ex, e⟩ := Option.bind_eq_some_iff.mp e
  cases e
  exact h F1 H1 l x ex _ fun v F2 H2 l2 ⟨a, vs, e1, e2, r⟩ => ⟨a, vs, e1, sqL (l2.fh _ _ e2), fun p hp => q p _ F2 _ (l2.trans (.made l2.fh hp)) (l2.h.free hp) (l2.fh.free hp) upd_same r.reverse⟩
theorem rvn_cat (xs ys : List α) : RVN rCat xs ys (catL xs ys) := fun F H v w s ⟨a, vs, e1, e2, r⟩ ⟨b, ws, e3, e4, r2⟩ zs e Q q => by
  unfold catL at e
  split at e
  · rename_i hl
    cases e
    refine ⟨a, b, vs, ws, e1, e3, s _ _ e2, s _ _ e4, sz_ok (by rw [r.length, r2.length]; exact hl), fun p hp => ?_⟩
    exact q p _ F _ (.made s hp) hp (s.free hp) upd_same (rpL.append r r2)
  · cases e
end
end Dw

set_option Elab.async false
set_option linter.all false
set_option maxRecDepth 100000
set_option maxHeartbeats 4000000
/-! The layer, third part: data compared, sorted, asked for their kind; defs as they stand. -/
namespace Dw
open PySem L2 Dv
open Rep (rp)
open RepA (ra)

/-! ### data -/
class Dat (α : Type) [Rep α] [DecidableEq α] where
  enc : α → PyData
  dep : Nat
  dp : ∀ {K : PySem.W.Frag} {x : α} {v : V} {F : Hp}, rp x v F → Dp K F v (enc x)
  lay : ∀ x : α, (enc x).canLay0 = true
  depth : ∀ x : α, (enc x).depth ≤ dep
  eqv : ∀ x y : α, PyData.eqv (enc x) (enc y) = decide (x = y)
instance : Dat Int := ⟨fun i => .int i, 0, fun h => by cases h; exact .int _, fun _ => by simp [PyData.canLay0], fun _ => by simp [PyData.depth], fun x y => by
  simp only [PyData.eqv]
  exact Bool.beq_eq_decide_eq _ _⟩
instance : Dat Bool := ⟨fun i => .bool i, 0, fun h => by cases h; exact .bl _, fun _ => by simp [PyData.canLay0], fun _ => by simp [PyData.depth], fun x y => by
  simp only [PyData.eqv]
  exact Bool.beq_eq_decide_eq _ _⟩
section
variable {α β : Type} [Rep α] [DecidableEq α] [Dat α] [Rep β] [DecidableEq β] [Dat β]
theorem dpAll {K : PySem.W.Frag} {F : Hp} : ∀ {xs : List α} {vs : List V}, rpL xs vs F → DpAll K F vs (xs.map Dat.enc)
  | [], [], _ => .nil
  | _ :: _, _ :: _, h => .cons (Dat.dp h.1) (dpAll h.2)
  | [], _ :: _, h => h.elim
  | _ :: _, [], h => h.elim
theorem layAll : ∀ xs : List α, PyData.canLayAll0 (xs.map Dat.enc) = true
  | [] => by simp [PyData.canLayAll0]
  | x :: xs => by simp [PyData.canLayAll0, Dat.lay x, layAll xs]
theorem depAll : ∀ xs : List α, PyData.depthAll (xs.map Dat.enc) ≤ Dat.dep α
  | [] => by simp [PyData.depthAll]
  | x :: xs => by
    have h1 := Dat.depth x
    have h2 := depAll xs
    simp only [List.map_cons, PyData.depthAll]
    omega
theorem eqvAll : ∀ xs ys : List α, PyData.eqvAll (xs.map Dat.enc) (ys.map Dat.enc) = decide (xs = ys)
  | [], [] => by simp [PyData.eqvAll]
  | [], _ :: _ => by simp [PyData.eqvAll]
  | _ :: _, [] => by simp [PyData.eqvAll]
  | x :: xs, y :: ys => by
    simp only [List.map_cons, PyData.eqvAll, Dat.eqv x y, eqvAll xs ys]
    simp
instance : Dat (List α) := ⟨fun xs => .list (xs.map Dat.enc), Dat.dep α + 1, fun ⟨a, vs, e, h, r⟩ => by rw [e]; exact .lst (sqL h) (dpAll r), fun xs => by
  simp only [PyData.canLay0]
  exact layAll xs, fun xs => by
  simp only [PyData.depth]
  exact Nat.succ_le_succ (depAll xs), fun xs ys => by
  simp only [PyData.eqv]
  exact eqvAll xs ys⟩
instance : Dat (α × β) := ⟨fun x => .tuple [Dat.enc x.1, Dat.enc x.2], max (Dat.dep α) (Dat.dep β) + 1, fun ⟨a, v, w, e, h, r1, r2⟩ => by rw [e]; exact .tup (sqT h) (.cons (Dat.dp r1) (.cons (Dat.dp r2) .nil)), fun x => by
  simp [PyData.canLay0, PyData.canLayAll0, Dat.lay], fun x => by
  have h1 := Dat.depth x.1
  have h2 := Dat.depth x.2
  simp only [PyData.depth, PyData.depthAll]
  omega, fun x y => by
  simp only [PyData.eqv, PyData.eqvAll, Dat.eqv]
  obtain ⟨a, b⟩ := x
  obtain ⟨c, d⟩ := y
  simp⟩
instance : Dat (Duo α β) := ⟨fun x => .list [Dat.enc x.a, Dat.enc x.b], max (Dat.dep α) (Dat.dep β) + 1, fun ⟨a, v, w, e, h, r1, r2⟩ => by rw [e]; exact .lst (sqL h) (.cons (Dat.dp r1) (.cons (Dat.dp r2) .nil)), fun x => by
  simp [PyData.canLay0, PyData.canLayAll0, Dat.lay], fun x => by
  have h1 := Dat.depth x.a
  have h2 := Dat.depth x.b
  simp only [PyData.depth, PyData.depthAll]
  omega, fun x y => by
  simp only [PyData.eqv, PyData.eqvAll, Dat.eqv]
  obtain ⟨a, b⟩ := x
  obtain ⟨c, d⟩ := y
  simp⟩
theorem shaped (x : α) (h : Dat.dep α ≤ 64 := by decide) : SeqAt.shaped (Dat.enc x) = true := by
  have h1 := Dat.depth x
  show ((Dat.enc x).canLay0 && decide ((Dat.enc x).depth ≤ 64)) = true
  rw [Bool.and_eq_true]
  exact ⟨Dat.lay x, decide_eq_true (by omega)⟩
theorem dp_up {K : PySem.W.Frag} {F H : Hp} (s : Same F H) {x : α} {v : V} (h : rp x v F) : Dp K H v (Dat.enc x) := Dat.dp (Rep.mono s h)
theorem rv_eqD {K : PySem.W.Frag} (x y : α) (h : Dat.dep α ≤ 64 := by decide) : RV (rEqD K) x y (some (decide (x = y))) := fun F H v w s rv rw' z e Q q => by
  cases e
  refine ⟨Dat.enc x, Dat.enc y, dp_up s rv, dp_up s rw', shaped x h, shaped y h, q _ F H (.refl s) ?_⟩
  rw [Dat.eqv]
  rfl
theorem rv_neD {K : PySem.W.Frag} (x y : α) (h : Dat.dep α ≤ 64 := by decide) : RV (rNeD K) x y (some (!decide (x = y))) := fun F H v w s rv rw' z e Q q => by
  cases e
  refine ⟨Dat.enc x, Dat.enc y, dp_up s rv, dp_up s rw', shaped x h, shaped y h, q _ F H (.refl s) ?_⟩
  rw [Dat.eqv]
  rfl
theorem any_enc (x : α) : ∀ xs : List α, ((xs.map Dat.enc).any fun z => PyData.eqv z (Dat.enc x)) = decide (x ∈ xs)
  | [] => by simp
  | y :: ys => by
    rw [List.map_cons, List.any_cons, any_enc x ys, Dat.eqv]
    by_cases h : y = x
    · simp [h]
    · have h' : ¬ x = y := fun e => h e.symm
      simp [h, h']
theorem rv_inD {K : PySem.W.Frag} (x : α) (xs : List α) (h : Dat.dep α + 1 ≤ 64 := by decide) : RV (rInD K) x xs (some (memL x xs)) := fun F H v w s rv rw' z e Q q => by
  cases e
  refine ⟨Dat.enc x, xs.map Dat.enc, dp_up s rv, dp_up (α := List α) s rw', shaped x (by omega), shaped (α := List α) xs h, q _ F H (.refl s) ?_⟩
  rw [any_enc]
  rfl
theorem rv_notInD {K : PySem.W.Frag} (x : α) (xs : List α) (h : Dat.dep α + 1 ≤ 64 := by decide) : RV (rNotInD K) x xs (some (!memL x xs)) := fun F H v w s rv rw' z e Q q => by
  cases e
  refine ⟨Dat.enc x, xs.map Dat.enc, dp_up s rv, dp_up (α := List α) s rw', shaped x (by omega), shaped (α := List α) xs h, q _ F H (.refl s) ?_⟩
  rw [any_enc]
  rfl
end
theorem flat_ints (xs : List Int) : (xs.map V.int).all flatV = true := by
  induction xs with
  | nil => rfl
  | cons x xs ih => exact ih
theorem inV_ints (x : Int) : ∀ xs : List Int, inV (.int x) (xs.map V.int) = decide (x ∈ xs)
  | [] => by simp [inV]
  | y :: ys => by
    have ih := inV_ints x ys
    unfold inV at ih ⊢
    rw [List.map_cons, List.any_cons, ih]
    show ((y == x) || _) = _
    by_cases h : y = x
    · simp [h]
    · have h' : ¬ x = y := fun e => h e.symm
      simp [h, h']
theorem rv_inI {K : PySem.W.Frag} (x : Int) (xs : List Int) : RV (rIn K false) x xs (some (memL x xs)) := fun F H v w s rv ⟨a, vs, e1, e2, r⟩ z e Q q => by
  cases e
  cases rv
  rw [rpL_ints r] at e2
  refine ⟨a, _, e1, .inl (sqL (s _ _ e2)), rfl, flat_ints xs, q _ F H (.refl s) ?_⟩
  rw [if_neg Bool.false_ne_true, inV_ints]
  rfl
theorem rv_notInI {K : PySem.W.Frag} (x : Int) (xs : List Int) : RV (rIn K true) x xs (some (!memL x xs)) := fun F H v w s rv ⟨a, vs, e1, e2, r⟩ z e Q q => by
  cases e
  cases rv
  rw [rpL_ints r] at e2
  refine ⟨a, _, e1, .inl (sqL (s _ _ e2)), rfl, flat_ints xs, q _ F H (.refl s) ?_⟩
  rw [if_pos rfl, inV_ints]
  rfl

/-! ### order of pairs, sorting -/
theorem rv_leT {K : PySem.W.Frag} (x y : Int × Int) : RV (rLeT K) x y (some (leP x y)) := fun F H v w s ⟨a, v1, v2, e1, e2, r1, r2⟩ ⟨b, w1, w2, e3, e4, r3, r4⟩ z e Q q => by
  cases e
  cases r1
  cases r2
  cases r3
  cases r4
  refine ⟨a, b, [x.1, x.2], [y.1, y.2], e1, e3, sqT (s _ _ e2), sqT (s _ _ e4), q _ F H (.refl s) ?_⟩
  show V.bl _ = V.bl _
  congr 1
  show (if decide (x.1 = y.1) = true then (if decide (x.2 = y.2) = true then decide (2 ≤ 2) else decide (x.2 ≤ y.2)) else decide (x.1 ≤ y.1)) = leP x y
  unfold leP
  by_cases h1 : x.1 = y.1
  · by_cases h2 : x.2 = y.2
    · simp [h1, h2]
    · simp [h1, h2]
  · simp [h1]
def kOf (F : Hp) : V → Int × Int
  | .ref t => match F t with
    | some (.tup [.int a, .int b]) => (a, b)
    | _ => (0, 0)
  | _ => (0, 0)
theorem kOf_rp {F : Hp} {x : Int × Int} {v : V} (h : rp x v F) : kOf F v = x ∧ ∃ t, v = .ref t ∧ F t = some (.tup [.int x.1, .int x.2]) := by
  obtain ⟨a, v1, v2, e1, e2, r1, r2⟩ := h
  cases r1
  cases r2
  subst e1
  refine ⟨?_, a, rfl, e2⟩
  show (match F a with
    | some (.tup [.int a, .int b]) => (a, b)
    | _ => ((0, 0) : Int × Int)) = x
  rw [e2]
theorem rpL_kOf {F : Hp} : ∀ {xs : List (Int × Int)} {vs : List V}, rpL xs vs F → xs = vs.map (kOf F) ∧ ∀ v ∈ vs, ∃ t, v = .ref t ∧ F t = some (.tup [.int (kOf F v).1, .int (kOf F v).2])
  | [], [], _ => ⟨rfl, fun _ h => by simp at h⟩
  | x :: xs, v :: vs, h => by
    obtain ⟨e, h2⟩ := rpL_kOf h.2
    obtain ⟨e1, t, e2, e3⟩ := kOf_rp h.1
    refine ⟨by rw [List.map_cons, e1, ← e], fun w hw => ?_⟩
    rcases List.mem_cons.mp hw with rfl | hw
    · rw [e1]
      exact ⟨t, e2, e3⟩
    · exact h2 w hw
  | [], _ :: _, h => h.elim
  | _ :: _, [], h => h.elim
theorem rpL_of_kOf {F : Hp} : ∀ {vs : List V}, (∀ v ∈ vs, ∃ t, v = .ref t ∧ F t = some (.tup [.int (kOf F v).1, .int (kOf F v).2])) → rpL (vs.map (kOf F)) vs F
  | [], _ => trivial
  | v :: vs, h => by
    obtain ⟨t, e1, e2⟩ := h v List.mem_cons_self
    exact ⟨⟨t, _, _, e1, e2, rfl, rfl⟩, rpL_of_kOf fun w hw => h w (List.mem_cons_of_mem _ hw)⟩
section
variable {t : TE} {σ : L2.St} {F H : Hp} {K : PySem.W.Frag}
theorem evn_sortP {m : Option (List (Int × Int))} (h : EV t σ F H m) : EVN (tCB (rSortedPO K) (tCons t tNil)) σ F H (m.bind fun xs => some (srt leP xs)) := fun F1 H1 l y e Q q => by
  obtain ⟨xs, ex, e⟩ := Option.bind_eq_some_iff.mp e
  cases e
  refine h F1 H1 l xs ex _ fun v F2 H2 l2 ⟨a, vs, e1, e2, r⟩ => ?_
  obtain ⟨k1, k2⟩ := rpL_kOf r
  refine ⟨a, vs, kOf F2, by rw [e1], sqL (l2.fh _ _ e2), fun x hx => ?_, fun ys p hs hst hp => ?_⟩
  · obtain ⟨t, e3, e4⟩ := k2 x hx
    exact ⟨t, e3, l2.fh _ _ e4⟩
  · have e5 : ys.map (kOf F2) = srt leP xs := by
      refine srt_uniq ordP ?_ ?_
      · rw [k1]
        exact hst.perm.map _
      · rw [List.pairwise_map]
        refine List.Pairwise.imp (fun {x y} (hxy : SrtO.lexB (kOf F2 y) (kOf F2 x) = false) => ?_) hs
        have := SrtO.lexB_no.mp hxy
        unfold leP
        split <;> simp only [decide_eq_true_eq] <;> omega
    refine q p ys F2 _ (l2.trans (.made l2.fh hp)) (l2.h.free hp) (l2.fh.free hp) upd_same ?_
    rw [← e5]
    exact rpL_of_kOf fun v hv => k2 v (hst.perm.mem_iff.mp hv)
theorem evn_sortI {m : Option (List Int)} (h : EV t σ F H m) : EVN (tCB (rSorted K) (tCons t tNil)) σ F H (m.bind fun xs => srtI xs) := fun F1 H1 l y e Q q => by
  obtain ⟨xs, ex, e⟩ := Option.bind_eq_some_iff.mp e
  unfold srtI at e
  split at e
  · rename_i hl
    cases e
    refine h F1 H1 l xs ex _ fun v F2 H2 l2 ⟨a, vs, e1, e2, r⟩ => ?_
    rw [rpL_ints r] at e2
    refine ⟨a, xs, by rw [e1], sqL (l2.fh _ _ e2), hl, fun ns' p hp hs hn => ?_⟩
    have e5 : ns' = srt leI xs := srt_uniq ordI hp (List.Pairwise.imp (fun {a b} h => by unfold leI; exact decide_eq_true h) hs)
    subst e5
    exact q p _ F2 _ (l2.trans (.made l2.fh hn)) (l2.h.free hn) (l2.fh.free hn) upd_same (rpL_ints' _)
  · cases e
end

/-! ### isinstance -/
class Typ (α : Type) [Rep α] where
  name : String
  ty : ∀ {K : PySem.W.Frag} {x : α} {v : V} {F : Hp}, rp x v F → TyX K F v (.type name)
instance : Typ Int := ⟨"int", fun h => by cases h; exact .base (.int _)⟩
instance : Typ Bool := ⟨"bool", fun h => by cases h; exact .base (.bl _)⟩
instance : Typ Str := ⟨"str", fun h => by cases h; exact .base (.str _)⟩
instance {α : Type} [Rep α] : Typ (List α) := ⟨"list", fun ⟨a, vs, e, h, r⟩ => by rw [e]; exact .base (.lst h)⟩
instance {α β : Type} [Rep α] [Rep β] : Typ (α × β) := ⟨"tuple", fun ⟨a, v, w, e, h, r⟩ => by rw [e]; exact .base (.tup h)⟩
section
variable {α : Type} [Rep α] [Typ α] {t : TE} {σ : L2.St} {F H : Hp} {K : PySem.W.Frag}
theorem ev_isi {m : Option α} (h : EV t σ F H m) {n : String} (b : Bool) (hk : kitB (Typ.name α) n = some b := by decide +kernel) : EV (tCB (rIsi K) (tCons t (tCons (tC (.ty n)) tNil))) σ F H (m.bind fun _ => some b) := fun F1 H1 l y e Q q => by
  obtain ⟨x, ex, e⟩ := Option.bind_eq_some_iff.mp e
  cases e
  exact h F1 H1 l x ex _ fun v F2 H2 l2 r => ⟨v, .ty n, _, _, b, rfl, .ty n, Typ.ty (Rep.mono l2.fh r), kit_ty hk, q _ F2 H2 l2 rfl⟩
end

/-! ### defs as they stand -/
structure Fn (P : Program) (w : World) (K : PySem.W.Frag) (mg : Str → Option Value) (base : Heap) (CX : CXT) (k : Nat) (x : Str) (ps : List Str) (sp : Sp) : Prop where
  ex : ∃ f fd, mg x = some (.ref f) ∧ PySem.W.keepIn K (.ref f) = true ∧ Binds K fd ps [] ∧ FnOk P w K mg base CX k f fd ps sp
theorem pe_fn {X : Cx} {k : Nat} {x : Str} {ps : List Str} {sp : Sp} {p pos : Pos} {e : Expr} {es : List Expr} {t : TA} (F : Fn X.prog X.w X.K X.mg X.base CX0 k x ps sp) (hr : Room k X.A) (hg : Gl X x)
    (ha : PA X (e :: es) t) (hdb : (x == ("__debug__" : Str)) = false := by decide) (he : starEach (e :: es) X.env = (false, eval e X.env) :: starEach es X.env := by rfl) (hpl : (backTo pos (starEach es X.env)).any (·.1) = false := by rfl) :
    PE X (.Call (.Name x p) (e :: es) [] pos) (tCall sp [] E0 t) := by
  obtain ⟨f, fd, h1, h2, h3, h4⟩ := F.ex
  exact pe_call h4 hr hg h1 h2 h3 .nil pass0 ha hdb he hpl
theorem hu64 {A : Around} {k : Nat} (hr : Room k A) : A.units + 64 < cLine := by have := hr.un; omega
theorem hu65 {A : Around} {k : Nat} (hr : Room k A) : A.units + 65 < cLine := by have := hr.un; omega
theorem hu0 {A : Around} {k : Nat} (hr : Room k A) : A.units < cLine := by have := hr.un; omega
end Dw

set_option Elab.async false
set_option linter.all false
set_option maxRecDepth 100000
set_option maxHeartbeats 4000000
/-! The layer, fourth part: chains of three, ranges as lists, and what else is asked for now and then. -/
namespace L2
open PySem PySem.Spec PyProof.Rows
/-- a op1 b op2 c op3 d -/
def tChain3 (r r' r'' : R2) (ta tb tc td : TE) : TE := fun σ H Q => ta σ H fun x H1 => tb σ H1 fun y H2 => r x y H2 fun z H3 => ∃ k, z = .bl k ∧
  (if k = true then tc σ H3 fun w' H4 => r' y w' H4 fun z' H5 => ∃ k', z' = .bl k' ∧ (if k' = true then td σ H5 fun u' H6 => r'' w' u' H6 Q else Q (.bl false) H5) else Q (.bl false) H3)
section
variable {X : Cx} {a b c d : Expr} {ta tb tc td : TE} {pos : Pos}
theorem pt_chain3 {op op' op'' : CmpOp} {r r' r'' : R2} (ho : OpR X (compareOp op) r) (ho' : OpR X (compareOp op') r') (ho'' : OpR X (compareOp op'') r'') (ha : PE X a ta) (hb : PE X b tb) (hc : PE X c tc) (hd : PE X d td)
    (hm : lastMarks [op, op', op''] [b, c, d] = false := by with_unfolding_all rfl) : PT X (.Compare a [op, op', op''] [b, c, d] pos) (tTest (tChain3 r r' r'' ta tb tc td)) := by
  refine ⟨fun pins s σ H Q I h => ?_⟩
  refine isTrue_chain (thn (ha.run pins s σ H _ I h) fun v s1 ⟨x, H1, I1, r1, q1⟩ => test_link (thn (hb.run pins s1 σ H1 _ I1 q1) fun u s2 ⟨y, H2, I2, r2, q2⟩ =>
    thn (ho pins s2 σ H2 x y v u _ I2 r1 r2 q2) fun e s3 ⟨z, H3, I3, r3, k, ez, q3⟩ => ?_)) hm
  subst ez
  cases r3
  refine wpAny_truthy_bool ?_
  cases k with
  | false =>
    obtain ⟨k', e', q'⟩ := q3
    cases e'
    exact ite_ff ⟨H3, I3, q'⟩
  | true =>
    refine ite_tt (test_link (thn (hc.run pins s3 σ H3 _ I3 q3) fun w' s4 ⟨z', H4, I4, r4, q4⟩ => thn (ho' pins s4 σ H4 y z' u w' _ I4 r2 r4 q4) fun d' s5 ⟨z2, H5, I5, r5, k2, e2, q5⟩ => ?_))
    subst e2
    cases r5
    refine wpAny_truthy_bool ?_
    cases k2 with
    | false =>
      obtain ⟨k', e', q'⟩ := q5
      cases e'
      exact ite_ff ⟨H5, I5, q'⟩
    | true =>
      refine ite_tt (test_last (thn (hd.run pins s5 σ H5 _ I5 q5) fun u' s6 ⟨z6, H6, I6, r6, q6⟩ => thn (ho'' pins s6 σ H6 z' z6 w' u' _ I6 r4 r6 q6) fun d' s7 ⟨z7, H7, I7, r7, k7, e7, q7⟩ => ?_))
      subst e7
      cases r7
      exact wpAny_truthy_bool ⟨H7, I7, q7⟩
end
end L2
namespace Dw
open PySem L2 Dv
open Rep (rp)
open RepA (ra)
section
variable {α β γ δ : Type} [Rep α] [Rep β] [Rep γ] [Rep δ] {t : TE} {σ : L2.St} {F H : Hp} {K : PySem.W.Frag}
theorem ev_chain3 {ta tb tc td : TE} {r r' r'' : R2} {ma : Option α} {mb : Option β} {mc : Option γ} {md : Option δ} {k : α → β → Option Bool} {k' : β → γ → Option Bool} {k'' : γ → δ → Option Bool} (ha : EV ta σ F H ma) (hb : EV tb σ F H mb) (hc : EV tc σ F H mc) (hd : EV td σ F H md)
    (hr : ∀ x y, RV r x y (k x y)) (hr' : ∀ x y, RV r' x y (k' x y)) (hr'' : ∀ x y, RV r'' x y (k'' x y)) :
    EV (tChain3 r r' r'' ta tb tc td) σ F H (ma.bind fun x => mb.bind fun y => (k x y).bind fun b => if b then mc.bind fun z => (k' y z).bind fun b => if b then md.bind fun u => k'' z u else some false else some false) := fun F1 H1 l z e Q q => by
  obtain ⟨x, ex, e⟩ := Option.bind_eq_some_iff.mp e
  obtain ⟨y, ey, e⟩ := Option.bind_eq_some_iff.mp e
  obtain ⟨b, eb, e⟩ := Option.bind_eq_some_iff.mp e
  refine ha F1 H1 l x ex _ fun v F2 H2 l2 rv => hb F2 H2 (l.trans l2) y ey _ fun w F3 H3 l3 rw' => ?_
  refine hr x y F3 H3 v w l3.fh (up rv l3) rw' b eb _ fun u F4 H4 l4 ru => ⟨b, ru, ?_⟩
  cases b with
  | true =>
    refine iteT ?_
    obtain ⟨z1, ez1, e⟩ := Option.bind_eq_some_iff.mp e
    obtain ⟨b2, eb2, e⟩ := Option.bind_eq_some_iff.mp e
    refine hc F4 H4 (((l.trans l2).trans l3).trans l4) z1 ez1 _ fun w2 F5 H5 l5 r5 => ?_
    refine hr' y z1 F5 H5 w w2 l5.fh (up (up rw' l4) l5) r5 b2 eb2 _ fun u6 F6 H6 l6 r6 => ⟨b2, r6, ?_⟩
    cases b2 with
    | true =>
      refine iteT ?_
      obtain ⟨z3, ez3, e⟩ := Option.bind_eq_some_iff.mp e
      refine hd F6 H6 (((((l.trans l2).trans l3).trans l4).trans l5).trans l6) z3 ez3 _ fun w7 F7 H7 l7 r7 => ?_
      exact hr'' z1 z3 F7 H7 w2 w7 l7.fh (up (up r5 l6) l7) r7 z e Q fun u8 F8 H8 l8 r8 => q u8 F8 H8 ((((((l2.trans l3).trans l4).trans l5).trans l6).trans l7).trans l8) r8
    | false =>
      have e' : false = z := Option.some.inj e
      subst e'
      exact iteF (q _ F6 H6 ((((l2.trans l3).trans l4).trans l5).trans l6) rfl)
  | false =>
    have e' : false = z := Option.some.inj e
    subst e'
    exact iteF (q _ F4 H4 ((l2.trans l3).trans l4) rfl)
theorem rv_isB (x y : Bool) : RV rIsB x y (some (decide (x = y))) := fun F H v w s rv rw' z e Q q => by
  cases e
  exact ⟨x, y, rv, rw', q _ F H (.refl s) rfl⟩
theorem rv_isnotB (x y : Bool) : RV rNotB x y (some (!decide (x = y))) := fun F H v w s rv rw' z e Q q => by
  cases e
  exact ⟨x, y, rv, rw', q _ F H (.refl s) rfl⟩
theorem evn_lrng {m : Option Int} (h : EV t σ F H m) : EVN (tLstRg (tRg1 t)) σ F H (m.bind fun n => lrng n) := fun F1 H1 l xs e Q q => by
  obtain ⟨n, en, e⟩ := Option.bind_eq_some_iff.mp e
  unfold lrng at e
  split at e
  · rename_i c
    cases e
    refine h F1 H1 l n en _ fun v F2 H2 l2 r => ⟨n, r, ⟨by omega, by omega, by omega, by omega, ?_⟩, fun p hp => ?_⟩
    · have : (2 : Nat) ^ 24 = 16777216 := by decide
      rw [this]
      omega
    · refine q p _ F2 _ (l2.trans (.made l2.fh hp)) (l2.h.free hp) (l2.fh.free hp) upd_same ?_
      unfold rgV
      have e1 : (n - 0).toNat = n.toNat := by rw [Int.sub_zero]
      rw [e1]
      have e2 : (List.range n.toNat).map (fun i => V.int (0 + ((i : Nat) : Int))) = ((List.range n.toNat).map fun i => ((i : Nat) : Int)).map V.int := by
        rw [List.map_map]
        refine List.map_congr_left fun i _ => ?_
        show V.int (0 + (i : Int)) = V.int (i : Int)
        rw [Int.zero_add]
      rw [e2]
      exact rpL_ints' _
  · cases e
/-- a part of the script -/
theorem evn_cutS {m : Option (Scr K)} {tl th : TO} {lo hi : Option (Option Int)} (h : EV t σ F H m)
    (hl : ∀ F1 H1, Lat F H F1 H1 → ∀ i, lo = some i → ∀ Q : Option Int → Hp → Prop, (∀ F2 H2, Lat F1 H1 F2 H2 → Q i H2) → tl σ H1 Q)
    (hh : ∀ F1 H1, Lat F H F1 H1 → ∀ i, hi = some i → ∀ Q : Option Int → Hp → Prop, (∀ F2 H2, Lat F1 H1 F2 H2 → Q i H2) → th σ H1 Q) :
    EVN (tSl (rSlL K) t tl th) σ F H (m.bind fun xs => lo.bind fun i => hi.bind fun j => some (cutZ xs.l i j)) := fun F1 H1 l y e Q q => by
  obtain ⟨x, ex, e⟩ := Option.bind_eq_some_iff.mp e
  obtain ⟨i, ei, e⟩ := Option.bind_eq_some_iff.mp e
  obtain ⟨j, ej, e⟩ := Option.bind_eq_some_iff.mp e
  cases e
  refine h F1 H1 l x ex _ fun v F2 H2 l2 ⟨a, e1, e2⟩ => hl F2 H2 (l.trans l2) i ei _ fun F3 H3 l3 => hh F3 H3 ((l.trans l2).trans l3) j ej _ fun F4 H4 l4 => ?_
  have L := (l2.trans l3).trans l4
  refine ⟨a, _, e1, same_l (l3.h.trans l4.h) (same_l l2.fh e2), fun p hp => q p _ F4 _ (L.trans (.made l4.fh hp)) (L.h.free hp) (l4.fh.free hp) upd_same ?_⟩
  unfold cutZ cutV
  rw [List.length_map]
  exact rpL.take _ (rpL.drop _ (rpL_ints' _))
theorem ev_powL {ta tb : TE} {x y n : Int} (ha : EV ta σ F H (some x)) (hb : EV tb σ F H (some y)) (hc : CPow x y) (hn : x ^ y.toNat = n) : EV (tOp (rI CPow fun i j => .int (i ^ j.toNat)) ta tb) σ F H (some n) := fun F1 H1 l z e Q q => by
  cases e
  refine ha F1 H1 l x rfl _ fun v F2 H2 l2 rv => hb F2 H2 (l.trans l2) y rfl _ fun w F3 H3 l3 rw' => ?_
  exact ⟨x, y, rv, rw', hc, q _ F3 H3 (l2.trans l3) (show V.int _ = V.int n by rw [hn])⟩
theorem rv_divW (x y : Int) : RV (rI CDivW fun i j => .int (i / j)) x y (divW x y) := rv_I x y fun z e => by
  unfold divW at e
  split at e
  · rename_i c
    cases e
    exact ⟨c, rfl⟩
  · cases e
end
end Dw
/-! ### rules whose reading names the written part K itself (for use within a comprehension) -/
namespace Dw
open PySem L2 Dv
section
variable {X : Cx} {K : PySem.W.Frag}
theorem ix_listK (hK : X.K = K) : IxR X (rIxL K) := hK ▸ ix_list
theorem ix_tupK (hK : X.K = K) : IxR X (rIxT K) := hK ▸ ix_tup
theorem op_in_seqK (hK : X.K = K) : OpR X (compareOp .In) (rIn K false) := hK ▸ op_in_seq
theorem op_notIn_seqK (hK : X.K = K) : OpR X (compareOp .NotIn) (rIn K true) := hK ▸ op_notIn_seq
theorem op_inDK (hK : X.K = K) (hu : X.A.units + 65 < cLine) : OpR X (compareOp .In) (rInD K) := hK ▸ op_inD hu
theorem op_notInDK (hK : X.K = K) (hu : X.A.units + 65 < cLine) : OpR X (compareOp .NotIn) (rNotInD K) := hK ▸ op_notInD hu
theorem op_eqDK (hK : X.K = K) (hu : X.A.units + 64 < cLine) : OpR X (compareOp .Eq) (rEqD K) := hK ▸ op_eqD hu
theorem op_neDK (hK : X.K = K) (hu : X.A.units + 64 < cLine) : OpR X (compareOp .NotEq) (rNeD K) := hK ▸ op_neD hu
theorem op_leTK (hK : X.K = K) (hu : X.A.units < cLine) : OpR X (compareOp .LtE) (rLeT K) := hK ▸ op_leT hu
theorem sl_listK (hK : X.K = K) : SlR X (rSlL K) := hK ▸ sl_list
theorem call_len_seqK (hK : X.K = K) : CallR X (.builtin "len") (fun xs H Q => ∃ p ys, xs = [.ref p] ∧ (SqL K H p ys ∨ SqT K H p ys) ∧ Q (.int ys.length) H) := hK ▸ call_len_seq
theorem call_list_ofK (hK : X.K = K) : CallR X (.type "list") (fun xs H Q => ∃ p ys, xs = [.ref p] ∧ (SqL K H p ys ∨ SqT K H p ys) ∧ ∀ l, H l = none → Q (.ref l) (upd H l (.lst ys))) := hK ▸ call_list_of
theorem cr_sortedPOK (hK : X.K = K) : CallR X (.builtin "sorted") (rSortedPO K) := hK ▸ cr_sortedPO
theorem cr_sortedK (hK : X.K = K) : CallR X (.builtin "sorted") (rSorted K) := hK ▸ cr_sorted
theorem call_isiK (hK : X.K = K) : CallR X (.builtin "isinstance") (rIsi K) := hK ▸ call_isi
theorem pi_listK {tg l : Expr} {tl : TE} (hK : X.K = K) (hl : PE X l tl) : PI X tg l (iList K tl) := hK ▸ pi_list hl
theorem pi_tupK {tg l : Expr} {tl : TE} (hK : X.K = K) (hl : PE X l tl) : PI X tg l (iTup K tl) := hK ▸ pi_tup hl
theorem mt_indexK (hK : X.K = K) : MtR X "list.index" (rIndex K) := hK ▸ mt_index
theorem pe_bmK {T name id : String} {r : V → List V → Hp → VK → Prop} {o : Expr} {to : TE} {e : Expr} {es : List Expr} {t : TA} {apos pos : Pos} (hK : X.K = K) (h : PE X (.Call (.Attribute o name apos) (e :: es) [] pos) (tBM X.K T r to t)) : PE X (.Call (.Attribute o name apos) (e :: es) [] pos) (tBM K T r to t) := hK ▸ h
theorem pg_tup2K {i j : Nat} {es : List Expr} {k : Nat} {pos : Pos} {t : TGs} {n : Nat} (hK : X.K = K) (h : PG X (.Tuple es k pos) (gTup X.K n t)) : PG X (.Tuple es k pos) (gTup K n t) := hK ▸ h
end
end Dw

set_option Elab.async false
set_option linter.all false
set_option maxRecDepth 100000
set_option maxHeartbeats 4000000
/-! The layer, fifth part: defs that refuse, and refusals caught. -/
namespace Dw
open PySem L2 Dv
open Rep (rp)
open RepA (ra)
section
variable {α β γ R : Type} [Rep α] [Rep β] [Rep γ] {cl : Er → Value} {W : WX} {t : TE} {σ : L2.St} {F H : Hp} {K : PySem.W.Frag}
/-- what an expression is worth that may refuse: cl tells the classes, W what is wished then -/
def EX (cl : Er → Value) (W : WX) (t : TE) (σ : L2.St) (F H : Hp) (m : Rs α) : Prop :=
  ∀ F1 H1, Lat F H F1 H1 → ∀ y, m = some y → ∀ Q : VK, (∀ x, y = .ok x → ∀ v F2 H2, Lat F1 H1 F2 H2 → rp x v F2 → Q v H2) →
    (∀ e, y = .error e → ∀ F2 H2, Lat F1 H1 F2 H2 → W (cl e) none σ H2) → t σ H1 Q
/-- the same of arguments -/
def EXA {δ : Type} [RepA δ] (cl : Er → Value) (W : WX) (t : TA) (σ : L2.St) (F H : Hp) (m : Rs δ) : Prop :=
  ∀ F1 H1, Lat F H F1 H1 → ∀ y, m = some y → ∀ Q : List V → Hp → Prop, (∀ x, y = .ok x → ∀ vs F2 H2, Lat F1 H1 F2 H2 → ra x vs F2 → Q vs H2) →
    (∀ e, y = .error e → ∀ F2 H2, Lat F1 H1 F2 H2 → W (cl e) none σ H2) → t σ H1 Q
theorem EV.x {m : Option α} (h : EV t σ F H m) : EX cl W t σ F H (m.bind fun x => some (.ok x)) := fun F1 H1 l y e Q q _ => by
  obtain ⟨x, ex, e⟩ := Option.bind_eq_some_iff.mp e
  cases e
  exact h F1 H1 l x ex Q fun v F2 H2 l2 r => q x rfl v F2 H2 l2 r
theorem EVA.x {δ : Type} [RepA δ] {t : TA} {m : Option δ} (h : EVA t σ F H m) : EXA cl W t σ F H (m.bind fun x => some (.ok x)) := fun F1 H1 l y e Q q _ => by
  obtain ⟨x, ex, e⟩ := Option.bind_eq_some_iff.mp e
  cases e
  exact h F1 H1 l x ex Q fun v F2 H2 l2 r => q x rfl v F2 H2 l2 r
theorem exB_some {y : Except Er α} {k : α → Rs β} {z : Except Er β} (h : exB y k = some z) : (∃ x, y = .ok x ∧ k x = some z) ∨ ∃ e, y = .error e ∧ z = .error e := by
  cases y with
  | ok x => exact .inl ⟨x, rfl, h⟩
  | error e => exact .inr ⟨e, rfl, by cases h; rfl⟩
theorem exa_cons {δ : Type} [RepA δ] {tr : TA} {m : Rs α} {mr : Rs δ} (h : EX cl W t σ F H m) (hr : EXA cl W tr σ F H mr) : EXA cl W (tCons t tr) σ F H (m.bind fun y => exB y fun x => mr.bind fun z => exB z fun w => some (.ok (x, w))) := fun F1 H1 l y e Q q qe => by
  obtain ⟨y1, e1, e⟩ := Option.bind_eq_some_iff.mp e
  refine h F1 H1 l y1 e1 _ (fun x ex v F2 H2 l2 rv => ?_) (fun e2 ee F2 H2 l2 => ?_)
  · subst ex
    obtain ⟨y2, e3, e⟩ := Option.bind_eq_some_iff.mp (show (mr.bind fun z => exB z fun w => some (.ok (x, w))) = some y from e)
    refine hr F2 H2 (l.trans l2) y2 e3 _ (fun w ew ws F3 H3 l3 rw' => ?_) (fun e4 ee F3 H3 l3 => ?_)
    · subst ew
      cases e
      exact q (x, w) rfl (v :: ws) F3 H3 (l2.trans l3) ⟨v, ws, rfl, (up rv l3), rw'⟩
    · subst ee
      cases e
      exact qe e4 rfl F3 H3 (l2.trans l3)
  · subst ee
    cases e
    exact qe e2 rfl F2 H2 l2
theorem ex_some {m : Rs α} (h : EX cl W t σ F H m) : EX cl W t σ F H (m.bind fun y => exB y fun x => some (.ok (some x))) := fun F1 H1 l z e Q q qe => by
  obtain ⟨y1, e1, e⟩ := Option.bind_eq_some_iff.mp e
  refine h F1 H1 l y1 e1 Q (fun x ex v F2 H2 l2 rv => ?_) (fun e2 ee F2 H2 l2 => ?_)
  · subst ex
    cases e
    exact q (some x) rfl v F2 H2 l2 rv
  · subst ee
    cases e
    exact qe e2 rfl F2 H2 l2
theorem ex_inl {m : Rs α} (h : EX cl W t σ F H m) : EX cl W t σ F H (m.bind fun y => exB y fun x => some (.ok (Sum.inl x : α ⊕ β))) := fun F1 H1 l z e Q q qe => by
  obtain ⟨y1, e1, e⟩ := Option.bind_eq_some_iff.mp e
  refine h F1 H1 l y1 e1 Q (fun x ex v F2 H2 l2 rv => ?_) (fun e2 ee F2 H2 l2 => ?_)
  · subst ex
    cases e
    exact q (.inl x) rfl v F2 H2 l2 rv
  · subst ee
    cases e
    exact qe e2 rfl F2 H2 l2
theorem ex_inr {m : Rs β} (h : EX cl W t σ F H m) : EX cl W t σ F H (m.bind fun y => exB y fun x => some (.ok (Sum.inr x : α ⊕ β))) := fun F1 H1 l z e Q q qe => by
  obtain ⟨y1, e1, e⟩ := Option.bind_eq_some_iff.mp e
  refine h F1 H1 l y1 e1 Q (fun x ex v F2 H2 l2 rv => ?_) (fun e2 ee F2 H2 l2 => ?_)
  · subst ex
    cases e
    exact q (.inr x) rfl v F2 H2 l2 rv
  · subst ee
    cases e
    exact qe e2 rfl F2 H2 l2
theorem ex_tup {ta tb : TE} {ma : Rs α} {mb : Rs β} (ha : EX cl W ta σ F H ma) (hb : EX cl W tb σ F H mb) : EX cl W (tTup (tCons ta (tCons tb tNil))) σ F H (ma.bind fun y => exB y fun x => mb.bind fun z => exB z fun w => some (.ok (x, w))) := fun F1 H1 l y e Q q qe => by
  obtain ⟨y1, e1, e⟩ := Option.bind_eq_some_iff.mp e
  refine ha F1 H1 l y1 e1 _ (fun x ex v F2 H2 l2 rv => ?_) (fun e2 ee F2 H2 l2 => ?_)
  · subst ex
    obtain ⟨y2, e3, e⟩ := Option.bind_eq_some_iff.mp (show (mb.bind fun z => exB z fun w => some (.ok (x, w))) = some y from e)
    refine hb F2 H2 (l.trans l2) y2 e3 _ (fun w ew v2 F3 H3 l3 rw' => ?_) (fun e4 ee F3 H3 l3 => ?_)
    · subst ew
      cases e
      refine ⟨by show 2 ≤ sizeLine; decide, fun p hp => ?_⟩
      refine q (x, w) rfl (.ref p) (upd F3 p (.tup [v, v2])) (upd H3 p (.tup [v, v2])) ((l2.trans l3).trans (.new l3.fh hp)) ⟨p, v, v2, rfl, upd_same, ?_, ?_⟩
      · exact Rep.mono (same_upd (l3.fh.free hp)) (up rv l3)
      · exact Rep.mono (same_upd (l3.fh.free hp)) rw'
    · subst ee
      cases e
      exact qe e4 rfl F3 H3 (l2.trans l3)
  · subst ee
    cases e
    exact qe e2 rfl F2 H2 l2
/-- an operator whose left side may refuse -/
theorem ex_op {ta tb : TE} {r : R2} {ma : Rs α} {mb : Option β} {k : α → β → Option γ} (ha : EX cl W ta σ F H ma) (hb : EV tb σ F H mb) (hr : ∀ x y, RV r x y (k x y)) :
    EX cl W (tOp r ta tb) σ F H (ma.bind fun y => exB y fun x => mb.bind fun y => (k x y).bind fun z => some (.ok z)) := fun F1 H1 l z e Q q qe => by
  obtain ⟨y1, e1, e⟩ := Option.bind_eq_some_iff.mp e
  refine ha F1 H1 l y1 e1 _ (fun x ex v F2 H2 l2 rv => ?_) (fun e2 ee F2 H2 l2 => ?_)
  · subst ex
    obtain ⟨y2, e3, e⟩ := Option.bind_eq_some_iff.mp (show (mb.bind fun y => (k x y).bind fun z => some (.ok z)) = some z from e)
    obtain ⟨z1, e4, e⟩ := Option.bind_eq_some_iff.mp e
    cases e
    refine hb F2 H2 (l.trans l2) y2 e3 _ fun w F3 H3 l3 rw' => ?_
    exact hr x y2 F3 H3 v w l3.fh (up rv l3) rw' z1 e4 Q fun u F4 H4 l4 ru => q z1 rfl u F4 H4 ((l2.trans l3).trans l4) ru
  · subst ee
    cases e
    exact qe e2 rfl F2 H2 l2
theorem ex_abs {m : Rs Int} (h : EX cl W t σ F H m) : EX cl W (tCB (fun xs H Q => ∃ i, xs = [.int i] ∧ Q (.int (if i < 0 then -i else i)) H) (tCons t tNil)) σ F H (m.bind fun y => exB y fun i => some (.ok (if i < 0 then -i else i))) := fun F1 H1 l z e Q q qe => by
  obtain ⟨y1, e1, e⟩ := Option.bind_eq_some_iff.mp e
  refine h F1 H1 l y1 e1 _ (fun x ex v F2 H2 l2 rv => ?_) (fun e2 ee F2 H2 l2 => ?_)
  · subst ex
    cases e
    exact ⟨x, by rw [show v = V.int x from rv], q _ rfl _ F2 H2 l2 rfl⟩
  · subst ee
    cases e
    exact qe e2 rfl F2 H2 l2
end

/-! ### promises -/
section
variable {δ α β R : Type} [RepB δ] [Rep α] [Rep β] {cl : Er → Value} {W : WX} {σ : L2.St} {F H : Hp} {ta : TA}
def spX (cl : Er → Value) (m : δ → Rs β) : Sp := fun vs H Q E => ∃ (F : Hp) (x : δ) (y : Except Er β), Same F H ∧ ra x vs F ∧ m x = some y ∧ (∀ z, y = .ok z → ∀ v F' H', Lat F H F' H' → rp z v F' → Q v H') ∧ ∀ e, y = .error e → ∀ F' H', Lat F H F' H' → E (cl e) none H'
def spXN (cl : Er → Value) (m : δ → Rs (List β)) : Sp := fun vs H Q E => ∃ (F : Hp) (x : δ) (y : Except Er (List β)), Same F H ∧ ra x vs F ∧ m x = some y ∧ (∀ z, y = .ok z → ∀ p ws F' H', Lat F H F' H' → H p = none → F' p = none → H' p = some (.lst ws) → rpL z ws F' → Q (.ref p) H') ∧ ∀ e, y = .error e → ∀ F' H', Lat F H F' H' → E (cl e) none H'
theorem spX_len {m : δ → Rs β} {n : Nat} (hn : RepB.n δ = n) : ∀ vs H Q E, spX cl m vs H Q E → vs.length = n := fun vs H Q E ⟨F, x, y, _, h, _⟩ => (RepB.len h).trans hn
theorem spXN_len {m : δ → Rs (List β)} {n : Nat} (hn : RepB.n δ = n) : ∀ vs H Q E, spXN cl m vs H Q E → vs.length = n := fun vs H Q E ⟨F, x, y, _, h, _⟩ => (RepB.len h).trans hn
/-- a call that may refuse -/
theorem ex_call {m : δ → Rs β} {ma : Rs δ} (ha : EXA cl W ta σ F H ma) : EX cl W (tCallS (spX cl m) (WE W) ta) σ F H (ma.bind fun y => exB y fun x => m x) := fun F1 H1 l y e Q q qe => by
  obtain ⟨y1, e1, e⟩ := Option.bind_eq_some_iff.mp e
  refine ha F1 H1 l y1 e1 _ (fun x ex vs F2 H2 l2 r => ?_) (fun e2 ee F2 H2 l2 => ?_)
  · subst ex
    exact ⟨F2, x, y, l2.fh, r, e, fun z ez v F3 H3 l3 r3 => q z ez v F3 H3 (l2.trans l3) r3, fun e2 ee F3 H3 l3 => qe e2 ee F3 H3 (l2.trans l3)⟩
  · subst ee
    cases e
    exact qe e2 rfl F2 H2 l2
theorem ex_callN {m : δ → Rs (List β)} {ma : Rs δ} (ha : EXA cl W ta σ F H ma) : EX cl W (tCallS (spXN cl m) (WE W) ta) σ F H (ma.bind fun y => exB y fun x => m x) := fun F1 H1 l y e Q q qe => by
  obtain ⟨y1, e1, e⟩ := Option.bind_eq_some_iff.mp e
  refine ha F1 H1 l y1 e1 _ (fun x ex vs F2 H2 l2 r => ?_) (fun e2 ee F2 H2 l2 => ?_)
  · subst ex
    exact ⟨F2, x, y, l2.fh, r, e, fun z ez p ws F3 H3 l3 h1 h2 h3 r3 => q z ez (.ref p) (upd F3 p (.lst ws)) H3 ((l2.trans l3).hold (l2.h.free h1) h2 h3) ⟨p, ws, rfl, upd_same, rpL.mono (same_upd h2) r3⟩, fun e2 ee F3 H3 l3 => qe e2 ee F3 H3 (l2.trans l3)⟩
  · subst ee
    cases e
    exact qe e2 rfl F2 H2 l2
/-- a call that does not refuse -/
theorem noX_some {m : Rs β} {y : β} (h : noX m = some y) : m = some (.ok y) := by
  unfold noX at h
  obtain ⟨z, ez, e⟩ := Option.bind_eq_some_iff.mp h
  cases z with
  | ok x =>
    cases e
    exact ez
  | error _ => cases e
theorem ev_callX {m : δ → Rs β} {ma : Option δ} {E : XK} (ha : EVA ta σ F H ma) : EV (tCall (spX cl m) [] E ta) σ F H (ma.bind fun x => noX (m x)) := fun F1 H1 l y e Q q => by
  obtain ⟨x, ex, e⟩ := Option.bind_eq_some_iff.mp e
  refine ha F1 H1 l x ex _ fun vs F2 H2 l2 r => ?_
  rw [List.append_nil]
  exact ⟨F2, x, .ok y, l2.fh, r, noX_some e, fun z ez v F3 H3 l3 r3 => by cases ez; exact q v F3 H3 (l2.trans l3) r3, fun e ee => by cases ee⟩
theorem evn_callX {m : δ → Rs (List β)} {ma : Option δ} {E : XK} (ha : EVA ta σ F H ma) : EVN (tCall (spXN cl m) [] E ta) σ F H (ma.bind fun x => noX (m x)) := fun F1 H1 l y e Q q => by
  obtain ⟨x, ex, e⟩ := Option.bind_eq_some_iff.mp e
  refine ha F1 H1 l x ex _ fun vs F2 H2 l2 r => ?_
  rw [List.append_nil]
  exact ⟨F2, x, .ok y, l2.fh, r, noX_some e, fun z ez p ws F3 H3 l3 h1 h2 h3 r3 => by cases ez; exact q p ws F3 H3 (l2.trans l3) (l2.h.free h1) h2 h3 r3, fun e ee => by cases ee⟩
theorem pe_fnX {X : Cx} {k : Nat} {x : Str} {ps : List Str} {sp : Sp} {p pos : Pos} {e : Expr} {es : List Expr} {t : TA} (tk : Takes X W) (F : Fn X.prog X.w X.K X.mg X.base (L2.CX X.prog X.w) k x ps sp) (hr : Room k X.A) (hg : Gl X x)
    (ha : PA X (e :: es) t) (hdb : (x == ("__debug__" : Str)) = false := by decide) (he : starEach (e :: es) X.env = (false, eval e X.env) :: starEach es X.env := by rfl) (hpl : (backTo pos (starEach es X.env)).any (·.1) = false := by rfl) :
    PE X (.Call (.Name x p) (e :: es) [] pos) (tCallS sp (WE W) t) := by
  obtain ⟨f, fd, h1, h2, h3, h4⟩ := F.ex
  exact pe_callS h4 hr hg h1 h2 h3 (fun σ => passAt tk σ) ha hdb he hpl
theorem pe_fn0 {X : Cx} {k : Nat} {x : Str} {ps : List Str} {sp : Sp} {p pos : Pos} {e : Expr} {es : List Expr} {t : TA} (F : Fn X.prog X.w X.K X.mg X.base (L2.CX X.prog X.w) k x ps sp) (hr : Room k X.A) (hg : Gl X x)
    (ha : PA X (e :: es) t) (hdb : (x == ("__debug__" : Str)) = false := by decide) (he : starEach (e :: es) X.env = (false, eval e X.env) :: starEach es X.env := by rfl) (hpl : (backTo pos (starEach es X.env)).any (·.1) = false := by rfl) :
    PE X (.Call (.Name x p) (e :: es) [] pos) (tCall sp [] E0 t) := by
  obtain ⟨f, fd, h1, h2, h3, h4⟩ := F.ex
  exact pe_call h4 hr hg h1 h2 h3 .nil passL ha hdb he hpl

/-! ### statements -/
variable {te : TE} {u : TS} {D : Ends} {r : Except Er R} {i : Nat}
theorem rd_asgX {m : Rs α} {k : α → Rs R} (hF : Same F H) (ex : EX cl W te σ F H m) (hm : (m.bind fun y => exB y k) = some r) (ce : ∀ e F1 H1, r = .error e → Lat F H F1 H1 → W (cl e) none σ H1)
    (c : ∀ x v F1 H1, k x = some r → Lat F H F1 H1 → rp x v F1 → u D (σ.set i (some v)) H1) : tSeq (tAsg te (gName i)) u D σ H := by
  obtain ⟨y, e1, e2⟩ := Option.bind_eq_some_iff.mp hm
  refine ex F H (.refl hF) y e1 _ (fun x ex v F1 H1 l rv => ?_) (fun e ee F1 H1 l => ?_)
  · subst ex
    exact c x v F1 H1 e2 l rv
  · subst ee
    cases e2
    exact ce e F1 H1 rfl l
theorem rd_dropX {m : Rs α} {k : α → Rs R} (hF : Same F H) (ex : EX cl W te σ F H m) (hm : (m.bind fun y => exB y k) = some r) (ce : ∀ e F1 H1, r = .error e → Lat F H F1 H1 → W (cl e) none σ H1)
    (c : ∀ x F1 H1, k x = some r → Lat F H F1 H1 → u D σ H1) : tSeq (tDrop te) u D σ H := by
  obtain ⟨y, e1, e2⟩ := Option.bind_eq_some_iff.mp hm
  refine ex F H (.refl hF) y e1 _ (fun x ex v F1 H1 l rv => ?_) (fun e ee F1 H1 l => ?_)
  · subst ex
    exact c x F1 H1 e2 l
  · subst ee
    cases e2
    exact ce e F1 H1 rfl l
theorem rd_retNk {R : Type} {r : R} {m : Option (List α)} {k : List α → Option R} (hF : Same F H) (ev : EVN te σ F H m) (hm : m.bind k = some r)
    (c : ∀ x p vs F1 H1, k x = some r → Lat F H F1 H1 → H p = none → F1 p = none → H1 p = some (.lst vs) → rpL x vs F1 → D.rt (.ref p) H1) : tRet te D σ H := by
  obtain ⟨x, e1, e2⟩ := Option.bind_eq_some_iff.mp hm
  exact ev F H (.refl hF) x e1 _ fun p vs F1 H1 l h1 h2 h3 rv => c x p vs F1 H1 e2 l h1 h2 h3 rv
/-- a call of a def that does not refuse, of arguments that may -/
theorem ex_callP {m : δ → Option β} {ma : Rs δ} {E : XK} (ha : EXA cl W ta σ F H ma) : EX cl W (tCall (spO m) [] E ta) σ F H (ma.bind fun y => exB y fun x => (m x).bind fun z => some (.ok z)) := fun F1 H1 l y e Q q qe => by
  obtain ⟨y1, e1, e⟩ := Option.bind_eq_some_iff.mp e
  refine ha F1 H1 l y1 e1 _ (fun x ex vs F2 H2 l2 r => ?_) (fun e2 ee F2 H2 l2 => ?_)
  · subst ex
    obtain ⟨z, ez, e⟩ := Option.bind_eq_some_iff.mp (show ((m x).bind fun z => some (.ok z)) = some y from e)
    cases e
    rw [List.append_nil]
    exact ⟨F2, x, z, l2.fh, r, ez, fun v F3 H3 l3 r3 => q z rfl v F3 H3 (l2.trans l3) r3⟩
  · subst ee
    cases e
    exact qe e2 rfl F2 H2 l2
theorem rd_dropXL {m : Rs α} {k : α → Rs R} (hF : Same F H) (ex : EX cl W te σ F H m) (hm : (m.bind fun y => exB y k) = some r) (ce : ∀ e F1 H1, r = .error e → Lat F H F1 H1 → W (cl e) none σ H1)
    (c : ∀ x F1 H1, k x = some r → Lat F H F1 H1 → D.nx σ H1) : tDrop te D σ H := by
  obtain ⟨y, e1, e2⟩ := Option.bind_eq_some_iff.mp hm
  refine ex F H (.refl hF) y e1 _ (fun x ex v F1 H1 l rv => ?_) (fun e ee F1 H1 l => ?_)
  · subst ex
    exact c x F1 H1 e2 l
  · subst ee
    cases e2
    exact ce e F1 H1 rfl l
theorem rd_retX {m : Rs α} {r : Except Er α} (hF : Same F H) (ex : EX cl W te σ F H m) (hm : m = some r) (ce : ∀ e F1 H1, r = .error e → Lat F H F1 H1 → W (cl e) none σ H1)
    (c : ∀ x v F1 H1, r = .ok x → Lat F H F1 H1 → rp x v F1 → D.rt v H1) : tRet te D σ H :=
  ex F H (.refl hF) r hm _ (fun x ex v F1 H1 l rv => c x v F1 H1 ex l rv) fun e ee F1 H1 l => ce e F1 H1 ee l
end

/-! ### classes -/
structure ErC (K : PySem.W.Frag) (mg : Str → Option Value) (x : Str) (C : Addr) : Prop where
  g : mg x = some (.ref C)
  x : PySem.W.excIn K C [.type "ValueError", .type "Exception", .type "BaseException", .type "object"] "ValueError.__new__" = true
  k : PySem.W.keepIn K (.ref C) = true
  b : PySem.W.subIn K (.ref C) (.type "BaseException") = some true
  t : PySem.W.typeIn K (.ref C) = some (.type "type")
theorem rd_raise {W : WX} {C : Value} {D : Ends} {σ : L2.St} {H : Hp} (h : W C none σ H) : (fun (_ : Ends) σ H => (fun (_ : L2.St) (H : Hp) (Q : XK) => Q C none H) σ H fun cls d H' => W cls d σ H') D σ H := h
theorem ps_raiseE {X : Cx} {W : WX} {x m : Str} {C : Addr} {j : Nat} {p p2 pos pos2 : Pos} (hc : X.calm = true) (tk : Takes X W) (T : ErC X.K X.mg x C) (hg : Gl X x) (hdb : (x == ("__debug__" : Str)) = false := by decide) :
    PS X (.Raise (some (.Call (.Name x p) [.Constant (.str m) j p2] [] pos)) none pos2) (fun _ σ H => W (.ref C) none σ H) :=
  ps_raise hc tk (pmk_own PySem.F.excBase_ValueError T.x T.g T.k (raises_own T.b T.t) hg hdb)

/-! ### refusals caught -/
abbrev clO (ad : Er → Addr) : Er → Value := fun e => .ref (ad e)
section
variable {R S : Type} {ad : Er → Addr} {K : PySem.W.Frag} {σ : L2.St} {F H : Hp} {D : Ends} {i : Nat} {pos : Pos}
/-- a suite that knows which refusal it holds -/
def tsE (ad : Er → Addr) (t : Er → Addr → TS) : Addr → Value → Option Addr → TS := fun a cls d D σ H => ∃ e, cls = clO ad e ∧ d = none ∧ t e a D σ H
theorem pss_suite {X : Cx} {sts : List Stmt} {a : Addr} {oe : Obj} {cls : Value} {d : Option Addr} {t : Er → Addr → TS} (hz : Zc cls d oe) (h : ∀ e, Zc (clO ad e) none oe → PSs X sts (t e a)) : PSs X sts (tsE ad t a cls d) := by
  refine ⟨fun pins s σ H D I hw => ?_⟩
  obtain ⟨e, rfl, rfl, hw⟩ := hw
  exact (h e hz).run pins s σ H D I hw
def tTry (K : PySem.W.Frag) (c : Value) (i : Nat) (ts : Addr → Value → Option Addr → TS) (tb : WX → TS) : TS := fun D σ H => tb (wAs K c i ts (fun _ _ _ _ => False) D) D σ H
theorem ps_tryE {X : Cx} {x n : Str} {c : Value} {body suite : List Stmt} {b₀ : Stmt} {np pos pos' : Pos} {tb : WX → TS} {t : Er → Addr → TS} (hs : X.stack = X.env :: X.outer) (hf : X.env.frame = some X.env.locals) (hN : X.N.Nodup) (hi : X.N[i]? = some n) (hln : X.env.kindOf n = some .local) (hc : Names X x c)
    (hb : ∀ (W : WX) (pn : List (Addr × Obj)) (xe : Value → Shared → Prop), Takes (X.tr pn xe) W → PassesOwn (model X.prog X.w) X.A X.env xe → PSs (X.tr pn xe) body (tb W))
    (hsu : ∀ (e : Er) (a : Addr) (oe : Obj) (pn : List (Addr × Obj)), Zc (clO ad e) none oe → (∃ vs, oe.data = .fields vs) → PSs (X.suite a ((a, oe) :: pn)) (b₀ :: suite) (t e a)) :
    PS X (.Try body [.ExceptHandler (some (.Name x np)) (some n) (b₀ :: suite) pos'] [] [] pos) (tTry X.K c i (tsE ad t) tb) :=
  ps_try_as hs hf hN hi hln hc takes0 hb fun a oe cls d pn hz hv => pss_suite hz fun e hz => hsu e a oe pn hz hv
theorem rd_try {α β : Type} {tb : WX → TS} {t : Er → Addr → TS} {c : Value} {mb : Rs α} {f : α → Option β} {k : Er → Option β} {r : β} {F0 H0 : Hp} (hx : ∀ e, PySem.W.exmOne K (clO ad e) c = some true) (hm : trX mb f k = some r)
    (hb : ∀ y, mb = some y → (∀ x, y = .ok x → f x = some r) → ∀ W : WX, (∀ e F1 H1, y = .error e → Lat F0 H0 F1 H1 → Same F F1 → W (clO ad e) none σ H1) → tb W D σ H)
    (hs : ∀ e a F1 H1, k e = some r → Lat F0 H0 F1 H1 → Same F F1 → H1 a = none → ∀ D' : Ends, D'.rt = D.rt → (∀ σ' H', D.nx (σ'.set i none) H' → D'.nx σ' H') → t e a D' (σ.set i (some (.ref a))) H1) : tTry K c i (tsE ad t) tb D σ H := by
  obtain ⟨y, e1, e2⟩ := Option.bind_eq_some_iff.mp hm
  refine hb y e1 (fun x ex => by subst ex; exact e2) _ fun e F1 H1 ee l sf => ?_
  subst ee
  exact ⟨true, hx e, fun _ a ha => ⟨e, rfl, rfl, hs e a F1 H1 e2 l sf ha _ rfl fun _ _ h => h⟩, fun q => nomatch q⟩
theorem kit_ref {D C : Addr} {b : Bool} (hd : PySem.W.hasDictIn K C = true) (ht : PySem.W.typeIn K (.ref C) = some (.type "type")) (self : PySem.W.subIn K (.ref C) (.ref C) = some true) (hs : PySem.W.subIn K (.ref D) (.ref C) = some b) : PySem.W.kitOne K (.ref D) (.ref C) = some b := by
  obtain ⟨cd, hc, _⟩ := PySem.W.any_some hd
  unfold PySem.W.kitOne
  by_cases e : ((Value.ref D) == (Value.ref C)) = true
  · rw [if_pos e]
    have e2 : Value.ref D = Value.ref C := beq_iff_eq.mp e
    rw [e2, self] at hs
    exact hs
  · rw [if_neg e]
    show (if ((PySem.W.clsIn K C).isSome && PySem.W.typeIn K (.ref C) == some (.type "type")) = true then PySem.W.subIn K (.ref D) (.ref C) else none) = some b
    rw [hc, ht]
    exact hs
theorem kit_type {D : Addr} {T : String} {b : Bool} (hs : PySem.W.subIn K (.ref D) (.type T) = some b) (hm : PySem.W.kitMeta T = true := by decide +kernel) : PySem.W.kitOne K (.ref D) (.type T) = some b := by
  unfold PySem.W.kitOne
  rw [if_neg (by intro h; exact nomatch (beq_iff_eq.mp h))]
  show (if PySem.W.kitMeta T = true then PySem.W.subIn K (.ref D) (.type T) else none) = some b
  rw [if_pos hm]
  exact hs
/-- what the top says of the refusals, where some are caught -/
structure Kit (K : PySem.W.Frag) (ad : Er → Addr) (CW : Addr) : Prop where
  ex : ∀ e, ExcC K (ad e)
  one : ∀ e c, PySem.W.kitOne K (clO ad e) (clO ad c) = some (isE e c)
  val : ∀ e, PySem.W.kitOne K (clO ad e) (.type "ValueError") = some true
  exm : ∀ e, PySem.W.exmOne K (clO ad e) (.ref CW) = some true
theorem ev_isE {m : Er} {e : Er} {a : Addr} {CW : Addr} (T : Kit K ad CW) (h : σ[i]? = some (some (.ref a))) : EV (tCB (rIsE K (ad e) a) (tCons (tVar i) (tCons (tC (.ref (ad m))) tNil))) σ F H (some (isE e m)) := fun F1 H1 l x ex Q q => by
  cases ex
  exact ⟨.ref a, h, .ref (ad m), _, _, rfl, fun u r => r, T.one e m, q _ F1 H1 (.refl l.fh) rfl⟩
theorem ev_isV {e : Er} {a : Addr} {CW : Addr} (T : Kit K ad CW) (h : σ[i]? = some (some (.ref a))) : EV (tCB (rIsE K (ad e) a) (tCons (tVar i) (tCons (tC (.ty "ValueError")) tNil))) σ F H (some true) := fun F1 H1 l x ex Q q => by
  cases ex
  exact ⟨.ref a, h, .ty "ValueError", _, _, rfl, fun u r => r, T.val e, q _ F1 H1 (.refl l.fh) rfl⟩
end

/-! ### dicts with pairs for keys -/
def kk (t : Int × Int) : List Key := [.inl t.1, .inl t.2]
theorem kk_inj {t u : Int × Int} (h : kk t = kk u) : t = u := by
  unfold kk at h
  injection h with h1 h2
  injection h2 with h2 _
  injection h1 with h1
  injection h2 with h2
  exact Prod.ext h1 h2
theorem keys_put {kvs : List (List Key × V)} {ks : List (Int × Int)} (h : kvs.map (·.1) = ks.map kk) (t : Int × Int) (v : V) : (putK kvs (kk t) v).map (·.1) = (putD ks t).map kk := by
  have hm : kk t ∈ kvs.map (·.1) ↔ t ∈ ks := by
    rw [h, List.mem_map]
    exact ⟨fun ⟨u, hu, e⟩ => kk_inj e ▸ hu, fun hu => ⟨t, hu, rfl⟩⟩
  have ha : (kvs.any fun kv => decide (kv.1 = kk t)) = true ↔ t ∈ ks := by
    rw [← hm, List.any_eq_true, List.mem_map]
    exact ⟨fun ⟨p, hp, e⟩ => ⟨p, hp, of_decide_eq_true e⟩, fun ⟨p, hp, e⟩ => ⟨p, hp, decide_eq_true e⟩⟩
  unfold putK putD
  by_cases c : t ∈ ks
  · rw [if_pos (ha.mpr c), if_pos c, List.map_map, ← h]
    refine List.map_congr_left fun kv _ => ?_
    show (if kv.1 = kk t then (kv.1, v) else kv).1 = kv.1
    split <;> rfl
  · rw [if_neg fun q => c (ha.mp q), if_neg c, List.map_append, List.map_append, h]
    rfl
section
variable {R α : Type} [Rep α] {K : PySem.W.Frag} {σ : L2.St} {F H : Hp} {D : Ends} {u : TS} {i j : Nat} {r : R}
/-- {} -/
theorem rd_newD {k : List (Int × Int) → Option R} (hF : Same F H) (hm : (some ([] : List (Int × Int))).bind k = some r)
    (c : ∀ p F1 H1, k [] = some r → Lat F H F1 H1 → H p = none → F1 p = none → H1 p = some (.dT []) → u D (σ.set i (some (.ref p))) H1) : tSeq (tAsg tDNewT (gName i)) u D σ H :=
  fun p hp => c p F _ hm (.made hF hp) hp (hF.free hp) upd_same
theorem dput_t {H : Hp} {a : Addr} {y v : V} {kvs : List (List Key × V)} {t : Int × Int} {F : Hp} (hF : Same F H) (e : H a = some (.dT kvs)) (ry : rp t y F) (hl : kvs.length < sizeLine) : DPut H a y v (upd H a (.dT (putK kvs (kk t) v))) := by
  obtain ⟨b, v1, v2, rfl, eb, r1, r2⟩ := ry
  cases r1
  cases r2
  exact DPut.t e (hF _ _ eb) hl
theorem rd_putDL {p : Addr} {ks : List (Int × Int)} {kvs : List (List Key × V)} {ti tv : TE} {mi : Option (Int × Int)} {mv : Option α} {k : List (Int × Int) → Option R} (hF : Same F H) (hj : σ[j]? = some (some (.ref p))) (hp : H p = some (.dT kvs)) (fp : F p = none) (rl : kvs.map (·.1) = ks.map kk)
    (ev : EV tv σ F H mv) (ei : EV ti σ F H mi) (hm : (mv.bind fun _ => mi.bind fun t => putDZ ks t).bind k = some r)
    (c : ∀ ys ws F1 H1, k ys = some r → Mt p F H F1 H1 → F1 p = none → H1 p = some (.dT ws) → ws.map (·.1) = ys.map kk → D.nx σ H1) : sDPut (tVar j) ti tv D σ H := by
  obtain ⟨ys, e1, e2⟩ := Option.bind_eq_some_iff.mp hm
  obtain ⟨x, e3, e4⟩ := Option.bind_eq_some_iff.mp e1
  obtain ⟨t, e5, e6⟩ := Option.bind_eq_some_iff.mp e4
  unfold putDZ at e6
  split at e6
  · rename_i hlen
    cases e6
    refine ev F H (.refl hF) x e3 _ fun v F1 H1 l rv => ⟨.ref p, hj, ei F1 H1 l t e5 _ fun w F2 H2 l2 rw' => ?_⟩
    have l12 := l.trans l2
    have fp2 := l12.nw _ _ hp trivial fp
    have hln : kvs.length = ks.length := by rw [← List.length_map (·.1) (as := kvs), rl, List.length_map]
    exact ⟨p, _, rfl, dput_t l12.fh (l12.h _ _ hp) rw' (sz_lt (by omega)), c _ _ F2 _ e2 (Mt.of l12 fp2) fp2 upd_same (keys_put rl t v)⟩
  · cases e6
theorem rd_putD {p : Addr} {ks : List (Int × Int)} {kvs : List (List Key × V)} {ti tv : TE} {mi : Option (Int × Int)} {mv : Option α} {k : List (Int × Int) → Option R} (hF : Same F H) (hj : σ[j]? = some (some (.ref p))) (hp : H p = some (.dT kvs)) (fp : F p = none) (rl : kvs.map (·.1) = ks.map kk)
    (ev : EV tv σ F H mv) (ei : EV ti σ F H mi) (hm : (mv.bind fun _ => mi.bind fun t => putDZ ks t).bind k = some r)
    (c : ∀ ys ws F1 H1, k ys = some r → Mt p F H F1 H1 → F1 p = none → H1 p = some (.dT ws) → ws.map (·.1) = ys.map kk → u D σ H1) : tSeq (sDPut (tVar j) ti tv) u D σ H := rd_putDL (D := { D with nx := u D }) hF hj hp fp rl ev ei hm c
/-- tuples may be held for known at any time -/
theorem know_tups {F H F1 H1 : Hp} (l : Lat F H F1 H1) : ∀ bs : List Addr, (∀ b ∈ bs, ∃ xs, H1 b = some (.tup xs)) → ∃ F2, Lat F H F2 H1 ∧ Same F1 F2 ∧ (∀ b ∈ bs, F2 b = H1 b) ∧ ∀ q o, H1 q = some o → Chg o → F1 q = none → F2 q = none
  | [], _ => ⟨F1, l, .refl _, fun _ h => by simp at h, fun _ _ _ _ h => h⟩
  | b :: bs, h => by
    obtain ⟨F2, l2, s2, h2, n2⟩ := know_tups l bs fun x hx => h x (List.mem_cons_of_mem _ hx)
    obtain ⟨xs, e⟩ := h b List.mem_cons_self
    cases q : F2 b with
    | some o =>
      refine ⟨F2, l2, s2, fun x hx => ?_, n2⟩
      rcases List.mem_cons.mp hx with rfl | hx
      · rw [q, l2.fh _ _ q]
      · exact h2 x hx
    | none =>
      refine ⟨upd F2 b (.tup xs), l2.know (fun u hu cu _ => ?_) q e, s2.trans (same_upd q), fun x hx => ?_, fun p o ep co fp => ?_⟩
      · have := l2.h _ _ hu
        rw [e] at this
        cases this
        exact cu
      · by_cases z : x = b
        · subst z
          rw [upd_same, e]
        · rw [upd_ne z]
          rcases List.mem_cons.mp hx with hx | hx
          · exact absurd hx z
          · exact h2 x hx
      · have : p ≠ b := fun z => by
          subst z
          rw [e] at ep
          cases ep
          exact co
        rw [upd_ne this]
        exact n2 p o ep co fp
theorem rpL_keys {F : Hp} : ∀ {kvs : List (List Key × V)} {ks : List (Int × Int)} {bs : List Addr}, kvs.map (·.1) = ks.map kk → IsKeys F kvs bs → rpL ks (bs.map V.ref) F
  | _, [], _, e, .nil => trivial
  | kv :: kvs, k :: ks, b :: bs, e, .cons h t => by
    rw [List.map_cons, List.map_cons] at e
    injection e with e1 e2
    refine ⟨⟨b, .int k.1, .int k.2, rfl, ?_, rfl, rfl⟩, rpL_keys e2 t⟩
    have h' : F b = some (.tup (kv.1.map kV)) := h
    rw [e1] at h'
    exact h'
  | _, _ :: _, _, e, .nil => by simp at e
  | _ :: _, [], _, e, .cons _ _ => by simp at e
theorem isKeys_mono {H F : Hp} : ∀ {kvs : List (List Key × V)} {bs : List Addr}, (∀ b ∈ bs, F b = H b) → IsKeys H kvs bs → IsKeys F kvs bs
  | _, _, _, .nil => .nil
  | _, _ :: _, h, .cons k t => .cons (by rw [h _ List.mem_cons_self]; exact k) (isKeys_mono (fun b hb => h b (List.mem_cons_of_mem _ hb)) t)
theorem isKeys_tup {H : Hp} : ∀ {kvs : List (List Key × V)} {bs : List Addr}, IsKeys H kvs bs → ∀ b ∈ bs, ∃ xs, H b = some (.tup xs)
  | _, _, .nil, b, hb => by simp at hb
  | _, _ :: _, .cons k t, b, hb => by
    rcases List.mem_cons.mp hb with rfl | hb
    · exact ⟨_, k⟩
    · exact isKeys_tup t b hb
/-- list(d) -/
theorem evn_listD {p : Addr} {ks : List (Int × Int)} {kvs : List (List Key × V)} (hj : σ[j]? = some (some (.ref p))) (hp : H p = some (.dT kvs)) (rl : kvs.map (·.1) = ks.map kk) :
    EVN (tCB (fun xs H Q => ∃ d kvs, xs = [V.ref d] ∧ Rd H d (.dT kvs) ∧ ∀ p bs, H p = none → IsKeys H kvs bs → Q (.ref p) (upd H p (.lst (bs.map V.ref)))) (tCons (tVar j) tNil)) σ F H (some ks) := fun F1 H1 l xs e Q q => by
  cases e
  refine ⟨.ref p, hj, p, kvs, rfl, .inl (l.h _ _ hp), fun a bs ha hk => ?_⟩
  obtain ⟨F2, l2, s2, h2, n2⟩ := know_tups (Lat.refl l.fh) bs (isKeys_tup hk)
  exact q a _ F2 _ (l2.trans (.made l2.fh ha)) ha (l2.fh.free ha) upd_same (rpL_keys rl (isKeys_mono h2 hk))
end
end Dw

set_option Elab.async false
set_option linter.all false
set_option maxRecDepth 100000
set_option maxHeartbeats 4000000
/-! The layer, sixth part. -/
namespace Dw
open PySem L2 Dv
open Rep (rp)
open RepA (ra)
section
variable {α β γ S R T : Type} [Rep α] [Rep β] [Rep γ] {K : PySem.W.Frag} {σ : L2.St} {F H : Hp} {D : Ends} {te : TE} {r : R}
/-- an if of whose ways some go on and some hand back -/
theorem rd_joinR {c : TT} {t1 t2 u : TS} {m : Option (Stp S T)} {k : S → Option R} {k' : T → Option R} (P : S → L2.St → Hp → Hp → Prop) (hm : (m.bind fun st => st.elim k k') = some r)
    (h1 : ∀ st, m = some st → ∀ D' : Ends, D'.rt = D.rt → (∀ s, st = .go s → ∀ σ3 F3 H3, P s σ3 F3 H3 → D'.nx σ3 H3) → (∀ y, st = .ret y → k' y = some r) → tIfS c t1 t2 D' σ H)
    (h2 : ∀ s σ' F' H', k s = some r → P s σ' F' H' → u D σ' H') : tSeq (tIfS c t1 t2) u D σ H := by
  obtain ⟨st, e1, e2⟩ := Option.bind_eq_some_iff.mp hm
  refine h1 st e1 { D with nx := u D } rfl (fun s es σ3 F3 H3 hp => ?_) fun y ey => ?_
  · subst es
    exact h2 s σ3 F3 H3 e2 hp
  · subst ey
    exact e2
theorem EV.cg {t : TE} {m m' : Option α} (h : EV t σ F H m) (e : m = m') : EV t σ F H m' := e ▸ h
theorem rd_insertL {u : TS} {ti : TE} {p : Addr} {xs : List α} {vs : List V} {mi : Option Int} {m : Option α} {k : List α → Option R} {j : Nat} (hF : Same F H) (hj : σ[j]? = some (some (.ref p))) (hp : H p = some (.lst vs)) (fp : F p = none) (rl : rpL xs vs F)
    (ei : EV ti σ F H mi) (ev : EV te σ F H m) (hm : (mi.bind fun i => m.bind fun y => insZ xs i y).bind k = some r)
    (c : ∀ ys ws F1 H1, k ys = some r → Mt p F H F1 H1 → F1 p = none → H1 p = some (.lst ws) → rpL ys ws F1 → D.nx σ H1) :
    tDrop (tBM K "list" (fun x vs H Q => ∃ (l : Addr) (xs : List V) (i : Int) (y : V), x = .ref l ∧ vs = [.int i, y] ∧ H l = some (.lst xs) ∧ xs.length < sizeLine ∧ 0 ≤ i ∧ i < 2 ^ 63 ∧
    Q .non (upd H l (.lst (xs.take i.toNat ++ [y] ++ xs.drop i.toNat)))) (tVar j) (tCons ti (tCons te tNil))) D σ H := by
  obtain ⟨ys, e1, e2⟩ := Option.bind_eq_some_iff.mp hm
  obtain ⟨i, e3, e4⟩ := Option.bind_eq_some_iff.mp e1
  obtain ⟨y, e5, e6⟩ := Option.bind_eq_some_iff.mp e4
  unfold insZ at e6
  split at e6
  · rename_i hlen
    obtain ⟨h1, h2, h3⟩ := hlen
    cases e6
    refine ⟨.ref p, hj, .inl ⟨rfl, vs, sqL hp⟩, ?_⟩
    refine ei F H (.refl hF) i e3 _ fun v F1 H1 l rv => ?_
    cases rv
    refine ev F1 H1 l y e5 _ fun w F2 H2 l2 rw' => ?_
    have fp1 := l2.nwl (l.h _ _ hp) (l.nwl hp fp)
    refine ⟨p, vs, i, w, rfl, rfl, l2.h _ _ (l.h _ _ hp), sz_lt (by rw [rl.length]; exact h1), h2, by omega, ?_⟩
    have rl2 := rpL.mono l2.f (rpL.mono l.f rl)
    exact c _ _ F2 _ e2 (Mt.of (l.trans l2) fp1) fp1 upd_same (rpL.append (rpL.append (rpL.take _ rl2) ⟨rw', trivial⟩) (rpL.drop _ rl2))
  · cases e6
theorem rd_insert {u : TS} {ti : TE} {p : Addr} {xs : List α} {vs : List V} {mi : Option Int} {m : Option α} {k : List α → Option R} {j : Nat} (hF : Same F H) (hj : σ[j]? = some (some (.ref p))) (hp : H p = some (.lst vs)) (fp : F p = none) (rl : rpL xs vs F)
    (ei : EV ti σ F H mi) (ev : EV te σ F H m) (hm : (mi.bind fun i => m.bind fun y => insZ xs i y).bind k = some r)
    (c : ∀ ys ws F1 H1, k ys = some r → Mt p F H F1 H1 → F1 p = none → H1 p = some (.lst ws) → rpL ys ws F1 → u D σ H1) :
    tSeq (tDrop (tBM K "list" (fun x vs H Q => ∃ (l : Addr) (xs : List V) (i : Int) (y : V), x = .ref l ∧ vs = [.int i, y] ∧ H l = some (.lst xs) ∧ xs.length < sizeLine ∧ 0 ≤ i ∧ i < 2 ^ 63 ∧
    Q .non (upd H l (.lst (xs.take i.toNat ++ [y] ++ xs.drop i.toNat)))) (tVar j) (tCons ti (tCons te tNil)))) u D σ H := rd_insertL (u := u) (D := { D with nx := u D }) hF hj hp fp rl ei ev hm c
theorem eqV_ints (x : Int) : ∀ {xs : List Int}, x ∈ xs → (xs.map V.int)[xs.idxOf x]? = some (.int x) ∧ ∀ (m : Nat) (z : V), m < xs.idxOf x → (xs.map V.int)[m]? = some z → eqV z (.int x) = false
  | [], h => by simp at h
  | y :: ys, h => by
    by_cases e : y = x
    · subst e
      rw [List.idxOf_cons_self]
      exact ⟨rfl, fun m z hm => by omega⟩
    · have hx : x ∈ ys := by
        rcases List.mem_cons.mp h with h | h
        · exact absurd h.symm e
        · exact h
      have ih := eqV_ints x hx
      have e2 : (y :: ys).idxOf x = ys.idxOf x + 1 := by
        have e3 : (y == x) = false := by simpa using e
        rw [List.idxOf_cons, e3]
        rfl
      rw [e2]
      refine ⟨by simpa using ih.1, fun m z hm hz => ?_⟩
      cases m with
      | zero =>
        have : V.int y = z := by simpa using hz
        subst this
        show (y == x) = false
        simpa using e
      | succ m => exact ih.2 m z (by omega) (by simpa using hz)
theorem ev_index {t tx : TE} {m : Option (List Int)} {mx : Option Int} (h : EV t σ F H m) (hx : EV tx σ F H mx) : EV (tBM K "list" (rIndex K) t (tCons tx tNil)) σ F H (m.bind fun xs => mx.bind fun x => idxZ xs x) := fun F1 H1 l z e Q q => by
  obtain ⟨xs, ex, e⟩ := Option.bind_eq_some_iff.mp e
  obtain ⟨x, ey, e⟩ := Option.bind_eq_some_iff.mp e
  unfold idxZ at e
  split at e
  · rename_i hmem
    cases e
    refine h F1 H1 l xs ex _ fun v F2 H2 l2 ⟨a, vs, e1, e2, r⟩ => ?_
    have hv := rpL_ints r
    subst hv
    subst e1
    refine ⟨.inl ⟨rfl, _, sqL (l2.fh _ _ e2)⟩, hx F2 H2 (l.trans l2) x ey _ fun w F3 H3 l3 rw' => ?_⟩
    cases rw'
    obtain ⟨h1, h2⟩ := eqV_ints x hmem
    refine ⟨a, _, .int x, xs.idxOf x, .int x, rfl, rfl, sqL (l3.h _ _ (l2.fh _ _ e2)), rfl, flat_ints xs, h1, ?_, h2, q _ F3 H3 (l2.trans l3) rfl⟩
    show (x == x) = true
    simp
  · cases e
theorem ev_unL {t : TE} {m : Option (Option (α ⊕ β))} (h : EV t σ F H m) : EV t σ F H (m.bind fun x => unL x) := fun F1 H1 l y e Q q => by
  obtain ⟨x, ex, ey⟩ := Option.bind_eq_some_iff.mp e
  refine h F1 H1 l x ex Q fun v F2 H2 l2 r => q v F2 H2 l2 ?_
  match x, ey, r with
  | some (.inl z), ey, r =>
    have : z = y := by simpa [unL] using ey
    subst this
    exact r
theorem ev_unR {t : TE} {m : Option (Option (α ⊕ β))} (h : EV t σ F H m) : EV t σ F H (m.bind fun x => unR x) := fun F1 H1 l y e Q q => by
  obtain ⟨x, ex, ey⟩ := Option.bind_eq_some_iff.mp e
  refine h F1 H1 l x ex Q fun v F2 H2 l2 r => q v F2 H2 l2 ?_
  match x, ey, r with
  | some (.inr z), ey, r =>
    have : z = y := by simpa [unR] using ey
    subst this
    exact r
theorem ev_isiU {t : TE} {m : Option (Option (Bool ⊕ List Int))} (h : EV t σ F H m) : EV (tCB (rIsi K) (tCons t (tCons (tC (.ty "bool")) tNil))) σ F H (m.bind fun x => some (isL x)) := fun F1 H1 l y e Q q => by
  obtain ⟨x, ex, e⟩ := Option.bind_eq_some_iff.mp e
  cases e
  refine h F1 H1 l x ex _ fun v F2 H2 l2 r => ?_
  match x, r with
  | none, r =>
    have hv : v = .non := r
    subst hv
    exact ⟨.non, .ty "bool", _, _, false, rfl, .ty "bool", .base .non, kit_ty (show kitB "NoneType" "bool" = some false by decide +kernel), q _ F2 H2 l2 rfl⟩
  | some (.inl z), r =>
    have r' : rp z v F2 := r
    exact ⟨v, .ty "bool", _, _, true, rfl, .ty "bool", Typ.ty (Rep.mono l2.fh r'), kit_ty (show kitB "bool" "bool" = some true by decide +kernel), q _ F2 H2 l2 rfl⟩
  | some (.inr z), r =>
    have r' : rp z v F2 := r
    exact ⟨v, .ty "bool", _, _, false, rfl, .ty "bool", Typ.ty (Rep.mono l2.fh r'), kit_ty (show kitB "list" "bool" = some false by decide +kernel), q _ F2 H2 l2 rfl⟩
/-- list(x) of a list that may change -/
theorem evn_listO {p : Addr} {j : Nat} {xs : List α} {vs : List V} (hj : σ[j]? = some (some (.ref p))) (hp : H p = some (.lst vs)) (rl : rpL xs vs F) : EVN (tCB (fun xs H Q => ∃ p ys, xs = [.ref p] ∧ (SqL K H p ys ∨ SqT K H p ys) ∧ ∀ l, H l = none → Q (.ref l) (upd H l (.lst ys))) (tCons (tVar j) tNil)) σ F H (some xs) := fun F1 H1 l y e Q q => by
  cases e
  refine ⟨.ref p, hj, p, vs, rfl, .inl (sqL (l.h _ _ hp)), fun a ha => q a vs F1 _ (.made l.fh ha) ha (l.fh.free ha) upd_same (rpL.mono l.f rl)⟩
end
end Dw

set_option Elab.async false
set_option linter.all false
set_option maxRecDepth 100000
set_option maxHeartbeats 4000000
/-! The layer, seventh part: max(xs, default=d). -/
namespace Dw
open PySem PyProof.Rows
section
variable {prog : Program} {w : World} {A : Around} {E : Value → Shared → Prop} {s : Shared}
abbrev dk : Str := Str.ofString "default"
theorem mxd_args (x d : Value) : argsOk "max" ⟨[x], [(dk, d)]⟩ := by
  unfold argsOk
  kernel_rfl
theorem mxd_call {x d : Value} {Q : Value → Shared → Prop} (body : wpAny (model prog w) A.in1 (Builtin.«max» ⟨[x], [(dk, d)]⟩) (fun fin s' => match fin with
      | .done f => (match (Except.ok f : Result) with
        | .ok (.ret v) => Q v s'
        | .ok _ => False
        | .error e => E e s')
      | .again c' => c'.quiet = true ∧ codeAny (model prog w) A c' (fun r s' => match r with
        | .ok (.ret v) => Q v s'
        | .ok _ => False
        | .error e => E e s') s') E s) : wpAny (model prog w) A (call (.builtin "max") [x] [(dk, d)]) Q E s := by
  refine wpAny_call (codeAny_call_builtin F.plain_max F.entry_max ?_)
  have ok := mxd_args x d
  simp only [checkBuiltinCall, F.kind_max]
  cases sg : Manifest.signature? "max" with
  | none => exact wpAny_pure body
  | some sig =>
    have ok2 : Bind.checkArgs "max" sig ⟨[x], [(dk, d)]⟩ = pure () := by simpa only [argsOk, sg] using ok
    simp only [ok2]
    exact wpAny_pure body
end
section
variable {prog : Program} {w : World} {A : Around} {R : Result → Shared → Prop} {it : Addr} {fp wr : List Addr} {n : Nat} {P : Nat → Value → Prop} {St : Nat → Heap → Prop}
theorem mxd_nm : (toString "max" ++ toString ".loop" : String) = "max.loop" := by decide
/-- from the j-th item on: vb is the greatest so far -/
theorem mxd_loop (W : Walks prog w A.in1 it fp wr n P St) (bt : Nat → Nat → Bool) (gt : CmpOf prog w A.in1 .Gt P bt) (b0 : Addr) (nf : b0 ∉ fp) (d : Value) :
    ∀ (k j : Nat) (s : Shared) (vb : Value) (c : Nat), j + 1 + k = n → St (j + 1) s.heap → P (argBest bt j) vb →
    s.heap.get? b0 = some { cls := .type "list", dict := none, data := .seq #[vb, vb] c, slots := #[] } →
    (∀ v h' tk, P (argBest bt (n - 1)) v → (∀ b o, b ∉ wr → b ≠ b0 → s.heap.get? b = some o → h'.get? b = some o) → R (.ok (.ret v)) { s with heap := h', toks := tk }) →
    codeAny (model prog w) A (.builtin "max.loop" ⟨[.ref it, .none, .ref b0], [(dk, d)]⟩) R s
  | 0, j, s, vb, c, hk, hst, best, hb, fin => by
    have nw : b0 ∉ wr := fun z => nf (W.sub _ z)
    have jn : j + 1 = n := by omega
    refine codeAny_builtin F.entry_max_loop ?_
    rw [Around.under_plainId F.plain_max_loop]
    show wpAny (model prog w) A.in1 (seqItems? (.ref b0) >>= _) _ _ s
    refine wpAny_bind (wpAny_seqItems hb rfl ?_)
    show wpAny (model prog w) A.in1 (tryCatch (pyNext (.ref it)) _ >>= _) _ _ s
    refine wpAny_bind (wpAny_tryCatch (W.done s _ _ (by rw [← jn]; exact hst) fun h1 t1 keep => ?_))
    have hb1 := keep b0 _ nw hb
    show wpAny (model prog w) A.in1 (updateSeq b0 (fun _ => #[]) >>= _) _ _ _
    refine wpAny_bind (wpAny_updateSeq hb1 rfl (wpAny_bind (wpAny_letGo (wpAny_pure ?_))))
    exact fin vb _ t1 (by rw [← jn]; exact best) fun b o b1 b2 e => (Heap.get?_update_other _ _ fun z => b2 z.symm).trans (keep b o b1 e)
  | k + 1, j, s, vb, c, hk, hst, best, hb, fin => by
    have nw : b0 ∉ wr := fun z => nf (W.sub _ z)
    have jn : j + 1 < n := by omega
    refine codeAny_builtin F.entry_max_loop ?_
    rw [Around.under_plainId F.plain_max_loop]
    show wpAny (model prog w) A.in1 (seqItems? (.ref b0) >>= _) _ _ s
    refine wpAny_bind (wpAny_seqItems hb rfl ?_)
    show wpAny (model prog w) A.in1 (tryCatch (pyNext (.ref it)) _ >>= _) _ _ s
    refine wpAny_bind (wpAny_tryCatch (W.item (j + 1) s _ _ jn hst fun v h1 t1 pv st1 keep => ?_))
    have hb1 := keep b0 _ nw hb
    show wpAny (model prog w) A.in1 (tryCatch (holding [v, v] (richCompare .Gt v vb >>= _)) _ >>= _) _ _ _
    refine wpAny_bind (wpAny_tryCatch (wpAny_holding (wpAny_bind (gt (j + 1) (argBest bt j) v vb _ _ _ pv best ?_))))
    refine wpAny_bind (wpAny_holding (wpAny_truthy_bool (wpAny_bind (wpAny_letGo (wpAny_pure ?_)))))
    cases gb : bt (j + 1) (argBest bt j) with
    | false =>
      simp only [Bool.false_eq_true, if_false]
      refine wpAny_bind (wpAny_letGo ?_)
      rw [mxd_nm]
      have best' : P (argBest bt (j + 1)) vb := by simp only [argBest, gb, Bool.false_eq_true, if_false]; exact best
      exact wpAny_pure ⟨plainId_quiet F.plain_max_loop _, mxd_loop W bt gt b0 nf d k (j + 1) _ vb c (by omega) st1 best' hb1 fun v2 h2 t2 p2 keep2 => fin v2 h2 t2 p2 fun b o b1 b2 e => keep2 b o b1 b2 (keep b o b1 e)⟩
    | true =>
      simp only [if_true]
      refine wpAny_bind (wpAny_updateSeq hb1 rfl (wpAny_bind (wpAny_letGo ?_)))
      rw [mxd_nm]
      have best' : P (argBest bt (j + 1)) v := by simp only [argBest, gb, if_true]; exact pv
      refine wpAny_pure ⟨plainId_quiet F.plain_max_loop _, mxd_loop W bt gt b0 nf d k (j + 1) _ v _ (by omega) (W.frame _ _ _ st1 fun b inf o e => ?_) best' (Heap.get?_update_self _ hb1 rfl) fun v2 h2 t2 p2 keep2 => ?_⟩
      · exact (Heap.get?_update_other _ _ (fun z : b0 = b => nf (z ▸ inf))).trans e
      · exact fin v2 h2 t2 p2 fun b o b1 b2 e => keep2 b o b1 b2 ((Heap.get?_update_other _ _ fun z => b2 z.symm).trans (keep b o b1 e))
/-- the first item, or d -/
theorem mxd_first (W : Walks prog w A.in1 it fp wr n P St) (bt : Nat → Nat → Bool) (gt : CmpOf prog w A.in1 .Gt P bt) (b0 : Addr) (nf : b0 ∉ fp) (d : Value) {s : Shared} {c : Nat} (hst : St 0 s.heap)
    (hb : s.heap.get? b0 = some { cls := .type "list", dict := none, data := .seq #[] c, slots := #[] })
    (fin : ∀ v h' tk, (if n = 0 then v = d else P (argBest bt (n - 1)) v) → (∀ b o, b ∉ wr → b ≠ b0 → s.heap.get? b = some o → h'.get? b = some o) → R (.ok (.ret v)) { s with heap := h', toks := tk }) :
    codeAny (model prog w) A (.builtin "max.loop" ⟨[.ref it, .none, .ref b0], [(dk, d)]⟩) R s := by
  have nw : b0 ∉ wr := fun z => nf (W.sub _ z)
  refine codeAny_builtin F.entry_max_loop ?_
  rw [Around.under_plainId F.plain_max_loop]
  show wpAny (model prog w) A.in1 (seqItems? (.ref b0) >>= _) _ _ s
  refine wpAny_bind (wpAny_seqItems hb rfl ?_)
  show wpAny (model prog w) A.in1 (tryCatch (pyNext (.ref it)) _ >>= _) _ _ s
  by_cases z : n = 0
  · subst z
    refine wpAny_bind (wpAny_tryCatch (W.done s _ _ hst fun h1 t1 keep => ?_))
    show wpAny (model prog w) A.in1 (rule _ >>= _) _ _ _
    refine wpAny_bind (wpAny_rule (wpAny_pure ?_))
    exact fin d h1 t1 (by rw [if_pos rfl]) fun b o b1 _ e => keep b o b1 e
  · refine wpAny_bind (wpAny_tryCatch (W.item 0 s _ _ (by omega) hst fun v h1 t1 pv st1 keep => ?_))
    have hb1 := keep b0 _ nw hb
    show wpAny (model prog w) A.in1 (updateSeq b0 (fun _ => #[v, v]) >>= _) _ _ _
    refine wpAny_bind (wpAny_updateSeq hb1 rfl ?_)
    rw [mxd_nm]
    refine wpAny_pure ⟨plainId_quiet F.plain_max_loop _, mxd_loop W bt gt b0 nf d (n - 1) 0 _ v _ (by omega) (W.frame _ _ _ st1 fun b inf o e => ?_) pv (Heap.get?_update_self _ hb1 rfl) fun v2 h2 t2 p2 keep2 => ?_⟩
    · exact (Heap.get?_update_other _ _ (fun z : b0 = b => nf (z ▸ inf))).trans e
    · exact fin v2 h2 t2 (by rw [if_neg z]; exact p2) fun b o b1 b2 e => keep2 b o b1 b2 ((Heap.get?_update_other _ _ fun z => b2 z.symm).trans (keep b o b1 e))
end
end Dw
namespace Dw
open PySem PyProof.Rows L2 Dv
open Rep (rp)
open RepA (ra)
section
variable {prog : Program} {w : World} {A : Around} {E : Value → Shared → Prop} {s : Shared} {a : Addr} {its : List Value} {ns : List Int} {Q : Value → Shared → Prop}
/-- the greatest of a list of whole numbers, or d -/
def Top (ns : List Int) (d m : Int) : Prop := if ns.length = 0 then m = d else m ∈ ns ∧ ∀ y ∈ ns, y ≤ m
theorem mxd_ints (hh : A.handled = none) (isl : s.heap.IsList a its.toArray) (hi : IntsAre its ns) (d : Int) (t : Tok)
    (fin : ∀ h' tk m t', (∀ b o, s.heap.get? b = some o → h'.get? b = some o) → Top ns d m → Q (.int m t') { s with heap := h', toks := tk }) :
    wpAny (model prog w) A (call (.builtin "max") [.ref a] [(dk, .int d t)]) Q E s := by
  obtain ⟨xs, e⟩ := hi.allInts.items
  have same : numsOf (intItems xs).toList = ns := by
    rw [← e]
    exact hi.numsOf
  rw [nums_intItems] at same
  rw [e] at isl
  refine mxd_call ?_
  show wpAny (model prog w) A.in1 (Builtin.Builtins.bindParams "max" ["key", "default"] 0 ⟨[], [(dk, .int d t)]⟩ >>= _) _ _ s
  refine wpAny_bind (wpAny_of_eq (show Builtin.Builtins.bindParams "max" ["key", "default"] 0 ⟨[], [(dk, .int d t)]⟩ = pure [none, some (.int d t)] from rfl) ?_)
  refine wpAny_bind (wpAny_pure (wpAny_bind (PySem.iter_intList isl fun s2 es st bd ne => ?_)))
  subst es
  refine wpAny_bind (wpAny_newObj_type ?_)
  rw [mxd_nm]
  refine wpAny_pure ⟨plainId_quiet F.plain_max_loop _, ?_⟩
  have W := Walks.list (prog := prog) (w := w) (A := A.in1) hh s.heap.objs.size a ne (intItems xs)
  refine mxd_first W (fun i j => decide (numAt xs i > numAt xs j)) (CmpOf.ints_gt (numAt xs) fun _ _ => intItems_at) _ (fun z => Nat.lt_irrefl _ (bd _ z)) _ ?_ (Heap.get?_push_size _ rfl) fun v h2 t2 pv keep => ?_
  · exact W.frame _ _ _ st fun b _ o q => Heap.get?_push_of_some _ q
  · have old : ∀ b o, s.heap.get? b = some o → h2.get? b = some o := fun b o q => by
      have lt := Heap.lt_size q
      refine keep b o (fun z => ?_) (fun z => ?_) (Heap.get?_push_of_some _ (Heap.get?_push_of_some _ q))
      · rw [List.mem_singleton.mp z] at lt
        exact Nat.lt_irrefl _ lt
      · have sz : (s.heap.push { cls := .type "list_iterator", data := .fields #[.ref a, .int 0 0] }).objs.size = s.heap.objs.size + 1 := Heap.size_push ..
        have z' : b = s.heap.objs.size + 1 := by rw [z]; exact sz
        rw [z'] at lt
        exact Nat.not_succ_lt_self lt
    have sz : (intItems xs).size = ns.length := by rw [← same]; simp [intItems]
    have xsz : xs.size = ns.length := by rw [← same]; simp
    rw [sz] at pv
    by_cases z : ns.length = 0
    · rw [if_pos z] at pv
      subst pv
      exact fin h2 t2 d t old (by unfold Top; rw [if_pos z])
    · rw [if_neg z] at pv
      obtain ⟨t3, rfl⟩ := intItems_at pv
      obtain ⟨g1, g2⟩ := argBest_gt (numAt xs) (ns.length - 1)
      refine fin h2 t2 _ t3 old ?_
      unfold Top
      rw [if_neg z, numAt_eq, same]
      have lt : argBest (fun i j => decide (numAt xs i > numAt xs j)) (ns.length - 1) < ns.length := by omega
      refine ⟨?_, fun y hy => ?_⟩
      · rw [List.getD_eq_getElem?_getD, List.getElem?_eq_getElem lt]
        exact List.getElem_mem lt
      · obtain ⟨j, hj, rfl⟩ := List.mem_iff_getElem.mp hy
        have := g2 j (by omega)
        rw [numAt_eq, numAt_eq, same] at this
        rw [List.getD_eq_getElem?_getD, List.getElem?_eq_getElem hj] at this
        exact this
end
def rMaxDf (K : PySem.W.Frag) : List V → List V → Hp → VK → Prop := fun vs zs H Q => ∃ (a : Addr) (ns : List Int) (d : Int), vs = [V.ref a] ∧ zs = [.int d] ∧ SqL K H a (ns.map V.int) ∧ ∀ m, Top ns d m → Q (.int m) H
theorem cr_maxDf {X : Cx} (hc : X.calm = true) : CallRK X (.builtin "max") [dk] (rMaxDf X.K) := by
  intro pins s σ H vs zs us ws Q I r rz h
  obtain ⟨a, ns, d, rfl, rfl, hs, q⟩ := h
  obtain ⟨its, rv, hl, _⟩ := I.list hs
  obtain rfl := Vals.ref1 r
  obtain ⟨w1, rfl, e1⟩ := vals1 rz
  obtain ⟨t, rfl⟩ := e1
  exact mxd_ints (I.ok.hd hc) hl.isList rv.ints d t fun h' tk m t' keep top => ⟨.int m, H, I.kept keep, ⟨_, rfl⟩, q m top⟩
section
variable {t td : TE} {σ : L2.St} {F H : Hp} {K : PySem.W.Frag}
theorem top_eq : ∀ {ns : List Int} {d m : Int}, Top ns d m → m = mxD ns d
  | [], d, m, h => by
    unfold Top at h
    rw [if_pos (show ([] : List Int).length = 0 from rfl)] at h
    exact h
  | x :: xs, d, m, h => by
    unfold Top at h
    rw [if_neg (by simp)] at h
    obtain ⟨h1, h2⟩ := h
    have a := mxD_mem x xs d
    have b := mxD_le x xs d
    have := h2 _ a
    have := b _ h1
    omega
theorem ev_maxD {m : Option (List Int)} {md : Option Int} (h : EV t σ F H m) (hd : EV td σ F H md) : EV (tCKw (rMaxDf K) (tCons t tNil) (tCons td tNil)) σ F H (m.bind fun xs => md.bind fun d => some (mxD xs d)) := fun F1 H1 l y e Q q => by
  obtain ⟨xs, ex, e⟩ := Option.bind_eq_some_iff.mp e
  obtain ⟨d, ed, e⟩ := Option.bind_eq_some_iff.mp e
  cases e
  refine h F1 H1 l xs ex _ fun v F2 H2 l2 ⟨p, vs, e1, e2, r⟩ => ?_
  refine hd F2 H2 (l.trans l2) d ed _ fun u F3 H3 l3 ru => ?_
  cases ru
  subst e1
  rw [rpL_ints r] at e2
  refine ⟨p, xs, d, rfl, rfl, sqL (l3.h _ _ (l2.fh _ _ e2)), fun m tp => q _ F3 H3 (l2.trans l3) ?_⟩
  rw [top_eq tp]
  rfl
end
end Dw
namespace Dw
open PySem L2 Dv
open Rep (rp)
section
variable {α β S R T : Type} [Rep α] [Rep β] {σ : L2.St} {F H : Hp} {cl : Er → Value} {W : WX} {t : TE}
/-- a while that stands last -/
theorem rd_whileRL {tc : TT} {tb : TS} {D : Ends} {r : T} {n : Nat} {c : S → Option Bool} {f : S → Option (Stp S R)} {s0 : S} {k : S → Option T} {k' : R → Option T} (hm : (whileR c f n s0).bind (fun st => st.elim k k') = some r)
    (P : S → L2.St → Hp → Hp → Prop) (h0 : P s0 σ F H) (hS : ∀ s σ' F' H', P s σ' F' H' → Same F' H') (hc : ∀ s σ' F' H', P s σ' F' H' → EVT tc σ' F' H' (c s))
    (hb : ∀ s σ' F' H' F2 H2, P s σ' F' H' → Lat F' H' F2 H2 → ∀ st, f s = some st → ∀ (D' : Ends), D'.rt = D.rt → (∀ s', st = .go s' → ∀ σ3 F3 H3, P s' σ3 F3 H3 → D'.nx σ3 H3) → (∀ y, st = .ret y → k' y = some r) → tb D' σ' H2)
    (hd : ∀ s σ' F' H' F2 H2, k s = some r → P s σ' F' H' → Lat F' H' F2 H2 → D.nx σ' H2) : tWhile tc tb D σ H :=
  rd_whileR (u := tNext) (D := D) hm P h0 hS hc hb hd
theorem ex_un {m : Rs (Option α)} (h : EX cl W t σ F H m) : EX cl W t σ F H (m.bind fun y => exB y fun x => x.bind fun z => some (.ok z)) := fun F1 H1 l z e Q q qe => by
  obtain ⟨y1, e1, e⟩ := Option.bind_eq_some_iff.mp e
  refine h F1 H1 l y1 e1 Q (fun x ex v F2 H2 l2 rv => ?_) (fun e2 ee F2 H2 l2 => ?_)
  · subst ex
    obtain ⟨w, ew, e⟩ := Option.bind_eq_some_iff.mp (show (x.bind fun z => some (.ok z)) = some z from e)
    subst ew
    cases e
    exact q w rfl v F2 H2 l2 rv
  · subst ee
    cases e
    exact qe e2 rfl F2 H2 l2
end
end Dw

set_option linter.all false
/-! Texts as lists of their signs' numbers. -/
namespace Dv
structure PStr where
  c : List Nat
deriving DecidableEq
def catS (a b : PStr) : Option PStr := if a.c.length + b.c.length ≤ 1000000 then some ⟨a.c ++ b.c⟩ else none
def lenS (a : PStr) : Option Int := if a.c.length ≤ 1000000 then some (a.c.length : Int) else none
def cutS (a : PStr) (lo hi : Option Int) : Option PStr := if a.c.length ≤ 1000000 then some ⟨cutZ a.c lo hi⟩ else none
def atS (a : PStr) (i : Int) : Option PStr := if a.c.length ≤ 1000000 then (atZ a.c i).bind fun c => some ⟨[c]⟩ else none
/-- a text of one sign, in another -/
def inS (x y : PStr) : Option Bool := match x.c with
  | [c] => some (decide (c ∈ y.c))
  | _ => none
def strZ (n : Int) : Option PStr := if 0 ≤ n ∧ n < 10 then some ⟨[48 + n.toNat]⟩ else none
def intS (a : PStr) : Option Int := match a.c with
  | [c] => if 48 ≤ c ∧ c ≤ 57 then some ((c - 48 : Nat) : Int) else none
  | _ => none
def spl1 (s : Nat) : List Nat → List Nat → List (List Nat)
  | acc, [] => [acc]
  | acc, c :: r => if c = s then acc :: spl1 s [] r else spl1 s (acc ++ [c]) r
/-- parted at a text of one sign -/
def splitS (a b : PStr) : Option (List PStr) := match b.c with
  | [s] => if s < 256 ∧ a.c.length ≤ 1000000 then some ((spl1 s [] a.c).map PStr.mk) else none
  | _ => none
def join1 (s : List Nat) : List (List Nat) → List Nat
  | [] => []
  | [p] => p
  | p :: q :: r => p ++ (s ++ join1 s (q :: r))
def joinS (a : PStr) (xs : List PStr) : Option PStr := if (xs.map fun x => x.c.length).sum + xs.length * a.c.length ≤ 16000000 then some ⟨join1 a.c (xs.map PStr.c)⟩ else none
end Dv
namespace Dv
variable {α β : Type}
/-- a list comprehension whose element may refuse -/
def lcGX (f : α → Rs β) : List α → Rs (List β)
  | [] => some (.ok [])
  | x :: xs => (f x).bind fun y => exB y fun z => (lcGX f xs).bind fun w => exB w fun zs => some (.ok (z :: zs))
def lcX (f : α → Rs β) (xs : List α) : Rs (List β) := if xs.length < 10000000 then lcGX f xs else none
def onto (as : List β) : Except Er (List β) → Except Er (List β)
  | .ok zs => .ok (as ++ zs)
  | .error e => .error e
end Dv

set_option Elab.async false
set_option linter.all false
set_option maxRecDepth 100000
set_option maxHeartbeats 4000000
/-! The layer, eighth part: texts. -/
namespace Dw
open PySem L2 Dv
open Rep (rp)
open RepA (ra)
instance : Rep PStr := ⟨fun x v _ => v = .str (SX.S x.c), fun _ h => h⟩
instance : Flat PStr := ⟨fun h => h⟩
instance : Typ PStr := ⟨"str", fun h => by cases h; exact .base (.str _)⟩
theorem pe_blind {X : Cx} {e : Expr} : PE X e (fun _ _ _ => False) := ⟨fun _ _ _ _ _ _ h => h.elim⟩
theorem szL {n : Nat} (h : n ≤ 1000000) : n ≤ sizeLine := Nat.le_trans h (by decide +kernel)
section
variable {σ : L2.St} {F H : Hp}
theorem ev_lit {z : Str} {l : List Nat} (h : z.cps.toList = l := by decide +kernel) : EV (tC (.str z)) σ F H (some (PStr.mk l)) :=
  ev_c fun _ => show V.str z = V.str (SX.S l) by rw [← h, SX.S_tl]
theorem dec_ps (x y : PStr) : decide (V.str (SX.S x.c) = V.str (SX.S y.c)) = decide (x = y) := by
  refine decide_eq_decide.mpr ⟨fun h => ?_, fun h => by rw [h]⟩
  have e := SX.S_inj (V.str.inj h)
  cases x
  cases y
  cases e
  rfl
theorem rv_eqP (x y : PStr) : RV rEq x y (some (decide (x = y))) := fun F H v w s rv rw' z e Q q => by
  cases e
  cases rv
  cases rw'
  exact ⟨rfl, q _ F H (.refl s) (show V.bl _ = V.bl _ by rw [dec_ps])⟩
theorem rv_neP (x y : PStr) : RV rNe x y (some (!decide (x = y))) := fun F H v w s rv rw' z e Q q => by
  cases e
  cases rv
  cases rw'
  exact ⟨rfl, q _ F H (.refl s) (show V.bl _ = V.bl _ by rw [dec_ps])⟩
theorem rv_catS (x y : PStr) : RV (fun x y H Q => ∃ i j, x = .str i ∧ y = .str j ∧ i.length + j.length ≤ sizeLine ∧ Q (.str (i ++ j)) H) x y (catS x y) := fun F H v w s rv rw' z e Q q => by
  unfold catS at e
  split at e
  · rename_i hl
    cases e
    refine ⟨_, _, rv, rw', ?_, q _ F H (.refl s) ?_⟩
    · rw [SX.S_len, SX.S_len]
      exact szL hl
    · show V.str _ = V.str _
      rw [SX.S_cat]
  · cases e
theorem rv_ixStr (x : PStr) (i : Int) : RV rIxS x i (atS x i) := fun F H v w s rv rw' z e Q q => by
  unfold atS at e
  split at e
  · rename_i hl
    obtain ⟨c, ec, e⟩ := Option.bind_eq_some_iff.mp e
    cases e
    refine ⟨_, _, c, rv, rw', ?_, ?_, q _ F H (.refl s) rfl⟩
    · rw [SX.S_len]
      exact szL hl
    · unfold atZ at ec
      unfold atI
      exact ec
  · cases e
theorem in_eq {x y : PStr} {b : Bool} (h : inS x y = some b) : (!(Builtin.Str.occurrences (SX.S y.c) (SX.S x.c) 0 (SX.S y.c).length 1).isEmpty) = b := by
  unfold inS at h
  split at h
  · rename_i c hc
    cases h
    rw [hc]
    exact SX.in_one y.c c
  · cases h
theorem rv_inS (x y : PStr) : RV (fun x y H Q => ∃ i j, x = .str i ∧ y = .str j ∧ Q (.bl (!(Builtin.Str.occurrences j i 0 j.length 1).isEmpty)) H) x y (inS x y) := fun F H v w s rv rw' z e Q q =>
  ⟨_, _, rv, rw', q _ F H (.refl s) (show V.bl _ = V.bl _ by rw [in_eq e])⟩
theorem rv_notInS (x y : PStr) : RV (fun x y H Q => ∃ i j, x = .str i ∧ y = .str j ∧ Q (.bl (!(!(Builtin.Str.occurrences j i 0 j.length 1).isEmpty))) H) x y ((inS x y).bind fun b => some (!b)) := fun F H v w s rv rw' z e Q q => by
  obtain ⟨b, eb, e⟩ := Option.bind_eq_some_iff.mp e
  cases e
  exact ⟨_, _, rv, rw', q _ F H (.refl s) (show V.bl _ = V.bl _ by rw [in_eq eb])⟩
theorem ev_lenStr {t : TE} {m : Option PStr} (h : EV t σ F H m) : EV (tCB (fun xs H Q => ∃ z, xs = [.str z] ∧ z.length ≤ sizeLine ∧ Q (.int z.length) H) (tCons t tNil)) σ F H (m.bind fun x => lenS x) := fun F1 H1 l y e Q q => by
  obtain ⟨x, ex, e⟩ := Option.bind_eq_some_iff.mp e
  unfold lenS at e
  split at e
  · rename_i hl
    cases e
    refine h F1 H1 l x ex _ fun v F2 H2 l2 r => ⟨SX.S x.c, by rw [show v = V.str (SX.S x.c) from r], by rw [SX.S_len]; exact szL hl, q _ F2 H2 l2 ?_⟩
    show V.int _ = V.int _
    rw [SX.S_len]
  · cases e
theorem ev_strZ {t : TE} {m : Option Int} (h : EV t σ F H m) : EV (tCB (fun xs H Q => ∃ i, xs = [.int i] ∧ i.natAbs.log2 < 1920 ∧ Q (.str (toString i)) H) (tCons t tNil)) σ F H (m.bind fun x => strZ x) := fun F1 H1 l y e Q q => by
  obtain ⟨x, ex, e⟩ := Option.bind_eq_some_iff.mp e
  unfold strZ at e
  split at e
  · rename_i hl
    cases e
    have e1 : ((x.toNat : Nat) : Int) = x := by omega
    refine h F1 H1 l x ex _ fun v F2 H2 l2 r => ⟨x, by rw [show v = V.int x from r], ?_, q _ F2 H2 l2 ?_⟩
    · have : x = 0 ∨ x = 1 ∨ x = 2 ∨ x = 3 ∨ x = 4 ∨ x = 5 ∨ x = 6 ∨ x = 7 ∨ x = 8 ∨ x = 9 := by omega
      rcases this with rfl | rfl | rfl | rfl | rfl | rfl | rfl | rfl | rfl | rfl <;> decide
    · show V.str (Str.ofString (toString x)) = V.str (SX.S [48 + x.toNat])
      rw [← e1, SX.num_S, TL.numL_lt (by omega), e1]
  · cases e
theorem ev_intS {t : TE} {m : Option PStr} (h : EV t σ F H m) : EV (tCB (fun xs H Q => ∃ a n, xs = [.str a] ∧ PySem.intText? a = some n ∧ a.length ≤ 640 ∧ Q (.int n) H) (tCons t tNil)) σ F H (m.bind fun x => intS x) := fun F1 H1 l y e Q q => by
  obtain ⟨x, ex, e⟩ := Option.bind_eq_some_iff.mp e
  unfold intS at e
  split at e
  · rename_i c hc
    split at e
    · rename_i hl
      cases e
      refine h F1 H1 l x ex _ fun v F2 H2 l2 r => ⟨SX.S [c], _, by rw [show v = V.str (SX.S x.c) from r, hc], SX.int_S (a := [c]) (by simp [hl]) (by simp) (by simp), by rw [SX.S_len]; simp, q _ F2 H2 l2 ?_⟩
      show V.int _ = V.int _
      simp [NumText.digitsVal]
    · cases e
  · cases e
theorem ev_cutStr {t : TE} {m : Option PStr} {tl th : TO} {lo hi : Option (Option Int)} (h : EV t σ F H m)
    (hl : ∀ F1 H1, Lat F H F1 H1 → ∀ i, lo = some i → ∀ Q : Option Int → Hp → Prop, (∀ F2 H2, Lat F1 H1 F2 H2 → Q i H2) → tl σ H1 Q)
    (hh : ∀ F1 H1, Lat F H F1 H1 → ∀ i, hi = some i → ∀ Q : Option Int → Hp → Prop, (∀ F2 H2, Lat F1 H1 F2 H2 → Q i H2) → th σ H1 Q) :
    EV (tSl rSlS t tl th) σ F H (m.bind fun xs => lo.bind fun i => hi.bind fun j => Dv.cutS xs i j) := fun F1 H1 l y e Q q => by
  obtain ⟨x, ex, e⟩ := Option.bind_eq_some_iff.mp e
  obtain ⟨i, ei, e⟩ := Option.bind_eq_some_iff.mp e
  obtain ⟨j, ej, e⟩ := Option.bind_eq_some_iff.mp e
  unfold Dv.cutS at e
  split at e
  · rename_i hz
    cases e
    refine h F1 H1 l x ex _ fun v F2 H2 l2 r => hl F2 H2 (l.trans l2) i ei _ fun F3 H3 l3 => hh F3 H3 ((l.trans l2).trans l3) j ej _ fun F4 H4 l4 => ?_
    refine ⟨_, r, by rw [SX.S_len]; exact szL hz, q _ F4 H4 ((l2.trans l3).trans l4) ?_⟩
    show V.str _ = V.str _
    unfold L2.cutS cutZ
    rw [SX.S_len]
    rfl
  · cases e
theorem rpL_strs {F : Hp} : ∀ {xs : List PStr} {vs : List V}, rpL xs vs F → vs = (xs.map fun x => SX.S x.c).map V.str
  | [], [], _ => rfl
  | _ :: _, _ :: _, h => by
    rw [List.map_cons, List.map_cons, ← rpL_strs h.2]
    exact congrArg (· :: _) h.1
  | [], _ :: _, h => h.elim
  | _ :: _, [], h => h.elim
theorem rpL_strs' {F : Hp} : ∀ (xs : List PStr), rpL xs ((xs.map fun x => SX.S x.c).map V.str) F
  | [] => trivial
  | _ :: xs => ⟨rfl, rpL_strs' xs⟩
theorem spl_one (s : Nat) : ∀ (l acc : List Nat), TL.spl [s] 0 acc l = spl1 s acc l
  | [], acc => rfl
  | c :: r, acc => by
    unfold spl1
    by_cases h : c = s
    · rw [if_pos h, TL.spl_hit (by subst h; exact TL.pre_self [c] r)]
      show acc :: TL.spl [s] 0 [] r = _
      rw [spl_one s r []]
    · rw [if_neg h, TL.spl_miss (TL.pre_of_head [] r h), spl_one s r]
theorem join_one (s : List Nat) : ∀ l : List (List Nat), TL.joinL s l = join1 s l
  | [] => rfl
  | [_] => rfl
  | p :: q :: r => by
    show p ++ (s ++ TL.joinL s (q :: r)) = p ++ (s ++ join1 s (q :: r))
    rw [join_one s (q :: r)]
theorem ev_join {K : PySem.W.Frag} {to te : TE} {m : Option PStr} {n : Option (List PStr)} (h : EV to σ F H m) (h2 : EV te σ F H n) :
    EV (tM1 (fun x xs H Q => ∃ a p, ∃ ys : List Str, x = .str a ∧ xs = [.ref p] ∧ (SqL K H p (ys.map V.str) ∨ SqT K H p (ys.map V.str)) ∧
      (ys.map (·.length)).sum + ys.length * a.length ≤ 16777216 ∧ Q (.str (Txt.join a ys)) H) to te) σ F H (m.bind fun a => n.bind fun xs => joinS a xs) := fun F1 H1 l y e Q q => by
  obtain ⟨a, ea, e⟩ := Option.bind_eq_some_iff.mp e
  obtain ⟨xs, exs, e⟩ := Option.bind_eq_some_iff.mp e
  unfold joinS at e
  split at e
  · rename_i hz
    cases e
    refine h F1 H1 l a ea _ fun v F2 H2 l2 r => ⟨⟨_, r⟩, h2 F2 H2 (l.trans l2) xs exs _ fun w F3 H3 l3 ⟨p, vs, e1, e2, r2⟩ => ?_⟩
    have hv := rpL_strs r2
    subst hv
    refine ⟨_, p, xs.map fun x => SX.S x.c, r, by rw [e1], .inl (sqL (l3.fh _ _ e2)), ?_, q _ F3 H3 (l2.trans l3) ?_⟩
    · rw [List.map_map, List.length_map, SX.S_len]
      have e3 : List.map ((fun x => Str.length x) ∘ fun x : PStr => SX.S x.c) xs = xs.map fun x => x.c.length := List.map_congr_left fun x _ => SX.S_len x.c
      rw [e3]
      omega
    · show V.str _ = V.str _
      have e4 : (xs.map fun x => SX.S x.c) = (xs.map PStr.c).map SX.S := by rw [List.map_map]; rfl
      rw [e4, SX.join_S, join_one]
  · cases e
theorem evn_split {to te : TE} {m n : Option PStr} (h : EV to σ F H m) (h2 : EV te σ F H n) :
    EVN (tM1 (fun x xs H Q => ∃ a b, x = .str a ∧ xs = [.str b] ∧ (b.length == 0) = false ∧ a.length + 2 ≤ sizeLine ∧ rNewStrs (Txt.split a b) H Q) to te) σ F H (m.bind fun a => n.bind fun b => splitS a b) := fun F1 H1 l y e Q q => by
  obtain ⟨a, ea, e⟩ := Option.bind_eq_some_iff.mp e
  obtain ⟨b, eb, e⟩ := Option.bind_eq_some_iff.mp e
  unfold splitS at e
  split at e
  · rename_i s hs
    split at e
    · rename_i hz
      cases e
      refine h F1 H1 l a ea _ fun v F2 H2 l2 r => ⟨⟨_, r⟩, h2 F2 H2 (l.trans l2) b eb _ fun w F3 H3 l3 r2 => ?_⟩
      refine ⟨SX.S a.c, SX.S [s], r, by rw [show w = V.str (SX.S b.c) from r2, hs], rfl, by rw [SX.S_len]; exact Nat.le_trans (Nat.add_le_add_right hz.2 2) (by decide +kernel), fun p hp => ?_⟩
      have e3 : Txt.split (SX.S a.c) (SX.S [s]) = ((spl1 s [] a.c).map PStr.mk).map fun x => SX.S x.c := by
        rw [SX.split_S (by simp) (by simp [hz.1]), spl_one, List.map_map]
        rfl
      rw [e3]
      refine q p _ F3 _ ((l2.trans l3).trans (.made l3.fh hp)) ((l2.trans l3).h.free hp) (l3.fh.free hp) upd_same (rpL_strs' _)
    · cases e
  · cases e
end

/-! ### a pair whose second is a list of one's own -/
section
variable {δ α β R : Type} [RepB δ] [Rep α] [Rep β]
theorem own_rpT {p a : Addr} {v1 : V} {F H : Hp} {x : α × List β} {vs : List V} (s : Same F H) (ha : F a = some (.tup [v1, .ref p])) (r1 : rp x.1 v1 F) (hp : H p = some (.lst vs)) (rl : rpL x.2 vs F) : rp x (.ref a) H :=
  ⟨a, v1, .ref p, rfl, s _ _ ha, Rep.mono s r1, own_rp s hp rl⟩
def EVP (t : TE) (σ : L2.St) (F H : Hp) (m : Option (α × List β)) : Prop :=
  ∀ F1 H1, Lat F H F1 H1 → ∀ y, m = some y → ∀ Q : VK, (∀ a v1 p ws F2 H2, Lat F1 H1 F2 H2 → F2 a = some (.tup [v1, .ref p]) → rp y.1 v1 F2 → H1 p = none → F2 p = none → H2 p = some (.lst ws) → rpL y.2 ws F2 → Q (.ref a) H2) → t σ H1 Q
variable {t : TE} {σ : L2.St} {F H : Hp}
theorem EVP.ev {m : Option (α × List β)} (h : EVP t σ F H m) : EV t σ F H m := fun F1 H1 l y e Q q =>
  h F1 H1 l y e Q fun a v1 p ws F2 H2 l2 ha r1 h1 h2 h3 rl => q (.ref a) (upd F2 p (.lst ws)) H2 (l2.hold h1 h2 h3)
    ⟨a, v1, .ref p, rfl, same_upd h2 _ _ ha, Rep.mono (same_upd h2) r1, p, ws, rfl, upd_same, rpL.mono (same_upd h2) rl⟩
def spT (m : δ → Option (α × List β)) : Sp := fun vs H Q _ => ∃ (F : Hp) (x : δ) (y : α × List β), Same F H ∧ ra x vs F ∧ m x = some y ∧
  ∀ a v1 p ws F' H', Lat F H F' H' → F' a = some (.tup [v1, .ref p]) → rp y.1 v1 F' → H p = none → F' p = none → H' p = some (.lst ws) → rpL y.2 ws F' → Q (.ref a) H'
theorem spT_len {m : δ → Option (α × List β)} {n : Nat} (hn : RepB.n δ = n) : ∀ vs H Q E, spT m vs H Q E → vs.length = n := fun vs H Q E ⟨F, x, y, _, h, _⟩ => (RepB.len h).trans hn
theorem evp_call {ta : TA} {ma : Option δ} {E : XK} {m : δ → Option (α × List β)} (ha : EVA ta σ F H ma) : EVP (tCall (spT m) [] E ta) σ F H (ma.bind fun x => m x) := fun F1 H1 l y e Q q => by
  obtain ⟨x, ex, e⟩ := Option.bind_eq_some_iff.mp e
  refine ha F1 H1 l x ex _ fun vs F2 H2 l2 r => ?_
  rw [List.append_nil]
  exact ⟨F2, x, y, l2.fh, r, e, fun a v1 p ws F3 H3 l3 ha r1 h1 h2 h3 r3 => q a v1 p ws F3 H3 (l2.trans l3) ha r1 (l2.h.free h1) h2 h3 r3⟩
variable {te : TE} {u : TS} {D : Ends} {r : R} {i : Nat}
theorem rd_asgP {m : Option (α × List β)} {k : α × List β → Option R} (hF : Same F H) (ev : EVP te σ F H m) (hm : m.bind k = some r)
    (c : ∀ x a v1 p ws F1 H1, k x = some r → Lat F H F1 H1 → F1 a = some (.tup [v1, .ref p]) → rp x.1 v1 F1 → H p = none → F1 p = none → H1 p = some (.lst ws) → rpL x.2 ws F1 → u D (σ.set i (some (.ref a))) H1) : tSeq (tAsg te (gName i)) u D σ H := by
  obtain ⟨x, e1, e2⟩ := Option.bind_eq_some_iff.mp hm
  exact ev F H (.refl hF) x e1 _ fun a v1 p ws F1 H1 l ha r1 h1 h2 h3 rl => c x a v1 p ws F1 H1 e2 l ha r1 h1 h2 h3 rl
theorem rd_retT {t1 : TE} {j : Nat} {x1 : α} {xs : List β} {p : Addr} {vs : List V} (hF : Same F H) (e1 : EV t1 σ F H (some x1)) (hj : σ[j]? = some (some (.ref p))) (hp : H p = some (.lst vs)) (fp : F p = none) (rl : rpL xs vs F)
    (c : ∀ a v1 F1 H1, Lat F H F1 H1 → F1 a = some (.tup [v1, .ref p]) → rp x1 v1 F1 → F1 p = none → H1 p = some (.lst vs) → rpL xs vs F1 → D.rt (.ref a) H1) : tRet (tTup (tCons t1 (tCons (tVar j) tNil))) D σ H := by
  refine e1 F H (.refl hF) x1 rfl _ fun v F1 H1 l rv => ⟨.ref p, hj, by show 2 ≤ sizeLine; decide, fun a ha => ?_⟩
  have fp1 := l.nwl hp fp
  have hp1 := l.h _ _ hp
  have ne : p ≠ a := fun e => by rw [e, ha] at hp1; cases hp1
  have fa := l.fh.free ha
  refine c a v (upd F1 a (.tup [v, .ref p])) (upd H1 a (.tup [v, .ref p])) (l.trans (.new l.fh ha)) upd_same (Rep.mono (same_upd fa) rv) ?_ ?_ (rpL.mono (l.f.trans (same_upd fa)) rl)
  · rw [upd_ne ne]
    exact fp1
  · rw [upd_ne ne]
    exact hp1
theorem rd_appendT {K : PySem.W.Frag} {a p : Addr} {v1 : V} {xs : List β} {vs : List V} {m : Option β} {k : List β → Option R} {j : Nat} (hF : Same F H) (hj : σ[j]? = some (some (.ref a))) (ha : F a = some (.tup [v1, .ref p])) (hp : H p = some (.lst vs)) (fp : F p = none) (rl : rpL xs vs F) (ev : EV te σ F H m)
    (hm : (m.bind fun y => addL xs y).bind k = some r)
    (c : ∀ ys ws F1 H1, k ys = some r → Mt p F H F1 H1 → F1 p = none → H1 p = some (.lst ws) → rpL ys ws F1 → u D σ H1) : tSeq (tDrop (tBM K "list" rAppend (tOp (rIxT K) (tVar j) (tC (.int 1))) (tCons te tNil))) u D σ H := by
  obtain ⟨ys, e1, e2⟩ := Option.bind_eq_some_iff.mp hm
  obtain ⟨y, e3, e4⟩ := Option.bind_eq_some_iff.mp e1
  unfold addL at e4
  split at e4
  · rename_i hlen
    cases e4
    refine ⟨.ref a, hj, a, _, 1, .ref p, rfl, rfl, sqT (hF _ _ ha), rfl, .inl ⟨rfl, vs, sqL hp⟩, ?_⟩
    refine ev F H (.refl hF) y e3 _ fun v F1 H1 l rv => ?_
    have fp1 := l.nwl hp fp
    exact ⟨p, vs, v, rfl, rfl, l.h _ _ hp, sz_lt (by rw [rl.length]; exact hlen), c _ (vs ++ [v]) F1 _ e2 (Mt.of l fp1) fp1 upd_same (rpL.append (rpL.mono l.f rl) ⟨rv, trivial⟩)⟩
  · cases e4
end
end Dw

set_option Elab.async false
set_option linter.all false
set_option maxRecDepth 100000
set_option maxHeartbeats 4000000
/-! The layer, ninth part: a comprehension whose element may raise. -/
namespace Dw
open PySem L2 Dv PyProof.Rows
section
variable {M : Model} {A : Around} {E : Value → Shared → Prop} {s : Shared} {env : Env}
/-- what is asked of a comprehension's block when it ends, in its environment be -/
def cEnd (M : Model) (A : Around) (E : Value → Shared → Prop) (use : Option (Value → Sem Unit)) (Q : Value → Shared → Prop) (acc : Value) (be : Env) (r : Result) (s' : Shared) : Prop :=
  match r with
  | .ok f => compPost M A E use Q acc be.locals (.ok f) s'
  | .error x => ∃ m, s'.heap.Ns be.locals m ∧ ∀ h', Heap.SameBut be.locals s'.heap h' →
      wpAny M A (PySem.passOn "comprehension.variables-let-go" x be : Sem Value) (fun _ _ => False) E { s' with heap := h' }
theorem comp_free2 {e : Expr} {scope : Scope} {pos : Pos} {mk fst : Sem Value} {c0 : Comprehension} {cs : List Comprehension} {cl : List (Str × Addr)} {use : Option (Value → Sem Unit)} {Q : Value → Shared → Prop}
    (k1 : clausesOf e = c0 :: cs) (k2 : ∀ x, foldedSetIterable c0.iter env x = pure x) (k3 : closureFor scope env = pure cl) (k4 : scope.kind = .function)
    (k5 : ∀ x ∈ scope.names, x.2 = .local → scope.names.lookup x.1 = some .local)
    (h : wpAny M A fst (fun v t1 => wpAny M A (pyIter v) (fun it t2 => wpAny M A mk (fun acc t3 =>
      wpAny M A (newFunctionEnv scope env.globals cl [] env.qual none .none (some env)) (fun be t4 =>
        codeAny M A (.compStart e 0 it acc { be with scope := relabel scope env }) (cEnd M A E use Q acc { be with scope := relabel scope env }) t4) E t3) E t2) E t1) E s) :
    wpAny M A (comprehension e scope env pos mk false fst use) Q E s := by
  unfold comprehension
  rw [k3, k1]
  refine wpAny_bind (wpAny_mono h (fun v t1 h1 => ?_) fun _ _ z => z)
  refine wpAny_bind (wpAny_standAt (wpAny_bind (wpAny_of_eq (k2 v) (wpAny_bind (wpAny_holding (wpAny_mono h1 (fun it t2 h2 => ?_) fun _ _ z => z))))))
  refine wpAny_standIf (wpAny_bind (wpAny_mono h2 (fun acc t3 h3 => ?_) fun _ _ z => z))
  refine wpAny_bind (wpAny_pure (wpAny_bind (wpAny_mono h3 (fun be t4 h4 => ?_) fun _ _ z => z)))
  dsimp only
  have loc : ∀ x ∈ (scope.names.filter fun x => (x.2 == .local || x.2 == .cell) && x.1 != (".0" : Str)).reverse, x.2 = .local → Env.kindOf { be with scope := relabel scope env } x.1 = some .local := fun x hx hl =>
    lookup_relabel_local (k5 x (List.mem_filter.mp (List.mem_reverse.mp hx)).1 hl)
  have loc2 : ∀ x ∈ (scope.names.filter fun x => (x.2 == .local || x.2 == .cell) && x.1 != (".0" : Str)).reverse.drop 1 ++ (scope.names.filter fun x => (x.2 == .local || x.2 == .cell) && x.1 != (".0" : Str)).reverse.take 1, x.2 = .local → Env.kindOf { be with scope := relabel scope env } x.1 = some .local := fun x hx hl =>
    (List.mem_append.mp hx).elim (fun z => loc x (List.mem_of_mem_drop z) hl) fun z => loc x (List.mem_of_mem_take z) hl
  refine wpAny_holding (wpAny_bind (wpAny_attempt (wpAny_holding (wpAny_run (codeAny_mono h4 fun r t5 hr => ?_)))))
  cases r with
  | ok f =>
    cases use with
    | none =>
      obtain ⟨m, hn, hr⟩ := hr
      exact wpAny_bind (wpAny_holding (wpAny_comp_letGo (cenv := { be with scope := relabel scope env }) k4 _ t5 m loc hn fun h' _ _ sb => wpAny_pure (hr h' sb)))
    | some u =>
      refine wpAny_bind (wpAny_rule (wpAny_bind (wpAny_holding (wpAny_mono hr (fun _ t6 hr2 => ?_) fun _ _ z => z))))
      obtain ⟨m, hn, hr3⟩ := hr2
      exact wpAny_bind (wpAny_comp_letGo (cenv := { be with scope := relabel scope env }) k4 _ t6 m loc2 hn fun h' _ _ sb => wpAny_pure (hr3 h' sb))
  | error x =>
    obtain ⟨m, hn, hr⟩ := hr
    exact wpAny_bind (wpAny_holding (wpAny_comp_letGo (cenv := { be with scope := relabel scope env }) k4 _ t5 m loc hn fun h' _ _ sb => wpAny_mono (hr h' sb) (fun _ _ z => z.elim) fun _ _ z => z))
end

/-! ### an exception out of a block -/
theorem frames_less {h h2 B B2 : Heap} {C : Addr} (hC : ∃ o, B.get? C = some o) (b2 : ∀ b, B.get? b = none → B2.get? b = none) (sb : Heap.SameBut C h h2) : ∀ {l : List Env}, h.FunFrames B l → h2.FunFrames B2 l
  | [], _ => trivial
  | _ :: _, ⟨k, ⟨L, o, q1, q2, q3, q4⟩, r⟩ => by
    have ne : L ≠ C := fun z => by
      obtain ⟨o', e⟩ := hC
      rw [z, e] at q2
      cases q2
    exact ⟨k, ⟨L, o, q1, b2 L q2, (sb.2 L ne).trans q3, q4⟩, frames_less hC b2 sb r⟩
theorem held_less {h h2 B B2 : Heap} {C a L : Addr} {Z : Obj → Prop} {l : List Env} (hC : ∃ o, B.get? C = some o) (b1 : ∀ b, b ≠ C → B2.get? b = B.get? b) (b2 : B2.get? C = none) (sb : Heap.SameBut C h h2) (hh : HandSPX.HeldZ B l a Z L h) : HandSPX.HeldZ B2 l a Z L h2 := by
  obtain ⟨q1, q2, q3, oe, vs, T, oT, ts, r1, r2, r3, r4, r5, r6, r7, r8, r9⟩ := hh
  have bn : ∀ b, B.get? b = none → B2.get? b = none := fun b e => by
    by_cases z : b = C
    · rw [z]
      exact b2
    · rw [b1 b z]
      exact e
  have off : ∀ b, B.get? b = none → b ≠ C := fun b e z => by
    obtain ⟨o', e'⟩ := hC
    rw [z, e'] at e
    cases e
  refine ⟨fun b o e => ?_, bn a q2, frames_less hC bn sb q3, oe, vs, T, oT, ts, (sb.2 a (off a q2)).trans r1, r2, r3, r4, bn T r5, r6, (sb.2 T (off T r5)).trans r7, r8, r9⟩
  have z : b ≠ C := fun z => by
    rw [z, b2] at e
    cases e
  rw [b1 b z] at e
  exact (sb.2 b z).trans (q1 b o e)
theorem note_same {u : Value} {e1 e2 : Env} (h : e1.frame = e2.frame) : noteFrame u e1 = noteFrame u e2 := by
  unfold noteFrame PySem.frameOf
  rw [h]
section
variable {X : Cx} {pins : List (Addr × Obj)} {σ : L2.St} {H : Hp} {s s' : Shared} {Wo : XK} {u : Value} {C : Addr}
theorem blk_err (hs : X.stack = X.env :: X.outer) (hf : X.env.frame = some X.env.locals) (tk : Takes X (fun cls d _ H => Wo cls d H)) (I : Inv X pins σ H s) (fC : FpOk X pins H C) {m : Str → Option Value} (hn : s.heap.Ns C m)
    (c : CX X.prog X.w X.stack H s Wo u s') {be : Env} (hb : be.frame = X.env.frame) (hl : be.locals = C) {use : Option (Value → Sem Unit)} {Qf : Value → Shared → Prop} {acc : Value} :
    notedBy (model X.prog X.w) X.A be (fun e t => cEnd (model X.prog X.w) X.A X.xe use Qf acc be (.error e) t) u s' := by
  obtain ⟨a, B, H1, cls, d, rfl, fl, hok, ub, na, os, ag, hE⟩ := c
  obtain ⟨f0, f1, f2, f3, f4, f5⟩ := fC
  have hfr : X.A.frames = some (X.env :: X.outer) := by rw [I.ok.frames, hs]
  have cF : C ∉ frs X.stack := fun z => (List.mem_cons.mp (I.stkSub C z)).elim f1 f2
  obtain ⟨oC, es, ep, ho, hrest⟩ := id hn
  have hBC : B.get? C = some oC := ub.keep C oC ho f0 cF
  have H1C : H1 C = none := ub.free C oC ho f0
  have st : B.StaysIn s'.heap := fl.1
  -- the state without the exception
  obtain ⟨G, g1, g2⟩ := restrict s'.heap fun b => (B.get? b).isSome || decide (b ∈ frs X.stack)
  have inB : ∀ b o, B.get? b = some o → G.get? b = some o := fun b o e => (g1 b (by rw [e]; rfl)).trans (st b o e)
  have inF : ∀ b, b ∈ frs X.stack → G.get? b = s'.heap.get? b := fun b e => g1 b (by rw [decide_eq_true e, Bool.or_true])
  have out : ∀ b o, G.get? b = some o → s'.heap.get? b = some o ∧ (b ∉ frs X.stack → B.get? b = some o) := fun b o e => by
    by_cases q : ((B.get? b).isSome || decide (b ∈ frs X.stack)) = true
    · rw [g1 b q] at e
      refine ⟨e, fun nb => ?_⟩
      rw [decide_eq_false nb, Bool.or_false] at q
      obtain ⟨o', e'⟩ := Option.isSome_iff_exists.mp q
      have := st b o' e'
      rw [e] at this
      cases this
      exact e'
    · rw [g2 b (by simpa using q)] at e
      cases e
  have J1 : Inv X pins σ H1 { s with heap := G, gens := s'.gens, drawn := s'.drawn, toks := s'.toks } := by
    refine I.call (ch := []) ⟨fun b o e n nb _ => inB b o (ub.keep b o e n nb), fun b o e n nb _ => ?_, fun b o e n _ => ub.free b o e n, fun b o e _ => ?_, ub.tups, ub.frzs, ub.tbls⟩ (hok.kept inB) ag (fun _ z => nomatch z)
    · obtain ⟨sl, q⟩ := ub.slot b o e nb
      exact ⟨sl, (inF b nb).trans q⟩
    · by_cases nb : b ∈ frs X.stack
      · obtain ⟨sl, q⟩ := ub.slot b o e nb
        exact ⟨_, (inF b nb).trans q⟩
      · obtain ⟨o', q⟩ := ub.there b o e nb
        exact ⟨o', inB b o' q⟩
  obtain ⟨G2, k1, k2⟩ := restrict G fun b => decide (b ≠ C)
  obtain ⟨B2, b1, b2⟩ := restrict B fun b => decide (b ≠ C)
  have b1' : ∀ b, b ≠ C → B2.get? b = B.get? b := fun b z => b1 b (decide_eq_true z)
  have b2' : B2.get? C = none := b2 C (by simp)
  have J2 : Inv X pins σ H1 { s with heap := G2, gens := s'.gens, drawn := s'.drawn, toks := s'.toks } := J1.turned (t' := s'.toks) (fun b o z e => (k1 b (decide_eq_true z)).trans e) H1C f1 f3 f4 f5
  have up0 : ∀ b o, G2.get? b = some o → b ≠ C ∧ G.get? b = some o := fun b o e => by
    by_cases z : b = C
    · rw [z, k2 C (by simp)] at e
      cases e
    · rw [k1 b (decide_eq_true z)] at e
      exact ⟨z, e⟩
  show wpAny (model X.prog X.w) X.A (noteFrame (.ref a) be) _ _ s'
  rw [note_same hb]
  rw [hs] at fl
  refine HandSPX.looks_onZ Zc.steady hfr hf fl fun h1 hh up1 => ?_
  have h1C : h1.get? C = some oC := hh.1 C oC hBC
  refine ⟨m, by rw [hl]; exact ⟨oC, es, ep, h1C, hrest⟩, fun h2 sb => ?_⟩
  rw [hl] at sb
  have hh2 : HandSPX.HeldZ B2 (X.env :: X.outer) a (Zc cls d) X.env.locals h2 := held_less ⟨oC, hBC⟩ b1' b2' sb hh
  obtain ⟨q1, q2, q3, oe, vs, T, oT, ts, r1, r2, r3, r4, r5⟩ := id hh2
  unfold PySem.passOn
  refine wpAny_bind (wpAny_field (s := { s' with heap := h2 }) r1 r3 r4 ?_)
  rw [if_neg (by simp)]
  rw [hb, hf]
  refine wpAny_bind (HandSPX.setFlight_onZ (s := { s' with heap := h2 }) hh2 fun h3 hh3 up3 => wpAny_throw (tk _ _ ?_))
  refine ⟨a, B2, _, pins, σ, H1, cls, d, rfl, J2, fun b o e nb => ?_, fun b o e nf => ?_, .inr (.inr (by rw [hs]; exact hh3)), na, os, ag, hE⟩
  · obtain ⟨z, e⟩ := up0 b o e
    rw [b1' b z]
    exact (out b o e).2 nb
  · obtain ⟨z, e⟩ := up0 b o e
    obtain ⟨sl, e1⟩ := up1 b o (out b o e).1 nf
    rw [← sb.2 b z] at e1
    obtain ⟨sl2, e2⟩ := up3 b _ e1 nf
    exact ⟨sl2, e2⟩
/-- what an element of the block Y may let out: what a call lets out -/
def BX (Y : Cx) (Wo : XK) (u : Value) (t : Shared) : Prop := ∃ (τ : L2.St) (G : Hp) (r : Shared), Inv Y [] τ G r ∧ CX Y.prog Y.w Y.stack G r Wo u t
/-- the block's context, its elements may raise -/
abbrev bX (X : Cx) (Wo : XK) (s : Shared) (H : Hp) (scope : Scope) (be : Env) (fp : List Addr) : Cx := (X.blk s H scope be fp).tr [] (BX (X.blk s H scope be fp) Wo)
theorem pe_fnB {Y : Cx} {k : Nat} {x : Str} {ps : List Str} {sp : Sp} {p pos : Pos} {e : Expr} {es : List Expr} {t : TA}
    (F : Fn Y.prog Y.w Y.K Y.mg Y.base (L2.CX Y.prog Y.w) k x ps sp) (hr : Room k Y.A) (hY : ∀ pins σ H s u s', Inv Y pins σ H s → L2.CX Y.prog Y.w Y.stack H s Wo u s' → Y.xe u s') (hg : Gl Y x)
    (ha : PA Y (e :: es) t) (hdb : (x == ("__debug__" : Str)) = false := by decide) (he : starEach (e :: es) Y.env = (false, eval e Y.env) :: starEach es Y.env := by rfl) (hpl : (backTo pos (starEach es Y.env)).any (·.1) = false := by rfl) :
    PE Y (.Call (.Name x p) (e :: es) [] pos) (tCallS sp (WE fun cls d _ H => Wo cls d H) t) := by
  obtain ⟨f, fd, h1, h2, h3, h4⟩ := F.ex
  exact pe_callS h4 hr hg h1 h2 h3 (fun σ pins H s u s' I c => hY pins σ H s u s' I c) ha hdb he hpl
theorem bX_takes {scope : Scope} {be : Env} {fp : List Addr} : ∀ pins' σ' H' r u s', Inv (bX X Wo s H scope be fp) pins' σ' H' r → L2.CX (bX X Wo s H scope be fp).prog (bX X Wo s H scope be fp).w (bX X Wo s H scope be fp).stack H' r Wo u s' → (bX X Wo s H scope be fp).xe u s' :=
  fun _ σ' H' r _ _ I c => ⟨σ', H', r, Inv.ofTry (X := X.blk s H scope be fp) (pins := []) I I.ok.ofTry, c⟩
theorem lcX_core {Q : VK} {elt tg iter : Expr} {scope : Scope} {own : List (Str × Nat)} {pos pos' : Pos} {wi : TI} {g : TG} {te : TE} {use : Option (Value → Sem Unit)} {Qf : Value → Shared → Prop}
    (hs : X.stack = X.env :: X.outer) (hf : X.env.frame = some X.env.locals) (tk : Takes X (fun cls d _ H => Wo cls d H)) (hc : X.calm = true) (hN : X.N.Nodup) (I : Inv X pins σ H s) (hi : PI X tg iter wi) (ok : BlkOk X.N X.env.scope scope own)
    (hg : ∀ (s : Shared) (H : Hp) (C : Addr) (cl : List (Str × Addr)) (fp : List Addr), PG (bX X Wo s H scope (compEnvC scope cl C X.env) fp) tg g)
    (he : ∀ (s : Shared) (H : Hp) (C : Addr) (cl : List (Str × Addr)) (fp : List Addr), PE (bX X Wo s H scope (compEnvC scope cl C X.env) fp) elt te) (hz : ∀ x, foldedSetIterable iter X.env x = pure x)
    (h : tLc wi g tYes te (own.map (·.2)) σ H Q)
    (fin : ∀ D C t m G, Inv X pins σ G t → Q (.ref D) G → t.heap.Ns C m → FpOk X pins G C → compPost (model X.prog X.w) X.A X.xe use Qf (.ref D) C (.ok .next) t) :
    wpAny (model X.prog X.w) X.A (comprehension (.ListComp elt [⟨tg, iter, [], 0⟩] scope pos) scope X.env pos' (newList []) false (eval iter X.env) use) Qf X.xe s := by
  have cells : ∀ y ∈ scope.names, y.2 = .free → ∃ c, X.env.cells.lookup y.1 = some c := fun y hy e => (ok.free y hy e).elim (fun z => I.ok.has _ (.inl z)) fun z => I.ok.has _ (.inr z)
  refine comp_free2 (use := use) rfl hz (closure_ok cells) ok.kind (fun y hy e => by rw [ok.uniq y hy, e]) ?_
  refine thn (hi.run pins s σ H _ I h) fun v t1 hv => thn hv fun iv t2 h2 => ?_
  obtain ⟨it, fp, tn, J, H2, rfl, I2, T, st2, f2, q⟩ := h2
  refine wpAny_newObj_type (newEnv_comp ?_) (Nat.zero_le _)
  generalize eD : t2.heap.objs.size = D
  have D0 : H2 D = none := I2.hok.fresh (Nat.le_of_eq eD)
  obtain ⟨W, ⟨m0, w0⟩, turn⟩ := q D D0
  generalize e3 : ({ t2 with heap := t2.heap.push { cls := .type "list", data := .seq ([] : List Value).toArray } } : Shared) = t3
  have hh3 : t3.heap = t2.heap.push { cls := .type "list", data := .seq ([] : List Value).toArray } := by rw [← e3]
  have I3 : Inv X pins σ (upd H2 D (.lst [])) t3 := by
    rw [← e3]
    refine I2.laid (t' := t2.toks) (fun b o q => Heap.get?_push_of_some _ q) (Nat.le_of_eq eD) ⟨Nat.zero_le _, [], 0, .nil, ?_⟩
    rw [← eD]
    exact Heap.get?_push_size _ rfl
  have old : ∀ b ∈ fp, b < t2.heap.objs.size := fun b hb => let ⟨_, q, _⟩ := T.obj _ _ st2 b hb; Heap.lt_size q
  have f3 : ∀ b ∈ fp, FpOk X pins (upd H2 D (.lst [])) b ∧ b < t3.heap.objs.size := fun b hb => by
    have lt := old b hb
    refine ⟨⟨?_, (f2 b hb).2⟩, by rw [hh3, Heap.size_push]; exact Nat.lt_succ_of_lt lt⟩
    rw [upd_ne (show b ≠ D from fun z => Nat.ne_of_lt lt (z.trans eD.symm))]
    exact (f2 b hb).1
  have st3 : tn 0 t3.heap := T.keep _ _ _ st2 fun b _ o q => by
    rw [hh3]
    exact Heap.get?_push_of_some _ q
  have I4 := block_start I3 ok hN f3
  have pg := hg t3 (upd H2 D (.lst [])) t3.heap.objs.size (cellsFrom (t3.heap.objs.size + 1) scope.names (cloFrom X.env.cells scope.names [])) fp
  have pe := he t3 (upd H2 D (.lst [])) t3.heap.objs.size (cellsFrom (t3.heap.objs.size + 1) scope.names (cloFrom X.env.cells scope.names [])) fp
  show codeAny _ _ (.compStart (.ListComp elt [⟨tg, iter, [], 0⟩] scope pos) 0 (.ref it) (.ref D) (compEnvC scope (cellsFrom (t3.heap.objs.size + 1) scope.names (cloFrom X.env.cells scope.names [])) t3.heap.objs.size X.env))
    (cEnd (model X.prog X.w) X.A X.xe use Qf (.ref D) (compEnvC scope (cellsFrom (t3.heap.objs.size + 1) scope.names (cloFrom X.env.cells scope.names [])) t3.heap.objs.size X.env)) { t3 with heap := pushCells (t3.heap.push { cls := .type "dict", data := .dict #[] }) scope.names }
  have n3 : ∀ b ∈ fp, (upd H2 D (.lst [])) b = none := fun b hb => (f3 b hb).1.1
  generalize eb : compEnvC scope (cellsFrom (t3.heap.objs.size + 1) scope.names (cloFrom X.env.cells scope.names [])) t3.heap.objs.size X.env = be at I4 pg pe ⊢
  have bL : be.locals = t3.heap.objs.size := by rw [← eb]; rfl
  have bF : be.frame = X.env.frame := by rw [← eb]; rfl
  generalize eH : upd H2 D (.lst []) = H3 at I3 I4 pg pe w0 n3 f3
  generalize e4 : ({ t3 with heap := pushCells (t3.heap.push { cls := .type "dict", data := .dict #[] }) scope.names } : Shared) = t4 at I4 ⊢
  have st4 : tn 0 t4.heap := T.keep _ _ _ st3 fun b _ o q => by
    rw [← e4]
    exact pushCells_keeps _ _ _ _ (Heap.get?_push_of_some _ q)
  -- the def's context again
  have back : ∀ {τ : L2.St} {G : Hp} {t : Shared}, Inv (X.blk t3 H3 scope be fp) [] τ G t → Inv X pins σ G t ∧ FpOk X pins G be.locals ∧ ∃ m, t.heap.Ns be.locals m := fun {τ G t} J => by
    obtain ⟨m, hn, _⟩ := J.loc
    have nC : G be.locals = none := J.free
    refine ⟨I3.call' (ch := fp) J.os J.base J.hok J.bare fun b hb => ?_, ?_, m, hn⟩
    · obtain ⟨_, p1, _, p3, p4, p5⟩ := (f3 b hb).1
      exact ⟨p3, p1, p4, p5⟩
    · rw [bL] at nC ⊢
      exact I3.fpOk (Nat.le_refl _) nC
  have bad : ∀ u t, BX (X.blk t3 H3 scope be fp) Wo u t → notedBy (model X.prog X.w) X.A be (fun e t => cEnd (model X.prog X.w) X.A X.xe use Qf (.ref D) be (.error e) t) u t := fun u t ⟨τ, G, r, J, c⟩ => by
    obtain ⟨J1, fC, m, hn⟩ := back J
    exact blk_err hs hf tk J1 fC hn c bF rfl
  have tr : ∀ {τ : L2.St} {G : Hp} {t : Shared}, Inv (bX X Wo t3 H3 scope be fp) [] τ G t → Inv (X.blk t3 H3 scope be fp) [] τ G t := fun J => Inv.ofTry (X := X.blk t3 H3 scope be fp) (pins := []) J J.ok.ofTry
  have I5 : Inv (bX X Wo t3 H3 scope be fp) [] (wipe σ (own.map (·.2))) H3 t4 := I4.toTry _
  have its : ∀ {τ : L2.St} {G : Hp} {t : Shared}, Inv (bX X Wo t3 H3 scope be fp) [] τ G t → (∀ b ∈ fp, G b = none) → ∀ b ∈ fp, FpOk (bX X Wo t3 H3 scope be fp) [] G b := fun {τ G t} J n b hb =>
    ⟨n b hb, (J.ok.exf b hb).1, J.ok.exfs b hb, .inl hb, fun x c e => (J.ok.exf b hb).2 x c e, fun p hp => absurd (show p ∈ ([] : List (Addr × Obj)) ++ [] from hp) (by simp)⟩
  have loop : codeAny (model X.prog X.w) X.A (.compLoop (.ListComp elt [⟨tg, iter, [], 0⟩] scope pos) 0 (.ref it) (.ref D) be) (cEnd (model X.prog X.w) X.A X.xe use Qf (.ref D) be) t4 := by
    refine compLoop_any (fun n t => ∃ i G, Inv (bX X Wo t3 H3 scope be fp) [] (wipe σ (own.map (·.2))) G t ∧ tn i t.heap ∧ (∀ b ∈ fp, G b = none) ∧ W i n G) ?_ m0 ⟨0, H3, I5, st4, n3, w0⟩
    rintro n t5 ⟨i, H5, J5, st5, n5, w5⟩
    rcases turn i n H5 w5 with ⟨stop, qq⟩ | ⟨go, Nx, hNx, step⟩
    · have td := T.done (bX X Wo t3 H3 scope be fp) rfl rfl rfl hc i [] t5 _ H5 (fun _ _ => False) J5 (its J5 n5) st5 stop
      refine thnF td fun r t6 ⟨hr, J6⟩ => ?_
      subst hr
      obtain ⟨J7, fC, m, hn⟩ := back (tr J6)
      exact fin D be.locals t6 m H5 J7 qq hn fC
    · have ti := T.item (bX X Wo t3 H3 scope be fp) rfl rfl rfl hc i [] t5 _ H5 (fun _ _ => False) J5 (its J5 n5) st5 go
      refine thnF ti fun r t6 ⟨u, hr, h6⟩ => ?_
      subst hr
      refine thnF h6 fun _ t7 ⟨x, H7, J7, r7, y7, st7, n7⟩ => ?_
      have K7 := J7.pinned (its J7 n7) (T.obj _ _ st7)
      refine wpAny_mono (pg.run _ t7 _ H7 x u _ K7 r7 (step x H7 y7)) (fun _ t8 ⟨σ8, H8, K8, hw8, q8⟩ => ?_) bad
      refine wpAny_mono ((pts_nil (X := bX X Wo t3 H3 scope be fp)).run _ t8 σ8 H8 _ K8 q8) (fun b t9 ⟨H9, K9, q9⟩ => ?_) bad
      have more : ∀ {t : Shared} {G : Hp}, Inv (bX X Wo t3 H3 scope be fp) ([] ++ pinsAt fp t7.heap) σ8 G t → Nx G → ∃ m, m < n ∧ ∃ i G, Inv (bX X Wo t3 H3 scope be fp) [] (wipe σ (own.map (·.2))) G t ∧ tn i t.heap ∧ (∀ b ∈ fp, G b = none) ∧ W i m G := fun {t G} J nx => by
        obtain ⟨m', hm, w'⟩ := hNx G nx
        have kept : ∀ b ∈ fp, ∀ o, t7.heap.get? b = some o → t.heap.get? b = some o ∧ G b = none := fun b hb o q =>
          let z := J.pin (b, o) (List.mem_append_right _ (List.mem_append_right _ (mem_pinsAt hb q)))
          ⟨z.1, z.2.1⟩
        refine ⟨m', hm, i + 1, G, (J.unpinned (pins := [])).weak (by rw [← hw8, wipe_length]) (fun j v q => ?_), T.keep _ _ _ st7 fun b hb o q => (kept b hb o q).1, fun b hb => ?_, w'⟩
        · rw [← hw8] at q
          exact (wipe_some q).1
        · obtain ⟨o, q, _⟩ := T.obj _ _ st7 b hb
          exact (kept b hb o q).2
      cases b with
      | false =>
        simp only [Bool.false_eq_true, if_false] at q9 ⊢
        exact more K9 q9
      | true =>
        simp only [if_true] at q9 ⊢
        refine wpAny_mono (pe.run _ t9 σ8 H9 _ K9 q9) (fun z tA ⟨yv, HA, KA, rA, acc, dA, zA, nx⟩ => ?_) bad
        exact app_ok (X := bX X Wo t3 H3 scope be fp) KA dA zA rA fun tB KB => more KB nx
  exact codeAny_compStart_list loop (T.self X.A 0 _ _ _ st4 loop)
theorem ps_setLcX {i : Nat} {y : Str} {py : Pos} {elt tg iter : Expr} {scope : Scope} {own : List (Str × Nat)} {pos spos : Pos} {wi : TI} {g : TG} {te : TE} (hs : X.stack = X.env :: X.outer) (hf : X.env.frame = some X.env.locals) (tk : Takes X (fun cls d _ H => Wo cls d H))
    (hc : X.calm = true) (hN : X.N.Nodup) (hy : X.N[i]? = some y) (hyl : X.env.scope.names.lookup y = some .local)
    (hsw : swapsWith (.ListComp elt [⟨tg, iter, [], 0⟩] scope pos) (some (.Name y py)) spos.line X.env = pure true) (hi : PI X tg iter wi) (ok : BlkOk X.N X.env.scope scope own)
    (hg : ∀ (s : Shared) (H : Hp) (C : Addr) (cl : List (Str × Addr)) (fp : List Addr), PG (bX X Wo s H scope (compEnvC scope cl C X.env) fp) tg g)
    (he : ∀ (s : Shared) (H : Hp) (C : Addr) (cl : List (Str × Addr)) (fp : List Addr), PE (bX X Wo s H scope (compEnvC scope cl C X.env) fp) elt te) (hz : ∀ x, foldedSetIterable iter X.env x = pure x := by intro _; rfl) :
    PS X (.Assign [.Name y py] (.ListComp elt [⟨tg, iter, [], 0⟩] scope pos) spos) (tAsg (tLc wi g tYes te (own.map (·.2))) (gName i)) := by
  refine ⟨fun pins s σ H D I h => ?_⟩
  rw [exec_Assign_Name_used _ _ _ _ hsw]
  refine wpAny_bind (wpAny_standAt (wpAny_bind ?_))
  have h' : tLc wi g tYes te (own.map (·.2)) σ H (fun v G => gName i v σ G D.nx) := h
  show wpAny _ X.A (do let _ ← comprehension (.ListComp elt [⟨tg, iter, [], 0⟩] scope pos) scope X.env (firstIterPos [⟨tg, iter, [], 0⟩] pos) (newList []) false (eval iter X.env) (some (assign (.Name y py) X.env))) _ _ s
  refine wpAny_bind (thn (lcX_core (Qf := fun _ t => SP X pins D .next t) hs hf tk hc hN I hi ok hg he hz h' fun L C t m G J q hn fC => ?_) fun _ _ z => wpAny_pure (wpAny_pure z))
  obtain ⟨f0, f1, f2, f3, f4, f5⟩ := fC
  show wpAny _ _ (assign (.Name y py) X.env (.ref L)) _ _ _
  refine wpAny_assign_Name (store_ok2 (v := V.ref L) J hN hy (.inl hyl) rfl (fun t2 J2 ⟨b, sb, hb⟩ => ?_) (.inr hyl))
  have ne : C ≠ b := fun z => hb.elim (fun e => f1 (z.trans e)) fun e => f4 y b e z.symm
  exact ⟨m, hn.sameBut sb ne, fun h3 sb3 => ⟨_, G, J2.turned (t' := t2.toks) (fun c o hcn e => (sb3.2 c hcn).trans e) f0 f1 f3 f4 f5, q⟩⟩
end
end Dw
namespace Dw
open PySem L2 Dv
open Rep (rp)
section
variable {α β : Type} [Rep α] [Rep β] {cl : Er → Value} {W : WX} {σ : L2.St} {F H : Hp}
theorem ex_lc {wi : TI} {g : TG} {te : TE} {vs : List Nat} {mi : Option (List α)} {f : α → Rs β} (ei : EI wi σ F H mi) (hW : ∀ c d σ1 σ2 G, W c d σ1 G → W c d σ2 G)
    (hg : ∀ x v F1 H1 (Q : L2.St → Hp → Prop), Lat F H F1 H1 → rp x v F1 → (∀ σ2, wipe σ2 vs = wipe σ vs → EX cl W te σ2 F1 H1 (f x) → Q σ2 H1) → g v (wipe σ vs) H1 Q) :
    EX cl W (tLc wi g tYes te vs) σ F H (mi.bind fun xs => lcX f xs) := fun F1 H1 l y e Q q qe => by
  obtain ⟨xs, exs, e⟩ := Option.bind_eq_some_iff.mp e
  unfold lcX at e
  split at e
  · rename_i hlen
    refine ei F1 H1 l xs exs _ fun J F2 H2 l2 wk D hD => ?_
    have fD : F2 D = none := l2.fh.free hD
    refine ⟨fun i m G => m = xs.length - i ∧ i ≤ xs.length ∧ ∃ (acc : List V) (as : List β) (r : Except Er (List β)) (F' : Hp), Lat F2 H2 F' G ∧ F' D = none ∧ G D = some (.lst acc) ∧ rpL as acc F' ∧ as.length ≤ i ∧ lcGX f (xs.drop i) = some r ∧ y = onto as r,
      ⟨xs.length, by simp, Nat.zero_le _, [], [], y, F2, .made l2.fh hD, fD, upd_same, trivial, Nat.zero_le _, by simpa using e, by cases y <;> rfl⟩, ?_⟩
    rintro i m G ⟨rfl, hi, acc, as, r, F', l3, f3, h3, r3, len3, e3, ey⟩
    have s1 := l3.f
    have s2 := l3.fh
    by_cases hlt : i < xs.length
    · have ex : xs[i]? = some xs[i] := by simp [hlt]
      rw [List.drop_eq_getElem_cons hlt] at e3
      obtain ⟨y1, e4, e5⟩ := Option.bind_eq_some_iff.mp (show (f xs[i]).bind (fun y => exB y fun z => (lcGX f (xs.drop (i + 1))).bind fun w => exB w fun zs => some (.ok (z :: zs))) = some r from e3)
      refine .inr ⟨wk.go i _ G ex (s1.trans s2), fun G' => i + 1 ≤ xs.length ∧ ∃ (acc : List V) (as : List β) (r : Except Er (List β)) (F' : Hp), Lat F2 H2 F' G' ∧ F' D = none ∧ G' D = some (.lst acc) ∧ rpL as acc F' ∧ as.length ≤ i + 1 ∧ lcGX f (xs.drop (i + 1)) = some r ∧ y = onto as r,
        fun H4 h4 => ⟨xs.length - (i + 1), by omega, rfl, h4⟩, fun v H4 yl => ?_⟩
      obtain ⟨F4, l4, rv⟩ := wk.yld i _ G v H4 ex (s1.trans s2) yl F' s1 s2
      have lAll := (l2.trans l3).trans l4
      refine hg _ v F4 H4 _ (l.trans lAll) rv fun σ2 hw he => ⟨hw, ?_⟩
      simp only [tYes, ↓reduceIte]
      have hD4 : H4 D = some (.lst acc) := l4.h _ _ h3
      have fD4 : F4 D = none := l4.nwl h3 f3
      refine he F4 H4 (.refl l4.fh) y1 e4 _ (fun z ez w F6 H6 l6 rw' => ?_) (fun er ee F6 H6 l6 => ?_)
      · subst ez
        obtain ⟨r2, e6, e7⟩ := Option.bind_eq_some_iff.mp (show ((lcGX f (xs.drop (i + 1))).bind fun w => exB w fun zs => some (.ok (z :: zs))) = some r from e5)
        have fD6 : F6 D = none := l6.nwl hD4 fD4
        refine ⟨acc, l6.h _ _ hD4, sz_lt (by rw [r3.length]; omega), hlt, acc ++ [w], as ++ [z], r2, F6, ((l3.trans l4).trans l6).put hD fD6, fD6, upd_same, rpL.append (rpL.mono (l4.f.trans l6.f) r3) ⟨rw', trivial⟩, ?_, e6, ?_⟩
        · rw [List.length_append, List.length_singleton]
          omega
        · rw [ey]
          cases r2 with
          | ok zs =>
            cases e7
            simp [onto]
          | error er =>
            cases e7
            rfl
      · subst ee
        cases e5
        exact hW _ _ _ _ _ (qe er ey F6 H6 (lAll.trans l6))
    · have ei : i = xs.length := by omega
      subst ei
      rw [List.drop_length] at e3
      have er : r = .ok [] := (Option.some.inj e3).symm
      subst er
      refine .inl ⟨wk.stop G (s1.trans s2), q as (by rw [ey]; simp [onto]) (.ref D) (upd F' D (.lst acc)) G ((l2.trans l3).hold (l2.h.free hD) f3 h3) ⟨D, acc, rfl, upd_same, rpL.mono (same_upd f3) r3⟩⟩
  · cases e
end
end Dw

set_option linter.all false
/-! Pure lemmas about the vocabulary. -/
namespace Q
open Dv
variable {α β S R : Type}
theorem loopR_any {f : Unit → α → Option (Stp Unit R)} (bad : α → Bool) (r : R) : ∀ {xs : List α}, (∀ x ∈ xs, f () x = some (if bad x = true then .ret r else .go ())) →
    loopR f () xs = some (if xs.any bad = true then .ret r else .go ())
  | [], _ => rfl
  | x :: xs, h => by
    have h1 := h x List.mem_cons_self
    have h2 := loopR_any bad r fun y hy => h y (List.mem_cons_of_mem _ hy)
    show (f () x).bind _ = _
    rw [h1]
    cases hb : bad x
    · simp [hb, h2]
    · simp [hb]
theorem loopG_inv {f : S → α → Option S} (I : List α → S → Prop) : ∀ {xs : List α} {pre : List α} {s : S}, I pre s →
    (∀ pre x s, I pre s → x ∈ xs → ∃ s', f s x = some s' ∧ I (pre ++ [x]) s') → ∃ s', loopG f s xs = some s' ∧ I (pre ++ xs) s'
  | [], pre, s, h, _ => ⟨s, rfl, by rw [List.append_nil]; exact h⟩
  | x :: xs, pre, s, h, hs => by
    obtain ⟨s1, e1, h1⟩ := hs pre x s h List.mem_cons_self
    obtain ⟨s2, e2, h2⟩ := loopG_inv I (xs := xs) h1 fun p y s i m => hs p y s i (List.mem_cons_of_mem _ m)
    refine ⟨s2, ?_, ?_⟩
    · show (f s x).bind _ = _
      rw [e1]
      exact e2
    · rw [show pre ++ x :: xs = pre ++ [x] ++ xs by simp]
      exact h2
/-- a loop that folds -/
theorem loopG_fold {f : S → α → Option S} (g : S → α → S) (I : S → Prop) : ∀ {xs : List α} {s : S}, I s → (∀ s x, I s → x ∈ xs → f s x = some (g s x) ∧ I (g s x)) → loopG f s xs = some (xs.foldl g s) ∧ I (xs.foldl g s)
  | [], s, h, _ => ⟨rfl, h⟩
  | x :: xs, s, h, hs => by
    obtain ⟨e1, h1⟩ := hs s x h List.mem_cons_self
    obtain ⟨e2, h2⟩ := loopG_fold g I (xs := xs) h1 fun s y i m => hs s y i (List.mem_cons_of_mem _ m)
    refine ⟨?_, h2⟩
    show (f s x).bind _ = _
    rw [e1]
    exact e2
theorem rng_nat {a b : Int} (h1 : -1000000 ≤ a) (h2 : a ≤ 1000000) (h3 : -1000000 ≤ b) (h4 : b ≤ 1000000) : rng a b = some ((List.range (b - a).toNat).map fun i => a + (i : Nat)) := by
  unfold rng
  rw [if_pos (by omega)]
theorem rng0 {n : Nat} (h : n ≤ 1000000) : rng 0 (n : Int) = some ((List.range n).map fun i => ((i : Nat) : Int)) := by
  rw [rng_nat (by omega) (by omega) (by omega) (by omega)]
  have e : ((n : Int) - 0).toNat = n := by omega
  rw [e]
  congr 1
  exact List.map_congr_left fun i _ => by omega
theorem mem_rng {a b : Int} {xs : List Int} (h : rng a b = some xs) (x : Int) : x ∈ xs ↔ a ≤ x ∧ x < b := by
  unfold rng at h
  split at h
  · cases h
    rw [List.mem_map]
    constructor
    · rintro ⟨i, hi, rfl⟩
      have := List.mem_range.mp hi
      omega
    · rintro ⟨h1, h2⟩
      exact ⟨(x - a).toNat, List.mem_range.mpr (by omega), by omega⟩
  · cases h
theorem atZ_nat (xs : List α) (k : Nat) : atZ xs (k : Int) = xs[k]? := by
  unfold atZ ixZ
  rw [if_pos (by omega)]
  by_cases h : k < xs.length
  · rw [if_pos (by omega)]
    simp
  · rw [if_neg (by omega)]
    simp [Nat.not_lt.mp h]
theorem atZ_get {xs : List α} {i : Int} (h0 : 0 ≤ i) (h1 : i < xs.length) : ∃ x, atZ xs i = some x ∧ xs[i.toNat]? = some x := by
  have e : ((i.toNat : Nat) : Int) = i := by omega
  have e2 := atZ_nat xs i.toNat
  rw [e] at e2
  have e3 : xs[i.toNat]? = some (xs[i.toNat]'(by omega)) := by simp
  exact ⟨_, e2.trans e3, e3⟩
theorem atZ_mem {xs : List α} {i : Int} {x : α} (h : atZ xs i = some x) : x ∈ xs := by
  unfold atZ at h
  obtain ⟨j, _, e⟩ := Option.bind_eq_some_iff.mp h
  exact List.mem_of_getElem? e
theorem lcG_all {c : α → Option Bool} {f : α → Option β} (p : α → Bool) (g : α → β) : ∀ {xs : List α}, (∀ x ∈ xs, c x = some (p x)) → (∀ x ∈ xs, p x = true → f x = some (g x)) → lcG c f xs = some ((xs.filter p).map g)
  | [], _, _ => rfl
  | x :: xs, h1, h2 => by
    have e := lcG_all p g (fun y hy => h1 y (List.mem_cons_of_mem _ hy)) fun y hy => h2 y (List.mem_cons_of_mem _ hy)
    show (c x).bind _ = _
    rw [h1 x List.mem_cons_self]
    cases hp : p x
    · simp [hp, e]
    · simp [hp, e, h2 x List.mem_cons_self hp]
theorem lc_all {c : α → Option Bool} {f : α → Option β} (p : α → Bool) (g : α → β) {xs : List α} (hl : xs.length < 10000000) (h1 : ∀ x ∈ xs, c x = some (p x)) (h2 : ∀ x ∈ xs, p x = true → f x = some (g x)) : lc c f xs = some ((xs.filter p).map g) := by
  unfold lc
  rw [if_pos hl]
  exact lcG_all p g h1 h2
theorem lc_map {f : α → Option β} (g : α → β) {xs : List α} (hl : xs.length < 10000000) (h2 : ∀ x ∈ xs, f x = some (g x)) : lc (fun _ => some true) f xs = some (xs.map g) := by
  rw [lc_all (fun _ => true) g hl (fun _ _ => rfl) fun x hx _ => h2 x hx]
  rw [List.filter_eq_self.mpr fun _ _ => rfl]
theorem modZ_pos {i j : Int} (h : 0 < j) : modZ i j = some (i % j) := if_pos h
theorem divZ_pos {i j : Int} (h : 0 < j) (h2 : j < 1073741824) : divZ i j = some (i / j) := if_pos ⟨h, h2⟩
theorem mulZ_r {i j : Int} (h : -1000000000000000000 < j) (h2 : j < 1000000000000000000) : mulZ i j = some (i * j) := if_pos (.inr (by omega))
theorem mulZ_l {i j : Int} (h : -1000000000000000000 < i) (h2 : i < 1000000000000000000) : mulZ i j = some (i * j) := if_pos (.inl (by omega))
theorem addL_ok {xs : List α} {y : α} (h : xs.length < 1000000) : addL xs y = some (xs ++ [y]) := if_pos (by omega)
theorem catL_ok {xs ys : List α} (h : xs.length + ys.length < 1000000) : catL xs ys = some (xs ++ ys) := if_pos (by omega)
theorem emod_bd (a : Int) {b : Int} (h : 0 < b) : 0 ≤ a % b ∧ a % b < b := ⟨Int.emod_nonneg _ (by omega), Int.emod_lt_of_pos _ h⟩
theorem cutZ_len (xs : List α) (lo hi : Option Int) : (cutZ xs lo hi).length ≤ xs.length := by
  unfold cutZ
  rw [List.length_take, List.length_drop]
  omega
theorem cutIx_nat (n d k : Nat) : cutIx n d (some (k : Int)) = min k n := by
  show (if (k : Int) < 0 then ((k : Int) + (n : Int)).toNat else min (k : Int).toNat n) = _
  rw [if_neg (by omega)]
  simp
theorem cutZ_upto (xs : List α) (k : Nat) : cutZ xs none (some (k : Int)) = xs.take k := by
  unfold cutZ
  rw [cutIx_nat]
  show List.take (min k xs.length - 0) (xs.drop 0) = _
  rw [List.drop_zero, Nat.sub_zero]
  by_cases h : k ≤ xs.length
  · rw [Nat.min_eq_left h]
  · rw [Nat.min_eq_right (by omega), List.take_of_length_le (Nat.le_refl _), List.take_of_length_le (by omega)]
theorem cutZ_from (xs : List α) (k : Nat) : cutZ xs (some (k : Int)) none = xs.drop k := by
  unfold cutZ
  rw [cutIx_nat]
  show List.take (xs.length - min k xs.length) _ = _
  rw [List.take_of_length_le (by rw [List.length_drop]; omega)]
  by_cases h : k ≤ xs.length
  · rw [Nat.min_eq_left h]
  · rw [Nat.min_eq_right (by omega), List.drop_of_length_le (Nat.le_refl _), List.drop_of_length_le (by omega)]
end Q
namespace Q
open Dv
variable {α β S R : Type}
/-- a loop by what is still to come -/
theorem loopG_rem {f : S → α → Option S} (I : List α → S → Prop) : ∀ {xs : List α} {s : S}, I xs s → (∀ x rest s, I (x :: rest) s → ∃ s', f s x = some s' ∧ I rest s') → ∃ s', loopG f s xs = some s' ∧ I [] s'
  | [], s, h, _ => ⟨s, rfl, h⟩
  | x :: xs, s, h, hs => by
    obtain ⟨s1, e1, h1⟩ := hs x xs s h
    obtain ⟨s2, e2, h2⟩ := loopG_rem I (xs := xs) h1 hs
    refine ⟨s2, ?_, h2⟩
    show (f s x).bind _ = _
    rw [e1]
    exact e2
theorem rng_lt {a b : Int} {xs : List Int} (h : rng a b = some xs) : xs.Pairwise (· < ·) := by
  unfold rng at h
  split at h
  · cases h
    rw [List.pairwise_map]
    exact List.Pairwise.imp (fun {i j} h => by omega) List.pairwise_lt_range
  · cases h
theorem pairwise_adj {r : α → α → Prop} (tr : ∀ a b c, r a b → r b c → r a c) : ∀ {l : List α}, (∀ k a b, l[k]? = some a → l[k + 1]? = some b → r a b) → l.Pairwise r
  | [], _ => .nil
  | [x], _ => by simp
  | x :: y :: l, h => by
    have ih := pairwise_adj tr (l := y :: l) fun k a b h1 h2 => h (k + 1) a b (by simpa using h1) (by simpa using h2)
    have h0 : r x y := h 0 x y rfl rfl
    refine List.pairwise_cons.mpr ⟨fun z hz => ?_, ih⟩
    rcases List.mem_cons.mp hz with rfl | hz
    · exact h0
    · exact tr _ _ _ h0 ((List.pairwise_cons.mp ih).1 z hz)
theorem pairwise_get {r : α → α → Prop} {l : List α} (h : l.Pairwise r) {i j : Nat} {a b : α} (hij : i < j) (ha : l[i]? = some a) (hb : l[j]? = some b) : r a b := by
  obtain ⟨h1, rfl⟩ := List.getElem?_eq_some_iff.mp ha
  obtain ⟨h2, rfl⟩ := List.getElem?_eq_some_iff.mp hb
  exact List.pairwise_iff_getElem.mp h i j h1 h2 hij
end Q
namespace Q
open Dv
variable {α β S R : Type}
/-- a loop that folds, by what is still to come -/
theorem loopG_fr {f : S → α → Option S} (g : S → α → S) (I : List α → S → Prop) : ∀ {xs : List α} {s : S}, I xs s → (∀ x rest s, I (x :: rest) s → f s x = some (g s x) ∧ I rest (g s x)) → loopG f s xs = some (xs.foldl g s) ∧ I [] (xs.foldl g s)
  | [], s, h, _ => ⟨rfl, h⟩
  | x :: xs, s, h, hs => by
    obtain ⟨e1, h1⟩ := hs x xs s h
    obtain ⟨e2, h2⟩ := loopG_fr g I (xs := xs) h1 hs
    refine ⟨?_, h2⟩
    show (f s x).bind _ = _
    rw [e1]
    exact e2
theorem loopG_eq {f : S → α → Option S} (g : S → α → S) {xs : List α} {s : S} (h : ∀ s x, x ∈ xs → f s x = some (g s x)) : loopG f s xs = some (xs.foldl g s) :=
  (loopG_fold g (fun _ => True) (xs := xs) (s := s) trivial fun s x _ hx => ⟨h s x hx, trivial⟩).1
end Q
namespace Q
open Dv
variable {α β S R : Type}
/-- ends, with such an answer -/
def Ok (m : Option α) (P : α → Prop) : Prop := ∃ x, m = some x ∧ P x
theorem Ok.mk {x : α} {P : α → Prop} (h : P x) : Ok (some x) P := ⟨x, rfl, h⟩
theorem Ok.imp {m : Option α} {P P' : α → Prop} (h : Ok m P) (k : ∀ x, P x → P' x) : Ok m P' := h.elim fun x h => ⟨x, h.1, k x h.2⟩
theorem Ok.of {m : Option α} {x : α} {P : α → Prop} (e : m = some x) (h : P x) : Ok m P := ⟨x, e, h⟩
theorem Ok.bind {m : Option α} {f : α → Option β} {P : α → Prop} {P' : β → Prop} (h : Ok m P) (k : ∀ x, P x → Ok (f x) P') : Ok (m.bind f) P' := by
  obtain ⟨x, e, hx⟩ := h
  obtain ⟨y, e2, hy⟩ := k x hx
  exact ⟨y, by rw [e]; exact e2, hy⟩
theorem Ok.get {m : Option α} {x : α} (h : Ok m fun y => y = x) : m = some x := h.elim fun y h => by rw [h.1, h.2]
/-- a step of a block -/
theorem stp {m : Option α} {f : α → Option β} {r : Option β} (P : α → Prop) (h : Ok m P) (k : ∀ x, P x → f x = r) : m.bind f = r := by
  obtain ⟨x, e, hx⟩ := h
  rw [e]
  exact k x hx
end Q
namespace Q
open Dv
variable {α β S R : Type}
/-- a loop by places -/
theorem loopG_ix {f : S → Int → Option S} (I : Nat → S → Prop) {s : S} (h0 : I 0 s) : ∀ {N : Nat}, (∀ i s, i < N → I i s → Ok (f s (i : Int)) (I (i + 1))) → Ok (loopG f s ((List.range N).map fun i => ((i : Nat) : Int))) (I N)
  | 0, _ => ⟨s, rfl, h0⟩
  | N + 1, h => by
    have app : ∀ (xs : List Int) (s0 s1 : S) (y : Int), loopG f s0 xs = some s1 → loopG f s0 (xs ++ [y]) = f s1 y := by
      intro xs
      induction xs with
      | nil =>
        intro s0 s1 y e
        cases e
        show (f s0 y).bind _ = _
        cases f s0 y <;> rfl
      | cons x xs ih =>
        intro s0 s1 y e
        obtain ⟨s2, e1, e2⟩ := Option.bind_eq_some_iff.mp (show (f s0 x).bind (fun s' => loopG f s' xs) = some s1 from e)
        show (f s0 x).bind (fun s' => loopG f s' (xs ++ [y])) = _
        rw [e1]
        exact ih s2 s1 y e2
    obtain ⟨s1, e1, i1⟩ := loopG_ix I h0 (N := N) fun i s hi => h i s (by omega)
    rw [List.range_succ, List.map_append, List.map_singleton]
    obtain ⟨s2, e2, i2⟩ := h N s1 (by omega) i1
    exact ⟨s2, by rw [app _ _ _ _ e1, e2], i2⟩
end Q
namespace Q
open Dv
/-- what holds of a turn's end -/
def StpP {S ρ : Type} (I : S → Prop) (Pr : ρ → Prop) : Stp S ρ → Prop
  | .go s => I s
  | .ret r => Pr r
theorem loopR_pre {α S ρ : Type} {f : S → α → Option (Stp S ρ)} (I : Nat → S → Prop) (Pr : ρ → Prop) : ∀ {xs : List α} {k : Nat} {s : S}, I k s → (∀ i s x, k ≤ i → xs[i - k]? = some x → I i s → Ok (f s x) (StpP (I (i + 1)) Pr)) →
    Ok (loopR f s xs) (StpP (I (k + xs.length)) Pr)
  | [], k, s, h, _ => ⟨.go s, rfl, h⟩
  | x :: xs, k, s, h, hs => by
    obtain ⟨st, e, hst⟩ := hs k s x (Nat.le_refl _) (by simp) h
    cases st with
    | go s1 =>
      obtain ⟨st2, e2, h2⟩ := loopR_pre I Pr (xs := xs) (k := k + 1) (s := s1) hst fun i s y hi hy hI => hs i s y (by omega) (by
        have : i - k = i - (k + 1) + 1 := by omega
        rw [this]
        simpa using hy) hI
      refine ⟨st2, ?_, by rw [List.length_cons, show k + (xs.length + 1) = k + 1 + xs.length by omega]; exact h2⟩
      show (f s x).bind _ = _
      rw [e]
      exact e2
    | ret r =>
      refine ⟨.ret r, ?_, hst⟩
      show (f s x).bind _ = _
      rw [e]
      rfl
theorem loopR_ix {S ρ : Type} {f : S → Int → Option (Stp S ρ)} (I : Nat → S → Prop) (Pr : ρ → Prop) {N : Nat} {s : S} (h0 : I 0 s) (hs : ∀ i s, i < N → I i s → Ok (f s (i : Int)) (StpP (I (i + 1)) Pr)) :
    Ok (loopR f s ((List.range N).map fun i => ((i : Nat) : Int))) (StpP (I N) Pr) := by
  have := loopR_pre (f := f) I Pr (xs := (List.range N).map fun i => ((i : Nat) : Int)) (k := 0) h0 fun i s x _ hx hI => by
    rw [Nat.sub_zero, List.getElem?_map] at hx
    by_cases c : i < N
    · rw [List.getElem?_range c] at hx
      cases hx
      exact hs i s c hI
    · rw [List.getElem?_eq_none (by simpa using c)] at hx
      cases hx
  simpa using this
end Q

set_option linter.all false
/-! Webs: drawn by a law, and looked at. -/
namespace Q
open Dv
def is_web (points : Int) (ties : List (Int × Int)) : Option Bool :=
  ((if (decide (points < 0)) = true then some true else (if (decide (7 < points)) = true then some true else some (decide (12 < (ties.length : Int)))))).bind fun b1 => if b1 = true then
    some false
  else
  (rng 0 (ties.length : Int)).bind fun xs2 => (loopR (S := Unit) (R := Bool) (fun (s3 : Unit) (q4 : Int) =>
      (atZ ties q4).bind fun p8 =>
      ((if (decide (p8.1 < 0)) = true then some true else (if (decide (p8.2 ≤ p8.1)) = true then some true else some (decide (points ≤ p8.2))))).bind fun b9 => if b9 = true then
        (some false).bind fun y10 => some (.ret y10)
      else
      ((if (decide (0 < q4)) = true then (atZ ties q4).bind fun y11 => (atZ ties (q4 - 1)).bind fun y12 => some (leP y11 y12) else some false)).bind fun b13 => if b13 = true then
        (some false).bind fun y14 => some (.ret y14)
      else
      some (.go ())) () xs2).bind fun st5 => st5.elim (fun s6 =>
  some true) (fun y7 => some y7)
def cell_at (script : List Int) (k : Int) : Option Int :=
  (some (decide (k < (script.length : Int)))).bind fun b15 => if b15 = true then
    atZ script k
  else
  some 0
def next (seed : Int) : Option Int :=
  ((mulZ seed 48271).bind fun y17 => some (y17 + 12345)).bind fun y18 => modZ y18 2147483647
def web_by (script : List Int) (k : Int) (most : Int) (cap : Int) : Option (Int × (List (Int × Int))) :=
  ((cell_at script k).bind fun y19 => modZ y19 (most + 1)).bind fun points_20 =>
  (((cell_at script (k + 1)).bind fun y21 => some (y21, ())).bind fun a22 => next a22.1).bind fun seed_23 =>
  (((cell_at script (k + 2)).bind fun y24 => modZ y24 4).bind fun y25 => some (1 + y25)).bind fun thick_26 =>
  (some []).bind fun ties_27 =>
  (rng 0 points_20).bind fun xs28 => (loopG (S := Int × (List (Int × Int))) (fun (s29 : Int × (List (Int × Int))) (q30 : Int) =>
      (rng (q30 + 1) points_20).bind fun xs34 => (loopG (S := Int × (List (Int × Int))) (fun (s35 : Int × (List (Int × Int))) (q36 : Int) =>
          ((
            ((((divZ s35.1 16).bind fun y45 => modZ y45 4).bind fun y46 => some (decide (y46 < thick_26))).bind fun y47 => (if y47 = true then some (decide ((s35.2.length : Int) < cap)) else some false)).bind fun b48 => if b48 = true then
              (addL s35.2 (q30, q36)).bind fun ties_49 =>
              some ties_49
            else
              some s35.2 : Option ((List (Int × Int))))).bind fun s44 =>
          (next s35.1).bind fun seed_50 =>
          some (seed_50, s44)) (s29.1, s29.2) xs34).bind fun s38 =>
      some (s38.1, s38.2)) (seed_23, ties_27) xs28).bind fun s32 =>
  some (points_20, s32.2)
/-- the order of ties -/
def ltT (a b : Int × Int) : Prop := a.1 < b.1 ∨ (a.1 = b.1 ∧ a.2 < b.2)
instance (a b : Int × Int) : Decidable (ltT a b) := inferInstanceAs (Decidable (_ ∨ _))
theorem ltT_trans (a b c : Int × Int) (h1 : ltT a b) (h2 : ltT b c) : ltT a c := by
  unfold ltT at *
  omega
theorem ltT_not_le (a b : Int × Int) : leP a b = false ↔ ltT b a := by
  unfold leP ltT
  split <;> simp only [decide_eq_false_iff_not] <;> omega
/-- a tie of p points -/
def Tie (p : Int) (t : Int × Int) : Prop := 0 ≤ t.1 ∧ t.1 < t.2 ∧ t.2 < p
instance (p : Int) (t : Int × Int) : Decidable (Tie p t) := inferInstanceAs (Decidable (_ ∧ _ ∧ _))
structure Ties (p : Int) (ts : List (Int × Int)) : Prop where
  tie : ∀ t ∈ ts, Tie p t
  ord : ts.Pairwise ltT
instance (p : Int) (ts : List (Int × Int)) : Decidable (Ties p ts) := decidable_of_iff ((∀ t ∈ ts, Tie p t) ∧ ts.Pairwise ltT) ⟨fun h => ⟨h.1, h.2⟩, fun h => ⟨h.1, h.2⟩⟩
def Web (p : Int) (ts : List (Int × Int)) : Prop := (0 ≤ p ∧ p ≤ 7) ∧ ts.length ≤ 12 ∧ Ties p ts
instance (p : Int) (ts : List (Int × Int)) : Decidable (Web p ts) := inferInstanceAs (Decidable (_ ∧ _ ∧ _))
def badAt (p : Int) (ts : List (Int × Int)) (k : Int) : Bool := match atZ ts k with
  | some t => decide (¬ Tie p t) || (decide (0 < k) && match atZ ts (k - 1) with
    | some u => leP t u
    | none => false)
  | none => false
theorem is_web_eq (p : Int) (ts : List (Int × Int)) (h : ts.length ≤ 1000) : is_web p ts = some (decide (Web p ts)) := by
  unfold is_web
  by_cases c : (p < 0 ∨ 7 < p) ∨ 12 < ts.length
  · have n : ¬ Web p ts := fun ⟨h1, h2, _⟩ => by omega
    have e : (if decide (p < 0) = true then some true else if decide (7 < p) = true then some true else some (decide (12 < (ts.length : Int)))) = some true := by
      by_cases h1 : p < 0
      · simp [h1]
      · by_cases h2 : 7 < p
        · simp [h1, h2]
        · have : 12 < (ts.length : Int) := by omega
          simp [h1, h2, this]
    rw [e, Option.bind_some, if_pos rfl, decide_eq_false n]
  · have e : (if decide (p < 0) = true then some true else if decide (7 < p) = true then some true else some (decide (12 < (ts.length : Int)))) = some false := by
      have h1 : ¬ p < 0 := by omega
      have h2 : ¬ 7 < p := by omega
      have h3 : ¬ 12 < (ts.length : Int) := by omega
      simp [h1, h2, h3]
    rw [e, Option.bind_some, if_neg Bool.false_ne_true, rng0 (by omega), Option.bind_some]
    rw [loopR_any (badAt p ts) false]
    · have key : ((List.range ts.length).map fun i => ((i : Nat) : Int)).any (badAt p ts) = decide (¬ Web p ts) := by
        rw [Bool.eq_iff_iff, List.any_eq_true, decide_eq_true_iff]
        constructor
        · rintro ⟨k, hk, hb⟩ ⟨_, _, w⟩
          obtain ⟨i, hi, rfl⟩ := List.mem_map.mp hk
          have hi := List.mem_range.mp hi
          unfold badAt at hb
          rw [atZ_nat] at hb
          have ei : ts[i]? = some ts[i] := by simp [hi]
          rw [ei] at hb
          simp only [Bool.or_eq_true, decide_eq_true_eq, Bool.and_eq_true] at hb
          rcases hb with hb | ⟨h0, hb⟩
          · exact hb (w.tie _ (List.mem_of_getElem? ei))
          · have e1 : ((i : Int) - 1) = ((i - 1 : Nat) : Int) := by omega
            rw [e1, atZ_nat] at hb
            have ej : ts[i - 1]? = some (ts[i - 1]'(by omega)) := by simp
            rw [ej] at hb
            have := (ltT_not_le _ _).mpr (pairwise_get w.ord (show i - 1 < i by omega) ej ei)
            dsimp only at hb
            rw [this] at hb
            cases hb
        · intro nw
          refine Decidable.byContradiction fun no => nw ⟨by omega, by omega, ?_⟩
          have all : ∀ i, i < ts.length → badAt p ts (i : Int) = false := fun i hi => by
            refine Bool.eq_false_iff.mpr fun q => no ⟨(i : Int), List.mem_map.mpr ⟨i, List.mem_range.mpr hi, rfl⟩, q⟩
          refine ⟨fun t ht => ?_, pairwise_adj ltT_trans fun k a b ha hb => ?_⟩
          · obtain ⟨i, hi⟩ := List.mem_iff_getElem?.mp ht
            have hl := (List.getElem?_eq_some_iff.mp hi).1
            have q := all i hl
            unfold badAt at q
            rw [atZ_nat, hi] at q
            simp only [Bool.or_eq_false_iff, decide_eq_false_iff_not, Decidable.not_not] at q
            exact q.1
          · have hl := (List.getElem?_eq_some_iff.mp hb).1
            have q := all (k + 1) hl
            unfold badAt at q
            rw [atZ_nat, hb] at q
            have e1 : (((k + 1 : Nat) : Int) - 1) = ((k : Nat) : Int) := by omega
            simp only [e1, atZ_nat, ha, Bool.or_eq_false_iff, Bool.and_eq_false_iff, decide_eq_false_iff_not] at q
            refine (ltT_not_le _ _).mp ?_
            rcases q.2 with q | q
            · omega
            · exact q
      rw [key]
      by_cases w : Web p ts
      · simp [w]
      · simp [w]
    · intro k hk
      obtain ⟨i, hi, rfl⟩ := List.mem_map.mp hk
      have hi := List.mem_range.mp hi
      obtain ⟨t, ei⟩ : ∃ t, ts[i]? = some t := ⟨ts[i], by simp [hi]⟩
      unfold badAt
      rw [atZ_nat, ei, Option.bind_some]
      by_cases ht : Tie p t
      · obtain ⟨h1, h2, h3⟩ := id ht
        have g1 : ¬ t.1 < 0 := by omega
        have g2 : ¬ t.2 ≤ t.1 := by omega
        have g3 : ¬ p ≤ t.2 := by omega
        simp only [g1, g2, g3, decide_false, Bool.false_eq_true, ↓reduceIte, Option.bind_some, ht, not_true_eq_false, Bool.false_or]
        by_cases h0 : 0 < (i : Int)
        · have e1 : ((i : Int) - 1) = ((i - 1 : Nat) : Int) := by omega
          have ej : ts[i - 1]? = some (ts[i - 1]'(by omega)) := by simp
          simp only [h0, decide_true, ↓reduceIte, e1, atZ_nat, ei, ej, Option.bind_some, Bool.true_and]
          split <;> rfl
        · simp only [h0, decide_false, Bool.false_eq_true, ↓reduceIte, Option.bind_some, Bool.false_and]
      · have e2 : (if decide (t.1 < 0) = true then some true else if decide (t.2 ≤ t.1) = true then some true else some (decide (p ≤ t.2))) = some true := by
          unfold Tie at ht
          by_cases g1 : t.1 < 0
          · simp [g1]
          · by_cases g2 : t.2 ≤ t.1
            · simp [g1, g2]
            · have g3 : p ≤ t.2 := by omega
              simp [g1, g2, g3]
        rw [e2, Option.bind_some, if_pos rfl]
        simp [ht]
def cell (ns : List Int) (k : Int) : Int := ns.getD k.toNat 0
theorem cell_at_eq (ns : List Int) {k : Int} (h : 0 ≤ k) : cell_at ns k = some (cell ns k) := by
  unfold cell_at cell
  rw [Option.bind_some]
  by_cases c : k < (ns.length : Int)
  · obtain ⟨x, e1, e2⟩ := atZ_get h c
    rw [decide_eq_true c, if_pos rfl, e1, List.getD_eq_getElem?_getD, e2]
    rfl
  · rw [decide_eq_false c, if_neg Bool.false_ne_true, List.getD_eq_getElem?_getD, List.getElem?_eq_none (by omega)]
    rfl
def nxt (s : Int) : Int := (s * 48271 + 12345) % 2147483647
theorem next_eq (s : Int) : next s = some (nxt s) := by
  unfold next nxt
  rw [mulZ_r (by decide) (by decide), Option.bind_some, Option.bind_some, modZ_pos (by decide)]
/-- what a turn of the inner loop keeps -/
structure Inn (p lo : Int) (cap : Int) (rem : List Int) (s : Int × List (Int × Int)) : Prop where
  tie : ∀ t ∈ s.2, Tie p t
  ord : s.2.Pairwise ltT
  len : (s.2.length : Int) ≤ max cap 0
  small : s.2.length ≤ 100000
  lt : ∀ t ∈ s.2, t.1 < lo ∨ (t.1 = lo ∧ ∀ y ∈ rem, t.2 < y)
  rp : rem.Pairwise (· < ·)
  bd : ∀ y ∈ rem, lo < y ∧ y < p
structure Out (p : Int) (cap : Int) (rem : List Int) (s : Int × List (Int × Int)) : Prop where
  tie : ∀ t ∈ s.2, Tie p t
  ord : s.2.Pairwise ltT
  len : (s.2.length : Int) ≤ max cap 0
  small : s.2.length ≤ 100000
  lt : ∀ t ∈ s.2, ∀ x ∈ rem, t.1 < x
  rp : rem.Pairwise (· < ·)
  bd : ∀ x ∈ rem, 0 ≤ x ∧ x < p
theorem web_by_spec (ns : List Int) {k most cap : Int} (hk : 0 ≤ k) (h0 : 0 ≤ most) (h1 : most ≤ 1000) (hc : cap ≤ 1000) :
    ∃ p ts, web_by ns k most cap = some (p, ts) ∧ (0 ≤ p ∧ p ≤ most) ∧ (ts.length : Int) ≤ max cap 0 ∧ Ties p ts := by
  unfold web_by
  rw [cell_at_eq ns hk, Option.bind_some, modZ_pos (by omega), Option.bind_some, cell_at_eq ns (show 0 ≤ k + 1 by omega), Option.bind_some, Option.bind_some, next_eq, Option.bind_some, cell_at_eq ns (show 0 ≤ k + 2 by omega), Option.bind_some, modZ_pos (by decide),
    Option.bind_some, Option.bind_some, Option.bind_some]
  obtain ⟨p0, p1⟩ := emod_bd (cell ns k) (show 0 < most + 1 by omega)
  generalize cell ns k % (most + 1) = p at *
  generalize 1 + cell ns (k + 2) % 4 = thick
  rw [rng_nat (by omega) (by omega) (by omega) (by omega), Option.bind_some]
  generalize hxs : (List.range (p - 0).toNat).map (fun i => (0 : Int) + (i : Nat)) = xs
  have hx : rng 0 p = some xs := by rw [rng_nat (by omega) (by omega) (by omega) (by omega), hxs]
  have L1 := fun hs => loopG_rem (f := (fun (s29 : Int × (List (Int × Int))) (q30 : Int) =>
      (rng (q30 + 1) p).bind fun xs34 => (loopG (S := Int × (List (Int × Int))) (fun (s35 : Int × (List (Int × Int))) (q36 : Int) =>
          ((
            ((((divZ s35.1 16).bind fun y45 => modZ y45 4).bind fun y46 => some (decide (y46 < thick))).bind fun y47 => (if y47 = true then some (decide ((s35.2.length : Int) < cap)) else some false)).bind fun b48 => if b48 = true then
              (addL s35.2 (q30, q36)).bind fun ties_49 =>
              some ties_49
            else
              some s35.2 : Option ((List (Int × Int))))).bind fun s44 =>
          (next s35.1).bind fun seed_50 =>
          some (seed_50, s44)) (s29.1, s29.2) xs34).bind fun s38 =>
      some (s38.1, s38.2))) (Out p cap) (xs := xs) (s := (nxt (cell ns (k + 1)), [])) ⟨by simp, by simp, by simp; omega, by simp, by simp, rng_lt hx, fun x hx' => by
      have := (mem_rng hx x).mp hx'
      omega⟩ hs
  refine Exists.elim (L1 ?_) ?_
  rotate_left
  · rintro s' ⟨e, o⟩
    rw [e, Option.bind_some]
    exact ⟨p, s'.2, rfl, by omega, o.len, o.tie, o.ord⟩
  · intro x rest s O
    obtain ⟨bx0, bx1⟩ := O.bd x List.mem_cons_self
    have hr : rng (x + 1) p = some ((List.range (p - (x + 1)).toNat).map fun i => (x + 1) + (i : Nat)) := rng_nat (by omega) (by omega) (by omega) (by omega)
    generalize hys : (List.range (p - (x + 1)).toNat).map (fun i => (x + 1) + ((i : Nat) : Int)) = ys at hr
    rw [hr, Option.bind_some]
    have L2 := fun hs => loopG_rem (f := (fun (s35 : Int × (List (Int × Int))) (q36 : Int) =>
          ((
            ((((divZ s35.1 16).bind fun y45 => modZ y45 4).bind fun y46 => some (decide (y46 < thick))).bind fun y47 => (if y47 = true then some (decide ((s35.2.length : Int) < cap)) else some false)).bind fun b48 => if b48 = true then
              (addL s35.2 (x, q36)).bind fun ties_49 =>
              some ties_49
            else
              some s35.2 : Option ((List (Int × Int))))).bind fun s44 =>
          (next s35.1).bind fun seed_50 =>
          some (seed_50, s44))) (Inn p x cap) (xs := ys) (s := (s.1, s.2)) ⟨O.tie, O.ord, O.len, O.small, fun t ht => .inl (O.lt t ht x List.mem_cons_self), rng_lt hr, fun y hy => by
        have := (mem_rng hr y).mp hy
        omega⟩ hs
    refine Exists.elim (L2 ?_) ?_
    rotate_left
    · rintro s2 ⟨e2, o2⟩
      rw [e2, Option.bind_some]
      refine ⟨_, rfl, o2.tie, o2.ord, o2.len, o2.small, fun t ht z hz => ?_, (List.pairwise_cons.mp O.rp).2, fun z hz => O.bd z (List.mem_cons_of_mem _ hz)⟩
      have hxz := (List.pairwise_cons.mp O.rp).1 z hz
      rcases o2.lt t ht with q | ⟨q, _⟩ <;> omega
    · intro y rest2 s3 O3
      obtain ⟨by0, by1⟩ := O3.bd y List.mem_cons_self
      have rest : ∀ t ∈ s3.2, t.1 < x ∨ (t.1 = x ∧ ∀ z ∈ rest2, t.2 < z) := fun t ht => by
        rcases O3.lt t ht with q | ⟨q1, q2⟩
        · exact .inl q
        · exact .inr ⟨q1, fun z hz => q2 z (List.mem_cons_of_mem _ hz)⟩
      rw [divZ_pos (by decide) (by decide), Option.bind_some, modZ_pos (by decide), Option.bind_some, Option.bind_some, next_eq]
      by_cases c1 : s3.1 / 16 % 4 < thick
      · by_cases c2 : (s3.2.length : Int) < cap
        · simp only [c1, c2, decide_true, ↓reduceIte, Option.bind_some]
          rw [addL_ok (by have := O3.small; omega), Option.bind_some, Option.bind_some]
          refine ⟨_, rfl, fun t ht => ?_, ?_, ?_, ?_, fun t ht => ?_, (List.pairwise_cons.mp O3.rp).2, fun z hz => O3.bd z (List.mem_cons_of_mem _ hz)⟩
          · rcases List.mem_append.mp ht with ht | ht
            · exact O3.tie t ht
            · rw [List.mem_singleton.mp ht]
              exact ⟨by dsimp only; omega, by dsimp only; omega, by dsimp only; omega⟩
          · refine List.pairwise_append.mpr ⟨O3.ord, by simp, fun a ha b hb => ?_⟩
            rw [List.mem_singleton.mp hb]
            rcases O3.lt a ha with q | ⟨q1, q2⟩
            · exact .inl q
            · exact .inr ⟨q1, q2 y List.mem_cons_self⟩
          · rw [List.length_append, List.length_singleton]
            omega
          · rw [List.length_append, List.length_singleton]
            omega
          · rcases List.mem_append.mp ht with ht | ht
            · exact rest t ht
            · rw [List.mem_singleton.mp ht]
              exact .inr ⟨rfl, (List.pairwise_cons.mp O3.rp).1⟩
        · simp only [c1, c2, decide_true, decide_false, ↓reduceIte, Option.bind_some, Bool.false_eq_true]
          exact ⟨_, rfl, O3.tie, O3.ord, O3.len, O3.small, rest, (List.pairwise_cons.mp O3.rp).2, fun z hz => O3.bd z (List.mem_cons_of_mem _ hz)⟩
      · simp only [c1, decide_false, ↓reduceIte, Option.bind_some, Bool.false_eq_true]
        exact ⟨_, rfl, O3.tie, O3.ord, O3.len, O3.small, rest, (List.pairwise_cons.mp O3.rp).2, fun z hz => O3.bd z (List.mem_cons_of_mem _ hz)⟩
end Q

set_option linter.all false
namespace Q
open Dv
def good (points : Int) (ties : List (Int × Int)) : Option Bool :=
  ((((if (decide (0 ≤ points)) = true then some (decide (points ≤ 7)) else some false)).bind fun y1 => some (!y1)).bind fun y2 => (if y2 = true then some true else (if (decide (12 < (ties.length : Int))) = true then some true else some (!decide ((srt leP ties) = ties))))).bind fun b3 => if b3 = true then
    some false
  else
  (rng 0 (ties.length : Int)).bind fun xs4 => (loopR (S := Unit) (R := Bool) (fun (s5 : Unit) (q6 : Int) =>
      (((((atZ ties q6).bind fun y10 => some y10.1).bind fun y12 => (if (decide (0 ≤ y12)) = true then ((atZ ties q6).bind fun y11 => some y11.2).bind fun y13 => (if (decide (y12 < y13)) = true then some (decide (y13 < points)) else some false) else some false)).bind fun y14 => some (!y14)).bind fun y16 => (if y16 = true then some true else (atZ ties q6).bind fun y15 => some (memL y15 (cutZ ties none (some q6))))).bind fun b17 => if b17 = true then
        (some false).bind fun y18 => some (.ret y18)
      else
      some (.go ())) () xs4).bind fun st7 => st7.elim (fun s8 =>
  some true) (fun y9 => some y9)
theorem srt_id {ts : List (Int × Int)} (h : ts.Pairwise ltT) : srt leP ts = ts := by
  refine (srt_uniq ordP (.refl _) (List.Pairwise.imp (fun {a b} h => ?_) h)).symm
  unfold leP ltT at *
  split <;> simp only [decide_eq_true_eq] <;> omega
def badG (p : Int) (ts : List (Int × Int)) (k : Int) : Bool := match atZ ts k with
  | some t => decide (¬ Tie p t) || memL t (ts.take k.toNat)
  | none => false
theorem good_eq (p : Int) (ts : List (Int × Int)) (h : ts.length ≤ 1000) : good p ts = some (decide (Web p ts)) := by
  unfold good
  by_cases c : ((p < 0 ∨ 7 < p) ∨ 12 < ts.length) ∨ srt leP ts ≠ ts
  · have n : ¬ Web p ts := fun ⟨h1, h2, w⟩ => by
      rcases c with c | c
      · omega
      · exact c (srt_id w.ord)
    have e : ((if decide (0 ≤ p) = true then some (decide (p ≤ 7)) else some false).bind fun y51 => some (!y51)).bind (fun y52 => if y52 = true then some true else if decide (12 < (ts.length : Int)) = true then some true else some (!decide (srt leP ts = ts))) = some true := by
      by_cases h1 : 0 ≤ p
      · by_cases h2 : p ≤ 7
        · by_cases h3 : 12 < (ts.length : Int)
          · simp [h1, h2, h3]
          · have h4 : ¬ srt leP ts = ts := by
              rcases c with c | c
              · omega
              · exact c
            simp [h1, h2, h3, h4]
        · simp [h1, h2]
      · simp [h1]
    rw [e, Option.bind_some, if_pos rfl, decide_eq_false n]
  · have c1 : ¬ ((p < 0 ∨ 7 < p) ∨ 12 < ts.length) := fun q => c (.inl q)
    have c2 : srt leP ts = ts := Decidable.byContradiction fun q => c (.inr q)
    have e : ((if decide (0 ≤ p) = true then some (decide (p ≤ 7)) else some false).bind fun y51 => some (!y51)).bind (fun y52 => if y52 = true then some true else if decide (12 < (ts.length : Int)) = true then some true else some (!decide (srt leP ts = ts))) = some false := by
      have h1 : 0 ≤ p := by omega
      have h2 : p ≤ 7 := by omega
      have h3 : ¬ 12 < (ts.length : Int) := by omega
      simp [h1, h2, h3, c2]
    rw [e, Option.bind_some, if_neg Bool.false_ne_true, rng0 (by omega), Option.bind_some]
    have so : ts.Pairwise fun a b => leP a b = true := by
      have := srt_sorted ordP ts
      rw [c2] at this
      exact this
    rw [loopR_any (badG p ts) false]
    · have key : ((List.range ts.length).map fun i => ((i : Nat) : Int)).any (badG p ts) = decide (¬ Web p ts) := by
        rw [Bool.eq_iff_iff, List.any_eq_true, decide_eq_true_iff]
        constructor
        · rintro ⟨k, hk, hb⟩ ⟨_, _, w⟩
          obtain ⟨i, hi, rfl⟩ := List.mem_map.mp hk
          have hi := List.mem_range.mp hi
          unfold badG at hb
          rw [atZ_nat] at hb
          have ei : ts[i]? = some ts[i] := by simp [hi]
          rw [ei] at hb
          simp only [Bool.or_eq_true, decide_eq_true_eq, memL] at hb
          rcases hb with hb | hb
          · exact hb (w.tie _ (List.mem_of_getElem? ei))
          · obtain ⟨j, hj⟩ := List.mem_iff_getElem?.mp hb
            have hj1 := (List.getElem?_eq_some_iff.mp hj).1
            rw [List.length_take] at hj1
            rw [List.getElem?_take_of_lt (by omega)] at hj
            have := pairwise_get w.ord (show j < i by omega) hj ei
            unfold ltT at this
            omega
        · intro nw
          refine Decidable.byContradiction fun no => nw ⟨by omega, by omega, ?_⟩
          have all : ∀ i, i < ts.length → badG p ts (i : Int) = false := fun i hi => by
            refine Bool.eq_false_iff.mpr fun q => no ⟨(i : Int), List.mem_map.mpr ⟨i, List.mem_range.mpr hi, rfl⟩, q⟩
          refine ⟨fun t ht => ?_, List.pairwise_iff_getElem.mpr fun i j hi hj hij => ?_⟩
          · obtain ⟨i, hi⟩ := List.mem_iff_getElem?.mp ht
            have hl := (List.getElem?_eq_some_iff.mp hi).1
            have q := all i hl
            unfold badG at q
            rw [atZ_nat, hi] at q
            simp only [Bool.or_eq_false_iff, decide_eq_false_iff_not, Decidable.not_not] at q
            exact q.1
          · have q := all j hj
            unfold badG at q
            have ej : ts[j]? = some ts[j] := by simp [hj]
            rw [atZ_nat, ej] at q
            simp only [Bool.or_eq_false_iff, memL, decide_eq_false_iff_not] at q
            have le := List.pairwise_iff_getElem.mp so i j hi hj hij
            have ne : ts[i] ≠ ts[j] := fun z => q.2 (by
              rw [← z]
              refine List.mem_iff_getElem?.mpr ⟨i, ?_⟩
              rw [List.getElem?_take_of_lt (by omega)]
              simp [hi])
            have ne2 : ¬ ((ts[i]).1 = (ts[j]).1 ∧ (ts[i]).2 = (ts[j]).2) := fun z => ne (Prod.ext z.1 z.2)
            unfold leP at le
            unfold ltT
            split at le <;> simp only [decide_eq_true_eq] at le <;> omega
      rw [key]
      by_cases w : Web p ts
      · simp [w]
      · simp [w]
    · intro k hk
      obtain ⟨i, hi, rfl⟩ := List.mem_map.mp hk
      have hi := List.mem_range.mp hi
      obtain ⟨t, ei⟩ : ∃ t, ts[i]? = some t := ⟨ts[i], by simp [hi]⟩
      unfold badG
      rw [atZ_nat, ei]
      simp only [Option.bind_some, cutZ_upto, Int.toNat_natCast]
      have e2 : (if decide (0 ≤ t.1) = true then if decide (t.1 < t.2) = true then some (decide (t.2 < p)) else some false else some false) = some (decide (Tie p t)) := by
        unfold Tie
        by_cases g1 : 0 ≤ t.1 <;> by_cases g2 : t.1 < t.2 <;> by_cases g3 : t.2 < p <;> simp [g1, g2, g3]
      rw [e2]
      by_cases ht : Tie p t
      · simp only [ht, decide_true, Option.bind_some, Bool.not_true, Bool.false_eq_true, ↓reduceIte, not_true_eq_false, decide_false, Bool.false_or]
        split <;> rfl
      · simp [ht]
end Q

set_option linter.all false
/-! Lists told and lists due. -/
namespace Q
open Dv
def ties_like (found : List (Int × Int)) (due : List (Int × Int)) : Option Bool :=
  ((if (!true) = true then some true else some (!decide ((found.length : Int) = (due.length : Int))))).bind fun b1 => if b1 = true then
    some false
  else
  (some (found.zip due)).bind fun xs2 => (loopR (S := Unit) (R := Bool) (fun (s3 : Unit) (q4 : (Int × Int) × (Int × Int)) =>
      ((if (!true) = true then some true else (if (!decide (2 = 2)) = true then some true else some (!decide (q4.1 = q4.2))))).bind fun b8 => if b8 = true then
        (some false).bind fun y9 => some (.ret y9)
      else
      (some [q4.1.1, q4.1.2]).bind fun xs10 => (loopR (S := Unit) (R := Bool) (fun (s11 : Unit) (q12 : Int) =>
          ((if (!true) = true then some true else some false)).bind fun b16 => if b16 = true then
            (some false).bind fun y17 => some (.ret y17)
          else
          some (.go ())) () xs10).bind fun st13 => st13.elim (fun s14 =>
      some (.go ())) (fun y15 => some (.ret y15))) () xs2).bind fun st5 => st5.elim (fun s6 =>
  some true) (fun y7 => some y7)
def numbers_like (found : List Int) (due : List Int) : Option Bool :=
  ((if (!true) = true then some true else some (!decide ((found.length : Int) = (due.length : Int))))).bind fun b1 => if b1 = true then
    some false
  else
  (some (found.zip due)).bind fun xs2 => (loopR (S := Unit) (R := Bool) (fun (s3 : Unit) (q4 : Int × Int) =>
      ((if (!true) = true then some true else (if false = true then some true else some (!decide (q4.1 = q4.2))))).bind fun b8 => if b8 = true then
        (some false).bind fun y9 => some (.ret y9)
      else
      some (.go ())) () xs2).bind fun st5 => st5.elim (fun s6 =>
  some true) (fun y7 => some y7)
theorem zip_any {α : Type} [DecidableEq α] : ∀ {xs ys : List α}, xs.length = ys.length → (xs.zip ys).any (fun q => !decide (q.1 = q.2)) = !decide (xs = ys)
  | [], [], _ => rfl
  | x :: xs, y :: ys, h => by
    rw [List.zip_cons_cons, List.any_cons, zip_any (xs := xs) (ys := ys) (by simpa using h)]
    by_cases e : x = y <;> simp [e]
  | [], _ :: _, h => by simp at h
  | _ :: _, [], h => by simp at h
theorem ties_like_eq (xs ys : List (Int × Int)) : ties_like xs ys = some (decide (xs = ys)) := by
  unfold ties_like
  by_cases h : xs.length = ys.length
  · have h' : (xs.length : Int) = (ys.length : Int) := by omega
    simp only [h', Bool.not_true, Bool.false_eq_true, ↓reduceIte, decide_true, Option.bind_some]
    rw [loopR_any (fun q => !decide (q.1 = q.2)) false, zip_any h, Option.bind_some]
    · by_cases e : xs = ys <;> simp [e]
    · intro q _
      by_cases e : q.1 = q.2
      · simp [e, loopR]
      · simp [e]
  · have h' : ¬ (xs.length : Int) = (ys.length : Int) := by omega
    have h2 : xs ≠ ys := fun e => h (by rw [e])
    simp [h', h2]
theorem numbers_like_eq (xs ys : List Int) : numbers_like xs ys = some (decide (xs = ys)) := by
  unfold numbers_like
  by_cases h : xs.length = ys.length
  · have h' : (xs.length : Int) = (ys.length : Int) := by omega
    simp only [h', Bool.not_true, Bool.false_eq_true, ↓reduceIte, decide_true, Option.bind_some]
    rw [loopR_any (fun q => !decide (q.1 = q.2)) false, zip_any h, Option.bind_some]
    · by_cases e : xs = ys <;> simp [e]
    · intro q _
      by_cases e : q.1 = q.2
      · simp [e]
      · simp [e]
  · have h' : ¬ (xs.length : Int) = (ys.length : Int) := by omega
    have h2 : xs ≠ ys := fun e => h (by rw [e])
    simp [h', h2]
end Q

set_option linter.all false
/-! Texts: figures, words, texts parted and joined. -/
namespace Q
open Dv
/-- the sign of a figure -/
def fg (n : Int) : Nat := 48 + n.toNat
def wd (t : Int × Int) : List Nat := [fg t.1, 45, fg t.2]
def flt (ws : List (List Nat)) : List Nat := ws.flatMap fun w => 32 :: w
theorem flt_cons (w : List Nat) (ws : List (List Nat)) : flt (w :: ws) = 32 :: (w ++ flt ws) := by
  unfold flt
  rw [List.flatMap_cons, List.cons_append]
theorem join1_eq : ∀ (a : List Nat) (ws : List (List Nat)), join1 [32] (a :: ws) = a ++ flt ws
  | a, [] => by simp [join1, flt]
  | a, w :: ws => by
    show a ++ ([32] ++ join1 [32] (w :: ws)) = _
    rw [join1_eq w ws, flt_cons]
    rfl
theorem spl1_hit {s : Nat} (l : List Nat) : ∀ (p acc : List Nat), s ∉ p → spl1 s acc (p ++ s :: l) = (acc ++ p) :: spl1 s [] l
  | [], acc, _ => by
    rw [List.nil_append, List.append_nil]
    show (if s = s then acc :: spl1 s [] l else spl1 s (acc ++ [s]) l) = _
    rw [if_pos rfl]
  | c :: p, acc, h => by
    have hc : ¬ c = s := fun e => h (by rw [e]; exact List.mem_cons_self)
    rw [List.cons_append]
    show (if c = s then acc :: spl1 s [] (p ++ s :: l) else spl1 s (acc ++ [c]) (p ++ s :: l)) = _
    rw [if_neg hc, spl1_hit l p (acc ++ [c]) (fun e => h (List.mem_cons_of_mem _ e)), List.append_assoc]
    rfl
theorem spl1_end {s : Nat} : ∀ (p acc : List Nat), s ∉ p → spl1 s acc p = [acc ++ p]
  | [], acc, _ => by
    rw [List.append_nil]
    rfl
  | c :: p, acc, h => by
    have hc : ¬ c = s := fun e => h (by rw [e]; exact List.mem_cons_self)
    show (if c = s then acc :: spl1 s [] p else spl1 s (acc ++ [c]) p) = _
    rw [if_neg hc, spl1_end p (acc ++ [c]) (fun e => h (List.mem_cons_of_mem _ e)), List.append_assoc]
    rfl
theorem spl1_flt : ∀ (ws : List (List Nat)) (a : List Nat), 32 ∉ a → (∀ w ∈ ws, 32 ∉ w) → spl1 32 [] (a ++ flt ws) = a :: ws
  | [], a, ha, _ => by
    rw [show a ++ flt [] = a from List.append_nil a, spl1_end a [] ha]
    rfl
  | w :: ws, a, ha, hw => by
    rw [flt_cons, spl1_hit (w ++ flt ws) a [] ha, spl1_flt ws w (hw w List.mem_cons_self) fun v hv => hw v (List.mem_cons_of_mem _ hv)]
    rfl
theorem flt_len : ∀ (ws : List (List Nat)), (∀ w ∈ ws, w.length = 3) → (flt ws).length = 4 * ws.length
  | [], _ => rfl
  | w :: ws, h => by
    rw [flt_cons, List.length_cons, List.length_append, h w List.mem_cons_self, flt_len ws fun v hv => h v (List.mem_cons_of_mem _ hv), List.length_cons]
    omega
theorem wd_sp {t : Int × Int} : 32 ∉ wd t := by
  unfold wd fg
  simp only [List.mem_cons, List.not_mem_nil, or_false]
  omega
theorem sum_le {xs : List Nat} {k : Nat} (h : ∀ x ∈ xs, x ≤ k) : xs.sum ≤ k * xs.length := by
  induction xs with
  | nil => simp
  | cons x xs ih =>
    have h1 := h x List.mem_cons_self
    have h2 := ih fun y hy => h y (List.mem_cons_of_mem _ hy)
    rw [List.sum_cons, List.length_cons, Nat.mul_succ]
    omega
end Q

set_option linter.all false
namespace Q
open Dv
def number_of (word : PStr) : Rs Int :=
  (((lenS word).bind fun y1 => some (!decide (y1 = 1))).bind fun y2 => (if y2 = true then some true else (inS word (PStr.mk [48, 49, 50, 51, 52, 53, 54, 55, 56, 57])).bind fun b_ => some (!b_))).bind fun b3 => if b3 = true then
    some (.error .noNote)
  else
  (intS word).bind fun y4 => some (.ok y4)
def tie_of (word : PStr) : Rs (Int × Int) :=
  (splitS word (PStr.mk [45])).bind fun parts_5 =>
  (some (!decide ((parts_5.length : Int) = 2))).bind fun b6 => if b6 = true then
    some (.error .noNote)
  else
  (((((atZ parts_5 0).bind fun y14 => some (y14, ())).bind fun a13 => (some (.ok a13) : Rs _)).bind fun y9 => exB y9 fun x10 => number_of x10.1).bind fun y7 => exB y7 fun x8 => ((((atZ parts_5 1).bind fun y20 => some (y20, ())).bind fun a19 => (some (.ok a19) : Rs _)).bind fun y15 => exB y15 fun x16 => number_of x16.1).bind fun z21 => exB z21 fun w22 => (some (.ok (x8, w22)) : Rs _))
def read (text : PStr) : Rs (Int × (List (Int × Int))) :=
  (splitS text (PStr.mk [32])).bind fun words_23 =>
  (((atZ words_23 0).bind fun y25 => (Dv.cutS y25 (some (-1)) none)).bind fun y26 => some (!decide (y26 = (PStr.mk [58])))).bind fun b27 => if b27 = true then
    some (.error .noNote)
  else
  (((((atZ words_23 0).bind fun y35 => (Dv.cutS y35 none (some (-1)))).bind fun y37 => some (y37, ())).bind fun a36 => (some (.ok a36) : Rs _)).bind fun y33 => exB y33 fun x34 => number_of x34.1).bind fun y31 => exB y31 fun points_32 =>
  ((some (cutZ words_23 (some 1) none)).bind fun xs45 => lcX (fun (q44 : PStr) => (tie_of q44)) xs45).bind fun y40 => exB y40 fun ties_41 =>
  ((is_web points_32 ties_41).bind fun y48 => some (!y48)).bind fun b49 => if b49 = true then
    some (.error .noNote)
  else
  (some (points_32, ties_41)).bind fun y50 => some (.ok y50)
def whole (found : Int) : Option Bool :=
  (if true = true then some (!false) else some false)
def figure (word : PStr) : Option Int :=
  (((lenS word).bind fun y51 => some (decide (y51 = 1))).bind fun y52 => (if y52 = true then inS word (PStr.mk [48, 49, 50, 51, 52, 53, 54, 55, 56, 57]) else some false)).bind fun b53 => if b53 = true then
    intS word
  else
  some (-1)
def written (text : PStr) : Option (Option (Int × (List (Int × Int)))) :=
  ((((Dv.cutS text (some 1) (some 2))).bind fun y54 => some (!decide (y54 = (PStr.mk [58])))).bind fun y60 => (if y60 = true then some true else ((((Dv.cutS text none (some 1))).bind fun y57 => some (y57, ())).bind fun a58 => figure a58.1).bind fun y59 => some (decide (y59 < 0)))).bind fun b61 => if b61 = true then
    some none
  else
  (some ([] : List (Int × Int))).bind fun ties_62 =>
  (((Dv.cutS text (some 2) none)).bind fun y63 => splitS y63 (PStr.mk [32])).bind fun words_64 =>
  ((atZ words_64 0).bind fun y65 => some (!decide (y65 = (PStr.mk [])))).bind fun b66 => if b66 = true then
    some none
  else
  (some (cutZ words_64 (some 1) none)).bind fun xs67 => (loopR (S := (List (Int × Int))) (R := Option (Int × (List (Int × Int)))) (fun (s68 : (List (Int × Int))) (q69 : PStr) =>
      (((lenS q69).bind fun y73 => some (!decide (y73 = 3))).bind fun y87 => (if y87 = true then some true else ((atS q69 1).bind fun y74 => some (!decide (y74 = (PStr.mk [45])))).bind fun y86 => (if y86 = true then some true else ((((atS q69 0).bind fun y77 => some (y77, ())).bind fun a78 => figure a78.1).bind fun y79 => some (decide (y79 < 0))).bind fun y85 => (if y85 = true then some true else (((atS q69 2).bind fun y82 => some (y82, ())).bind fun a83 => figure a83.1).bind fun y84 => some (decide (y84 < 0)))))).bind fun b88 => if b88 = true then
        (some none).bind fun y89 => some (.ret y89)
      else
      (((((atS q69 0).bind fun y90 => some (y90, ())).bind fun a91 => figure a91.1).bind fun y94 => (((atS q69 2).bind fun y92 => some (y92, ())).bind fun a93 => figure a93.1).bind fun y95 => some (y94, y95)).bind fun y96 => addL s68 y96).bind fun ties_97 =>
      some (.go ties_97)) ties_62 xs67).bind fun st70 => st70.elim (fun s71 =>
  ((((((atS text 0).bind fun y98 => some (y98, ())).bind fun a99 => figure a99.1).bind fun y100 => some (y100, (s71, ()))).bind fun a101 => good a101.1 a101.2.1).bind fun y102 => some (!y102)).bind fun b103 => if b103 = true then
    some none
  else
  ((((atS text 0).bind fun y104 => some (y104, ())).bind fun a105 => figure a105.1).bind fun y106 => some (y106, s71)).bind fun y107 => some (some y107)) (fun y72 => some y72)
def sign (cell : Int) : Option PStr :=
  ((modZ cell 2).bind fun y108 => some (decide (y108 = 0))).bind fun b109 => if b109 = true then
    ((divZ cell 2).bind fun y110 => modZ y110 11).bind fun y111 => atS (PStr.mk [48, 49, 50, 51, 52, 53, 54, 55, 45, 58, 32]) y111
  else
  (some (PStr.mk [32, 33, 34, 35, 36, 38, 39, 40, 41, 42, 43, 44, 45, 46, 47, 48, 49, 50, 51, 52, 53, 54, 55, 56, 57, 58, 59, 60, 61, 62, 63, 64, 65, 66, 67, 68, 69, 70, 71, 72, 73, 74, 75, 76, 77, 78, 79, 80, 81, 82, 83, 84, 85, 86, 87, 88, 89, 90, 91, 92, 93, 94, 95, 96])).bind fun some__112 =>
  (catS some__112 (PStr.mk [97, 98, 99, 100, 101, 102, 103, 104, 105, 106, 107, 108, 109, 110, 111, 112, 113, 114, 115, 116, 117, 118, 119, 120, 121, 122, 123, 124, 125, 126, 10])).bind fun some__113 =>
  ((divZ cell 2).bind fun y114 => modZ y114 95).bind fun y115 => atS some__113 y115
def odd (cell : Int) : Option PStr :=
  (some [(PStr.mk []), (PStr.mk [58]), (PStr.mk [51]), (PStr.mk [51, 32, 58]), (PStr.mk [32, 51, 58]), (PStr.mk [51, 58, 32]), (PStr.mk [51, 58, 48, 45, 49]), (PStr.mk [48, 51, 58]), (PStr.mk [56, 58]), (PStr.mk [55, 58]), (PStr.mk [48, 58]), (PStr.mk [49, 58, 32, 48, 45, 48]), (PStr.mk [50, 58, 32, 48, 45, 49]), (PStr.mk [50, 58, 32, 49, 45, 48]), (PStr.mk [50, 58, 32, 48, 45, 50])]).bind fun some__116 =>
  (catL some__116 [(PStr.mk [51, 58, 32, 48, 45, 49, 32, 48, 45, 49]), (PStr.mk [51, 58, 32, 48, 45, 50, 32, 48, 45, 49]), (PStr.mk [51, 58, 32, 48, 45, 49, 32, 32, 48, 45, 50]), (PStr.mk [51, 58, 32, 48, 32, 49]), (PStr.mk [51, 58, 32, 48, 45, 45, 49]), (PStr.mk [51, 58, 32, 45, 49, 45, 50]), (PStr.mk [51, 58, 32, 48, 45, 49, 45, 50]), (PStr.mk [49, 48, 58]), (PStr.mk [51, 58, 10])]).bind fun some__117 =>
  (modZ cell (some__117.length : Int)).bind fun y118 => atZ some__117 y118
def refused (text : PStr) : Option Bool :=
  trX (α := Unit) (
      (read text).bind fun y121 => exB y121 fun _ =>
      some (.ok ())) (fun x120 =>
      some false) (fun er119 =>
      ((if (isE er119 .noWeb) = true then some true else (if (isE er119 .noTie) = true then some true else some (isE er119 .noDyeing)))).bind fun other_124 =>
      ((if other_124 = true then some true else (if (isE er119 .noSetting) = true then some true else some (isE er119 .goesRound)))).bind fun other_125 =>
      (if (isE er119 .noNote) = true then (if true = true then some (!other_125) else some false) else some false))
def law (script : List Int) : Option Bool :=
  (web_by script 0 7 12).bind fun p126 =>
  (((((strZ p126.1).bind fun y127 => catS y127 (PStr.mk [58])).bind fun y128 => some (y128 :: [])).bind fun y129 => (lc (fun (q130 : Int × Int) => some true) (fun (q130 : Int × Int) => ((strZ q130.1).bind fun y131 => catS y131 (PStr.mk [45])).bind fun y132 => (strZ q130.2).bind fun y133 => catS y132 y133) p126.2).bind fun y135 => catL y129 y135).bind fun y136 => joinS (PStr.mk [32]) y136).bind fun text_137 =>
  ((cell_at script 3).bind fun y138 => modZ y138 4).bind fun way_139 =>
  ((cell_at script 4).bind fun y140 => (lenS text_137).bind fun y141 => modZ y140 y141).bind fun at__142 =>
  ((
    (some (decide (0 < way_139))).bind fun b145 => if b145 = true then
      (((((cell_at script 5).bind fun y146 => some (y146, ())).bind fun a147 => next a147.1).bind fun y148 => some (y148, ())).bind fun a149 => sign a149.1).bind fun sign_150 =>
      ((((Dv.cutS text_137 none (some at__142))).bind fun y151 => ((if (decide (1 < way_139)) = true then some sign_150 else some (PStr.mk []))).bind fun y152 => catS y151 y152).bind fun y153 => ((Dv.cutS text_137 (some (at__142 + (if (decide (way_139 < 3)) = true then (1 : Int) else 0))) none)).bind fun y154 => catS y153 y154).bind fun text_155 =>
      some text_155
    else
      some text_137 : Option PStr)).bind fun s144 =>
  ((
    (((cell_at script 6).bind fun y162 => modZ y162 6).bind fun y163 => some (decide (y163 = 1))).bind fun b164 => if b164 = true then
      ((((cell_at script 6).bind fun y165 => divZ y165 6).bind fun y166 => some (y166, ())).bind fun a167 => odd a167.1).bind fun text_168 =>
      some text_168
    else
      some s144 : Option PStr)).bind fun s160 =>
  (written s160).bind fun due_169 =>
  (some due_169.isNone).bind fun b170 => if b170 = true then
    refused s160
  else
  (noX (read s160)).bind fun found_171 =>
  ((if (!true) = true then some true else (if (!decide (2 = 2)) = true then some true else ((whole found_171.1).bind fun y172 => some (!y172)).bind fun y175 => (if y175 = true then some true else ((due_169).bind fun y173 => some y173.1).bind fun y174 => some (!decide (found_171.1 = y174)))))).bind fun b176 => if b176 = true then
    some false
  else
  ((((due_169).bind fun y177 => some y177.2).bind fun y178 => some (y178, ())).bind fun y179 => some (found_171.2, y179)).bind fun a180 => ties_like a180.1 a180.2.1
/-- the figure that a text is, or -1 -/
def fgv : List Nat → Int
  | [c] => if 48 ≤ c ∧ c ≤ 57 then ((c - 48 : Nat) : Int) else -1
  | _ => -1
def gw : List Nat → Option (Int × Int)
  | [a, d, b] => if d = 45 ∧ 0 ≤ fgv [a] ∧ 0 ≤ fgv [b] then some (fgv [a], fgv [b]) else none
  | _ => none
def pw : List (List Nat) → Option (List (Int × Int))
  | [] => some []
  | w :: ws => (gw w).bind fun t => (pw ws).bind fun ts => some (t :: ts)
def rh : List Nat → Option Int
  | [c, d] => if d = 58 ∧ 0 ≤ fgv [c] then some (fgv [c]) else none
  | _ => none
def orNote {α : Type} : Option α → Except Er α
  | some x => .ok x
  | none => .error .noNote
/-- what a text writes -/
def wr (p : Option Int) (ws : List (List Nat)) : Option (Int × List (Int × Int)) := p.bind fun p => (pw ws).bind fun ts => if Web p ts then some (p, ts) else none
theorem mem_fig (c : Nat) : c ∈ [48, 49, 50, 51, 52, 53, 54, 55, 56, 57] ↔ 48 ≤ c ∧ c ≤ 57 := by
  simp only [List.mem_cons, List.not_mem_nil, or_false]
  omega
theorem fgv_ne {w : List Nat} (h : w.length ≠ 1) : fgv w = -1 := by
  match w, h with
  | [], _ => rfl
  | [_], h => exact absurd rfl h
  | _ :: _ :: _, _ => rfl
theorem fgv_c (c : Nat) : fgv [c] = if 48 ≤ c ∧ c ≤ 57 then ((c - 48 : Nat) : Int) else -1 := rfl
theorem fgv_one {w : List Nat} (h : 0 ≤ fgv w) : ∃ c, w = [c] ∧ 48 ≤ c ∧ c ≤ 57 := by
  match w, h with
  | [], h => exact absurd h (by decide)
  | [c], h =>
    by_cases k : 48 ≤ c ∧ c ≤ 57
    · exact ⟨c, rfl, k⟩
    · rw [fgv_c, if_neg k] at h
      exact absurd h (by decide)
  | a :: b :: r, h =>
    rw [fgv_ne (w := a :: b :: r) (by simp)] at h
    exact absurd h (by decide)
theorem gw3 (a d b : Nat) : gw [a, d, b] = if d = 45 ∧ 0 ≤ fgv [a] ∧ 0 ≤ fgv [b] then some (fgv [a], fgv [b]) else none := rfl
theorem gw_some {w : List Nat} {t : Int × Int} (h : gw w = some t) : ∃ a b, w = [a, 45, b] ∧ 0 ≤ fgv [a] ∧ 0 ≤ fgv [b] ∧ t = (fgv [a], fgv [b]) := by
  match w, h with
  | [], h => cases h
  | [_], h => cases h
  | [_, _], h => cases h
  | [a, d, b], h =>
    rw [gw3] at h
    split at h
    · rename_i k
      obtain ⟨rfl, k1, k2⟩ := k
      cases h
      exact ⟨a, b, rfl, k1, k2, rfl⟩
    · cases h
  | _ :: _ :: _ :: _ :: _, h => cases h
theorem pw_cons (w : List Nat) (ws : List (List Nat)) : pw (w :: ws) = (gw w).bind fun t => (pw ws).bind fun ts => some (t :: ts) := rfl
theorem lenS_ok {w : List Nat} (h : w.length ≤ 1000) : lenS ⟨w⟩ = some (w.length : Int) := by
  unfold lenS
  rw [if_pos (show w.length ≤ 1000000 by omega)]
theorem figure_eq {w : List Nat} (h : w.length ≤ 1000) : figure ⟨w⟩ = some (fgv w) := by
  unfold figure
  rw [lenS_ok h, Option.bind_some, Option.bind_some]
  by_cases k : w.length = 1
  · obtain ⟨c, rfl⟩ := List.length_eq_one_iff.mp k
    have e : inS ⟨[c]⟩ ⟨[48, 49, 50, 51, 52, 53, 54, 55, 56, 57]⟩ = some (decide (48 ≤ c ∧ c ≤ 57)) := by
      unfold inS
      exact congrArg some (decide_eq_decide.mpr (mem_fig c))
    rw [e]
    unfold intS fgv
    by_cases z : 48 ≤ c ∧ c ≤ 57
    · simp [z]
    · simp [z]
  · rw [fgv_ne k]
    have k' : ¬ (w.length : Int) = 1 := by omega
    simp [k']
theorem number_eq {w : List Nat} (h : w.length ≤ 1000) : number_of ⟨w⟩ = some (if fgv w < 0 then .error .noNote else .ok (fgv w)) := by
  unfold number_of
  rw [lenS_ok h, Option.bind_some, Option.bind_some]
  by_cases k : w.length = 1
  · obtain ⟨c, rfl⟩ := List.length_eq_one_iff.mp k
    have e : inS ⟨[c]⟩ ⟨[48, 49, 50, 51, 52, 53, 54, 55, 56, 57]⟩ = some (decide (48 ≤ c ∧ c ≤ 57)) := by
      unfold inS
      exact congrArg some (decide_eq_decide.mpr (mem_fig c))
    rw [e]
    unfold intS fgv
    by_cases z : 48 ≤ c ∧ c ≤ 57
    · simp [z]
    · simp [z]
  · rw [fgv_ne k]
    have k' : ¬ (w.length : Int) = 1 := by omega
    simp [k']
theorem spl1_ne (s : Nat) : ∀ (l acc : List Nat), spl1 s acc l ≠ []
  | [], acc => by simp [spl1]
  | c :: r, acc => by
    show (if c = s then acc :: spl1 s [] r else spl1 s (acc ++ [c]) r) ≠ []
    by_cases k : c = s
    · rw [if_pos k]
      simp
    · rw [if_neg k]
      exact spl1_ne s r _
theorem spl1_join (s : Nat) : ∀ (l acc : List Nat), join1 [s] (spl1 s acc l) = acc ++ l
  | [], acc => by simp [spl1, join1]
  | c :: r, acc => by
    show join1 [s] (if c = s then acc :: spl1 s [] r else spl1 s (acc ++ [c]) r) = _
    by_cases k : c = s
    · rw [if_pos k]
      have ih := spl1_join s r []
      cases e : spl1 s [] r with
      | nil => exact absurd e (spl1_ne s r [])
      | cons q qs =>
        rw [e] at ih
        show acc ++ ([s] ++ join1 [s] (q :: qs)) = _
        rw [ih, k]
        rfl
    · rw [if_neg k, spl1_join s r, List.append_assoc]
      rfl
theorem spl1_len (s : Nat) : ∀ (l acc : List Nat), (spl1 s acc l).length ≤ l.length + 1
  | [], acc => by simp [spl1]
  | c :: r, acc => by
    show (if c = s then acc :: spl1 s [] r else spl1 s (acc ++ [c]) r).length ≤ _
    by_cases k : c = s
    · rw [if_pos k, List.length_cons, List.length_cons]
      have := spl1_len s r []
      omega
    · rw [if_neg k, List.length_cons]
      have := spl1_len s r (acc ++ [c])
      omega
theorem spl1_part (s : Nat) : ∀ (l acc : List Nat) (p : List Nat), p ∈ spl1 s acc l → p.length ≤ acc.length + l.length
  | [], acc, p, h => by
    have : p = acc := by simpa [spl1] using h
    rw [this]
    omega
  | c :: r, acc, p, h => by
    replace h : p ∈ (if c = s then acc :: spl1 s [] r else spl1 s (acc ++ [c]) r) := h
    rw [List.length_cons]
    by_cases k : c = s
    · rw [if_pos k] at h
      rcases List.mem_cons.mp h with rfl | h
      · omega
      · have := spl1_part s r [] p h
        simp only [List.length_nil] at this
        omega
    · rw [if_neg k] at h
      have := spl1_part s r _ p h
      simp only [List.length_append, List.length_cons, List.length_nil] at this
      omega
theorem spl1_acc (s : Nat) : ∀ (l acc : List Nat), ∃ p ps, spl1 s [] l = p :: ps ∧ spl1 s acc l = (acc ++ p) :: ps
  | [], acc => ⟨[], [], rfl, by simp [spl1]⟩
  | c :: r, acc => by
    have e : ∀ a, spl1 s a (c :: r) = (if c = s then a :: spl1 s [] r else spl1 s (a ++ [c]) r) := fun _ => rfl
    rw [e, e]
    by_cases k : c = s
    · rw [if_pos k, if_pos k]
      exact ⟨[], spl1 s [] r, rfl, by rw [List.append_nil]⟩
    · rw [if_neg k, if_neg k]
      obtain ⟨p, ps, e1, e2⟩ := spl1_acc s r ([] ++ [c])
      obtain ⟨p', ps', e3, e4⟩ := spl1_acc s r (acc ++ [c])
      rw [e1] at e3
      cases e3
      exact ⟨c :: p, ps, e2, by rw [e4, List.append_assoc]; rfl⟩
theorem splitS_ok {w : List Nat} {s : Nat} (hs : s < 256) (h : w.length ≤ 1000) : splitS ⟨w⟩ ⟨[s]⟩ = some ((spl1 s [] w).map PStr.mk) := by
  unfold splitS
  dsimp only
  rw [if_pos ⟨hs, show w.length ≤ 1000000 by omega⟩]
theorem tie_eq {w : List Nat} (h : w.length ≤ 1000) : tie_of ⟨w⟩ = some (orNote (gw w)) := by
  unfold tie_of
  rw [splitS_ok (by decide) h, Option.bind_some, Option.bind_some, List.length_map]
  have hj := spl1_join 45 w []
  have hp := spl1_part 45 w []
  rw [List.nil_append] at hj
  cases g : gw w with
  | some t =>
    obtain ⟨a, b, rfl, f1, f2, rfl⟩ := gw_some g
    obtain ⟨a', e1, h1, h2⟩ := fgv_one f1
    obtain ⟨b', e2, h3, h4⟩ := fgv_one f2
    cases e1
    cases e2
    have n1 : ¬ a = 45 := by omega
    have n2 : ¬ b = 45 := by omega
    have e : spl1 45 [] [a, 45, b] = [[a], [b]] := by simp [spl1, n1, n2]
    have a0 : atZ [(⟨[a]⟩ : PStr), ⟨[b]⟩] 0 = some ⟨[a]⟩ := rfl
    have a1 : atZ [(⟨[a]⟩ : PStr), ⟨[b]⟩] 1 = some ⟨[b]⟩ := rfl
    have f1' : ¬ fgv [a] < 0 := by omega
    have f2' : ¬ fgv [b] < 0 := by omega
    rw [e]
    simp [a0, a1, number_eq (w := [a]) (by simp), number_eq (w := [b]) (by simp), f1', f2', orNote]
  | none =>
    by_cases k : (spl1 45 [] w).length = 2
    · obtain ⟨x, y, e⟩ : ∃ x y, spl1 45 [] w = [x, y] := by
        match spl1 45 [] w, k with
        | [x, y], _ => exact ⟨x, y, rfl⟩
      rw [e] at hj hp ⊢
      have hx := hp x (by simp)
      have hy := hp y (by simp)
      simp only [List.length_nil] at hx hy
      have a0 : atZ [(⟨x⟩ : PStr), ⟨y⟩] 0 = some ⟨x⟩ := rfl
      have a1 : atZ [(⟨x⟩ : PStr), ⟨y⟩] 1 = some ⟨y⟩ := rfl
      by_cases fx : fgv x < 0
      · simp [a0, a1, number_eq (show x.length ≤ 1000 by omega), fx, orNote]
      · by_cases fy : fgv y < 0
        · simp [a0, a1, number_eq (show x.length ≤ 1000 by omega), number_eq (show y.length ≤ 1000 by omega), fx, fy, orNote]
        · obtain ⟨a, rfl, ha⟩ := fgv_one (show 0 ≤ fgv x by omega)
          obtain ⟨b, rfl, hb⟩ := fgv_one (show 0 ≤ fgv y by omega)
          have hw : w = [a, 45, b] := hj.symm
          rw [hw, gw3, if_pos (by omega)] at g
          cases g
    · have k' : ¬ ((spl1 45 [] w).length : Int) = 2 := by omega
      simp [k', orNote]
theorem lcX_eq : ∀ (ws : List (List Nat)), (∀ w ∈ ws, w.length ≤ 1000) → lcGX (fun (q : PStr) => tie_of q) (ws.map PStr.mk) = some (orNote (pw ws))
  | [], _ => rfl
  | w :: ws, h => by
    rw [List.map_cons]
    show ((tie_of ⟨w⟩).bind fun y => exB y fun z => (lcGX (fun (q : PStr) => tie_of q) (ws.map PStr.mk)).bind fun v => exB v fun zs => some (.ok (z :: zs))) = _
    rw [tie_eq (h w List.mem_cons_self), lcX_eq ws fun v hv => h v (List.mem_cons_of_mem _ hv), Option.bind_some]
    rw [pw_cons]
    cases gw w with
    | none => rfl
    | some t =>
      cases pw ws <;> rfl
theorem pw_len : ∀ {ws : List (List Nat)} {ts : List (Int × Int)}, pw ws = some ts → ts.length = ws.length
  | [], ts, h => by
    cases h
    rfl
  | w :: ws, ts, h => by
    unfold pw at h
    obtain ⟨t, _, h⟩ := Option.bind_eq_some_iff.mp h
    obtain ⟨us, e, h⟩ := Option.bind_eq_some_iff.mp h
    cases h
    rw [List.length_cons, List.length_cons, pw_len e]
theorem cutS_ok {w : List Nat} (h : w.length ≤ 1000) (lo hi : Option Int) : Dv.cutS ⟨w⟩ lo hi = some ⟨cutZ w lo hi⟩ := by
  unfold Dv.cutS
  rw [if_pos (show w.length ≤ 1000000 by omega)]
theorem cutIx_m1 (n d : Nat) : cutIx n d (some (-1)) = n - 1 := by
  show (if (-1 : Int) < 0 then ((-1 : Int) + (n : Int)).toNat else min (-1 : Int).toNat n) = n - 1
  rw [if_pos (by decide)]
  omega
theorem cut_last1 (g : List Nat) (d : Nat) : cutZ (g ++ [d]) (some (-1)) none = [d] := by
  show ((g ++ [d]).drop (cutIx (g ++ [d]).length 0 (some (-1)))).take ((g ++ [d]).length - cutIx (g ++ [d]).length 0 (some (-1))) = [d]
  rw [cutIx_m1]
  simp
theorem cut_init1 (g : List Nat) (d : Nat) : cutZ (g ++ [d]) none (some (-1)) = g := by
  show ((g ++ [d]).drop 0).take (cutIx (g ++ [d]).length (g ++ [d]).length (some (-1)) - 0) = g
  rw [cutIx_m1]
  simp
theorem rh_snoc : ∀ (g : List Nat) (d : Nat), rh (g ++ [d]) = if d = 58 ∧ 0 ≤ fgv g then some (fgv g) else none
  | [], d => by
    rw [if_neg (fun z => absurd z.2 (by decide))]
    rfl
  | [c], d => rfl
  | a :: b :: r, d => by
    rw [if_neg (fun z => by rw [fgv_ne (w := a :: b :: r) (by simp)] at z; exact absurd z.2 (by decide))]
    cases r <;> rfl
theorem rh_some {h : List Nat} {p : Int} (e : rh h = some p) : ∃ c, h = [c, 58] ∧ 0 ≤ fgv [c] ∧ p = fgv [c] := by
  match h, e with
  | [], e => cases e
  | [_], e => cases e
  | [c, d], e =>
    replace e : (if d = 58 ∧ 0 ≤ fgv [c] then some (fgv [c]) else none) = some p := e
    split at e
    · rename_i k
      obtain ⟨rfl, k⟩ := k
      cases e
      exact ⟨c, rfl, k, rfl⟩
    · cases e
  | _ :: _ :: _ :: _, e => cases e
theorem read_eq {t : List Nat} (hl : t.length ≤ 900) {h : List Nat} {ws : List (List Nat)} (e : spl1 32 [] t = h :: ws) : read ⟨t⟩ = some (orNote (wr (rh h) ws)) := by
  have hn := spl1_len 32 t []
  have hp := spl1_part 32 t []
  rw [e] at hn hp
  rw [List.length_cons] at hn
  have hh := hp h List.mem_cons_self
  have hws : ∀ w ∈ ws, w.length ≤ 1000 := fun w hw => by
    have := hp w (List.mem_cons_of_mem _ hw)
    simp only [List.length_nil] at this
    omega
  simp only [List.length_nil] at hh
  unfold read
  have a0 : atZ ((⟨h⟩ : PStr) :: ws.map PStr.mk) 0 = some ⟨h⟩ := atZ_nat _ 0
  have c3 : cutZ ((⟨h⟩ : PStr) :: ws.map PStr.mk) (some 1) none = ws.map PStr.mk := cutZ_from _ 1
  have lx : lcX (fun (q : PStr) => tie_of q) (ws.map PStr.mk) = some (orNote (pw ws)) := by
    unfold lcX
    rw [if_pos (by rw [List.length_map]; omega), lcX_eq ws hws]
  rw [splitS_ok (by decide) (by omega), Option.bind_some, e, List.map_cons]
  simp only [a0, c3, Option.bind_some, cutS_ok (show h.length ≤ 1000 by omega), lx]
  rcases List.eq_nil_or_concat h with rfl | ⟨g, d, rfl⟩
  · rfl
  · rw [List.concat_eq_append] at *
    rw [cut_last1, cut_init1, rh_snoc]
    rw [List.length_append] at hh
    by_cases k : d = 58
    · subst k
      simp only [exB_ok, number_eq (show g.length ≤ 1000 by omega)]
      by_cases f : fgv g < 0
      · have f' : ¬ 0 ≤ fgv g := by omega
        simp [f, f', wr, orNote]
      · have f' : 0 ≤ fgv g := by omega
        cases q : pw ws with
        | none => simp [f, f', wr, orNote, q]
        | some ts =>
          have hts := pw_len q
          by_cases w : Web (fgv g) ts
          · simp [f, f', wr, orNote, q, w, is_web_eq (fgv g) ts (by omega)]
          · simp [f, f', wr, orNote, q, w, is_web_eq (fgv g) ts (by omega)]
    · simp [k, wr, orNote]
theorem atS_ok {w : List Nat} {i : Nat} {c : Nat} (h : w.length ≤ 1000) (e : w[i]? = some c) : atS ⟨w⟩ (i : Int) = some ⟨[c]⟩ := by
  unfold atS
  rw [if_pos (show w.length ≤ 1000000 by omega)]
  show (atZ w (i : Int)).bind _ = _
  rw [atZ_nat, e]
  rfl
theorem step_eq {w : List Nat} (h : w.length ≤ 1000) (s : List (Int × Int)) (hs : s.length ≤ 1000) :
    ((fun (s68 : (List (Int × Int))) (q69 : PStr) =>
      (((lenS q69).bind fun y73 => some (!decide (y73 = 3))).bind fun y87 => (if y87 = true then some true else ((atS q69 1).bind fun y74 => some (!decide (y74 = (PStr.mk [45])))).bind fun y86 => (if y86 = true then some true else ((((atS q69 0).bind fun y77 => some (y77, ())).bind fun a78 => figure a78.1).bind fun y79 => some (decide (y79 < 0))).bind fun y85 => (if y85 = true then some true else (((atS q69 2).bind fun y82 => some (y82, ())).bind fun a83 => figure a83.1).bind fun y84 => some (decide (y84 < 0)))))).bind fun b88 => if b88 = true then
        (some none).bind fun y89 => some (.ret y89)
      else
      (((((atS q69 0).bind fun y90 => some (y90, ())).bind fun a91 => figure a91.1).bind fun y94 => (((atS q69 2).bind fun y92 => some (y92, ())).bind fun a93 => figure a93.1).bind fun y95 => some (y94, y95)).bind fun y96 => addL s68 y96).bind fun ties_97 =>
      some (.go ties_97)) : List (Int × Int) → PStr → Option (Stp (List (Int × Int)) (Option (Int × (List (Int × Int)))))) s ⟨w⟩ = some (match gw w with
      | some t => .go (s ++ [t])
      | none => .ret none) := by
  dsimp only
  rw [lenS_ok h]
  by_cases k : w.length = 3
  · obtain ⟨a, d, b, rfl⟩ : ∃ a d b, w = [a, d, b] := by
      match w, k with
      | [a, d, b], _ => exact ⟨a, d, b, rfl⟩
    have s0 : atS ⟨[a, d, b]⟩ 0 = some ⟨[a]⟩ := atS_ok (i := 0) h rfl
    have s1 : atS ⟨[a, d, b]⟩ 1 = some ⟨[d]⟩ := atS_ok (i := 1) h rfl
    have s2 : atS ⟨[a, d, b]⟩ 2 = some ⟨[b]⟩ := atS_ok (i := 2) h rfl
    have ad : ∀ t : Int × Int, addL s t = some (s ++ [t]) := fun t => by
      unfold addL
      rw [if_pos (by omega)]
    simp only [s0, s1, s2, Option.bind_some, figure_eq (w := [a]) (by simp), figure_eq (w := [b]) (by simp), ad, gw3]
    by_cases k1 : d = 45
    · subst k1
      by_cases k2 : fgv [a] < 0
      · have : ¬ 0 ≤ fgv [a] := by omega
        simp [k2, this]
      · have k2' : 0 ≤ fgv [a] := by omega
        by_cases k3 : fgv [b] < 0
        · have : ¬ 0 ≤ fgv [b] := by omega
          simp [k2, k3, this]
        · have k3' : 0 ≤ fgv [b] := by omega
          simp [k2, k3, k2', k3']
    · simp [k1]
  · have k' : ¬ (w.length : Int) = 3 := by omega
    have g : gw w = none := by
      cases g : gw w with
      | none => rfl
      | some t =>
        obtain ⟨a, b, rfl, _⟩ := gw_some g
        exact absurd rfl k
    rw [g]
    simp [k']
theorem words_eq (f : List (Int × Int) → PStr → Option (Stp (List (Int × Int)) (Option (Int × List (Int × Int))))) (hf : ∀ (s : List (Int × Int)) (w : List Nat), w.length ≤ 1000 → s.length ≤ 1000 → f s ⟨w⟩ = some (match gw w with
      | some t => .go (s ++ [t])
      | none => .ret none)) : ∀ (ws : List (List Nat)) (s : List (Int × Int)), (∀ w ∈ ws, w.length ≤ 1000) → s.length + ws.length ≤ 1000 →
    loopR f s (ws.map PStr.mk) = some (match pw ws with
      | some ts => .go (s ++ ts)
      | none => .ret none)
  | [], s, _, _ => by
    show some (Stp.go s) = some (Stp.go (s ++ []))
    rw [List.append_nil]
  | w :: ws, s, h, hl => by
    rw [List.length_cons] at hl
    rw [List.map_cons]
    show (f s ⟨w⟩).bind (fun st => st.elim (fun s' => loopR f s' (ws.map PStr.mk)) fun r => some (.ret r)) = _
    rw [hf s w (h w List.mem_cons_self) (by omega), Option.bind_some, pw_cons]
    cases gw w with
    | none => rfl
    | some t =>
      have ih := words_eq f hf ws (s ++ [t]) (fun v hv => h v (List.mem_cons_of_mem _ hv)) (by rw [List.length_append]; simp only [List.length_cons, List.length_nil]; omega)
      show loopR f (s ++ [t]) (ws.map PStr.mk) = _
      rw [ih]
      cases pw ws with
      | none => rfl
      | some ts => simp
theorem rh_text {t h : List Nat} {ws : List (List Nat)} (e : spl1 32 [] t = h :: ws) {p : Int} (q : rh h = some p) : ∃ c r, t = c :: 58 :: r ∧ 0 ≤ fgv [c] := by
  obtain ⟨c, rfl, k, _⟩ := rh_some q
  have j := spl1_join 32 t []
  rw [e, List.nil_append] at j
  refine ⟨c, flt ws, ?_, k⟩
  rw [← j]
  exact join1_eq [c, 58] ws
theorem written_eq {t : List Nat} (hl : t.length ≤ 900) {h : List Nat} {ws : List (List Nat)} (e : spl1 32 [] t = h :: ws) : written ⟨t⟩ = some (wr (rh h) ws) := by
  unfold written
  simp only [cutS_ok (show t.length ≤ 1000 by omega), Option.bind_some]
  by_cases k : ∃ c r, t = c :: 58 :: r ∧ 0 ≤ fgv [c]
  · obtain ⟨c, r, rfl, kc⟩ := k
    simp only [List.length_cons] at hl
    obtain ⟨c', e', c1, c2⟩ := fgv_one kc
    cases e'
    have u1 : cutZ (c :: 58 :: r) (some 1) (some 2) = [58] := by
      unfold cutZ
      have i1 : cutIx (c :: 58 :: r).length 0 (some 1) = 1 := by
        show min 1 (r.length + 1 + 1) = 1
        omega
      have i2 : cutIx (c :: 58 :: r).length (c :: 58 :: r).length (some 2) = 2 := by
        show min 2 (r.length + 1 + 1) = 2
        omega
      rw [i1, i2]
      rfl
    have u2 : cutZ (c :: 58 :: r) none (some 1) = [c] := cutZ_upto _ 1
    have u3 : cutZ (c :: 58 :: r) (some 2) none = r := cutZ_from _ 2
    have a0 : atS ⟨c :: 58 :: r⟩ 0 = some ⟨[c]⟩ := atS_ok (i := 0) (by simp only [List.length_cons]; omega) rfl
    have kc' : ¬ fgv [c] < 0 := by omega
    obtain ⟨p, ps, e1, e2⟩ := spl1_acc 32 r [c, 58]
    have e3 : spl1 32 [] (c :: 58 :: r) = spl1 32 [c, 58] r := by
      have n1 : ¬ c = 32 := by omega
      show (if c = 32 then [] :: spl1 32 [] (58 :: r) else spl1 32 ([] ++ [c]) (58 :: r)) = _
      rw [if_neg n1]
      rfl
    rw [e3, e2] at e
    obtain ⟨q1, q2⟩ := List.cons.inj e
    rw [← q1, ← q2]
    have hn := spl1_len 32 r []
    have hp := spl1_part 32 r []
    rw [e1] at hn hp
    rw [List.length_cons] at hn
    have hws : ∀ w ∈ ps, w.length ≤ 1000 := fun w hw => by
      have := hp w (List.mem_cons_of_mem _ hw)
      simp only [List.length_nil] at this
      omega
    have w0 : atZ ((⟨p⟩ : PStr) :: ps.map PStr.mk) 0 = some ⟨p⟩ := atZ_nat _ 0
    have w1 : cutZ ((⟨p⟩ : PStr) :: ps.map PStr.mk) (some 1) none = ps.map PStr.mk := cutZ_from _ 1
    simp only [u1, u2, u3, a0, Option.bind_some, figure_eq (w := [c]) (by simp), splitS_ok (show 32 < 256 by decide) (show r.length ≤ 1000 by omega), e1, List.map_cons, w0, w1, kc', decide_true, decide_false, Bool.not_true, Bool.false_eq_true, ↓reduceIte]
    cases p with
    | cons x xs =>
      have : rh ([c, 58] ++ x :: xs) = none := by
        cases q : rh ([c, 58] ++ x :: xs) with
        | none => rfl
        | some z =>
          obtain ⟨_, e5, _⟩ := rh_some q
          cases e5
      rw [this]
      simp [wr]
    | nil =>
      have : rh ([c, 58] ++ []) = some (fgv [c]) := by
        show (if 58 = 58 ∧ 0 ≤ fgv [c] then some (fgv [c]) else none) = _
        rw [if_pos ⟨rfl, kc⟩]
      rw [this]
      simp only [decide_true, Bool.not_true, Bool.false_eq_true, ↓reduceIte]
      rw [words_eq _ (fun s w h1 h2 => step_eq h1 s h2) ps [] hws (by simp only [List.length_nil]; omega)]
      cases q : pw ps with
      | none => simp [wr, q]
      | some ts =>
        have hts := pw_len q
        by_cases w : Web (fgv [c]) ts
        · simp [wr, q, w, good_eq (fgv [c]) ts (by omega)]
        · simp [wr, q, w, good_eq (fgv [c]) ts (by omega)]
  · have rn : rh h = none := by
      cases q : rh h with
      | none => rfl
      | some p => exact absurd (rh_text e q) k
    rw [rn]
    have bad : ¬ (cutZ t (some 1) (some 2) = [58] ∧ 0 ≤ fgv (cutZ t none (some 1))) := by
      rintro ⟨k1, k2⟩
      refine k ?_
      match t, k1, k2 with
      | [], k1, _ => cases k1
      | [c], k1, _ => cases k1
      | c :: d :: r, k1, k2 =>
        have u1 : cutZ (c :: d :: r) (some 1) (some 2) = [d] := by
          unfold cutZ
          have i1 : cutIx (c :: d :: r).length 0 (some 1) = 1 := by
            show min 1 (r.length + 1 + 1) = 1
            omega
          have i2 : cutIx (c :: d :: r).length (c :: d :: r).length (some 2) = 2 := by
            show min 2 (r.length + 1 + 1) = 2
            omega
          rw [i1, i2]
          rfl
        have u2 : cutZ (c :: d :: r) none (some 1) = [c] := cutZ_upto _ 1
        rw [u1] at k1
        rw [u2] at k2
        cases k1
        exact ⟨c, r, rfl, k2⟩
    have hz : (cutZ t none (some 1)).length ≤ 1000 := by
      have := cutZ_len t none (some 1)
      omega
    by_cases k1 : cutZ t (some 1) (some 2) = [58]
    · have k2 : fgv (cutZ t none (some 1)) < 0 := by
        rcases Int.lt_or_le (fgv (cutZ t none (some 1))) 0 with z | z
        · exact z
        · exact absurd ⟨k1, z⟩ bad
      simp [k1, figure_eq hz, k2, wr]
    · simp [k1, wr]
theorem strZ_eq {n : Int} (h0 : 0 ≤ n) (h1 : n < 10) : strZ n = some ⟨[fg n]⟩ := by
  unfold strZ
  rw [if_pos ⟨h0, h1⟩]
  rfl
def txt (p : Int) (ts : List (Int × Int)) : List Nat := [fg p, 58] ++ flt (ts.map wd)
theorem txt_len (p : Int) (ts : List (Int × Int)) : (txt p ts).length = 2 + 4 * ts.length := by
  unfold txt
  rw [List.length_append, flt_len _ (fun v hv => by
    obtain ⟨t, _, rfl⟩ := List.mem_map.mp hv
    rfl), List.length_map]
  rfl
theorem text_eq {p : Int} {ts : List (Int × Int)} (w : Web p ts) : ((((((strZ p).bind fun y127 => catS y127 (PStr.mk [58])).bind fun y128 => some (y128 :: [])).bind fun y129 => (lc (fun (q130 : Int × Int) => some true) (fun (q130 : Int × Int) => ((strZ q130.1).bind fun y131 => catS y131 (PStr.mk [45])).bind fun y132 => (strZ q130.2).bind fun y133 => catS y132 y133) ts).bind fun y135 => catL y129 y135).bind fun y136 => joinS (PStr.mk [32]) y136)) = some ⟨txt p ts⟩ := by
  have hl := w.2.1
  have hp := w.1
  have tb : ∀ t ∈ ts, 0 ≤ t.1 ∧ t.1 < 10 ∧ 0 ≤ t.2 ∧ t.2 < 10 := fun t ht => by
    have := w.2.2.tie t ht
    unfold Tie at this
    omega
  have e1 : catS ⟨[fg p]⟩ ⟨[58]⟩ = some ⟨[fg p, 58]⟩ := rfl
  have e2 : lc (fun (q20 : Int × Int) => some true) (fun (q20 : Int × Int) => ((strZ q20.1).bind fun y21 => catS y21 (PStr.mk [45])).bind fun y22 => (strZ q20.2).bind fun y23 => catS y22 y23) ts = some (ts.map fun t => (⟨wd t⟩ : PStr)) := by
    refine lc_map _ (by omega) fun t ht => ?_
    have b := tb t ht
    rw [strZ_eq b.1 b.2.1, strZ_eq b.2.2.1 b.2.2.2]
    rfl
  have e3 : catL [(⟨[fg p, 58]⟩ : PStr)] (ts.map fun t => (⟨wd t⟩ : PStr)) = some (⟨[fg p, 58]⟩ :: ts.map fun t => (⟨wd t⟩ : PStr)) := by
    unfold catL
    rw [if_pos (by rw [List.length_map]; simp only [List.length_cons, List.length_nil]; omega)]
    rfl
  simp only [strZ_eq hp.1 (show p < 10 by omega), Option.bind_some, e1, e2, e3]
  unfold joinS
  rw [if_pos]
  · congr 2
    rw [List.map_cons, List.map_map, join1_eq]
    rfl
  · have s1 := sum_le (k := 3) (xs := ((⟨[fg p, 58]⟩ : PStr) :: ts.map fun t => (⟨wd t⟩ : PStr)).map fun x => x.c.length) (fun x hx => by
      rw [List.map_cons, List.map_map] at hx
      rcases List.mem_cons.mp hx with rfl | hx
      · show 2 ≤ 3
        decide
      · obtain ⟨t, _, rfl⟩ := List.mem_map.mp hx
        exact Nat.le_refl 3)
    simp only [List.length_map, List.length_cons, List.length_nil] at s1 ⊢
    omega
theorem divZ_ok (a : Int) {b : Int} (h : 0 < b ∧ b < 1000) : divZ a b = some (a / b) := by
  unfold divZ
  rw [if_pos (by omega)]
theorem atS_any {w : List Nat} {i : Int} (h : w.length ≤ 1000) (h0 : 0 ≤ i) (h1 : i < w.length) : ∃ c, atS ⟨w⟩ i = some ⟨[c]⟩ := by
  obtain ⟨c, e, _⟩ := atZ_get h0 h1
  refine ⟨c, ?_⟩
  unfold atS
  rw [if_pos (show w.length ≤ 1000000 by omega)]
  show (atZ w i).bind _ = _
  rw [e]
  rfl
theorem cat_at {a b : List Nat} {i : Int} (hl : a.length + b.length ≤ 1000) (h0 : 0 ≤ i) (h1 : i < ((a.length + b.length : Nat) : Int)) : ∃ d, ((catS ⟨a⟩ ⟨b⟩).bind fun x => atS x i) = some ⟨[d]⟩ := by
  have e : catS ⟨a⟩ ⟨b⟩ = some ⟨a ++ b⟩ := by
    unfold catS
    rw [if_pos (show a.length + b.length ≤ 1000000 by omega)]
  rw [e, Option.bind_some]
  exact atS_any (by rw [List.length_append]; exact hl) h0 (by rw [List.length_append]; exact h1)
theorem sign_ok (c : Int) : ∃ d, sign c = some ⟨[d]⟩ := by
  unfold sign
  have m11 := emod_bd (c / 2) (show (0 : Int) < 11 by decide)
  have m95 := emod_bd (c / 2) (show (0 : Int) < 95 by decide)
  simp only [modZ_pos (show (0 : Int) < 2 by decide), modZ_pos (show (0 : Int) < 11 by decide), modZ_pos (show (0 : Int) < 95 by decide), divZ_ok c (show (0 : Int) < 2 ∧ (2 : Int) < 1000 by decide), Option.bind_some]
  by_cases k : c % 2 = 0
  · rw [if_pos (by simpa using k)]
    exact atS_any (by decide) m11.1 m11.2
  · rw [if_neg (by simpa using k)]
    exact cat_at (by decide) m95.1 m95.2
theorem pick {l m : List PStr} {c : Int} (hl : (l ++ m).all (fun y => decide (y.c.length ≤ 100)) = true) (h0 : 0 < l.length) (hn : l.length + m.length ≤ 1000) :
    ∃ x : List Nat, ((catL l m).bind fun s => (modZ c (s.length : Int)).bind fun y => atZ s y) = some ⟨x⟩ ∧ x.length ≤ 100 := by
  have e : catL l m = some (l ++ m) := by
    unfold catL
    rw [if_pos (by omega)]
  have hp : (0 : Int) < ((l ++ m).length : Nat) := by
    rw [List.length_append]
    omega
  obtain ⟨b0, b1⟩ := emod_bd c hp
  obtain ⟨x, ex, _⟩ := atZ_get b0 b1
  refine ⟨x.c, ?_, of_decide_eq_true (List.all_eq_true.mp hl x (atZ_mem ex))⟩
  rw [e, Option.bind_some, modZ_pos hp, Option.bind_some, ex]
theorem odd_ok (c : Int) : ∃ x : List Nat, odd c = some ⟨x⟩ ∧ x.length ≤ 100 := by
  unfold odd
  rw [Option.bind_some]
  exact pick (by decide) (by decide) (by decide)
theorem refused_eq {x : PStr} (h : read x = some (.error .noNote)) : refused x = some true := by
  unfold refused
  rw [h]
  simp [isE]
theorem law_true (ns : List Int) (_ : ns.length ≤ 63) : law ns = some true := by
  unfold law
  obtain ⟨p, ts, e0, hp, hl, hT⟩ := web_by_spec ns (k := 0) (most := 7) (cap := 12) (by decide) (by decide) (by decide) (by decide)
  have w : Web p ts := ⟨by omega, by omega, hT⟩
  have tl := txt_len p ts
  have lp : (0 : Int) < ((txt p ts).length : Nat) := by omega
  obtain ⟨d, ed⟩ := sign_ok (nxt (cell ns 5))
  obtain ⟨od, eo, lo⟩ := odd_ok (cell ns 6 / 6)
  rw [e0, Option.bind_some]
  dsimp only
  rw [text_eq w, Option.bind_some]
  simp only [cell_at_eq ns (show (0 : Int) ≤ 3 by decide), cell_at_eq ns (show (0 : Int) ≤ 4 by decide), cell_at_eq ns (show (0 : Int) ≤ 5 by decide), cell_at_eq ns (show (0 : Int) ≤ 6 by decide), Option.bind_some, modZ_pos (show (0 : Int) < 4 by decide), modZ_pos (show (0 : Int) < 6 by decide),
    lenS_ok (show (txt p ts).length ≤ 1000 by omega), modZ_pos lp, next_eq, ed, eo, divZ_ok _ (show (0 : Int) < 6 ∧ (6 : Int) < 1000 by decide), cutS_ok (show (txt p ts).length ≤ 1000 by omega)]
  generalize cell ns 3 % 4 = way
  generalize cell ns 4 % ((txt p ts).length : Int) = k
  generalize cell ns 6 % 6 = six
  have cat : ∀ a b : List Nat, a.length + b.length ≤ 1000 → catS ⟨a⟩ ⟨b⟩ = some ⟨a ++ b⟩ := fun a b h => by
    unfold catS
    rw [if_pos (show a.length + b.length ≤ 1000000 by omega)]
  have S1 : ∃ x : List Nat, (if decide (0 < way) = true then (((if decide (1 < way) = true then some (PStr.mk [d]) else some (PStr.mk [])).bind fun y => catS ⟨cutZ (txt p ts) none (some k)⟩ y).bind fun y => catS y ⟨cutZ (txt p ts) (some (k + if decide (way < 3) = true then 1 else 0)) none⟩).bind (fun t => some t) else some ⟨txt p ts⟩) = some ⟨x⟩ ∧ x.length ≤ 500 := by
    have l1 := cutZ_len (txt p ts) none (some k)
    have l2 := cutZ_len (txt p ts) (some (k + if decide (way < 3) = true then 1 else 0)) none
    by_cases c : 0 < way
    · rw [if_pos (by simpa using c)]
      by_cases c2 : 1 < way
      · rw [if_pos (by simpa using c2), Option.bind_some, cat _ [d] (by simp only [List.length_cons, List.length_nil]; omega), Option.bind_some, cat _ _ (by simp only [List.length_append, List.length_cons, List.length_nil]; omega), Option.bind_some]
        exact ⟨_, rfl, by simp only [List.length_append, List.length_cons, List.length_nil]; omega⟩
      · rw [if_neg (by simpa using c2), Option.bind_some, cat _ [] (by simp only [List.length_nil]; omega), Option.bind_some, cat _ _ (by simp only [List.length_append, List.length_nil]; omega), Option.bind_some]
        exact ⟨_, rfl, by simp only [List.length_append, List.length_nil]; omega⟩
    · rw [if_neg (by simpa using c)]
      exact ⟨_, rfl, by omega⟩
  obtain ⟨x1, e1, l1⟩ := S1
  rw [e1, Option.bind_some]
  have S2 : ∃ x : List Nat, (if decide (six = 1) = true then some (PStr.mk od) else some ⟨x1⟩) = some ⟨x⟩ ∧ x.length ≤ 500 := by
    by_cases c : six = 1
    · rw [if_pos (by simpa using c)]
      exact ⟨_, rfl, by omega⟩
    · rw [if_neg (by simpa using c)]
      exact ⟨_, rfl, by omega⟩
  obtain ⟨x, e2, l2⟩ := S2
  rw [e2, Option.bind_some]
  obtain ⟨h, ws, eh⟩ : ∃ h ws, spl1 32 [] x = h :: ws := by
    cases q : spl1 32 [] x with
    | nil => exact absurd q (spl1_ne 32 x [])
    | cons h ws => exact ⟨h, ws, rfl⟩
  rw [written_eq (by omega) eh, Option.bind_some]
  have er := read_eq (show x.length ≤ 900 by omega) eh
  cases q : wr (rh h) ws with
  | none =>
    rw [q] at er
    simp [refused_eq er]
  | some z =>
    rw [q] at er
    rw [er]
    simp [orNote, whole, ties_like_eq]
end Q

set_option Elab.async false
set_option linter.all false
set_option maxRecDepth 100000
set_option maxHeartbeats 4000000
namespace Q
open PySem L2 Dv Dw
abbrev topS (i : Nat) : Stmt := PySem.Challenge.pw_dyeweb_k17_read_or_refused.main.body.getD i (.Pass ⟨0, 0, 0, 0⟩)
structure Txt (K : PySem.W.Frag) (mg : Str → Option Value) (ad : Er → Addr) (CW : Addr) : Prop where
  b_ValueError : mg "ValueError" = none
  b_bool : mg "bool" = none
  b_int : mg "int" = none
  b_isinstance : mg "isinstance" = none
  b_len : mg "len" = none
  b_list : mg "list" = none
  b_range : mg "range" = none
  b_sorted : mg "sorted" = none
  b_str : mg "str" = none
  b_tuple : mg "tuple" = none
  b_zip : mg "zip" = none
  g_FIGURES : ∃ t, mg "FIGURES" = some (.str "0123456789" t)
  g_MOST_POINTS : ∃ t, mg "MOST_POINTS" = some (.int 7 t)
  g_MOST_TIES : ∃ t, mg "MOST_TIES" = some (.int 12 t)
  x_NoNote : ErC K mg "NoNote" (ad .noNote)
  kit : Kit K ad CW
  g_WebError : mg "WebError" = some (.ref CW)
  e_GoesRound : mg "GoesRound" = some (.ref (ad .goesRound))
  e_NoDyeing : mg "NoDyeing" = some (.ref (ad .noDyeing))
  e_NoNote : mg "NoNote" = some (.ref (ad .noNote))
  e_NoSetting : mg "NoSetting" = some (.ref (ad .noSetting))
  e_NoTie : mg "NoTie" = some (.ref (ad .noTie))
  e_NoWeb : mg "NoWeb" = some (.ref (ad .noWeb))
  nil : True
section
variable {P : Program} {w : World} {K : PySem.W.Frag} {mg : Str → Option Value} {base : Heap} {ad : Er → Addr} {CW : Addr}
abbrev s_is_web : Stmt := topS 11
theorem sc_is_web : FnScope ["points", "ties", "k", "low", "high"] ["points", "ties"] (defScope s_is_web) := ⟨rfl, rfl, rfl, by decide +kernel, rfl, by decide +kernel, by decide +kernel⟩
theorem ok_is_web {f : Addr} {fd : FuncData} (F : Fun K "is_web" "is_web" s_is_web f fd) (gF : mg "is_web" = some (.ref f)) (T : Txt K mg ad CW) : Fn P w K mg base CX0 1 "is_web" ["points", "ties"] (spO (β := Bool) fun (x : Int × (List (Int × Int)) × Unit) => is_web x.1 x.2.1) := by
  obtain ⟨t_MOST_POINTS, T_g_MOST_POINTS⟩ := T.g_MOST_POINTS
  obtain ⟨t_MOST_TIES, T_g_MOST_TIES⟩ := T.g_MOST_TIES
  refine ⟨f, _, gF, F.kp, F.binds (ps := ["points", "ties"]) (fun _ _ _ _ _ _ us hl => match us, hl with | [_, _], _ => rfl), F.ok sc_is_web (spO_len rfl) (fun cdv A outer s H vs Q E hr h => ?_)⟩
  refine ⟨_, (pss_cons (ps_if (PW.pt (pw_or (pt_cmpR op_lt (pv 0) pe_int (nomark _)) (pw_or (pt_cmpR op_gt (pv 0) (pe_glob (v := .int 7) rfl T_g_MOST_POINTS ⟨_, rfl⟩) (nomark _)) (pw_or1 (pt_cmpR op_gt (pe_callB call_len_seq (by rfl) T.b_len PySem.boot_len (pa_cons (pv 1) pa_nil)) (pe_glob (v := .int 12) rfl T_g_MOST_TIES ⟨_, rfl⟩) (nomark _)))))) (pss_one (ps_ret pe_bl)) pss_nil)
    (pss_cons (ps_for PassesOwn.never rfl (pi_range1 (by rfl) T.b_range (pa_cons (pe_callB call_len_seq (by rfl) T.b_len PySem.boot_len (pa_cons (pv 1) pa_nil)) pa_nil)) (pg_name (i := 2) sc_is_web.nd rfl (by first | exact Or.inl rfl | exact Or.inr rfl)) (pss_cons (ps_asg (pe_ix ix_list (pv 1) (pv 2) (fun _ _ => rfl)) (pg_tup rfl (pgs_cons (pg_name (i := 3) sc_is_web.nd rfl (by first | exact Or.inl rfl | exact Or.inr rfl)) (pgs_cons (pg_name (i := 4) sc_is_web.nd rfl (by first | exact Or.inl rfl | exact Or.inr rfl)) pgs_nil))))
    (pss_cons (ps_if (PW.pt (pw_or (pt_cmpR op_lt (pv 3) pe_int (nomark _)) (pw_or (pt_cmpR op_ge (pv 3) (pv 4) (nomark _)) (pw_or1 (pt_cmpR op_ge (pv 4) (pv 0) (nomark _)))))) (pss_one (ps_ret pe_bl)) pss_nil)
    (pss_one (ps_if (PW.pt (pw_and (pt_cmpR op_gt (pv 2) pe_int (nomark _)) (pw_and1 (pt_cmpR (op_leT (hu0 hr)) (pe_ix ix_list (pv 1) (pv 2) (fun _ _ => rfl)) (pe_ix ix_list (pv 1) (pe_op op_sub (pv 2) pe_int) (fun _ _ => rfl)) (nomark _))))) (pss_one (ps_ret pe_bl)) pss_nil)))))
    (pss_one (ps_ret pe_bl)))), ?_⟩
  obtain ⟨F0, ⟨x_points, x_ties, _⟩, y, s0, ⟨v_points, _, rfl, h_points, v_ties, _, rfl, h_ties, rfl⟩, hm, hQ⟩ := h
  have L0 : Lat F0 H F0 H := .refl s0
  refine at_st (σ := [some v_points, some v_ties, none, none, none]) rfl ?_
  replace hm : is_web x_points x_ties = some y := hm
  unfold is_web at hm
  refine rd_guard L0.fh (evt_or (evt_of (ev_op (ev_varF rfl h_points) ev_int rv_cmp)) (evt_or (evt_of (ev_op (ev_varF rfl h_points) ev_int rv_cmp)) (evt_of (ev_op (ev_len (ev_var rfl h_ties)) ev_int rv_cmp)))) hm ?_ ?_
  · intro F1 H2 _ hm l3
    have L4 := L0.trans l3
    exact rd_ret0 L4.fh ev_bl hm fun v F1 H1 l rv => hQ v F1 H1 (L4.trans l) rv
  · intro F5 H6 _ hm l7
    have L8 := L0.trans l7
    replace h_ties := up h_ties l7
    refine rd_for L8.fh (ei_range1 (ev_len (ev_var rfl h_ties))) hm ?_
    intro xs9 J10 F11 H12 hm l13 wk14
    have L15 := L8.trans l13
    replace h_ties := up h_ties l13
    refine rd_loopR wk14 hm (fun (s : Unit) σ_ F_ H_ => ∃ (o2_ : Option V) (o3_ : Option V) (o4_ : Option V), σ_ = [some v_points, some v_ties, o2_, o3_, o4_] ∧ Same F11 F_ ∧ Lat F0 H F_ H_ ∧ True) ⟨_, _, _, rfl, (.refl _), L15, trivial⟩ ?_ ?_ ?_
    · rintro s σ_ F_ H_ ⟨e16, e17, e18, rfl, sf19, L20, -⟩
      exact ⟨sf19, L20.fh⟩
    · rintro q21 s22 σ_ F28 H29 v23 F30 H31 ⟨e32, e33, e34, rfl, sf35, L36, -⟩ l24 rv25 st39 hm D27 hD37 hN26 hR38
      replace hD37 : D27.rt = Q := hD37
      replace h_ties := Rep.mono sf35 h_ties
      have L40 := L36.trans l24
      have sb41 := Same.trans sf35 l24.f
      replace h_ties := up h_ties l24
      refine gt_name ?_
      refine rd_asg2 L40.fh (ev_op (ev_var rfl h_ties) (ev_varF rfl rv25) rv_ixL) hm ?_
      intro x42 v43 v44 F45 H46 hm l47 h_low_48 h_high_49
      have L50 := L40.trans l47
      have sb51 := Same.trans sb41 l47.f
      replace h_ties := up h_ties l47
      refine rd_guard L50.fh (evt_or (evt_of (ev_op (ev_varF rfl h_low_48) ev_int rv_cmp)) (evt_or (evt_of (ev_op (ev_varF rfl h_low_48) (ev_varF rfl h_high_49) rv_cmp)) (evt_of (ev_op (ev_varF rfl h_high_49) (ev_varF rfl h_points) rv_cmp)))) hm ?_ ?_
      · intro F52 H53 _ hm l54
        have L55 := L50.trans l54
        have sb56 := Same.trans sb51 l54.f
        replace h_ties := up h_ties l54
        refine rd_ret L55.fh ev_bl hm ?_
        intro x_ v_ F1_ H1_ hm l_ rv_
        replace hm := hR38 _ (Option.some.inj hm).symm
        obtain rfl := Option.some.inj hm
        rw [hD37]
        exact hQ _ _ _ (L55.trans l_) rv_
      · intro F57 H58 _ hm l59
        have L60 := L50.trans l59
        have sb61 := Same.trans sb51 l59.f
        replace h_ties := up h_ties l59
        refine rd_if L60.fh (evt_and (evt_of (ev_op (ev_varF rfl rv25) ev_int rv_cmp)) (evt_of (ev_op (ev_op (ev_var rfl h_ties) (ev_varF rfl rv25) rv_ixL) (ev_op (ev_var rfl h_ties) (ev_op (ev_varF rfl rv25) ev_int rv_sub) rv_ixL) rv_leT))) hm ?_ ?_
        · intro F62 H63 _ hm l64
          have L65 := L60.trans l64
          have sb66 := Same.trans sb61 l64.f
          replace h_ties := up h_ties l64
          refine rd_ret L65.fh ev_bl hm ?_
          intro x_ v_ F1_ H1_ hm l_ rv_
          replace hm := hR38 _ (Option.some.inj hm).symm
          obtain rfl := Option.some.inj hm
          rw [hD37]
          exact hQ _ _ _ (L65.trans l_) rv_
        · intro F67 H68 _ hm l69
          have L70 := L60.trans l69
          have sb71 := Same.trans sb61 l69.f
          replace h_ties := up h_ties l69
          exact hN26 _ (Option.some.inj hm).symm _ _ _ ⟨_, _, _, rfl, sb71, L70, trivial⟩
    · rintro s72 σ_ F73 H74 hm ⟨e75, e76, e77, rfl, sf78, L79, -⟩
      refine nx_with ?_
      exact rd_ret0 L79.fh ev_bl hm fun v F1 H1 l rv => hQ v F1 H1 (L79.trans l) rv
abbrev s_number_of : Stmt := topS 14
theorem sc_number_of : FnScope ["word"] ["word"] (defScope s_number_of) := ⟨rfl, rfl, rfl, by decide +kernel, rfl, by decide +kernel, by decide +kernel⟩
theorem ok_number_of {f : Addr} {fd : FuncData} (F : Fun K "number_of" "number_of" s_number_of f fd) (gF : mg "number_of" = some (.ref f)) (T : Txt K mg ad CW) : Fn P w K mg base (L2.CX P w) 1 "number_of" ["word"] (spX (clO ad) (β := Int) fun (x : PStr × Unit) => number_of x.1) := by
  obtain ⟨t_FIGURES, T_g_FIGURES⟩ := T.g_FIGURES
  refine ⟨f, _, gF, F.kp, F.binds (ps := ["word"]) (fun _ _ _ _ _ _ us hl => match us, hl with | [_], _ => rfl), F.okX sc_number_of (spX_len rfl) (fun cdv A outer s H vs Q E hr h => ?_)⟩
  refine ⟨_, (pss_cons (ps_if (PW.pt (pw_or (pt_cmpR op_ne (pe_callB call_len_str (by rfl) T.b_len PySem.boot_len (pa_cons (pv 0) pa_nil)) pe_int (nomark _)) (pw_or1 (pt_cmpR op_notIn_str (pv 0) (pe_glob (v := .str "0123456789") rfl T_g_FIGURES ⟨_, rfl⟩) (by rfl))))) (pss_one (ps_raiseE rfl (takes_of rfl rfl rfl rfl) T.x_NoNote rfl)) pss_nil)
    (pss_one (ps_ret (pe_callTy call_int_str (by rfl) T.b_int (by decide +kernel) (pa_cons (pv 0) pa_nil))))), ?_⟩
  obtain ⟨F0, ⟨x_word, _⟩, y, s0, ⟨v_word, _, rfl, h_word, rfl⟩, hm, hQ, hE⟩ := h
  have L0 : Lat F0 H F0 H := .refl s0
  refine at_st (σ := [some v_word]) rfl ?_
  replace hm : number_of x_word = some y := hm
  unfold number_of at hm
  refine rd_guard L0.fh (evt_or (evt_of (ev_op (ev_lenStr (ev_varF rfl h_word)) ev_int rv_neI)) (evt_of (ev_op (ev_varF rfl h_word) (ev_lit (l := [48, 49, 50, 51, 52, 53, 54, 55, 56, 57])) rv_notInS))) hm ?_ ?_
  · intro F1 H2 _ hm l3
    have L4 := L0.trans l3
    exact (fun e F1 H1 ee l => hE e ee F1 H1 (L4.trans l)) _ _ _ (Option.some.inj hm).symm (.refl L4.fh)
  · intro F5 H6 _ hm l7
    have L8 := L0.trans l7
    exact rd_ret L8.fh (ev_intS (ev_varF rfl h_word)) hm fun x v F1 H1 hm l rv => hQ x (Option.some.inj hm).symm v F1 H1 (L8.trans l) rv
abbrev s_tie_of : Stmt := topS 15
theorem sc_tie_of : FnScope ["word", "parts"] ["word"] (defScope s_tie_of) := ⟨rfl, rfl, rfl, by decide +kernel, rfl, by decide +kernel, by decide +kernel⟩
theorem ok_tie_of {f : Addr} {fd : FuncData} (F : Fun K "tie_of" "tie_of" s_tie_of f fd) (gF : mg "tie_of" = some (.ref f)) (T : Txt K mg ad CW) (C_number_of : Fn P w K mg base (L2.CX P w) 1 "number_of" ["word"] (spX (clO ad) (β := Int) fun (x : PStr × Unit) => number_of x.1)) : Fn P w K mg base (L2.CX P w) 2 "tie_of" ["word"] (spX (clO ad) (β := (Int × Int)) fun (x : PStr × Unit) => tie_of x.1) := by
  refine ⟨f, _, gF, F.kp, F.binds (ps := ["word"]) (fun _ _ _ _ _ _ us hl => match us, hl with | [_], _ => rfl), F.okX sc_tie_of (spX_len rfl) (fun cdv A outer s H vs Q E hr h => ?_)⟩
  refine ⟨_, (pss_cons (ps_set (i := 1) sc_tie_of.nd rfl (by first | exact Or.inl rfl | exact Or.inr rfl) (pe_split (pv 0) pe_str))
    (pss_cons (ps_if (pt_cmpR op_ne (pe_callB call_len_seq (by rfl) T.b_len PySem.boot_len (pa_cons (pv 1) pa_nil)) pe_int (nomark _)) (pss_one (ps_raiseE rfl (takes_of rfl rfl rfl rfl) T.x_NoNote rfl)) pss_nil)
    (pss_one (ps_ret (pe_tup (pa_cons (pe_fnX (takes_of rfl rfl rfl rfl) C_number_of (hr.mono (by decide)) rfl (pa_cons (pe_ix ix_list (pv 1) pe_int (fun _ _ => rfl)) pa_nil)) (pa_cons (pe_fnX (takes_of rfl rfl rfl rfl) C_number_of (hr.mono (by decide)) rfl (pa_cons (pe_ix ix_list (pv 1) pe_int (fun _ _ => rfl)) pa_nil)) pa_nil))))))), ?_⟩
  obtain ⟨F0, ⟨x_word, _⟩, y, s0, ⟨v_word, _, rfl, h_word, rfl⟩, hm, hQ, hE⟩ := h
  have L0 : Lat F0 H F0 H := .refl s0
  refine at_st (σ := [some v_word, none]) rfl ?_
  replace hm : tie_of x_word = some y := hm
  unfold tie_of at hm
  refine rd_asg L0.fh (EVN.ev (evn_split (ev_varF rfl h_word) (ev_lit (l := [45])))) hm ?_
  intro x1 v2 F3 H4 hm l5 h_parts_6
  have L7 := L0.trans l5
  refine rd_guard L7.fh (evt_of (ev_op (ev_len (ev_var rfl h_parts_6)) ev_int rv_neI)) hm ?_ ?_
  · intro F8 H9 _ hm l10
    have L11 := L7.trans l10
    exact (fun e F1 H1 ee l => hE e ee F1 H1 (L11.trans l)) _ _ _ (Option.some.inj hm).symm (.refl L11.fh)
  · intro F12 H13 _ hm l14
    have L15 := L7.trans l14
    replace h_parts_6 := up h_parts_6 l14
    exact rd_retX L15.fh (ex_tup (ex_call (EVA.x (eva_cons (ev_op (ev_var rfl h_parts_6) ev_int rv_ixL) eva_nil))) (ex_call (EVA.x (eva_cons (ev_op (ev_var rfl h_parts_6) ev_int rv_ixL) eva_nil)))) hm (fun e F1 H1 ee l => hE e ee F1 H1 (L15.trans l)) fun x v F1 H1 ex l rv => hQ x ex v F1 H1 (L15.trans l) rv
abbrev s_read : Stmt := topS 16
theorem sc_read : FnScope ["text", "words", "points", "ties", "word"] ["text"] (defScope s_read) := ⟨rfl, rfl, rfl, by decide +kernel, rfl, by decide +kernel, by decide +kernel⟩
theorem ok_read {f : Addr} {fd : FuncData} (F : Fun K "read" "read" s_read f fd) (gF : mg "read" = some (.ref f)) (T : Txt K mg ad CW) (C_number_of : Fn P w K mg base (L2.CX P w) 1 "number_of" ["word"] (spX (clO ad) (β := Int) fun (x : PStr × Unit) => number_of x.1)) (C_tie_of : Fn P w K mg base (L2.CX P w) 2 "tie_of" ["word"] (spX (clO ad) (β := (Int × Int)) fun (x : PStr × Unit) => tie_of x.1)) (C_is_web : Fn P w K mg base CX0 1 "is_web" ["points", "ties"] (spO (β := Bool) fun (x : Int × (List (Int × Int)) × Unit) => is_web x.1 x.2.1)) : Fn P w K mg base (L2.CX P w) 3 "read" ["text"] (spX (clO ad) (β := (Int × (List (Int × Int)))) fun (x : PStr × Unit) => read x.1) := by
  refine ⟨f, _, gF, F.kp, F.binds (ps := ["text"]) (fun _ _ _ _ _ _ us hl => match us, hl with | [_], _ => rfl), F.okX sc_read (spX_len rfl) (fun cdv A outer s H vs Q E hr h => ?_)⟩
  refine ⟨_, (pss_cons (ps_set (i := 1) sc_read.nd rfl (by first | exact Or.inl rfl | exact Or.inr rfl) (pe_split (pv 0) pe_str))
    (pss_cons (ps_if (pt_cmpR op_ne (pe_slice sl_str (pe_ix ix_list (pv 1) pe_int (fun _ _ => rfl)) (po_some (pe_un un_neg pe_int)) po_none) pe_str (nomark _)) (pss_one (ps_raiseE rfl (takes_of rfl rfl rfl rfl) T.x_NoNote rfl)) pss_nil)
    (pss_cons (ps_set (i := 2) sc_read.nd rfl (by first | exact Or.inl rfl | exact Or.inr rfl) (pe_fnX (takes_of rfl rfl rfl rfl) C_number_of (hr.mono (by decide)) rfl (pa_cons (pe_slice sl_str (pe_ix ix_list (pv 1) pe_int (fun _ _ => rfl)) po_none (po_some (pe_un un_neg pe_int))) pa_nil)))
    (pss_cons (ps_setLcX (i := 3) (own := [("word", 4)]) (g := (gName 4)) rfl rfl (takes_of rfl rfl rfl rfl) rfl sc_read.nd rfl rfl (sw_true rfl rfl rfl (by decide +kernel)) (pi_list (pe_slice sl_list (pv 1) (po_some pe_int) po_none)) (blkOk_by (N := ["text", "words", "points", "ties", "word"]) (sc := defScope s_read) (by decide +kernel)) (fun _ _ _ _ _ => (pg_name (i := 4) sc_read.nd rfl (by first | exact Or.inl rfl | exact Or.inr rfl))) (fun _ _ _ _ _ => (pe_fnB C_tie_of (hr.mono (by decide)) bX_takes rfl (pa_cons (pv 4) pa_nil))))
    (pss_cons (ps_if (pt_not (pt_val (pe_fn C_is_web (hr.mono (by decide)) rfl (pa_cons (pv 2) (pa_cons (pv 3) pa_nil))))) (pss_one (ps_raiseE rfl (takes_of rfl rfl rfl rfl) T.x_NoNote rfl)) pss_nil)
    (pss_one (ps_ret (pe_tup (pa_cons (pv 2) (pa_cons (pv 3) pa_nil)))))))))), ?_⟩
  obtain ⟨F0, ⟨x_text, _⟩, y, s0, ⟨v_text, _, rfl, h_text, rfl⟩, hm, hQ, hE⟩ := h
  have L0 : Lat F0 H F0 H := .refl s0
  refine at_st (σ := [some v_text, none, none, none, none]) rfl ?_
  replace hm : read x_text = some y := hm
  unfold read at hm
  refine rd_asg L0.fh (EVN.ev (evn_split (ev_varF rfl h_text) (ev_lit (l := [32])))) hm ?_
  intro x1 v2 F3 H4 hm l5 h_words_6
  have L7 := L0.trans l5
  refine rd_guard L7.fh (evt_of (ev_op (ev_cutStr (ev_op (ev_var rfl h_words_6) ev_int rv_ixL) (po_at (ev_neg ev_int)) po_no) (ev_lit (l := [58])) rv_neP)) hm ?_ ?_
  · intro F8 H9 _ hm l10
    have L11 := L7.trans l10
    exact (fun e F1 H1 ee l => hE e ee F1 H1 (L11.trans l)) _ _ _ (Option.some.inj hm).symm (.refl L11.fh)
  · intro F12 H13 _ hm l14
    have L15 := L7.trans l14
    replace h_words_6 := up h_words_6 l14
    refine rd_asgX L15.fh (ex_call (EVA.x (eva_cons (ev_cutStr (ev_op (ev_var rfl h_words_6) ev_int rv_ixL) po_no (po_at (ev_neg ev_int))) eva_nil))) hm (fun e F1 H1 ee l => hE e ee F1 H1 (L15.trans l)) ?_
    intro x16 v17 F18 H19 hm l20 h_points_21
    have L22 := L15.trans l20
    replace h_words_6 := up h_words_6 l20
    refine rd_asgX L22.fh (ex_lc (ei_list (EVN.ev (evn_cut (ev_var rfl h_words_6) (po_at ev_int) po_no))) (fun _ _ _ _ _ h => h) (fun x29 v30 _ _ _ l32 r31 k33 => gt_name (k33 _ rfl (ex_call (EVA.x (eva_cons (ev_varF rfl r31) eva_nil)))))) hm (fun e F1 H1 ee l => hE e ee F1 H1 (L22.trans l)) ?_
    intro x23 v24 F25 H26 hm l27 h_ties_28
    have L34 := L22.trans l27
    refine rd_guard L34.fh (evt_not (evt_b (ev_call (eva_cons (ev_varF rfl h_points_21) (eva_cons (ev_var rfl h_ties_28) eva_nil))))) hm ?_ ?_
    · intro F35 H36 _ hm l37
      have L38 := L34.trans l37
      exact (fun e F1 H1 ee l => hE e ee F1 H1 (L38.trans l)) _ _ _ (Option.some.inj hm).symm (.refl L38.fh)
    · intro F39 H40 _ hm l41
      have L42 := L34.trans l41
      replace h_ties_28 := up h_ties_28 l41
      exact rd_ret L42.fh (ev_tup (ev_varF rfl h_points_21) (ev_var rfl h_ties_28)) hm fun x v F1 H1 hm l rv => hQ x (Option.some.inj hm).symm v F1 H1 (L42.trans l) rv
abbrev s_cell_at : Stmt := topS 18
theorem sc_cell_at : FnScope ["script", "k"] ["script", "k"] (defScope s_cell_at) := ⟨rfl, rfl, rfl, by decide +kernel, rfl, by decide +kernel, by decide +kernel⟩
theorem ok_cell_at {f : Addr} {fd : FuncData} (F : Fun K "_law_cell_at" "_law_cell_at" s_cell_at f fd) (gF : mg "_law_cell_at" = some (.ref f)) (T : Txt K mg ad CW) : Fn P w K mg base CX0 1 "_law_cell_at" ["script", "k"] (spO (β := Int) fun (x : (Scr K) × Int × Unit) => cell_at x.1.l x.2.1) := by
  refine ⟨f, _, gF, F.kp, F.binds (ps := ["script", "k"]) (fun _ _ _ _ _ _ us hl => match us, hl with | [_, _], _ => rfl), F.ok sc_cell_at (spO_len rfl) (fun cdv A outer s H vs Q E hr h => ?_)⟩
  refine ⟨_, (pss_cons (ps_if (pt_cmpR op_lt (pv 1) (pe_callB call_len_seq (by rfl) T.b_len PySem.boot_len (pa_cons (pv 0) pa_nil)) (nomark _)) (pss_one (ps_ret (pe_ix ix_list (pv 0) (pv 1) (fun _ _ => rfl)))) pss_nil)
    (pss_one (ps_ret pe_int))), ?_⟩
  obtain ⟨F0, ⟨x_script, x_k, _⟩, y, s0, ⟨v_script, _, rfl, h_script, v_k, _, rfl, h_k, rfl⟩, hm, hQ⟩ := h
  have L0 : Lat F0 H F0 H := .refl s0
  refine at_st (σ := [some v_script, some v_k]) rfl ?_
  replace hm : cell_at x_script.l x_k = some y := hm
  unfold cell_at at hm
  refine rd_guard L0.fh (evt_of (ev_op (ev_varF rfl h_k) (ev_lenS (ev_var rfl h_script)) rv_cmp)) hm ?_ ?_
  · intro F1 H2 _ hm l3
    have L4 := L0.trans l3
    replace h_script := up h_script l3
    exact rd_ret0 L4.fh (ev_op (ev_var rfl h_script) (ev_varF rfl h_k) rv_ixS) hm fun v F1 H1 l rv => hQ v F1 H1 (L4.trans l) rv
  · intro F5 H6 _ hm l7
    have L8 := L0.trans l7
    exact rd_ret0 L8.fh ev_int hm fun v F1 H1 l rv => hQ v F1 H1 (L8.trans l) rv
abbrev s_next : Stmt := topS 19
theorem sc_next : FnScope ["seed"] ["seed"] (defScope s_next) := ⟨rfl, rfl, rfl, by decide +kernel, rfl, by decide +kernel, by decide +kernel⟩
theorem ok_next {f : Addr} {fd : FuncData} (F : Fun K "_law_next" "_law_next" s_next f fd) (gF : mg "_law_next" = some (.ref f)) (T : Txt K mg ad CW) : Fn P w K mg base CX0 1 "_law_next" ["seed"] (spO (β := Int) fun (x : Int × Unit) => next x.1) := by
  refine ⟨f, _, gF, F.kp, F.binds (ps := ["seed"]) (fun _ _ _ _ _ _ us hl => match us, hl with | [_], _ => rfl), F.ok sc_next (spO_len rfl) (fun cdv A outer s H vs Q E hr h => ?_)⟩
  refine ⟨_, (pss_one (ps_ret (pe_op op_mod (pe_op op_add (pe_op op_mul (pv 0) pe_int) pe_int) pe_int))), ?_⟩
  obtain ⟨F0, ⟨x_seed, _⟩, y, s0, ⟨v_seed, _, rfl, h_seed, rfl⟩, hm, hQ⟩ := h
  have L0 : Lat F0 H F0 H := .refl s0
  refine at_st (σ := [some v_seed]) rfl ?_
  replace hm : next x_seed = some y := hm
  unfold next at hm
  exact rd_ret0 L0.fh (ev_op (ev_op (ev_op (ev_varF rfl h_seed) ev_int rv_mul) ev_int rv_add) ev_int rv_mod) hm fun v F1 H1 l rv => hQ v F1 H1 (L0.trans l) rv
abbrev s_web_by : Stmt := topS 20
theorem sc_web_by : FnScope ["script", "k", "most", "cap", "points", "seed", "thick", "ties", "low", "high"] ["script", "k", "most", "cap"] (defScope s_web_by) := ⟨rfl, rfl, rfl, by decide +kernel, rfl, by decide +kernel, by decide +kernel⟩
theorem ok_web_by {f : Addr} {fd : FuncData} (F : Fun K "_law_web_by" "_law_web_by" s_web_by f fd) (gF : mg "_law_web_by" = some (.ref f)) (T : Txt K mg ad CW) (C_cell_at : Fn P w K mg base CX0 1 "_law_cell_at" ["script", "k"] (spO (β := Int) fun (x : (Scr K) × Int × Unit) => cell_at x.1.l x.2.1)) (C_next : Fn P w K mg base CX0 1 "_law_next" ["seed"] (spO (β := Int) fun (x : Int × Unit) => next x.1)) : Fn P w K mg base CX0 2 "_law_web_by" ["script", "k", "most", "cap"] (spO (β := (Int × (List (Int × Int)))) fun (x : (Scr K) × Int × Int × Int × Unit) => web_by x.1.l x.2.1 x.2.2.1 x.2.2.2.1) := by
  refine ⟨f, _, gF, F.kp, F.binds (ps := ["script", "k", "most", "cap"]) (fun _ _ _ _ _ _ us hl => match us, hl with | [_, _, _, _], _ => rfl), F.ok sc_web_by (spO_len rfl) (fun cdv A outer s H vs Q E hr h => ?_)⟩
  refine ⟨_, (pss_cons (ps_set (i := 4) sc_web_by.nd rfl (by first | exact Or.inl rfl | exact Or.inr rfl) (pe_op op_mod (pe_fn C_cell_at (hr.mono (by decide)) rfl (pa_cons (pv 0) (pa_cons (pv 1) pa_nil))) (pe_op op_add (pv 2) pe_int)))
    (pss_cons (ps_set (i := 5) sc_web_by.nd rfl (by first | exact Or.inl rfl | exact Or.inr rfl) (pe_fn C_next (hr.mono (by decide)) rfl (pa_cons (pe_fn C_cell_at (hr.mono (by decide)) rfl (pa_cons (pv 0) (pa_cons (pe_op op_add (pv 1) pe_int) pa_nil))) pa_nil)))
    (pss_cons (ps_set (i := 6) sc_web_by.nd rfl (by first | exact Or.inl rfl | exact Or.inr rfl) (pe_op op_add pe_int (pe_op op_mod (pe_fn C_cell_at (hr.mono (by decide)) rfl (pa_cons (pv 0) (pa_cons (pe_op op_add (pv 1) pe_int) pa_nil))) pe_int)))
    (pss_cons (ps_set (i := 7) sc_web_by.nd rfl (by first | exact Or.inl rfl | exact Or.inr rfl) (pe_lst pa_nil))
    (pss_cons (ps_for PassesOwn.never rfl (pi_range1 (by rfl) T.b_range (pa_cons (pv 4) pa_nil)) (pg_name (i := 8) sc_web_by.nd rfl (by first | exact Or.inl rfl | exact Or.inr rfl)) (pss_one (ps_for PassesOwn.never rfl (pi_range2 (by rfl) T.b_range (pa_cons (pe_op op_add (pv 8) pe_int) (pa_cons (pv 4) pa_nil))) (pg_name (i := 9) sc_web_by.nd rfl (by first | exact Or.inl rfl | exact Or.inr rfl)) (pss_cons (ps_if (PW.pt (pw_and (pt_cmpR op_lt (pe_op op_mod (pe_op op_fdiv (pv 5) pe_int) pe_int) (pv 6) (nomark _)) (pw_and1 (pt_cmpR op_lt (pe_callB call_len_seq (by rfl) T.b_len PySem.boot_len (pa_cons (pv 7) pa_nil)) (pv 3) (nomark _))))) (pss_one (ps_expr (pe_bm PySem.F.plainAttrs_list PySem.F.slot_list_append PySem.F.type_list_append mt_append (pv 7) (pa_cons (pe_tup (pa_cons (pv 8) (pa_cons (pv 9) pa_nil))) pa_nil)))) pss_nil)
    (pss_one (ps_set (i := 5) sc_web_by.nd rfl (by first | exact Or.inl rfl | exact Or.inr rfl) (pe_fn C_next (hr.mono (by decide)) rfl (pa_cons (pv 5) pa_nil))))))))
    (pss_one (ps_ret (pe_tup (pa_cons (pv 4) (pa_cons (pv 7) pa_nil)))))))))), ?_⟩
  obtain ⟨F0, ⟨x_script, x_k, x_most, x_cap, _⟩, y, s0, ⟨v_script, _, rfl, h_script, v_k, _, rfl, h_k, v_most, _, rfl, h_most, v_cap, _, rfl, h_cap, rfl⟩, hm, hQ⟩ := h
  have L0 : Lat F0 H F0 H := .refl s0
  refine at_st (σ := [some v_script, some v_k, some v_most, some v_cap, none, none, none, none, none, none]) rfl ?_
  replace hm : web_by x_script.l x_k x_most x_cap = some y := hm
  unfold web_by at hm
  refine rd_asg L0.fh (ev_op (ev_call (eva_cons (ev_var rfl h_script) (eva_cons (ev_varF rfl h_k) eva_nil))) (ev_op (ev_varF rfl h_most) ev_int rv_add) rv_mod) hm ?_
  intro x1 v2 F3 H4 hm l5 h_points_6
  have L7 := L0.trans l5
  replace h_script := up h_script l5
  refine rd_asg L7.fh (ev_call (eva_cons (ev_call (eva_cons (ev_var rfl h_script) (eva_cons (ev_op (ev_varF rfl h_k) ev_int rv_add) eva_nil))) eva_nil)) hm ?_
  intro x8 v9 F10 H11 hm l12 h_seed_13
  have L14 := L7.trans l12
  replace h_script := up h_script l12
  refine rd_asg L14.fh (ev_op ev_int (ev_op (ev_call (eva_cons (ev_var rfl h_script) (eva_cons (ev_op (ev_varF rfl h_k) ev_int rv_add) eva_nil))) ev_int rv_mod) rv_add) hm ?_
  intro x15 v16 F17 H18 hm l19 h_thick_20
  have L21 := L14.trans l19
  refine rd_asgN L21.fh (evn_nil (α := Int × Int)) hm ?_
  intro x22 p23 w24 F25 H26 hm l27 hn32 fp29 hp28 rl30
  have hz31 := L21.h.free hn32
  have L33 := L21.trans l27
  refine rd_for L33.fh (ei_range1 (ev_varF rfl h_points_6)) hm ?_
  intro xs34 J35 F36 H37 hm l38 wk39
  have L40 := L33.trans l38
  replace fp29 := l38.nwl hp28 fp29
  replace hp28 := l38.h _ _ hp28
  replace rl30 := rpL.mono l38.f rl30
  refine rd_loopG wk39 hm (fun (s : Int × (List (Int × Int))) σ_ F_ H_ => ∃ (v5_ : V) (o8_ : Option V) (o9_ : Option V) (w7_ : List V), σ_ = [some v_script, some v_k, some v_most, some v_cap, some v2, some v5_, some v16, some (.ref p23), o8_, o9_] ∧ Same F36 F_ ∧ Lat F0 H F_ H_ ∧ Rep.rp s.1 v5_ F_ ∧ (H_ p23 = some (.lst w7_) ∧ F_ p23 = none ∧ rpL s.2 w7_ F_) ∧ True) ⟨_, _, _, _, rfl, (.refl _), L40, (Flat.any h_seed_13), ⟨hp28, fp29, rl30⟩, trivial⟩ ?_ ?_ ?_
  · rintro s σ_ F_ H_ ⟨e41, e42, e43, e44, rfl, sf45, L46, h_seed_47, ⟨hp48, fp49, rl50⟩, -⟩
    exact ⟨sf45, L46.fh⟩
  · rintro q51 s52 σ_ F58 H59 v53 F60 H61 ⟨e62, e63, e64, e65, rfl, sf66, L67, h_seed_68, ⟨hp69, fp70, rl71⟩, -⟩ l54 rv55 s72 hm D57 hN56
    have L73 := L67.trans l54
    have sb74 := Same.trans sf66 l54.f
    replace fp70 := l54.nwl hp69 fp70
    replace hp69 := l54.h _ _ hp69
    replace rl71 := rpL.mono l54.f rl71
    refine gt_name ?_
    refine rd_forL L73.fh (ei_range2 (ev_op (ev_varF rfl rv55) ev_int rv_add) (ev_varF rfl h_points_6)) hm ?_
    intro xs75 J76 F77 H78 hm l79 wk80
    have L81 := L73.trans l79
    have sb82 := Same.trans sb74 l79.f
    replace fp70 := l79.nwl hp69 fp70
    replace hp69 := l79.h _ _ hp69
    replace rl71 := rpL.mono l79.f rl71
    refine rd_loopG wk80 hm (fun (s : Int × (List (Int × Int))) σ_ F_ H_ => ∃ (v5_ : V) (o9_ : Option V) (w7_ : List V), σ_ = [some v_script, some v_k, some v_most, some v_cap, some v2, some v5_, some v16, some (.ref p23), some v53, o9_] ∧ Same F77 F_ ∧ Lat F0 H F_ H_ ∧ Rep.rp s.1 v5_ F_ ∧ (H_ p23 = some (.lst w7_) ∧ F_ p23 = none ∧ rpL s.2 w7_ F_) ∧ True) ⟨_, _, _, rfl, (.refl _), L81, (Flat.any h_seed_68), ⟨hp69, fp70, rl71⟩, trivial⟩ ?_ ?_ ?_
    · rintro s σ_ F_ H_ ⟨e83, e84, e85, rfl, sf86, L87, h_seed_88, ⟨hp89, fp90, rl91⟩, -⟩
      exact ⟨sf86, L87.fh⟩
    · rintro q92 s93 σ_ F99 H100 v94 F101 H102 ⟨e103, e104, e105, rfl, sf106, L107, h_seed_108, ⟨hp109, fp110, rl111⟩, -⟩ l95 rv96 s112 hm D98 hN97
      have sb113 := Same.trans sb82 sf106
      have L114 := L107.trans l95
      have sb115 := Same.trans sb113 l95.f
      have sb116 := Same.trans sf106 l95.f
      replace fp110 := l95.nwl hp109 fp110
      replace hp109 := l95.h _ _ hp109
      replace rl111 := rpL.mono l95.f rl111
      refine gt_name ?_
      refine rd_join (fun (s : (List (Int × Int))) σ_ F_ H_ => ∃ (w7_ : List V), σ_ = [some v_script, some v_k, some v_most, some v_cap, some v2, some e103, some v16, some (.ref p23), some v53, some v94] ∧ Same F101 F_ ∧ Lat F0 H F_ H_ ∧ (H_ p23 = some (.lst w7_) ∧ F_ p23 = none ∧ rpL s w7_ F_) ∧ True) hm ?_ ?_
      · intro s117 hm D118 hN119 
        refine rd_if L114.fh (EVT.flat (evt_and (evt_of (ev_op (ev_op (ev_op (ev_varF rfl h_seed_108) ev_int rv_div) ev_int rv_mod) (ev_varF rfl h_thick_20) rv_cmp)) (evt_of (ev_op (ev_len (ev_var rfl (own_rp L114.fh hp109 rl111))) (ev_varF rfl h_cap) rv_cmp))) L114.fh) hm ?_ ?_
        · intro F120 H121 _ hm l122
          have L123 := L114.trans l122
          have sb124 := Same.trans sb115 l122.f
          have sb125 := Same.trans sb116 l122.f
          replace fp110 := l122.nwl hp109 fp110
          replace hp109 := l122.h _ _ hp109
          replace rl111 := rpL.mono l122.f rl111
          refine rd_appendL L123.fh rfl hp109 fp110 rl111 (ev_tup (ev_varF rfl rv55) (ev_varF rfl rv96)) hm ?_
          intro x126 w127 F128 H129 hm m130 fp131 hp132 rl133
          have L134 := m130.l0 _ _ L123 hz31
          have sb135 := Same.trans sb124 m130.f
          have sb136 := Same.trans sb125 m130.f
          have sb137 := Same.trans l122.f m130.f
          obtain rfl := Option.some.inj hm
          exact hN119 _ _ _ ⟨_, rfl, sb137, L134, ⟨hp132, fp131, rl133⟩, trivial⟩
        · intro F138 H139 _ hm l140
          have L141 := L114.trans l140
          have sb142 := Same.trans sb115 l140.f
          have sb143 := Same.trans sb116 l140.f
          replace fp110 := l140.nwl hp109 fp110
          replace hp109 := l140.h _ _ hp109
          replace rl111 := rpL.mono l140.f rl111
          obtain rfl := Option.some.inj hm
          exact hN119 _ _ _ ⟨_, rfl, l140.f, L141, ⟨hp109, fp110, rl111⟩, trivial⟩
      · rintro s144 σ_ F145 H146 hm ⟨e147, rfl, sf148, L149, ⟨hp150, fp151, rl152⟩, -⟩
        have sb153 := Same.trans sb115 sf148
        have sb154 := Same.trans sb116 sf148
        refine rd_asgL L149.fh (ev_call (eva_cons (ev_varF rfl h_seed_108) eva_nil)) hm ?_
        intro x155 v156 F157 H158 hm l159 h_seed_160
        have L161 := L149.trans l159
        have sb162 := Same.trans sb153 l159.f
        have sb163 := Same.trans sb154 l159.f
        replace fp151 := l159.nwl hp150 fp151
        replace hp150 := l159.h _ _ hp150
        replace rl152 := rpL.mono l159.f rl152
        obtain rfl := Option.some.inj hm
        exact hN97 _ _ _ ⟨_, _, _, rfl, sb163, L161, (Flat.any h_seed_160), ⟨hp150, fp151, rl152⟩, trivial⟩
    · rintro s164 σ_ F165 H166 hm ⟨e167, e168, e169, rfl, sf170, L171, h_seed_172, ⟨hp173, fp174, rl175⟩, -⟩
      have sb176 := Same.trans sb82 sf170
      obtain rfl := Option.some.inj hm
      exact hN56 _ _ _ ⟨_, _, _, _, rfl, sb176, L171, (Flat.any h_seed_172), ⟨hp173, fp174, rl175⟩, trivial⟩
  · rintro s177 σ_ F178 H179 hm ⟨e180, e181, e182, e183, rfl, sf184, L185, h_seed_186, ⟨hp187, fp188, rl189⟩, -⟩
    refine nx_with ?_
    obtain ⟨F190, L191, sf192, h_ties_193, fq194⟩ := freeze L185 hz31 fp188 hp187 rl189
    exact rd_ret0 L191.fh (ev_tup (ev_varF rfl h_points_6) (ev_var rfl h_ties_193)) hm fun v F1 H1 l rv => hQ v F1 H1 (L191.trans l) rv
abbrev s_good : Stmt := topS 21
theorem sc_good : FnScope ["points", "ties", "k"] ["points", "ties"] (defScope s_good) := ⟨rfl, rfl, rfl, by decide +kernel, rfl, by decide +kernel, by decide +kernel⟩
theorem ok_good {f : Addr} {fd : FuncData} (F : Fun K "_law_good" "_law_good" s_good f fd) (gF : mg "_law_good" = some (.ref f)) (T : Txt K mg ad CW) : Fn P w K mg base CX0 1 "_law_good" ["points", "ties"] (spO (β := Bool) fun (x : Int × (List (Int × Int)) × Unit) => good x.1 x.2.1) := by
  refine ⟨f, _, gF, F.kp, F.binds (ps := ["points", "ties"]) (fun _ _ _ _ _ _ us hl => match us, hl with | [_, _], _ => rfl), F.ok sc_good (spO_len rfl) (fun cdv A outer s H vs Q E hr h => ?_)⟩
  refine ⟨_, (pss_cons (ps_if (PW.pt (pw_or (pt_not (pt_chain op_le op_le pe_int (pv 0) pe_int)) (pw_or (pt_cmpR op_gt (pe_callB call_len_seq (by rfl) T.b_len PySem.boot_len (pa_cons (pv 1) pa_nil)) pe_int (nomark _)) (pw_or1 (pt_cmpR (op_neD (hu64 hr)) (pe_callB cr_sortedPO (by rfl) T.b_sorted (by decide +kernel) (pa_cons (pv 1) pa_nil)) (pv 1) (nomark _)))))) (pss_one (ps_ret pe_bl)) pss_nil)
    (pss_cons (ps_for PassesOwn.never rfl (pi_range1 (by rfl) T.b_range (pa_cons (pe_callB call_len_seq (by rfl) T.b_len PySem.boot_len (pa_cons (pv 1) pa_nil)) pa_nil)) (pg_name (i := 2) sc_good.nd rfl (by first | exact Or.inl rfl | exact Or.inr rfl)) (pss_one (ps_if (PW.pt (pw_or (pt_not (pt_chain3 op_le op_lt op_lt pe_int (pe_ix ix_tup (pe_ix ix_list (pv 1) (pv 2) (fun _ _ => rfl)) pe_int (fun _ _ => rfl)) (pe_ix ix_tup (pe_ix ix_list (pv 1) (pv 2) (fun _ _ => rfl)) pe_int (fun _ _ => rfl)) (pv 0))) (pw_or1 (pt_cmpR (op_inD (hu65 hr)) (pe_ix ix_list (pv 1) (pv 2) (fun _ _ => rfl)) (pe_slice sl_list (pv 1) po_none (po_some (pv 2))) (by rfl))))) (pss_one (ps_ret pe_bl)) pss_nil)))
    (pss_one (ps_ret pe_bl)))), ?_⟩
  obtain ⟨F0, ⟨x_points, x_ties, _⟩, y, s0, ⟨v_points, _, rfl, h_points, v_ties, _, rfl, h_ties, rfl⟩, hm, hQ⟩ := h
  have L0 : Lat F0 H F0 H := .refl s0
  refine at_st (σ := [some v_points, some v_ties, none]) rfl ?_
  replace hm : good x_points x_ties = some y := hm
  unfold good at hm
  refine rd_guard L0.fh (evt_or (evt_not (evt_of (ev_chain ev_int (ev_varF rfl h_points) ev_int rv_cmp rv_cmp))) (evt_or (evt_of (ev_op (ev_len (ev_var rfl h_ties)) ev_int rv_cmp)) (evt_of (ev_op (EVN.ev (evn_sortP (ev_var rfl h_ties))) (ev_var rfl h_ties) (fun x y => rv_neD x y))))) hm ?_ ?_
  · intro F1 H2 _ hm l3
    have L4 := L0.trans l3
    exact rd_ret0 L4.fh ev_bl hm fun v F1 H1 l rv => hQ v F1 H1 (L4.trans l) rv
  · intro F5 H6 _ hm l7
    have L8 := L0.trans l7
    replace h_ties := up h_ties l7
    refine rd_for L8.fh (ei_range1 (ev_len (ev_var rfl h_ties))) hm ?_
    intro xs9 J10 F11 H12 hm l13 wk14
    have L15 := L8.trans l13
    replace h_ties := up h_ties l13
    refine rd_loopR wk14 hm (fun (s : Unit) σ_ F_ H_ => ∃ (o2_ : Option V), σ_ = [some v_points, some v_ties, o2_] ∧ Same F11 F_ ∧ Lat F0 H F_ H_ ∧ True) ⟨_, rfl, (.refl _), L15, trivial⟩ ?_ ?_ ?_
    · rintro s σ_ F_ H_ ⟨e16, rfl, sf17, L18, -⟩
      exact ⟨sf17, L18.fh⟩
    · rintro q19 s20 σ_ F26 H27 v21 F28 H29 ⟨e30, rfl, sf31, L32, -⟩ l22 rv23 st35 hm D25 hD33 hN24 hR34
      replace hD33 : D25.rt = Q := hD33
      replace h_ties := Rep.mono sf31 h_ties
      have L36 := L32.trans l22
      have sb37 := Same.trans sf31 l22.f
      replace h_ties := up h_ties l22
      refine gt_name ?_
      refine rd_if L36.fh (evt_or (evt_not (evt_of (ev_chain3 ev_int (ev_fst (ev_op (ev_var rfl h_ties) (ev_varF rfl rv23) rv_ixL)) (ev_snd (ev_op (ev_var rfl h_ties) (ev_varF rfl rv23) rv_ixL)) (ev_varF rfl h_points) rv_cmp rv_cmp rv_cmp))) (evt_of (ev_op (ev_op (ev_var rfl h_ties) (ev_varF rfl rv23) rv_ixL) (EVN.ev (evn_cut (ev_var rfl h_ties) po_no (po_at (ev_varF rfl rv23)))) (fun x y => rv_inD x y)))) hm ?_ ?_
      · intro F38 H39 _ hm l40
        have L41 := L36.trans l40
        have sb42 := Same.trans sb37 l40.f
        replace h_ties := up h_ties l40
        refine rd_ret L41.fh ev_bl hm ?_
        intro x_ v_ F1_ H1_ hm l_ rv_
        replace hm := hR34 _ (Option.some.inj hm).symm
        obtain rfl := Option.some.inj hm
        rw [hD33]
        exact hQ _ _ _ (L41.trans l_) rv_
      · intro F43 H44 _ hm l45
        have L46 := L36.trans l45
        have sb47 := Same.trans sb37 l45.f
        replace h_ties := up h_ties l45
        exact hN24 _ (Option.some.inj hm).symm _ _ _ ⟨_, rfl, sb47, L46, trivial⟩
    · rintro s48 σ_ F49 H50 hm ⟨e51, rfl, sf52, L53, -⟩
      refine nx_with ?_
      exact rd_ret0 L53.fh ev_bl hm fun v F1 H1 l rv => hQ v F1 H1 (L53.trans l) rv
abbrev s_ties_like : Stmt := topS 22
theorem sc_ties_like : FnScope ["found", "due", "one", "other", "point"] ["found", "due"] (defScope s_ties_like) := ⟨rfl, rfl, rfl, by decide +kernel, rfl, by decide +kernel, by decide +kernel⟩
theorem ok_ties_like {f : Addr} {fd : FuncData} (F : Fun K "_law_ties_like" "_law_ties_like" s_ties_like f fd) (gF : mg "_law_ties_like" = some (.ref f)) (T : Txt K mg ad CW) : Fn P w K mg base CX0 1 "_law_ties_like" ["found", "due"] (spO (β := Bool) fun (x : (List (Int × Int)) × (List (Int × Int)) × Unit) => ties_like x.1 x.2.1) := by
  refine ⟨f, _, gF, F.kp, F.binds (ps := ["found", "due"]) (fun _ _ _ _ _ _ us hl => match us, hl with | [_, _], _ => rfl), F.ok sc_ties_like (spO_len rfl) (fun cdv A outer s H vs Q E hr h => ?_)⟩
  refine ⟨_, (pss_cons (ps_if (PW.pt (pw_or (pt_not (pt_val (pe_callB call_isi (by rfl) T.b_isinstance (by decide +kernel) (pa_cons (pv 0) (pa_cons (pe_bltn (v := .ty "list") (by rfl) T.b_list (by decide +kernel) rfl) pa_nil))))) (pw_or1 (pt_cmpR op_ne (pe_callB call_len_seq (by rfl) T.b_len PySem.boot_len (pa_cons (pv 0) pa_nil)) (pe_callB call_len_seq (by rfl) T.b_len PySem.boot_len (pa_cons (pv 1) pa_nil)) (nomark _))))) (pss_one (ps_ret pe_bl)) pss_nil)
    (pss_cons (ps_for PassesOwn.never rfl (pi_zip (by rfl) T.b_zip (pa_cons (pv 0) (pa_cons (pv 1) pa_nil))) (pg_tup rfl (pgs_cons (pg_name (i := 2) sc_ties_like.nd rfl (by first | exact Or.inl rfl | exact Or.inr rfl)) (pgs_cons (pg_name (i := 3) sc_ties_like.nd rfl (by first | exact Or.inl rfl | exact Or.inr rfl)) pgs_nil))) (pss_cons (ps_if (PW.pt (pw_or (pt_not (pt_val (pe_callB call_isi (by rfl) T.b_isinstance (by decide +kernel) (pa_cons (pv 2) (pa_cons (pe_bltn (v := .ty "tuple") (by rfl) T.b_tuple (by decide +kernel) rfl) pa_nil))))) (pw_or (pt_cmpR op_ne (pe_callB call_len_seq (by rfl) T.b_len PySem.boot_len (pa_cons (pv 2) pa_nil)) pe_int (nomark _)) (pw_or1 (pt_cmpR (op_neD (hu64 hr)) (pv 2) (pv 3) (nomark _)))))) (pss_one (ps_ret pe_bl)) pss_nil)
    (pss_one (ps_for PassesOwn.never rfl (pi_tup (pv 2)) (pg_name (i := 4) sc_ties_like.nd rfl (by first | exact Or.inl rfl | exact Or.inr rfl)) (pss_one (ps_if (PW.pt (pw_or (pt_not (pt_val (pe_callB call_isi (by rfl) T.b_isinstance (by decide +kernel) (pa_cons (pv 4) (pa_cons (pe_bltn (v := .ty "int") (by rfl) T.b_int (by decide +kernel) rfl) pa_nil))))) (pw_or1 (pt_val (pe_callB call_isi (by rfl) T.b_isinstance (by decide +kernel) (pa_cons (pv 4) (pa_cons (pe_bltn (v := .ty "bool") (by rfl) T.b_bool (by decide +kernel) rfl) pa_nil))))))) (pss_one (ps_ret pe_bl)) pss_nil))))))
    (pss_one (ps_ret pe_bl)))), ?_⟩
  obtain ⟨F0, ⟨x_found, x_due, _⟩, y, s0, ⟨v_found, _, rfl, h_found, v_due, _, rfl, h_due, rfl⟩, hm, hQ⟩ := h
  have L0 : Lat F0 H F0 H := .refl s0
  refine at_st (σ := [some v_found, some v_due, none, none, none]) rfl ?_
  replace hm : ties_like x_found x_due = some y := hm
  unfold ties_like at hm
  refine rd_guard L0.fh (evt_or (evt_not (evt_b (ev_isi (ev_var rfl h_found) true))) (evt_of (ev_op (ev_len (ev_var rfl h_found)) (ev_len (ev_var rfl h_due)) rv_neI))) hm ?_ ?_
  · intro F1 H2 _ hm l3
    have L4 := L0.trans l3
    exact rd_ret0 L4.fh ev_bl hm fun v F1 H1 l rv => hQ v F1 H1 (L4.trans l) rv
  · intro F5 H6 _ hm l7
    have L8 := L0.trans l7
    replace h_found := up h_found l7
    replace h_due := up h_due l7
    refine rd_for L8.fh (ei_zip (ev_var rfl h_found) (ev_var rfl h_due)) hm ?_
    intro xs9 J10 F11 H12 hm l13 wk14
    have L15 := L8.trans l13
    replace h_found := up h_found l13
    replace h_due := up h_due l13
    refine rd_loopR wk14 hm (fun (s : Unit) σ_ F_ H_ => ∃ (o2_ : Option V) (o3_ : Option V) (o4_ : Option V), σ_ = [some v_found, some v_due, o2_, o3_, o4_] ∧ Same F11 F_ ∧ Lat F0 H F_ H_ ∧ True) ⟨_, _, _, rfl, (.refl _), L15, trivial⟩ ?_ ?_ ?_
    · rintro s σ_ F_ H_ ⟨e16, e17, e18, rfl, sf19, L20, -⟩
      exact ⟨sf19, L20.fh⟩
    · rintro q21 s22 σ_ F28 H29 v23 F30 H31 ⟨e32, e33, e34, rfl, sf35, L36, -⟩ l24 rv25 st39 hm D27 hD37 hN26 hR38
      replace hD37 : D27.rt = Q := hD37
      have L40 := L36.trans l24
      have sb41 := Same.trans sf35 l24.f
      refine gt_pair rv25 l24.fh ?_
      intro v42 v43 h_one_44 h_other_45
      refine rd_guard L40.fh (evt_or (evt_not (evt_b (ev_isi (ev_var rfl h_one_44) true))) (evt_or (evt_of (ev_op (ev_len2 (ev_var rfl h_one_44)) ev_int rv_neI)) (evt_of (ev_op (ev_var rfl h_one_44) (ev_var rfl h_other_45) (fun x y => rv_neD x y))))) hm ?_ ?_
      · intro F46 H47 _ hm l48
        have L49 := L40.trans l48
        have sb50 := Same.trans sb41 l48.f
        replace h_one_44 := up h_one_44 l48
        replace h_other_45 := up h_other_45 l48
        refine rd_ret L49.fh ev_bl hm ?_
        intro x_ v_ F1_ H1_ hm l_ rv_
        replace hm := hR38 _ (Option.some.inj hm).symm
        obtain rfl := Option.some.inj hm
        rw [hD37]
        exact hQ _ _ _ (L49.trans l_) rv_
      · intro F51 H52 _ hm l53
        have L54 := L40.trans l53
        have sb55 := Same.trans sb41 l53.f
        replace h_one_44 := up h_one_44 l53
        replace h_other_45 := up h_other_45 l53
        refine rd_forL L54.fh (ei_tup (ev_var rfl h_one_44)) hm ?_
        intro xs56 J57 F58 H59 hm l60 wk61
        have L62 := L54.trans l60
        have sb63 := Same.trans sb55 l60.f
        replace h_one_44 := up h_one_44 l60
        replace h_other_45 := up h_other_45 l60
        refine rd_loopR wk61 hm (fun (s : Unit) σ_ F_ H_ => ∃ (o4_ : Option V), σ_ = [some v_found, some v_due, some v42, some v43, o4_] ∧ Same F58 F_ ∧ Lat F0 H F_ H_ ∧ True) ⟨_, rfl, (.refl _), L62, trivial⟩ ?_ ?_ ?_
        · rintro s σ_ F_ H_ ⟨e64, rfl, sf65, L66, -⟩
          exact ⟨sf65, L66.fh⟩
        · rintro q67 s68 σ_ F74 H75 v69 F76 H77 ⟨e78, rfl, sf79, L80, -⟩ l70 rv71 st83 hm D73 hD81 hN72 hR82
          replace hD81 : D73.rt = D27.rt := hD81
          have sb84 := Same.trans sb63 sf79
          replace h_one_44 := Rep.mono sf79 h_one_44
          replace h_other_45 := Rep.mono sf79 h_other_45
          have L85 := L80.trans l70
          have sb86 := Same.trans sb84 l70.f
          have sb87 := Same.trans sf79 l70.f
          replace h_one_44 := up h_one_44 l70
          replace h_other_45 := up h_other_45 l70
          refine gt_name ?_
          refine rd_if L85.fh (evt_or (evt_not (evt_b (ev_isi (ev_varF rfl rv71) true))) (evt_b (ev_isi (ev_varF rfl rv71) false))) hm ?_ ?_
          · intro F88 H89 _ hm l90
            have L91 := L85.trans l90
            have sb92 := Same.trans sb86 l90.f
            have sb93 := Same.trans sb87 l90.f
            replace h_one_44 := up h_one_44 l90
            replace h_other_45 := up h_other_45 l90
            refine rd_ret L91.fh ev_bl hm ?_
            intro x_ v_ F1_ H1_ hm l_ rv_
            replace hm := hR82 _ (Option.some.inj hm).symm
            replace hm := hR38 _ (Option.some.inj hm).symm
            obtain rfl := Option.some.inj hm
            rw [hD81, hD37]
            exact hQ _ _ _ (L91.trans l_) rv_
          · intro F94 H95 _ hm l96
            have L97 := L85.trans l96
            have sb98 := Same.trans sb86 l96.f
            have sb99 := Same.trans sb87 l96.f
            replace h_one_44 := up h_one_44 l96
            replace h_other_45 := up h_other_45 l96
            exact hN72 _ (Option.some.inj hm).symm _ _ _ ⟨_, rfl, sb99, L97, trivial⟩
        · rintro s100 σ_ F101 H102 hm ⟨e103, rfl, sf104, L105, -⟩
          have sb106 := Same.trans sb63 sf104
          replace h_one_44 := Rep.mono sf104 h_one_44
          replace h_other_45 := Rep.mono sf104 h_other_45
          exact hN26 _ (Option.some.inj hm).symm _ _ _ ⟨_, _, _, rfl, sb106, L105, trivial⟩
    · rintro s107 σ_ F108 H109 hm ⟨e110, e111, e112, rfl, sf113, L114, -⟩
      refine nx_with ?_
      exact rd_ret0 L114.fh ev_bl hm fun v F1 H1 l rv => hQ v F1 H1 (L114.trans l) rv
abbrev s_whole : Stmt := topS 23
theorem sc_whole : FnScope ["found"] ["found"] (defScope s_whole) := ⟨rfl, rfl, rfl, by decide +kernel, rfl, by decide +kernel, by decide +kernel⟩
theorem ok_whole {f : Addr} {fd : FuncData} (F : Fun K "_law_whole" "_law_whole" s_whole f fd) (gF : mg "_law_whole" = some (.ref f)) (T : Txt K mg ad CW) : Fn P w K mg base CX0 1 "_law_whole" ["found"] (spO (β := Bool) fun (x : Int × Unit) => whole x.1) := by
  refine ⟨f, _, gF, F.kp, F.binds (ps := ["found"]) (fun _ _ _ _ _ _ us hl => match us, hl with | [_], _ => rfl), F.ok sc_whole (spO_len rfl) (fun cdv A outer s H vs Q E hr h => ?_)⟩
  refine ⟨_, (pss_one (ps_ret (pe_and (pe_callB call_isi (by rfl) T.b_isinstance (by decide +kernel) (pa_cons (pv 0) (pa_cons (pe_bltn (v := .ty "int") (by rfl) T.b_int (by decide +kernel) rfl) pa_nil))) (pe_one (pe_not (pe_callB call_isi (by rfl) T.b_isinstance (by decide +kernel) (pa_cons (pv 0) (pa_cons (pe_bltn (v := .ty "bool") (by rfl) T.b_bool (by decide +kernel) rfl) pa_nil)))))))), ?_⟩
  obtain ⟨F0, ⟨x_found, _⟩, y, s0, ⟨v_found, _, rfl, h_found, rfl⟩, hm, hQ⟩ := h
  have L0 : Lat F0 H F0 H := .refl s0
  refine at_st (σ := [some v_found]) rfl ?_
  replace hm : whole x_found = some y := hm
  unfold whole at hm
  exact rd_ret0 L0.fh (ev_andV (ev_isi (ev_varF rfl h_found) true) (ev_notV (ev_isi (ev_varF rfl h_found) false))) hm fun v F1 H1 l rv => hQ v F1 H1 (L0.trans l) rv
abbrev s_figure : Stmt := topS 24
theorem sc_figure : FnScope ["word"] ["word"] (defScope s_figure) := ⟨rfl, rfl, rfl, by decide +kernel, rfl, by decide +kernel, by decide +kernel⟩
theorem ok_figure {f : Addr} {fd : FuncData} (F : Fun K "_law_figure" "_law_figure" s_figure f fd) (gF : mg "_law_figure" = some (.ref f)) (T : Txt K mg ad CW) : Fn P w K mg base CX0 1 "_law_figure" ["word"] (spO (β := Int) fun (x : PStr × Unit) => figure x.1) := by
  refine ⟨f, _, gF, F.kp, F.binds (ps := ["word"]) (fun _ _ _ _ _ _ us hl => match us, hl with | [_], _ => rfl), F.ok sc_figure (spO_len rfl) (fun cdv A outer s H vs Q E hr h => ?_)⟩
  refine ⟨_, (pss_cons (ps_if (PW.pt (pw_and (pt_cmpR op_eq (pe_callB call_len_str (by rfl) T.b_len PySem.boot_len (pa_cons (pv 0) pa_nil)) pe_int (nomark _)) (pw_and1 (pt_cmpR op_in_str (pv 0) pe_str (by rfl))))) (pss_one (ps_ret (pe_callTy call_int_str (by rfl) T.b_int (by decide +kernel) (pa_cons (pv 0) pa_nil)))) pss_nil)
    (pss_one (ps_ret (pe_un un_neg pe_int)))), ?_⟩
  obtain ⟨F0, ⟨x_word, _⟩, y, s0, ⟨v_word, _, rfl, h_word, rfl⟩, hm, hQ⟩ := h
  have L0 : Lat F0 H F0 H := .refl s0
  refine at_st (σ := [some v_word]) rfl ?_
  replace hm : figure x_word = some y := hm
  unfold figure at hm
  refine rd_guard L0.fh (evt_and (evt_of (ev_op (ev_lenStr (ev_varF rfl h_word)) ev_int rv_eqI)) (evt_of (ev_op (ev_varF rfl h_word) (ev_lit (l := [48, 49, 50, 51, 52, 53, 54, 55, 56, 57])) rv_inS))) hm ?_ ?_
  · intro F1 H2 _ hm l3
    have L4 := L0.trans l3
    exact rd_ret0 L4.fh (ev_intS (ev_varF rfl h_word)) hm fun v F1 H1 l rv => hQ v F1 H1 (L4.trans l) rv
  · intro F5 H6 _ hm l7
    have L8 := L0.trans l7
    exact rd_ret0 L8.fh (ev_neg ev_int) hm fun v F1 H1 l rv => hQ v F1 H1 (L8.trans l) rv
abbrev s_written : Stmt := topS 25
theorem sc_written : FnScope ["text", "ties", "words", "word"] ["text"] (defScope s_written) := ⟨rfl, rfl, rfl, by decide +kernel, rfl, by decide +kernel, by decide +kernel⟩
theorem ok_written {f : Addr} {fd : FuncData} (F : Fun K "_law_written" "_law_written" s_written f fd) (gF : mg "_law_written" = some (.ref f)) (T : Txt K mg ad CW) (C_figure : Fn P w K mg base CX0 1 "_law_figure" ["word"] (spO (β := Int) fun (x : PStr × Unit) => figure x.1)) (C_good : Fn P w K mg base CX0 1 "_law_good" ["points", "ties"] (spO (β := Bool) fun (x : Int × (List (Int × Int)) × Unit) => good x.1 x.2.1)) : Fn P w K mg base CX0 2 "_law_written" ["text"] (spO (β := (Option (Int × (List (Int × Int))))) fun (x : PStr × Unit) => written x.1) := by
  refine ⟨f, _, gF, F.kp, F.binds (ps := ["text"]) (fun _ _ _ _ _ _ us hl => match us, hl with | [_], _ => rfl), F.ok sc_written (spO_len rfl) (fun cdv A outer s H vs Q E hr h => ?_)⟩
  refine ⟨_, (pss_cons (ps_if (PW.pt (pw_or (pt_cmpR op_ne (pe_slice sl_str (pv 0) (po_some pe_int) (po_some pe_int)) pe_str (nomark _)) (pw_or1 (pt_cmpR op_lt (pe_fn C_figure (hr.mono (by decide)) rfl (pa_cons (pe_slice sl_str (pv 0) po_none (po_some pe_int)) pa_nil)) pe_int (nomark _))))) (pss_one (ps_ret pe_non)) pss_nil)
    (pss_cons (ps_set (i := 1) sc_written.nd rfl (by first | exact Or.inl rfl | exact Or.inr rfl) (pe_lst pa_nil))
    (pss_cons (ps_set (i := 2) sc_written.nd rfl (by first | exact Or.inl rfl | exact Or.inr rfl) (pe_split (pe_slice sl_str (pv 0) (po_some pe_int) po_none) pe_str))
    (pss_cons (ps_if (pt_cmpR op_ne (pe_ix ix_list (pv 2) pe_int (fun _ _ => rfl)) pe_str (nomark _)) (pss_one (ps_ret pe_non)) pss_nil)
    (pss_cons (ps_for PassesOwn.never rfl (pi_list (pe_slice sl_list (pv 2) (po_some pe_int) po_none)) (pg_name (i := 3) sc_written.nd rfl (by first | exact Or.inl rfl | exact Or.inr rfl)) (pss_cons (ps_if (PW.pt (pw_or (pt_cmpR op_ne (pe_callB call_len_str (by rfl) T.b_len PySem.boot_len (pa_cons (pv 3) pa_nil)) pe_int (nomark _)) (pw_or (pt_cmpR op_ne (pe_ix ix_str (pv 3) pe_int (fun _ _ => rfl)) pe_str (nomark _)) (pw_or (pt_cmpR op_lt (pe_fn C_figure (hr.mono (by decide)) rfl (pa_cons (pe_ix ix_str (pv 3) pe_int (fun _ _ => rfl)) pa_nil)) pe_int (nomark _)) (pw_or1 (pt_cmpR op_lt (pe_fn C_figure (hr.mono (by decide)) rfl (pa_cons (pe_ix ix_str (pv 3) pe_int (fun _ _ => rfl)) pa_nil)) pe_int (nomark _))))))) (pss_one (ps_ret pe_non)) pss_nil)
    (pss_one (ps_expr (pe_bm PySem.F.plainAttrs_list PySem.F.slot_list_append PySem.F.type_list_append mt_append (pv 1) (pa_cons (pe_tup (pa_cons (pe_fn C_figure (hr.mono (by decide)) rfl (pa_cons (pe_ix ix_str (pv 3) pe_int (fun _ _ => rfl)) pa_nil)) (pa_cons (pe_fn C_figure (hr.mono (by decide)) rfl (pa_cons (pe_ix ix_str (pv 3) pe_int (fun _ _ => rfl)) pa_nil)) pa_nil))) pa_nil))))))
    (pss_cons (ps_if (pt_not (pt_val (pe_fn C_good (hr.mono (by decide)) rfl (pa_cons (pe_fn C_figure (hr.mono (by decide)) rfl (pa_cons (pe_ix ix_str (pv 0) pe_int (fun _ _ => rfl)) pa_nil)) (pa_cons (pv 1) pa_nil))))) (pss_one (ps_ret pe_non)) pss_nil)
    (pss_one (ps_ret (pe_tup (pa_cons (pe_fn C_figure (hr.mono (by decide)) rfl (pa_cons (pe_ix ix_str (pv 0) pe_int (fun _ _ => rfl)) pa_nil)) (pa_cons (pv 1) pa_nil))))))))))), ?_⟩
  obtain ⟨F0, ⟨x_text, _⟩, y, s0, ⟨v_text, _, rfl, h_text, rfl⟩, hm, hQ⟩ := h
  have L0 : Lat F0 H F0 H := .refl s0
  refine at_st (σ := [some v_text, none, none, none]) rfl ?_
  replace hm : written x_text = some y := hm
  unfold written at hm
  refine rd_guard L0.fh (evt_or (evt_of (ev_op (ev_cutStr (ev_varF rfl h_text) (po_at ev_int) (po_at ev_int)) (ev_lit (l := [58])) rv_neP)) (evt_of (ev_op (ev_call (eva_cons (ev_cutStr (ev_varF rfl h_text) po_no (po_at ev_int)) eva_nil)) ev_int rv_cmp))) hm ?_ ?_
  · intro F1 H2 _ hm l3
    have L4 := L0.trans l3
    exact rd_ret0 L4.fh (ev_non (α := Int × (List (Int × Int)))) hm fun v F1 H1 l rv => hQ v F1 H1 (L4.trans l) rv
  · intro F5 H6 _ hm l7
    have L8 := L0.trans l7
    refine rd_asgN L8.fh (evn_nil (α := Int × Int)) hm ?_
    intro x9 p10 w11 F12 H13 hm l14 hn19 fp16 hp15 rl17
    have hz18 := L8.h.free hn19
    have L20 := L8.trans l14
    refine rd_asg L20.fh (EVN.ev (evn_split (ev_cutStr (ev_varF rfl h_text) (po_at ev_int) po_no) (ev_lit (l := [32])))) hm ?_
    intro x21 v22 F23 H24 hm l25 h_words_26
    have L27 := L20.trans l25
    replace fp16 := l25.nwl hp15 fp16
    replace hp15 := l25.h _ _ hp15
    replace rl17 := rpL.mono l25.f rl17
    refine rd_guard L27.fh (evt_of (ev_op (ev_op (ev_var rfl h_words_26) ev_int rv_ixL) (ev_lit (l := [])) rv_neP)) hm ?_ ?_
    · intro F28 H29 _ hm l30
      have L31 := L27.trans l30
      exact rd_ret0 L31.fh (ev_non (α := Int × (List (Int × Int)))) hm fun v F1 H1 l rv => hQ v F1 H1 (L31.trans l) rv
    · intro F32 H33 _ hm l34
      have L35 := L27.trans l34
      replace fp16 := l34.nwl hp15 fp16
      replace hp15 := l34.h _ _ hp15
      replace rl17 := rpL.mono l34.f rl17
      replace h_words_26 := up h_words_26 l34
      refine rd_for L35.fh (ei_list (EVN.ev (evn_cut (ev_var rfl h_words_26) (po_at ev_int) po_no))) hm ?_
      intro xs36 J37 F38 H39 hm l40 wk41
      have L42 := L35.trans l40
      replace fp16 := l40.nwl hp15 fp16
      replace hp15 := l40.h _ _ hp15
      replace rl17 := rpL.mono l40.f rl17
      replace h_words_26 := up h_words_26 l40
      refine rd_loopR wk41 hm (fun (s : (List (Int × Int))) σ_ F_ H_ => ∃ (o3_ : Option V) (w1_ : List V), σ_ = [some v_text, some (.ref p10), some v22, o3_] ∧ Same F38 F_ ∧ Lat F0 H F_ H_ ∧ (H_ p10 = some (.lst w1_) ∧ F_ p10 = none ∧ rpL s w1_ F_) ∧ True) ⟨_, _, rfl, (.refl _), L42, ⟨hp15, fp16, rl17⟩, trivial⟩ ?_ ?_ ?_
      · rintro s σ_ F_ H_ ⟨e43, e44, rfl, sf45, L46, ⟨hp47, fp48, rl49⟩, -⟩
        exact ⟨sf45, L46.fh⟩
      · rintro q50 s51 σ_ F57 H58 v52 F59 H60 ⟨e61, e62, rfl, sf63, L64, ⟨hp65, fp66, rl67⟩, -⟩ l53 rv54 st70 hm D56 hD68 hN55 hR69
        replace hD68 : D56.rt = Q := hD68
        have L71 := L64.trans l53
        have sb72 := Same.trans sf63 l53.f
        replace fp66 := l53.nwl hp65 fp66
        replace hp65 := l53.h _ _ hp65
        replace rl67 := rpL.mono l53.f rl67
        refine gt_name ?_
        refine rd_guard L71.fh (evt_or (evt_of (ev_op (ev_lenStr (ev_varF rfl rv54)) ev_int rv_neI)) (evt_or (evt_of (ev_op (ev_op (ev_varF rfl rv54) ev_int rv_ixStr) (ev_lit (l := [45])) rv_neP)) (evt_or (evt_of (ev_op (ev_call (eva_cons (ev_op (ev_varF rfl rv54) ev_int rv_ixStr) eva_nil)) ev_int rv_cmp)) (evt_of (ev_op (ev_call (eva_cons (ev_op (ev_varF rfl rv54) ev_int rv_ixStr) eva_nil)) ev_int rv_cmp))))) hm ?_ ?_
        · intro F73 H74 _ hm l75
          have L76 := L71.trans l75
          have sb77 := Same.trans sb72 l75.f
          replace fp66 := l75.nwl hp65 fp66
          replace hp65 := l75.h _ _ hp65
          replace rl67 := rpL.mono l75.f rl67
          refine rd_ret L76.fh (ev_non (α := Int × (List (Int × Int)))) hm ?_
          intro x_ v_ F1_ H1_ hm l_ rv_
          replace hm := hR69 _ (Option.some.inj hm).symm
          obtain rfl := Option.some.inj hm
          rw [hD68]
          exact hQ _ _ _ (L76.trans l_) rv_
        · intro F78 H79 _ hm l80
          have L81 := L71.trans l80
          have sb82 := Same.trans sb72 l80.f
          replace fp66 := l80.nwl hp65 fp66
          replace hp65 := l80.h _ _ hp65
          replace rl67 := rpL.mono l80.f rl67
          refine rd_appendL L81.fh rfl hp65 fp66 rl67 (ev_tup (ev_call (eva_cons (ev_op (ev_varF rfl rv54) ev_int rv_ixStr) eva_nil)) (ev_call (eva_cons (ev_op (ev_varF rfl rv54) ev_int rv_ixStr) eva_nil))) hm ?_
          intro x83 w84 F85 H86 hm m87 fp88 hp89 rl90
          have L91 := m87.l0 _ _ L81 hz18
          have sb92 := Same.trans sb82 m87.f
          exact hN55 _ (Option.some.inj hm).symm _ _ _ ⟨_, _, rfl, sb92, L91, ⟨hp89, fp88, rl90⟩, trivial⟩
      · rintro s93 σ_ F94 H95 hm ⟨e96, e97, rfl, sf98, L99, ⟨hp100, fp101, rl102⟩, -⟩
        refine nx_with ?_
        obtain ⟨F103, L104, sf105, h_ties_106, fq107⟩ := freeze L99 hz18 fp101 hp100 rl102
        refine rd_guard L104.fh (evt_not (evt_b (ev_call (eva_cons (ev_call (eva_cons (ev_op (ev_varF rfl h_text) ev_int rv_ixStr) eva_nil)) (eva_cons (ev_var rfl h_ties_106) eva_nil))))) hm ?_ ?_
        · intro F108 H109 _ hm l110
          have L111 := L104.trans l110
          exact rd_ret0 L111.fh (ev_non (α := Int × (List (Int × Int)))) hm fun v F1 H1 l rv => hQ v F1 H1 (L111.trans l) rv
        · intro F112 H113 _ hm l114
          have L115 := L104.trans l114
          replace h_ties_106 := up h_ties_106 l114
          exact rd_ret0 L115.fh (ev_some (ev_tup (ev_call (eva_cons (ev_op (ev_varF rfl h_text) ev_int rv_ixStr) eva_nil)) (ev_var rfl h_ties_106))) hm fun v F1 H1 l rv => hQ v F1 H1 (L115.trans l) rv
abbrev s_sign : Stmt := topS 26
theorem sc_sign : FnScope ["cell", "some"] ["cell"] (defScope s_sign) := ⟨rfl, rfl, rfl, by decide +kernel, rfl, by decide +kernel, by decide +kernel⟩
theorem ok_sign {f : Addr} {fd : FuncData} (F : Fun K "_law_sign" "_law_sign" s_sign f fd) (gF : mg "_law_sign" = some (.ref f)) (T : Txt K mg ad CW) : Fn P w K mg base CX0 1 "_law_sign" ["cell"] (spO (β := PStr) fun (x : Int × Unit) => sign x.1) := by
  refine ⟨f, _, gF, F.kp, F.binds (ps := ["cell"]) (fun _ _ _ _ _ _ us hl => match us, hl with | [_], _ => rfl), F.ok sc_sign (spO_len rfl) (fun cdv A outer s H vs Q E hr h => ?_)⟩
  refine ⟨_, (pss_cons (ps_if (pt_cmpR op_eq (pe_op op_mod (pv 0) pe_int) pe_int (nomark _)) (pss_one (ps_ret (pe_ix ix_str pe_str (pe_op op_mod (pe_op op_fdiv (pv 0) pe_int) pe_int) (fun _ _ => rfl)))) pss_nil)
    (pss_cons (ps_set (i := 1) sc_sign.nd rfl (by first | exact Or.inl rfl | exact Or.inr rfl) pe_str)
    (pss_cons (ps_set (i := 1) sc_sign.nd rfl (by first | exact Or.inl rfl | exact Or.inr rfl) (pe_op op_add_str (pv 1) pe_str))
    (pss_one (ps_ret (pe_ix ix_str (pv 1) (pe_op op_mod (pe_op op_fdiv (pv 0) pe_int) pe_int) (fun _ _ => rfl))))))), ?_⟩
  obtain ⟨F0, ⟨x_cell, _⟩, y, s0, ⟨v_cell, _, rfl, h_cell, rfl⟩, hm, hQ⟩ := h
  have L0 : Lat F0 H F0 H := .refl s0
  refine at_st (σ := [some v_cell, none]) rfl ?_
  replace hm : sign x_cell = some y := hm
  unfold sign at hm
  refine rd_guard L0.fh (evt_of (ev_op (ev_op (ev_varF rfl h_cell) ev_int rv_mod) ev_int rv_eqI)) hm ?_ ?_
  · intro F1 H2 _ hm l3
    have L4 := L0.trans l3
    exact rd_ret0 L4.fh (ev_op (ev_lit (l := [48, 49, 50, 51, 52, 53, 54, 55, 45, 58, 32])) (ev_op (ev_op (ev_varF rfl h_cell) ev_int rv_div) ev_int rv_mod) rv_ixStr) hm fun v F1 H1 l rv => hQ v F1 H1 (L4.trans l) rv
  · intro F5 H6 _ hm l7
    have L8 := L0.trans l7
    refine rd_asg L8.fh (ev_lit (l := [32, 33, 34, 35, 36, 38, 39, 40, 41, 42, 43, 44, 45, 46, 47, 48, 49, 50, 51, 52, 53, 54, 55, 56, 57, 58, 59, 60, 61, 62, 63, 64, 65, 66, 67, 68, 69, 70, 71, 72, 73, 74, 75, 76, 77, 78, 79, 80, 81, 82, 83, 84, 85, 86, 87, 88, 89, 90, 91, 92, 93, 94, 95, 96])) hm ?_
    intro x9 v10 F11 H12 hm l13 h_some_14
    have L15 := L8.trans l13
    refine rd_asg L15.fh (ev_op (ev_varF rfl h_some_14) (ev_lit (l := [97, 98, 99, 100, 101, 102, 103, 104, 105, 106, 107, 108, 109, 110, 111, 112, 113, 114, 115, 116, 117, 118, 119, 120, 121, 122, 123, 124, 125, 126, 10])) rv_catS) hm ?_
    intro x16 v17 F18 H19 hm l20 h_some_21
    have L22 := L15.trans l20
    exact rd_ret0 L22.fh (ev_op (ev_varF rfl h_some_21) (ev_op (ev_op (ev_varF rfl h_cell) ev_int rv_div) ev_int rv_mod) rv_ixStr) hm fun v F1 H1 l rv => hQ v F1 H1 (L22.trans l) rv
abbrev s_odd : Stmt := topS 27
theorem sc_odd : FnScope ["cell", "some"] ["cell"] (defScope s_odd) := ⟨rfl, rfl, rfl, by decide +kernel, rfl, by decide +kernel, by decide +kernel⟩
theorem ok_odd {f : Addr} {fd : FuncData} (F : Fun K "_law_odd" "_law_odd" s_odd f fd) (gF : mg "_law_odd" = some (.ref f)) (T : Txt K mg ad CW) : Fn P w K mg base CX0 1 "_law_odd" ["cell"] (spO (β := PStr) fun (x : Int × Unit) => odd x.1) := by
  refine ⟨f, _, gF, F.kp, F.binds (ps := ["cell"]) (fun _ _ _ _ _ _ us hl => match us, hl with | [_], _ => rfl), F.ok sc_odd (spO_len rfl) (fun cdv A outer s H vs Q E hr h => ?_)⟩
  refine ⟨_, (pss_cons (ps_set (i := 1) sc_odd.nd rfl (by first | exact Or.inl rfl | exact Or.inr rfl) (pe_lst (pa_cons pe_str (pa_cons pe_str (pa_cons pe_str (pa_cons pe_str (pa_cons pe_str (pa_cons pe_str (pa_cons pe_str (pa_cons pe_str (pa_cons pe_str (pa_cons pe_str (pa_cons pe_str (pa_cons pe_str (pa_cons pe_str (pa_cons pe_str (pa_cons pe_str pa_nil)))))))))))))))))
    (pss_cons (ps_set (i := 1) sc_odd.nd rfl (by first | exact Or.inl rfl | exact Or.inr rfl) (pe_op op_cat (pv 1) (pe_lst (pa_cons pe_str (pa_cons pe_str (pa_cons pe_str (pa_cons pe_str (pa_cons pe_str (pa_cons pe_str (pa_cons pe_str (pa_cons pe_str (pa_cons pe_str pa_nil))))))))))))
    (pss_one (ps_ret (pe_ix ix_list (pv 1) (pe_op op_mod (pv 0) (pe_callB call_len_seq (by rfl) T.b_len PySem.boot_len (pa_cons (pv 1) pa_nil))) (fun _ _ => rfl)))))), ?_⟩
  obtain ⟨F0, ⟨x_cell, _⟩, y, s0, ⟨v_cell, _, rfl, h_cell, rfl⟩, hm, hQ⟩ := h
  have L0 : Lat F0 H F0 H := .refl s0
  refine at_st (σ := [some v_cell, none]) rfl ?_
  replace hm : odd x_cell = some y := hm
  unfold odd at hm
  refine rd_asg L0.fh (EVN.ev (evn_lst (evl_cons (ev_lit (l := [])) (evl_cons (ev_lit (l := [58])) (evl_cons (ev_lit (l := [51])) (evl_cons (ev_lit (l := [51, 32, 58])) (evl_cons (ev_lit (l := [32, 51, 58])) (evl_cons (ev_lit (l := [51, 58, 32])) (evl_cons (ev_lit (l := [51, 58, 48, 45, 49])) (evl_cons (ev_lit (l := [48, 51, 58])) (evl_cons (ev_lit (l := [56, 58])) (evl_cons (ev_lit (l := [55, 58])) (evl_cons (ev_lit (l := [48, 58])) (evl_cons (ev_lit (l := [49, 58, 32, 48, 45, 48])) (evl_cons (ev_lit (l := [50, 58, 32, 48, 45, 49])) (evl_cons (ev_lit (l := [50, 58, 32, 49, 45, 48])) (evl_cons (ev_lit (l := [50, 58, 32, 48, 45, 50])) evl_nil))))))))))))))))) hm ?_
  intro x1 v2 F3 H4 hm l5 h_some_6
  have L7 := L0.trans l5
  refine rd_asg L7.fh (EVN.ev (evn_op (ev_var rfl h_some_6) (EVN.ev (evn_lst (evl_cons (ev_lit (l := [51, 58, 32, 48, 45, 49, 32, 48, 45, 49])) (evl_cons (ev_lit (l := [51, 58, 32, 48, 45, 50, 32, 48, 45, 49])) (evl_cons (ev_lit (l := [51, 58, 32, 48, 45, 49, 32, 32, 48, 45, 50])) (evl_cons (ev_lit (l := [51, 58, 32, 48, 32, 49])) (evl_cons (ev_lit (l := [51, 58, 32, 48, 45, 45, 49])) (evl_cons (ev_lit (l := [51, 58, 32, 45, 49, 45, 50])) (evl_cons (ev_lit (l := [51, 58, 32, 48, 45, 49, 45, 50])) (evl_cons (ev_lit (l := [49, 48, 58])) (evl_cons (ev_lit (l := [51, 58, 10])) evl_nil))))))))))) rvn_cat)) hm ?_
  intro x8 v9 F10 H11 hm l12 h_some_13
  have L14 := L7.trans l12
  exact rd_ret0 L14.fh (ev_op (ev_var rfl h_some_13) (ev_op (ev_varF rfl h_cell) (ev_len (ev_var rfl h_some_13)) rv_mod) rv_ixL) hm fun v F1 H1 l rv => hQ v F1 H1 (L14.trans l) rv
abbrev s_refused : Stmt := topS 28
theorem sc_refused : FnScope ["text", "other", "e"] ["text"] (defScope s_refused) := ⟨rfl, rfl, rfl, by decide +kernel, rfl, by decide +kernel, by decide +kernel⟩
theorem ok_refused {f : Addr} {fd : FuncData} (F : Fun K "_law_refused" "_law_refused" s_refused f fd) (gF : mg "_law_refused" = some (.ref f)) (T : Txt K mg ad CW) (C_read : Fn P w K mg base (L2.CX P w) 3 "read" ["text"] (spX (clO ad) (β := (Int × (List (Int × Int)))) fun (x : PStr × Unit) => read x.1)) : Fn P w K mg base CX0 4 "_law_refused" ["text"] (spO (β := Bool) fun (x : PStr × Unit) => refused x.1) := by
  refine ⟨f, _, gF, F.kp, F.binds (ps := ["text"]) (fun _ _ _ _ _ _ us hl => match us, hl with | [_], _ => rfl), F.ok sc_refused (spO_len rfl) (fun cdv A outer s H vs Q E hr h => ?_)⟩
  refine ⟨_, (pss_cons (ps_tryE (ad := ad) (i := 2) rfl rfl sc_refused.nd rfl rfl ⟨rfl, by decide, .inl T.g_WebError⟩ (fun W pn xe tk _ => (pss_one (ps_expr (pe_fnX tk C_read (hr.mono (by decide)) rfl (pa_cons (pv 0) pa_nil))))) (fun er a oe pn hz hv => (pss_cons (ps_set (i := 1) sc_refused.nd rfl (by first | exact Or.inl rfl | exact Or.inr rfl) (pe_or (pe_callB (call_isE (T.kit.ex er) hz hv) (by rfl) T.b_isinstance (by decide +kernel) (pa_cons (pv 2) (pa_cons (pe_glob (v := .ref (ad .noWeb)) rfl T.e_NoWeb rfl) pa_nil))) (pe_or (pe_callB (call_isE (T.kit.ex er) hz hv) (by rfl) T.b_isinstance (by decide +kernel) (pa_cons (pv 2) (pa_cons (pe_glob (v := .ref (ad .noTie)) rfl T.e_NoTie rfl) pa_nil))) (pe_one (pe_callB (call_isE (T.kit.ex er) hz hv) (by rfl) T.b_isinstance (by decide +kernel) (pa_cons (pv 2) (pa_cons (pe_glob (v := .ref (ad .noDyeing)) rfl T.e_NoDyeing rfl) pa_nil)))))))
    (pss_cons (ps_set (i := 1) sc_refused.nd rfl (by first | exact Or.inl rfl | exact Or.inr rfl) (pe_or (pv 1) (pe_or (pe_callB (call_isE (T.kit.ex er) hz hv) (by rfl) T.b_isinstance (by decide +kernel) (pa_cons (pv 2) (pa_cons (pe_glob (v := .ref (ad .noSetting)) rfl T.e_NoSetting rfl) pa_nil))) (pe_one (pe_callB (call_isE (T.kit.ex er) hz hv) (by rfl) T.b_isinstance (by decide +kernel) (pa_cons (pv 2) (pa_cons (pe_glob (v := .ref (ad .goesRound)) rfl T.e_GoesRound rfl) pa_nil)))))))
    (pss_one (ps_ret (pe_and (pe_callB (call_isE (T.kit.ex er) hz hv) (by rfl) T.b_isinstance (by decide +kernel) (pa_cons (pv 2) (pa_cons (pe_glob (v := .ref (ad .noNote)) rfl T.e_NoNote rfl) pa_nil))) (pe_and (pe_callB (call_isE (T.kit.ex er) hz hv) (by rfl) T.b_isinstance (by decide +kernel) (pa_cons (pv 2) (pa_cons (pe_bltn (v := .ty "ValueError") (by rfl) T.b_ValueError (by decide +kernel) rfl) pa_nil))) (pe_one (pe_not (pv 1)))))))))))
    (pss_one (ps_ret pe_bl))), ?_⟩
  obtain ⟨F0, ⟨x_text, _⟩, y, s0, ⟨v_text, _, rfl, h_text, rfl⟩, hm, hQ⟩ := h
  have L0 : Lat F0 H F0 H := .refl s0
  refine at_st (σ := [some v_text, none, none]) rfl ?_
  replace hm : refused x_text = some y := hm
  unfold refused at hm
  refine rd_seq (rd_try (F := F0) (F0 := F0) (H0 := H) T.kit.exm hm ?_ ?_)
  · intro y1 hm hf2 W3 hW4
    refine rd_dropXL L0.fh (ex_call (EVA.x (eva_cons (ev_varF rfl h_text) eva_nil))) hm (fun e F1 H1 ee l => hW4 e F1 H1 ee (L0.trans l) l.f) ?_
    intro x15 F16 H17 hm l18
    have L19 := L0.trans l18
    replace hm := hf2 () (Option.some.inj hm).symm
    first | refine nx_with ?_ | skip
    exact rd_ret0 L19.fh ev_bl hm fun v F1 H1 l rv => hQ v F1 H1 (L19.trans l) rv
  · intro er5 a6 F7 H8 hm L9 sf10 ha11 D12 hD13 hN14
    refine rd_asg L9.fh (ev_orV (ev_isE T.kit rfl) (ev_orV (ev_isE T.kit rfl) (ev_isE T.kit rfl))) hm ?_
    intro x20 v21 F22 H23 hm l24 h_other_25
    have L26 := L9.trans l24
    refine rd_asg L26.fh (ev_orV (ev_varF rfl h_other_25) (ev_orV (ev_isE T.kit rfl) (ev_isE T.kit rfl))) hm ?_
    intro x27 v28 F29 H30 hm l31 h_other_32
    have L33 := L26.trans l31
    refine rd_ret0 L33.fh (ev_andV (ev_isE T.kit rfl) (ev_andV (ev_isV T.kit rfl) (ev_notV (ev_varF rfl h_other_32)))) hm ?_
    intro v_ F1_ H1_ l_ rv_
    rw [hD13]
    exact hQ _ _ _ (L33.trans l_) rv_
abbrev s_law : Stmt := topS 29
theorem sc_law : FnScope ["script", "points", "ties", "text", "way", "at", "sign", "due", "found", "tie"] ["script"] (defScope s_law) := ⟨rfl, rfl, rfl, by decide +kernel, rfl, by decide +kernel, by decide +kernel⟩
theorem ok_law {f : Addr} {fd : FuncData} (F : Fun K "law" "law" s_law f fd) (gF : mg "law" = some (.ref f)) (T : Txt K mg ad CW) (C_web_by : Fn P w K mg base CX0 2 "_law_web_by" ["script", "k", "most", "cap"] (spO (β := (Int × (List (Int × Int)))) fun (x : (Scr K) × Int × Int × Int × Unit) => web_by x.1.l x.2.1 x.2.2.1 x.2.2.2.1)) (C_cell_at : Fn P w K mg base CX0 1 "_law_cell_at" ["script", "k"] (spO (β := Int) fun (x : (Scr K) × Int × Unit) => cell_at x.1.l x.2.1)) (C_sign : Fn P w K mg base CX0 1 "_law_sign" ["cell"] (spO (β := PStr) fun (x : Int × Unit) => sign x.1)) (C_next : Fn P w K mg base CX0 1 "_law_next" ["seed"] (spO (β := Int) fun (x : Int × Unit) => next x.1)) (C_odd : Fn P w K mg base CX0 1 "_law_odd" ["cell"] (spO (β := PStr) fun (x : Int × Unit) => odd x.1)) (C_written : Fn P w K mg base CX0 2 "_law_written" ["text"] (spO (β := (Option (Int × (List (Int × Int))))) fun (x : PStr × Unit) => written x.1)) (C_refused : Fn P w K mg base CX0 4 "_law_refused" ["text"] (spO (β := Bool) fun (x : PStr × Unit) => refused x.1)) (C_read : Fn P w K mg base (L2.CX P w) 3 "read" ["text"] (spX (clO ad) (β := (Int × (List (Int × Int)))) fun (x : PStr × Unit) => read x.1)) (C_whole : Fn P w K mg base CX0 1 "_law_whole" ["found"] (spO (β := Bool) fun (x : Int × Unit) => whole x.1)) (C_ties_like : Fn P w K mg base CX0 1 "_law_ties_like" ["found", "due"] (spO (β := Bool) fun (x : (List (Int × Int)) × (List (Int × Int)) × Unit) => ties_like x.1 x.2.1)) : FnOk P w K mg base CX0 5 f fd ["script"] (spO (β := Bool) fun (x : (Scr K) × Unit) => law x.1.l) := by
  refine F.ok sc_law (spO_len rfl) (fun cdv A outer s H vs Q E hr h => ?_)
  refine ⟨_, (pss_cons (ps_asg (pe_fn C_web_by (hr.mono (by decide)) rfl (pa_cons (pv 0) (pa_cons pe_int (pa_cons pe_int (pa_cons pe_int pa_nil))))) (pg_tup rfl (pgs_cons (pg_name (i := 1) sc_law.nd rfl (by first | exact Or.inl rfl | exact Or.inr rfl)) (pgs_cons (pg_name (i := 2) sc_law.nd rfl (by first | exact Or.inl rfl | exact Or.inr rfl)) pgs_nil))))
    (pss_cons (ps_set (i := 3) sc_law.nd rfl (by first | exact Or.inl rfl | exact Or.inr rfl) (pe_join pe_str (pe_op op_cat (pe_lst (pa_cons (pe_op op_add_str (pe_callTy call_str_int (by rfl) T.b_str (by decide +kernel) (pa_cons (pv 1) pa_nil)) pe_str) pa_nil)) (pe_lc (own := [("tie", 9)]) (g := (gName 9)) rfl sc_law.nd (pi_list (pv 2)) (blkOk_by (N := ["script", "points", "ties", "text", "way", "at", "sign", "due", "found", "tie"]) (sc := defScope s_law) (by decide +kernel)) (fun _ _ _ _ _ => (pg_name (i := 9) sc_law.nd rfl (by first | exact Or.inl rfl | exact Or.inr rfl))) (fun _ _ _ _ _ => pts_nil) (fun _ _ _ _ _ => (pe_op op_add_str (pe_op op_add_str (pe_callTy call_str_int (by rfl) T.b_str (by decide +kernel) (pa_cons (pe_ix (ix_tupK rfl) (pv 9) pe_int (fun _ _ => rfl)) pa_nil)) pe_str) (pe_callTy call_str_int (by rfl) T.b_str (by decide +kernel) (pa_cons (pe_ix (ix_tupK rfl) (pv 9) pe_int (fun _ _ => rfl)) pa_nil))))))))
    (pss_cons (ps_set (i := 4) sc_law.nd rfl (by first | exact Or.inl rfl | exact Or.inr rfl) (pe_op op_mod (pe_fn C_cell_at (hr.mono (by decide)) rfl (pa_cons (pv 0) (pa_cons pe_int pa_nil))) pe_int))
    (pss_cons (ps_set (i := 5) sc_law.nd rfl (by first | exact Or.inl rfl | exact Or.inr rfl) (pe_op op_mod (pe_fn C_cell_at (hr.mono (by decide)) rfl (pa_cons (pv 0) (pa_cons pe_int pa_nil))) (pe_callB call_len_str (by rfl) T.b_len PySem.boot_len (pa_cons (pv 3) pa_nil))))
    (pss_cons (ps_if (pt_cmpR op_gt (pv 4) pe_int (nomark _)) (pss_cons (ps_set (i := 6) sc_law.nd rfl (by first | exact Or.inl rfl | exact Or.inr rfl) (pe_fn C_sign (hr.mono (by decide)) rfl (pa_cons (pe_fn C_next (hr.mono (by decide)) rfl (pa_cons (pe_fn C_cell_at (hr.mono (by decide)) rfl (pa_cons (pv 0) (pa_cons pe_int pa_nil))) pa_nil)) pa_nil)))
    (pss_one (ps_set (i := 3) sc_law.nd rfl (by first | exact Or.inl rfl | exact Or.inr rfl) (pe_op op_add_str (pe_op op_add_str (pe_slice sl_str (pv 3) po_none (po_some (pv 5))) (pe_ifExp (pt_cmpR op_gt (pv 4) pe_int (nomark _)) (pv 6) pe_str)) (pe_slice sl_str (pv 3) (po_some (pe_op op_add (pv 5) (pe_callTy call_int1 (by rfl) T.b_int (by decide +kernel) (pa_cons (pe_cmpR op_lt (pv 4) pe_int (nomark _)) pa_nil)))) po_none))))) pss_nil)
    (pss_cons (ps_if (pt_cmpR op_eq (pe_op op_mod (pe_fn C_cell_at (hr.mono (by decide)) rfl (pa_cons (pv 0) (pa_cons pe_int pa_nil))) pe_int) pe_int (nomark _)) (pss_one (ps_set (i := 3) sc_law.nd rfl (by first | exact Or.inl rfl | exact Or.inr rfl) (pe_fn C_odd (hr.mono (by decide)) rfl (pa_cons (pe_op op_fdiv (pe_fn C_cell_at (hr.mono (by decide)) rfl (pa_cons (pv 0) (pa_cons pe_int pa_nil))) pe_int) pa_nil)))) pss_nil)
    (pss_cons (ps_set (i := 7) sc_law.nd rfl (by first | exact Or.inl rfl | exact Or.inr rfl) (pe_fn C_written (hr.mono (by decide)) rfl (pa_cons (pv 3) pa_nil)))
    (pss_cons (ps_if (pt_cmp (pc_isN (pv 7)) rfl) (pss_one (ps_ret (pe_fn C_refused (hr.mono (by decide)) rfl (pa_cons (pv 3) pa_nil)))) pss_nil)
    (pss_cons (ps_set (i := 8) sc_law.nd rfl (by first | exact Or.inl rfl | exact Or.inr rfl) (pe_fn0 C_read (hr.mono (by decide)) rfl (pa_cons (pv 3) pa_nil)))
    (pss_cons (ps_if (PW.pt (pw_or (pt_not (pt_val (pe_callB call_isi (by rfl) T.b_isinstance (by decide +kernel) (pa_cons (pv 8) (pa_cons (pe_bltn (v := .ty "tuple") (by rfl) T.b_tuple (by decide +kernel) rfl) pa_nil))))) (pw_or (pt_cmpR op_ne (pe_callB call_len_seq (by rfl) T.b_len PySem.boot_len (pa_cons (pv 8) pa_nil)) pe_int (nomark _)) (pw_or (pt_not (pt_val (pe_fn C_whole (hr.mono (by decide)) rfl (pa_cons (pe_ix ix_tup (pv 8) pe_int (fun _ _ => rfl)) pa_nil)))) (pw_or1 (pt_cmpR op_ne (pe_ix ix_tup (pv 8) pe_int (fun _ _ => rfl)) (pe_ix ix_tup (pv 7) pe_int (fun _ _ => rfl)) (nomark _))))))) (pss_one (ps_ret pe_bl)) pss_nil)
    (pss_one (ps_ret (pe_fn C_ties_like (hr.mono (by decide)) rfl (pa_cons (pe_ix ix_tup (pv 8) pe_int (fun _ _ => rfl)) (pa_cons (pe_ix ix_tup (pv 7) pe_int (fun _ _ => rfl)) pa_nil))))))))))))))), ?_⟩
  obtain ⟨F0, ⟨x_script, _⟩, y, s0, ⟨v_script, _, rfl, h_script, rfl⟩, hm, hQ⟩ := h
  have L0 : Lat F0 H F0 H := .refl s0
  refine at_st (σ := [some v_script, none, none, none, none, none, none, none, none, none]) rfl ?_
  replace hm : law x_script.l = some y := hm
  unfold law at hm
  refine rd_asg2 L0.fh (ev_call (eva_cons (ev_var rfl h_script) (eva_cons ev_int (eva_cons ev_int (eva_cons ev_int eva_nil))))) hm ?_
  intro x1 v2 v3 F4 H5 hm l6 h_points_7 h_ties_8
  have L9 := L0.trans l6
  replace h_script := up h_script l6
  refine rd_asg L9.fh (ev_join (ev_lit (l := [32])) (EVN.ev (evn_op (EVN.ev (evn_lst (evl_cons (ev_op (ev_strZ (ev_varF rfl h_points_7)) (ev_lit (l := [58])) rv_catS) evl_nil))) (EVN.ev (evn_lc (ei_list (ev_var rfl h_ties_8)) (fun x16 v17 _ _ _ l19 r18 k20 => gt_name (k20 _ rfl evt_yes (ev_op (ev_op (ev_strZ (ev_fst (ev_var rfl r18))) (ev_lit (l := [45])) rv_catS) (ev_strZ (ev_snd (ev_var rfl r18))) rv_catS))))) rvn_cat))) hm ?_
  intro x10 v11 F12 H13 hm l14 h_text_15
  have L21 := L9.trans l14
  replace h_script := up h_script l14
  refine rd_asg L21.fh (ev_op (ev_call (eva_cons (ev_var rfl h_script) (eva_cons ev_int eva_nil))) ev_int rv_mod) hm ?_
  intro x22 v23 F24 H25 hm l26 h_way_27
  have L28 := L21.trans l26
  replace h_script := up h_script l26
  refine rd_asg L28.fh (ev_op (ev_call (eva_cons (ev_var rfl h_script) (eva_cons ev_int eva_nil))) (ev_lenStr (ev_varF rfl h_text_15)) rv_mod) hm ?_
  intro x29 v30 F31 H32 hm l33 h_at_34
  have L35 := L28.trans l33
  replace h_script := up h_script l33
  refine rd_join (fun (s : PStr) σ_ F_ H_ => ∃ (v3_ : V) (o6_ : Option V), σ_ = [some v_script, some v2, some v3, some v3_, some v23, some v30, o6_, none, none, none] ∧ Same F31 F_ ∧ Lat F0 H F_ H_ ∧ Rep.rp s v3_ F_ ∧ True) hm ?_ ?_
  · intro s36 hm D37 hN38 
    refine rd_if L35.fh (evt_of (ev_op (ev_varF rfl h_way_27) ev_int rv_cmp)) hm ?_ ?_
    · intro F39 H40 _ hm l41
      have L42 := L35.trans l41
      replace h_script := up h_script l41
      refine rd_asg L42.fh (ev_call (eva_cons (ev_call (eva_cons (ev_call (eva_cons (ev_var rfl h_script) (eva_cons ev_int eva_nil))) eva_nil)) eva_nil)) hm ?_
      intro x43 v44 F45 H46 hm l47 h_sign_48
      have L49 := L42.trans l47
      have sb50 := Same.trans l41.f l47.f
      replace h_script := up h_script l47
      refine rd_asgL L49.fh (ev_op (ev_op (ev_cutStr (ev_varF rfl h_text_15) po_no (po_at (ev_varF rfl h_at_34))) (ev_if (evt_of (ev_op (ev_varF rfl h_way_27) ev_int rv_cmp)) (ev_varF rfl h_sign_48) (ev_lit (l := []))) rv_catS) (ev_cutStr (ev_varF rfl h_text_15) (po_at (ev_op (ev_varF rfl h_at_34) (ev_intB (ev_op (ev_varF rfl h_way_27) ev_int rv_cmp)) rv_add)) po_no) rv_catS) hm ?_
      intro x51 v52 F53 H54 hm l55 h_text_56
      have L57 := L49.trans l55
      have sb58 := Same.trans sb50 l55.f
      replace h_script := up h_script l55
      obtain rfl := Option.some.inj hm
      exact hN38 _ _ _ ⟨_, _, rfl, sb58, L57, (Flat.any h_text_56), trivial⟩
    · intro F59 H60 _ hm l61
      have L62 := L35.trans l61
      replace h_script := up h_script l61
      obtain rfl := Option.some.inj hm
      exact hN38 _ _ _ ⟨_, _, rfl, l61.f, L62, (Flat.any h_text_15), trivial⟩
  · rintro s63 σ_ F64 H65 hm ⟨e66, e67, rfl, sf68, L69, h_text_70, -⟩
    replace h_script := Rep.mono sf68 h_script
    refine rd_join (fun (s : PStr) σ_ F_ H_ => ∃ (v3_ : V), σ_ = [some v_script, some v2, some v3, some v3_, some v23, some v30, e67, none, none, none] ∧ Same F64 F_ ∧ Lat F0 H F_ H_ ∧ Rep.rp s v3_ F_ ∧ True) hm ?_ ?_
    · intro s71 hm D72 hN73 
      refine rd_if L69.fh (evt_of (ev_op (ev_op (ev_call (eva_cons (ev_var rfl h_script) (eva_cons ev_int eva_nil))) ev_int rv_mod) ev_int rv_eqI)) hm ?_ ?_
      · intro F74 H75 _ hm l76
        have L77 := L69.trans l76
        replace h_script := up h_script l76
        refine rd_asgL L77.fh (ev_call (eva_cons (ev_op (ev_call (eva_cons (ev_var rfl h_script) (eva_cons ev_int eva_nil))) ev_int rv_div) eva_nil)) hm ?_
        intro x78 v79 F80 H81 hm l82 h_text_83
        have L84 := L77.trans l82
        have sb85 := Same.trans l76.f l82.f
        obtain rfl := Option.some.inj hm
        exact hN73 _ _ _ ⟨_, rfl, sb85, L84, (Flat.any h_text_83), trivial⟩
      · intro F86 H87 _ hm l88
        have L89 := L69.trans l88
        obtain rfl := Option.some.inj hm
        exact hN73 _ _ _ ⟨_, rfl, l88.f, L89, (Flat.any h_text_70), trivial⟩
    · rintro s90 σ_ F91 H92 hm ⟨e93, rfl, sf94, L95, h_text_96, -⟩
      refine rd_asg L95.fh (ev_call (eva_cons (ev_varF rfl h_text_96) eva_nil)) hm ?_
      intro x97 v98 F99 H100 hm l101 h_due_102
      have L103 := L95.trans l101
      refine rd_guard L103.fh (evt_b (ev_isN (fun x v F h => nn_pair x v F h) (ev_var rfl h_due_102))) hm ?_ ?_
      · intro F104 H105 _ hm l106
        have L107 := L103.trans l106
        exact rd_ret0 L107.fh (ev_call (eva_cons (ev_varF rfl h_text_96) eva_nil)) hm fun v F1 H1 l rv => hQ v F1 H1 (L107.trans l) rv
      · intro F108 H109 _ hm l110
        have L111 := L103.trans l110
        replace h_due_102 := up h_due_102 l110
        refine rd_asg L111.fh (ev_callX (eva_cons (ev_varF rfl h_text_96) eva_nil)) hm ?_
        intro x112 v113 F114 H115 hm l116 h_found_117
        have L118 := L111.trans l116
        replace h_due_102 := up h_due_102 l116
        refine rd_guard L118.fh (evt_or (evt_not (evt_b (ev_isi (ev_var rfl h_found_117) true))) (evt_or (evt_of (ev_op (ev_len2 (ev_var rfl h_found_117)) ev_int rv_neI)) (evt_or (evt_not (evt_b (ev_call (eva_cons (ev_fst (ev_var rfl h_found_117)) eva_nil)))) (evt_of (ev_op (ev_fst (ev_var rfl h_found_117)) (ev_fst (ev_un (ev_var rfl h_due_102))) rv_neI))))) hm ?_ ?_
        · intro F119 H120 _ hm l121
          have L122 := L118.trans l121
          exact rd_ret0 L122.fh ev_bl hm fun v F1 H1 l rv => hQ v F1 H1 (L122.trans l) rv
        · intro F123 H124 _ hm l125
          have L126 := L118.trans l125
          replace h_due_102 := up h_due_102 l125
          replace h_found_117 := up h_found_117 l125
          exact rd_ret0 L126.fh (ev_call (eva_cons (ev_snd (ev_var rfl h_found_117)) (eva_cons (ev_snd (ev_un (ev_var rfl h_due_102))) eva_nil))) hm fun v F1 H1 l rv => hQ v F1 H1 (L126.trans l) rv
end
theorem all_mk {l : PySem.W.OpenLaw} {w : World} {K : PySem.W.Frag} {h : Heap} {mg : Str → Option Value} {fa f0 f1 f2 f3 f4 f5 f6 f7 f8 f9 f10 f11 f12 f13 f14 f15 A_GoesRound A_NoDyeing A_NoNote A_NoSetting A_NoTie A_NoWeb A_WebError : Addr} (X : K.In h) (G : h.Ns mainGlobals mg) (hfa : mg "law" = some (.ref fa))
    {od0 an0 od1 an1 od2 an2 od3 an3 od4 an4 od5 an5 od6 an6 od7 an7 od8 an8 od9 an9 od10 an10 od11 an11 od12 an12 od13 an13 od14 an14 od15 an15 : Option Addr} {sl0 sl1 sl2 sl3 sl4 sl5 sl6 sl7 sl8 sl9 sl10 sl11 sl12 sl13 sl14 sl15 : Array (Option Value)} {oc0 kV0 dc0 pm0 cd0 ct0 oc1 kV1 dc1 pm1 cd1 ct1 oc2 kV2 dc2 pm2 cd2 ct2 oc3 kV3 dc3 pm3 cd3 ct3 oc4 kV4 dc4 pm4 cd4 ct4 oc5 kV5 dc5 pm5 cd5 ct5 oc6 kV6 dc6 pm6 cd6 ct6 oc7 kV7 dc7 pm7 cd7 ct7 oc8 kV8 dc8 pm8 cd8 ct8 oc9 kV9 dc9 pm9 cd9 ct9 oc10 kV10 dc10 pm10 cd10 ct10 oc11 kV11 dc11 pm11 cd11 ct11 oc12 kV12 dc12 pm12 cd12 ct12 oc13 kV13 dc13 pm13 cd13 ct13 oc14 kV14 dc14 pm14 cd14 ct14 oc15 kV15 dc15 pm15 cd15 ct15 : Value}
    (a0 : PySem.W.nsIn K mainGlobals "is_web" = some (some (.ref f0))) (l0 : K.lookup f0 = some ⟨oc0, od0, .func (PySem.W.fnOf "is_web" "is_web" (defArgs s_is_web) (defBody s_is_web) (defScope s_is_web) .none kV0 dc0 pm0 an0 cd0 ct0), sl0⟩) (c0 : PySem.W.codeIn K cd0 "is_web" = true) (k0 : PySem.W.keepIn K (.ref f0) = true)
    (a1 : PySem.W.nsIn K mainGlobals "number_of" = some (some (.ref f1))) (l1 : K.lookup f1 = some ⟨oc1, od1, .func (PySem.W.fnOf "number_of" "number_of" (defArgs s_number_of) (defBody s_number_of) (defScope s_number_of) .none kV1 dc1 pm1 an1 cd1 ct1), sl1⟩) (c1 : PySem.W.codeIn K cd1 "number_of" = true) (k1 : PySem.W.keepIn K (.ref f1) = true)
    (a2 : PySem.W.nsIn K mainGlobals "tie_of" = some (some (.ref f2))) (l2 : K.lookup f2 = some ⟨oc2, od2, .func (PySem.W.fnOf "tie_of" "tie_of" (defArgs s_tie_of) (defBody s_tie_of) (defScope s_tie_of) .none kV2 dc2 pm2 an2 cd2 ct2), sl2⟩) (c2 : PySem.W.codeIn K cd2 "tie_of" = true) (k2 : PySem.W.keepIn K (.ref f2) = true)
    (a3 : PySem.W.nsIn K mainGlobals "read" = some (some (.ref f3))) (l3 : K.lookup f3 = some ⟨oc3, od3, .func (PySem.W.fnOf "read" "read" (defArgs s_read) (defBody s_read) (defScope s_read) .none kV3 dc3 pm3 an3 cd3 ct3), sl3⟩) (c3 : PySem.W.codeIn K cd3 "read" = true) (k3 : PySem.W.keepIn K (.ref f3) = true)
    (a4 : PySem.W.nsIn K mainGlobals "_law_cell_at" = some (some (.ref f4))) (l4 : K.lookup f4 = some ⟨oc4, od4, .func (PySem.W.fnOf "_law_cell_at" "_law_cell_at" (defArgs s_cell_at) (defBody s_cell_at) (defScope s_cell_at) .none kV4 dc4 pm4 an4 cd4 ct4), sl4⟩) (c4 : PySem.W.codeIn K cd4 "_law_cell_at" = true) (k4 : PySem.W.keepIn K (.ref f4) = true)
    (a5 : PySem.W.nsIn K mainGlobals "_law_next" = some (some (.ref f5))) (l5 : K.lookup f5 = some ⟨oc5, od5, .func (PySem.W.fnOf "_law_next" "_law_next" (defArgs s_next) (defBody s_next) (defScope s_next) .none kV5 dc5 pm5 an5 cd5 ct5), sl5⟩) (c5 : PySem.W.codeIn K cd5 "_law_next" = true) (k5 : PySem.W.keepIn K (.ref f5) = true)
    (a6 : PySem.W.nsIn K mainGlobals "_law_web_by" = some (some (.ref f6))) (l6 : K.lookup f6 = some ⟨oc6, od6, .func (PySem.W.fnOf "_law_web_by" "_law_web_by" (defArgs s_web_by) (defBody s_web_by) (defScope s_web_by) .none kV6 dc6 pm6 an6 cd6 ct6), sl6⟩) (c6 : PySem.W.codeIn K cd6 "_law_web_by" = true) (k6 : PySem.W.keepIn K (.ref f6) = true)
    (a7 : PySem.W.nsIn K mainGlobals "_law_good" = some (some (.ref f7))) (l7 : K.lookup f7 = some ⟨oc7, od7, .func (PySem.W.fnOf "_law_good" "_law_good" (defArgs s_good) (defBody s_good) (defScope s_good) .none kV7 dc7 pm7 an7 cd7 ct7), sl7⟩) (c7 : PySem.W.codeIn K cd7 "_law_good" = true) (k7 : PySem.W.keepIn K (.ref f7) = true)
    (a8 : PySem.W.nsIn K mainGlobals "_law_ties_like" = some (some (.ref f8))) (l8 : K.lookup f8 = some ⟨oc8, od8, .func (PySem.W.fnOf "_law_ties_like" "_law_ties_like" (defArgs s_ties_like) (defBody s_ties_like) (defScope s_ties_like) .none kV8 dc8 pm8 an8 cd8 ct8), sl8⟩) (c8 : PySem.W.codeIn K cd8 "_law_ties_like" = true) (k8 : PySem.W.keepIn K (.ref f8) = true)
    (a9 : PySem.W.nsIn K mainGlobals "_law_whole" = some (some (.ref f9))) (l9 : K.lookup f9 = some ⟨oc9, od9, .func (PySem.W.fnOf "_law_whole" "_law_whole" (defArgs s_whole) (defBody s_whole) (defScope s_whole) .none kV9 dc9 pm9 an9 cd9 ct9), sl9⟩) (c9 : PySem.W.codeIn K cd9 "_law_whole" = true) (k9 : PySem.W.keepIn K (.ref f9) = true)
    (a10 : PySem.W.nsIn K mainGlobals "_law_figure" = some (some (.ref f10))) (l10 : K.lookup f10 = some ⟨oc10, od10, .func (PySem.W.fnOf "_law_figure" "_law_figure" (defArgs s_figure) (defBody s_figure) (defScope s_figure) .none kV10 dc10 pm10 an10 cd10 ct10), sl10⟩) (c10 : PySem.W.codeIn K cd10 "_law_figure" = true) (k10 : PySem.W.keepIn K (.ref f10) = true)
    (a11 : PySem.W.nsIn K mainGlobals "_law_written" = some (some (.ref f11))) (l11 : K.lookup f11 = some ⟨oc11, od11, .func (PySem.W.fnOf "_law_written" "_law_written" (defArgs s_written) (defBody s_written) (defScope s_written) .none kV11 dc11 pm11 an11 cd11 ct11), sl11⟩) (c11 : PySem.W.codeIn K cd11 "_law_written" = true) (k11 : PySem.W.keepIn K (.ref f11) = true)
    (a12 : PySem.W.nsIn K mainGlobals "_law_sign" = some (some (.ref f12))) (l12 : K.lookup f12 = some ⟨oc12, od12, .func (PySem.W.fnOf "_law_sign" "_law_sign" (defArgs s_sign) (defBody s_sign) (defScope s_sign) .none kV12 dc12 pm12 an12 cd12 ct12), sl12⟩) (c12 : PySem.W.codeIn K cd12 "_law_sign" = true) (k12 : PySem.W.keepIn K (.ref f12) = true)
    (a13 : PySem.W.nsIn K mainGlobals "_law_odd" = some (some (.ref f13))) (l13 : K.lookup f13 = some ⟨oc13, od13, .func (PySem.W.fnOf "_law_odd" "_law_odd" (defArgs s_odd) (defBody s_odd) (defScope s_odd) .none kV13 dc13 pm13 an13 cd13 ct13), sl13⟩) (c13 : PySem.W.codeIn K cd13 "_law_odd" = true) (k13 : PySem.W.keepIn K (.ref f13) = true)
    (a14 : PySem.W.nsIn K mainGlobals "_law_refused" = some (some (.ref f14))) (l14 : K.lookup f14 = some ⟨oc14, od14, .func (PySem.W.fnOf "_law_refused" "_law_refused" (defArgs s_refused) (defBody s_refused) (defScope s_refused) .none kV14 dc14 pm14 an14 cd14 ct14), sl14⟩) (c14 : PySem.W.codeIn K cd14 "_law_refused" = true) (k14 : PySem.W.keepIn K (.ref f14) = true)
    (a15 : PySem.W.nsIn K mainGlobals "law" = some (some (.ref f15))) (l15 : K.lookup f15 = some ⟨oc15, od15, .func (PySem.W.fnOf "law" "law" (defArgs s_law) (defBody s_law) (defScope s_law) .none kV15 dc15 pm15 an15 cd15 ct15), sl15⟩) (c15 : PySem.W.codeIn K cd15 "law" = true) (k15 : PySem.W.keepIn K (.ref f15) = true)
    (b_ValueError : PySem.W.nsIn K mainGlobals "ValueError" = some none)
    (b_bool : PySem.W.nsIn K mainGlobals "bool" = some none)
    (b_int : PySem.W.nsIn K mainGlobals "int" = some none)
    (b_isinstance : PySem.W.nsIn K mainGlobals "isinstance" = some none)
    (b_len : PySem.W.nsIn K mainGlobals "len" = some none)
    (b_list : PySem.W.nsIn K mainGlobals "list" = some none)
    (b_range : PySem.W.nsIn K mainGlobals "range" = some none)
    (b_sorted : PySem.W.nsIn K mainGlobals "sorted" = some none)
    (b_str : PySem.W.nsIn K mainGlobals "str" = some none)
    (b_tuple : PySem.W.nsIn K mainGlobals "tuple" = some none)
    (b_zip : PySem.W.nsIn K mainGlobals "zip" = some none)
    {t_FIGURES : Tok} (g_FIGURES : PySem.W.nsIn K mainGlobals "FIGURES" = some (some (.str "0123456789" t_FIGURES)))
    {t_MOST_POINTS : Tok} (g_MOST_POINTS : PySem.W.nsIn K mainGlobals "MOST_POINTS" = some (some (.int 7 t_MOST_POINTS)))
    {t_MOST_TIES : Tok} (g_MOST_TIES : PySem.W.nsIn K mainGlobals "MOST_TIES" = some (some (.int 12 t_MOST_TIES)))
    (ga_GoesRound : PySem.W.nsIn K mainGlobals "GoesRound" = some (some (.ref A_GoesRound)))
    (ga_NoDyeing : PySem.W.nsIn K mainGlobals "NoDyeing" = some (some (.ref A_NoDyeing)))
    (ga_NoNote : PySem.W.nsIn K mainGlobals "NoNote" = some (some (.ref A_NoNote)))
    (xa_NoNote : PySem.W.excIn K A_NoNote [.type "ValueError", .type "Exception", .type "BaseException", .type "object"] "ValueError.__new__" = true) (xk_NoNote : PySem.W.keepIn K (.ref A_NoNote) = true) (xb_NoNote : PySem.W.subIn K (.ref A_NoNote) (.type "BaseException") = some true) (xt_NoNote : PySem.W.typeIn K (.ref A_NoNote) = some (.type "type"))
    (ga_NoSetting : PySem.W.nsIn K mainGlobals "NoSetting" = some (some (.ref A_NoSetting)))
    (ga_NoTie : PySem.W.nsIn K mainGlobals "NoTie" = some (some (.ref A_NoTie)))
    (ga_NoWeb : PySem.W.nsIn K mainGlobals "NoWeb" = some (some (.ref A_NoWeb)))
    (ga_WebError : PySem.W.nsIn K mainGlobals "WebError" = some (some (.ref A_WebError)))
    (wb : PySem.W.subIn K (.ref A_WebError) (.type "BaseException") = some true) (wd : PySem.W.hasDictIn K A_WebError = true) (wt : PySem.W.typeIn K (.ref A_WebError) = some (.type "type"))
    (hn : PySem.W.specialIn K (.builtin "object.__class__") "__get__" = some (some (.builtin "getset_descriptor.__get__"))) (ht : PySem.W.takesIn K (.builtin "object.__class__") = some true)
    (p1_GoesRound : PySem.W.findIn K (.ref A_GoesRound) "__getattribute__" = some (some (.builtin "BaseException.__getattribute__"))) (p2_GoesRound : PySem.W.findIn K (.ref A_GoesRound) "__getattr__" = some none) (p3_GoesRound : PySem.W.subIn K (.ref A_GoesRound) (.type "BaseException") = some true) (p4_GoesRound : PySem.W.hasDictIn K A_GoesRound = true) (p5_GoesRound : PySem.W.findIn K (.ref A_GoesRound) "__class__" = some (some (.builtin "object.__class__"))) (p6_GoesRound : PySem.W.mroIn K A_GoesRound (.type "object") = some true) (p7_GoesRound : PySem.W.subIn K (.ref A_GoesRound) (.type "ValueError") = some true) (p8_GoesRound : PySem.W.subIn K (.ref A_GoesRound) (.ref A_WebError) = some true) (p9_GoesRound : PySem.W.typeIn K (.ref A_GoesRound) = some (.type "type"))
    (k_GoesRound_GoesRound : PySem.W.subIn K (.ref A_GoesRound) (.ref A_GoesRound) = some true)
    (k_GoesRound_NoDyeing : PySem.W.subIn K (.ref A_GoesRound) (.ref A_NoDyeing) = some false)
    (k_GoesRound_NoNote : PySem.W.subIn K (.ref A_GoesRound) (.ref A_NoNote) = some false)
    (k_GoesRound_NoSetting : PySem.W.subIn K (.ref A_GoesRound) (.ref A_NoSetting) = some false)
    (k_GoesRound_NoTie : PySem.W.subIn K (.ref A_GoesRound) (.ref A_NoTie) = some false)
    (k_GoesRound_NoWeb : PySem.W.subIn K (.ref A_GoesRound) (.ref A_NoWeb) = some false)
    (p1_NoDyeing : PySem.W.findIn K (.ref A_NoDyeing) "__getattribute__" = some (some (.builtin "BaseException.__getattribute__"))) (p2_NoDyeing : PySem.W.findIn K (.ref A_NoDyeing) "__getattr__" = some none) (p3_NoDyeing : PySem.W.subIn K (.ref A_NoDyeing) (.type "BaseException") = some true) (p4_NoDyeing : PySem.W.hasDictIn K A_NoDyeing = true) (p5_NoDyeing : PySem.W.findIn K (.ref A_NoDyeing) "__class__" = some (some (.builtin "object.__class__"))) (p6_NoDyeing : PySem.W.mroIn K A_NoDyeing (.type "object") = some true) (p7_NoDyeing : PySem.W.subIn K (.ref A_NoDyeing) (.type "ValueError") = some true) (p8_NoDyeing : PySem.W.subIn K (.ref A_NoDyeing) (.ref A_WebError) = some true) (p9_NoDyeing : PySem.W.typeIn K (.ref A_NoDyeing) = some (.type "type"))
    (k_NoDyeing_GoesRound : PySem.W.subIn K (.ref A_NoDyeing) (.ref A_GoesRound) = some false)
    (k_NoDyeing_NoDyeing : PySem.W.subIn K (.ref A_NoDyeing) (.ref A_NoDyeing) = some true)
    (k_NoDyeing_NoNote : PySem.W.subIn K (.ref A_NoDyeing) (.ref A_NoNote) = some false)
    (k_NoDyeing_NoSetting : PySem.W.subIn K (.ref A_NoDyeing) (.ref A_NoSetting) = some false)
    (k_NoDyeing_NoTie : PySem.W.subIn K (.ref A_NoDyeing) (.ref A_NoTie) = some false)
    (k_NoDyeing_NoWeb : PySem.W.subIn K (.ref A_NoDyeing) (.ref A_NoWeb) = some false)
    (p1_NoNote : PySem.W.findIn K (.ref A_NoNote) "__getattribute__" = some (some (.builtin "BaseException.__getattribute__"))) (p2_NoNote : PySem.W.findIn K (.ref A_NoNote) "__getattr__" = some none) (p3_NoNote : PySem.W.subIn K (.ref A_NoNote) (.type "BaseException") = some true) (p4_NoNote : PySem.W.hasDictIn K A_NoNote = true) (p5_NoNote : PySem.W.findIn K (.ref A_NoNote) "__class__" = some (some (.builtin "object.__class__"))) (p6_NoNote : PySem.W.mroIn K A_NoNote (.type "object") = some true) (p7_NoNote : PySem.W.subIn K (.ref A_NoNote) (.type "ValueError") = some true) (p8_NoNote : PySem.W.subIn K (.ref A_NoNote) (.ref A_WebError) = some true) (p9_NoNote : PySem.W.typeIn K (.ref A_NoNote) = some (.type "type"))
    (k_NoNote_GoesRound : PySem.W.subIn K (.ref A_NoNote) (.ref A_GoesRound) = some false)
    (k_NoNote_NoDyeing : PySem.W.subIn K (.ref A_NoNote) (.ref A_NoDyeing) = some false)
    (k_NoNote_NoNote : PySem.W.subIn K (.ref A_NoNote) (.ref A_NoNote) = some true)
    (k_NoNote_NoSetting : PySem.W.subIn K (.ref A_NoNote) (.ref A_NoSetting) = some false)
    (k_NoNote_NoTie : PySem.W.subIn K (.ref A_NoNote) (.ref A_NoTie) = some false)
    (k_NoNote_NoWeb : PySem.W.subIn K (.ref A_NoNote) (.ref A_NoWeb) = some false)
    (p1_NoSetting : PySem.W.findIn K (.ref A_NoSetting) "__getattribute__" = some (some (.builtin "BaseException.__getattribute__"))) (p2_NoSetting : PySem.W.findIn K (.ref A_NoSetting) "__getattr__" = some none) (p3_NoSetting : PySem.W.subIn K (.ref A_NoSetting) (.type "BaseException") = some true) (p4_NoSetting : PySem.W.hasDictIn K A_NoSetting = true) (p5_NoSetting : PySem.W.findIn K (.ref A_NoSetting) "__class__" = some (some (.builtin "object.__class__"))) (p6_NoSetting : PySem.W.mroIn K A_NoSetting (.type "object") = some true) (p7_NoSetting : PySem.W.subIn K (.ref A_NoSetting) (.type "ValueError") = some true) (p8_NoSetting : PySem.W.subIn K (.ref A_NoSetting) (.ref A_WebError) = some true) (p9_NoSetting : PySem.W.typeIn K (.ref A_NoSetting) = some (.type "type"))
    (k_NoSetting_GoesRound : PySem.W.subIn K (.ref A_NoSetting) (.ref A_GoesRound) = some false)
    (k_NoSetting_NoDyeing : PySem.W.subIn K (.ref A_NoSetting) (.ref A_NoDyeing) = some false)
    (k_NoSetting_NoNote : PySem.W.subIn K (.ref A_NoSetting) (.ref A_NoNote) = some false)
    (k_NoSetting_NoSetting : PySem.W.subIn K (.ref A_NoSetting) (.ref A_NoSetting) = some true)
    (k_NoSetting_NoTie : PySem.W.subIn K (.ref A_NoSetting) (.ref A_NoTie) = some false)
    (k_NoSetting_NoWeb : PySem.W.subIn K (.ref A_NoSetting) (.ref A_NoWeb) = some false)
    (p1_NoTie : PySem.W.findIn K (.ref A_NoTie) "__getattribute__" = some (some (.builtin "BaseException.__getattribute__"))) (p2_NoTie : PySem.W.findIn K (.ref A_NoTie) "__getattr__" = some none) (p3_NoTie : PySem.W.subIn K (.ref A_NoTie) (.type "BaseException") = some true) (p4_NoTie : PySem.W.hasDictIn K A_NoTie = true) (p5_NoTie : PySem.W.findIn K (.ref A_NoTie) "__class__" = some (some (.builtin "object.__class__"))) (p6_NoTie : PySem.W.mroIn K A_NoTie (.type "object") = some true) (p7_NoTie : PySem.W.subIn K (.ref A_NoTie) (.type "ValueError") = some true) (p8_NoTie : PySem.W.subIn K (.ref A_NoTie) (.ref A_WebError) = some true) (p9_NoTie : PySem.W.typeIn K (.ref A_NoTie) = some (.type "type"))
    (k_NoTie_GoesRound : PySem.W.subIn K (.ref A_NoTie) (.ref A_GoesRound) = some false)
    (k_NoTie_NoDyeing : PySem.W.subIn K (.ref A_NoTie) (.ref A_NoDyeing) = some false)
    (k_NoTie_NoNote : PySem.W.subIn K (.ref A_NoTie) (.ref A_NoNote) = some false)
    (k_NoTie_NoSetting : PySem.W.subIn K (.ref A_NoTie) (.ref A_NoSetting) = some false)
    (k_NoTie_NoTie : PySem.W.subIn K (.ref A_NoTie) (.ref A_NoTie) = some true)
    (k_NoTie_NoWeb : PySem.W.subIn K (.ref A_NoTie) (.ref A_NoWeb) = some false)
    (p1_NoWeb : PySem.W.findIn K (.ref A_NoWeb) "__getattribute__" = some (some (.builtin "BaseException.__getattribute__"))) (p2_NoWeb : PySem.W.findIn K (.ref A_NoWeb) "__getattr__" = some none) (p3_NoWeb : PySem.W.subIn K (.ref A_NoWeb) (.type "BaseException") = some true) (p4_NoWeb : PySem.W.hasDictIn K A_NoWeb = true) (p5_NoWeb : PySem.W.findIn K (.ref A_NoWeb) "__class__" = some (some (.builtin "object.__class__"))) (p6_NoWeb : PySem.W.mroIn K A_NoWeb (.type "object") = some true) (p7_NoWeb : PySem.W.subIn K (.ref A_NoWeb) (.type "ValueError") = some true) (p8_NoWeb : PySem.W.subIn K (.ref A_NoWeb) (.ref A_WebError) = some true) (p9_NoWeb : PySem.W.typeIn K (.ref A_NoWeb) = some (.type "type"))
    (k_NoWeb_GoesRound : PySem.W.subIn K (.ref A_NoWeb) (.ref A_GoesRound) = some false)
    (k_NoWeb_NoDyeing : PySem.W.subIn K (.ref A_NoWeb) (.ref A_NoDyeing) = some false)
    (k_NoWeb_NoNote : PySem.W.subIn K (.ref A_NoWeb) (.ref A_NoNote) = some false)
    (k_NoWeb_NoSetting : PySem.W.subIn K (.ref A_NoWeb) (.ref A_NoSetting) = some false)
    (k_NoWeb_NoTie : PySem.W.subIn K (.ref A_NoWeb) (.ref A_NoTie) = some false)
    (k_NoWeb_NoWeb : PySem.W.subIn K (.ref A_NoWeb) (.ref A_NoWeb) = some true) :
    ∃ fd : FuncData, (∀ (s : Shared) (v : Value), BindsTo s fd ⟨[v], []⟩ [("script", v)]) ∧ ∀ base : Heap, K.In base → base.Ns mainGlobals mg → FnOk l.prog w K mg base CX0 5 fa fd ["script"] (spO (β := Bool) fun (x : (Scr K) × Unit) => law x.1.l) := by
  have e := hfa.symm.trans (PySem.W.mg_of X G a15)
  cases e
  let ad : Er → Addr := fun e => match e with | .goesRound => A_GoesRound | .noDyeing => A_NoDyeing | .noNote => A_NoNote | .noSetting => A_NoSetting | .noTie => A_NoTie | .noWeb => A_NoWeb
  have T : Txt K mg ad A_WebError := { b_ValueError := PySem.W.mg_none_of X G b_ValueError, b_bool := PySem.W.mg_none_of X G b_bool, b_int := PySem.W.mg_none_of X G b_int, b_isinstance := PySem.W.mg_none_of X G b_isinstance, b_len := PySem.W.mg_none_of X G b_len, b_list := PySem.W.mg_none_of X G b_list, b_range := PySem.W.mg_none_of X G b_range, b_sorted := PySem.W.mg_none_of X G b_sorted, b_str := PySem.W.mg_none_of X G b_str, b_tuple := PySem.W.mg_none_of X G b_tuple, b_zip := PySem.W.mg_none_of X G b_zip, g_FIGURES := ⟨_, PySem.W.mg_of X G g_FIGURES⟩, g_MOST_POINTS := ⟨_, PySem.W.mg_of X G g_MOST_POINTS⟩, g_MOST_TIES := ⟨_, PySem.W.mg_of X G g_MOST_TIES⟩, nil := trivial, x_NoNote := ⟨PySem.W.mg_of X G ga_NoNote, xa_NoNote, xk_NoNote, xb_NoNote, xt_NoNote⟩, g_WebError := PySem.W.mg_of X G ga_WebError, e_GoesRound := PySem.W.mg_of X G ga_GoesRound, e_NoDyeing := PySem.W.mg_of X G ga_NoDyeing, e_NoNote := PySem.W.mg_of X G ga_NoNote, e_NoSetting := PySem.W.mg_of X G ga_NoSetting, e_NoTie := PySem.W.mg_of X G ga_NoTie, e_NoWeb := PySem.W.mg_of X G ga_NoWeb, kit := ⟨(fun e => match e with | .goesRound => ⟨p1_GoesRound, p2_GoesRound, p3_GoesRound, p4_GoesRound, p5_GoesRound, hn, ht, p6_GoesRound⟩ | .noDyeing => ⟨p1_NoDyeing, p2_NoDyeing, p3_NoDyeing, p4_NoDyeing, p5_NoDyeing, hn, ht, p6_NoDyeing⟩ | .noNote => ⟨p1_NoNote, p2_NoNote, p3_NoNote, p4_NoNote, p5_NoNote, hn, ht, p6_NoNote⟩ | .noSetting => ⟨p1_NoSetting, p2_NoSetting, p3_NoSetting, p4_NoSetting, p5_NoSetting, hn, ht, p6_NoSetting⟩ | .noTie => ⟨p1_NoTie, p2_NoTie, p3_NoTie, p4_NoTie, p5_NoTie, hn, ht, p6_NoTie⟩ | .noWeb => ⟨p1_NoWeb, p2_NoWeb, p3_NoWeb, p4_NoWeb, p5_NoWeb, hn, ht, p6_NoWeb⟩), (fun e c => match e, c with | .goesRound, .goesRound => kit_ref p4_GoesRound p9_GoesRound k_GoesRound_GoesRound k_GoesRound_GoesRound | .goesRound, .noDyeing => kit_ref p4_NoDyeing p9_NoDyeing k_NoDyeing_NoDyeing k_GoesRound_NoDyeing | .goesRound, .noNote => kit_ref p4_NoNote p9_NoNote k_NoNote_NoNote k_GoesRound_NoNote | .goesRound, .noSetting => kit_ref p4_NoSetting p9_NoSetting k_NoSetting_NoSetting k_GoesRound_NoSetting | .goesRound, .noTie => kit_ref p4_NoTie p9_NoTie k_NoTie_NoTie k_GoesRound_NoTie | .goesRound, .noWeb => kit_ref p4_NoWeb p9_NoWeb k_NoWeb_NoWeb k_GoesRound_NoWeb | .noDyeing, .goesRound => kit_ref p4_GoesRound p9_GoesRound k_GoesRound_GoesRound k_NoDyeing_GoesRound | .noDyeing, .noDyeing => kit_ref p4_NoDyeing p9_NoDyeing k_NoDyeing_NoDyeing k_NoDyeing_NoDyeing | .noDyeing, .noNote => kit_ref p4_NoNote p9_NoNote k_NoNote_NoNote k_NoDyeing_NoNote | .noDyeing, .noSetting => kit_ref p4_NoSetting p9_NoSetting k_NoSetting_NoSetting k_NoDyeing_NoSetting | .noDyeing, .noTie => kit_ref p4_NoTie p9_NoTie k_NoTie_NoTie k_NoDyeing_NoTie | .noDyeing, .noWeb => kit_ref p4_NoWeb p9_NoWeb k_NoWeb_NoWeb k_NoDyeing_NoWeb | .noNote, .goesRound => kit_ref p4_GoesRound p9_GoesRound k_GoesRound_GoesRound k_NoNote_GoesRound | .noNote, .noDyeing => kit_ref p4_NoDyeing p9_NoDyeing k_NoDyeing_NoDyeing k_NoNote_NoDyeing | .noNote, .noNote => kit_ref p4_NoNote p9_NoNote k_NoNote_NoNote k_NoNote_NoNote | .noNote, .noSetting => kit_ref p4_NoSetting p9_NoSetting k_NoSetting_NoSetting k_NoNote_NoSetting | .noNote, .noTie => kit_ref p4_NoTie p9_NoTie k_NoTie_NoTie k_NoNote_NoTie | .noNote, .noWeb => kit_ref p4_NoWeb p9_NoWeb k_NoWeb_NoWeb k_NoNote_NoWeb | .noSetting, .goesRound => kit_ref p4_GoesRound p9_GoesRound k_GoesRound_GoesRound k_NoSetting_GoesRound | .noSetting, .noDyeing => kit_ref p4_NoDyeing p9_NoDyeing k_NoDyeing_NoDyeing k_NoSetting_NoDyeing | .noSetting, .noNote => kit_ref p4_NoNote p9_NoNote k_NoNote_NoNote k_NoSetting_NoNote | .noSetting, .noSetting => kit_ref p4_NoSetting p9_NoSetting k_NoSetting_NoSetting k_NoSetting_NoSetting | .noSetting, .noTie => kit_ref p4_NoTie p9_NoTie k_NoTie_NoTie k_NoSetting_NoTie | .noSetting, .noWeb => kit_ref p4_NoWeb p9_NoWeb k_NoWeb_NoWeb k_NoSetting_NoWeb | .noTie, .goesRound => kit_ref p4_GoesRound p9_GoesRound k_GoesRound_GoesRound k_NoTie_GoesRound | .noTie, .noDyeing => kit_ref p4_NoDyeing p9_NoDyeing k_NoDyeing_NoDyeing k_NoTie_NoDyeing | .noTie, .noNote => kit_ref p4_NoNote p9_NoNote k_NoNote_NoNote k_NoTie_NoNote | .noTie, .noSetting => kit_ref p4_NoSetting p9_NoSetting k_NoSetting_NoSetting k_NoTie_NoSetting | .noTie, .noTie => kit_ref p4_NoTie p9_NoTie k_NoTie_NoTie k_NoTie_NoTie | .noTie, .noWeb => kit_ref p4_NoWeb p9_NoWeb k_NoWeb_NoWeb k_NoTie_NoWeb | .noWeb, .goesRound => kit_ref p4_GoesRound p9_GoesRound k_GoesRound_GoesRound k_NoWeb_GoesRound | .noWeb, .noDyeing => kit_ref p4_NoDyeing p9_NoDyeing k_NoDyeing_NoDyeing k_NoWeb_NoDyeing | .noWeb, .noNote => kit_ref p4_NoNote p9_NoNote k_NoNote_NoNote k_NoWeb_NoNote | .noWeb, .noSetting => kit_ref p4_NoSetting p9_NoSetting k_NoSetting_NoSetting k_NoWeb_NoSetting | .noWeb, .noTie => kit_ref p4_NoTie p9_NoTie k_NoTie_NoTie k_NoWeb_NoTie | .noWeb, .noWeb => kit_ref p4_NoWeb p9_NoWeb k_NoWeb_NoWeb k_NoWeb_NoWeb), (fun e => match e with | .goesRound => kit_type p7_GoesRound | .noDyeing => kit_type p7_NoDyeing | .noNote => kit_type p7_NoNote | .noSetting => kit_type p7_NoSetting | .noTie => kit_type p7_NoTie | .noWeb => kit_type p7_NoWeb), (fun e => match e with | .goesRound => PySem.W.exm_ref wb wd wt p8_GoesRound | .noDyeing => PySem.W.exm_ref wb wd wt p8_NoDyeing | .noNote => PySem.W.exm_ref wb wd wt p8_NoNote | .noSetting => PySem.W.exm_ref wb wd wt p8_NoSetting | .noTie => PySem.W.exm_ref wb wd wt p8_NoTie | .noWeb => PySem.W.exm_ref wb wd wt p8_NoWeb)⟩ }
  refine ⟨PySem.W.fnOf "law" "law" (defArgs s_law) (defBody s_law) (defScope s_law) .none kV15 dc15 pm15 an15 cd15 ct15, fun s v => .of_eq rfl, fun base _ _ => ?_⟩
  have R_is_web : Fn l.prog w K mg base CX0 1 "is_web" ["points", "ties"] (spO (β := Bool) fun (x : Int × (List (Int × Int)) × Unit) => is_web x.1 x.2.1) := ok_is_web (fun_mk (st := s_is_web) l0 c0 k0) (PySem.W.mg_of X G a0) T 
  have R_number_of : Fn l.prog w K mg base (L2.CX l.prog w) 1 "number_of" ["word"] (spX (clO ad) (β := Int) fun (x : PStr × Unit) => number_of x.1) := ok_number_of (fun_mk (st := s_number_of) l1 c1 k1) (PySem.W.mg_of X G a1) T 
  have R_tie_of : Fn l.prog w K mg base (L2.CX l.prog w) 2 "tie_of" ["word"] (spX (clO ad) (β := (Int × Int)) fun (x : PStr × Unit) => tie_of x.1) := ok_tie_of (fun_mk (st := s_tie_of) l2 c2 k2) (PySem.W.mg_of X G a2) T R_number_of
  have R_read : Fn l.prog w K mg base (L2.CX l.prog w) 3 "read" ["text"] (spX (clO ad) (β := (Int × (List (Int × Int)))) fun (x : PStr × Unit) => read x.1) := ok_read (fun_mk (st := s_read) l3 c3 k3) (PySem.W.mg_of X G a3) T R_number_of R_tie_of R_is_web
  have R_cell_at : Fn l.prog w K mg base CX0 1 "_law_cell_at" ["script", "k"] (spO (β := Int) fun (x : (Scr K) × Int × Unit) => cell_at x.1.l x.2.1) := ok_cell_at (fun_mk (st := s_cell_at) l4 c4 k4) (PySem.W.mg_of X G a4) T 
  have R_next : Fn l.prog w K mg base CX0 1 "_law_next" ["seed"] (spO (β := Int) fun (x : Int × Unit) => next x.1) := ok_next (fun_mk (st := s_next) l5 c5 k5) (PySem.W.mg_of X G a5) T 
  have R_web_by : Fn l.prog w K mg base CX0 2 "_law_web_by" ["script", "k", "most", "cap"] (spO (β := (Int × (List (Int × Int)))) fun (x : (Scr K) × Int × Int × Int × Unit) => web_by x.1.l x.2.1 x.2.2.1 x.2.2.2.1) := ok_web_by (fun_mk (st := s_web_by) l6 c6 k6) (PySem.W.mg_of X G a6) T R_cell_at R_next
  have R_good : Fn l.prog w K mg base CX0 1 "_law_good" ["points", "ties"] (spO (β := Bool) fun (x : Int × (List (Int × Int)) × Unit) => good x.1 x.2.1) := ok_good (fun_mk (st := s_good) l7 c7 k7) (PySem.W.mg_of X G a7) T 
  have R_ties_like : Fn l.prog w K mg base CX0 1 "_law_ties_like" ["found", "due"] (spO (β := Bool) fun (x : (List (Int × Int)) × (List (Int × Int)) × Unit) => ties_like x.1 x.2.1) := ok_ties_like (fun_mk (st := s_ties_like) l8 c8 k8) (PySem.W.mg_of X G a8) T 
  have R_whole : Fn l.prog w K mg base CX0 1 "_law_whole" ["found"] (spO (β := Bool) fun (x : Int × Unit) => whole x.1) := ok_whole (fun_mk (st := s_whole) l9 c9 k9) (PySem.W.mg_of X G a9) T 
  have R_figure : Fn l.prog w K mg base CX0 1 "_law_figure" ["word"] (spO (β := Int) fun (x : PStr × Unit) => figure x.1) := ok_figure (fun_mk (st := s_figure) l10 c10 k10) (PySem.W.mg_of X G a10) T 
  have R_written : Fn l.prog w K mg base CX0 2 "_law_written" ["text"] (spO (β := (Option (Int × (List (Int × Int))))) fun (x : PStr × Unit) => written x.1) := ok_written (fun_mk (st := s_written) l11 c11 k11) (PySem.W.mg_of X G a11) T R_figure R_good
  have R_sign : Fn l.prog w K mg base CX0 1 "_law_sign" ["cell"] (spO (β := PStr) fun (x : Int × Unit) => sign x.1) := ok_sign (fun_mk (st := s_sign) l12 c12 k12) (PySem.W.mg_of X G a12) T 
  have R_odd : Fn l.prog w K mg base CX0 1 "_law_odd" ["cell"] (spO (β := PStr) fun (x : Int × Unit) => odd x.1) := ok_odd (fun_mk (st := s_odd) l13 c13 k13) (PySem.W.mg_of X G a13) T 
  have R_refused : Fn l.prog w K mg base CX0 4 "_law_refused" ["text"] (spO (β := Bool) fun (x : PStr × Unit) => refused x.1) := ok_refused (fun_mk (st := s_refused) l14 c14 k14) (PySem.W.mg_of X G a14) T R_read
  exact ok_law (fun_mk (st := s_law) l15 c15 k15) (PySem.W.mg_of X G a15) T R_web_by R_cell_at R_sign R_next R_odd R_written R_refused R_read R_whole R_ties_like
theorem walk {l : PySem.W.OpenLaw} {q : Program} {loose : List Str} {XP : (Str → Option Value) → Heap → Prop} {YP : World → Heap → Prop} {d : DefRec} {K : Params → PySem.W.Frag} (hn : l.most = some 63) (hdf : d.params.defaults = [])
    (hY : ∀ (w : World) (h : Heap), YP w h → (K w.params).In h)
    (F : ∀ (w : World) (mg : Str → Option Value) (fa : Addr) (h : Heap), (K w.params).In h → h.Ns mainGlobals mg → mg d.name = some (.ref fa) →
      ∃ fd : FuncData, (∀ (s : Shared) (u : Value), BindsTo s fd ⟨[u], []⟩ [("script", u)]) ∧ ∀ base : Heap, (K w.params).In base → base.Ns mainGlobals mg → FnOk l.prog w (K w.params) mg base CX0 5 fa fd ["script"] (let K := K w.params; (spO (β := Bool) fun (x : (Scr K) × Unit) => law x.1.l))) :
    PySem.W.WalkO q loose XP YP l.row.toRowW d [] (fun f vs => PySem.call f vs) :=
  L2.walk_of (n := 63) (k := 5) (x := "script") (CX := fun _ => CX0) (sp := fun w => (let K := K w.params; (spO (β := Bool) fun (x : (Scr K) × Unit) => law x.1.l))) hn (by decide) hdf ⟨rfl, by decide, by decide⟩ hY F
    (fun _ H a ns hl _ hS => ⟨H, (⟨ns⟩, ()), true, .refl H, ⟨.ref a, [], rfl, ⟨a, rfl, hS⟩, rfl⟩, law_true ns hl, fun v F' H' l r => r⟩) fun _ _ _ _ _ z => z
end Q
open PySem PySem.W PyProof.Rows in
set_option maxRecDepth 100000 in
set_option maxHeartbeats 0 in
theorem PySem.Challenge.cw_dyeweb_k17_read_or_refused_holds : PySem.Challenge.rw_dyeweb_k17_read_or_refused.Holds := by
  w_on; o_law; k_head; (case hw => w_witness2)
  k_fill
  refine Q.walk (l := PySem.Challenge.rw_dyeweb_k17_read_or_refused) rfl rfl (fun w h Y => PySem.W.kIn_of Y) ?F
  case F =>
    intro w mg fa h KX G hmg
    refine' Q.all_mk KX G hmg ?a0 ?l0 ?c0 ?k0 ?a1 ?l1 ?c1 ?k1 ?a2 ?l2 ?c2 ?k2 ?a3 ?l3 ?c3 ?k3 ?a4 ?l4 ?c4 ?k4 ?a5 ?l5 ?c5 ?k5 ?a6 ?l6 ?c6 ?k6 ?a7 ?l7 ?c7 ?k7 ?a8 ?l8 ?c8 ?k8 ?a9 ?l9 ?c9 ?k9 ?a10 ?l10 ?c10 ?k10 ?a11 ?l11 ?c11 ?k11 ?a12 ?l12 ?c12 ?k12 ?a13 ?l13 ?c13 ?k13 ?a14 ?l14 ?c14 ?k14 ?a15 ?l15 ?c15 ?k15 ?b_ValueError ?b_bool ?b_int ?b_isinstance ?b_len ?b_list ?b_range ?b_sorted ?b_str ?b_tuple ?b_zip ?g_FIGURES ?g_MOST_POINTS ?g_MOST_TIES ?ga_GoesRound ?ga_NoDyeing ?ga_NoNote ?xa_NoNote ?xk_NoNote ?xb_NoNote ?xt_NoNote ?ga_NoSetting ?ga_NoTie ?ga_NoWeb ?ga_WebError ?wb ?wd ?wt ?hn ?ht ?p1_GoesRound ?p2_GoesRound ?p3_GoesRound ?p4_GoesRound ?p5_GoesRound ?p6_GoesRound ?p7_GoesRound ?p8_GoesRound ?p9_GoesRound ?k_GoesRound_GoesRound ?k_GoesRound_NoDyeing ?k_GoesRound_NoNote ?k_GoesRound_NoSetting ?k_GoesRound_NoTie ?k_GoesRound_NoWeb ?p1_NoDyeing ?p2_NoDyeing ?p3_NoDyeing ?p4_NoDyeing ?p5_NoDyeing ?p6_NoDyeing ?p7_NoDyeing ?p8_NoDyeing ?p9_NoDyeing ?k_NoDyeing_GoesRound ?k_NoDyeing_NoDyeing ?k_NoDyeing_NoNote ?k_NoDyeing_NoSetting ?k_NoDyeing_NoTie ?k_NoDyeing_NoWeb ?p1_NoNote ?p2_NoNote ?p3_NoNote ?p4_NoNote ?p5_NoNote ?p6_NoNote ?p7_NoNote ?p8_NoNote ?p9_NoNote ?k_NoNote_GoesRound ?k_NoNote_NoDyeing ?k_NoNote_NoNote ?k_NoNote_NoSetting ?k_NoNote_NoTie ?k_NoNote_NoWeb ?p1_NoSetting ?p2_NoSetting ?p3_NoSetting ?p4_NoSetting ?p5_NoSetting ?p6_NoSetting ?p7_NoSetting ?p8_NoSetting ?p9_NoSetting ?k_NoSetting_GoesRound ?k_NoSetting_NoDyeing ?k_NoSetting_NoNote ?k_NoSetting_NoSetting ?k_NoSetting_NoTie ?k_NoSetting_NoWeb ?p1_NoTie ?p2_NoTie ?p3_NoTie ?p4_NoTie ?p5_NoTie ?p6_NoTie ?p7_NoTie ?p8_NoTie ?p9_NoTie ?k_NoTie_GoesRound ?k_NoTie_NoDyeing ?k_NoTie_NoNote ?k_NoTie_NoSetting ?k_NoTie_NoTie ?k_NoTie_NoWeb ?p1_NoWeb ?p2_NoWeb ?p3_NoWeb ?p4_NoWeb ?p5_NoWeb ?p6_NoWeb ?p7_NoWeb ?p8_NoWeb ?p9_NoWeb ?k_NoWeb_GoesRound ?k_NoWeb_NoDyeing ?k_NoWeb_NoNote ?k_NoWeb_NoSetting ?k_NoWeb_NoTie ?k_NoWeb_NoWeb
    (case a0 => k_is)
    (case l0 => k_is)
    (case c0 => k_is)
    (case k0 => k_is)
    (case a1 => k_is)
    (case l1 => k_is)
    (case c1 => k_is)
    (case k1 => k_is)
    (case a2 => k_is)
    (case l2 => k_is)
    (case c2 => k_is)
    (case k2 => k_is)
    (case a3 => k_is)
    (case l3 => k_is)
    (case c3 => k_is)
    (case k3 => k_is)
    (case a4 => k_is)
    (case l4 => k_is)
    (case c4 => k_is)
    (case k4 => k_is)
    (case a5 => k_is)
    (case l5 => k_is)
    (case c5 => k_is)
    (case k5 => k_is)
    (case a6 => k_is)
    (case l6 => k_is)
    (case c6 => k_is)
    (case k6 => k_is)
    (case a7 => k_is)
    (case l7 => k_is)
    (case c7 => k_is)
    (case k7 => k_is)
    (case a8 => k_is)
    (case l8 => k_is)
    (case c8 => k_is)
    (case k8 => k_is)
    (case a9 => k_is)
    (case l9 => k_is)
    (case c9 => k_is)
    (case k9 => k_is)
    (case a10 => k_is)
    (case l10 => k_is)
    (case c10 => k_is)
    (case k10 => k_is)
    (case a11 => k_is)
    (case l11 => k_is)
    (case c11 => k_is)
    (case k11 => k_is)
    (case a12 => k_is)
    (case l12 => k_is)
    (case c12 => k_is)
    (case k12 => k_is)
    (case a13 => k_is)
    (case l13 => k_is)
    (case c13 => k_is)
    (case k13 => k_is)
    (case a14 => k_is)
    (case l14 => k_is)
    (case c14 => k_is)
    (case k14 => k_is)
    (case a15 => k_is)
    (case l15 => k_is)
    (case c15 => k_is)
    (case k15 => k_is)
    (case b_ValueError => k_is)
    (case b_bool => k_is)
    (case b_int => k_is)
    (case b_isinstance => k_is)
    (case b_len => k_is)
    (case b_list => k_is)
    (case b_range => k_is)
    (case b_sorted => k_is)
    (case b_str => k_is)
    (case b_tuple => k_is)
    (case b_zip => k_is)
    (case g_FIGURES => k_is)
    (case g_MOST_POINTS => k_is)
    (case g_MOST_TIES => k_is)
    (case ga_GoesRound => k_is)
    (case ga_NoDyeing => k_is)
    (case ga_NoNote => k_is)
    (case xa_NoNote => k_exc)
    (case xk_NoNote => k_is)
    (case xb_NoNote => k_is)
    (case xt_NoNote => k_is)
    (case ga_NoSetting => k_is)
    (case ga_NoTie => k_is)
    (case ga_NoWeb => k_is)
    (case ga_WebError => k_is)
    (case wb => k_is)
    (case wd => k_is)
    (case wt => k_is)
    (case hn => k_is)
    (case ht => k_is)
    (case p1_GoesRound => k_is)
    (case p2_GoesRound => k_is)
    (case p3_GoesRound => k_is)
    (case p4_GoesRound => k_is)
    (case p5_GoesRound => k_is)
    (case p6_GoesRound => k_is)
    (case p7_GoesRound => k_is)
    (case p8_GoesRound => k_is)
    (case p9_GoesRound => k_is)
    (case k_GoesRound_GoesRound => k_is)
    (case k_GoesRound_NoDyeing => k_is)
    (case k_GoesRound_NoNote => k_is)
    (case k_GoesRound_NoSetting => k_is)
    (case k_GoesRound_NoTie => k_is)
    (case k_GoesRound_NoWeb => k_is)
    (case p1_NoDyeing => k_is)
    (case p2_NoDyeing => k_is)
    (case p3_NoDyeing => k_is)
    (case p4_NoDyeing => k_is)
    (case p5_NoDyeing => k_is)
    (case p6_NoDyeing => k_is)
    (case p7_NoDyeing => k_is)
    (case p8_NoDyeing => k_is)
    (case p9_NoDyeing => k_is)
    (case k_NoDyeing_GoesRound => k_is)
    (case k_NoDyeing_NoDyeing => k_is)
    (case k_NoDyeing_NoNote => k_is)
    (case k_NoDyeing_NoSetting => k_is)
    (case k_NoDyeing_NoTie => k_is)
    (case k_NoDyeing_NoWeb => k_is)
    (case p1_NoNote => k_is)
    (case p2_NoNote => k_is)
    (case p3_NoNote => k_is)
    (case p4_NoNote => k_is)
    (case p5_NoNote => k_is)
    (case p6_NoNote => k_is)
    (case p7_NoNote => k_is)
    (case p8_NoNote => k_is)
    (case p9_NoNote => k_is)
    (case k_NoNote_GoesRound => k_is)
    (case k_NoNote_NoDyeing => k_is)
    (case k_NoNote_NoNote => k_is)
    (case k_NoNote_NoSetting => k_is)
    (case k_NoNote_NoTie => k_is)
    (case k_NoNote_NoWeb => k_is)
    (case p1_NoSetting => k_is)
    (case p2_NoSetting => k_is)
    (case p3_NoSetting => k_is)
    (case p4_NoSetting => k_is)
    (case p5_NoSetting => k_is)
    (case p6_NoSetting => k_is)
    (case p7_NoSetting => k_is)
    (case p8_NoSetting => k_is)
    (case p9_NoSetting => k_is)
    (case k_NoSetting_GoesRound => k_is)
    (case k_NoSetting_NoDyeing => k_is)
    (case k_NoSetting_NoNote => k_is)
    (case k_NoSetting_NoSetting => k_is)
    (case k_NoSetting_NoTie => k_is)
    (case k_NoSetting_NoWeb => k_is)
    (case p1_NoTie => k_is)
    (case p2_NoTie => k_is)
    (case p3_NoTie => k_is)
    (case p4_NoTie => k_is)
    (case p5_NoTie => k_is)
    (case p6_NoTie => k_is)
    (case p7_NoTie => k_is)
    (case p8_NoTie => k_is)
    (case p9_NoTie => k_is)
    (case k_NoTie_GoesRound => k_is)
    (case k_NoTie_NoDyeing => k_is)
    (case k_NoTie_NoNote => k_is)
    (case k_NoTie_NoSetting => k_is)
    (case k_NoTie_NoTie => k_is)
    (case k_NoTie_NoWeb => k_is)
    (case p1_NoWeb => k_is)
    (case p2_NoWeb => k_is)
    (case p3_NoWeb => k_is)
    (case p4_NoWeb => k_is)
    (case p5_NoWeb => k_is)
    (case p6_NoWeb => k_is)
    (case p7_NoWeb => k_is)
    (case p8_NoWeb => k_is)
    (case p9_NoWeb => k_is)
    (case k_NoWeb_GoesRound => k_is)
    (case k_NoWeb_NoDyeing => k_is)
    (case k_NoWeb_NoNote => k_is)
    (case k_NoWeb_NoSetting => k_is)
    (case k_NoWeb_NoTie => k_is)
    (case k_NoWeb_NoWeb => k_is)
#print axioms PySem.Challenge.cw_dyeweb_k17_read_or_refused_holds
