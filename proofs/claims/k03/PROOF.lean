import PyProof.Rows.All
import Wide.All
import OpenK.AllK
import Wide.FinOn
import HandS.ForMost
import HandS.ForExc
import HandS.Wide
import HandS.Deep
import HandS.Walk
import HandS.TupLe
import HandS.TupSets
import HandS.Conv
import HandS.Style
import HandS.IsInst
import HandS.SortRule
import PyProof.Rows.Chain
import HandS.ExcIs
import HandS.More
import PySem.Challenge.RW_dyeweb_k03_pieces
/-! The words that the mirrors are written in: plain Lean, no library. -/
namespace Dv
set_option linter.all false
variable {α β S R : Type}
/-- what leaves a loop's turn -/
inductive Stp (S R : Type) where
  | go (s : S)
  | ret (r : R)
def Stp.elim {T : Type} (st : Stp S R) (f : S → T) (g : R → T) : T := match st with
  | .go s => f s
  | .ret r => g r
@[simp] theorem Stp.elim_go {T : Type} (s : S) (f : S → T) (g : R → T) : (Stp.go s : Stp S R).elim f g = f s := rfl
@[simp] theorem Stp.elim_ret {T : Type} (r : R) (f : S → T) (g : R → T) : (Stp.ret r : Stp S R).elim f g = g r := rfl
def loopG (f : S → α → Option S) : S → List α → Option S
  | s, [] => some s
  | s, x :: xs => (f s x).bind fun s' => loopG f s' xs
def loopR (f : S → α → Option (Stp S R)) : S → List α → Option (Stp S R)
  | s, [] => some (.go s)
  | s, x :: xs => (f s x).bind fun st => st.elim (fun s' => loopR f s' xs) fun r => some (.ret r)
def whileG (c : S → Option Bool) (f : S → Option S) : Nat → S → Option S
  | 0, _ => none
  | n + 1, s => (c s).bind fun b => if b then (f s).bind fun s' => whileG c f n s' else some s
def whileR (c : S → Option Bool) (f : S → Option (Stp S R)) : Nat → S → Option (Stp S R)
  | 0, _ => none
  | n + 1, s => (c s).bind fun b => if b then (f s).bind fun st => st.elim (fun s' => whileR c f n s') fun r => some (.ret r) else some (.go s)
def lcG (c : α → Option Bool) (f : α → Option β) : List α → Option (List β)
  | [] => some []
  | x :: xs => (c x).bind fun b => if b then (f x).bind fun y => (lcG c f xs).bind fun ys => some (y :: ys) else lcG c f xs
/-- a list comprehension over a list that is not too long -/
def lc (c : α → Option Bool) (f : α → Option β) (xs : List α) : Option (List β) := if xs.length < 10000000 then lcG c f xs else none
def ixZ (n : Nat) (i : Int) : Option Nat := if 0 ≤ i then (if i < n then some i.toNat else none) else if -(n : Int) ≤ i then some (i + n).toNat else none
def atZ (xs : List α) (i : Int) : Option α := (ixZ xs.length i).bind fun j => xs[j]?
def setZ (xs : List α) (i : Int) (x : α) : Option (List α) := (ixZ xs.length i).bind fun j => some (xs.set j x)
def rng (a b : Int) : Option (List Int) := if (-4000000000000000000 ≤ a ∧ a ≤ 4000000000000000000) ∧ (-4000000000000000000 ≤ b ∧ b ≤ 4000000000000000000) then some ((List.range (b - a).toNat).map fun i => a + (i : Nat)) else none
def mulZ (i j : Int) : Option Int := if (-(2 ^ 64) < i ∧ i < 2 ^ 64) ∨ (-(2 ^ 64) < j ∧ j < 2 ^ 64) then some (i * j) else none
def divZ (i j : Int) : Option Int := if 0 < j ∧ j < 1073741824 then some (i / j) else none
def divW (i j : Int) : Option Int := if 0 < j ∧ j.natAbs.log2 < 9000 then some (i / j) else none
def modZ (i j : Int) : Option Int := if 0 < j then some (i % j) else none
def addL (xs : List α) (y : α) : Option (List α) := if xs.length < 10000000 then some (xs ++ [y]) else none
def catL (xs ys : List α) : Option (List α) := if xs.length + ys.length ≤ 10000000 then some (xs ++ ys) else none
def cutIx (n d : Nat) : Option Int → Nat
  | none => d
  | some i => if i < 0 then (i + n).toNat else min i.toNat n
def memL [DecidableEq α] (x : α) (xs : List α) : Bool := decide (x ∈ xs)
/-- a part of a list -/
def cutZ (xs : List α) (lo hi : Option Int) : List α := (xs.drop (cutIx xs.length 0 lo)).take (cutIx xs.length xs.length hi - cutIx xs.length 0 lo)
/-- the order of pairs -/
def leP (a b : Int × Int) : Bool := if a.1 = b.1 then decide (a.2 ≤ b.2) else decide (a.1 ≤ b.1)
def ins {γ : Type} (le : γ → γ → Bool) (x : γ) : List γ → List γ
  | [] => [x]
  | y :: ys => if le x y then x :: y :: ys else y :: ins le x ys
def srt {γ : Type} (le : γ → γ → Bool) : List γ → List γ
  | [] => []
  | x :: xs => ins le x (srt le xs)
end Dv
namespace Dv
theorem leP_total (a b : Int × Int) : leP a b = true ∨ leP b a = true := by
  unfold leP
  by_cases h : a.1 = b.1
  · simp only [h, ↓reduceIte, decide_eq_true_eq]
    omega
  · have h' : ¬ b.1 = a.1 := fun e => h e.symm
    simp only [h, h', ↓reduceIte, decide_eq_true_eq]
    omega
theorem leP_trans {a b c : Int × Int} (h1 : leP a b = true) (h2 : leP b c = true) : leP a c = true := by
  unfold leP at *
  split at h1 <;> split at h2 <;> split <;> simp_all <;> omega
theorem leP_anti {a b : Int × Int} (h1 : leP a b = true) (h2 : leP b a = true) : a = b := by
  obtain ⟨a1, a2⟩ := a
  obtain ⟨b1, b2⟩ := b
  unfold leP at *
  dsimp only at *
  split at h1 <;> split at h2 <;> simp_all <;> omega
/-- a total order -/
structure Ord {γ : Type} (le : γ → γ → Bool) : Prop where
  total : ∀ a b, le a b = true ∨ le b a = true
  trans : ∀ a b c, le a b = true → le b c = true → le a c = true
  anti : ∀ a b, le a b = true → le b a = true → a = b
theorem ordP : Ord leP := ⟨leP_total, fun _ _ _ => leP_trans, fun _ _ => leP_anti⟩
def leI (a b : Int) : Bool := decide (a ≤ b)
theorem ordI : Ord leI := ⟨fun a b => by simp only [leI, decide_eq_true_eq]; omega, fun a b c => by simp only [leI, decide_eq_true_eq]; omega, fun a b => by simp only [leI, decide_eq_true_eq]; omega⟩
section
variable {γ : Type} {le : γ → γ → Bool}
theorem ins_perm (x : γ) : ∀ l, (ins le x l).Perm (x :: l)
  | [] => .refl _
  | y :: l => by
    unfold ins
    split
    · exact .refl _
    · exact ((ins_perm x l).cons y).trans (List.Perm.swap x y l)
theorem srt_perm : ∀ l, (srt le l).Perm l
  | [] => .refl _
  | x :: l => (ins_perm x _).trans ((srt_perm l).cons x)
theorem ins_sorted (O : Ord le) (x : γ) : ∀ l, l.Pairwise (fun a b => le a b = true) → (ins le x l).Pairwise (fun a b => le a b = true)
  | [], _ => by simp [ins]
  | y :: l, h => by
    unfold ins
    by_cases c : le x y = true
    · rw [if_pos c]
      refine List.pairwise_cons.mpr ⟨fun z hz => ?_, h⟩
      rcases List.mem_cons.mp hz with rfl | hz
      · exact c
      · exact O.trans _ _ _ c ((List.pairwise_cons.mp h).1 z hz)
    · rw [if_neg c]
      refine List.pairwise_cons.mpr ⟨fun z hz => ?_, ins_sorted O x l (List.pairwise_cons.mp h).2⟩
      rcases List.mem_cons.mp ((ins_perm x l).mem_iff.mp hz) with rfl | hz
      · rcases O.total z y with q | q
        · exact absurd q c
        · exact q
      · exact (List.pairwise_cons.mp h).1 z hz
theorem srt_sorted (O : Ord le) : ∀ l, (srt le l).Pairwise (fun a b => le a b = true)
  | [] => .nil
  | x :: l => ins_sorted O x _ (srt_sorted O l)
theorem sorted_uniq (O : Ord le) : ∀ {l m : List γ}, l.Perm m → l.Pairwise (fun a b => le a b = true) → m.Pairwise (fun a b => le a b = true) → l = m
  | [], m, h, _, _ => (List.Perm.eq_nil h.symm).symm
  | x :: l, [], h, _, _ => absurd h.length_eq (by simp)
  | x :: l, y :: m, h, hl, hm => by
    have e : x = y := by
      rcases List.mem_cons.mp (h.mem_iff.mp (List.mem_cons_self (a := x) (l := l))) with e | hx
      · exact e
      · rcases List.mem_cons.mp (h.mem_iff.mpr (List.mem_cons_self (a := y) (l := m))) with e | hy
        · exact e.symm
        · exact O.anti _ _ ((List.pairwise_cons.mp hl).1 y hy) ((List.pairwise_cons.mp hm).1 x hx)
    subst e
    rw [sorted_uniq O h.cons_inv (List.pairwise_cons.mp hl).2 (List.pairwise_cons.mp hm).2]
theorem srt_uniq (O : Ord le) {l m : List γ} (h : l.Perm m) (hl : l.Pairwise (fun a b => le a b = true)) : l = srt le m :=
  sorted_uniq O (h.trans (srt_perm m).symm) hl (srt_sorted O m)
end
/-- keys of a dict, in the order in which they came -/
def putD {γ : Type} [DecidableEq γ] (ks : List γ) (k : γ) : List γ := if k ∈ ks then ks else ks ++ [k]
end Dv
namespace Dv
/-- the program's refusals -/
inductive Er where
  | noWeb | noTie | noDyeing | noSetting | goesRound | noNote
deriving DecidableEq
abbrev Rs (α : Type) := Option (Except Er α)
def exB {α β : Type} (y : Except Er α) (k : α → Rs β) : Rs β := match y with
  | .ok x => k x
  | .error e => some (.error e)
@[simp] theorem exB_ok {α β : Type} (x : α) (k : α → Rs β) : exB (.ok x) k = k x := rfl
@[simp] theorem exB_error {α β : Type} (e : Er) (k : α → Rs β) : exB (.error e : Except Er α) k = some (.error e) := rfl
/-- an answer that is no refusal -/
def noX {α : Type} (m : Rs α) : Option α := m.bind fun y => match y with
  | .ok x => some x
  | .error _ => none
@[simp] theorem noX_ok {α : Type} (x : α) : noX (some (.ok x) : Rs α) = some x := rfl
/-- try .. except -/
def trX {α β : Type} (m : Rs α) (f : α → Option β) (k : Er → Option β) : Option β := m.bind fun y => match y with
  | .ok x => f x
  | .error e => k e
@[simp] theorem trX_ok {α β : Type} (x : α) (f : α → Option β) (k : Er → Option β) : trX (some (.ok x) : Rs α) f k = f x := rfl
@[simp] theorem trX_error {α β : Type} (e : Er) (f : α → Option β) (k : Er → Option β) : trX (some (.error e) : Rs α) f k = k e := rfl
def isE (e c : Er) : Bool := decide (e = c)
end Dv
namespace Dv
def srtI (xs : List Int) : Option (List Int) := if xs.length < 64 then some (srt leI xs) else none
/-- list(range(n)) -/
def lrng (n : Int) : Option (List Int) := if -4611686018427387904 ≤ n ∧ n ≤ 10000000 then some ((List.range n.toNat).map fun i => ((i : Nat) : Int)) else none
def putDZ (ks : List (Int × Int)) (t : Int × Int) : Option (List (Int × Int)) := if ks.length < 10000000 then some (putD ks t) else none
end Dv
namespace Dv
/-- a list of two of unlike kinds -/
structure Duo (α β : Type) where
  a : α
  b : β
end Dv
namespace Dv
instance {α β : Type} [DecidableEq α] [DecidableEq β] : DecidableEq (Duo α β) := fun x y => decidable_of_iff (x.a = y.a ∧ x.b = y.b) ⟨fun ⟨h1, h2⟩ => by cases x; cases y; cases h1; cases h2; rfl, fun h => by rw [h]; exact ⟨rfl, rfl⟩⟩
end Dv
namespace Dv
def insZ {α : Type} (xs : List α) (i : Int) (y : α) : Option (List α) := if xs.length < 10000000 ∧ 0 ≤ i ∧ i < 4611686018427387904 then some (xs.take i.toNat ++ [y] ++ xs.drop i.toNat) else none
/-- xs.index(x) -/
def idxZ (xs : List Int) (x : Int) : Option Int := if x ∈ xs then some (xs.idxOf x : Int) else none
def isL {α β : Type} : Option (α ⊕ β) → Bool
  | some (.inl _) => true
  | _ => false
def unL {α β : Type} : Option (α ⊕ β) → Option α
  | some (.inl x) => some x
  | _ => none
def unR {α β : Type} : Option (α ⊕ β) → Option β
  | some (.inr x) => some x
  | _ => none
end Dv

set_option Elab.async false
set_option linter.all false
set_option maxRecDepth 100000
set_option maxHeartbeats 4000000
/-! The layer between the readings of HandS and mirrors in plain Lean. -/
namespace Dw
open PySem L2 Dv

/-! ### what is known stays -/
/-- what may change -/
def Chg : HO → Prop
  | .lst _ => True
  | .dT _ => True
  | _ => False
structure Lat (F H F' H' : Hp) : Prop where
  f : Same F F'
  h : Same H H'
  fh : Same F' H'
  nw : ∀ a o, H a = some o → Chg o → F a = none → F' a = none
theorem Lat.nwl {F H F' H' : Hp} (l : Lat F H F' H') {a : Addr} {vs : List V} (e : H a = some (.lst vs)) (f : F a = none) : F' a = none := l.nw a _ e trivial f
theorem Lat.refl {F H : Hp} (s : Same F H) : Lat F H F H := ⟨.refl _, .refl _, s, fun _ _ _ _ h => h⟩
theorem Lat.trans {F H F1 H1 F2 H2 : Hp} (a : Lat F H F1 H1) (b : Lat F1 H1 F2 H2) : Lat F H F2 H2 :=
  ⟨a.f.trans b.f, a.h.trans b.h, b.fh, fun p o e c f => b.nw p o (a.h _ _ e) c (a.nw p o e c f)⟩
theorem Lat.s0 {F H F' H' : Hp} (a : Lat F H F' H') (s : Same F H) : Same F H' := s.trans a.h
/-- all of the heap held for known -/
theorem Lat.all {F H F' H' : Hp} (a : Lat F H F' H') : Lat H H H' H' := ⟨a.h, a.h, .refl _, fun _ _ e _ f => by rw [e] at f; cases f⟩
/-- the heap grew, nothing new is known -/
theorem Lat.grow {F H H' : Hp} (s : Same F H) (h : Same H H') : Lat F H F H' := ⟨.refl _, h, s.trans h, fun _ _ _ _ f => f⟩
theorem same_upd {H : Hp} {p : Addr} {o : HO} (h : H p = none) : Same H (upd H p o) := fun a u e => by
  rw [upd_ne (ne_of_none e h)]
  exact e
/-- what stands is held for known -/
theorem Lat.know {F H F1 H1 : Hp} {p : Addr} {o : HO} (l : Lat F H F1 H1) (hp : ∀ u, H p = some u → Chg u → F p = none → False) (h1 : F1 p = none) (e : H1 p = some o) : Lat F H (upd F1 p o) H1 := by
  refine ⟨l.f.trans (same_upd h1), l.h, fun a u q => ?_, fun a u q c f => ?_⟩
  · by_cases z : a = p
    · subst z
      rw [upd_same] at q
      rw [e]
      exact q
    · rw [upd_ne z] at q
      exact l.fh _ _ q
  · by_cases z : a = p
    · subst z
      exact (hp u q c f).elim
    · rw [upd_ne z]
      exact l.nw _ _ q c f
/-- what was made is held for known -/
theorem Lat.hold {F H F1 H1 : Hp} {p : Addr} {o : HO} (l : Lat F H F1 H1) (hp : H p = none) (h1 : F1 p = none) (e : H1 p = some o) : Lat F H (upd F1 p o) H1 :=
  l.know (fun u q _ _ => by rw [hp] at q; cases q) h1 e
/-- a new object, not held for known -/
theorem Lat.made {F H : Hp} {p : Addr} {o : HO} (s : Same F H) (h : H p = none) : Lat F H F (upd H p o) := Lat.grow s (same_upd h)
/-- a new object, known from now on -/
theorem Lat.new {F H : Hp} {p : Addr} {o : HO} (s : Same F H) (h : H p = none) : Lat F H (upd F p o) (upd H p o) :=
  (Lat.made s h).hold h (s.free h) upd_same
/-- a list that was made behind H changes -/
theorem Lat.put {F H F1 H1 : Hp} {p : Addr} {o : HO} (l : Lat F H F1 H1) (hp : H p = none) (h1 : F1 p = none) : Lat F H F1 (upd H1 p o) := by
  refine ⟨l.f, fun a u e => ?_, fun a u e => ?_, l.nw⟩
  · rw [upd_ne (ne_of_none e hp)]
    exact l.h _ _ e
  · rw [upd_ne (ne_of_none e h1)]
    exact l.fh _ _ e

/-! ### data in the heap -/
class Rep (α : Type) where
  rp : α → V → Hp → Prop
  mono : ∀ {x : α} {v : V} {F F' : Hp}, Same F F' → rp x v F → rp x v F'
open Rep (rp)
theorem up {α : Type} [Rep α] {x : α} {v : V} {F F' H H' : Hp} (h : rp x v F) (l : Lat F H F' H') : rp x v F' := Rep.mono l.f h
/-- what does not look at the heap -/
class Flat (α : Type) [Rep α] : Prop where
  any : ∀ {x : α} {v : V} {F F' : Hp}, rp x v F → rp x v F'
instance : Rep Int := ⟨fun x v _ => v = .int x, fun _ h => h⟩
instance : Rep Bool := ⟨fun x v _ => v = .bl x, fun _ h => h⟩
instance : Rep Str := ⟨fun x v _ => v = .str x, fun _ h => h⟩
instance : Rep Unit := ⟨fun _ v _ => v = .non, fun _ h => h⟩
instance : Flat Int := ⟨fun h => h⟩
instance : Flat Bool := ⟨fun h => h⟩
instance : Flat Str := ⟨fun h => h⟩
instance : Flat Unit := ⟨fun h => h⟩
def rpO {α : Type} [Rep α] : Option α → V → Hp → Prop
  | none, v, _ => v = .non
  | some x, v, F => rp x v F
instance {α : Type} [Rep α] : Rep (Option α) := ⟨rpO, fun {x} => by
  cases x with
  | none => exact fun _ h => h
  | some x => exact fun s h => Rep.mono (α := α) s h⟩
def rpL {α : Type} [Rep α] : List α → List V → Hp → Prop
  | [], [], _ => True
  | x :: xs, v :: vs, F => rp x v F ∧ rpL xs vs F
  | _, _, _ => False
theorem rpL.mono {α : Type} [Rep α] {F F' : Hp} (s : Same F F') : ∀ {xs : List α} {vs : List V}, rpL xs vs F → rpL xs vs F'
  | [], [], _ => trivial
  | _ :: _, _ :: _, h => ⟨Rep.mono s h.1, rpL.mono s h.2⟩
  | [], _ :: _, h => h
  | _ :: _, [], h => h
theorem rpL.any {α : Type} [Rep α] [Flat α] {F F' : Hp} : ∀ {xs : List α} {vs : List V}, rpL xs vs F → rpL xs vs F'
  | [], [], _ => trivial
  | _ :: _, _ :: _, h => ⟨Flat.any h.1, rpL.any h.2⟩
  | [], _ :: _, h => h
  | _ :: _, [], h => h
theorem rpL.length {α : Type} [Rep α] {F : Hp} : ∀ {xs : List α} {vs : List V}, rpL xs vs F → vs.length = xs.length
  | [], [], _ => rfl
  | _ :: _, _ :: _, h => by simp [rpL.length h.2]
  | [], _ :: _, h => h.elim
  | _ :: _, [], h => h.elim
theorem rpL.get {α : Type} [Rep α] {F : Hp} : ∀ {xs : List α} {vs : List V}, rpL xs vs F → ∀ {i : Nat} {x : α}, xs[i]? = some x → ∃ v, vs[i]? = some v ∧ rp x v F
  | [], [], _, _, _, e => by simp at e
  | a :: _, v :: _, h, 0, x, e => by
    have : a = x := by simpa using e
    subst this
    exact ⟨v, by simp, h.1⟩
  | _ :: _, _ :: _, h, i + 1, x, e => by
    obtain ⟨v, e', r⟩ := rpL.get h.2 (i := i) (x := x) (by simpa using e)
    exact ⟨v, by simpa using e', r⟩
  | [], _ :: _, h, _, _, _ => h.elim
  | _ :: _, [], h, _, _, _ => h.elim
theorem rpL.get' {α : Type} [Rep α] {F : Hp} : ∀ {xs : List α} {vs : List V}, rpL xs vs F → ∀ {i : Nat} {v : V}, vs[i]? = some v → ∃ x, xs[i]? = some x ∧ rp x v F
  | [], [], _, _, _, e => by simp at e
  | a :: _, b :: _, h, 0, v, e => by
    have : b = v := by simpa using e
    subst this
    exact ⟨a, by simp, h.1⟩
  | _ :: _, _ :: _, h, i + 1, x, e => by
    obtain ⟨v, e', r⟩ := rpL.get' h.2 (i := i) (v := x) (by simpa using e)
    exact ⟨v, by simpa using e', r⟩
  | [], _ :: _, h, _, _, _ => h.elim
  | _ :: _, [], h, _, _, _ => h.elim
theorem rpL.append {α : Type} [Rep α] {F : Hp} : ∀ {xs ys : List α} {vs ws : List V}, rpL xs vs F → rpL ys ws F → rpL (xs ++ ys) (vs ++ ws) F
  | [], _, [], _, _, h => h
  | _ :: _, _, _ :: _, _, h, k => ⟨h.1, rpL.append h.2 k⟩
  | [], _, _ :: _, _, h, _ => h.elim
  | _ :: _, _, [], _, h, _ => h.elim
theorem rpL.set {α : Type} [Rep α] {F : Hp} {y : α} {w : V} (hy : rp y w F) : ∀ {xs : List α} {vs : List V} (i : Nat), rpL xs vs F → rpL (xs.set i y) (vs.set i w) F
  | [], [], _, _ => trivial
  | _ :: _, _ :: _, 0, h => ⟨hy, h.2⟩
  | _ :: _, _ :: _, i + 1, h => ⟨h.1, rpL.set hy i h.2⟩
  | [], _ :: _, _, h => h.elim
  | _ :: _, [], _, h => h.elim
theorem rpL.drop {α : Type} [Rep α] {F : Hp} : ∀ {xs : List α} {vs : List V} (i : Nat), rpL xs vs F → rpL (xs.drop i) (vs.drop i) F
  | [], [], i, _ => by simp [rpL]
  | _ :: _, _ :: _, 0, h => h
  | _ :: _, _ :: _, i + 1, h => by simpa using rpL.drop i h.2
  | [], _ :: _, _, h => h.elim
  | _ :: _, [], _, h => h.elim
theorem rpL.take {α : Type} [Rep α] {F : Hp} : ∀ {xs : List α} {vs : List V} (i : Nat), rpL xs vs F → rpL (xs.take i) (vs.take i) F
  | [], [], i, _ => by simp [rpL]
  | _ :: _, _ :: _, 0, h => by simp [rpL]
  | _ :: _, _ :: _, i + 1, h => ⟨h.1, rpL.take i h.2⟩
  | [], _ :: _, _, h => h.elim
  | _ :: _, [], _, h => h.elim
theorem rpL.reverse {α : Type} [Rep α] {F : Hp} : ∀ {xs : List α} {vs : List V}, rpL xs vs F → rpL xs.reverse vs.reverse F
  | [], [], _ => trivial
  | x :: xs, v :: vs, h => by
    rw [List.reverse_cons, List.reverse_cons]
    exact rpL.append (rpL.reverse h.2) ⟨h.1, trivial⟩
  | [], _ :: _, h => h.elim
  | _ :: _, [], h => h.elim
theorem rpL_ints {F : Hp} : ∀ {xs : List Int} {vs : List V}, rpL xs vs F → vs = xs.map V.int
  | [], [], _ => rfl
  | _ :: _, _ :: _, h => by
    rw [List.map_cons, ← rpL_ints h.2]
    exact congrArg (· :: _) h.1
  | [], _ :: _, h => h.elim
  | _ :: _, [], h => h.elim
theorem rpL_ints' {F : Hp} : ∀ (xs : List Int), rpL xs (xs.map V.int) F
  | [] => trivial
  | _ :: xs => ⟨rfl, rpL_ints' xs⟩
instance {α : Type} [Rep α] : Rep (List α) := ⟨fun xs v F => ∃ a vs, v = .ref a ∧ F a = some (.lst vs) ∧ rpL xs vs F, fun s ⟨a, vs, e, h, r⟩ => ⟨a, vs, e, s _ _ h, rpL.mono s r⟩⟩
instance {α β : Type} [Rep α] [Rep β] : Rep (α × β) := ⟨fun x v F => ∃ a v1 v2, v = .ref a ∧ F a = some (.tup [v1, v2]) ∧ rp x.1 v1 F ∧ rp x.2 v2 F,
  fun s ⟨a, v1, v2, e, h, r1, r2⟩ => ⟨a, v1, v2, e, s _ _ h, Rep.mono s r1, Rep.mono s r2⟩⟩
/-- one of two kinds -/
def rpS {α β : Type} [Rep α] [Rep β] : α ⊕ β → V → Hp → Prop
  | .inl x, v, F => rp x v F
  | .inr x, v, F => rp x v F
instance {α β : Type} [Rep α] [Rep β] : Rep (α ⊕ β) := ⟨rpS, fun {x} => by
  cases x with
  | inl x => exact fun s h => Rep.mono (α := α) s h
  | inr x => exact fun s h => Rep.mono (α := β) s h⟩
/-- a list of two things of unlike kinds -/
instance {α β : Type} [Rep α] [Rep β] : Rep (Duo α β) := ⟨fun x v F => ∃ p v1 v2, v = .ref p ∧ F p = some (.lst [v1, v2]) ∧ rp x.a v1 F ∧ rp x.b v2 F,
  fun s ⟨a, v1, v2, e, h, r1, r2⟩ => ⟨a, v1, v2, e, s _ _ h, Rep.mono s r1, Rep.mono s r2⟩⟩
/-- the script, or a list in its place -/
structure Scr (K : PySem.W.Frag) where
  l : List Int
theorem same_rd {H H' : Hp} {a : Addr} {u : HO} (e : Same H H') (h : Rd H a u) : Rd H' a u := by
  rcases h with h | ⟨o, h⟩
  · exact Or.inl (e a _ h)
  · exact Or.inr ⟨o, e a _ h⟩
theorem same_l {K : PySem.W.Frag} {H H' : Hp} {a : Addr} {xs : List V} (e : Same H H') (h : SqL K H a xs) : SqL K H' a xs := by
  rcases h with h | h
  · exact Or.inl (same_rd e h)
  · exact Or.inr h
instance {K : PySem.W.Frag} : Rep (Scr K) := ⟨fun x v F => ∃ a, v = .ref a ∧ SqL K F a (x.l.map V.int), fun s ⟨a, e, h⟩ => ⟨a, e, same_l s h⟩⟩
theorem sqL {K : PySem.W.Frag} {H : Hp} {a : Addr} {xs : List V} (h : H a = some (.lst xs)) : SqL K H a xs := Or.inl (Or.inl h)
theorem sqT {K : PySem.W.Frag} {H : Hp} {a : Addr} {xs : List V} (h : H a = some (.tup xs)) : SqT K H a xs := Or.inl (Or.inl h)

/-! ### arguments -/
class RepA (α : Type) where
  ra : α → List V → Hp → Prop
  mono : ∀ {x : α} {v : List V} {F F' : Hp}, Same F F' → ra x v F → ra x v F'
open RepA (ra)
instance : RepA Unit := ⟨fun _ vs _ => vs = [], fun _ h => h⟩
instance {α β : Type} [Rep α] [RepA β] : RepA (α × β) := ⟨fun x vs F => ∃ v ws, vs = v :: ws ∧ rp x.1 v F ∧ ra x.2 ws F,
  fun s ⟨v, ws, e, h, k⟩ => ⟨v, ws, e, Rep.mono s h, RepA.mono s k⟩⟩

/-! ### what an expression is worth -/
section
variable {α β γ : Type} [Rep α] [Rep β] [Rep γ]
def EV (t : TE) (σ : L2.St) (F H : Hp) (m : Option α) : Prop :=
  ∀ F1 H1, Lat F H F1 H1 → ∀ x, m = some x → ∀ Q : VK, (∀ v F2 H2, Lat F1 H1 F2 H2 → rp x v F2 → Q v H2) → t σ H1 Q
/-- a new list -/
def EVN (t : TE) (σ : L2.St) (F H : Hp) (m : Option (List α)) : Prop :=
  ∀ F1 H1, Lat F H F1 H1 → ∀ xs, m = some xs → ∀ Q : VK, (∀ p vs F2 H2, Lat F1 H1 F2 H2 → H1 p = none → F2 p = none → H2 p = some (.lst vs) → rpL xs vs F2 → Q (.ref p) H2) → t σ H1 Q
def EVT (t : TT) (σ : L2.St) (F H : Hp) (m : Option Bool) : Prop :=
  ∀ F1 H1, Lat F H F1 H1 → ∀ x, m = some x → ∀ Q : Bool → Hp → Prop, (∀ F2 H2, Lat F1 H1 F2 H2 → Q x H2) → t σ H1 Q
def EVA {δ : Type} [RepA δ] (t : TA) (σ : L2.St) (F H : Hp) (m : Option δ) : Prop :=
  ∀ F1 H1, Lat F H F1 H1 → ∀ x, m = some x → ∀ Q : List V → Hp → Prop, (∀ vs F2 H2, Lat F1 H1 F2 H2 → ra x vs F2 → Q vs H2) → t σ H1 Q
/-- a display's items, n of them -/
def EVL (t : TA) (σ : L2.St) (F H : Hp) (n : Nat) (m : Option (List α)) : Prop :=
  (∀ xs, m = some xs → xs.length = n) ∧ ∀ F1 H1, Lat F H F1 H1 → ∀ xs, m = some xs → ∀ Q : List V → Hp → Prop, (∀ vs F2 H2, Lat F1 H1 F2 H2 → rpL xs vs F2 → Q vs H2) → t σ H1 Q
variable {t : TE} {σ : L2.St} {F H : Hp}
theorem EV.at {m : Option α} (h : EV t σ F H m) {F1 H1 : Hp} (l : Lat F H F1 H1) : EV t σ F1 H1 m := fun F2 H2 l2 => h F2 H2 (l.trans l2)
theorem EVN.at {m : Option (List α)} (h : EVN t σ F H m) {F1 H1 : Hp} (l : Lat F H F1 H1) : EVN t σ F1 H1 m := fun F2 H2 l2 => h F2 H2 (l.trans l2)
theorem EVT.at {t : TT} {m : Option Bool} (h : EVT t σ F H m) {F1 H1 : Hp} (l : Lat F H F1 H1) : EVT t σ F1 H1 m := fun F2 H2 l2 => h F2 H2 (l.trans l2)
theorem EVA.at {δ : Type} [RepA δ] {t : TA} {m : Option δ} (h : EVA t σ F H m) {F1 H1 : Hp} (l : Lat F H F1 H1) : EVA t σ F1 H1 m := fun F2 H2 l2 => h F2 H2 (l.trans l2)
theorem EVN.ev {m : Option (List α)} (h : EVN t σ F H m) : EV t σ F H m := fun F1 H1 l x e Q q =>
  h F1 H1 l x e Q fun p vs F2 H2 l2 h1 h2 h3 r => q (.ref p) (upd F2 p (.lst vs)) H2 (l2.hold h1 h2 h3) ⟨p, vs, rfl, upd_same, rpL.mono (same_upd h2) r⟩
/-- flat answers may look at all that stands -/
theorem EV.flat [Flat α] {m : Option α} (h : EV t σ H H m) (s : Same F H) : EV t σ F H m := fun F1 H1 l x e Q q =>
  h H1 H1 l.all x e Q fun v F2 H2 l2 r => q v F1 H2 (.grow l.fh l2.h) (Flat.any r)
theorem EVT.flat {t : TT} {m : Option Bool} (h : EVT t σ H H m) (s : Same F H) : EVT t σ F H m := fun F1 H1 l x e Q q =>
  h H1 H1 l.all x e Q fun F2 H2 l2 => q F1 H2 (.grow l.fh l2.h)
theorem EVN.flat [Flat α] {m : Option (List α)} (h : EVN t σ H H m) (s : Same F H) : EVN t σ F H m := fun F1 H1 l x e Q q =>
  h H1 H1 l.all x e Q fun p vs F2 H2 l2 h1 _ h3 r => q p vs F1 H2 (.grow l.fh l2.h) h1 (l.fh.free h1) h3 (rpL.any r)

theorem ev_var {i : Nat} {x : α} {v : V} (h : σ[i]? = some (some v)) (r : rp x v F) : EV (tVar i) σ F H (some x) := fun F1 H1 l y e Q q => by
  cases e
  exact ⟨v, h, q v F1 H1 (.refl l.fh) (up r l)⟩
theorem ev_c {x : α} {v : V} (r : ∀ F, rp x v F) : EV (tC v) σ F H (some x) := fun F1 H1 l y e Q q => by
  cases e
  exact q v F1 H1 (.refl l.fh) (r _)
theorem ev_int {n : Int} : EV (tC (.int n)) σ F H (some n) := ev_c fun _ => rfl
theorem ev_bl {b : Bool} : EV (tC (.bl b)) σ F H (some b) := ev_c fun _ => rfl
theorem ev_str {z : Str} : EV (tC (.str z)) σ F H (some z) := ev_c fun _ => rfl
theorem ev_non : EV (tC .non) σ F H (some (none : Option α)) := ev_c fun _ => rfl
theorem ev_some {m : Option α} (h : EV t σ F H m) : EV t σ F H (m.bind fun x => some (some x)) := fun F1 H1 l y e Q q => by
  obtain ⟨x, ex, ey⟩ := Option.bind_eq_some_iff.mp e
  cases ey
  exact h F1 H1 l x ex Q q
theorem ev_inl {m : Option α} (h : EV t σ F H m) : EV t σ F H (m.bind fun x => some (Sum.inl x : α ⊕ β)) := fun F1 H1 l y e Q q => by
  obtain ⟨x, ex, ey⟩ := Option.bind_eq_some_iff.mp e
  cases ey
  exact h F1 H1 l x ex Q q
theorem ev_inr {m : Option β} (h : EV t σ F H m) : EV t σ F H (m.bind fun x => some (Sum.inr x : α ⊕ β)) := fun F1 H1 l y e Q q => by
  obtain ⟨x, ex, ey⟩ := Option.bind_eq_some_iff.mp e
  cases ey
  exact h F1 H1 l x ex Q q
/-- an answer that may be None is none here -/
def unO (x : Option α) : Option α := x
theorem ev_un {m : Option (Option α)} (h : EV t σ F H m) : EV t σ F H (m.bind fun x => unO x) := fun F1 H1 l y e Q q => by
  obtain ⟨x, ex, ey⟩ := Option.bind_eq_some_iff.mp e
  refine h F1 H1 l x ex Q fun v F2 H2 l2 r => q v F2 H2 l2 ?_
  have ey' : x = some y := ey
  subst ey'
  exact r
theorem ev_scr {K : PySem.W.Frag} {m : Option (List Int)} (h : EV t σ F H m) : EV t σ F H (m.bind fun x => some (Scr.mk x : Scr K)) := fun F1 H1 l y e Q q => by
  obtain ⟨x, ex, ey⟩ := Option.bind_eq_some_iff.mp e
  cases ey
  refine h F1 H1 l x ex Q fun v F2 H2 l2 r => ?_
  obtain ⟨a, vs, e1, e2, r2⟩ := r
  exact q v F2 H2 l2 ⟨a, e1, sqL (by rw [rpL_ints r2] at e2; exact e2)⟩

/-! ### operators -/
def RV (r : R2) (x : α) (y : β) (m : Option γ) : Prop :=
  ∀ F H v w, Same F H → rp x v F → rp y w F → ∀ z, m = some z → ∀ Q : VK, (∀ u F2 H2, Lat F H F2 H2 → rp z u F2 → Q u H2) → r v w H Q
theorem ev_op {ta tb : TE} {r : R2} {ma : Option α} {mb : Option β} {k : α → β → Option γ} (ha : EV ta σ F H ma) (hb : EV tb σ F H mb) (hr : ∀ x y, RV r x y (k x y)) :
    EV (tOp r ta tb) σ F H (ma.bind fun x => mb.bind fun y => k x y) := fun F1 H1 l z e Q q => by
  obtain ⟨x, ex, e⟩ := Option.bind_eq_some_iff.mp e
  obtain ⟨y, ey, e⟩ := Option.bind_eq_some_iff.mp e
  refine ha F1 H1 l x ex _ fun v F2 H2 l2 rv => hb F2 H2 (l.trans l2) y ey _ fun w F3 H3 l3 rw' => ?_
  exact hr x y F3 H3 v w l3.fh (up rv l3) rw' z e Q fun u F4 H4 l4 ru => q u F4 H4 ((l2.trans l3).trans l4) ru
/-- the same, the answer a new list -/
def RVN (r : R2) (x : α) (y : β) (m : Option (List γ)) : Prop :=
  ∀ F H v w, Same F H → rp x v F → rp y w F → ∀ zs, m = some zs → ∀ Q : VK, (∀ p vs F2 H2, Lat F H F2 H2 → H p = none → F2 p = none → H2 p = some (.lst vs) → rpL zs vs F2 → Q (.ref p) H2) → r v w H Q
theorem evn_op {ta tb : TE} {r : R2} {ma : Option α} {mb : Option β} {k : α → β → Option (List γ)} (ha : EV ta σ F H ma) (hb : EV tb σ F H mb) (hr : ∀ x y, RVN r x y (k x y)) :
    EVN (tOp r ta tb) σ F H (ma.bind fun x => mb.bind fun y => k x y) := fun F1 H1 l z e Q q => by
  obtain ⟨x, ex, e⟩ := Option.bind_eq_some_iff.mp e
  obtain ⟨y, ey, e⟩ := Option.bind_eq_some_iff.mp e
  refine ha F1 H1 l x ex _ fun v F2 H2 l2 rv => hb F2 H2 (l.trans l2) y ey _ fun w F3 H3 l3 rw' => ?_
  refine hr x y F3 H3 v w l3.fh (up rv l3) rw' z e Q fun p vs F4 H4 l4 h1 h2 h3 r => q p vs F4 H4 ((l2.trans l3).trans l4) ?_ h2 h3 r
  exact (l2.trans l3).h.free h1
theorem rv_I0 {g : Int → Int → V} {f : Int → Int → γ} (hg : ∀ i j F, rp (f i j) (g i j) F) (x y : Int) : RV (rI0 g) x y (some (f x y)) := fun F H v w s rv rw' z e Q q => by
  cases e
  exact ⟨x, y, rv, rw', q _ F H (.refl s) (hg _ _ _)⟩
theorem rv_add (x y : Int) : RV (rI0 fun i j => .int (i + j)) x y (some (x + y)) := rv_I0 (fun _ _ _ => rfl) x y
theorem rv_sub (x y : Int) : RV (rI0 fun i j => .int (i - j)) x y (some (x - y)) := rv_I0 (fun _ _ _ => rfl) x y
theorem rv_I {C : Int → Int → Prop} {g : Int → Int → Int} (x y : Int) {m : Option Int} (h : ∀ z, m = some z → C x y ∧ z = g x y) : RV (rI C fun i j => .int (g i j)) x y m := fun F H v w s rv rw' z e Q q => by
  obtain ⟨h1, rfl⟩ := h z e
  exact ⟨x, y, rv, rw', h1, q _ F H (.refl s) rfl⟩
theorem rv_mul (x y : Int) : RV (rI CMul fun i j => .int (i * j)) x y (mulZ x y) := rv_I x y fun z e => by
  unfold mulZ at e
  split at e
  · cases e
    exact ⟨by assumption, rfl⟩
  · cases e
theorem rv_div (x y : Int) : RV (rI CDiv fun i j => .int (i / j)) x y (divZ x y) := rv_I x y fun z e => by
  unfold divZ at e
  split at e
  · cases e
    exact ⟨by assumption, rfl⟩
  · cases e
theorem rv_mod (x y : Int) : RV (rI (fun _ j => 0 < j) fun i j => .int (i % j)) x y (modZ x y) := rv_I x y fun z e => by
  unfold modZ at e
  split at e
  · cases e
    exact ⟨by assumption, rfl⟩
  · cases e
/-- comparisons of ints by pe_cmpR, pt_cmpR -/
theorem rv_cmp {g : Int → Int → Bool} (x y : Int) : RV (rI0 fun i j => .bl (g i j)) x y (some (g x y)) := rv_I0 (fun _ _ _ => rfl) x y
theorem rv_eqI (x y : Int) : RV rEq x y (some (decide (x = y))) := fun F H v w s rv rw' z e Q q => by
  cases e
  cases rv
  cases rw'
  exact ⟨rfl, q _ F H (.refl s) (show V.bl _ = V.bl _ by congr 1; simp)⟩
theorem rv_neI (x y : Int) : RV rNe x y (some (!decide (x = y))) := fun F H v w s rv rw' z e Q q => by
  cases e
  cases rv
  cases rw'
  exact ⟨rfl, q _ F H (.refl s) (show V.bl _ = V.bl _ by congr 1; simp)⟩
theorem rv_eqB (x y : Bool) : RV rEq x y (some (x == y)) := fun F H v w s rv rw' z e Q q => by
  cases e
  cases rv
  cases rw'
  exact ⟨rfl, q _ F H (.refl s) (show V.bl _ = V.bl _ by congr 1; exact dec_bl)⟩
theorem rv_neB (x y : Bool) : RV rNe x y (some (!(x == y))) := fun F H v w s rv rw' z e Q q => by
  cases e
  cases rv
  cases rw'
  exact ⟨rfl, q _ F H (.refl s) (show V.bl _ = V.bl _ by congr 2; exact dec_bl)⟩
theorem rv_eqS (x y : Str) : RV rEq x y (some (decide (x = y))) := fun F H v w s rv rw' z e Q q => by
  cases e
  cases rv
  cases rw'
  exact ⟨rfl, q _ F H (.refl s) (show V.bl _ = V.bl _ by congr 1; simp)⟩
theorem rv_neS (x y : Str) : RV rNe x y (some (!decide (x = y))) := fun F H v w s rv rw' z e Q q => by
  cases e
  cases rv
  cases rw'
  exact ⟨rfl, q _ F H (.refl s) (show V.bl _ = V.bl _ by congr 1; simp)⟩
theorem ixZ_eq (n : Nat) (i : Int) : ixZ n i = ixN n i := rfl
theorem rv_ixL {K : PySem.W.Frag} (xs : List α) (i : Int) : RV (rIxL K) xs i (atZ xs i) := fun F H v w s rv rw' z e Q q => by
  obtain ⟨a, vs, e1, e2, r⟩ := rv
  unfold atZ at e
  obtain ⟨j, ej, e3⟩ := Option.bind_eq_some_iff.mp e
  obtain ⟨u, eu, ru⟩ := r.get e3
  refine ⟨a, vs, i, u, e1, rw', sqL (s _ _ e2), ?_, q u F H (.refl s) ru⟩
  unfold atI
  rw [r.length, ← ixZ_eq, ej]
  exact eu
theorem rv_ixS {K : PySem.W.Frag} (xs : Scr K) (i : Int) : RV (rIxL K) xs i (atZ xs.l i) := fun F H v w s rv rw' z e Q q => by
  obtain ⟨a, e1, e2⟩ := rv
  unfold atZ at e
  obtain ⟨j, ej, e3⟩ := Option.bind_eq_some_iff.mp e
  obtain ⟨u, eu, ru⟩ := (rpL_ints' (F := F) xs.l).get e3
  refine ⟨a, _, i, u, e1, rw', same_l s e2, ?_, q u F H (.refl s) ru⟩
  unfold atI
  rw [List.length_map, ← ixZ_eq, ej]
  exact eu
theorem ev_fst {K : PySem.W.Frag} {m : Option (α × β)} (h : EV t σ F H m) : EV (tOp (rIxT K) t (tC (.int 0))) σ F H (m.bind fun x => some x.1) := fun F1 H1 l z e Q q => by
  obtain ⟨x, ex, e⟩ := Option.bind_eq_some_iff.mp e
  cases e
  refine h F1 H1 l x ex _ fun v F2 H2 l2 ⟨a, v1, v2, e1, e2, r1, r2⟩ => ?_
  exact ⟨a, _, 0, v1, e1, rfl, sqT (l2.fh _ _ e2), rfl, q v1 F2 H2 l2 r1⟩
theorem ev_snd {K : PySem.W.Frag} {m : Option (α × β)} (h : EV t σ F H m) : EV (tOp (rIxT K) t (tC (.int 1))) σ F H (m.bind fun x => some x.2) := fun F1 H1 l z e Q q => by
  obtain ⟨x, ex, e⟩ := Option.bind_eq_some_iff.mp e
  cases e
  refine h F1 H1 l x ex _ fun v F2 H2 l2 ⟨a, v1, v2, e1, e2, r1, r2⟩ => ?_
  exact ⟨a, _, 1, v2, e1, rfl, sqT (l2.fh _ _ e2), rfl, q v2 F2 H2 l2 r2⟩
theorem ev_duoA {K : PySem.W.Frag} {m : Option (Duo α β)} (h : EV t σ F H m) : EV (tOp (rIxL K) t (tC (.int 0))) σ F H (m.bind fun x => some x.a) := fun F1 H1 l z e Q q => by
  obtain ⟨x, ex, e⟩ := Option.bind_eq_some_iff.mp e
  cases e
  refine h F1 H1 l x ex _ fun v F2 H2 l2 ⟨a, v1, v2, e1, e2, r1, r2⟩ => ?_
  exact ⟨a, _, 0, v1, e1, rfl, sqL (l2.fh _ _ e2), rfl, q v1 F2 H2 l2 r1⟩
theorem ev_duoB {K : PySem.W.Frag} {m : Option (Duo α β)} (h : EV t σ F H m) : EV (tOp (rIxL K) t (tC (.int 1))) σ F H (m.bind fun x => some x.b) := fun F1 H1 l z e Q q => by
  obtain ⟨x, ex, e⟩ := Option.bind_eq_some_iff.mp e
  cases e
  refine h F1 H1 l x ex _ fun v F2 H2 l2 ⟨a, v1, v2, e1, e2, r1, r2⟩ => ?_
  exact ⟨a, _, 1, v2, e1, rfl, sqL (l2.fh _ _ e2), rfl, q v2 F2 H2 l2 r2⟩
theorem ev_neg {m : Option Int} (h : EV t σ F H m) : EV (tUn (rU fun i => .int (-i)) t) σ F H (m.bind fun x => some (-x)) := fun F1 H1 l z e Q q => by
  obtain ⟨x, ex, e⟩ := Option.bind_eq_some_iff.mp e
  cases e
  exact h F1 H1 l x ex _ fun v F2 H2 l2 r => ⟨x, r, q _ F2 H2 l2 rfl⟩

/-! ### arguments, displays -/
theorem eva_nil : EVA tNil σ F H (some ()) := fun F1 H1 l z e Q q => q [] F1 H1 (.refl l.fh) rfl
theorem eva_cons {δ : Type} [RepA δ] {tr : TA} {m : Option α} {mr : Option δ} (h : EV t σ F H m) (hr : EVA tr σ F H mr) : EVA (tCons t tr) σ F H (m.bind fun x => mr.bind fun y => some (x, y)) := fun F1 H1 l z e Q q => by
  obtain ⟨x, ex, e⟩ := Option.bind_eq_some_iff.mp e
  obtain ⟨y, ey, e⟩ := Option.bind_eq_some_iff.mp e
  cases e
  exact h F1 H1 l x ex _ fun v F2 H2 l2 rv => hr F2 H2 (l.trans l2) y ey _ fun ws F3 H3 l3 rw' => q (v :: ws) F3 H3 (l2.trans l3) ⟨v, ws, rfl, (up rv l3), rw'⟩
theorem evl_nil : EVL tNil σ F H 0 (some ([] : List α)) := ⟨fun xs e => by cases e; rfl, fun F1 H1 l z e Q q => by
  cases e
  exact q [] F1 H1 (.refl l.fh) trivial⟩
theorem evl_cons {tr : TA} {n : Nat} {m : Option α} {mr : Option (List α)} (h : EV t σ F H m) (hr : EVL tr σ F H n mr) : EVL (tCons t tr) σ F H (n + 1) (m.bind fun x => mr.bind fun y => some (x :: y)) := ⟨fun xs e => by
  obtain ⟨x, ex, e⟩ := Option.bind_eq_some_iff.mp e
  obtain ⟨y, ey, e⟩ := Option.bind_eq_some_iff.mp e
  cases e
  rw [List.length_cons, hr.1 y ey], fun F1 H1 l z e Q q => by
  obtain ⟨x, ex, e⟩ := Option.bind_eq_some_iff.mp e
  obtain ⟨y, ey, e⟩ := Option.bind_eq_some_iff.mp e
  cases e
  exact h F1 H1 l x ex _ fun v F2 H2 l2 rv => hr.2 F2 H2 (l.trans l2) y ey _ fun ws F3 H3 l3 rw' => q (v :: ws) F3 H3 (l2.trans l3) ⟨(up rv l3), rw'⟩⟩
theorem sz_ok {n : Nat} (h : n ≤ 10000000) : n ≤ sizeLine := Nat.le_trans h (by decide)
theorem sz_lt {n : Nat} (h : n < 10000000) : n < sizeLine := Nat.lt_of_lt_of_le h (by decide)
/-- [a, b, ..] -/
theorem evn_lst {tr : TA} {n : Nat} {mr : Option (List α)} (hr : EVL tr σ F H n mr) (hs : n ≤ 10000000 := by decide) : EVN (tLst tr) σ F H mr := fun F1 H1 l xs e Q q =>
  hr.2 F1 H1 l xs e _ fun vs F2 H2 l2 r => ⟨sz_ok (by rw [r.length, hr.1 xs e]; exact hs), fun p hp => q p vs F2 (upd H2 p (.lst vs)) (l2.trans (.made l2.fh hp)) (l2.h.free hp) (l2.fh.free hp) upd_same r⟩
theorem evn_nil : EVN (tLst tNil) σ F H (some ([] : List α)) := evn_lst evl_nil
theorem ev_tup {ta tb : TE} {ma : Option α} {mb : Option β} (ha : EV ta σ F H ma) (hb : EV tb σ F H mb) : EV (tTup (tCons ta (tCons tb tNil))) σ F H (ma.bind fun x => mb.bind fun y => some (x, y)) := fun F1 H1 l z e Q q => by
  obtain ⟨x, ex, e⟩ := Option.bind_eq_some_iff.mp e
  obtain ⟨y, ey, e⟩ := Option.bind_eq_some_iff.mp e
  cases e
  refine ha F1 H1 l x ex _ fun v F2 H2 l2 rv => hb F2 H2 (l.trans l2) y ey _ fun w F3 H3 l3 rw' => ⟨by show 2 ≤ sizeLine; decide, fun p hp => ?_⟩
  refine q (.ref p) (upd F3 p (.tup [v, w])) (upd H3 p (.tup [v, w])) ((l2.trans l3).trans (.new l3.fh hp)) ⟨p, v, w, rfl, upd_same, ?_, ?_⟩
  · exact Rep.mono (same_upd (l3.fh.free hp)) (up rv l3)
  · exact Rep.mono (same_upd (l3.fh.free hp)) rw'
theorem ev_duo {ta tb : TE} {ma : Option α} {mb : Option β} (ha : EV ta σ F H ma) (hb : EV tb σ F H mb) : EV (tLst (tCons ta (tCons tb tNil))) σ F H (ma.bind fun x => mb.bind fun y => some (Duo.mk x y)) := fun F1 H1 l z e Q q => by
  obtain ⟨x, ex, e⟩ := Option.bind_eq_some_iff.mp e
  obtain ⟨y, ey, e⟩ := Option.bind_eq_some_iff.mp e
  cases e
  refine ha F1 H1 l x ex _ fun v F2 H2 l2 rv => hb F2 H2 (l.trans l2) y ey _ fun w F3 H3 l3 rw' => ⟨by show 2 ≤ sizeLine; decide, fun p hp => ?_⟩
  refine q (.ref p) (upd F3 p (.lst [v, w])) (upd H3 p (.lst [v, w])) ((l2.trans l3).trans (.new l3.fh hp)) ⟨p, v, w, rfl, upd_same, ?_, ?_⟩
  · exact Rep.mono (same_upd (l3.fh.free hp)) (up rv l3)
  · exact Rep.mono (same_upd (l3.fh.free hp)) rw'

/-! ### tests -/
theorem evt_of {m : Option Bool} (h : EV t σ F H m) : EVT (tTest t) σ F H m := fun F1 H1 l x e Q q => h F1 H1 l x e _ fun v F2 H2 l2 r => ⟨x, r, q F2 H2 l2⟩
theorem evt_b {m : Option Bool} (h : EV t σ F H m) : EVT (tB t) σ F H m := fun F1 H1 l x e Q q => h F1 H1 l x e _ fun v F2 H2 l2 r => ⟨x, r, q F2 H2 l2⟩
theorem evt_not {c : TT} {m : Option Bool} (h : EVT c σ F H m) : EVT (tNot c) σ F H (m.bind fun b => some (!b)) := fun F1 H1 l x e Q q => by
  obtain ⟨b, eb, e⟩ := Option.bind_eq_some_iff.mp e
  cases e
  exact h F1 H1 l b eb _ fun F2 H2 l2 => q F2 H2 l2
theorem evt_and {c d : TT} {m n : Option Bool} (h : EVT c σ F H m) (k : EVT d σ F H n) : EVT (tAnd c d) σ F H (m.bind fun b => if b then n else some false) := fun F1 H1 l x e Q q => by
  obtain ⟨b, eb, e⟩ := Option.bind_eq_some_iff.mp e
  refine h F1 H1 l b eb _ fun F2 H2 l2 => ?_
  cases b with
  | true => exact iteT (k F2 H2 (l.trans l2) x e _ fun F3 H3 l3 => q F3 H3 (l2.trans l3))
  | false =>
    have e' : false = x := Option.some.inj e
    subst e'
    exact iteF (q F2 H2 l2)
theorem evt_or {c d : TT} {m n : Option Bool} (h : EVT c σ F H m) (k : EVT d σ F H n) : EVT (tOr c d) σ F H (m.bind fun b => if b then some true else n) := fun F1 H1 l x e Q q => by
  obtain ⟨b, eb, e⟩ := Option.bind_eq_some_iff.mp e
  refine h F1 H1 l b eb _ fun F2 H2 l2 => ?_
  cases b with
  | false => exact iteF (k F2 H2 (l.trans l2) x e _ fun F3 H3 l3 => q F3 H3 (l2.trans l3))
  | true =>
    have e' : true = x := Option.some.inj e
    subst e'
    exact iteT (q F2 H2 l2)
theorem ev_andV {ta tb : TE} {m n : Option Bool} (h : EV ta σ F H m) (k : EV tb σ F H n) : EV (tAndV ta tb) σ F H (m.bind fun b => if b then n else some false) := fun F1 H1 l x e Q q => by
  obtain ⟨b, eb, e⟩ := Option.bind_eq_some_iff.mp e
  refine h F1 H1 l b eb _ fun v F2 H2 l2 r => ⟨b, r, ?_⟩
  cases b with
  | true => exact iteT (k F2 H2 (l.trans l2) x e _ fun w F3 H3 l3 r3 => q w F3 H3 (l2.trans l3) r3)
  | false =>
    have e' : false = x := Option.some.inj e
    subst e'
    exact iteF (q _ F2 H2 l2 rfl)
theorem ev_orV {ta tb : TE} {m n : Option Bool} (h : EV ta σ F H m) (k : EV tb σ F H n) : EV (tOrV ta tb) σ F H (m.bind fun b => if b then some true else n) := fun F1 H1 l x e Q q => by
  obtain ⟨b, eb, e⟩ := Option.bind_eq_some_iff.mp e
  refine h F1 H1 l b eb _ fun v F2 H2 l2 r => ⟨b, r, ?_⟩
  cases b with
  | false => exact iteF (k F2 H2 (l.trans l2) x e _ fun w F3 H3 l3 r3 => q w F3 H3 (l2.trans l3) r3)
  | true =>
    have e' : true = x := Option.some.inj e
    subst e'
    exact iteT (q _ F2 H2 l2 rfl)
theorem ev_notV {m : Option Bool} (h : EV t σ F H m) : EV (tNotV t) σ F H (m.bind fun b => some (!b)) := fun F1 H1 l x e Q q => by
  obtain ⟨b, eb, e⟩ := Option.bind_eq_some_iff.mp e
  cases e
  exact h F1 H1 l b eb _ fun v F2 H2 l2 r => ⟨b, r, q _ F2 H2 l2 rfl⟩
theorem ev_isN {m : Option (Option α)} (nn : ∀ (x : α) v F, rp x v F → v ≠ .non) (h : EV t σ F H m) : EV (tIsN t) σ F H (m.bind fun x => some x.isNone) := fun F1 H1 l x e Q q => by
  obtain ⟨b, eb, e⟩ := Option.bind_eq_some_iff.mp e
  cases e
  refine h F1 H1 l b eb _ fun v F2 H2 l2 r => q _ F2 H2 l2 ?_
  show V.bl (decide (v = .non)) = V.bl b.isNone
  cases b with
  | none =>
    have : v = .non := r
    simp [this]
  | some x => simp [nn x v F2 r]
theorem ev_notN {m : Option (Option α)} (nn : ∀ (x : α) v F, rp x v F → v ≠ .non) (h : EV t σ F H m) : EV (tNotN t) σ F H (m.bind fun x => some (!x.isNone)) := fun F1 H1 l x e Q q => by
  obtain ⟨b, eb, e⟩ := Option.bind_eq_some_iff.mp e
  cases e
  refine h F1 H1 l b eb _ fun v F2 H2 l2 r => q _ F2 H2 l2 ?_
  show V.bl (!decide (v = .non)) = V.bl (!b.isNone)
  cases b with
  | none =>
    have : v = .non := r
    simp [this]
  | some x => simp [nn x v F2 r]
theorem nn_list (x : List α) (v : V) (F : Hp) (h : rp x v F) : v ≠ .non := by
  obtain ⟨a, vs, rfl, _⟩ := h
  intro e
  cases e
theorem nn_pair (x : α × β) (v : V) (F : Hp) (h : rp x v F) : v ≠ .non := by
  obtain ⟨a, v1, v2, rfl, _⟩ := h
  intro e
  cases e
theorem ev_if {c : TT} {ta tb : TE} {m : Option Bool} {ma mb : Option α} (hc : EVT c σ F H m) (ha : EV ta σ F H ma) (hb : EV tb σ F H mb) : EV (tIf c ta tb) σ F H (m.bind fun b => if b then ma else mb) := fun F1 H1 l x e Q q => by
  obtain ⟨b, eb, e⟩ := Option.bind_eq_some_iff.mp e
  refine hc F1 H1 l b eb _ fun F2 H2 l2 => ?_
  cases b with
  | true => exact iteT (ha F2 H2 (l.trans l2) x e _ fun w F3 H3 l3 r3 => q w F3 H3 (l2.trans l3) r3)
  | false => exact iteF (hb F2 H2 (l.trans l2) x e _ fun w F3 H3 l3 r3 => q w F3 H3 (l2.trans l3) r3)
/-- a op b op c -/
theorem ev_chain {δ : Type} [Rep δ] {ta tb tc : TE} {r r' : R2} {ma : Option α} {mb : Option β} {mc : Option δ} {k : α → β → Option Bool} {k' : β → δ → Option Bool} (ha : EV ta σ F H ma) (hb : EV tb σ F H mb) (hc : EV tc σ F H mc)
    (hr : ∀ x y, RV r x y (k x y)) (hr' : ∀ x y, RV r' x y (k' x y)) : EV (tChain r r' ta tb tc) σ F H (ma.bind fun x => mb.bind fun y => (k x y).bind fun b => if b then mc.bind fun z => k' y z else some false) := fun F1 H1 l z e Q q => by
  obtain ⟨x, ex, e⟩ := Option.bind_eq_some_iff.mp e
  obtain ⟨y, ey, e⟩ := Option.bind_eq_some_iff.mp e
  obtain ⟨b, eb, e⟩ := Option.bind_eq_some_iff.mp e
  refine ha F1 H1 l x ex _ fun v F2 H2 l2 rv => hb F2 H2 (l.trans l2) y ey _ fun w F3 H3 l3 rw' => ?_
  refine hr x y F3 H3 v w l3.fh (up rv l3) rw' b eb _ fun u F4 H4 l4 ru => ⟨b, ru, ?_⟩
  cases b with
  | true =>
    refine iteT ?_
    obtain ⟨z1, ez1, e⟩ := Option.bind_eq_some_iff.mp e
    refine hc F4 H4 (((l.trans l2).trans l3).trans l4) z1 ez1 _ fun w2 F5 H5 l5 r5 => ?_
    exact hr' y z1 F5 H5 w w2 l5.fh (up (up rw' l4) l5) r5 z e Q fun u F6 H6 l6 r6 => q u F6 H6 ((((l2.trans l3).trans l4).trans l5).trans l6) r6
  | false =>
    have e' : false = z := Option.some.inj e
    subst e'
    exact iteF (q _ F4 H4 ((l2.trans l3).trans l4) rfl)
end
end Dw

set_option Elab.async false
set_option linter.all false
set_option maxRecDepth 100000
set_option maxHeartbeats 4000000
/-! The layer, second part: walks, loops, comprehensions, statements, calls. -/
namespace Dw
open PySem L2 Dv
open Rep (rp)
open RepA (ra)

/-! ### what is walked -/
structure Wk {α : Type} [Rep α] (J : It) (xs : List α) (F : Hp) : Prop where
  stop : ∀ H, Same F H → J.stop xs.length H
  go : ∀ i x H, xs[i]? = some x → Same F H → J.go i H
  yld : ∀ i x H v H', xs[i]? = some x → Same F H → J.yld i H v H' → ∀ F1, Same F F1 → Same F1 H → ∃ F2, Lat F1 H F2 H' ∧ rp x v F2
section
variable {α β γ S R T : Type} [Rep α] [Rep β] [Rep γ] {K : PySem.W.Frag}
def EI (wi : TI) (σ : L2.St) (F H : Hp) (m : Option (List α)) : Prop :=
  ∀ F1 H1, Lat F H F1 H1 → ∀ xs, m = some xs → ∀ R : It → Hp → Prop, (∀ J F2 H2, Lat F1 H1 F2 H2 → Wk J xs F2 → R J H2) → wi σ H1 R
variable {t : TE} {σ : L2.St} {F H : Hp}
theorem EI.flat [Flat α] {wi : TI} {m : Option (List α)} (h : EI wi σ H H m) (s : Same F H) (hJ : ∀ J xs F2 H2, Lat H H F2 H2 → Wk J xs F2 → Wk J (xs : List α) F) : EI wi σ F H m := fun F1 H1 l xs e R q =>
  h H1 H1 l.all xs e R fun J F2 H2 l2 w => q J F1 H2 (.grow l.fh l2.h) (by
    have w2 := hJ J xs F2 H2 (l.all.trans l2) w
    exact ⟨fun H' s' => w2.stop H' (l.f.trans s'), fun i x H' e s' => w2.go i x H' e (l.f.trans s'), fun i x H' v H'' e s' y F1 s1 s2 => w2.yld i x H' v H'' e (l.f.trans s') y F1 (l.f.trans s1) s2⟩)
theorem wk_list {a : Addr} {xs : List α} {vs : List V} (h : F a = some (.lst vs)) (r : rpL xs vs F) : Wk (Itl K a) xs F := by
  refine ⟨fun H s => ⟨vs, sqL (s _ _ h), Nat.le_of_eq r.length⟩, fun i x H e s => ?_, fun i x H v H' e s y F1 s1 s2 => ?_⟩
  · obtain ⟨v, ev, _⟩ := r.get e
    exact ⟨vs, v, sqL (s _ _ h), ev⟩
  · obtain ⟨rfl, y2⟩ := y
    obtain ⟨v', ev, rv⟩ := r.get e
    have := y2 vs (sqL (s _ _ h))
    rw [ev] at this
    cases this
    exact ⟨F1, .refl s2, Rep.mono s1 rv⟩
theorem ei_list {m : Option (List α)} (h : EV t σ F H m) : EI (iList K t) σ F H m := fun F1 H1 l xs e R q =>
  h F1 H1 l xs e _ fun v F2 H2 l2 ⟨a, vs, ev, ea, r⟩ => ⟨a, ev, ⟨vs, sqL (l2.fh _ _ ea)⟩, q _ F2 H2 l2 (wk_list ea r)⟩
/-- a pair walked -/
theorem ei_tup {m : Option (α × α)} (h : EV t σ F H m) : EI (iTup K t) σ F H (m.bind fun x => some [x.1, x.2]) := fun F1 H1 l xs e R q => by
  obtain ⟨x, ex, e⟩ := Option.bind_eq_some_iff.mp e
  cases e
  refine h F1 H1 l x ex _ fun v F2 H2 l2 ⟨a, v1, v2, ev, ea, r1, r2⟩ => ⟨a, ev, ⟨_, sqT (l2.fh _ _ ea)⟩, q _ F2 H2 l2 ?_⟩
  refine ⟨fun H s => ⟨_, sqT (s _ _ ea), Nat.le_refl _⟩, fun i y H e s => ?_, fun i y H v H' e s z F1 s1 s2 => ?_⟩
  · match i, e with
    | 0, _ => exact ⟨_, v1, sqT (s _ _ ea), rfl⟩
    | 1, _ => exact ⟨_, v2, sqT (s _ _ ea), rfl⟩
  · obtain ⟨rfl, z2⟩ := z
    match i, e, z2 with
    | 0, e, z2 =>
      cases e
      have := z2 _ (sqT (s _ _ ea))
      cases this
      exact ⟨F1, .refl s2, Rep.mono s1 r1⟩
    | 1, e, z2 =>
      cases e
      have := z2 _ (sqT (s _ _ ea))
      cases this
      exact ⟨F1, .refl s2, Rep.mono s1 r2⟩
theorem wk_range {lo : Int} {n : Nat} : Wk (Itr lo n) ((List.range n).map fun i => lo + ((i : Nat) : Int)) F := by
  refine ⟨fun H s => ?_, fun i x H e s => ?_, fun i x H v H' e s y F1 s1 s2 => ?_⟩
  · show n ≤ _
    simp
  · have := (List.getElem?_eq_some_iff.mp e).1
    show i < n
    simpa using this
  · obtain ⟨rfl, rfl⟩ := y
    have hi : i < n := by simpa using (List.getElem?_eq_some_iff.mp e).1
    refine ⟨F1, .refl s2, ?_⟩
    rw [List.getElem?_map, List.getElem?_range hi] at e
    cases e
    rfl
theorem ei_range1 {m : Option Int} (h : EV t σ F H m) : EI (iRng1 (tCons t tNil)) σ F H (m.bind fun n => rng 0 n) := fun F1 H1 l xs e R q => by
  obtain ⟨n, en, e⟩ := Option.bind_eq_some_iff.mp e
  unfold rng at e
  split at e
  · rename_i c
    cases e
    refine h F1 H1 l n en _ fun v F2 H2 l2 r => ⟨n, by rw [show v = V.int n from r], by omega, by omega, ?_⟩
    refine q _ F2 H2 l2 ?_
    have z : (n - 0).toNat = n.toNat := by rw [Int.sub_zero]
    rw [z]
    exact wk_range
  · cases e
theorem ei_range2 {ta tb : TE} {ma mb : Option Int} (ha : EV ta σ F H ma) (hb : EV tb σ F H mb) : EI (iRng2 (tCons ta (tCons tb tNil))) σ F H (ma.bind fun a => mb.bind fun b => rng a b) := fun F1 H1 l xs e R q => by
  obtain ⟨a, en, e⟩ := Option.bind_eq_some_iff.mp e
  obtain ⟨b, eb, e⟩ := Option.bind_eq_some_iff.mp e
  unfold rng at e
  split at e
  · rename_i c
    cases e
    refine ha F1 H1 l a en _ fun v F2 H2 l2 r => hb F2 H2 (l.trans l2) b eb _ fun w F3 H3 l3 r3 => ⟨a, b, by rw [show v = V.int a from r, show w = V.int b from r3], ⟨by omega, by omega, by omega, by omega⟩, ?_⟩
    exact q _ F3 H3 (l2.trans l3) wk_range
  · cases e
theorem ei_rev {m : Option (List α)} (h : EV t σ F H m) : EI (iRev K (tCons t tNil)) σ F H (m.bind fun xs => some xs.reverse) := fun F1 H1 l ys e R q => by
  obtain ⟨xs, en, e⟩ := Option.bind_eq_some_iff.mp e
  cases e
  refine h F1 H1 l xs en _ fun v F2 H2 l2 ⟨a, vs, ev, ea, r⟩ => ⟨a, vs, by rw [ev], sqL (l2.fh _ _ ea), q _ F2 H2 l2 ?_⟩
  have w := walk_rev (K := K) (a := a) (xs := vs)
  have hl := r.length
  refine ⟨fun H s => ?_, fun i x H e s => w.goes i H ?_ (sqL (s _ _ ea)), fun i x H v H' e s y F1 s1 s2 => ?_⟩
  · have := w.stops H (sqL (s _ _ ea))
    rw [hl] at this
    rw [List.length_reverse, hl]
    exact this
  · rw [hl]
    have := (List.getElem?_eq_some_iff.mp e).1
    simpa using this
  · have hi : i < xs.length := by
      have := (List.getElem?_eq_some_iff.mp e).1
      simpa using this
    obtain ⟨rfl, y2⟩ := w.yields i H v H' (by rw [hl]; exact hi) (sqL (s _ _ ea)) y
    rw [List.getElem?_reverse hi] at e
    obtain ⟨v', ev', rv⟩ := r.get e
    rw [hl, ev'] at y2
    cases y2
    exact ⟨F1, .refl s2, Rep.mono s1 rv⟩
theorem ei_zip {ta tb : TE} {ma : Option (List α)} {mb : Option (List β)} (ha : EV ta σ F H ma) (hb : EV tb σ F H mb) :
    EI (iZip K (tCons ta (tCons tb tNil))) σ F H (ma.bind fun a => mb.bind fun b => some (a.zip b)) := fun F1 H1 l zs e R q => by
  obtain ⟨xs, en, e⟩ := Option.bind_eq_some_iff.mp e
  obtain ⟨ys, eb, e⟩ := Option.bind_eq_some_iff.mp e
  cases e
  refine ha F1 H1 l xs en _ fun v F2 H2 l2 ⟨a, vs, ev, ea, r⟩ => hb F2 H2 (l.trans l2) ys eb _ fun w F3 H3 l3 ⟨b, ws, ew, eb, r3⟩ => ⟨a, b, vs, ws, by rw [ev, ew], sqL (l3.fh _ _ (l3.f _ _ ea)), sqL (l3.fh _ _ eb), q _ F3 H3 (l2.trans l3) ?_⟩
  have w := walk_zip (K := K) (a := a) (b := b) (xs := vs) (ys := ws) rfl
  have ea := l3.f _ _ ea
  have r := rpL.mono l3.f r
  have h1 := r.length
  have h2 := r3.length
  refine ⟨fun H s => ?_, fun i x H e s => w.goes i H ?_ ⟨sqL (s _ _ ea), sqL (s _ _ eb)⟩, fun i x H v H' e s y F1 s1 s2 => ?_⟩
  · have := w.stops H ⟨sqL (s _ _ ea), sqL (s _ _ eb)⟩
    rw [List.length_zip, ← h1, ← h2]
    exact this
  · have := (List.getElem?_eq_some_iff.mp e).1
    rw [List.length_zip] at this
    rw [h1, h2]
    exact this
  · have hi := (List.getElem?_eq_some_iff.mp e).1
    rw [List.length_zip] at hi
    obtain ⟨T, x1, y1, rfl, hT, rfl, e1, e2⟩ := w.yields i H v H' (by rw [h1, h2]; exact hi) ⟨sqL (s _ _ ea), sqL (s _ _ eb)⟩ y
    obtain ⟨u1, eu1⟩ : ∃ u, xs[i]? = some u := ⟨xs[i], by simp [show i < xs.length by omega]⟩
    obtain ⟨u2, eu2⟩ : ∃ u, ys[i]? = some u := ⟨ys[i], by simp [show i < ys.length by omega]⟩
    have ex : x = (u1, u2) := by
      have z : (xs.zip ys)[i]? = some (u1, u2) := by
        rw [List.getElem?_zip_eq_some]
        exact ⟨eu1, eu2⟩
      rw [z] at e
      exact (Option.some.inj e).symm
    subst ex
    obtain ⟨v1, ev1, rv1⟩ := r.get eu1
    obtain ⟨v2, ev2, rv2⟩ := r3.get eu2
    dsimp only at e1 e2
    rw [ev1] at e1
    rw [ev2] at e2
    cases e1
    cases e2
    refine ⟨upd F1 T (.tup [x1, y1]), .new s2 hT, T, x1, y1, rfl, upd_same, ?_, ?_⟩
    · exact Rep.mono (s1.trans (same_upd (s2.free hT))) rv1
    · exact Rep.mono (s1.trans (same_upd (s2.free hT))) rv2

/-! ### targets -/
theorem gt_name {i : Nat} {v : V} {Q : L2.St → Hp → Prop} (h : Q (σ.set i (some v)) H) : gName i v σ H Q := h
theorem gt_pair {i j : Nat} {v : V} {x : α × β} {Q : L2.St → Hp → Prop} (r : rp x v F) (s : Same F H) (h : ∀ v1 v2, rp x.1 v1 F → rp x.2 v2 F → Q ((σ.set i (some v1)).set j (some v2)) H) :
    gTup K 2 (gCons (gName i) (gCons (gName j) gNil)) v σ H Q := by
  obtain ⟨a, v1, v2, rfl, e, r1, r2⟩ := r
  exact ⟨a, [v1, v2], rfl, sqT (s _ _ e), rfl, v1, [v2], rfl, v2, [], rfl, rfl, h v1 v2 r1 r2⟩

/-! ### loops -/
def tLoop (J : It) (g : TG) (tb : TS) : TS := fun D σ H1 => ∃ W : Nat → Nat → L2.St → Hp → Prop, (∃ m, W 0 m σ H1) ∧ ∀ i m σ H, W i m σ H →
  (J.stop i H ∧ D.nx σ H) ∨ (J.go i H ∧ ∃ N : L2.St → Hp → Prop, (∀ σ' H', N σ' H' → ∃ m', m' < m ∧ W (i + 1) m' σ' H') ∧ ∀ x H', J.yld i H x H' → g x σ H' fun σ2 H2 => tb { D with nx := N, ct := N, bk := D.nx } σ2 H2)
theorem rd_for {wi : TI} {g : TG} {tb u : TS} {D : Ends} {r : R} {mi : Option (List α)} {k : List α → Option R} (hF : Same F H) (ei : EI wi σ F H mi) (hm : mi.bind k = some r)
    (c : ∀ xs J F1 H1, k xs = some r → Lat F H F1 H1 → Wk J xs F1 → tLoop J g tb { D with nx := u D } σ H1) : tSeq (tFor wi g tb) u D σ H := by
  obtain ⟨xs, e1, e2⟩ := Option.bind_eq_some_iff.mp hm
  exact ei F H (.refl hF) xs e1 _ fun J F1 H1 l w => c xs J F1 H1 e2 l w
theorem rd_forL {wi : TI} {g : TG} {tb : TS} {D : Ends} {r : R} {mi : Option (List α)} {k : List α → Option R} (hF : Same F H) (ei : EI wi σ F H mi) (hm : mi.bind k = some r)
    (c : ∀ xs J F1 H1, k xs = some r → Lat F H F1 H1 → Wk J xs F1 → tLoop J g tb D σ H1) : tFor wi g tb D σ H := by
  obtain ⟨xs, e1, e2⟩ := Option.bind_eq_some_iff.mp hm
  exact ei F H (.refl hF) xs e1 _ fun J F1 H1 l w => c xs J F1 H1 e2 l w
theorem rd_loopG {J : It} {g : TG} {tb : TS} {D : Ends} {r : R} {xs : List α} {f : S → α → Option S} {s0 : S} {k : S → Option R} (wk : Wk J xs F) (hm : (loopG f s0 xs).bind k = some r)
    (P : S → L2.St → Hp → Hp → Prop) (h0 : P s0 σ F H) (hS : ∀ s σ' F' H', P s σ' F' H' → Same F F' ∧ Same F' H')
    (hb : ∀ x s σ' F' H' v F2 H2, P s σ' F' H' → Lat F' H' F2 H2 → rp x v F2 → ∀ s', f s x = some s' → ∀ (D' : Ends), (∀ σ3 F3 H3, P s' σ3 F3 H3 → D'.nx σ3 H3) → g v σ' H2 fun σ2 H3 => tb D' σ2 H3)
    (hd : ∀ s σ' F' H', k s = some r → P s σ' F' H' → D.nx σ' H') : tLoop J g tb D σ H := by
  refine ⟨fun i m σ' H' => m = xs.length - i ∧ i ≤ xs.length ∧ ∃ s F', P s σ' F' H' ∧ (loopG f s (xs.drop i)).bind k = some r, ⟨xs.length, by simp, Nat.zero_le _, s0, F, h0, by simpa using hm⟩, ?_⟩
  rintro i m σ' H' ⟨rfl, hi, s, F', hP, hl⟩
  obtain ⟨s1, s2⟩ := hS _ _ _ _ hP
  by_cases hlt : i < xs.length
  · have ex : xs[i]? = some xs[i] := by simp [hlt]
    rw [List.drop_eq_getElem_cons hlt] at hl
    obtain ⟨sE, hl, hk⟩ := Option.bind_eq_some_iff.mp hl
    obtain ⟨s', h1, h2⟩ := Option.bind_eq_some_iff.mp (show (f s xs[i]).bind (fun s' => loopG f s' (xs.drop (i + 1))) = some sE from hl)
    refine .inr ⟨wk.go i _ H' ex (s1.trans s2), fun σ3 H3 => ∃ F3, P s' σ3 F3 H3, fun σ3 H3 ⟨F3, hp⟩ => ⟨xs.length - (i + 1), by omega, rfl, hlt, s', F3, hp, Option.bind_eq_some_iff.mpr ⟨sE, h2, hk⟩⟩, fun v H2 y => ?_⟩
    obtain ⟨F2, l2, rv⟩ := wk.yld i _ H' v H2 ex (s1.trans s2) y F' s1 s2
    exact hb _ s σ' F' H' v F2 H2 hP l2 rv s' h1 _ fun σ3 F3 H3 hp => ⟨F3, hp⟩
  · have e : i = xs.length := by omega
    subst e
    rw [List.drop_length] at hl
    exact .inl ⟨wk.stop H' (s1.trans s2), hd s σ' F' H' hl hP⟩
/-- with a return in the body: E tells what a return may hand back -/
theorem rd_loopR {J : It} {g : TG} {tb : TS} {D : Ends} {r : T} {xs : List α} {f : S → α → Option (Stp S R)} {s0 : S} {k : S → Option T} {k' : R → Option T} (wk : Wk J xs F) (hm : (loopR f s0 xs).bind (fun st => st.elim k k') = some r)
    (P : S → L2.St → Hp → Hp → Prop) (h0 : P s0 σ F H) (hS : ∀ s σ' F' H', P s σ' F' H' → Same F F' ∧ Same F' H')
    (hb : ∀ x s σ' F' H' v F2 H2, P s σ' F' H' → Lat F' H' F2 H2 → rp x v F2 → ∀ st, f s x = some st → ∀ (D' : Ends), D'.rt = D.rt → (∀ s', st = .go s' → ∀ σ3 F3 H3, P s' σ3 F3 H3 → D'.nx σ3 H3) → (∀ y, st = .ret y → k' y = some r) → g v σ' H2 fun σ2 H3 => tb D' σ2 H3)
    (hd : ∀ s σ' F' H', k s = some r → P s σ' F' H' → D.nx σ' H') : tLoop J g tb D σ H := by
  refine ⟨fun i m σ' H' => m = xs.length - i ∧ i ≤ xs.length ∧ ∃ s F', P s σ' F' H' ∧ (loopR f s (xs.drop i)).bind (fun st => st.elim k k') = some r, ⟨xs.length, by simp, Nat.zero_le _, s0, F, h0, by simpa using hm⟩, ?_⟩
  rintro i m σ' H' ⟨rfl, hi, s, F', hP, hl⟩
  obtain ⟨s1, s2⟩ := hS _ _ _ _ hP
  by_cases hlt : i < xs.length
  · have ex : xs[i]? = some xs[i] := by simp [hlt]
    rw [List.drop_eq_getElem_cons hlt] at hl
    obtain ⟨sE, hl, hk⟩ := Option.bind_eq_some_iff.mp hl
    obtain ⟨st, h1, h2⟩ := Option.bind_eq_some_iff.mp (show (f s xs[i]).bind (fun st => st.elim (fun s' => loopR f s' (xs.drop (i + 1))) fun y => some (.ret y)) = some sE from hl)
    refine .inr ⟨wk.go i _ H' ex (s1.trans s2), fun σ3 H3 => ∃ s' F3, st = .go s' ∧ P s' σ3 F3 H3, fun σ3 H3 ⟨s', F3, es, hp⟩ => ⟨xs.length - (i + 1), by omega, rfl, hlt, s', F3, hp, Option.bind_eq_some_iff.mpr ⟨sE, by subst es; exact h2, hk⟩⟩, fun v H2 y => ?_⟩
    obtain ⟨F2, l2, rv⟩ := wk.yld i _ H' v H2 ex (s1.trans s2) y F' s1 s2
    refine hb _ s σ' F' H' v F2 H2 hP l2 rv st h1 _ rfl (fun s' es σ3 F3 H3 hp => ⟨s', F3, es, hp⟩) fun y ey => ?_
    subst ey
    cases h2
    exact hk
  · have e : i = xs.length := by omega
    subst e
    rw [List.drop_length] at hl
    exact .inl ⟨wk.stop H' (s1.trans s2), hd s σ' F' H' hl hP⟩
theorem rd_whileG {tc : TT} {tb u : TS} {D : Ends} {r : R} {n : Nat} {c : S → Option Bool} {f : S → Option S} {s0 : S} {k : S → Option R} (hm : (whileG c f n s0).bind k = some r)
    (P : S → L2.St → Hp → Hp → Prop) (h0 : P s0 σ F H) (hS : ∀ s σ' F' H', P s σ' F' H' → Same F' H')
    (hc : ∀ s σ' F' H', P s σ' F' H' → EVT tc σ' F' H' (c s))
    (hb : ∀ s σ' F' H' F2 H2, P s σ' F' H' → Lat F' H' F2 H2 → ∀ s', f s = some s' → ∀ (D' : Ends), (∀ σ3 F3 H3, P s' σ3 F3 H3 → D'.nx σ3 H3) → tb D' σ' H2)
    (hd : ∀ s σ' F' H' F2 H2, k s = some r → P s σ' F' H' → Lat F' H' F2 H2 → u D σ' H2) : tSeq (tWhile tc tb) u D σ H := by
  refine ⟨fun m σ' H' => ∃ s F', P s σ' F' H' ∧ (whileG c f m s).bind k = some r, ⟨n, s0, F, h0, hm⟩, ?_⟩
  rintro m σ' H' ⟨s, F', hP, hl⟩
  cases m with
  | zero => cases hl
  | succ m =>
    obtain ⟨sE, hl, hk⟩ := Option.bind_eq_some_iff.mp hl
    obtain ⟨b, h1, h2⟩ := Option.bind_eq_some_iff.mp (show (c s).bind (fun b => if b then (f s).bind fun s' => whileG c f m s' else some s) = some sE from hl)
    refine hc s σ' F' H' hP F' H' (.refl (hS _ _ _ _ hP)) b h1 _ fun F2 H2 l2 => ?_
    cases b with
    | true =>
      refine iteT ?_
      obtain ⟨s', h3, h4⟩ := Option.bind_eq_some_iff.mp (show (f s).bind (fun s' => whileG c f m s') = some sE from h2)
      exact ⟨fun σ3 H3 => ∃ F3, P s' σ3 F3 H3, fun σ3 H3 ⟨F3, hp⟩ => ⟨m, Nat.lt_succ_self m, s', F3, hp, Option.bind_eq_some_iff.mpr ⟨sE, h4, hk⟩⟩, hb s σ' F' H' F2 H2 hP l2 s' h3 _ fun σ3 F3 H3 hp => ⟨F3, hp⟩⟩
    | false =>
      have e : s = sE := Option.some.inj h2
      subst e
      exact iteF (hd s σ' F' H' F2 H2 hk hP l2)
theorem rd_whileR {tc : TT} {tb u : TS} {D : Ends} {r : T} {n : Nat} {c : S → Option Bool} {f : S → Option (Stp S R)} {s0 : S} {k : S → Option T} {k' : R → Option T} (hm : (whileR c f n s0).bind (fun st => st.elim k k') = some r)
    (P : S → L2.St → Hp → Hp → Prop) (h0 : P s0 σ F H) (hS : ∀ s σ' F' H', P s σ' F' H' → Same F' H')
    (hc : ∀ s σ' F' H', P s σ' F' H' → EVT tc σ' F' H' (c s))
    (hb : ∀ s σ' F' H' F2 H2, P s σ' F' H' → Lat F' H' F2 H2 → ∀ st, f s = some st → ∀ (D' : Ends), D'.rt = D.rt → (∀ s', st = .go s' → ∀ σ3 F3 H3, P s' σ3 F3 H3 → D'.nx σ3 H3) → (∀ y, st = .ret y → k' y = some r) → tb D' σ' H2)
    (hd : ∀ s σ' F' H' F2 H2, k s = some r → P s σ' F' H' → Lat F' H' F2 H2 → u D σ' H2) : tSeq (tWhile tc tb) u D σ H := by
  refine ⟨fun m σ' H' => ∃ s F', P s σ' F' H' ∧ (whileR c f m s).bind (fun st => st.elim k k') = some r, ⟨n, s0, F, h0, hm⟩, ?_⟩
  rintro m σ' H' ⟨s, F', hP, hl⟩
  cases m with
  | zero => cases hl
  | succ m =>
    obtain ⟨sE, hl, hk⟩ := Option.bind_eq_some_iff.mp hl
    obtain ⟨b, h1, h2⟩ := Option.bind_eq_some_iff.mp (show (c s).bind (fun b => if b then (f s).bind fun st => st.elim (fun s' => whileR c f m s') (fun y => some (.ret y)) else some (.go s)) = some sE from hl)
    refine hc s σ' F' H' hP F' H' (.refl (hS _ _ _ _ hP)) b h1 _ fun F2 H2 l2 => ?_
    cases b with
    | true =>
      refine iteT ?_
      obtain ⟨st, h3, h4⟩ := Option.bind_eq_some_iff.mp (show (f s).bind (fun st => st.elim (fun s' => whileR c f m s') fun y => some (.ret y)) = some sE from h2)
      refine ⟨fun σ3 H3 => ∃ s' F3, st = .go s' ∧ P s' σ3 F3 H3, fun σ3 H3 ⟨s', F3, es, hp⟩ => ⟨m, Nat.lt_succ_self m, s', F3, hp, Option.bind_eq_some_iff.mpr ⟨sE, by subst es; exact h4, hk⟩⟩, hb s σ' F' H' F2 H2 hP l2 st h3 _ rfl (fun s' es σ3 F3 H3 hp => ⟨s', F3, es, hp⟩) fun y ey => ?_⟩
      subst ey
      cases h4
      exact hk
    | false =>
      have e : Stp.go s = sE := Option.some.inj h2
      subst e
      exact iteF (hd s σ' F' H' F2 H2 hk hP l2)

/-! ### comprehensions -/
theorem evn_lc {wi : TI} {g : TG} {tt : TT} {te : TE} {vs : List Nat} {mi : Option (List α)} {c : α → Option Bool} {f : α → Option β} (ei : EI wi σ F H mi)
    (hg : ∀ x v F1 H1 (Q : L2.St → Hp → Prop), Lat F H F1 H1 → rp x v F1 → (∀ σ2, wipe σ2 vs = wipe σ vs → EVT tt σ2 F1 H1 (c x) → EV te σ2 F1 H1 (f x) → Q σ2 H1) → g v (wipe σ vs) H1 Q) :
    EVN (tLc wi g tt te vs) σ F H (mi.bind fun xs => lc c f xs) := fun F1 H1 l ys e Q q => by
  obtain ⟨xs, exs, e⟩ := Option.bind_eq_some_iff.mp e
  unfold lc at e
  split at e
  · rename_i hlen
    refine ei F1 H1 l xs exs _ fun J F2 H2 l2 wk D hD => ?_
    have fD : F2 D = none := l2.fh.free hD
    refine ⟨fun i m H' => m = xs.length - i ∧ i ≤ xs.length ∧ ∃ (acc : List V) (as zs : List β) (F' : Hp), Lat F2 H2 F' H' ∧ F' D = none ∧ H' D = some (.lst acc) ∧ rpL as acc F' ∧ as.length ≤ i ∧ lcG c f (xs.drop i) = some zs ∧ ys = as ++ zs,
      ⟨xs.length, by simp, Nat.zero_le _, [], [], ys, F2, .made l2.fh hD, fD, upd_same, trivial, Nat.zero_le _, by simpa using e, rfl⟩, ?_⟩
    rintro i m H' ⟨rfl, hi, acc, as, zs, F', l3, f3, h3, r3, len3, e3, rfl⟩
    have s1 := l3.f
    have s2 := l3.fh
    by_cases hlt : i < xs.length
    · have ex : xs[i]? = some xs[i] := by simp [hlt]
      rw [List.drop_eq_getElem_cons hlt] at e3
      obtain ⟨b, eb, e4⟩ := Option.bind_eq_some_iff.mp (show (c xs[i]).bind (fun b => if b then (f xs[i]).bind fun y => (lcG c f (xs.drop (i + 1))).bind fun ys => some (y :: ys) else lcG c f (xs.drop (i + 1))) = some zs from e3)
      refine .inr ⟨wk.go i _ H' ex (s1.trans s2), fun H' => i + 1 ≤ xs.length ∧ ∃ (acc : List V) (as' zs' : List β) (F' : Hp), Lat F2 H2 F' H' ∧ F' D = none ∧ H' D = some (.lst acc) ∧ rpL as' acc F' ∧ as'.length ≤ i + 1 ∧ lcG c f (xs.drop (i + 1)) = some zs' ∧ as ++ zs = as' ++ zs',
        fun H4 h4 => ⟨xs.length - (i + 1), by omega, rfl, h4⟩, fun v H4 y => ?_⟩
      obtain ⟨F4, l4, rv⟩ := wk.yld i _ H' v H4 ex (s1.trans s2) y F' s1 s2
      have lAll := (l2.trans l3).trans l4
      refine hg _ v F4 H4 _ (l.trans lAll) rv fun σ2 hw ht he => ⟨hw, ?_⟩
      refine ht F4 H4 (.refl l4.fh) b eb _ fun F5 H5 l5 => ?_
      have hD5 : H5 D = some (.lst acc) := l5.h _ _ (l4.h _ _ h3)
      have fD5 : F5 D = none := l5.nwl (l4.h _ _ h3) (l4.nwl h3 f3)
      have r5 : rpL as acc F5 := rpL.mono (l4.f.trans l5.f) r3
      cases b with
      | true =>
        refine iteT ?_
        obtain ⟨y1, ey1, e5⟩ := Option.bind_eq_some_iff.mp (show (f xs[i]).bind (fun y => (lcG c f (xs.drop (i + 1))).bind fun ys => some (y :: ys)) = some zs from e4)
        obtain ⟨zs', ez, e6⟩ := Option.bind_eq_some_iff.mp e5
        cases e6
        refine he F5 H5 l5 y1 ey1 _ fun w F6 H6 l6 rw' => ⟨acc, l6.h _ _ hD5, sz_lt (by rw [r5.length]; omega), ?_⟩
        have fD6 : F6 D = none := l6.nwl hD5 fD5
        refine ⟨hlt, acc ++ [w], as ++ [y1], zs', F6, ((l3.trans l4).trans (l5.trans l6)).put hD fD6, fD6, upd_same, ?_, ?_, ez, by simp⟩
        · exact rpL.append (rpL.mono l6.f r5) ⟨rw', trivial⟩
        · rw [List.length_append, List.length_singleton]
          omega
      | false =>
        refine iteF ⟨hlt, acc, as, zs, F5, (l3.trans l4).trans l5, fD5, hD5, r5, by omega, e4, rfl⟩
    · have ei : i = xs.length := by omega
      subst ei
      rw [List.drop_length] at e3
      have ez : zs = [] := (Option.some.inj e3).symm
      subst ez
      rw [List.append_nil] at q
      exact .inl ⟨wk.stop H' (s1.trans s2), q D acc F' H' (l2.trans l3) (l2.h.free hD) f3 h3 r3⟩
  · cases e
theorem evt_yes : EVT tYes σ F H (some true) := fun F1 H1 l x e Q q => by
  cases e
  exact q F1 H1 (.refl l.fh)

/-! ### statements -/
variable {te : TE} {u : TS} {D : Ends} {r : R} {i : Nat}
theorem rd_asg {m : Option α} {k : α → Option R} (hF : Same F H) (ev : EV te σ F H m) (hm : m.bind k = some r) (c : ∀ x v F1 H1, k x = some r → Lat F H F1 H1 → rp x v F1 → u D (σ.set i (some v)) H1) : tSeq (tAsg te (gName i)) u D σ H := by
  obtain ⟨x, e1, e2⟩ := Option.bind_eq_some_iff.mp hm
  exact ev F H (.refl hF) x e1 _ fun v F1 H1 l rv => c x v F1 H1 e2 l rv
theorem rd_asgL {m : Option α} {k : α → Option R} (hF : Same F H) (ev : EV te σ F H m) (hm : m.bind k = some r) (c : ∀ x v F1 H1, k x = some r → Lat F H F1 H1 → rp x v F1 → D.nx (σ.set i (some v)) H1) : tAsg te (gName i) D σ H := by
  obtain ⟨x, e1, e2⟩ := Option.bind_eq_some_iff.mp hm
  exact ev F H (.refl hF) x e1 _ fun v F1 H1 l rv => c x v F1 H1 e2 l rv
/-- a new list that will change -/
theorem rd_asgN {m : Option (List α)} {k : List α → Option R} (hF : Same F H) (ev : EVN te σ F H m) (hm : m.bind k = some r)
    (c : ∀ xs p vs F1 H1, k xs = some r → Lat F H F1 H1 → H p = none → F1 p = none → H1 p = some (.lst vs) → rpL xs vs F1 → u D (σ.set i (some (.ref p))) H1) : tSeq (tAsg te (gName i)) u D σ H := by
  obtain ⟨x, e1, e2⟩ := Option.bind_eq_some_iff.mp hm
  exact ev F H (.refl hF) x e1 _ fun p vs F1 H1 l h1 h2 h3 rv => c x p vs F1 H1 e2 l h1 h2 h3 rv
theorem rd_asg2 {j : Nat} {m : Option (α × β)} {k : α × β → Option R} (hF : Same F H) (ev : EV te σ F H m) (hm : m.bind k = some r)
    (c : ∀ x v w F1 H1, k x = some r → Lat F H F1 H1 → rp x.1 v F1 → rp x.2 w F1 → u D ((σ.set i (some v)).set j (some w)) H1) : tSeq (tAsg te (gTup K 2 (gCons (gName i) (gCons (gName j) gNil)))) u D σ H := by
  obtain ⟨x, e1, e2⟩ := Option.bind_eq_some_iff.mp hm
  exact ev F H (.refl hF) x e1 _ fun v F1 H1 l rv => gt_pair rv l.fh fun v1 v2 r1 r2 => c x v1 v2 F1 H1 e2 l r1 r2
theorem rd_ret {m : Option α} {k : α → Option R} (hF : Same F H) (ev : EV te σ F H m) (hm : m.bind k = some r) (c : ∀ x v F1 H1, k x = some r → Lat F H F1 H1 → rp x v F1 → D.rt v H1) : tRet te D σ H := by
  obtain ⟨x, e1, e2⟩ := Option.bind_eq_some_iff.mp hm
  exact ev F H (.refl hF) x e1 _ fun v F1 H1 l rv => c x v F1 H1 e2 l rv
theorem rd_ret0 {m : Option α} {x : α} (hF : Same F H) (ev : EV te σ F H m) (hm : m = some x) (c : ∀ v F1 H1, Lat F H F1 H1 → rp x v F1 → D.rt v H1) : tRet te D σ H :=
  ev F H (.refl hF) x hm _ fun v F1 H1 l rv => c v F1 H1 l rv
theorem rd_retN {m : Option (List α)} {x : List α} (hF : Same F H) (ev : EVN te σ F H m) (hm : m = some x) (c : ∀ p vs F1 H1, Lat F H F1 H1 → H p = none → F1 p = none → H1 p = some (.lst vs) → rpL x vs F1 → D.rt (.ref p) H1) : tRet te D σ H :=
  ev F H (.refl hF) x hm _ fun p vs F1 H1 l h1 h2 h3 rv => c p vs F1 H1 l h1 h2 h3 rv
theorem rd_if {c : TT} {t1 t2 : TS} {m : Option Bool} {A B : Option R} (hF : Same F H) (ev : EVT c σ F H m) (hm : (m.bind fun b => if b then A else B) = some r)
    (ct : ∀ F1 H1, m = some true → A = some r → Lat F H F1 H1 → t1 D σ H1) (cf : ∀ F1 H1, m = some false → B = some r → Lat F H F1 H1 → t2 D σ H1) : tIfS c t1 t2 D σ H := by
  obtain ⟨b, e1, e2⟩ := Option.bind_eq_some_iff.mp hm
  refine ev F H (.refl hF) b e1 _ fun F1 H1 l => ?_
  cases b with
  | true => exact iteT (ct F1 H1 e1 e2 l)
  | false => exact iteF (cf F1 H1 e1 e2 l)
theorem rd_seq {t1 t2 : TS} (h : t1 { D with nx := t2 D } σ H) : tSeq t1 t2 D σ H := h
theorem at_st {t : TS} {σ' : L2.St} (e : σ' = σ) (h : t D σ H) : t D σ' H := by
  rw [e]
  exact h
theorem nx_with {D : Ends} {N : L2.St → Hp → Prop} (h : N σ H) : ({ D with nx := N } : Ends).nx σ H := h
theorem rd_next (h : D.nx σ H) : tNext D σ H := h
/-- an if whose both ways go on -/
theorem rd_join {c : TT} {t1 t2 : TS} {m : Option S} {k : S → Option R} (P : S → L2.St → Hp → Hp → Prop) (hm : m.bind k = some r)
    (h1 : ∀ s, m = some s → ∀ D' : Ends, (∀ σ3 F3 H3, P s σ3 F3 H3 → D'.nx σ3 H3) → tIfS c t1 t2 D' σ H) (h2 : ∀ s σ' F' H', k s = some r → P s σ' F' H' → u D σ' H') : tSeq (tIfS c t1 t2) u D σ H := by
  obtain ⟨s, e1, e2⟩ := Option.bind_eq_some_iff.mp hm
  exact h1 s e1 _ fun σ3 F3 H3 hp => h2 s σ3 F3 H3 e2 hp
/-- e alone -/
theorem rd_drop {m : Option α} {k : α → Option R} (hF : Same F H) (ev : EV te σ F H m) (hm : m.bind k = some r) (c : ∀ x F1 H1, k x = some r → Lat F H F1 H1 → u D σ H1) : tSeq (tDrop te) u D σ H := by
  obtain ⟨x, e1, e2⟩ := Option.bind_eq_some_iff.mp hm
  exact ev F H (.refl hF) x e1 _ fun v F1 H1 l _ => c x F1 H1 e2 l
/-- an owned list changed -/
structure Mt (p : Addr) (F H F' H' : Hp) : Prop where
  f : Same F F'
  fh : Same F' H'
  l0 : ∀ F0 H0, Lat F0 H0 F H → H0 p = none → Lat F0 H0 F' H'
  h : ∀ q o, q ≠ p → H q = some o → H' q = some o
  nw : ∀ q o, H q = some o → Chg o → F q = none → F' q = none
theorem Mt.nwl {p : Addr} {F H F' H' : Hp} (m : Mt p F H F' H') {a : Addr} {vs : List V} (e : H a = some (.lst vs)) (f : F a = none) : F' a = none := m.nw a _ e trivial f
theorem Mt.of {p : Addr} {F H F1 H1 : Hp} {o : HO} (l : Lat F H F1 H1) (fp : F1 p = none) : Mt p F H F1 (upd H1 p o) := by
  refine ⟨l.f, fun a u e => ?_, fun F0 H0 l0 h0 => (l0.trans l).put h0 fp, fun q u n e => ?_, l.nw⟩
  · rw [upd_ne (ne_of_none e fp)]
    exact l.fh _ _ e
  · rw [upd_ne n]
    exact l.h _ _ e
/-- xs.append(e) -/
theorem rd_appendL {p : Addr} {xs : List α} {vs : List V} {m : Option α} {k : List α → Option R} {j : Nat} (hF : Same F H) (hj : σ[j]? = some (some (.ref p))) (hp : H p = some (.lst vs)) (fp : F p = none) (rl : rpL xs vs F) (ev : EV te σ F H m)
    (hm : (m.bind fun y => addL xs y).bind k = some r)
    (c : ∀ ys ws F1 H1, k ys = some r → Mt p F H F1 H1 → F1 p = none → H1 p = some (.lst ws) → rpL ys ws F1 → D.nx σ H1) : tDrop (tBM K "list" rAppend (tVar j) (tCons te tNil)) D σ H := by
  obtain ⟨ys, e1, e2⟩ := Option.bind_eq_some_iff.mp hm
  obtain ⟨y, e3, e4⟩ := Option.bind_eq_some_iff.mp e1
  unfold addL at e4
  split at e4
  · rename_i hlen
    cases e4
    refine ⟨.ref p, hj, .inl ⟨rfl, vs, sqL hp⟩, ?_⟩
    refine ev F H (.refl hF) y e3 _ fun v F1 H1 l rv => ?_
    have fp1 := l.nwl hp fp
    exact ⟨p, vs, v, rfl, rfl, l.h _ _ hp, sz_lt (by rw [rl.length]; exact hlen), c _ (vs ++ [v]) F1 _ e2 (Mt.of l fp1) fp1 upd_same (rpL.append (rpL.mono l.f rl) ⟨rv, trivial⟩)⟩
  · cases e4
theorem rd_append {p : Addr} {xs : List α} {vs : List V} {m : Option α} {k : List α → Option R} {j : Nat} (hF : Same F H) (hj : σ[j]? = some (some (.ref p))) (hp : H p = some (.lst vs)) (fp : F p = none) (rl : rpL xs vs F) (ev : EV te σ F H m)
    (hm : (m.bind fun y => addL xs y).bind k = some r)
    (c : ∀ ys ws F1 H1, k ys = some r → Mt p F H F1 H1 → F1 p = none → H1 p = some (.lst ws) → rpL ys ws F1 → u D σ H1) : tSeq (tDrop (tBM K "list" rAppend (tVar j) (tCons te tNil))) u D σ H := rd_appendL (D := { D with nx := u D }) hF hj hp fp rl ev hm c
/-- xs[i] = e -/
theorem rd_setL {ti : TE} {p : Addr} {xs : List α} {vs : List V} {m : Option α} {mi : Option Int} {k : List α → Option R} {j : Nat} (hF : Same F H) (hj : σ[j]? = some (some (.ref p))) (hp : H p = some (.lst vs)) (fp : F p = none) (rl : rpL xs vs F) (ev : EV te σ F H m) (ei : EV ti σ F H mi)
    (hm : (m.bind fun y => mi.bind fun i => setZ xs i y).bind k = some r)
    (c : ∀ ys ws F1 H1, k ys = some r → Mt p F H F1 H1 → F1 p = none → H1 p = some (.lst ws) → rpL ys ws F1 → D.nx σ H1) : tAsg te (gSub (tVar j) ti rSetL) D σ H := by
  obtain ⟨ys, e1, e2⟩ := Option.bind_eq_some_iff.mp hm
  obtain ⟨y, e3, e4⟩ := Option.bind_eq_some_iff.mp e1
  obtain ⟨i, e5, e6⟩ := Option.bind_eq_some_iff.mp e4
  unfold setZ at e6
  obtain ⟨n, e7, e8⟩ := Option.bind_eq_some_iff.mp e6
  cases e8
  refine ev F H (.refl hF) y e3 _ fun v F1 H1 l rv => ?_
  refine ⟨.ref p, hj, ei F1 H1 l i e5 _ fun w F2 H2 l2 rw' => ?_⟩
  have hl : vs.length = xs.length := rl.length
  have l12 := l.trans l2
  have fp2 := l12.nwl hp fp
  refine ⟨p, vs, i, n, rfl, rw', l12.h _ _ hp, ?_, c _ (vs.set n v) F2 _ e2 (Mt.of l12 fp2) fp2 upd_same ?_⟩
  · rw [hl]
    exact e7
  · exact rpL.set (up rv l2) n (rpL.mono l12.f rl)
theorem rd_set {ti : TE} {p : Addr} {xs : List α} {vs : List V} {m : Option α} {mi : Option Int} {k : List α → Option R} {j : Nat} (hF : Same F H) (hj : σ[j]? = some (some (.ref p))) (hp : H p = some (.lst vs)) (fp : F p = none) (rl : rpL xs vs F) (ev : EV te σ F H m) (ei : EV ti σ F H mi)
    (hm : (m.bind fun y => mi.bind fun i => setZ xs i y).bind k = some r)
    (c : ∀ ys ws F1 H1, k ys = some r → Mt p F H F1 H1 → F1 p = none → H1 p = some (.lst ws) → rpL ys ws F1 → u D σ H1) : tSeq (tAsg te (gSub (tVar j) ti rSetL)) u D σ H := rd_setL (D := { D with nx := u D }) hF hj hp fp rl ev ei hm c
/-- an owned list is held for known from here on -/
theorem freeze {p : Addr} {xs : List α} {vs : List V} {F0 H0 : Hp} (l0 : Lat F0 H0 F H) (h0 : H0 p = none) (fp : F p = none) (hp : H p = some (.lst vs)) (rl : rpL xs vs F) : ∃ F', Lat F0 H0 F' H ∧ Same F F' ∧ rp xs (.ref p) F' ∧ ∀ q, q ≠ p → F q = none → F' q = none :=
  ⟨upd F p (.lst vs), l0.hold h0 fp hp, same_upd fp, ⟨p, vs, rfl, upd_same, rpL.mono (same_upd fp) rl⟩, fun q n e => by rw [upd_ne n]; exact e⟩
/-- an owned list read -/
theorem own_rp {p : Addr} {xs : List α} {vs : List V} (s : Same F H) (hp : H p = some (.lst vs)) (rl : rpL xs vs F) : rp xs (.ref p) H := ⟨p, vs, rfl, hp, rpL.mono s rl⟩
theorem ev_varF [Flat α] {i : Nat} {x : α} {v : V} {F' : Hp} (h : σ[i]? = some (some v)) (r : rp x v F') : EV (tVar i) σ F H (some x) := ev_var h (Flat.any r)
theorem rd_retO {p : Addr} {j : Nat} (hj : σ[j]? = some (some (.ref p))) (c : D.rt (.ref p) H) : tRet (tVar j) D σ H := ⟨.ref p, hj, c⟩
theorem rd_guard {c : TT} {t1 : TS} {m : Option Bool} {A B : Option R} (hF : Same F H) (ev : EVT c σ F H m) (hm : (m.bind fun b => if b then A else B) = some r)
    (ct : ∀ F1 H1, m = some true → A = some r → Lat F H F1 H1 → t1 { D with nx := u D } σ H1) (cf : ∀ F1 H1, m = some false → B = some r → Lat F H F1 H1 → u D σ H1) : tSeq (tIfS c t1 tNext) u D σ H :=
  rd_if (D := { D with nx := u D }) hF ev hm ct cf
end

/-! ### the promise of a def -/
class RepB (α : Type) extends RepA α where
  n : Nat
  len : ∀ {x : α} {vs : List V} {F : Hp}, ra x vs F → vs.length = n
instance : RepB Unit := ⟨0, fun h => by
  have e : _ = [] := h
  rw [e]
  rfl⟩
instance {α β : Type} [Rep α] [RepB β] : RepB (α × β) := ⟨RepB.n β + 1, fun h => by
  obtain ⟨v, ws, e, h, k⟩ := h
  rw [e, List.length_cons, RepB.len k]⟩
section
variable {δ α β : Type} [RepB δ] [Rep α] [Rep β]
/-- a def that hands back m of its arguments -/
def spO (m : δ → Option β) : Sp := fun vs H Q _ => ∃ (F : Hp) (x : δ) (y : β), Same F H ∧ ra x vs F ∧ m x = some y ∧ ∀ v F' H', Lat F H F' H' → rp y v F' → Q v H'
/-- a def that hands back a new list -/
def spN (m : δ → Option (List β)) : Sp := fun vs H Q _ => ∃ (F : Hp) (x : δ) (y : List β), Same F H ∧ ra x vs F ∧ m x = some y ∧ ∀ p vs F' H', Lat F H F' H' → H p = none → F' p = none → H' p = some (.lst vs) → rpL y vs F' → Q (.ref p) H'
theorem spO_len {m : δ → Option β} {n : Nat} (hn : RepB.n δ = n) : ∀ vs H Q E, spO m vs H Q E → vs.length = n := fun vs H Q E ⟨F, x, y, _, h, _⟩ => (RepB.len h).trans hn
theorem spN_len {m : δ → Option (List β)} {n : Nat} (hn : RepB.n δ = n) : ∀ vs H Q E, spN m vs H Q E → vs.length = n := fun vs H Q E ⟨F, x, y, _, h, _⟩ => (RepB.len h).trans hn
variable {σ : L2.St} {F H : Hp} {ta : TA} {ma : Option δ} {E : XK}
theorem ev_call {m : δ → Option β} (ha : EVA ta σ F H ma) : EV (tCall (spO m) [] E ta) σ F H (ma.bind fun x => m x) := fun F1 H1 l y e Q q => by
  obtain ⟨x, ex, e⟩ := Option.bind_eq_some_iff.mp e
  refine ha F1 H1 l x ex _ fun vs F2 H2 l2 r => ?_
  rw [List.append_nil]
  exact ⟨F2, x, y, l2.fh, r, e, fun v F3 H3 l3 r3 => q v F3 H3 (l2.trans l3) r3⟩
theorem evn_call {m : δ → Option (List β)} (ha : EVA ta σ F H ma) : EVN (tCall (spN m) [] E ta) σ F H (ma.bind fun x => m x) := fun F1 H1 l y e Q q => by
  obtain ⟨x, ex, e⟩ := Option.bind_eq_some_iff.mp e
  refine ha F1 H1 l x ex _ fun vs F2 H2 l2 r => ?_
  rw [List.append_nil]
  exact ⟨F2, x, y, l2.fh, r, e, fun p vs F3 H3 l3 h1 h2 h3 r3 => q p vs F3 H3 (l2.trans l3) (l2.h.free h1) h2 h3 r3⟩

/-! ### calls of built-ins -/
theorem ev_len {t : TE} {K : PySem.W.Frag} {m : Option (List α)} (h : EV t σ F H m) : EV (tCB (fun xs H Q => ∃ p ys, xs = [.ref p] ∧ (SqL K H p ys ∨ SqT K H p ys) ∧ Q (.int ys.length) H) (tCons t tNil)) σ F H (m.bind fun xs => some (xs.length : Int)) := fun F1 H1 l y e Q q => by
  obtain ⟨x, ex, e⟩ := Option.bind_eq_some_iff.mp e
  cases e
  refine h F1 H1 l x ex _ fun v F2 H2 l2 ⟨a, vs, e1, e2, r⟩ => ⟨a, vs, by rw [e1], .inl (sqL (l2.fh _ _ e2)), q _ F2 H2 l2 ?_⟩
  rw [r.length]
  rfl
theorem ev_lenS {t : TE} {K : PySem.W.Frag} {m : Option (Scr K)} (h : EV t σ F H m) : EV (tCB (fun xs H Q => ∃ p ys, xs = [.ref p] ∧ (SqL K H p ys ∨ SqT K H p ys) ∧ Q (.int ys.length) H) (tCons t tNil)) σ F H (m.bind fun xs => some (xs.l.length : Int)) := fun F1 H1 l y e Q q => by
  obtain ⟨x, ex, e⟩ := Option.bind_eq_some_iff.mp e
  cases e
  refine h F1 H1 l x ex _ fun v F2 H2 l2 ⟨a, e1, e2⟩ => ⟨a, _, by rw [e1], .inl (same_l l2.fh e2), q _ F2 H2 l2 ?_⟩
  rw [List.length_map]
  rfl
theorem ev_len2 {t : TE} {K : PySem.W.Frag} {m : Option (α × β)} (h : EV t σ F H m) : EV (tCB (fun xs H Q => ∃ p ys, xs = [.ref p] ∧ (SqL K H p ys ∨ SqT K H p ys) ∧ Q (.int ys.length) H) (tCons t tNil)) σ F H (m.bind fun _ => some (2 : Int)) := fun F1 H1 l y e Q q => by
  obtain ⟨x, ex, e⟩ := Option.bind_eq_some_iff.mp e
  cases e
  exact h F1 H1 l x ex _ fun v F2 H2 l2 ⟨a, v1, v2, e1, e2, r⟩ => ⟨a, [v1, v2], by rw [e1], .inr (sqT (l2.fh _ _ e2)), q _ F2 H2 l2 rfl⟩
theorem evn_list {t : TE} {K : PySem.W.Frag} {m : Option (List α)} (h : EV t σ F H m) : EVN (tCB (fun xs H Q => ∃ p ys, xs = [.ref p] ∧ (SqL K H p ys ∨ SqT K H p ys) ∧ ∀ l, H l = none → Q (.ref l) (upd H l (.lst ys))) (tCons t tNil)) σ F H m := fun F1 H1 l y e Q q =>
  h F1 H1 l y e _ fun v F2 H2 l2 ⟨a, vs, e1, e2, r⟩ => ⟨a, vs, by rw [e1], .inl (sqL (l2.fh _ _ e2)), fun p hp => q p vs F2 _ (l2.trans (.made l2.fh hp)) (l2.h.free hp) (l2.fh.free hp) upd_same r⟩
theorem ev_max2 {ta tb : TE} {ma mb : Option Int} (ha : EV ta σ F H ma) (hb : EV tb σ F H mb) : EV (tCB (fun xs H Q => ∃ i j, xs = [.int i, .int j] ∧ Q (.int (if j > i then j else i)) H) (tCons ta (tCons tb tNil))) σ F H (ma.bind fun i => mb.bind fun j => some (if j > i then j else i)) := fun F1 H1 l y e Q q => by
  obtain ⟨x, ex, e⟩ := Option.bind_eq_some_iff.mp e
  obtain ⟨x2, ex2, e⟩ := Option.bind_eq_some_iff.mp e
  cases e
  exact ha F1 H1 l x ex _ fun v F2 H2 l2 rv => hb F2 H2 (l.trans l2) x2 ex2 _ fun w F3 H3 l3 r3 => ⟨x, x2, by rw [show v = V.int x from rv, show w = V.int x2 from r3], q _ F3 H3 (l2.trans l3) rfl⟩
theorem ev_min2 {ta tb : TE} {ma mb : Option Int} (ha : EV ta σ F H ma) (hb : EV tb σ F H mb) : EV (tCB (fun xs H Q => ∃ i j, xs = [.int i, .int j] ∧ Q (.int (if j < i then j else i)) H) (tCons ta (tCons tb tNil))) σ F H (ma.bind fun i => mb.bind fun j => some (if j < i then j else i)) := fun F1 H1 l y e Q q => by
  obtain ⟨x, ex, e⟩ := Option.bind_eq_some_iff.mp e
  obtain ⟨x2, ex2, e⟩ := Option.bind_eq_some_iff.mp e
  cases e
  exact ha F1 H1 l x ex _ fun v F2 H2 l2 rv => hb F2 H2 (l.trans l2) x2 ex2 _ fun w F3 H3 l3 r3 => ⟨x, x2, by rw [show v = V.int x from rv, show w = V.int x2 from r3], q _ F3 H3 (l2.trans l3) rfl⟩
theorem ev_abs {t : TE} {m : Option Int} (h : EV t σ F H m) : EV (tCB (fun xs H Q => ∃ i, xs = [.int i] ∧ Q (.int (if i < 0 then -i else i)) H) (tCons t tNil)) σ F H (m.bind fun i => some (if i < 0 then -i else i)) := fun F1 H1 l y e Q q => by
  obtain ⟨x, ex, e⟩ := Option.bind_eq_some_iff.mp e
  cases e
  exact h F1 H1 l x ex _ fun v F2 H2 l2 r => ⟨x, by rw [show v = V.int x from r], q _ F2 H2 l2 rfl⟩
theorem ev_intB {t : TE} {m : Option Bool} (h : EV t σ F H m) : EV (tCB (fun xs H Q => (∃ i, xs = [.int i] ∧ Q (.int i) H) ∨ ∃ k, xs = [.bl k] ∧ Q (.int (if k then 1 else 0)) H) (tCons t tNil)) σ F H (m.bind fun k => some (if k then (1 : Int) else 0)) := fun F1 H1 l y e Q q => by
  obtain ⟨x, ex, e⟩ := Option.bind_eq_some_iff.mp e
  cases e
  exact h F1 H1 l x ex _ fun v F2 H2 l2 r => .inr ⟨x, by rw [show v = V.bl x from r], q _ F2 H2 l2 rfl⟩

/-! ### lists -/
theorem evn_cut {t : TE} {K : PySem.W.Frag} {m : Option (List α)} {tl th : TO} {lo hi : Option (Option Int)} (h : EV t σ F H m)
    (hl : ∀ F1 H1, Lat F H F1 H1 → ∀ i, lo = some i → ∀ Q : Option Int → Hp → Prop, (∀ F2 H2, Lat F1 H1 F2 H2 → Q i H2) → tl σ H1 Q)
    (hh : ∀ F1 H1, Lat F H F1 H1 → ∀ i, hi = some i → ∀ Q : Option Int → Hp → Prop, (∀ F2 H2, Lat F1 H1 F2 H2 → Q i H2) → th σ H1 Q) :
    EVN (tSl (rSlL K) t tl th) σ F H (m.bind fun xs => lo.bind fun i => hi.bind fun j => some (cutZ xs i j)) := fun F1 H1 l y e Q q => by
  obtain ⟨x, ex, e⟩ := Option.bind_eq_some_iff.mp e
  obtain ⟨i, ei, e⟩ := Option.bind_eq_some_iff.mp e
  obtain ⟨j, ej, e⟩ := Option.bind_eq_some_iff.mp e
  cases e
  refine h F1 H1 l x ex _ fun v F2 H2 l2 ⟨a, vs, e1, e2, r⟩ => hl F2 H2 (l.trans l2) i ei _ fun F3 H3 l3 => hh F3 H3 ((l.trans l2).trans l3) j ej _ fun F4 H4 l4 => ?_
  have L := (l2.trans l3).trans l4
  refine ⟨a, vs, e1, sqL (l4.h _ _ (l3.h _ _ (l2.fh _ _ e2))), fun p hp => q p _ F4 _ (L.trans (.made l4.fh hp)) (L.h.free hp) (l4.fh.free hp) upd_same ?_⟩
  have hln := r.length
  unfold cutZ cutV
  rw [hln]
  exact rpL.take _ (rpL.drop _ (rpL.mono (l3.f.trans l4.f) r))
theorem po_no : ∀ F1 H1, Lat F H F1 H1 → ∀ i, (some none : Option (Option Int)) = some i → ∀ Q : Option Int → Hp → Prop, (∀ F2 H2, Lat F1 H1 F2 H2 → Q i H2) → tNoPart σ H1 Q := fun F1 H1 l i e Q q => by
  cases e
  exact q F1 H1 (.refl l.fh)
theorem po_at {t : TE} {m : Option Int} (h : EV t σ F H m) : ∀ F1 H1, Lat F H F1 H1 → ∀ i, (m.bind fun x => some (some x)) = some i → ∀ Q : Option Int → Hp → Prop, (∀ F2 H2, Lat F1 H1 F2 H2 → Q i H2) → tPart t σ H1 Q := fun F1 H1 l i e Q q => by
  obtain ⟨x, ex, e⟩ := Option.bind_eq_some_iff.mp e
  cases e
  exact h F1 H1 l x ex _ fun v F2 H2 l2 r => ⟨x, r, q F2 H2 l2⟩
theorem evn_rev {t : TE} {K : PySem.W.Frag} {m : Option (List α)} (h : EV t σ F H m) : EVN (tRevL K t) σ F H (m.bind fun xs => some xs.reverse) := fun F1 H1 l y e Q q => by
  obtain ⟨x, ex, e⟩ := Option.bind_eq_some_iff.mp e
  cases e
  exact h F1 H1 l x ex _ fun v F2 H2 l2 ⟨a, vs, e1, e2, r⟩ => ⟨a, vs, e1, sqL (l2.fh _ _ e2), fun p hp => q p _ F2 _ (l2.trans (.made l2.fh hp)) (l2.h.free hp) (l2.fh.free hp) upd_same r.reverse⟩
theorem rvn_cat (xs ys : List α) : RVN rCat xs ys (catL xs ys) := fun F H v w s ⟨a, vs, e1, e2, r⟩ ⟨b, ws, e3, e4, r2⟩ zs e Q q => by
  unfold catL at e
  split at e
  · rename_i hl
    cases e
    refine ⟨a, b, vs, ws, e1, e3, s _ _ e2, s _ _ e4, sz_ok (by rw [r.length, r2.length]; exact hl), fun p hp => ?_⟩
    exact q p _ F _ (.made s hp) hp (s.free hp) upd_same (rpL.append r r2)
  · cases e
end
end Dw

set_option Elab.async false
set_option linter.all false
set_option maxRecDepth 100000
set_option maxHeartbeats 4000000
/-! The layer, third part: data compared, sorted, asked for their kind; defs as they stand. -/
namespace Dw
open PySem L2 Dv
open Rep (rp)
open RepA (ra)

/-! ### data -/
class Dat (α : Type) [Rep α] [DecidableEq α] where
  enc : α → PyData
  dep : Nat
  dp : ∀ {K : PySem.W.Frag} {x : α} {v : V} {F : Hp}, rp x v F → Dp K F v (enc x)
  lay : ∀ x : α, (enc x).canLay0 = true
  depth : ∀ x : α, (enc x).depth ≤ dep
  eqv : ∀ x y : α, PyData.eqv (enc x) (enc y) = decide (x = y)
instance : Dat Int := ⟨fun i => .int i, 0, fun h => by cases h; exact .int _, fun _ => by simp [PyData.canLay0], fun _ => by simp [PyData.depth], fun x y => by
  simp only [PyData.eqv]
  exact Bool.beq_eq_decide_eq _ _⟩
instance : Dat Bool := ⟨fun i => .bool i, 0, fun h => by cases h; exact .bl _, fun _ => by simp [PyData.canLay0], fun _ => by simp [PyData.depth], fun x y => by
  simp only [PyData.eqv]
  exact Bool.beq_eq_decide_eq _ _⟩
section
variable {α β : Type} [Rep α] [DecidableEq α] [Dat α] [Rep β] [DecidableEq β] [Dat β]
theorem dpAll {K : PySem.W.Frag} {F : Hp} : ∀ {xs : List α} {vs : List V}, rpL xs vs F → DpAll K F vs (xs.map Dat.enc)
  | [], [], _ => .nil
  | _ :: _, _ :: _, h => .cons (Dat.dp h.1) (dpAll h.2)
  | [], _ :: _, h => h.elim
  | _ :: _, [], h => h.elim
theorem layAll : ∀ xs : List α, PyData.canLayAll0 (xs.map Dat.enc) = true
  | [] => by simp [PyData.canLayAll0]
  | x :: xs => by simp [PyData.canLayAll0, Dat.lay x, layAll xs]
theorem depAll : ∀ xs : List α, PyData.depthAll (xs.map Dat.enc) ≤ Dat.dep α
  | [] => by simp [PyData.depthAll]
  | x :: xs => by
    have h1 := Dat.depth x
    have h2 := depAll xs
    simp only [List.map_cons, PyData.depthAll]
    omega
theorem eqvAll : ∀ xs ys : List α, PyData.eqvAll (xs.map Dat.enc) (ys.map Dat.enc) = decide (xs = ys)
  | [], [] => by simp [PyData.eqvAll]
  | [], _ :: _ => by simp [PyData.eqvAll]
  | _ :: _, [] => by simp [PyData.eqvAll]
  | x :: xs, y :: ys => by
    simp only [List.map_cons, PyData.eqvAll, Dat.eqv x y, eqvAll xs ys]
    simp
instance : Dat (List α) := ⟨fun xs => .list (xs.map Dat.enc), Dat.dep α + 1, fun ⟨a, vs, e, h, r⟩ => by rw [e]; exact .lst (sqL h) (dpAll r), fun xs => by
  simp only [PyData.canLay0]
  exact layAll xs, fun xs => by
  simp only [PyData.depth]
  exact Nat.succ_le_succ (depAll xs), fun xs ys => by
  simp only [PyData.eqv]
  exact eqvAll xs ys⟩
instance : Dat (α × β) := ⟨fun x => .tuple [Dat.enc x.1, Dat.enc x.2], max (Dat.dep α) (Dat.dep β) + 1, fun ⟨a, v, w, e, h, r1, r2⟩ => by rw [e]; exact .tup (sqT h) (.cons (Dat.dp r1) (.cons (Dat.dp r2) .nil)), fun x => by
  simp [PyData.canLay0, PyData.canLayAll0, Dat.lay], fun x => by
  have h1 := Dat.depth x.1
  have h2 := Dat.depth x.2
  simp only [PyData.depth, PyData.depthAll]
  omega, fun x y => by
  simp only [PyData.eqv, PyData.eqvAll, Dat.eqv]
  obtain ⟨a, b⟩ := x
  obtain ⟨c, d⟩ := y
  simp⟩
instance : Dat (Duo α β) := ⟨fun x => .list [Dat.enc x.a, Dat.enc x.b], max (Dat.dep α) (Dat.dep β) + 1, fun ⟨a, v, w, e, h, r1, r2⟩ => by rw [e]; exact .lst (sqL h) (.cons (Dat.dp r1) (.cons (Dat.dp r2) .nil)), fun x => by
  simp [PyData.canLay0, PyData.canLayAll0, Dat.lay], fun x => by
  have h1 := Dat.depth x.a
  have h2 := Dat.depth x.b
  simp only [PyData.depth, PyData.depthAll]
  omega, fun x y => by
  simp only [PyData.eqv, PyData.eqvAll, Dat.eqv]
  obtain ⟨a, b⟩ := x
  obtain ⟨c, d⟩ := y
  simp⟩
theorem shaped (x : α) (h : Dat.dep α ≤ 64 := by decide) : SeqAt.shaped (Dat.enc x) = true := by
  have h1 := Dat.depth x
  show ((Dat.enc x).canLay0 && decide ((Dat.enc x).depth ≤ 64)) = true
  rw [Bool.and_eq_true]
  exact ⟨Dat.lay x, decide_eq_true (by omega)⟩
theorem dp_up {K : PySem.W.Frag} {F H : Hp} (s : Same F H) {x : α} {v : V} (h : rp x v F) : Dp K H v (Dat.enc x) := Dat.dp (Rep.mono s h)
theorem rv_eqD {K : PySem.W.Frag} (x y : α) (h : Dat.dep α ≤ 64 := by decide) : RV (rEqD K) x y (some (decide (x = y))) := fun F H v w s rv rw' z e Q q => by
  cases e
  refine ⟨Dat.enc x, Dat.enc y, dp_up s rv, dp_up s rw', shaped x h, shaped y h, q _ F H (.refl s) ?_⟩
  rw [Dat.eqv]
  rfl
theorem rv_neD {K : PySem.W.Frag} (x y : α) (h : Dat.dep α ≤ 64 := by decide) : RV (rNeD K) x y (some (!decide (x = y))) := fun F H v w s rv rw' z e Q q => by
  cases e
  refine ⟨Dat.enc x, Dat.enc y, dp_up s rv, dp_up s rw', shaped x h, shaped y h, q _ F H (.refl s) ?_⟩
  rw [Dat.eqv]
  rfl
theorem any_enc (x : α) : ∀ xs : List α, ((xs.map Dat.enc).any fun z => PyData.eqv z (Dat.enc x)) = decide (x ∈ xs)
  | [] => by simp
  | y :: ys => by
    rw [List.map_cons, List.any_cons, any_enc x ys, Dat.eqv]
    by_cases h : y = x
    · simp [h]
    · have h' : ¬ x = y := fun e => h e.symm
      simp [h, h']
theorem rv_inD {K : PySem.W.Frag} (x : α) (xs : List α) (h : Dat.dep α + 1 ≤ 64 := by decide) : RV (rInD K) x xs (some (memL x xs)) := fun F H v w s rv rw' z e Q q => by
  cases e
  refine ⟨Dat.enc x, xs.map Dat.enc, dp_up s rv, dp_up (α := List α) s rw', shaped x (by omega), shaped (α := List α) xs h, q _ F H (.refl s) ?_⟩
  rw [any_enc]
  rfl
theorem rv_notInD {K : PySem.W.Frag} (x : α) (xs : List α) (h : Dat.dep α + 1 ≤ 64 := by decide) : RV (rNotInD K) x xs (some (!memL x xs)) := fun F H v w s rv rw' z e Q q => by
  cases e
  refine ⟨Dat.enc x, xs.map Dat.enc, dp_up s rv, dp_up (α := List α) s rw', shaped x (by omega), shaped (α := List α) xs h, q _ F H (.refl s) ?_⟩
  rw [any_enc]
  rfl
end
theorem flat_ints (xs : List Int) : (xs.map V.int).all flatV = true := by
  induction xs with
  | nil => rfl
  | cons x xs ih => exact ih
theorem inV_ints (x : Int) : ∀ xs : List Int, inV (.int x) (xs.map V.int) = decide (x ∈ xs)
  | [] => by simp [inV]
  | y :: ys => by
    have ih := inV_ints x ys
    unfold inV at ih ⊢
    rw [List.map_cons, List.any_cons, ih]
    show ((y == x) || _) = _
    by_cases h : y = x
    · simp [h]
    · have h' : ¬ x = y := fun e => h e.symm
      simp [h, h']
theorem rv_inI {K : PySem.W.Frag} (x : Int) (xs : List Int) : RV (rIn K false) x xs (some (memL x xs)) := fun F H v w s rv ⟨a, vs, e1, e2, r⟩ z e Q q => by
  cases e
  cases rv
  rw [rpL_ints r] at e2
  refine ⟨a, _, e1, .inl (sqL (s _ _ e2)), rfl, flat_ints xs, q _ F H (.refl s) ?_⟩
  rw [if_neg Bool.false_ne_true, inV_ints]
  rfl
theorem rv_notInI {K : PySem.W.Frag} (x : Int) (xs : List Int) : RV (rIn K true) x xs (some (!memL x xs)) := fun F H v w s rv ⟨a, vs, e1, e2, r⟩ z e Q q => by
  cases e
  cases rv
  rw [rpL_ints r] at e2
  refine ⟨a, _, e1, .inl (sqL (s _ _ e2)), rfl, flat_ints xs, q _ F H (.refl s) ?_⟩
  rw [if_pos rfl, inV_ints]
  rfl

/-! ### order of pairs, sorting -/
theorem rv_leT {K : PySem.W.Frag} (x y : Int × Int) : RV (rLeT K) x y (some (leP x y)) := fun F H v w s ⟨a, v1, v2, e1, e2, r1, r2⟩ ⟨b, w1, w2, e3, e4, r3, r4⟩ z e Q q => by
  cases e
  cases r1
  cases r2
  cases r3
  cases r4
  refine ⟨a, b, [x.1, x.2], [y.1, y.2], e1, e3, sqT (s _ _ e2), sqT (s _ _ e4), q _ F H (.refl s) ?_⟩
  show V.bl _ = V.bl _
  congr 1
  show (if decide (x.1 = y.1) = true then (if decide (x.2 = y.2) = true then decide (2 ≤ 2) else decide (x.2 ≤ y.2)) else decide (x.1 ≤ y.1)) = leP x y
  unfold leP
  by_cases h1 : x.1 = y.1
  · by_cases h2 : x.2 = y.2
    · simp [h1, h2]
    · simp [h1, h2]
  · simp [h1]
def kOf (F : Hp) : V → Int × Int
  | .ref t => match F t with
    | some (.tup [.int a, .int b]) => (a, b)
    | _ => (0, 0)
  | _ => (0, 0)
theorem kOf_rp {F : Hp} {x : Int × Int} {v : V} (h : rp x v F) : kOf F v = x ∧ ∃ t, v = .ref t ∧ F t = some (.tup [.int x.1, .int x.2]) := by
  obtain ⟨a, v1, v2, e1, e2, r1, r2⟩ := h
  cases r1
  cases r2
  subst e1
  refine ⟨?_, a, rfl, e2⟩
  show (match F a with
    | some (.tup [.int a, .int b]) => (a, b)
    | _ => ((0, 0) : Int × Int)) = x
  rw [e2]
theorem rpL_kOf {F : Hp} : ∀ {xs : List (Int × Int)} {vs : List V}, rpL xs vs F → xs = vs.map (kOf F) ∧ ∀ v ∈ vs, ∃ t, v = .ref t ∧ F t = some (.tup [.int (kOf F v).1, .int (kOf F v).2])
  | [], [], _ => ⟨rfl, fun _ h => by simp at h⟩
  | x :: xs, v :: vs, h => by
    obtain ⟨e, h2⟩ := rpL_kOf h.2
    obtain ⟨e1, t, e2, e3⟩ := kOf_rp h.1
    refine ⟨by rw [List.map_cons, e1, ← e], fun w hw => ?_⟩
    rcases List.mem_cons.mp hw with rfl | hw
    · rw [e1]
      exact ⟨t, e2, e3⟩
    · exact h2 w hw
  | [], _ :: _, h => h.elim
  | _ :: _, [], h => h.elim
theorem rpL_of_kOf {F : Hp} : ∀ {vs : List V}, (∀ v ∈ vs, ∃ t, v = .ref t ∧ F t = some (.tup [.int (kOf F v).1, .int (kOf F v).2])) → rpL (vs.map (kOf F)) vs F
  | [], _ => trivial
  | v :: vs, h => by
    obtain ⟨t, e1, e2⟩ := h v List.mem_cons_self
    exact ⟨⟨t, _, _, e1, e2, rfl, rfl⟩, rpL_of_kOf fun w hw => h w (List.mem_cons_of_mem _ hw)⟩
section
variable {t : TE} {σ : L2.St} {F H : Hp} {K : PySem.W.Frag}
theorem evn_sortP {m : Option (List (Int × Int))} (h : EV t σ F H m) : EVN (tCB (rSortedPO K) (tCons t tNil)) σ F H (m.bind fun xs => some (srt leP xs)) := fun F1 H1 l y e Q q => by
  obtain ⟨xs, ex, e⟩ := Option.bind_eq_some_iff.mp e
  cases e
  refine h F1 H1 l xs ex _ fun v F2 H2 l2 ⟨a, vs, e1, e2, r⟩ => ?_
  obtain ⟨k1, k2⟩ := rpL_kOf r
  refine ⟨a, vs, kOf F2, by rw [e1], sqL (l2.fh _ _ e2), fun x hx => ?_, fun ys p hs hst hp => ?_⟩
  · obtain ⟨t, e3, e4⟩ := k2 x hx
    exact ⟨t, e3, l2.fh _ _ e4⟩
  · have e5 : ys.map (kOf F2) = srt leP xs := by
      refine srt_uniq ordP ?_ ?_
      · rw [k1]
        exact hst.perm.map _
      · rw [List.pairwise_map]
        refine List.Pairwise.imp (fun {x y} (hxy : SrtO.lexB (kOf F2 y) (kOf F2 x) = false) => ?_) hs
        have := SrtO.lexB_no.mp hxy
        unfold leP
        split <;> simp only [decide_eq_true_eq] <;> omega
    refine q p ys F2 _ (l2.trans (.made l2.fh hp)) (l2.h.free hp) (l2.fh.free hp) upd_same ?_
    rw [← e5]
    exact rpL_of_kOf fun v hv => k2 v (hst.perm.mem_iff.mp hv)
theorem evn_sortI {m : Option (List Int)} (h : EV t σ F H m) : EVN (tCB (rSorted K) (tCons t tNil)) σ F H (m.bind fun xs => srtI xs) := fun F1 H1 l y e Q q => by
  obtain ⟨xs, ex, e⟩ := Option.bind_eq_some_iff.mp e
  unfold srtI at e
  split at e
  · rename_i hl
    cases e
    refine h F1 H1 l xs ex _ fun v F2 H2 l2 ⟨a, vs, e1, e2, r⟩ => ?_
    rw [rpL_ints r] at e2
    refine ⟨a, xs, by rw [e1], sqL (l2.fh _ _ e2), hl, fun ns' p hp hs hn => ?_⟩
    have e5 : ns' = srt leI xs := srt_uniq ordI hp (List.Pairwise.imp (fun {a b} h => by unfold leI; exact decide_eq_true h) hs)
    subst e5
    exact q p _ F2 _ (l2.trans (.made l2.fh hn)) (l2.h.free hn) (l2.fh.free hn) upd_same (rpL_ints' _)
  · cases e
end

/-! ### isinstance -/
class Typ (α : Type) [Rep α] where
  name : String
  ty : ∀ {K : PySem.W.Frag} {x : α} {v : V} {F : Hp}, rp x v F → TyX K F v (.type name)
instance : Typ Int := ⟨"int", fun h => by cases h; exact .base (.int _)⟩
instance : Typ Bool := ⟨"bool", fun h => by cases h; exact .base (.bl _)⟩
instance : Typ Str := ⟨"str", fun h => by cases h; exact .base (.str _)⟩
instance {α : Type} [Rep α] : Typ (List α) := ⟨"list", fun ⟨a, vs, e, h, r⟩ => by rw [e]; exact .base (.lst h)⟩
instance {α β : Type} [Rep α] [Rep β] : Typ (α × β) := ⟨"tuple", fun ⟨a, v, w, e, h, r⟩ => by rw [e]; exact .base (.tup h)⟩
section
variable {α : Type} [Rep α] [Typ α] {t : TE} {σ : L2.St} {F H : Hp} {K : PySem.W.Frag}
theorem ev_isi {m : Option α} (h : EV t σ F H m) {n : String} (b : Bool) (hk : kitB (Typ.name α) n = some b := by decide +kernel) : EV (tCB (rIsi K) (tCons t (tCons (tC (.ty n)) tNil))) σ F H (m.bind fun _ => some b) := fun F1 H1 l y e Q q => by
  obtain ⟨x, ex, e⟩ := Option.bind_eq_some_iff.mp e
  cases e
  exact h F1 H1 l x ex _ fun v F2 H2 l2 r => ⟨v, .ty n, _, _, b, rfl, .ty n, Typ.ty (Rep.mono l2.fh r), kit_ty hk, q _ F2 H2 l2 rfl⟩
end

/-! ### defs as they stand -/
structure Fn (P : Program) (w : World) (K : PySem.W.Frag) (mg : Str → Option Value) (base : Heap) (CX : CXT) (k : Nat) (x : Str) (ps : List Str) (sp : Sp) : Prop where
  ex : ∃ f fd, mg x = some (.ref f) ∧ PySem.W.keepIn K (.ref f) = true ∧ Binds K fd ps [] ∧ FnOk P w K mg base CX k f fd ps sp
theorem pe_fn {X : Cx} {k : Nat} {x : Str} {ps : List Str} {sp : Sp} {p pos : Pos} {e : Expr} {es : List Expr} {t : TA} (F : Fn X.prog X.w X.K X.mg X.base CX0 k x ps sp) (hr : Room k X.A) (hg : Gl X x)
    (ha : PA X (e :: es) t) (hdb : (x == ("__debug__" : Str)) = false := by decide) (he : starEach (e :: es) X.env = (false, eval e X.env) :: starEach es X.env := by rfl) (hpl : (backTo pos (starEach es X.env)).any (·.1) = false := by rfl) :
    PE X (.Call (.Name x p) (e :: es) [] pos) (tCall sp [] E0 t) := by
  obtain ⟨f, fd, h1, h2, h3, h4⟩ := F.ex
  exact pe_call h4 hr hg h1 h2 h3 .nil pass0 ha hdb he hpl
theorem hu64 {A : Around} {k : Nat} (hr : Room k A) : A.units + 64 < cLine := by have := hr.un; omega
theorem hu65 {A : Around} {k : Nat} (hr : Room k A) : A.units + 65 < cLine := by have := hr.un; omega
theorem hu0 {A : Around} {k : Nat} (hr : Room k A) : A.units < cLine := by have := hr.un; omega
end Dw

set_option Elab.async false
set_option linter.all false
set_option maxRecDepth 100000
set_option maxHeartbeats 4000000
/-! The layer, fourth part: chains of three, ranges as lists, and what else is asked for now and then. -/
namespace L2
open PySem PySem.Spec PyProof.Rows
/-- a op1 b op2 c op3 d -/
def tChain3 (r r' r'' : R2) (ta tb tc td : TE) : TE := fun σ H Q => ta σ H fun x H1 => tb σ H1 fun y H2 => r x y H2 fun z H3 => ∃ k, z = .bl k ∧
  (if k = true then tc σ H3 fun w' H4 => r' y w' H4 fun z' H5 => ∃ k', z' = .bl k' ∧ (if k' = true then td σ H5 fun u' H6 => r'' w' u' H6 Q else Q (.bl false) H5) else Q (.bl false) H3)
section
variable {X : Cx} {a b c d : Expr} {ta tb tc td : TE} {pos : Pos}
theorem pt_chain3 {op op' op'' : CmpOp} {r r' r'' : R2} (ho : OpR X (compareOp op) r) (ho' : OpR X (compareOp op') r') (ho'' : OpR X (compareOp op'') r'') (ha : PE X a ta) (hb : PE X b tb) (hc : PE X c tc) (hd : PE X d td)
    (hm : lastMarks [op, op', op''] [b, c, d] = false := by with_unfolding_all rfl) : PT X (.Compare a [op, op', op''] [b, c, d] pos) (tTest (tChain3 r r' r'' ta tb tc td)) := by
  refine ⟨fun pins s σ H Q I h => ?_⟩
  refine isTrue_chain (thn (ha.run pins s σ H _ I h) fun v s1 ⟨x, H1, I1, r1, q1⟩ => test_link (thn (hb.run pins s1 σ H1 _ I1 q1) fun u s2 ⟨y, H2, I2, r2, q2⟩ =>
    thn (ho pins s2 σ H2 x y v u _ I2 r1 r2 q2) fun e s3 ⟨z, H3, I3, r3, k, ez, q3⟩ => ?_)) hm
  subst ez
  cases r3
  refine wpAny_truthy_bool ?_
  cases k with
  | false =>
    obtain ⟨k', e', q'⟩ := q3
    cases e'
    exact ite_ff ⟨H3, I3, q'⟩
  | true =>
    refine ite_tt (test_link (thn (hc.run pins s3 σ H3 _ I3 q3) fun w' s4 ⟨z', H4, I4, r4, q4⟩ => thn (ho' pins s4 σ H4 y z' u w' _ I4 r2 r4 q4) fun d' s5 ⟨z2, H5, I5, r5, k2, e2, q5⟩ => ?_))
    subst e2
    cases r5
    refine wpAny_truthy_bool ?_
    cases k2 with
    | false =>
      obtain ⟨k', e', q'⟩ := q5
      cases e'
      exact ite_ff ⟨H5, I5, q'⟩
    | true =>
      refine ite_tt (test_last (thn (hd.run pins s5 σ H5 _ I5 q5) fun u' s6 ⟨z6, H6, I6, r6, q6⟩ => thn (ho'' pins s6 σ H6 z' z6 w' u' _ I6 r4 r6 q6) fun d' s7 ⟨z7, H7, I7, r7, k7, e7, q7⟩ => ?_))
      subst e7
      cases r7
      exact wpAny_truthy_bool ⟨H7, I7, q7⟩
end
end L2
namespace Dw
open PySem L2 Dv
open Rep (rp)
open RepA (ra)
section
variable {α β γ δ : Type} [Rep α] [Rep β] [Rep γ] [Rep δ] {t : TE} {σ : L2.St} {F H : Hp} {K : PySem.W.Frag}
theorem ev_chain3 {ta tb tc td : TE} {r r' r'' : R2} {ma : Option α} {mb : Option β} {mc : Option γ} {md : Option δ} {k : α → β → Option Bool} {k' : β → γ → Option Bool} {k'' : γ → δ → Option Bool} (ha : EV ta σ F H ma) (hb : EV tb σ F H mb) (hc : EV tc σ F H mc) (hd : EV td σ F H md)
    (hr : ∀ x y, RV r x y (k x y)) (hr' : ∀ x y, RV r' x y (k' x y)) (hr'' : ∀ x y, RV r'' x y (k'' x y)) :
    EV (tChain3 r r' r'' ta tb tc td) σ F H (ma.bind fun x => mb.bind fun y => (k x y).bind fun b => if b then mc.bind fun z => (k' y z).bind fun b => if b then md.bind fun u => k'' z u else some false else some false) := fun F1 H1 l z e Q q => by
  obtain ⟨x, ex, e⟩ := Option.bind_eq_some_iff.mp e
  obtain ⟨y, ey, e⟩ := Option.bind_eq_some_iff.mp e
  obtain ⟨b, eb, e⟩ := Option.bind_eq_some_iff.mp e
  refine ha F1 H1 l x ex _ fun v F2 H2 l2 rv => hb F2 H2 (l.trans l2) y ey _ fun w F3 H3 l3 rw' => ?_
  refine hr x y F3 H3 v w l3.fh (up rv l3) rw' b eb _ fun u F4 H4 l4 ru => ⟨b, ru, ?_⟩
  cases b with
  | true =>
    refine iteT ?_
    obtain ⟨z1, ez1, e⟩ := Option.bind_eq_some_iff.mp e
    obtain ⟨b2, eb2, e⟩ := Option.bind_eq_some_iff.mp e
    refine hc F4 H4 (((l.trans l2).trans l3).trans l4) z1 ez1 _ fun w2 F5 H5 l5 r5 => ?_
    refine hr' y z1 F5 H5 w w2 l5.fh (up (up rw' l4) l5) r5 b2 eb2 _ fun u6 F6 H6 l6 r6 => ⟨b2, r6, ?_⟩
    cases b2 with
    | true =>
      refine iteT ?_
      obtain ⟨z3, ez3, e⟩ := Option.bind_eq_some_iff.mp e
      refine hd F6 H6 (((((l.trans l2).trans l3).trans l4).trans l5).trans l6) z3 ez3 _ fun w7 F7 H7 l7 r7 => ?_
      exact hr'' z1 z3 F7 H7 w2 w7 l7.fh (up (up r5 l6) l7) r7 z e Q fun u8 F8 H8 l8 r8 => q u8 F8 H8 ((((((l2.trans l3).trans l4).trans l5).trans l6).trans l7).trans l8) r8
    | false =>
      have e' : false = z := Option.some.inj e
      subst e'
      exact iteF (q _ F6 H6 ((((l2.trans l3).trans l4).trans l5).trans l6) rfl)
  | false =>
    have e' : false = z := Option.some.inj e
    subst e'
    exact iteF (q _ F4 H4 ((l2.trans l3).trans l4) rfl)
theorem rv_isB (x y : Bool) : RV rIsB x y (some (decide (x = y))) := fun F H v w s rv rw' z e Q q => by
  cases e
  exact ⟨x, y, rv, rw', q _ F H (.refl s) rfl⟩
theorem rv_isnotB (x y : Bool) : RV rNotB x y (some (!decide (x = y))) := fun F H v w s rv rw' z e Q q => by
  cases e
  exact ⟨x, y, rv, rw', q _ F H (.refl s) rfl⟩
theorem evn_lrng {m : Option Int} (h : EV t σ F H m) : EVN (tLstRg (tRg1 t)) σ F H (m.bind fun n => lrng n) := fun F1 H1 l xs e Q q => by
  obtain ⟨n, en, e⟩ := Option.bind_eq_some_iff.mp e
  unfold lrng at e
  split at e
  · rename_i c
    cases e
    refine h F1 H1 l n en _ fun v F2 H2 l2 r => ⟨n, r, ⟨by omega, by omega, by omega, by omega, ?_⟩, fun p hp => ?_⟩
    · have : (2 : Nat) ^ 24 = 16777216 := by decide
      rw [this]
      omega
    · refine q p _ F2 _ (l2.trans (.made l2.fh hp)) (l2.h.free hp) (l2.fh.free hp) upd_same ?_
      unfold rgV
      have e1 : (n - 0).toNat = n.toNat := by rw [Int.sub_zero]
      rw [e1]
      have e2 : (List.range n.toNat).map (fun i => V.int (0 + ((i : Nat) : Int))) = ((List.range n.toNat).map fun i => ((i : Nat) : Int)).map V.int := by
        rw [List.map_map]
        refine List.map_congr_left fun i _ => ?_
        show V.int (0 + (i : Int)) = V.int (i : Int)
        rw [Int.zero_add]
      rw [e2]
      exact rpL_ints' _
  · cases e
/-- a part of the script -/
theorem evn_cutS {m : Option (Scr K)} {tl th : TO} {lo hi : Option (Option Int)} (h : EV t σ F H m)
    (hl : ∀ F1 H1, Lat F H F1 H1 → ∀ i, lo = some i → ∀ Q : Option Int → Hp → Prop, (∀ F2 H2, Lat F1 H1 F2 H2 → Q i H2) → tl σ H1 Q)
    (hh : ∀ F1 H1, Lat F H F1 H1 → ∀ i, hi = some i → ∀ Q : Option Int → Hp → Prop, (∀ F2 H2, Lat F1 H1 F2 H2 → Q i H2) → th σ H1 Q) :
    EVN (tSl (rSlL K) t tl th) σ F H (m.bind fun xs => lo.bind fun i => hi.bind fun j => some (cutZ xs.l i j)) := fun F1 H1 l y e Q q => by
  obtain ⟨x, ex, e⟩ := Option.bind_eq_some_iff.mp e
  obtain ⟨i, ei, e⟩ := Option.bind_eq_some_iff.mp e
  obtain ⟨j, ej, e⟩ := Option.bind_eq_some_iff.mp e
  cases e
  refine h F1 H1 l x ex _ fun v F2 H2 l2 ⟨a, e1, e2⟩ => hl F2 H2 (l.trans l2) i ei _ fun F3 H3 l3 => hh F3 H3 ((l.trans l2).trans l3) j ej _ fun F4 H4 l4 => ?_
  have L := (l2.trans l3).trans l4
  refine ⟨a, _, e1, same_l (l3.h.trans l4.h) (same_l l2.fh e2), fun p hp => q p _ F4 _ (L.trans (.made l4.fh hp)) (L.h.free hp) (l4.fh.free hp) upd_same ?_⟩
  unfold cutZ cutV
  rw [List.length_map]
  exact rpL.take _ (rpL.drop _ (rpL_ints' _))
theorem ev_powL {ta tb : TE} {x y n : Int} (ha : EV ta σ F H (some x)) (hb : EV tb σ F H (some y)) (hc : CPow x y) (hn : x ^ y.toNat = n) : EV (tOp (rI CPow fun i j => .int (i ^ j.toNat)) ta tb) σ F H (some n) := fun F1 H1 l z e Q q => by
  cases e
  refine ha F1 H1 l x rfl _ fun v F2 H2 l2 rv => hb F2 H2 (l.trans l2) y rfl _ fun w F3 H3 l3 rw' => ?_
  exact ⟨x, y, rv, rw', hc, q _ F3 H3 (l2.trans l3) (show V.int _ = V.int n by rw [hn])⟩
theorem rv_divW (x y : Int) : RV (rI CDivW fun i j => .int (i / j)) x y (divW x y) := rv_I x y fun z e => by
  unfold divW at e
  split at e
  · rename_i c
    cases e
    exact ⟨c, rfl⟩
  · cases e
end
end Dw
/-! ### rules whose reading names the written part K itself (for use within a comprehension) -/
namespace Dw
open PySem L2 Dv
section
variable {X : Cx} {K : PySem.W.Frag}
theorem ix_listK (hK : X.K = K) : IxR X (rIxL K) := hK ▸ ix_list
theorem ix_tupK (hK : X.K = K) : IxR X (rIxT K) := hK ▸ ix_tup
theorem op_in_seqK (hK : X.K = K) : OpR X (compareOp .In) (rIn K false) := hK ▸ op_in_seq
theorem op_notIn_seqK (hK : X.K = K) : OpR X (compareOp .NotIn) (rIn K true) := hK ▸ op_notIn_seq
theorem op_inDK (hK : X.K = K) (hu : X.A.units + 65 < cLine) : OpR X (compareOp .In) (rInD K) := hK ▸ op_inD hu
theorem op_notInDK (hK : X.K = K) (hu : X.A.units + 65 < cLine) : OpR X (compareOp .NotIn) (rNotInD K) := hK ▸ op_notInD hu
theorem op_eqDK (hK : X.K = K) (hu : X.A.units + 64 < cLine) : OpR X (compareOp .Eq) (rEqD K) := hK ▸ op_eqD hu
theorem op_neDK (hK : X.K = K) (hu : X.A.units + 64 < cLine) : OpR X (compareOp .NotEq) (rNeD K) := hK ▸ op_neD hu
theorem op_leTK (hK : X.K = K) (hu : X.A.units < cLine) : OpR X (compareOp .LtE) (rLeT K) := hK ▸ op_leT hu
theorem sl_listK (hK : X.K = K) : SlR X (rSlL K) := hK ▸ sl_list
theorem call_len_seqK (hK : X.K = K) : CallR X (.builtin "len") (fun xs H Q => ∃ p ys, xs = [.ref p] ∧ (SqL K H p ys ∨ SqT K H p ys) ∧ Q (.int ys.length) H) := hK ▸ call_len_seq
theorem call_list_ofK (hK : X.K = K) : CallR X (.type "list") (fun xs H Q => ∃ p ys, xs = [.ref p] ∧ (SqL K H p ys ∨ SqT K H p ys) ∧ ∀ l, H l = none → Q (.ref l) (upd H l (.lst ys))) := hK ▸ call_list_of
theorem cr_sortedPOK (hK : X.K = K) : CallR X (.builtin "sorted") (rSortedPO K) := hK ▸ cr_sortedPO
theorem cr_sortedK (hK : X.K = K) : CallR X (.builtin "sorted") (rSorted K) := hK ▸ cr_sorted
theorem call_isiK (hK : X.K = K) : CallR X (.builtin "isinstance") (rIsi K) := hK ▸ call_isi
theorem pi_listK {tg l : Expr} {tl : TE} (hK : X.K = K) (hl : PE X l tl) : PI X tg l (iList K tl) := hK ▸ pi_list hl
theorem pi_tupK {tg l : Expr} {tl : TE} (hK : X.K = K) (hl : PE X l tl) : PI X tg l (iTup K tl) := hK ▸ pi_tup hl
theorem mt_indexK (hK : X.K = K) : MtR X "list.index" (rIndex K) := hK ▸ mt_index
theorem pe_bmK {T name id : String} {r : V → List V → Hp → VK → Prop} {o : Expr} {to : TE} {e : Expr} {es : List Expr} {t : TA} {apos pos : Pos} (hK : X.K = K) (h : PE X (.Call (.Attribute o name apos) (e :: es) [] pos) (tBM X.K T r to t)) : PE X (.Call (.Attribute o name apos) (e :: es) [] pos) (tBM K T r to t) := hK ▸ h
theorem pg_tup2K {i j : Nat} {es : List Expr} {k : Nat} {pos : Pos} {t : TGs} {n : Nat} (hK : X.K = K) (h : PG X (.Tuple es k pos) (gTup X.K n t)) : PG X (.Tuple es k pos) (gTup K n t) := hK ▸ h
end
end Dw

set_option Elab.async false
set_option linter.all false
set_option maxRecDepth 100000
set_option maxHeartbeats 4000000
/-! The layer, fifth part: defs that refuse, and refusals caught. -/
namespace Dw
open PySem L2 Dv
open Rep (rp)
open RepA (ra)
section
variable {α β γ R : Type} [Rep α] [Rep β] [Rep γ] {cl : Er → Value} {W : WX} {t : TE} {σ : L2.St} {F H : Hp} {K : PySem.W.Frag}
/-- what an expression is worth that may refuse: cl tells the classes, W what is wished then -/
def EX (cl : Er → Value) (W : WX) (t : TE) (σ : L2.St) (F H : Hp) (m : Rs α) : Prop :=
  ∀ F1 H1, Lat F H F1 H1 → ∀ y, m = some y → ∀ Q : VK, (∀ x, y = .ok x → ∀ v F2 H2, Lat F1 H1 F2 H2 → rp x v F2 → Q v H2) →
    (∀ e, y = .error e → ∀ F2 H2, Lat F1 H1 F2 H2 → W (cl e) none σ H2) → t σ H1 Q
/-- the same of arguments -/
def EXA {δ : Type} [RepA δ] (cl : Er → Value) (W : WX) (t : TA) (σ : L2.St) (F H : Hp) (m : Rs δ) : Prop :=
  ∀ F1 H1, Lat F H F1 H1 → ∀ y, m = some y → ∀ Q : List V → Hp → Prop, (∀ x, y = .ok x → ∀ vs F2 H2, Lat F1 H1 F2 H2 → ra x vs F2 → Q vs H2) →
    (∀ e, y = .error e → ∀ F2 H2, Lat F1 H1 F2 H2 → W (cl e) none σ H2) → t σ H1 Q
theorem EV.x {m : Option α} (h : EV t σ F H m) : EX cl W t σ F H (m.bind fun x => some (.ok x)) := fun F1 H1 l y e Q q _ => by
  obtain ⟨x, ex, e⟩ := Option.bind_eq_some_iff.mp e
  cases e
  exact h F1 H1 l x ex Q fun v F2 H2 l2 r => q x rfl v F2 H2 l2 r
theorem EVA.x {δ : Type} [RepA δ] {t : TA} {m : Option δ} (h : EVA t σ F H m) : EXA cl W t σ F H (m.bind fun x => some (.ok x)) := fun F1 H1 l y e Q q _ => by
  obtain ⟨x, ex, e⟩ := Option.bind_eq_some_iff.mp e
  cases e
  exact h F1 H1 l x ex Q fun v F2 H2 l2 r => q x rfl v F2 H2 l2 r
theorem exB_some {y : Except Er α} {k : α → Rs β} {z : Except Er β} (h : exB y k = some z) : (∃ x, y = .ok x ∧ k x = some z) ∨ ∃ e, y = .error e ∧ z = .error e := by
  cases y with
  | ok x => exact .inl ⟨x, rfl, h⟩
  | error e => exact .inr ⟨e, rfl, by cases h; rfl⟩
theorem exa_cons {δ : Type} [RepA δ] {tr : TA} {m : Rs α} {mr : Rs δ} (h : EX cl W t σ F H m) (hr : EXA cl W tr σ F H mr) : EXA cl W (tCons t tr) σ F H (m.bind fun y => exB y fun x => mr.bind fun z => exB z fun w => some (.ok (x, w))) := fun F1 H1 l y e Q q qe => by
  obtain ⟨y1, e1, e⟩ := Option.bind_eq_some_iff.mp e
  refine h F1 H1 l y1 e1 _ (fun x ex v F2 H2 l2 rv => ?_) (fun e2 ee F2 H2 l2 => ?_)
  · subst ex
    obtain ⟨y2, e3, e⟩ := Option.bind_eq_some_iff.mp (show (mr.bind fun z => exB z fun w => some (.ok (x, w))) = some y from e)
    refine hr F2 H2 (l.trans l2) y2 e3 _ (fun w ew ws F3 H3 l3 rw' => ?_) (fun e4 ee F3 H3 l3 => ?_)
    · subst ew
      cases e
      exact q (x, w) rfl (v :: ws) F3 H3 (l2.trans l3) ⟨v, ws, rfl, (up rv l3), rw'⟩
    · subst ee
      cases e
      exact qe e4 rfl F3 H3 (l2.trans l3)
  · subst ee
    cases e
    exact qe e2 rfl F2 H2 l2
theorem ex_some {m : Rs α} (h : EX cl W t σ F H m) : EX cl W t σ F H (m.bind fun y => exB y fun x => some (.ok (some x))) := fun F1 H1 l z e Q q qe => by
  obtain ⟨y1, e1, e⟩ := Option.bind_eq_some_iff.mp e
  refine h F1 H1 l y1 e1 Q (fun x ex v F2 H2 l2 rv => ?_) (fun e2 ee F2 H2 l2 => ?_)
  · subst ex
    cases e
    exact q (some x) rfl v F2 H2 l2 rv
  · subst ee
    cases e
    exact qe e2 rfl F2 H2 l2
theorem ex_inl {m : Rs α} (h : EX cl W t σ F H m) : EX cl W t σ F H (m.bind fun y => exB y fun x => some (.ok (Sum.inl x : α ⊕ β))) := fun F1 H1 l z e Q q qe => by
  obtain ⟨y1, e1, e⟩ := Option.bind_eq_some_iff.mp e
  refine h F1 H1 l y1 e1 Q (fun x ex v F2 H2 l2 rv => ?_) (fun e2 ee F2 H2 l2 => ?_)
  · subst ex
    cases e
    exact q (.inl x) rfl v F2 H2 l2 rv
  · subst ee
    cases e
    exact qe e2 rfl F2 H2 l2
theorem ex_inr {m : Rs β} (h : EX cl W t σ F H m) : EX cl W t σ F H (m.bind fun y => exB y fun x => some (.ok (Sum.inr x : α ⊕ β))) := fun F1 H1 l z e Q q qe => by
  obtain ⟨y1, e1, e⟩ := Option.bind_eq_some_iff.mp e
  refine h F1 H1 l y1 e1 Q (fun x ex v F2 H2 l2 rv => ?_) (fun e2 ee F2 H2 l2 => ?_)
  · subst ex
    cases e
    exact q (.inr x) rfl v F2 H2 l2 rv
  · subst ee
    cases e
    exact qe e2 rfl F2 H2 l2
theorem ex_tup {ta tb : TE} {ma : Rs α} {mb : Rs β} (ha : EX cl W ta σ F H ma) (hb : EX cl W tb σ F H mb) : EX cl W (tTup (tCons ta (tCons tb tNil))) σ F H (ma.bind fun y => exB y fun x => mb.bind fun z => exB z fun w => some (.ok (x, w))) := fun F1 H1 l y e Q q qe => by
  obtain ⟨y1, e1, e⟩ := Option.bind_eq_some_iff.mp e
  refine ha F1 H1 l y1 e1 _ (fun x ex v F2 H2 l2 rv => ?_) (fun e2 ee F2 H2 l2 => ?_)
  · subst ex
    obtain ⟨y2, e3, e⟩ := Option.bind_eq_some_iff.mp (show (mb.bind fun z => exB z fun w => some (.ok (x, w))) = some y from e)
    refine hb F2 H2 (l.trans l2) y2 e3 _ (fun w ew v2 F3 H3 l3 rw' => ?_) (fun e4 ee F3 H3 l3 => ?_)
    · subst ew
      cases e
      refine ⟨by show 2 ≤ sizeLine; decide, fun p hp => ?_⟩
      refine q (x, w) rfl (.ref p) (upd F3 p (.tup [v, v2])) (upd H3 p (.tup [v, v2])) ((l2.trans l3).trans (.new l3.fh hp)) ⟨p, v, v2, rfl, upd_same, ?_, ?_⟩
      · exact Rep.mono (same_upd (l3.fh.free hp)) (up rv l3)
      · exact Rep.mono (same_upd (l3.fh.free hp)) rw'
    · subst ee
      cases e
      exact qe e4 rfl F3 H3 (l2.trans l3)
  · subst ee
    cases e
    exact qe e2 rfl F2 H2 l2
/-- an operator whose left side may refuse -/
theorem ex_op {ta tb : TE} {r : R2} {ma : Rs α} {mb : Option β} {k : α → β → Option γ} (ha : EX cl W ta σ F H ma) (hb : EV tb σ F H mb) (hr : ∀ x y, RV r x y (k x y)) :
    EX cl W (tOp r ta tb) σ F H (ma.bind fun y => exB y fun x => mb.bind fun y => (k x y).bind fun z => some (.ok z)) := fun F1 H1 l z e Q q qe => by
  obtain ⟨y1, e1, e⟩ := Option.bind_eq_some_iff.mp e
  refine ha F1 H1 l y1 e1 _ (fun x ex v F2 H2 l2 rv => ?_) (fun e2 ee F2 H2 l2 => ?_)
  · subst ex
    obtain ⟨y2, e3, e⟩ := Option.bind_eq_some_iff.mp (show (mb.bind fun y => (k x y).bind fun z => some (.ok z)) = some z from e)
    obtain ⟨z1, e4, e⟩ := Option.bind_eq_some_iff.mp e
    cases e
    refine hb F2 H2 (l.trans l2) y2 e3 _ fun w F3 H3 l3 rw' => ?_
    exact hr x y2 F3 H3 v w l3.fh (up rv l3) rw' z1 e4 Q fun u F4 H4 l4 ru => q z1 rfl u F4 H4 ((l2.trans l3).trans l4) ru
  · subst ee
    cases e
    exact qe e2 rfl F2 H2 l2
theorem ex_abs {m : Rs Int} (h : EX cl W t σ F H m) : EX cl W (tCB (fun xs H Q => ∃ i, xs = [.int i] ∧ Q (.int (if i < 0 then -i else i)) H) (tCons t tNil)) σ F H (m.bind fun y => exB y fun i => some (.ok (if i < 0 then -i else i))) := fun F1 H1 l z e Q q qe => by
  obtain ⟨y1, e1, e⟩ := Option.bind_eq_some_iff.mp e
  refine h F1 H1 l y1 e1 _ (fun x ex v F2 H2 l2 rv => ?_) (fun e2 ee F2 H2 l2 => ?_)
  · subst ex
    cases e
    exact ⟨x, by rw [show v = V.int x from rv], q _ rfl _ F2 H2 l2 rfl⟩
  · subst ee
    cases e
    exact qe e2 rfl F2 H2 l2
end

/-! ### promises -/
section
variable {δ α β R : Type} [RepB δ] [Rep α] [Rep β] {cl : Er → Value} {W : WX} {σ : L2.St} {F H : Hp} {ta : TA}
def spX (cl : Er → Value) (m : δ → Rs β) : Sp := fun vs H Q E => ∃ (F : Hp) (x : δ) (y : Except Er β), Same F H ∧ ra x vs F ∧ m x = some y ∧ (∀ z, y = .ok z → ∀ v F' H', Lat F H F' H' → rp z v F' → Q v H') ∧ ∀ e, y = .error e → ∀ F' H', Lat F H F' H' → E (cl e) none H'
def spXN (cl : Er → Value) (m : δ → Rs (List β)) : Sp := fun vs H Q E => ∃ (F : Hp) (x : δ) (y : Except Er (List β)), Same F H ∧ ra x vs F ∧ m x = some y ∧ (∀ z, y = .ok z → ∀ p ws F' H', Lat F H F' H' → H p = none → F' p = none → H' p = some (.lst ws) → rpL z ws F' → Q (.ref p) H') ∧ ∀ e, y = .error e → ∀ F' H', Lat F H F' H' → E (cl e) none H'
theorem spX_len {m : δ → Rs β} {n : Nat} (hn : RepB.n δ = n) : ∀ vs H Q E, spX cl m vs H Q E → vs.length = n := fun vs H Q E ⟨F, x, y, _, h, _⟩ => (RepB.len h).trans hn
theorem spXN_len {m : δ → Rs (List β)} {n : Nat} (hn : RepB.n δ = n) : ∀ vs H Q E, spXN cl m vs H Q E → vs.length = n := fun vs H Q E ⟨F, x, y, _, h, _⟩ => (RepB.len h).trans hn
/-- a call that may refuse -/
theorem ex_call {m : δ → Rs β} {ma : Rs δ} (ha : EXA cl W ta σ F H ma) : EX cl W (tCallS (spX cl m) (WE W) ta) σ F H (ma.bind fun y => exB y fun x => m x) := fun F1 H1 l y e Q q qe => by
  obtain ⟨y1, e1, e⟩ := Option.bind_eq_some_iff.mp e
  refine ha F1 H1 l y1 e1 _ (fun x ex vs F2 H2 l2 r => ?_) (fun e2 ee F2 H2 l2 => ?_)
  · subst ex
    exact ⟨F2, x, y, l2.fh, r, e, fun z ez v F3 H3 l3 r3 => q z ez v F3 H3 (l2.trans l3) r3, fun e2 ee F3 H3 l3 => qe e2 ee F3 H3 (l2.trans l3)⟩
  · subst ee
    cases e
    exact qe e2 rfl F2 H2 l2
theorem ex_callN {m : δ → Rs (List β)} {ma : Rs δ} (ha : EXA cl W ta σ F H ma) : EX cl W (tCallS (spXN cl m) (WE W) ta) σ F H (ma.bind fun y => exB y fun x => m x) := fun F1 H1 l y e Q q qe => by
  obtain ⟨y1, e1, e⟩ := Option.bind_eq_some_iff.mp e
  refine ha F1 H1 l y1 e1 _ (fun x ex vs F2 H2 l2 r => ?_) (fun e2 ee F2 H2 l2 => ?_)
  · subst ex
    exact ⟨F2, x, y, l2.fh, r, e, fun z ez p ws F3 H3 l3 h1 h2 h3 r3 => q z ez (.ref p) (upd F3 p (.lst ws)) H3 ((l2.trans l3).hold (l2.h.free h1) h2 h3) ⟨p, ws, rfl, upd_same, rpL.mono (same_upd h2) r3⟩, fun e2 ee F3 H3 l3 => qe e2 ee F3 H3 (l2.trans l3)⟩
  · subst ee
    cases e
    exact qe e2 rfl F2 H2 l2
/-- a call that does not refuse -/
theorem noX_some {m : Rs β} {y : β} (h : noX m = some y) : m = some (.ok y) := by
  unfold noX at h
  obtain ⟨z, ez, e⟩ := Option.bind_eq_some_iff.mp h
  cases z with
  | ok x =>
    cases e
    exact ez
  | error _ => cases e
theorem ev_callX {m : δ → Rs β} {ma : Option δ} {E : XK} (ha : EVA ta σ F H ma) : EV (tCall (spX cl m) [] E ta) σ F H (ma.bind fun x => noX (m x)) := fun F1 H1 l y e Q q => by
  obtain ⟨x, ex, e⟩ := Option.bind_eq_some_iff.mp e
  refine ha F1 H1 l x ex _ fun vs F2 H2 l2 r => ?_
  rw [List.append_nil]
  exact ⟨F2, x, .ok y, l2.fh, r, noX_some e, fun z ez v F3 H3 l3 r3 => by cases ez; exact q v F3 H3 (l2.trans l3) r3, fun e ee => by cases ee⟩
theorem evn_callX {m : δ → Rs (List β)} {ma : Option δ} {E : XK} (ha : EVA ta σ F H ma) : EVN (tCall (spXN cl m) [] E ta) σ F H (ma.bind fun x => noX (m x)) := fun F1 H1 l y e Q q => by
  obtain ⟨x, ex, e⟩ := Option.bind_eq_some_iff.mp e
  refine ha F1 H1 l x ex _ fun vs F2 H2 l2 r => ?_
  rw [List.append_nil]
  exact ⟨F2, x, .ok y, l2.fh, r, noX_some e, fun z ez p ws F3 H3 l3 h1 h2 h3 r3 => by cases ez; exact q p ws F3 H3 (l2.trans l3) (l2.h.free h1) h2 h3 r3, fun e ee => by cases ee⟩
theorem pe_fnX {X : Cx} {k : Nat} {x : Str} {ps : List Str} {sp : Sp} {p pos : Pos} {e : Expr} {es : List Expr} {t : TA} (tk : Takes X W) (F : Fn X.prog X.w X.K X.mg X.base (L2.CX X.prog X.w) k x ps sp) (hr : Room k X.A) (hg : Gl X x)
    (ha : PA X (e :: es) t) (hdb : (x == ("__debug__" : Str)) = false := by decide) (he : starEach (e :: es) X.env = (false, eval e X.env) :: starEach es X.env := by rfl) (hpl : (backTo pos (starEach es X.env)).any (·.1) = false := by rfl) :
    PE X (.Call (.Name x p) (e :: es) [] pos) (tCallS sp (WE W) t) := by
  obtain ⟨f, fd, h1, h2, h3, h4⟩ := F.ex
  exact pe_callS h4 hr hg h1 h2 h3 (fun σ => passAt tk σ) ha hdb he hpl
theorem pe_fn0 {X : Cx} {k : Nat} {x : Str} {ps : List Str} {sp : Sp} {p pos : Pos} {e : Expr} {es : List Expr} {t : TA} (F : Fn X.prog X.w X.K X.mg X.base (L2.CX X.prog X.w) k x ps sp) (hr : Room k X.A) (hg : Gl X x)
    (ha : PA X (e :: es) t) (hdb : (x == ("__debug__" : Str)) = false := by decide) (he : starEach (e :: es) X.env = (false, eval e X.env) :: starEach es X.env := by rfl) (hpl : (backTo pos (starEach es X.env)).any (·.1) = false := by rfl) :
    PE X (.Call (.Name x p) (e :: es) [] pos) (tCall sp [] E0 t) := by
  obtain ⟨f, fd, h1, h2, h3, h4⟩ := F.ex
  exact pe_call h4 hr hg h1 h2 h3 .nil passL ha hdb he hpl

/-! ### statements -/
variable {te : TE} {u : TS} {D : Ends} {r : Except Er R} {i : Nat}
theorem rd_asgX {m : Rs α} {k : α → Rs R} (hF : Same F H) (ex : EX cl W te σ F H m) (hm : (m.bind fun y => exB y k) = some r) (ce : ∀ e F1 H1, r = .error e → Lat F H F1 H1 → W (cl e) none σ H1)
    (c : ∀ x v F1 H1, k x = some r → Lat F H F1 H1 → rp x v F1 → u D (σ.set i (some v)) H1) : tSeq (tAsg te (gName i)) u D σ H := by
  obtain ⟨y, e1, e2⟩ := Option.bind_eq_some_iff.mp hm
  refine ex F H (.refl hF) y e1 _ (fun x ex v F1 H1 l rv => ?_) (fun e ee F1 H1 l => ?_)
  · subst ex
    exact c x v F1 H1 e2 l rv
  · subst ee
    cases e2
    exact ce e F1 H1 rfl l
theorem rd_dropX {m : Rs α} {k : α → Rs R} (hF : Same F H) (ex : EX cl W te σ F H m) (hm : (m.bind fun y => exB y k) = some r) (ce : ∀ e F1 H1, r = .error e → Lat F H F1 H1 → W (cl e) none σ H1)
    (c : ∀ x F1 H1, k x = some r → Lat F H F1 H1 → u D σ H1) : tSeq (tDrop te) u D σ H := by
  obtain ⟨y, e1, e2⟩ := Option.bind_eq_some_iff.mp hm
  refine ex F H (.refl hF) y e1 _ (fun x ex v F1 H1 l rv => ?_) (fun e ee F1 H1 l => ?_)
  · subst ex
    exact c x F1 H1 e2 l
  · subst ee
    cases e2
    exact ce e F1 H1 rfl l
theorem rd_retNk {R : Type} {r : R} {m : Option (List α)} {k : List α → Option R} (hF : Same F H) (ev : EVN te σ F H m) (hm : m.bind k = some r)
    (c : ∀ x p vs F1 H1, k x = some r → Lat F H F1 H1 → H p = none → F1 p = none → H1 p = some (.lst vs) → rpL x vs F1 → D.rt (.ref p) H1) : tRet te D σ H := by
  obtain ⟨x, e1, e2⟩ := Option.bind_eq_some_iff.mp hm
  exact ev F H (.refl hF) x e1 _ fun p vs F1 H1 l h1 h2 h3 rv => c x p vs F1 H1 e2 l h1 h2 h3 rv
/-- a call of a def that does not refuse, of arguments that may -/
theorem ex_callP {m : δ → Option β} {ma : Rs δ} {E : XK} (ha : EXA cl W ta σ F H ma) : EX cl W (tCall (spO m) [] E ta) σ F H (ma.bind fun y => exB y fun x => (m x).bind fun z => some (.ok z)) := fun F1 H1 l y e Q q qe => by
  obtain ⟨y1, e1, e⟩ := Option.bind_eq_some_iff.mp e
  refine ha F1 H1 l y1 e1 _ (fun x ex vs F2 H2 l2 r => ?_) (fun e2 ee F2 H2 l2 => ?_)
  · subst ex
    obtain ⟨z, ez, e⟩ := Option.bind_eq_some_iff.mp (show ((m x).bind fun z => some (.ok z)) = some y from e)
    cases e
    rw [List.append_nil]
    exact ⟨F2, x, z, l2.fh, r, ez, fun v F3 H3 l3 r3 => q z rfl v F3 H3 (l2.trans l3) r3⟩
  · subst ee
    cases e
    exact qe e2 rfl F2 H2 l2
theorem rd_dropXL {m : Rs α} {k : α → Rs R} (hF : Same F H) (ex : EX cl W te σ F H m) (hm : (m.bind fun y => exB y k) = some r) (ce : ∀ e F1 H1, r = .error e → Lat F H F1 H1 → W (cl e) none σ H1)
    (c : ∀ x F1 H1, k x = some r → Lat F H F1 H1 → D.nx σ H1) : tDrop te D σ H := by
  obtain ⟨y, e1, e2⟩ := Option.bind_eq_some_iff.mp hm
  refine ex F H (.refl hF) y e1 _ (fun x ex v F1 H1 l rv => ?_) (fun e ee F1 H1 l => ?_)
  · subst ex
    exact c x F1 H1 e2 l
  · subst ee
    cases e2
    exact ce e F1 H1 rfl l
theorem rd_retX {m : Rs α} {r : Except Er α} (hF : Same F H) (ex : EX cl W te σ F H m) (hm : m = some r) (ce : ∀ e F1 H1, r = .error e → Lat F H F1 H1 → W (cl e) none σ H1)
    (c : ∀ x v F1 H1, r = .ok x → Lat F H F1 H1 → rp x v F1 → D.rt v H1) : tRet te D σ H :=
  ex F H (.refl hF) r hm _ (fun x ex v F1 H1 l rv => c x v F1 H1 ex l rv) fun e ee F1 H1 l => ce e F1 H1 ee l
end

/-! ### classes -/
structure ErC (K : PySem.W.Frag) (mg : Str → Option Value) (x : Str) (C : Addr) : Prop where
  g : mg x = some (.ref C)
  x : PySem.W.excIn K C [.type "ValueError", .type "Exception", .type "BaseException", .type "object"] "ValueError.__new__" = true
  k : PySem.W.keepIn K (.ref C) = true
  b : PySem.W.subIn K (.ref C) (.type "BaseException") = some true
  t : PySem.W.typeIn K (.ref C) = some (.type "type")
theorem rd_raise {W : WX} {C : Value} {D : Ends} {σ : L2.St} {H : Hp} (h : W C none σ H) : (fun (_ : Ends) σ H => (fun (_ : L2.St) (H : Hp) (Q : XK) => Q C none H) σ H fun cls d H' => W cls d σ H') D σ H := h
theorem ps_raiseE {X : Cx} {W : WX} {x m : Str} {C : Addr} {j : Nat} {p p2 pos pos2 : Pos} (hc : X.calm = true) (tk : Takes X W) (T : ErC X.K X.mg x C) (hg : Gl X x) (hdb : (x == ("__debug__" : Str)) = false := by decide) :
    PS X (.Raise (some (.Call (.Name x p) [.Constant (.str m) j p2] [] pos)) none pos2) (fun _ σ H => W (.ref C) none σ H) :=
  ps_raise hc tk (pmk_own PySem.F.excBase_ValueError T.x T.g T.k (raises_own T.b T.t) hg hdb)

/-! ### refusals caught -/
abbrev clO (ad : Er → Addr) : Er → Value := fun e => .ref (ad e)
section
variable {R S : Type} {ad : Er → Addr} {K : PySem.W.Frag} {σ : L2.St} {F H : Hp} {D : Ends} {i : Nat} {pos : Pos}
/-- a suite that knows which refusal it holds -/
def tsE (ad : Er → Addr) (t : Er → Addr → TS) : Addr → Value → Option Addr → TS := fun a cls d D σ H => ∃ e, cls = clO ad e ∧ d = none ∧ t e a D σ H
theorem pss_suite {X : Cx} {sts : List Stmt} {a : Addr} {oe : Obj} {cls : Value} {d : Option Addr} {t : Er → Addr → TS} (hz : Zc cls d oe) (h : ∀ e, Zc (clO ad e) none oe → PSs X sts (t e a)) : PSs X sts (tsE ad t a cls d) := by
  refine ⟨fun pins s σ H D I hw => ?_⟩
  obtain ⟨e, rfl, rfl, hw⟩ := hw
  exact (h e hz).run pins s σ H D I hw
def tTry (K : PySem.W.Frag) (c : Value) (i : Nat) (ts : Addr → Value → Option Addr → TS) (tb : WX → TS) : TS := fun D σ H => tb (wAs K c i ts (fun _ _ _ _ => False) D) D σ H
theorem ps_tryE {X : Cx} {x n : Str} {c : Value} {body suite : List Stmt} {b₀ : Stmt} {np pos pos' : Pos} {tb : WX → TS} {t : Er → Addr → TS} (hs : X.stack = X.env :: X.outer) (hf : X.env.frame = some X.env.locals) (hN : X.N.Nodup) (hi : X.N[i]? = some n) (hln : X.env.kindOf n = some .local) (hc : Names X x c)
    (hb : ∀ (W : WX) (pn : List (Addr × Obj)) (xe : Value → Shared → Prop), Takes (X.tr pn xe) W → PassesOwn (model X.prog X.w) X.A X.env xe → PSs (X.tr pn xe) body (tb W))
    (hsu : ∀ (e : Er) (a : Addr) (oe : Obj) (pn : List (Addr × Obj)), Zc (clO ad e) none oe → (∃ vs, oe.data = .fields vs) → PSs (X.suite a ((a, oe) :: pn)) (b₀ :: suite) (t e a)) :
    PS X (.Try body [.ExceptHandler (some (.Name x np)) (some n) (b₀ :: suite) pos'] [] [] pos) (tTry X.K c i (tsE ad t) tb) :=
  ps_try_as hs hf hN hi hln hc takes0 hb fun a oe cls d pn hz hv => pss_suite hz fun e hz => hsu e a oe pn hz hv
theorem rd_try {α β : Type} {tb : WX → TS} {t : Er → Addr → TS} {c : Value} {mb : Rs α} {f : α → Option β} {k : Er → Option β} {r : β} {F0 H0 : Hp} (hx : ∀ e, PySem.W.exmOne K (clO ad e) c = some true) (hm : trX mb f k = some r)
    (hb : ∀ y, mb = some y → (∀ x, y = .ok x → f x = some r) → ∀ W : WX, (∀ e F1 H1, y = .error e → Lat F0 H0 F1 H1 → Same F F1 → W (clO ad e) none σ H1) → tb W D σ H)
    (hs : ∀ e a F1 H1, k e = some r → Lat F0 H0 F1 H1 → Same F F1 → H1 a = none → ∀ D' : Ends, D'.rt = D.rt → (∀ σ' H', D.nx (σ'.set i none) H' → D'.nx σ' H') → t e a D' (σ.set i (some (.ref a))) H1) : tTry K c i (tsE ad t) tb D σ H := by
  obtain ⟨y, e1, e2⟩ := Option.bind_eq_some_iff.mp hm
  refine hb y e1 (fun x ex => by subst ex; exact e2) _ fun e F1 H1 ee l sf => ?_
  subst ee
  exact ⟨true, hx e, fun _ a ha => ⟨e, rfl, rfl, hs e a F1 H1 e2 l sf ha _ rfl fun _ _ h => h⟩, fun q => nomatch q⟩
theorem kit_ref {D C : Addr} {b : Bool} (hd : PySem.W.hasDictIn K C = true) (ht : PySem.W.typeIn K (.ref C) = some (.type "type")) (self : PySem.W.subIn K (.ref C) (.ref C) = some true) (hs : PySem.W.subIn K (.ref D) (.ref C) = some b) : PySem.W.kitOne K (.ref D) (.ref C) = some b := by
  obtain ⟨cd, hc, _⟩ := PySem.W.any_some hd
  unfold PySem.W.kitOne
  by_cases e : ((Value.ref D) == (Value.ref C)) = true
  · rw [if_pos e]
    have e2 : Value.ref D = Value.ref C := beq_iff_eq.mp e
    rw [e2, self] at hs
    exact hs
  · rw [if_neg e]
    show (if ((PySem.W.clsIn K C).isSome && PySem.W.typeIn K (.ref C) == some (.type "type")) = true then PySem.W.subIn K (.ref D) (.ref C) else none) = some b
    rw [hc, ht]
    exact hs
theorem kit_type {D : Addr} {T : String} {b : Bool} (hs : PySem.W.subIn K (.ref D) (.type T) = some b) (hm : PySem.W.kitMeta T = true := by decide +kernel) : PySem.W.kitOne K (.ref D) (.type T) = some b := by
  unfold PySem.W.kitOne
  rw [if_neg (by intro h; exact nomatch (beq_iff_eq.mp h))]
  show (if PySem.W.kitMeta T = true then PySem.W.subIn K (.ref D) (.type T) else none) = some b
  rw [if_pos hm]
  exact hs
/-- what the top says of the refusals, where some are caught -/
structure Kit (K : PySem.W.Frag) (ad : Er → Addr) (CW : Addr) : Prop where
  ex : ∀ e, ExcC K (ad e)
  one : ∀ e c, PySem.W.kitOne K (clO ad e) (clO ad c) = some (isE e c)
  val : ∀ e, PySem.W.kitOne K (clO ad e) (.type "ValueError") = some true
  exm : ∀ e, PySem.W.exmOne K (clO ad e) (.ref CW) = some true
theorem ev_isE {m : Er} {e : Er} {a : Addr} {CW : Addr} (T : Kit K ad CW) (h : σ[i]? = some (some (.ref a))) : EV (tCB (rIsE K (ad e) a) (tCons (tVar i) (tCons (tC (.ref (ad m))) tNil))) σ F H (some (isE e m)) := fun F1 H1 l x ex Q q => by
  cases ex
  exact ⟨.ref a, h, .ref (ad m), _, _, rfl, fun u r => r, T.one e m, q _ F1 H1 (.refl l.fh) rfl⟩
theorem ev_isV {e : Er} {a : Addr} {CW : Addr} (T : Kit K ad CW) (h : σ[i]? = some (some (.ref a))) : EV (tCB (rIsE K (ad e) a) (tCons (tVar i) (tCons (tC (.ty "ValueError")) tNil))) σ F H (some true) := fun F1 H1 l x ex Q q => by
  cases ex
  exact ⟨.ref a, h, .ty "ValueError", _, _, rfl, fun u r => r, T.val e, q _ F1 H1 (.refl l.fh) rfl⟩
end

/-! ### dicts with pairs for keys -/
def kk (t : Int × Int) : List Key := [.inl t.1, .inl t.2]
theorem kk_inj {t u : Int × Int} (h : kk t = kk u) : t = u := by
  unfold kk at h
  injection h with h1 h2
  injection h2 with h2 _
  injection h1 with h1
  injection h2 with h2
  exact Prod.ext h1 h2
theorem keys_put {kvs : List (List Key × V)} {ks : List (Int × Int)} (h : kvs.map (·.1) = ks.map kk) (t : Int × Int) (v : V) : (putK kvs (kk t) v).map (·.1) = (putD ks t).map kk := by
  have hm : kk t ∈ kvs.map (·.1) ↔ t ∈ ks := by
    rw [h, List.mem_map]
    exact ⟨fun ⟨u, hu, e⟩ => kk_inj e ▸ hu, fun hu => ⟨t, hu, rfl⟩⟩
  have ha : (kvs.any fun kv => decide (kv.1 = kk t)) = true ↔ t ∈ ks := by
    rw [← hm, List.any_eq_true, List.mem_map]
    exact ⟨fun ⟨p, hp, e⟩ => ⟨p, hp, of_decide_eq_true e⟩, fun ⟨p, hp, e⟩ => ⟨p, hp, decide_eq_true e⟩⟩
  unfold putK putD
  by_cases c : t ∈ ks
  · rw [if_pos (ha.mpr c), if_pos c, List.map_map, ← h]
    refine List.map_congr_left fun kv _ => ?_
    show (if kv.1 = kk t then (kv.1, v) else kv).1 = kv.1
    split <;> rfl
  · rw [if_neg fun q => c (ha.mp q), if_neg c, List.map_append, List.map_append, h]
    rfl
section
variable {R α : Type} [Rep α] {K : PySem.W.Frag} {σ : L2.St} {F H : Hp} {D : Ends} {u : TS} {i j : Nat} {r : R}
/-- {} -/
theorem rd_newD {k : List (Int × Int) → Option R} (hF : Same F H) (hm : (some ([] : List (Int × Int))).bind k = some r)
    (c : ∀ p F1 H1, k [] = some r → Lat F H F1 H1 → H p = none → F1 p = none → H1 p = some (.dT []) → u D (σ.set i (some (.ref p))) H1) : tSeq (tAsg tDNewT (gName i)) u D σ H :=
  fun p hp => c p F _ hm (.made hF hp) hp (hF.free hp) upd_same
theorem dput_t {H : Hp} {a : Addr} {y v : V} {kvs : List (List Key × V)} {t : Int × Int} {F : Hp} (hF : Same F H) (e : H a = some (.dT kvs)) (ry : rp t y F) (hl : kvs.length < sizeLine) : DPut H a y v (upd H a (.dT (putK kvs (kk t) v))) := by
  obtain ⟨b, v1, v2, rfl, eb, r1, r2⟩ := ry
  cases r1
  cases r2
  exact DPut.t e (hF _ _ eb) hl
theorem rd_putDL {p : Addr} {ks : List (Int × Int)} {kvs : List (List Key × V)} {ti tv : TE} {mi : Option (Int × Int)} {mv : Option α} {k : List (Int × Int) → Option R} (hF : Same F H) (hj : σ[j]? = some (some (.ref p))) (hp : H p = some (.dT kvs)) (fp : F p = none) (rl : kvs.map (·.1) = ks.map kk)
    (ev : EV tv σ F H mv) (ei : EV ti σ F H mi) (hm : (mv.bind fun _ => mi.bind fun t => putDZ ks t).bind k = some r)
    (c : ∀ ys ws F1 H1, k ys = some r → Mt p F H F1 H1 → F1 p = none → H1 p = some (.dT ws) → ws.map (·.1) = ys.map kk → D.nx σ H1) : sDPut (tVar j) ti tv D σ H := by
  obtain ⟨ys, e1, e2⟩ := Option.bind_eq_some_iff.mp hm
  obtain ⟨x, e3, e4⟩ := Option.bind_eq_some_iff.mp e1
  obtain ⟨t, e5, e6⟩ := Option.bind_eq_some_iff.mp e4
  unfold putDZ at e6
  split at e6
  · rename_i hlen
    cases e6
    refine ev F H (.refl hF) x e3 _ fun v F1 H1 l rv => ⟨.ref p, hj, ei F1 H1 l t e5 _ fun w F2 H2 l2 rw' => ?_⟩
    have l12 := l.trans l2
    have fp2 := l12.nw _ _ hp trivial fp
    have hln : kvs.length = ks.length := by rw [← List.length_map (·.1) (as := kvs), rl, List.length_map]
    exact ⟨p, _, rfl, dput_t l12.fh (l12.h _ _ hp) rw' (sz_lt (by omega)), c _ _ F2 _ e2 (Mt.of l12 fp2) fp2 upd_same (keys_put rl t v)⟩
  · cases e6
theorem rd_putD {p : Addr} {ks : List (Int × Int)} {kvs : List (List Key × V)} {ti tv : TE} {mi : Option (Int × Int)} {mv : Option α} {k : List (Int × Int) → Option R} (hF : Same F H) (hj : σ[j]? = some (some (.ref p))) (hp : H p = some (.dT kvs)) (fp : F p = none) (rl : kvs.map (·.1) = ks.map kk)
    (ev : EV tv σ F H mv) (ei : EV ti σ F H mi) (hm : (mv.bind fun _ => mi.bind fun t => putDZ ks t).bind k = some r)
    (c : ∀ ys ws F1 H1, k ys = some r → Mt p F H F1 H1 → F1 p = none → H1 p = some (.dT ws) → ws.map (·.1) = ys.map kk → u D σ H1) : tSeq (sDPut (tVar j) ti tv) u D σ H := rd_putDL (D := { D with nx := u D }) hF hj hp fp rl ev ei hm c
/-- tuples may be held for known at any time -/
theorem know_tups {F H F1 H1 : Hp} (l : Lat F H F1 H1) : ∀ bs : List Addr, (∀ b ∈ bs, ∃ xs, H1 b = some (.tup xs)) → ∃ F2, Lat F H F2 H1 ∧ Same F1 F2 ∧ (∀ b ∈ bs, F2 b = H1 b) ∧ ∀ q o, H1 q = some o → Chg o → F1 q = none → F2 q = none
  | [], _ => ⟨F1, l, .refl _, fun _ h => by simp at h, fun _ _ _ _ h => h⟩
  | b :: bs, h => by
    obtain ⟨F2, l2, s2, h2, n2⟩ := know_tups l bs fun x hx => h x (List.mem_cons_of_mem _ hx)
    obtain ⟨xs, e⟩ := h b List.mem_cons_self
    cases q : F2 b with
    | some o =>
      refine ⟨F2, l2, s2, fun x hx => ?_, n2⟩
      rcases List.mem_cons.mp hx with rfl | hx
      · rw [q, l2.fh _ _ q]
      · exact h2 x hx
    | none =>
      refine ⟨upd F2 b (.tup xs), l2.know (fun u hu cu _ => ?_) q e, s2.trans (same_upd q), fun x hx => ?_, fun p o ep co fp => ?_⟩
      · have := l2.h _ _ hu
        rw [e] at this
        cases this
        exact cu
      · by_cases z : x = b
        · subst z
          rw [upd_same, e]
        · rw [upd_ne z]
          rcases List.mem_cons.mp hx with hx | hx
          · exact absurd hx z
          · exact h2 x hx
      · have : p ≠ b := fun z => by
          subst z
          rw [e] at ep
          cases ep
          exact co
        rw [upd_ne this]
        exact n2 p o ep co fp
theorem rpL_keys {F : Hp} : ∀ {kvs : List (List Key × V)} {ks : List (Int × Int)} {bs : List Addr}, kvs.map (·.1) = ks.map kk → IsKeys F kvs bs → rpL ks (bs.map V.ref) F
  | _, [], _, e, .nil => trivial
  | kv :: kvs, k :: ks, b :: bs, e, .cons h t => by
    rw [List.map_cons, List.map_cons] at e
    injection e with e1 e2
    refine ⟨⟨b, .int k.1, .int k.2, rfl, ?_, rfl, rfl⟩, rpL_keys e2 t⟩
    have h' : F b = some (.tup (kv.1.map kV)) := h
    rw [e1] at h'
    exact h'
  | _, _ :: _, _, e, .nil => by simp at e
  | _ :: _, [], _, e, .cons _ _ => by simp at e
theorem isKeys_mono {H F : Hp} : ∀ {kvs : List (List Key × V)} {bs : List Addr}, (∀ b ∈ bs, F b = H b) → IsKeys H kvs bs → IsKeys F kvs bs
  | _, _, _, .nil => .nil
  | _, _ :: _, h, .cons k t => .cons (by rw [h _ List.mem_cons_self]; exact k) (isKeys_mono (fun b hb => h b (List.mem_cons_of_mem _ hb)) t)
theorem isKeys_tup {H : Hp} : ∀ {kvs : List (List Key × V)} {bs : List Addr}, IsKeys H kvs bs → ∀ b ∈ bs, ∃ xs, H b = some (.tup xs)
  | _, _, .nil, b, hb => by simp at hb
  | _, _ :: _, .cons k t, b, hb => by
    rcases List.mem_cons.mp hb with rfl | hb
    · exact ⟨_, k⟩
    · exact isKeys_tup t b hb
/-- list(d) -/
theorem evn_listD {p : Addr} {ks : List (Int × Int)} {kvs : List (List Key × V)} (hj : σ[j]? = some (some (.ref p))) (hp : H p = some (.dT kvs)) (rl : kvs.map (·.1) = ks.map kk) :
    EVN (tCB (fun xs H Q => ∃ d kvs, xs = [V.ref d] ∧ Rd H d (.dT kvs) ∧ ∀ p bs, H p = none → IsKeys H kvs bs → Q (.ref p) (upd H p (.lst (bs.map V.ref)))) (tCons (tVar j) tNil)) σ F H (some ks) := fun F1 H1 l xs e Q q => by
  cases e
  refine ⟨.ref p, hj, p, kvs, rfl, .inl (l.h _ _ hp), fun a bs ha hk => ?_⟩
  obtain ⟨F2, l2, s2, h2, n2⟩ := know_tups (Lat.refl l.fh) bs (isKeys_tup hk)
  exact q a _ F2 _ (l2.trans (.made l2.fh ha)) ha (l2.fh.free ha) upd_same (rpL_keys rl (isKeys_mono h2 hk))
end
end Dw

set_option Elab.async false
set_option linter.all false
set_option maxRecDepth 100000
set_option maxHeartbeats 4000000
/-! The layer, sixth part. -/
namespace Dw
open PySem L2 Dv
open Rep (rp)
open RepA (ra)
section
variable {α β γ S R T : Type} [Rep α] [Rep β] [Rep γ] {K : PySem.W.Frag} {σ : L2.St} {F H : Hp} {D : Ends} {te : TE} {r : R}
/-- an if of whose ways some go on and some hand back -/
theorem rd_joinR {c : TT} {t1 t2 u : TS} {m : Option (Stp S T)} {k : S → Option R} {k' : T → Option R} (P : S → L2.St → Hp → Hp → Prop) (hm : (m.bind fun st => st.elim k k') = some r)
    (h1 : ∀ st, m = some st → ∀ D' : Ends, D'.rt = D.rt → (∀ s, st = .go s → ∀ σ3 F3 H3, P s σ3 F3 H3 → D'.nx σ3 H3) → (∀ y, st = .ret y → k' y = some r) → tIfS c t1 t2 D' σ H)
    (h2 : ∀ s σ' F' H', k s = some r → P s σ' F' H' → u D σ' H') : tSeq (tIfS c t1 t2) u D σ H := by
  obtain ⟨st, e1, e2⟩ := Option.bind_eq_some_iff.mp hm
  refine h1 st e1 { D with nx := u D } rfl (fun s es σ3 F3 H3 hp => ?_) fun y ey => ?_
  · subst es
    exact h2 s σ3 F3 H3 e2 hp
  · subst ey
    exact e2
theorem EV.cg {t : TE} {m m' : Option α} (h : EV t σ F H m) (e : m = m') : EV t σ F H m' := e ▸ h
theorem rd_insertL {u : TS} {ti : TE} {p : Addr} {xs : List α} {vs : List V} {mi : Option Int} {m : Option α} {k : List α → Option R} {j : Nat} (hF : Same F H) (hj : σ[j]? = some (some (.ref p))) (hp : H p = some (.lst vs)) (fp : F p = none) (rl : rpL xs vs F)
    (ei : EV ti σ F H mi) (ev : EV te σ F H m) (hm : (mi.bind fun i => m.bind fun y => insZ xs i y).bind k = some r)
    (c : ∀ ys ws F1 H1, k ys = some r → Mt p F H F1 H1 → F1 p = none → H1 p = some (.lst ws) → rpL ys ws F1 → D.nx σ H1) :
    tDrop (tBM K "list" (fun x vs H Q => ∃ (l : Addr) (xs : List V) (i : Int) (y : V), x = .ref l ∧ vs = [.int i, y] ∧ H l = some (.lst xs) ∧ xs.length < sizeLine ∧ 0 ≤ i ∧ i < 2 ^ 63 ∧
    Q .non (upd H l (.lst (xs.take i.toNat ++ [y] ++ xs.drop i.toNat)))) (tVar j) (tCons ti (tCons te tNil))) D σ H := by
  obtain ⟨ys, e1, e2⟩ := Option.bind_eq_some_iff.mp hm
  obtain ⟨i, e3, e4⟩ := Option.bind_eq_some_iff.mp e1
  obtain ⟨y, e5, e6⟩ := Option.bind_eq_some_iff.mp e4
  unfold insZ at e6
  split at e6
  · rename_i hlen
    obtain ⟨h1, h2, h3⟩ := hlen
    cases e6
    refine ⟨.ref p, hj, .inl ⟨rfl, vs, sqL hp⟩, ?_⟩
    refine ei F H (.refl hF) i e3 _ fun v F1 H1 l rv => ?_
    cases rv
    refine ev F1 H1 l y e5 _ fun w F2 H2 l2 rw' => ?_
    have fp1 := l2.nwl (l.h _ _ hp) (l.nwl hp fp)
    refine ⟨p, vs, i, w, rfl, rfl, l2.h _ _ (l.h _ _ hp), sz_lt (by rw [rl.length]; exact h1), h2, by omega, ?_⟩
    have rl2 := rpL.mono l2.f (rpL.mono l.f rl)
    exact c _ _ F2 _ e2 (Mt.of (l.trans l2) fp1) fp1 upd_same (rpL.append (rpL.append (rpL.take _ rl2) ⟨rw', trivial⟩) (rpL.drop _ rl2))
  · cases e6
theorem rd_insert {u : TS} {ti : TE} {p : Addr} {xs : List α} {vs : List V} {mi : Option Int} {m : Option α} {k : List α → Option R} {j : Nat} (hF : Same F H) (hj : σ[j]? = some (some (.ref p))) (hp : H p = some (.lst vs)) (fp : F p = none) (rl : rpL xs vs F)
    (ei : EV ti σ F H mi) (ev : EV te σ F H m) (hm : (mi.bind fun i => m.bind fun y => insZ xs i y).bind k = some r)
    (c : ∀ ys ws F1 H1, k ys = some r → Mt p F H F1 H1 → F1 p = none → H1 p = some (.lst ws) → rpL ys ws F1 → u D σ H1) :
    tSeq (tDrop (tBM K "list" (fun x vs H Q => ∃ (l : Addr) (xs : List V) (i : Int) (y : V), x = .ref l ∧ vs = [.int i, y] ∧ H l = some (.lst xs) ∧ xs.length < sizeLine ∧ 0 ≤ i ∧ i < 2 ^ 63 ∧
    Q .non (upd H l (.lst (xs.take i.toNat ++ [y] ++ xs.drop i.toNat)))) (tVar j) (tCons ti (tCons te tNil)))) u D σ H := rd_insertL (u := u) (D := { D with nx := u D }) hF hj hp fp rl ei ev hm c
theorem eqV_ints (x : Int) : ∀ {xs : List Int}, x ∈ xs → (xs.map V.int)[xs.idxOf x]? = some (.int x) ∧ ∀ (m : Nat) (z : V), m < xs.idxOf x → (xs.map V.int)[m]? = some z → eqV z (.int x) = false
  | [], h => by simp at h
  | y :: ys, h => by
    by_cases e : y = x
    · subst e
      rw [List.idxOf_cons_self]
      exact ⟨rfl, fun m z hm => by omega⟩
    · have hx : x ∈ ys := by
        rcases List.mem_cons.mp h with h | h
        · exact absurd h.symm e
        · exact h
      have ih := eqV_ints x hx
      have e2 : (y :: ys).idxOf x = ys.idxOf x + 1 := by
        have e3 : (y == x) = false := by simpa using e
        rw [List.idxOf_cons, e3]
        rfl
      rw [e2]
      refine ⟨by simpa using ih.1, fun m z hm hz => ?_⟩
      cases m with
      | zero =>
        have : V.int y = z := by simpa using hz
        subst this
        show (y == x) = false
        simpa using e
      | succ m => exact ih.2 m z (by omega) (by simpa using hz)
theorem ev_index {t tx : TE} {m : Option (List Int)} {mx : Option Int} (h : EV t σ F H m) (hx : EV tx σ F H mx) : EV (tBM K "list" (rIndex K) t (tCons tx tNil)) σ F H (m.bind fun xs => mx.bind fun x => idxZ xs x) := fun F1 H1 l z e Q q => by
  obtain ⟨xs, ex, e⟩ := Option.bind_eq_some_iff.mp e
  obtain ⟨x, ey, e⟩ := Option.bind_eq_some_iff.mp e
  unfold idxZ at e
  split at e
  · rename_i hmem
    cases e
    refine h F1 H1 l xs ex _ fun v F2 H2 l2 ⟨a, vs, e1, e2, r⟩ => ?_
    have hv := rpL_ints r
    subst hv
    subst e1
    refine ⟨.inl ⟨rfl, _, sqL (l2.fh _ _ e2)⟩, hx F2 H2 (l.trans l2) x ey _ fun w F3 H3 l3 rw' => ?_⟩
    cases rw'
    obtain ⟨h1, h2⟩ := eqV_ints x hmem
    refine ⟨a, _, .int x, xs.idxOf x, .int x, rfl, rfl, sqL (l3.h _ _ (l2.fh _ _ e2)), rfl, flat_ints xs, h1, ?_, h2, q _ F3 H3 (l2.trans l3) rfl⟩
    show (x == x) = true
    simp
  · cases e
theorem ev_unL {t : TE} {m : Option (Option (α ⊕ β))} (h : EV t σ F H m) : EV t σ F H (m.bind fun x => unL x) := fun F1 H1 l y e Q q => by
  obtain ⟨x, ex, ey⟩ := Option.bind_eq_some_iff.mp e
  refine h F1 H1 l x ex Q fun v F2 H2 l2 r => q v F2 H2 l2 ?_
  match x, ey, r with
  | some (.inl z), ey, r =>
    have : z = y := by simpa [unL] using ey
    subst this
    exact r
theorem ev_unR {t : TE} {m : Option (Option (α ⊕ β))} (h : EV t σ F H m) : EV t σ F H (m.bind fun x => unR x) := fun F1 H1 l y e Q q => by
  obtain ⟨x, ex, ey⟩ := Option.bind_eq_some_iff.mp e
  refine h F1 H1 l x ex Q fun v F2 H2 l2 r => q v F2 H2 l2 ?_
  match x, ey, r with
  | some (.inr z), ey, r =>
    have : z = y := by simpa [unR] using ey
    subst this
    exact r
theorem ev_isiU {t : TE} {m : Option (Option (Bool ⊕ List Int))} (h : EV t σ F H m) : EV (tCB (rIsi K) (tCons t (tCons (tC (.ty "bool")) tNil))) σ F H (m.bind fun x => some (isL x)) := fun F1 H1 l y e Q q => by
  obtain ⟨x, ex, e⟩ := Option.bind_eq_some_iff.mp e
  cases e
  refine h F1 H1 l x ex _ fun v F2 H2 l2 r => ?_
  match x, r with
  | none, r =>
    have hv : v = .non := r
    subst hv
    exact ⟨.non, .ty "bool", _, _, false, rfl, .ty "bool", .base .non, kit_ty (show kitB "NoneType" "bool" = some false by decide +kernel), q _ F2 H2 l2 rfl⟩
  | some (.inl z), r =>
    have r' : rp z v F2 := r
    exact ⟨v, .ty "bool", _, _, true, rfl, .ty "bool", Typ.ty (Rep.mono l2.fh r'), kit_ty (show kitB "bool" "bool" = some true by decide +kernel), q _ F2 H2 l2 rfl⟩
  | some (.inr z), r =>
    have r' : rp z v F2 := r
    exact ⟨v, .ty "bool", _, _, false, rfl, .ty "bool", Typ.ty (Rep.mono l2.fh r'), kit_ty (show kitB "list" "bool" = some false by decide +kernel), q _ F2 H2 l2 rfl⟩
/-- list(x) of a list that may change -/
theorem evn_listO {p : Addr} {j : Nat} {xs : List α} {vs : List V} (hj : σ[j]? = some (some (.ref p))) (hp : H p = some (.lst vs)) (rl : rpL xs vs F) : EVN (tCB (fun xs H Q => ∃ p ys, xs = [.ref p] ∧ (SqL K H p ys ∨ SqT K H p ys) ∧ ∀ l, H l = none → Q (.ref l) (upd H l (.lst ys))) (tCons (tVar j) tNil)) σ F H (some xs) := fun F1 H1 l y e Q q => by
  cases e
  refine ⟨.ref p, hj, p, vs, rfl, .inl (sqL (l.h _ _ hp)), fun a ha => q a vs F1 _ (.made l.fh ha) ha (l.fh.free ha) upd_same (rpL.mono l.f rl)⟩
end
end Dw

set_option linter.all false
/-! Pure lemmas about the vocabulary. -/
namespace Q
open Dv
variable {α β S R : Type}
theorem loopR_any {f : Unit → α → Option (Stp Unit R)} (bad : α → Bool) (r : R) : ∀ {xs : List α}, (∀ x ∈ xs, f () x = some (if bad x = true then .ret r else .go ())) →
    loopR f () xs = some (if xs.any bad = true then .ret r else .go ())
  | [], _ => rfl
  | x :: xs, h => by
    have h1 := h x List.mem_cons_self
    have h2 := loopR_any bad r fun y hy => h y (List.mem_cons_of_mem _ hy)
    show (f () x).bind _ = _
    rw [h1]
    cases hb : bad x
    · simp [hb, h2]
    · simp [hb]
theorem loopG_inv {f : S → α → Option S} (I : List α → S → Prop) : ∀ {xs : List α} {pre : List α} {s : S}, I pre s →
    (∀ pre x s, I pre s → x ∈ xs → ∃ s', f s x = some s' ∧ I (pre ++ [x]) s') → ∃ s', loopG f s xs = some s' ∧ I (pre ++ xs) s'
  | [], pre, s, h, _ => ⟨s, rfl, by rw [List.append_nil]; exact h⟩
  | x :: xs, pre, s, h, hs => by
    obtain ⟨s1, e1, h1⟩ := hs pre x s h List.mem_cons_self
    obtain ⟨s2, e2, h2⟩ := loopG_inv I (xs := xs) h1 fun p y s i m => hs p y s i (List.mem_cons_of_mem _ m)
    refine ⟨s2, ?_, ?_⟩
    · show (f s x).bind _ = _
      rw [e1]
      exact e2
    · rw [show pre ++ x :: xs = pre ++ [x] ++ xs by simp]
      exact h2
/-- a loop that folds -/
theorem loopG_fold {f : S → α → Option S} (g : S → α → S) (I : S → Prop) : ∀ {xs : List α} {s : S}, I s → (∀ s x, I s → x ∈ xs → f s x = some (g s x) ∧ I (g s x)) → loopG f s xs = some (xs.foldl g s) ∧ I (xs.foldl g s)
  | [], s, h, _ => ⟨rfl, h⟩
  | x :: xs, s, h, hs => by
    obtain ⟨e1, h1⟩ := hs s x h List.mem_cons_self
    obtain ⟨e2, h2⟩ := loopG_fold g I (xs := xs) h1 fun s y i m => hs s y i (List.mem_cons_of_mem _ m)
    refine ⟨?_, h2⟩
    show (f s x).bind _ = _
    rw [e1]
    exact e2
theorem rng_nat {a b : Int} (h1 : -1000000 ≤ a) (h2 : a ≤ 1000000) (h3 : -1000000 ≤ b) (h4 : b ≤ 1000000) : rng a b = some ((List.range (b - a).toNat).map fun i => a + (i : Nat)) := by
  unfold rng
  rw [if_pos (by omega)]
theorem rng0 {n : Nat} (h : n ≤ 1000000) : rng 0 (n : Int) = some ((List.range n).map fun i => ((i : Nat) : Int)) := by
  rw [rng_nat (by omega) (by omega) (by omega) (by omega)]
  have e : ((n : Int) - 0).toNat = n := by omega
  rw [e]
  congr 1
  exact List.map_congr_left fun i _ => by omega
theorem mem_rng {a b : Int} {xs : List Int} (h : rng a b = some xs) (x : Int) : x ∈ xs ↔ a ≤ x ∧ x < b := by
  unfold rng at h
  split at h
  · cases h
    rw [List.mem_map]
    constructor
    · rintro ⟨i, hi, rfl⟩
      have := List.mem_range.mp hi
      omega
    · rintro ⟨h1, h2⟩
      exact ⟨(x - a).toNat, List.mem_range.mpr (by omega), by omega⟩
  · cases h
theorem atZ_nat (xs : List α) (k : Nat) : atZ xs (k : Int) = xs[k]? := by
  unfold atZ ixZ
  rw [if_pos (by omega)]
  by_cases h : k < xs.length
  · rw [if_pos (by omega)]
    simp
  · rw [if_neg (by omega)]
    simp [Nat.not_lt.mp h]
theorem atZ_get {xs : List α} {i : Int} (h0 : 0 ≤ i) (h1 : i < xs.length) : ∃ x, atZ xs i = some x ∧ xs[i.toNat]? = some x := by
  have e : ((i.toNat : Nat) : Int) = i := by omega
  have e2 := atZ_nat xs i.toNat
  rw [e] at e2
  have e3 : xs[i.toNat]? = some (xs[i.toNat]'(by omega)) := by simp
  exact ⟨_, e2.trans e3, e3⟩
theorem atZ_mem {xs : List α} {i : Int} {x : α} (h : atZ xs i = some x) : x ∈ xs := by
  unfold atZ at h
  obtain ⟨j, _, e⟩ := Option.bind_eq_some_iff.mp h
  exact List.mem_of_getElem? e
theorem lcG_all {c : α → Option Bool} {f : α → Option β} (p : α → Bool) (g : α → β) : ∀ {xs : List α}, (∀ x ∈ xs, c x = some (p x)) → (∀ x ∈ xs, p x = true → f x = some (g x)) → lcG c f xs = some ((xs.filter p).map g)
  | [], _, _ => rfl
  | x :: xs, h1, h2 => by
    have e := lcG_all p g (fun y hy => h1 y (List.mem_cons_of_mem _ hy)) fun y hy => h2 y (List.mem_cons_of_mem _ hy)
    show (c x).bind _ = _
    rw [h1 x List.mem_cons_self]
    cases hp : p x
    · simp [hp, e]
    · simp [hp, e, h2 x List.mem_cons_self hp]
theorem lc_all {c : α → Option Bool} {f : α → Option β} (p : α → Bool) (g : α → β) {xs : List α} (hl : xs.length < 10000000) (h1 : ∀ x ∈ xs, c x = some (p x)) (h2 : ∀ x ∈ xs, p x = true → f x = some (g x)) : lc c f xs = some ((xs.filter p).map g) := by
  unfold lc
  rw [if_pos hl]
  exact lcG_all p g h1 h2
theorem lc_map {f : α → Option β} (g : α → β) {xs : List α} (hl : xs.length < 10000000) (h2 : ∀ x ∈ xs, f x = some (g x)) : lc (fun _ => some true) f xs = some (xs.map g) := by
  rw [lc_all (fun _ => true) g hl (fun _ _ => rfl) fun x hx _ => h2 x hx]
  rw [List.filter_eq_self.mpr fun _ _ => rfl]
theorem modZ_pos {i j : Int} (h : 0 < j) : modZ i j = some (i % j) := if_pos h
theorem divZ_pos {i j : Int} (h : 0 < j) (h2 : j < 1073741824) : divZ i j = some (i / j) := if_pos ⟨h, h2⟩
theorem mulZ_r {i j : Int} (h : -1000000000000000000 < j) (h2 : j < 1000000000000000000) : mulZ i j = some (i * j) := if_pos (.inr (by omega))
theorem mulZ_l {i j : Int} (h : -1000000000000000000 < i) (h2 : i < 1000000000000000000) : mulZ i j = some (i * j) := if_pos (.inl (by omega))
theorem addL_ok {xs : List α} {y : α} (h : xs.length < 1000000) : addL xs y = some (xs ++ [y]) := if_pos (by omega)
theorem catL_ok {xs ys : List α} (h : xs.length + ys.length < 1000000) : catL xs ys = some (xs ++ ys) := if_pos (by omega)
theorem emod_bd (a : Int) {b : Int} (h : 0 < b) : 0 ≤ a % b ∧ a % b < b := ⟨Int.emod_nonneg _ (by omega), Int.emod_lt_of_pos _ h⟩
theorem cutZ_len (xs : List α) (lo hi : Option Int) : (cutZ xs lo hi).length ≤ xs.length := by
  unfold cutZ
  rw [List.length_take, List.length_drop]
  omega
theorem cutIx_nat (n d k : Nat) : cutIx n d (some (k : Int)) = min k n := by
  show (if (k : Int) < 0 then ((k : Int) + (n : Int)).toNat else min (k : Int).toNat n) = _
  rw [if_neg (by omega)]
  simp
theorem cutZ_upto (xs : List α) (k : Nat) : cutZ xs none (some (k : Int)) = xs.take k := by
  unfold cutZ
  rw [cutIx_nat]
  show List.take (min k xs.length - 0) (xs.drop 0) = _
  rw [List.drop_zero, Nat.sub_zero]
  by_cases h : k ≤ xs.length
  · rw [Nat.min_eq_left h]
  · rw [Nat.min_eq_right (by omega), List.take_of_length_le (Nat.le_refl _), List.take_of_length_le (by omega)]
theorem cutZ_from (xs : List α) (k : Nat) : cutZ xs (some (k : Int)) none = xs.drop k := by
  unfold cutZ
  rw [cutIx_nat]
  show List.take (xs.length - min k xs.length) _ = _
  rw [List.take_of_length_le (by rw [List.length_drop]; omega)]
  by_cases h : k ≤ xs.length
  · rw [Nat.min_eq_left h]
  · rw [Nat.min_eq_right (by omega), List.drop_of_length_le (Nat.le_refl _), List.drop_of_length_le (by omega)]
end Q
namespace Q
open Dv
variable {α β S R : Type}
/-- a loop by what is still to come -/
theorem loopG_rem {f : S → α → Option S} (I : List α → S → Prop) : ∀ {xs : List α} {s : S}, I xs s → (∀ x rest s, I (x :: rest) s → ∃ s', f s x = some s' ∧ I rest s') → ∃ s', loopG f s xs = some s' ∧ I [] s'
  | [], s, h, _ => ⟨s, rfl, h⟩
  | x :: xs, s, h, hs => by
    obtain ⟨s1, e1, h1⟩ := hs x xs s h
    obtain ⟨s2, e2, h2⟩ := loopG_rem I (xs := xs) h1 hs
    refine ⟨s2, ?_, h2⟩
    show (f s x).bind _ = _
    rw [e1]
    exact e2
theorem rng_lt {a b : Int} {xs : List Int} (h : rng a b = some xs) : xs.Pairwise (· < ·) := by
  unfold rng at h
  split at h
  · cases h
    rw [List.pairwise_map]
    exact List.Pairwise.imp (fun {i j} h => by omega) List.pairwise_lt_range
  · cases h
theorem pairwise_adj {r : α → α → Prop} (tr : ∀ a b c, r a b → r b c → r a c) : ∀ {l : List α}, (∀ k a b, l[k]? = some a → l[k + 1]? = some b → r a b) → l.Pairwise r
  | [], _ => .nil
  | [x], _ => by simp
  | x :: y :: l, h => by
    have ih := pairwise_adj tr (l := y :: l) fun k a b h1 h2 => h (k + 1) a b (by simpa using h1) (by simpa using h2)
    have h0 : r x y := h 0 x y rfl rfl
    refine List.pairwise_cons.mpr ⟨fun z hz => ?_, ih⟩
    rcases List.mem_cons.mp hz with rfl | hz
    · exact h0
    · exact tr _ _ _ h0 ((List.pairwise_cons.mp ih).1 z hz)
theorem pairwise_get {r : α → α → Prop} {l : List α} (h : l.Pairwise r) {i j : Nat} {a b : α} (hij : i < j) (ha : l[i]? = some a) (hb : l[j]? = some b) : r a b := by
  obtain ⟨h1, rfl⟩ := List.getElem?_eq_some_iff.mp ha
  obtain ⟨h2, rfl⟩ := List.getElem?_eq_some_iff.mp hb
  exact List.pairwise_iff_getElem.mp h i j h1 h2 hij
end Q
namespace Q
open Dv
variable {α β S R : Type}
/-- a loop that folds, by what is still to come -/
theorem loopG_fr {f : S → α → Option S} (g : S → α → S) (I : List α → S → Prop) : ∀ {xs : List α} {s : S}, I xs s → (∀ x rest s, I (x :: rest) s → f s x = some (g s x) ∧ I rest (g s x)) → loopG f s xs = some (xs.foldl g s) ∧ I [] (xs.foldl g s)
  | [], s, h, _ => ⟨rfl, h⟩
  | x :: xs, s, h, hs => by
    obtain ⟨e1, h1⟩ := hs x xs s h
    obtain ⟨e2, h2⟩ := loopG_fr g I (xs := xs) h1 hs
    refine ⟨?_, h2⟩
    show (f s x).bind _ = _
    rw [e1]
    exact e2
theorem loopG_eq {f : S → α → Option S} (g : S → α → S) {xs : List α} {s : S} (h : ∀ s x, x ∈ xs → f s x = some (g s x)) : loopG f s xs = some (xs.foldl g s) :=
  (loopG_fold g (fun _ => True) (xs := xs) (s := s) trivial fun s x _ hx => ⟨h s x hx, trivial⟩).1
end Q
namespace Q
open Dv
variable {α β S R : Type}
/-- ends, with such an answer -/
def Ok (m : Option α) (P : α → Prop) : Prop := ∃ x, m = some x ∧ P x
theorem Ok.mk {x : α} {P : α → Prop} (h : P x) : Ok (some x) P := ⟨x, rfl, h⟩
theorem Ok.imp {m : Option α} {P P' : α → Prop} (h : Ok m P) (k : ∀ x, P x → P' x) : Ok m P' := h.elim fun x h => ⟨x, h.1, k x h.2⟩
theorem Ok.of {m : Option α} {x : α} {P : α → Prop} (e : m = some x) (h : P x) : Ok m P := ⟨x, e, h⟩
theorem Ok.bind {m : Option α} {f : α → Option β} {P : α → Prop} {P' : β → Prop} (h : Ok m P) (k : ∀ x, P x → Ok (f x) P') : Ok (m.bind f) P' := by
  obtain ⟨x, e, hx⟩ := h
  obtain ⟨y, e2, hy⟩ := k x hx
  exact ⟨y, by rw [e]; exact e2, hy⟩
theorem Ok.get {m : Option α} {x : α} (h : Ok m fun y => y = x) : m = some x := h.elim fun y h => by rw [h.1, h.2]
/-- a step of a block -/
theorem stp {m : Option α} {f : α → Option β} {r : Option β} (P : α → Prop) (h : Ok m P) (k : ∀ x, P x → f x = r) : m.bind f = r := by
  obtain ⟨x, e, hx⟩ := h
  rw [e]
  exact k x hx
end Q
namespace Q
open Dv
variable {α β S R : Type}
/-- a loop by places -/
theorem loopG_ix {f : S → Int → Option S} (I : Nat → S → Prop) {s : S} (h0 : I 0 s) : ∀ {N : Nat}, (∀ i s, i < N → I i s → Ok (f s (i : Int)) (I (i + 1))) → Ok (loopG f s ((List.range N).map fun i => ((i : Nat) : Int))) (I N)
  | 0, _ => ⟨s, rfl, h0⟩
  | N + 1, h => by
    have app : ∀ (xs : List Int) (s0 s1 : S) (y : Int), loopG f s0 xs = some s1 → loopG f s0 (xs ++ [y]) = f s1 y := by
      intro xs
      induction xs with
      | nil =>
        intro s0 s1 y e
        cases e
        show (f s0 y).bind _ = _
        cases f s0 y <;> rfl
      | cons x xs ih =>
        intro s0 s1 y e
        obtain ⟨s2, e1, e2⟩ := Option.bind_eq_some_iff.mp (show (f s0 x).bind (fun s' => loopG f s' xs) = some s1 from e)
        show (f s0 x).bind (fun s' => loopG f s' (xs ++ [y])) = _
        rw [e1]
        exact ih s2 s1 y e2
    obtain ⟨s1, e1, i1⟩ := loopG_ix I h0 (N := N) fun i s hi => h i s (by omega)
    rw [List.range_succ, List.map_append, List.map_singleton]
    obtain ⟨s2, e2, i2⟩ := h N s1 (by omega) i1
    exact ⟨s2, by rw [app _ _ _ _ e1, e2], i2⟩
end Q
namespace Q
open Dv
/-- what holds of a turn's end -/
def StpP {S ρ : Type} (I : S → Prop) (Pr : ρ → Prop) : Stp S ρ → Prop
  | .go s => I s
  | .ret r => Pr r
theorem loopR_pre {α S ρ : Type} {f : S → α → Option (Stp S ρ)} (I : Nat → S → Prop) (Pr : ρ → Prop) : ∀ {xs : List α} {k : Nat} {s : S}, I k s → (∀ i s x, k ≤ i → xs[i - k]? = some x → I i s → Ok (f s x) (StpP (I (i + 1)) Pr)) →
    Ok (loopR f s xs) (StpP (I (k + xs.length)) Pr)
  | [], k, s, h, _ => ⟨.go s, rfl, h⟩
  | x :: xs, k, s, h, hs => by
    obtain ⟨st, e, hst⟩ := hs k s x (Nat.le_refl _) (by simp) h
    cases st with
    | go s1 =>
      obtain ⟨st2, e2, h2⟩ := loopR_pre I Pr (xs := xs) (k := k + 1) (s := s1) hst fun i s y hi hy hI => hs i s y (by omega) (by
        have : i - k = i - (k + 1) + 1 := by omega
        rw [this]
        simpa using hy) hI
      refine ⟨st2, ?_, by rw [List.length_cons, show k + (xs.length + 1) = k + 1 + xs.length by omega]; exact h2⟩
      show (f s x).bind _ = _
      rw [e]
      exact e2
    | ret r =>
      refine ⟨.ret r, ?_, hst⟩
      show (f s x).bind _ = _
      rw [e]
      rfl
theorem loopR_ix {S ρ : Type} {f : S → Int → Option (Stp S ρ)} (I : Nat → S → Prop) (Pr : ρ → Prop) {N : Nat} {s : S} (h0 : I 0 s) (hs : ∀ i s, i < N → I i s → Ok (f s (i : Int)) (StpP (I (i + 1)) Pr)) :
    Ok (loopR f s ((List.range N).map fun i => ((i : Nat) : Int))) (StpP (I N) Pr) := by
  have := loopR_pre (f := f) I Pr (xs := (List.range N).map fun i => ((i : Nat) : Int)) (k := 0) h0 fun i s x _ hx hI => by
    rw [Nat.sub_zero, List.getElem?_map] at hx
    by_cases c : i < N
    · rw [List.getElem?_range c] at hx
      cases hx
      exact hs i s c hI
    · rw [List.getElem?_eq_none (by simpa using c)] at hx
      cases hx
  simpa using this
end Q

set_option linter.all false
/-! Webs: drawn by a law, and looked at. -/
namespace Q
open Dv
def is_web (points : Int) (ties : List (Int × Int)) : Option Bool :=
  ((if (decide (points < 0)) = true then some true else (if (decide (7 < points)) = true then some true else some (decide (12 < (ties.length : Int)))))).bind fun b1 => if b1 = true then
    some false
  else
  (rng 0 (ties.length : Int)).bind fun xs2 => (loopR (S := Unit) (R := Bool) (fun (s3 : Unit) (q4 : Int) =>
      (atZ ties q4).bind fun p8 =>
      ((if (decide (p8.1 < 0)) = true then some true else (if (decide (p8.2 ≤ p8.1)) = true then some true else some (decide (points ≤ p8.2))))).bind fun b9 => if b9 = true then
        (some false).bind fun y10 => some (.ret y10)
      else
      ((if (decide (0 < q4)) = true then (atZ ties q4).bind fun y11 => (atZ ties (q4 - 1)).bind fun y12 => some (leP y11 y12) else some false)).bind fun b13 => if b13 = true then
        (some false).bind fun y14 => some (.ret y14)
      else
      some (.go ())) () xs2).bind fun st5 => st5.elim (fun s6 =>
  some true) (fun y7 => some y7)
def cell_at (script : List Int) (k : Int) : Option Int :=
  (some (decide (k < (script.length : Int)))).bind fun b15 => if b15 = true then
    atZ script k
  else
  some 0
def next (seed : Int) : Option Int :=
  ((mulZ seed 48271).bind fun y17 => some (y17 + 12345)).bind fun y18 => modZ y18 2147483647
def web_by (script : List Int) (k : Int) (most : Int) (cap : Int) : Option (Int × (List (Int × Int))) :=
  ((cell_at script k).bind fun y19 => modZ y19 (most + 1)).bind fun points_20 =>
  (((cell_at script (k + 1)).bind fun y21 => some (y21, ())).bind fun a22 => next a22.1).bind fun seed_23 =>
  (((cell_at script (k + 2)).bind fun y24 => modZ y24 4).bind fun y25 => some (1 + y25)).bind fun thick_26 =>
  (some []).bind fun ties_27 =>
  (rng 0 points_20).bind fun xs28 => (loopG (S := Int × (List (Int × Int))) (fun (s29 : Int × (List (Int × Int))) (q30 : Int) =>
      (rng (q30 + 1) points_20).bind fun xs34 => (loopG (S := Int × (List (Int × Int))) (fun (s35 : Int × (List (Int × Int))) (q36 : Int) =>
          ((
            ((((divZ s35.1 16).bind fun y45 => modZ y45 4).bind fun y46 => some (decide (y46 < thick_26))).bind fun y47 => (if y47 = true then some (decide ((s35.2.length : Int) < cap)) else some false)).bind fun b48 => if b48 = true then
              (addL s35.2 (q30, q36)).bind fun ties_49 =>
              some ties_49
            else
              some s35.2 : Option ((List (Int × Int))))).bind fun s44 =>
          (next s35.1).bind fun seed_50 =>
          some (seed_50, s44)) (s29.1, s29.2) xs34).bind fun s38 =>
      some (s38.1, s38.2)) (seed_23, ties_27) xs28).bind fun s32 =>
  some (points_20, s32.2)
/-- the order of ties -/
def ltT (a b : Int × Int) : Prop := a.1 < b.1 ∨ (a.1 = b.1 ∧ a.2 < b.2)
instance (a b : Int × Int) : Decidable (ltT a b) := inferInstanceAs (Decidable (_ ∨ _))
theorem ltT_trans (a b c : Int × Int) (h1 : ltT a b) (h2 : ltT b c) : ltT a c := by
  unfold ltT at *
  omega
theorem ltT_not_le (a b : Int × Int) : leP a b = false ↔ ltT b a := by
  unfold leP ltT
  split <;> simp only [decide_eq_false_iff_not] <;> omega
/-- a tie of p points -/
def Tie (p : Int) (t : Int × Int) : Prop := 0 ≤ t.1 ∧ t.1 < t.2 ∧ t.2 < p
instance (p : Int) (t : Int × Int) : Decidable (Tie p t) := inferInstanceAs (Decidable (_ ∧ _ ∧ _))
structure Ties (p : Int) (ts : List (Int × Int)) : Prop where
  tie : ∀ t ∈ ts, Tie p t
  ord : ts.Pairwise ltT
instance (p : Int) (ts : List (Int × Int)) : Decidable (Ties p ts) := decidable_of_iff ((∀ t ∈ ts, Tie p t) ∧ ts.Pairwise ltT) ⟨fun h => ⟨h.1, h.2⟩, fun h => ⟨h.1, h.2⟩⟩
def Web (p : Int) (ts : List (Int × Int)) : Prop := (0 ≤ p ∧ p ≤ 7) ∧ ts.length ≤ 12 ∧ Ties p ts
instance (p : Int) (ts : List (Int × Int)) : Decidable (Web p ts) := inferInstanceAs (Decidable (_ ∧ _ ∧ _))
def badAt (p : Int) (ts : List (Int × Int)) (k : Int) : Bool := match atZ ts k with
  | some t => decide (¬ Tie p t) || (decide (0 < k) && match atZ ts (k - 1) with
    | some u => leP t u
    | none => false)
  | none => false
theorem is_web_eq (p : Int) (ts : List (Int × Int)) (h : ts.length ≤ 1000) : is_web p ts = some (decide (Web p ts)) := by
  unfold is_web
  by_cases c : (p < 0 ∨ 7 < p) ∨ 12 < ts.length
  · have n : ¬ Web p ts := fun ⟨h1, h2, _⟩ => by omega
    have e : (if decide (p < 0) = true then some true else if decide (7 < p) = true then some true else some (decide (12 < (ts.length : Int)))) = some true := by
      by_cases h1 : p < 0
      · simp [h1]
      · by_cases h2 : 7 < p
        · simp [h1, h2]
        · have : 12 < (ts.length : Int) := by omega
          simp [h1, h2, this]
    rw [e, Option.bind_some, if_pos rfl, decide_eq_false n]
  · have e : (if decide (p < 0) = true then some true else if decide (7 < p) = true then some true else some (decide (12 < (ts.length : Int)))) = some false := by
      have h1 : ¬ p < 0 := by omega
      have h2 : ¬ 7 < p := by omega
      have h3 : ¬ 12 < (ts.length : Int) := by omega
      simp [h1, h2, h3]
    rw [e, Option.bind_some, if_neg Bool.false_ne_true, rng0 (by omega), Option.bind_some]
    rw [loopR_any (badAt p ts) false]
    · have key : ((List.range ts.length).map fun i => ((i : Nat) : Int)).any (badAt p ts) = decide (¬ Web p ts) := by
        rw [Bool.eq_iff_iff, List.any_eq_true, decide_eq_true_iff]
        constructor
        · rintro ⟨k, hk, hb⟩ ⟨_, _, w⟩
          obtain ⟨i, hi, rfl⟩ := List.mem_map.mp hk
          have hi := List.mem_range.mp hi
          unfold badAt at hb
          rw [atZ_nat] at hb
          have ei : ts[i]? = some ts[i] := by simp [hi]
          rw [ei] at hb
          simp only [Bool.or_eq_true, decide_eq_true_eq, Bool.and_eq_true] at hb
          rcases hb with hb | ⟨h0, hb⟩
          · exact hb (w.tie _ (List.mem_of_getElem? ei))
          · have e1 : ((i : Int) - 1) = ((i - 1 : Nat) : Int) := by omega
            rw [e1, atZ_nat] at hb
            have ej : ts[i - 1]? = some (ts[i - 1]'(by omega)) := by simp
            rw [ej] at hb
            have := (ltT_not_le _ _).mpr (pairwise_get w.ord (show i - 1 < i by omega) ej ei)
            dsimp only at hb
            rw [this] at hb
            cases hb
        · intro nw
          refine Decidable.byContradiction fun no => nw ⟨by omega, by omega, ?_⟩
          have all : ∀ i, i < ts.length → badAt p ts (i : Int) = false := fun i hi => by
            refine Bool.eq_false_iff.mpr fun q => no ⟨(i : Int), List.mem_map.mpr ⟨i, List.mem_range.mpr hi, rfl⟩, q⟩
          refine ⟨fun t ht => ?_, pairwise_adj ltT_trans fun k a b ha hb => ?_⟩
          · obtain ⟨i, hi⟩ := List.mem_iff_getElem?.mp ht
            have hl := (List.getElem?_eq_some_iff.mp hi).1
            have q := all i hl
            unfold badAt at q
            rw [atZ_nat, hi] at q
            simp only [Bool.or_eq_false_iff, decide_eq_false_iff_not, Decidable.not_not] at q
            exact q.1
          · have hl := (List.getElem?_eq_some_iff.mp hb).1
            have q := all (k + 1) hl
            unfold badAt at q
            rw [atZ_nat, hb] at q
            have e1 : (((k + 1 : Nat) : Int) - 1) = ((k : Nat) : Int) := by omega
            simp only [e1, atZ_nat, ha, Bool.or_eq_false_iff, Bool.and_eq_false_iff, decide_eq_false_iff_not] at q
            refine (ltT_not_le _ _).mp ?_
            rcases q.2 with q | q
            · omega
            · exact q
      rw [key]
      by_cases w : Web p ts
      · simp [w]
      · simp [w]
    · intro k hk
      obtain ⟨i, hi, rfl⟩ := List.mem_map.mp hk
      have hi := List.mem_range.mp hi
      obtain ⟨t, ei⟩ : ∃ t, ts[i]? = some t := ⟨ts[i], by simp [hi]⟩
      unfold badAt
      rw [atZ_nat, ei, Option.bind_some]
      by_cases ht : Tie p t
      · obtain ⟨h1, h2, h3⟩ := id ht
        have g1 : ¬ t.1 < 0 := by omega
        have g2 : ¬ t.2 ≤ t.1 := by omega
        have g3 : ¬ p ≤ t.2 := by omega
        simp only [g1, g2, g3, decide_false, Bool.false_eq_true, ↓reduceIte, Option.bind_some, ht, not_true_eq_false, Bool.false_or]
        by_cases h0 : 0 < (i : Int)
        · have e1 : ((i : Int) - 1) = ((i - 1 : Nat) : Int) := by omega
          have ej : ts[i - 1]? = some (ts[i - 1]'(by omega)) := by simp
          simp only [h0, decide_true, ↓reduceIte, e1, atZ_nat, ei, ej, Option.bind_some, Bool.true_and]
          split <;> rfl
        · simp only [h0, decide_false, Bool.false_eq_true, ↓reduceIte, Option.bind_some, Bool.false_and]
      · have e2 : (if decide (t.1 < 0) = true then some true else if decide (t.2 ≤ t.1) = true then some true else some (decide (p ≤ t.2))) = some true := by
          unfold Tie at ht
          by_cases g1 : t.1 < 0
          · simp [g1]
          · by_cases g2 : t.2 ≤ t.1
            · simp [g1, g2]
            · have g3 : p ≤ t.2 := by omega
              simp [g1, g2, g3]
        rw [e2, Option.bind_some, if_pos rfl]
        simp [ht]
def cell (ns : List Int) (k : Int) : Int := ns.getD k.toNat 0
theorem cell_at_eq (ns : List Int) {k : Int} (h : 0 ≤ k) : cell_at ns k = some (cell ns k) := by
  unfold cell_at cell
  rw [Option.bind_some]
  by_cases c : k < (ns.length : Int)
  · obtain ⟨x, e1, e2⟩ := atZ_get h c
    rw [decide_eq_true c, if_pos rfl, e1, List.getD_eq_getElem?_getD, e2]
    rfl
  · rw [decide_eq_false c, if_neg Bool.false_ne_true, List.getD_eq_getElem?_getD, List.getElem?_eq_none (by omega)]
    rfl
def nxt (s : Int) : Int := (s * 48271 + 12345) % 2147483647
theorem next_eq (s : Int) : next s = some (nxt s) := by
  unfold next nxt
  rw [mulZ_r (by decide) (by decide), Option.bind_some, Option.bind_some, modZ_pos (by decide)]
/-- what a turn of the inner loop keeps -/
structure Inn (p lo : Int) (cap : Int) (rem : List Int) (s : Int × List (Int × Int)) : Prop where
  tie : ∀ t ∈ s.2, Tie p t
  ord : s.2.Pairwise ltT
  len : (s.2.length : Int) ≤ max cap 0
  small : s.2.length ≤ 100000
  lt : ∀ t ∈ s.2, t.1 < lo ∨ (t.1 = lo ∧ ∀ y ∈ rem, t.2 < y)
  rp : rem.Pairwise (· < ·)
  bd : ∀ y ∈ rem, lo < y ∧ y < p
structure Out (p : Int) (cap : Int) (rem : List Int) (s : Int × List (Int × Int)) : Prop where
  tie : ∀ t ∈ s.2, Tie p t
  ord : s.2.Pairwise ltT
  len : (s.2.length : Int) ≤ max cap 0
  small : s.2.length ≤ 100000
  lt : ∀ t ∈ s.2, ∀ x ∈ rem, t.1 < x
  rp : rem.Pairwise (· < ·)
  bd : ∀ x ∈ rem, 0 ≤ x ∧ x < p
theorem web_by_spec (ns : List Int) {k most cap : Int} (hk : 0 ≤ k) (h0 : 0 ≤ most) (h1 : most ≤ 1000) (hc : cap ≤ 1000) :
    ∃ p ts, web_by ns k most cap = some (p, ts) ∧ (0 ≤ p ∧ p ≤ most) ∧ (ts.length : Int) ≤ max cap 0 ∧ Ties p ts := by
  unfold web_by
  rw [cell_at_eq ns hk, Option.bind_some, modZ_pos (by omega), Option.bind_some, cell_at_eq ns (show 0 ≤ k + 1 by omega), Option.bind_some, Option.bind_some, next_eq, Option.bind_some, cell_at_eq ns (show 0 ≤ k + 2 by omega), Option.bind_some, modZ_pos (by decide),
    Option.bind_some, Option.bind_some, Option.bind_some]
  obtain ⟨p0, p1⟩ := emod_bd (cell ns k) (show 0 < most + 1 by omega)
  generalize cell ns k % (most + 1) = p at *
  generalize 1 + cell ns (k + 2) % 4 = thick
  rw [rng_nat (by omega) (by omega) (by omega) (by omega), Option.bind_some]
  generalize hxs : (List.range (p - 0).toNat).map (fun i => (0 : Int) + (i : Nat)) = xs
  have hx : rng 0 p = some xs := by rw [rng_nat (by omega) (by omega) (by omega) (by omega), hxs]
  have L1 := fun hs => loopG_rem (f := (fun (s29 : Int × (List (Int × Int))) (q30 : Int) =>
      (rng (q30 + 1) p).bind fun xs34 => (loopG (S := Int × (List (Int × Int))) (fun (s35 : Int × (List (Int × Int))) (q36 : Int) =>
          ((
            ((((divZ s35.1 16).bind fun y45 => modZ y45 4).bind fun y46 => some (decide (y46 < thick))).bind fun y47 => (if y47 = true then some (decide ((s35.2.length : Int) < cap)) else some false)).bind fun b48 => if b48 = true then
              (addL s35.2 (q30, q36)).bind fun ties_49 =>
              some ties_49
            else
              some s35.2 : Option ((List (Int × Int))))).bind fun s44 =>
          (next s35.1).bind fun seed_50 =>
          some (seed_50, s44)) (s29.1, s29.2) xs34).bind fun s38 =>
      some (s38.1, s38.2))) (Out p cap) (xs := xs) (s := (nxt (cell ns (k + 1)), [])) ⟨by simp, by simp, by simp; omega, by simp, by simp, rng_lt hx, fun x hx' => by
      have := (mem_rng hx x).mp hx'
      omega⟩ hs
  refine Exists.elim (L1 ?_) ?_
  rotate_left
  · rintro s' ⟨e, o⟩
    rw [e, Option.bind_some]
    exact ⟨p, s'.2, rfl, by omega, o.len, o.tie, o.ord⟩
  · intro x rest s O
    obtain ⟨bx0, bx1⟩ := O.bd x List.mem_cons_self
    have hr : rng (x + 1) p = some ((List.range (p - (x + 1)).toNat).map fun i => (x + 1) + (i : Nat)) := rng_nat (by omega) (by omega) (by omega) (by omega)
    generalize hys : (List.range (p - (x + 1)).toNat).map (fun i => (x + 1) + ((i : Nat) : Int)) = ys at hr
    rw [hr, Option.bind_some]
    have L2 := fun hs => loopG_rem (f := (fun (s35 : Int × (List (Int × Int))) (q36 : Int) =>
          ((
            ((((divZ s35.1 16).bind fun y45 => modZ y45 4).bind fun y46 => some (decide (y46 < thick))).bind fun y47 => (if y47 = true then some (decide ((s35.2.length : Int) < cap)) else some false)).bind fun b48 => if b48 = true then
              (addL s35.2 (x, q36)).bind fun ties_49 =>
              some ties_49
            else
              some s35.2 : Option ((List (Int × Int))))).bind fun s44 =>
          (next s35.1).bind fun seed_50 =>
          some (seed_50, s44))) (Inn p x cap) (xs := ys) (s := (s.1, s.2)) ⟨O.tie, O.ord, O.len, O.small, fun t ht => .inl (O.lt t ht x List.mem_cons_self), rng_lt hr, fun y hy => by
        have := (mem_rng hr y).mp hy
        omega⟩ hs
    refine Exists.elim (L2 ?_) ?_
    rotate_left
    · rintro s2 ⟨e2, o2⟩
      rw [e2, Option.bind_some]
      refine ⟨_, rfl, o2.tie, o2.ord, o2.len, o2.small, fun t ht z hz => ?_, (List.pairwise_cons.mp O.rp).2, fun z hz => O.bd z (List.mem_cons_of_mem _ hz)⟩
      have hxz := (List.pairwise_cons.mp O.rp).1 z hz
      rcases o2.lt t ht with q | ⟨q, _⟩ <;> omega
    · intro y rest2 s3 O3
      obtain ⟨by0, by1⟩ := O3.bd y List.mem_cons_self
      have rest : ∀ t ∈ s3.2, t.1 < x ∨ (t.1 = x ∧ ∀ z ∈ rest2, t.2 < z) := fun t ht => by
        rcases O3.lt t ht with q | ⟨q1, q2⟩
        · exact .inl q
        · exact .inr ⟨q1, fun z hz => q2 z (List.mem_cons_of_mem _ hz)⟩
      rw [divZ_pos (by decide) (by decide), Option.bind_some, modZ_pos (by decide), Option.bind_some, Option.bind_some, next_eq]
      by_cases c1 : s3.1 / 16 % 4 < thick
      · by_cases c2 : (s3.2.length : Int) < cap
        · simp only [c1, c2, decide_true, ↓reduceIte, Option.bind_some]
          rw [addL_ok (by have := O3.small; omega), Option.bind_some, Option.bind_some]
          refine ⟨_, rfl, fun t ht => ?_, ?_, ?_, ?_, fun t ht => ?_, (List.pairwise_cons.mp O3.rp).2, fun z hz => O3.bd z (List.mem_cons_of_mem _ hz)⟩
          · rcases List.mem_append.mp ht with ht | ht
            · exact O3.tie t ht
            · rw [List.mem_singleton.mp ht]
              exact ⟨by dsimp only; omega, by dsimp only; omega, by dsimp only; omega⟩
          · refine List.pairwise_append.mpr ⟨O3.ord, by simp, fun a ha b hb => ?_⟩
            rw [List.mem_singleton.mp hb]
            rcases O3.lt a ha with q | ⟨q1, q2⟩
            · exact .inl q
            · exact .inr ⟨q1, q2 y List.mem_cons_self⟩
          · rw [List.length_append, List.length_singleton]
            omega
          · rw [List.length_append, List.length_singleton]
            omega
          · rcases List.mem_append.mp ht with ht | ht
            · exact rest t ht
            · rw [List.mem_singleton.mp ht]
              exact .inr ⟨rfl, (List.pairwise_cons.mp O3.rp).1⟩
        · simp only [c1, c2, decide_true, decide_false, ↓reduceIte, Option.bind_some, Bool.false_eq_true]
          exact ⟨_, rfl, O3.tie, O3.ord, O3.len, O3.small, rest, (List.pairwise_cons.mp O3.rp).2, fun z hz => O3.bd z (List.mem_cons_of_mem _ hz)⟩
      · simp only [c1, decide_false, ↓reduceIte, Option.bind_some, Bool.false_eq_true]
        exact ⟨_, rfl, O3.tie, O3.ord, O3.len, O3.small, rest, (List.pairwise_cons.mp O3.rp).2, fun z hz => O3.bd z (List.mem_cons_of_mem _ hz)⟩
end Q

set_option linter.all false
/-! A tie cut, a tie merged. -/
namespace Q
open Dv
def asked_web (points : Int) (ties : List (Int × Int)) : Rs Unit :=
  ((is_web points ties).bind fun y1 => some (!y1)).bind fun b2 => if b2 = true then
    some (.error .noWeb)
  else
  some (.ok ())
def without (ties : List (Int × Int)) (tie : Int × Int) : Option (List (Int × Int)) :=
  lc (fun (q3 : Int × Int) => some (!decide (q3 = tie))) (fun (q3 : Int × Int) => some q3) ties
def named (point : Int) (tie : Int × Int) : Option Int :=
  (some (decide (point = tie.2))).bind fun b5 => if b5 = true then
    some tie.1
  else
  (some (decide (tie.2 < point))).bind fun b6 => if b6 = true then
    some (point - 1)
  else
  some point
def put_together (ties : List (Int × Int)) (tie : Int × Int) : Option (List (Int × Int)) :=
  (some []).bind fun found_7 =>
  (without ties tie).bind fun xs8 => (loopG (S := (List (Int × Int))) (fun (s9 : (List (Int × Int))) (q10 : Int × Int) =>
      (named q10.1 tie).bind fun low_14 =>
      (named q10.2 tie).bind fun high_15 =>
      (putDZ s9 ((if high_15 < low_14 then high_15 else low_14), (if low_14 < high_15 then high_15 else low_14))).bind fun found_16 =>
      some found_16) found_7 xs8).bind fun s12 =>
  some (srt leP s12)
theorem asked_web_eq (p : Int) (ts : List (Int × Int)) (h : ts.length ≤ 1000) : asked_web p ts = some (if Web p ts then .ok () else .error .noWeb) := by
  unfold asked_web
  rw [is_web_eq p ts h]
  by_cases w : Web p ts <;> simp [w]
theorem asked_web_ok {p : Int} {ts : List (Int × Int)} (w : Web p ts) : asked_web p ts = some (.ok ()) := by
  rw [asked_web_eq p ts (by have := w.2.1; omega), if_pos w]
/-- the ties but one -/
def wo (ts : List (Int × Int)) (t : Int × Int) : List (Int × Int) := ts.filter fun u => !decide (u = t)
theorem without_eq (ts : List (Int × Int)) (t : Int × Int) (h : ts.length ≤ 1000) : without ts t = some (wo ts t) := by
  unfold without wo
  rw [lc_all (fun u => !decide (u = t)) (fun u => u) (by omega) (fun _ _ => rfl) fun _ _ _ => rfl]
  simp
theorem wo_len (ts : List (Int × Int)) (t : Int × Int) : (wo ts t).length ≤ ts.length := List.length_filter_le _ _
/-- a point's number behind the merging -/
def nm (t : Int × Int) (x : Int) : Int := if x = t.2 then t.1 else if t.2 < x then x - 1 else x
theorem named_eq (x : Int) (t : Int × Int) : named x t = some (nm t x) := by
  unfold named nm
  by_cases h1 : x = t.2
  · simp [h1]
  · by_cases h2 : t.2 < x <;> simp [h1, h2]
def mm (a b : Int) : Int × Int := (if b < a then b else a, if a < b then b else a)
/-- a tie behind the merging -/
def mt (t u : Int × Int) : Int × Int := mm (nm t u.1) (nm t u.2)
/-- each once, in the order in which they came -/
def uniq (l : List (Int × Int)) : List (Int × Int) := l.foldl putD []
/-- the ties of the web with t merged -/
def mg (ts : List (Int × Int)) (t : Int × Int) : List (Int × Int) := srt leP (uniq ((wo ts t).map (mt t)))
theorem putD_len (s : List (Int × Int)) (t : Int × Int) : (putD s t).length ≤ s.length + 1 := by
  unfold putD
  split
  · omega
  · simp
theorem put_together_eq (ts : List (Int × Int)) (t : Int × Int) (h : ts.length ≤ 1000) : put_together ts t = some (mg ts t) := by
  unfold put_together
  simp only [Option.bind_some]
  rw [without_eq ts t h, Option.bind_some]
  have hl := wo_len ts t
  have key : ∀ (l : List (Int × Int)) (s : List (Int × Int)), s.length + l.length ≤ 1000 → loopG (S := (List (Int × Int))) (fun (s31 : (List (Int × Int))) (q32 : Int × Int) =>
      (named q32.1 t).bind fun low_36 =>
      (named q32.2 t).bind fun high_37 =>
      (putDZ s31 ((if high_37 < low_36 then high_37 else low_36), (if low_36 < high_37 then high_37 else low_36))).bind fun found_38 =>
      some found_38) s l = some ((l.map (mt t)).foldl putD s) := by
    intro l
    induction l with
    | nil => intro s _; rfl
    | cons u l ih =>
      intro s hs
      rw [List.length_cons] at hs
      show ((named u.1 t).bind _).bind _ = _
      rw [named_eq, Option.bind_some, named_eq, Option.bind_some]
      have hp : putDZ s (mt t u) = some (putD s (mt t u)) := if_pos (by omega)
      show ((putDZ s (mt t u)).bind _).bind _ = _
      rw [hp, Option.bind_some, Option.bind_some, ih _ (by have := putD_len s (mt t u); omega)]
      rfl
  rw [key _ [] (by simp; omega), Option.bind_some]
  rfl
theorem putD_mem (s : List (Int × Int)) (t u : Int × Int) : u ∈ putD s t ↔ u ∈ s ∨ u = t := by
  unfold putD
  split
  · rename_i h
    constructor
    · exact .inl
    · rintro (h2 | rfl)
      · exact h2
      · exact h
  · simp
theorem putD_nodup {s : List (Int × Int)} (h : s.Nodup) (t : Int × Int) : (putD s t).Nodup := by
  unfold putD
  split
  · exact h
  · rename_i n
    refine List.nodup_append.mpr ⟨h, by simp, fun a ha b hb => ?_⟩
    rw [List.mem_singleton.mp hb]
    exact fun e => n (e ▸ ha)
theorem uniq_mem (l : List (Int × Int)) (u : Int × Int) : u ∈ uniq l ↔ u ∈ l := by
  have : ∀ (l s : List (Int × Int)), u ∈ l.foldl putD s ↔ u ∈ s ∨ u ∈ l := by
    intro l
    induction l with
    | nil => intro s; simp
    | cons x l ih =>
      intro s
      rw [List.foldl_cons, ih, putD_mem, List.mem_cons, or_assoc]
  have h := this l []
  simp only [List.not_mem_nil, false_or] at h
  exact h
theorem uniq_nodup (l : List (Int × Int)) : (uniq l).Nodup := by
  have : ∀ (l s : List (Int × Int)), s.Nodup → (l.foldl putD s).Nodup := by
    intro l
    induction l with
    | nil => intro s h; exact h
    | cons x l ih => intro s h; exact ih _ (putD_nodup h x)
  exact this l [] .nil
theorem uniq_len (l : List (Int × Int)) : (uniq l).length ≤ l.length := by
  have : ∀ (l s : List (Int × Int)), (l.foldl putD s).length ≤ s.length + l.length := by
    intro l
    induction l with
    | nil => intro s; simp
    | cons x l ih =>
      intro s
      have h1 := ih (putD s x)
      have h2 := putD_len s x
      rw [List.foldl_cons, List.length_cons]
      omega
  have h := this l []
  simp only [List.length_nil, Nat.zero_add] at h
  exact h
theorem mg_mem (ts : List (Int × Int)) (t u : Int × Int) : u ∈ mg ts t ↔ ∃ v ∈ ts, v ≠ t ∧ mt t v = u := by
  unfold mg
  rw [(srt_perm _).mem_iff, uniq_mem, List.mem_map]
  unfold wo
  constructor
  · rintro ⟨v, hv, e⟩
    rw [List.mem_filter] at hv
    exact ⟨v, hv.1, by simpa using hv.2, e⟩
  · rintro ⟨v, hv, hn, e⟩
    exact ⟨v, List.mem_filter.mpr ⟨hv, by simpa using hn⟩, e⟩
theorem mg_nodup (ts : List (Int × Int)) (t : Int × Int) : (mg ts t).Nodup := ((srt_perm _).nodup_iff).mpr (uniq_nodup _)
theorem mg_len (ts : List (Int × Int)) (t : Int × Int) : (mg ts t).length ≤ (wo ts t).length := by
  unfold mg
  rw [(srt_perm _).length_eq]
  have := uniq_len ((wo ts t).map (mt t))
  rw [List.length_map] at this
  exact this
theorem leP_ltT {a b : Int × Int} (h : leP a b = true) (n : a ≠ b) : ltT a b := by
  have n2 : ¬ (a.1 = b.1 ∧ a.2 = b.2) := fun z => n (Prod.ext z.1 z.2)
  unfold leP at h
  unfold ltT
  split at h <;> simp only [decide_eq_true_eq] at h <;> omega
theorem srt_ord {l : List (Int × Int)} (h : l.Nodup) : (srt leP l).Pairwise ltT := by
  have h1 := srt_sorted ordP l
  have h2 : (srt leP l).Nodup := ((srt_perm l).nodup_iff).mpr h
  exact List.Pairwise.imp₂ (fun a b q n => leP_ltT q n) h1 h2
end Q

set_option linter.all false
/-! The worth of a row at a number. -/
namespace Q
open Dv
def worth (numbers : List Int) (q : Int) : Option Int :=
  (some 0).bind fun total_1 =>
  (some numbers.reverse).bind fun xs2 => (loopG (S := Int) (fun (s3 : Int) (q4 : Int) =>
      ((mulZ s3 q).bind fun y8 => some (y8 + q4)).bind fun total_9 =>
      some total_9) total_1 xs2).bind fun s6 =>
  some s6
def at_ (numbers : List Int) (q : Int) : Option Int :=
  (some 0).bind fun total_10 =>
  (some 1).bind fun power_11 =>
  (some numbers).bind fun xs12 => (loopG (S := Int × Int) (fun (s13 : Int × Int) (q14 : Int) =>
      ((mulZ q14 s13.2).bind fun y18 => some (s13.1 + y18)).bind fun total_19 =>
      (mulZ s13.2 q).bind fun power_20 =>
      some (total_19, power_20)) (total_10, power_11) xs12).bind fun s16 =>
  some s16.1
def whole (found : Int) : Option Bool :=
  (if true = true then some (!false) else some false)
/-- x0 + x1 q + x2 q q .. -/
def ev : List Int → Int → Int
  | [], _ => 0
  | x :: xs, q => x + q * ev xs q
theorem worth_eq (xs : List Int) {q : Int} (h : -1000 ≤ q) (h2 : q ≤ 1000) : worth xs q = some (ev xs q) := by
  unfold worth
  simp only [Option.bind_some]
  have e := loopG_fold (f := fun (s3 : Int) (q4 : Int) => ((mulZ s3 q).bind fun y8 => some (y8 + q4)).bind fun total_9 => some total_9) (fun s x => s * q + x) (fun _ => True) (xs := xs.reverse) (s := 0) trivial
    (fun s x _ _ => ⟨by rw [mulZ_r (by omega) (by omega)]; rfl, trivial⟩)
  rw [e.1, Option.bind_some]
  congr 1
  rw [List.foldl_reverse]
  have : ∀ ys : List Int, ys.foldr (fun x s => s * q + x) 0 = ev ys q := fun ys => by
    induction ys with
    | nil => rfl
    | cons y ys ih =>
      show ys.foldr (fun x s => s * q + x) 0 * q + y = y + q * ev ys q
      rw [ih, Int.mul_comm, Int.add_comm]
  exact this xs
theorem pow_bd {a q : Int} {B : Nat} (h : a.natAbs ≤ B) (hq : q.natAbs ≤ 100) : (a * q).natAbs ≤ B * 100 := by
  rw [Int.natAbs_mul]
  exact Nat.mul_le_mul h hq
theorem at_loop (q : Int) (hq : q.natAbs ≤ 100) : ∀ (xs : List Int) (t pw : Int) (n : Nat), xs.length ≤ n → n ≤ 8 → pw.natAbs ≤ 100 ^ (8 - n) →
    loopG (S := Int × Int) (fun (s14 : Int × Int) (q15 : Int) =>
      ((mulZ q15 s14.2).bind fun y19 => some (s14.1 + y19)).bind fun total_20 =>
      (mulZ s14.2 q).bind fun power_21 =>
      some (total_20, power_21)) (t, pw) xs = some (t + pw * ev xs q, pw * q ^ xs.length)
  | [], t, pw, n, _, _, _ => by simp [loopG, ev]
  | x :: xs, t, pw, 0, h, _, _ => by simp at h
  | x :: xs, t, pw, n + 1, h, hn, hp => by
    have hp2 : pw.natAbs ≤ 100 ^ 7 := Nat.le_trans hp (Nat.pow_le_pow_right (by decide) (by omega))
    have h7 : (100 : Nat) ^ 7 = 100000000000000 := by decide
    rw [h7] at hp2
    have hb := pow_bd hp hq
    have e1 : 100 ^ (8 - (n + 1)) * 100 = 100 ^ (8 - n) := by
      rw [← Nat.pow_succ]
      congr 1
      omega
    rw [e1] at hb
    show ((((mulZ x pw).bind fun y19 => some (t + y19)).bind fun total_20 => (mulZ pw q).bind fun power_21 => some (total_20, power_21)).bind _) = _
    rw [mulZ_r (by omega) (by omega), Option.bind_some, Option.bind_some, mulZ_r (by omega) (by omega), Option.bind_some, Option.bind_some,
      at_loop q hq xs (t + x * pw) (pw * q) n (by simpa using h) (by omega) hb]
    congr 2
    · show t + x * pw + pw * q * ev xs q = t + pw * (x + q * ev xs q)
      rw [Int.mul_add, Int.mul_comm x pw, Int.mul_assoc, Int.add_assoc]
    · rw [List.length_cons, Int.pow_succ, Int.mul_assoc, Int.mul_comm (q ^ xs.length) q]
theorem at_eq (xs : List Int) {q : Int} (hl : xs.length ≤ 8) (h : -100 ≤ q) (h2 : q ≤ 100) : at_ xs q = some (ev xs q) := by
  unfold at_
  simp only [Option.bind_some]
  rw [at_loop q (by omega) xs 0 1 8 hl (by omega) (by decide)]
  simp
theorem whole_eq (n : Int) : whole n = some true := rfl
end Q

set_option linter.all false
/-! Sums over all lists of dyes. -/
namespace Q
open Dv
def sm : Nat → (Nat → Int) → Int
  | 0, _ => 0
  | n + 1, f => sm n f + f n
theorem sm_congr {f g : Nat → Int} : ∀ {n : Nat}, (∀ i, i < n → f i = g i) → sm n f = sm n g
  | 0, _ => rfl
  | n + 1, h => by
    show sm n f + f n = sm n g + g n
    rw [sm_congr fun i hi => h i (by omega), h n (by omega)]
theorem sm_zero : ∀ n : Nat, sm n (fun _ => 0) = 0
  | 0 => rfl
  | n + 1 => by
    show sm n (fun _ => 0) + 0 = 0
    rw [sm_zero n]
    rfl
theorem sm_add (f g : Nat → Int) : ∀ n : Nat, sm n (fun i => f i + g i) = sm n f + sm n g
  | 0 => rfl
  | n + 1 => by
    show sm n (fun i => f i + g i) + (f n + g n) = sm n f + f n + (sm n g + g n)
    rw [sm_add f g n]
    omega
theorem sm_sub (f g : Nat → Int) : ∀ n : Nat, sm n (fun i => f i - g i) = sm n f - sm n g
  | 0 => rfl
  | n + 1 => by
    show sm n (fun i => f i - g i) + (f n - g n) = sm n f + f n - (sm n g + g n)
    rw [sm_sub f g n]
    omega
theorem sm_mul (c : Int) (f : Nat → Int) : ∀ n : Nat, sm n (fun i => c * f i) = c * sm n f
  | 0 => by simp [sm]
  | n + 1 => by
    show sm n (fun i => c * f i) + c * f n = c * (sm n f + f n)
    rw [sm_mul c f n, Int.mul_add]
theorem sm_comm (f : Nat → Nat → Int) (m : Nat) : ∀ n : Nat, sm n (fun i => sm m (f i)) = sm m (fun j => sm n (fun i => f i j))
  | 0 => (sm_zero m).symm
  | n + 1 => by
    show sm n (fun i => sm m (f i)) + sm m (f n) = sm m (fun j => sm n (fun i => f i j) + f n j)
    rw [sm_comm f m n, sm_add]
theorem sm_one {f : Nat → Int} {k : Nat} : ∀ {n : Nat}, (∀ i, i < n → i ≠ k → f i = 0) → sm n f = if k < n then f k else 0
  | 0, _ => rfl
  | n + 1, h => by
    show sm n f + f n = _
    rw [sm_one (k := k) (n := n) fun i hi => h i (by omega)]
    by_cases c : k = n
    · subst c
      simp
    · rw [h n (by omega) (fun e => c e.symm)]
      by_cases d : k < n
      · have : k < n + 1 := by omega
        simp [d, this]
      · have : ¬ k < n + 1 := by omega
        simp [d, this]
theorem sm_nonneg {f : Nat → Int} : ∀ {n : Nat}, (∀ i, i < n → 0 ≤ f i) → 0 ≤ sm n f
  | 0, _ => Int.le_refl 0
  | n + 1, h => by
    show 0 ≤ sm n f + f n
    have h1 := sm_nonneg fun i (hi : i < n) => h i (by omega)
    have h2 := h n (by omega)
    omega
theorem sm_append (f : Nat → Int) (m : Nat) : ∀ n : Nat, sm (m + n) f = sm m f + sm n (fun i => f (m + i))
  | 0 => by simp [sm]
  | n + 1 => by
    show sm (m + n) f + f (m + n) = sm m f + (sm n (fun i => f (m + i)) + f (m + n))
    rw [sm_append f m n]
    omega
/-- m turns of n -/
theorem sm_block (f : Nat → Int) (n : Nat) : ∀ m : Nat, sm (n * m) f = sm m (fun a => sm n (fun b => f (n * a + b)))
  | 0 => rfl
  | m + 1 => by
    rw [Nat.mul_succ, sm_append, sm_block f n m]
    rfl
/-- the sum over all lists of n dyes below q -/
def S : Nat → Nat → (List Int → Int) → Int
  | 0, _, w => w []
  | n + 1, q, w => sm q fun c => S n q fun t => w ((c : Int) :: t)
/-- n dyes below q -/
def In (n q : Nat) (t : List Int) : Prop := t.length = n ∧ ∀ x ∈ t, 0 ≤ x ∧ x < q
theorem S_congr {q : Nat} : ∀ {n : Nat} {w w' : List Int → Int}, (∀ t, In n q t → w t = w' t) → S n q w = S n q w'
  | 0, _, _, h => h [] ⟨rfl, by simp⟩
  | n + 1, w, w', h => sm_congr fun c hc => S_congr fun t ht => h _ ⟨by simp [ht.1], fun x hx => by
      rcases List.mem_cons.mp hx with rfl | hx
      · omega
      · exact ht.2 x hx⟩
theorem S_add {q : Nat} : ∀ {n : Nat} (w w' : List Int → Int), S n q (fun t => w t + w' t) = S n q w + S n q w'
  | 0, _, _ => rfl
  | n + 1, w, w' => by
    show sm q (fun c => S n q fun t => w ((c : Int) :: t) + w' (c :: t)) = sm q _ + sm q _
    rw [← sm_add]
    exact sm_congr fun c _ => S_add _ _
theorem S_sub {q : Nat} : ∀ {n : Nat} (w w' : List Int → Int), S n q (fun t => w t - w' t) = S n q w - S n q w'
  | 0, _, _ => rfl
  | n + 1, w, w' => by
    show sm q (fun c => S n q fun t => w ((c : Int) :: t) - w' (c :: t)) = sm q _ - sm q _
    rw [← sm_sub]
    exact sm_congr fun c _ => S_sub _ _
theorem S_zero {q : Nat} : ∀ {n : Nat}, S n q (fun _ => 0) = 0
  | 0 => rfl
  | n + 1 => by
    show sm q (fun c => S n q fun t => 0) = 0
    rw [sm_congr fun c _ => S_zero (q := q) (n := n), sm_zero]
theorem S_mul {q : Nat} (a : Int) : ∀ {n : Nat} (w : List Int → Int), S n q (fun t => a * w t) = a * S n q w
  | 0, _ => rfl
  | n + 1, w => by
    show sm q (fun c => S n q fun t => a * w ((c : Int) :: t)) = a * sm q _
    rw [← sm_mul]
    exact sm_congr fun c _ => S_mul a _
theorem S_nonneg {q : Nat} : ∀ {n : Nat} {w : List Int → Int}, (∀ t, In n q t → 0 ≤ w t) → 0 ≤ S n q w
  | 0, _, h => h [] ⟨rfl, by simp⟩
  | n + 1, w, h => sm_nonneg fun c hc => S_nonneg fun t ht => h _ ⟨by simp [ht.1], fun x hx => by
      rcases List.mem_cons.mp hx with rfl | hx
      · omega
      · exact ht.2 x hx⟩
theorem sm_le_one {f : Nat → Int} {k : Nat} : ∀ {n : Nat}, k < n → (∀ i, i < n → 0 ≤ f i) → f k ≤ sm n f
  | n + 1, hk, h => by
    show f k ≤ sm n f + f n
    have h2 := h n (by omega)
    have h3 := sm_nonneg fun i (hi : i < n) => h i (by omega)
    by_cases c : k = n
    · subst c
      omega
    · have h1 := sm_le_one (k := k) (n := n) (by omega) fun i hi => h i (by omega)
      omega
theorem S_le_one {q : Nat} : ∀ {n : Nat} {w : List Int → Int}, (∀ t, In n q t → 0 ≤ w t) → ∀ t, In n q t → w t ≤ S n q w
  | 0, w, h, t, ht => by
    have : t = [] := List.length_eq_zero_iff.mp ht.1
    subst this
    exact Int.le_refl _
  | n + 1, w, h, [], ht => by simp [In] at ht
  | n + 1, w, h, x :: t, ht => by
    have hx := ht.2 x List.mem_cons_self
    have ht' : In n q t := ⟨by simpa using ht.1, fun y hy => ht.2 y (List.mem_cons_of_mem _ hy)⟩
    have hin : ∀ c : Nat, c < q → ∀ t, In n q t → In (n + 1) q ((c : Int) :: t) := fun c hc t ht => ⟨by simp [ht.1], fun y hy => by
      rcases List.mem_cons.mp hy with rfl | hy
      · omega
      · exact ht.2 y hy⟩
    have h1 := S_le_one (q := q) (n := n) (w := fun t => w (x :: t)) (fun t ht => by
      have e : ((x.toNat : Nat) : Int) = x := by omega
      rw [← e]
      exact h _ (hin x.toNat (by omega) t ht)) t ht'
    refine Int.le_trans h1 ?_
    have e : ((x.toNat : Nat) : Int) = x := by omega
    have := sm_le_one (f := fun c => S n q fun t => w ((c : Int) :: t)) (k := x.toNat) (n := q) (by omega) fun c hc => S_nonneg fun t ht => h _ (hin c hc t ht)
    rw [e] at this
    exact this
theorem S_sm {q : Nat} (f : Nat → List Int → Int) (m : Nat) : ∀ n : Nat, sm m (fun c => S n q (f c)) = S n q (fun t => sm m (fun c => f c t))
  | 0 => rfl
  | n + 1 => by
    show sm m (fun c => sm q fun d => S n q fun t => f c ((d : Int) :: t)) = sm q fun d => S n q fun t => sm m fun c => f c (d :: t)
    rw [sm_comm]
    exact sm_congr fun d _ => S_sm (fun c t => f c ((d : Int) :: t)) m n
/-- a dye put in at a place -/
def insA : Nat → Int → List Int → List Int
  | 0, c, t => c :: t
  | _ + 1, c, [] => [c]
  | v + 1, c, x :: t => x :: insA v c t
theorem S_ins {q : Nat} : ∀ {v n : Nat} (w : List Int → Int), v ≤ n → S (n + 1) q w = S n q (fun t => sm q fun c => w (insA v c t))
  | 0, n, w, _ => S_sm (fun c t => w ((c : Int) :: t)) q n
  | v + 1, 0, _, h => by omega
  | v + 1, n + 1, w, h => by
    show sm q (fun x => S (n + 1) q fun t => w ((x : Int) :: t)) = sm q fun x => S n q fun t => sm q fun c => w ((x : Int) :: insA v c t)
    exact sm_congr fun x _ => S_ins (v := v) (fun t => w ((x : Int) :: t)) (by omega)
/-- a point's dye -/
def gi (t : List Int) (x : Int) : Int := t.getD x.toNat 0
theorem gi_cons0 (c : Int) (t : List Int) : gi (c :: t) 0 = c := rfl
theorem insA_get (c : Int) : ∀ (v : Nat) (t : List Int), v ≤ t.length → ∀ x : Nat, (insA v c t).getD x 0 = if x < v then t.getD x 0 else if x = v then c else t.getD (x - 1) 0
  | 0, t, _, 0 => rfl
  | 0, t, _, x + 1 => by
    show (c :: t).getD (x + 1) 0 = _
    simp
  | v + 1, [], h, _ => by simp at h
  | v + 1, y :: t, h, 0 => by simp [insA]
  | v + 1, y :: t, h, x + 1 => by
    show (y :: insA v c t).getD (x + 1) 0 = _
    have ih := insA_get c v t (by simpa using h) x
    simp only [List.getD_cons_succ]
    rw [ih]
    by_cases h1 : x < v
    · simp [h1]
    · by_cases h2 : x = v
      · simp [h2]
      · simp only [h1, h2, ↓reduceIte, Nat.add_lt_add_iff_right, Nat.add_right_cancel_iff, Nat.add_sub_cancel]
        obtain ⟨z, rfl⟩ : ∃ z, x = z + 1 := ⟨x - 1, by omega⟩
        simp
theorem gi_ins {c : Int} {v : Nat} {t : List Int} (h : v ≤ t.length) {x : Int} (hx : 0 ≤ x) : gi (insA v c t) x = if x < v then gi t x else if x = v then c else gi t (x - 1) := by
  unfold gi
  rw [insA_get c v t h]
  by_cases h1 : x < v
  · have : x.toNat < v := by omega
    simp [h1, this]
  · by_cases h2 : x = v
    · subst h2
      simp
    · have h3 : ¬ x.toNat < v := by omega
      have h4 : ¬ x.toNat = v := by omega
      have h5 : (x - 1).toNat = x.toNat - 1 := by omega
      simp [h1, h2, h3, h4, h5]
theorem gi_in {n q : Nat} {t : List Int} (h : In n q t) {x : Int} (h0 : 0 ≤ x) (h1 : x < n) : 0 ≤ gi t x ∧ gi t x < q := by
  unfold gi
  have e : x.toNat < t.length := by
    have := h.1
    omega
  rw [List.getD_eq_getElem?_getD, List.getElem?_eq_getElem e]
  exact h.2 _ (List.getElem_mem e)
/-- both ends of a tie with one dye: the greater end is left out -/
theorem S_merge {n q : Nat} {u v : Int} (hu : 0 ≤ u) (huv : u < v) (hv : v < n + 1) (w : List Int → Int) :
    S (n + 1) q (fun t => if gi t u = gi t v then w t else 0) = S n q (fun t => w (insA v.toNat (gi t u) t)) := by
  rw [S_ins (v := v.toNat) _ (by omega)]
  refine S_congr fun t ht => ?_
  have hl : v.toNat ≤ t.length := by
    have := ht.1
    omega
  obtain ⟨b0, b1⟩ := gi_in ht hu (by omega)
  have e : ∀ c : Int, (if gi (insA v.toNat c t) u = gi (insA v.toNat c t) v then w (insA v.toNat c t) else 0) = if gi t u = c then w (insA v.toNat c t) else 0 := fun c => by
    rw [gi_ins hl hu, gi_ins hl (by omega)]
    have h1 : u < (v.toNat : Int) := by omega
    have h2 : ¬ v < (v.toNat : Int) := by omega
    have h3 : v = (v.toNat : Int) := by omega
    rw [if_pos h1, if_neg h2, if_pos h3]
  rw [sm_congr fun c _ => e c, sm_one (k := (gi t u).toNat)]
  · have e2 : ((gi t u).toNat : Int) = gi t u := by omega
    rw [if_pos (by omega), e2, if_pos rfl]
  · intro i _ hi
    exact if_neg fun z => hi (by omega)
end Q

set_option linter.all false
/-! The row of a web. -/
namespace Q
open Dv
def row_byF : Nat → Int → (List (Int × Int)) → Option (List Int)
  | 0, _, _ => none
  | n_ + 1, points, ties =>
  (some (decide ((ties.length : Int) = 0))).bind fun b1 => if b1 = true then
    ((rng 0 points).bind fun y4 => lc (fun (q2 : Int) => some true) (fun (q2 : Int) => some 0) y4).bind fun y5 => catL y5 [1]
  else
  (atZ ties (-1)).bind fun tie_6 =>
  (row_byF n_ points (cutZ ties none (some (-1)))).bind fun less_7 =>
  (((((put_together ties tie_6).bind fun y8 => some (y8, ())).bind fun y9 => some ((points - 1), y9)).bind fun a10 => row_byF n_ a10.1 a10.2.1).bind fun y11 => catL y11 [0]).bind fun other_12 =>
  (rng 0 (points + 1)).bind fun y17 => lc (fun (q13 : Int) => some true) (fun (q13 : Int) => (atZ less_7 q13).bind fun y14 => (atZ other_12 q13).bind fun y15 => some (y14 - y15)) y17
def row_by (points : Int) (ties : List (Int × Int)) : Option (List Int) := row_byF 20 points ties
def row (points : Int) (ties : List (Int × Int)) : Rs (List Int) :=
  (asked_web points ties).bind fun y18 => exB y18 fun _ =>
  (row_by points ties).bind fun y21 => some (.ok y21)
/-- a row of a web without its last tie, less another -/
def lessL (a b : List Int) : List Int := List.zipWith (fun x y => x - y) a b
/-- the row, with fuel -/
def R : Nat → Nat → List (Int × Int) → List Int
  | 0, _, _ => []
  | d + 1, n, ts => match ts.getLast? with
    | none => List.replicate n 0 ++ [1]
    | some t => lessL (R d n ts.dropLast) (R d (n - 1) (mg ts t) ++ [0])
theorem nm_bd {n : Int} {t : Int × Int} (h : Tie (n + 1) t) {x : Int} (h0 : 0 ≤ x) (h1 : x < n + 1) : 0 ≤ nm t x ∧ nm t x < n := by
  unfold Tie at h
  unfold nm
  split
  · omega
  · split <;> omega
theorem nm_inj {n : Int} {t : Int × Int} (h : Tie (n + 1) t) {x y : Int} (hxy : x < y) (hn : ¬ (x = t.1 ∧ y = t.2)) : nm t x ≠ nm t y := by
  unfold Tie at h
  unfold nm
  split
  · split
    · omega
    · split <;> omega
  · split
    · split
      · omega
      · split <;> omega
    · split
      · omega
      · split <;> omega
theorem mt_tie {n : Int} {t u : Int × Int} (h : Tie (n + 1) t) (hu : Tie (n + 1) u) (hn : u ≠ t) : Tie n (mt t u) := by
  have hu' := hu
  unfold Tie at hu'
  obtain ⟨a0, a1⟩ := nm_bd h (x := u.1) (by omega) (by omega)
  obtain ⟨b0, b1⟩ := nm_bd h (x := u.2) (by omega) (by omega)
  have ne := nm_inj h (x := u.1) (y := u.2) (by omega) fun z => hn (Prod.ext z.1 z.2)
  unfold mt mm Tie
  dsimp only
  split <;> split <;> omega
theorem mg_ties {n : Int} {ts : List (Int × Int)} {t : Int × Int} (h : Ties (n + 1) ts) (ht : Tie (n + 1) t) : Ties n (mg ts t) := by
  refine ⟨fun u hu => ?_, ?_⟩
  · obtain ⟨v, hv, hn, rfl⟩ := (mg_mem ts t u).mp hu
    exact mt_tie ht (h.tie v hv) hn
  · exact srt_ord (uniq_nodup _)
theorem Ties.nodup {p : Int} {ts : List (Int × Int)} (h : Ties p ts) : ts.Nodup :=
  List.Pairwise.imp (fun {a b} q e => by subst e; unfold ltT at q; omega) h.ord
theorem Ties.sub {p : Int} {ts us : List (Int × Int)} (h : Ties p ts) (s : us.Sublist ts) : Ties p us := ⟨fun t ht => h.tie t (s.subset ht), h.ord.sublist s⟩
theorem wo_last {ts : List (Int × Int)} {t : Int × Int} (h : (ts ++ [t]).Nodup) : wo (ts ++ [t]) t = ts := by
  unfold wo
  have h2 := List.nodup_append.mp h
  rw [List.filter_append, List.filter_eq_self.mpr fun u hu => ?_]
  · simp
  · have := h2.2.2 u hu t (by simp)
    simp [this]
theorem mg_last_len {ts : List (Int × Int)} {t : Int × Int} (h : (ts ++ [t]).Nodup) : (mg (ts ++ [t]) t).length ≤ ts.length := by
  have := mg_len (ts ++ [t]) t
  rw [wo_last h] at this
  exact this
theorem lessL_len {a b : List Int} {n : Nat} (ha : a.length = n) (hb : b.length = n) : (lessL a b).length = n := by
  unfold lessL
  rw [List.length_zipWith, ha, hb, Nat.min_self]
theorem R_len : ∀ {d n : Nat} {ts : List (Int × Int)}, Ties n ts → ts.length < d → (R d n ts).length = n + 1
  | 0, _, _, _, h => by omega
  | d + 1, n, ts, hT, h => by
    unfold R
    rcases List.eq_nil_or_concat ts with rfl | ⟨us, t, rfl⟩
    · simp
    · rw [List.concat_eq_append] at *
      rw [List.getLast?_append, List.getLast?_singleton]
      simp only [Option.some_or, List.dropLast_concat]
      rw [List.length_append, List.length_singleton] at h
      have ht := hT.tie t (by simp)
      have hn : 1 ≤ n := by unfold Tie at ht; omega
      obtain ⟨n, rfl⟩ : ∃ k, n = k + 1 := ⟨n - 1, by omega⟩
      refine lessL_len (R_len (hT.sub (List.sublist_append_left us [t])) (by omega)) ?_
      rw [List.length_append, List.length_singleton]
      have := mg_last_len hT.nodup
      rw [Nat.add_sub_cancel, R_len (mg_ties hT ht) (by omega)]
theorem zip_idx (a b : List Int) (h : a.length = b.length) : lessL a b = (List.range a.length).map fun i => a.getD i 0 - b.getD i 0 := by
  unfold lessL
  apply List.ext_getElem
  · simp [h]
  · intro i h1 h2
    simp at h1
    have ha : i < a.length := by omega
    have hb : i < b.length := by omega
    simp [List.getD_eq_getElem?_getD, ha, hb]
theorem atZ_getD (xs : List Int) {k : Nat} (h : k < xs.length) : atZ xs (k : Int) = some (xs.getD k 0) := by
  rw [atZ_nat, List.getD_eq_getElem?_getD]
  simp [h]
theorem less_eq {a b : List Int} {n : Nat} (ha : a.length = n + 1) (hb : b.length = n + 1) (hn : n ≤ 1000) :
    ((rng 0 ((n : Int) + 1)).bind fun y17 => lc (fun (q13 : Int) => some true) (fun (q13 : Int) => (atZ a q13).bind fun y14 => (atZ b q13).bind fun y15 => some (y14 - y15)) y17) = some (lessL a b) := by
  have e : ((n : Int) + 1) = ((n + 1 : Nat) : Int) := by omega
  rw [e, rng0 (by omega), Option.bind_some, lc_map (fun i => a.getD i.toNat 0 - b.getD i.toNat 0) (by simp; omega), zip_idx a b (by omega), ha, List.map_map]
  · congr 1
  · intro x hx
    obtain ⟨i, hi, rfl⟩ := List.mem_map.mp hx
    have := List.mem_range.mp hi
    rw [atZ_getD a (by omega), atZ_getD b (by omega)]
    simp
theorem zeros_eq {n : Nat} (hn : n ≤ 1000) : ((rng 0 (n : Int)).bind fun y => lc (fun (q : Int) => some true) (fun (q : Int) => some (0 : Int)) y) = some (List.replicate n 0) := by
  rw [rng0 (by omega), Option.bind_some, lc_map (fun _ => 0) (by simp; omega) fun _ _ => rfl]
  congr 1
  rw [List.map_map]
  apply List.ext_getElem
  · simp
  · intro i h1 h2
    simp
theorem cut_last (ts : List (Int × Int)) (t : Int × Int) : cutZ (ts ++ [t]) none (some (-1)) = ts := by
  unfold cutZ
  have e : cutIx (ts ++ [t]).length (ts ++ [t]).length (some (-1)) = ts.length := by
    unfold cutIx
    dsimp only
    rw [if_pos (by omega), List.length_append, List.length_singleton]
    omega
  rw [e]
  show List.take (ts.length - 0) (List.drop 0 _) = _
  simp
theorem at_last {α : Type} (ts : List α) (t : α) : atZ (ts ++ [t]) (-1) = some t := by
  unfold atZ ixZ
  rw [if_neg (by omega), if_pos (by rw [List.length_append, List.length_singleton]; omega), Option.bind_some, List.length_append, List.length_singleton]
  have e : (-1 + ((ts.length + 1 : Nat) : Int)).toNat = ts.length := by omega
  rw [e]
  simp
theorem row_byF_eq : ∀ {d n : Nat} {ts : List (Int × Int)}, Ties n ts → ts.length < d → d ≤ 100 → n ≤ 100 → row_byF d n ts = some (R d n ts)
  | 0, _, _, _, h, _, _ => by omega
  | d + 1, n, ts, hT, h, hd, hn' => by
    unfold row_byF R
    rcases List.eq_nil_or_concat ts with rfl | ⟨us, t, rfl⟩
    · simp only [List.length_nil, Option.bind_some]
      rw [if_pos (by simp), zeros_eq (by omega), Option.bind_some, catL_ok (by simp; omega)]
      simp
    · rw [List.concat_eq_append] at *
      rw [List.getLast?_append, List.getLast?_singleton]
      simp only [Option.some_or, List.dropLast_concat]
      have hl : (us ++ [t]).length = us.length + 1 := by simp
      rw [hl] at h
      have ht := hT.tie t (by simp)
      have hn : 1 ≤ n := by unfold Tie at ht; omega
      obtain ⟨n, rfl⟩ : ∃ k, n = k + 1 := ⟨n - 1, by omega⟩
      have hm := mg_last_len hT.nodup
      have hs := hT.sub (List.sublist_append_left us [t])
      have hg := mg_ties (n := (n : Int)) hT ht
      rw [Option.bind_some, if_neg (by simp; omega), at_last, Option.bind_some, cut_last, row_byF_eq hs (by omega) (by omega) (by omega), Option.bind_some, put_together_eq _ _ (by omega)]
      simp only [Option.bind_some]
      have e : (((n + 1 : Nat) : Int) - 1) = (n : Int) := by omega
      rw [e, row_byF_eq hg (by omega) (by omega) (by omega), Option.bind_some]
      have l1 := R_len (d := d) hs (by omega)
      have l2 := R_len (d := d) hg (by omega)
      rw [catL_ok (by rw [l2]; simp; omega), Option.bind_some]
      exact less_eq l1 (by simp [l2]) (by omega)
/-- the row of a web of p points -/
def Rw (p : Int) (ts : List (Int × Int)) : List Int := R 20 p.toNat ts
theorem row_by_eq {p : Int} {ts : List (Int × Int)} (w : Web p ts) : row_by p ts = some (Rw p ts) := by
  unfold row_by Rw
  obtain ⟨⟨h0, h1⟩, h2, h3⟩ := w
  have e : ((p.toNat : Nat) : Int) = p := by omega
  have := row_byF_eq (d := 20) (n := p.toNat) (ts := ts) (by rw [e]; exact h3) (by omega) (by omega) (by omega)
  rw [e] at this
  exact this
theorem row_eq {p : Int} {ts : List (Int × Int)} (w : Web p ts) : row p ts = some (.ok (Rw p ts)) := by
  unfold row
  rw [asked_web_ok w, Option.bind_some, exB_ok, row_by_eq w]
  rfl
theorem row_no {p : Int} {ts : List (Int × Int)} (h : ts.length ≤ 1000) (w : ¬ Web p ts) : row p ts = some (.error .noWeb) := by
  unfold row
  rw [asked_web_eq p ts h, if_neg w]
  rfl
theorem Rw_len {p : Int} {ts : List (Int × Int)} (w : Web p ts) : (Rw p ts).length = p.toNat + 1 := by
  obtain ⟨⟨h0, h1⟩, h2, h3⟩ := w
  have e : ((p.toNat : Nat) : Int) = p := by omega
  exact R_len (by rw [e]; exact h3) (by omega)
end Q
namespace Q
open Dv
theorem lessL_getD : ∀ {a b : List Int} (h : a.length = b.length) (i : Nat), (lessL a b).getD i 0 = a.getD i 0 - b.getD i 0
  | [], [], _, i => by simp [lessL]
  | x :: a, y :: b, h, 0 => rfl
  | x :: a, y :: b, h, i + 1 => lessL_getD (a := a) (b := b) (by simpa using h) i
  | [], _ :: _, h, _ => by simp at h
  | _ :: _, [], h, _ => by simp at h
theorem snoc0_getD (a : List Int) (i : Nat) : (a ++ [0]).getD i 0 = a.getD i 0 := by
  by_cases hi : i < a.length
  · rw [List.getD_eq_getElem?_getD, List.getD_eq_getElem?_getD, List.getElem?_append_left hi]
  · by_cases h2 : i = a.length
    · subst h2
      simp [List.getD_eq_getElem?_getD]
    · have h3 : ¬ i < a.length + 1 := by omega
      rw [List.getD_eq_getElem?_getD, List.getD_eq_getElem?_getD, List.getElem?_eq_none (by simp; omega), List.getElem?_eq_none (by omega)]
theorem getD_over {a : List Int} {i : Nat} (h : a.length ≤ i) : a.getD i 0 = 0 := by
  rw [List.getD_eq_getElem?_getD, List.getElem?_eq_none h]
  rfl
/-- what the row of a web with a tie is -/
theorem R_snoc {d n : Nat} {us : List (Int × Int)} {t : Int × Int} (hT : Ties ((n + 1 : Nat) : Int) (us ++ [t])) (h : us.length < d) :
    Ties ((n + 1 : Nat) : Int) us ∧ Ties (n : Int) (mg (us ++ [t]) t) ∧ (mg (us ++ [t]) t).length < d ∧ R (d + 1) (n + 1) (us ++ [t]) = lessL (R d (n + 1) us) (R d n (mg (us ++ [t]) t) ++ [0]) ∧
      (R d (n + 1) us).length = n + 2 ∧ (R d n (mg (us ++ [t]) t)).length = n + 1 := by
  have ht := hT.tie t (by simp)
  have hm := mg_last_len hT.nodup
  have hs := hT.sub (List.sublist_append_left us [t])
  have hg := mg_ties (n := (n : Int)) hT ht
  refine ⟨hs, hg, by omega, ?_, R_len hs h, R_len hg (by omega)⟩
  rw [R, List.getLast?_append, List.getLast?_singleton]
  simp only [Option.some_or, List.dropLast_concat, Nat.add_sub_cancel]
theorem R_ind {P : Nat → Nat → List (Int × Int) → Prop} (h0 : ∀ d n, P (d + 1) n [])
    (h1 : ∀ d n us t, Ties ((n + 1 : Nat) : Int) (us ++ [t]) → us.length < d → Ties ((n + 1 : Nat) : Int) us → Ties (n : Int) (mg (us ++ [t]) t) → (mg (us ++ [t]) t).length < d → P d (n + 1) us → P d n (mg (us ++ [t]) t) → P (d + 1) (n + 1) (us ++ [t])) :
    ∀ {d n : Nat} {ts : List (Int × Int)}, Ties n ts → ts.length < d → P d n ts
  | 0, _, _, _, h => by omega
  | d + 1, n, ts, hT, h => by
    rcases List.eq_nil_or_concat ts with rfl | ⟨us, t, rfl⟩
    · exact h0 d n
    · rw [List.concat_eq_append] at *
      rw [List.length_append, List.length_singleton] at h
      have ht := hT.tie t (by simp)
      have hn : 1 ≤ n := by unfold Tie at ht; omega
      obtain ⟨n, rfl⟩ : ∃ k, n = k + 1 := ⟨n - 1, by omega⟩
      obtain ⟨hs, hg, hm, _⟩ := R_snoc hT (d := d) (by omega)
      exact h1 d n us t hT (by omega) hs hg hm (R_ind h0 h1 hs (by omega)) (R_ind h0 h1 hg hm)
theorem R_nil (d n : Nat) : R (d + 1) n [] = List.replicate n 0 ++ [1] := rfl
theorem R_last {d n : Nat} {ts : List (Int × Int)} (hT : Ties n ts) (h : ts.length < d) : (R d n ts).getD n 0 = 1 := by
  refine R_ind (P := fun d n ts => (R d n ts).getD n 0 = 1) ?_ ?_ hT h
  · intro d n
    rw [R_nil, List.getD_eq_getElem?_getD]
    simp
  · intro d n us t hT hl hs hg hm i1 i2
    obtain ⟨_, _, _, e, l1, l2⟩ := R_snoc hT hl
    rw [e, lessL_getD (by rw [List.length_append, l1, l2]; rfl), snoc0_getD, i1, getD_over (by omega)]
    rfl
end Q
namespace Q
open Dv
/-- from the last number on downwards, not below and not above nought in turns -/
theorem R_sign {d n : Nat} {ts : List (Int × Int)} (hT : Ties n ts) (h : ts.length < d) : ∀ m, m ≤ n → (m % 2 = 0 → 0 ≤ (R d n ts).getD (n - m) 0) ∧ (m % 2 = 1 → (R d n ts).getD (n - m) 0 ≤ 0) := by
  refine R_ind (P := fun d n ts => ∀ m, m ≤ n → (m % 2 = 0 → 0 ≤ (R d n ts).getD (n - m) 0) ∧ (m % 2 = 1 → (R d n ts).getD (n - m) 0 ≤ 0)) ?_ ?_ hT h
  · intro d n m hm
    rw [R_nil, List.getD_eq_getElem?_getD]
    by_cases z : m = 0
    · subst z
      simp
    · have : n - m < n := by omega
      rw [List.getElem?_append_left (by simpa using this)]
      simp [this]
  · intro d n us t hT hl hs hg hm i1 i2 m hmn
    obtain ⟨_, _, _, e, l1, l2⟩ := R_snoc hT hl
    rw [e, lessL_getD (by rw [List.length_append, l1, l2]; rfl), snoc0_getD]
    have a := i1 m hmn
    by_cases z : m = 0
    · subst z
      have e : (R d n (mg (us ++ [t]) t)).getD (n + 1 - 0) 0 = 0 := getD_over (by omega)
      rw [e]
      omega
    · have b := i2 (m - 1) (by omega)
      have e : n - (m - 1) = n + 1 - m := by omega
      rw [e] at b
      omega
end Q

set_option linter.all false
/-! Dyeings counted: the row's worth at each number of dyes. -/
namespace Q
open Dv
def tints_by (points : Int) (number : Int) (many : Int) : Option (List Int) :=
  (some ([] : List Int)).bind fun tints_1 =>
  (rng 0 points).bind fun xs2 => (loopG (S := Int × (List Int)) (fun (s3 : Int × (List Int)) (q4 : Int) =>
      ((modZ s3.1 many).bind fun y8 => addL s3.2 y8).bind fun tints_9 =>
      (divZ s3.1 many).bind fun number_10 =>
      some (number_10, tints_9)) (number, tints_1) xs2).bind fun s6 =>
  some s6.2
def many_tints (points : Int) (many : Int) : Option Int :=
  (some 1).bind fun found_11 =>
  (rng 0 points).bind fun xs12 => (loopG (S := Int) (fun (s13 : Int) (q14 : Int) =>
      (mulZ s13 many).bind fun found_18 =>
      some found_18) found_11 xs12).bind fun s16 =>
  some s16
def fits (ties : List (Int × Int)) (tints : List Int) : Option Bool :=
  (some ties).bind fun xs19 => (loopR (S := Unit) (R := Bool) (fun (s20 : Unit) (q21 : Int × Int) =>
      ((atZ tints q21.1).bind fun y25 => (atZ tints q21.2).bind fun y26 => some (decide (y25 = y26))).bind fun b27 => if b27 = true then
        (some false).bind fun y28 => some (.ret y28)
      else
      some (.go ())) () xs19).bind fun st22 => st22.elim (fun s23 =>
  some true) (fun y24 => some y24)
def count_ (points : Int) (ties : List (Int × Int)) (many : Int) : Option Int :=
  (some (decide (many = 0))).bind fun b29 => if b29 = true then
    some (if (decide (points = 0)) = true then (1 : Int) else 0)
  else
  (some 0).bind fun found_30 =>
  ((many_tints points many).bind fun y31 => rng 0 y31).bind fun xs32 => (loopG (S := Int) (fun (s33 : Int) (q34 : Int) =>
      ((((tints_by points q34 many).bind fun y38 => some (y38, ())).bind fun y39 => some (ties, y39)).bind fun a40 => fits a40.1 a40.2.1).bind fun b41 => if b41 = true then
        (some (s33 + 1)).bind fun found_42 =>
        some found_42
      else
        some s33) found_30 xs32).bind fun s36 =>
  some s36
def fitsB (ts : List (Int × Int)) (l : List Int) : Bool := ts.all fun e => !decide (gi l e.1 = gi l e.2)
theorem fitsB_iff (ts : List (Int × Int)) (l : List Int) : fitsB ts l = true ↔ ∀ e ∈ ts, gi l e.1 ≠ gi l e.2 := by
  unfold fitsB
  rw [List.all_eq_true]
  exact ⟨fun h e he => by simpa using h e he, fun h e he => by simpa using h e he⟩
/-- how many dyeings of n points with q dyes -/
def col (n q : Nat) (ts : List (Int × Int)) : Int := S n q fun l => if fitsB ts l = true then 1 else 0
theorem gi_nm {u v : Int} (hu : 0 ≤ u) (huv : u < v) {l : List Int} (hl : v ≤ l.length) {x : Int} (hx : 0 ≤ x) : gi (insA v.toNat (gi l u) l) x = gi l (nm (u, v) x) := by
  rw [gi_ins (by omega) hx]
  unfold nm
  dsimp only
  by_cases h1 : x < (v.toNat : Int)
  · have h2 : ¬ x = v := by omega
    have h3 : ¬ v < x := by omega
    rw [if_pos h1, if_neg h2, if_neg h3]
  · by_cases h2 : x = (v.toNat : Int)
    · have h3 : x = v := by omega
      rw [if_neg h1, if_pos h2, if_pos h3]
    · have h3 : ¬ x = v := by omega
      have h4 : v < x := by omega
      rw [if_neg h1, if_neg h2, if_neg h3, if_pos h4]
theorem gi_mm (l : List Int) (a b : Int) : (gi l (mm a b).1 ≠ gi l (mm a b).2) ↔ gi l a ≠ gi l b := by
  unfold mm
  by_cases h : b < a
  · have h2 : ¬ a < b := by omega
    simp only [h, h2, ↓reduceIte]
    exact ⟨fun z e => z e.symm, fun z e => z e.symm⟩
  · by_cases h2 : a < b
    · simp only [h, h2, ↓reduceIte]
    · have : a = b := by omega
      subst this
      simp
theorem fits_mg {n : Int} {ts : List (Int × Int)} {t : Int × Int} (hT : Ties (n + 1) ts) (ht : Tie (n + 1) t) {l : List Int} (hl : (l.length : Int) = n) :
    fitsB (wo ts t) (insA t.2.toNat (gi l t.1) l) = fitsB (mg ts t) l := by
  rw [Bool.eq_iff_iff, fitsB_iff, fitsB_iff]
  have ht' := ht
  unfold Tie at ht'
  have key : ∀ e ∈ ts, (gi (insA t.2.toNat (gi l t.1) l) e.1 ≠ gi (insA t.2.toNat (gi l t.1) l) e.2 ↔ gi l (mt t e).1 ≠ gi l (mt t e).2) := fun e he => by
    have h := hT.tie e he
    unfold Tie at h
    rw [gi_nm (by omega) (by omega) (by omega) (by omega), gi_nm (by omega) (by omega) (by omega) (by omega)]
    exact (gi_mm l _ _).symm
  constructor
  · intro h u hu
    obtain ⟨v, hv, hn, rfl⟩ := (mg_mem ts t u).mp hu
    refine (key v hv).mp (h v ?_)
    unfold wo
    exact List.mem_filter.mpr ⟨hv, by simpa using hn⟩
  · intro h v hv
    unfold wo at hv
    have := List.mem_filter.mp hv
    exact (key v this.1).mpr (h _ ((mg_mem ts t _).mpr ⟨v, this.1, by simpa using this.2, rfl⟩))
theorem fits_split {ts : List (Int × Int)} {t : Int × Int} (h : t ∈ ts) (l : List Int) : fitsB ts l = (fitsB (wo ts t) l && !decide (gi l t.1 = gi l t.2)) := by
  rw [Bool.eq_iff_iff, Bool.and_eq_true, fitsB_iff, fitsB_iff]
  constructor
  · intro a
    refine ⟨fun e he => a e ?_, by simpa using a t h⟩
    unfold wo at he
    exact (List.mem_filter.mp he).1
  · rintro ⟨a, b⟩ e he
    by_cases c : e = t
    · subst c
      simpa using b
    · exact a e (by unfold wo; exact List.mem_filter.mpr ⟨he, by simpa using c⟩)
/-- a tie cut, a tie merged -/
theorem col_dc {n q : Nat} {ts : List (Int × Int)} {t : Int × Int} (hT : Ties ((n : Int) + 1) ts) (h : t ∈ ts) : col (n + 1) q ts = col (n + 1) q (wo ts t) - col n q (mg ts t) := by
  have ht := hT.tie t h
  have ht' := ht
  unfold Tie at ht'
  unfold col
  have e1 : S (n + 1) q (fun l => if fitsB ts l = true then (1 : Int) else 0) = S (n + 1) q (fun l => (if fitsB (wo ts t) l = true then (1 : Int) else 0) - (if gi l t.1 = gi l t.2 then (if fitsB (wo ts t) l = true then 1 else 0) else 0)) := by
    refine S_congr fun l _ => ?_
    rw [fits_split h l]
    by_cases a : fitsB (wo ts t) l = true <;> by_cases b : gi l t.1 = gi l t.2 <;> simp [a, b]
  rw [e1, S_sub, S_merge (by omega) (by omega) (by omega)]
  congr 1
  refine S_congr fun l hl => ?_
  rw [fits_mg hT ht (by rw [hl.1])]
theorem ev_lessL : ∀ {a b : List Int} (q : Int), a.length = b.length → ev (lessL a b) q = ev a q - ev b q
  | [], [], _, _ => rfl
  | x :: a, y :: b, q, h => by
    show (x - y) + q * ev (lessL a b) q = x + q * ev a q - (y + q * ev b q)
    rw [ev_lessL q (by simpa using h), Int.mul_sub]
    omega
  | [], _ :: _, _, h => by simp at h
  | _ :: _, [], _, h => by simp at h
theorem ev_snoc0 : ∀ (a : List Int) (q : Int), ev (a ++ [0]) q = ev a q
  | [], q => by simp [ev]
  | x :: a, q => by
    show x + q * ev (a ++ [0]) q = x + q * ev a q
    rw [ev_snoc0 a q]
theorem ev_one (q : Int) : ∀ n : Nat, ev (List.replicate n 0 ++ [1]) q = q ^ n
  | 0 => by simp [ev]
  | n + 1 => by
    rw [List.replicate_succ, List.cons_append]
    show 0 + q * ev (List.replicate n 0 ++ [1]) q = _
    rw [ev_one q n, Int.pow_succ, Int.zero_add, Int.mul_comm]
theorem sm_const (c : Int) : ∀ n : Nat, sm n (fun _ => c) = n * c
  | 0 => by simp [sm]
  | n + 1 => by
    show sm n (fun _ => c) + c = _
    rw [sm_const c n, Int.natCast_add, Int.add_mul]
    simp
theorem S_one (q : Nat) : ∀ n : Nat, S n q (fun _ => 1) = (q : Int) ^ n
  | 0 => rfl
  | n + 1 => by
    show sm q (fun c => S n q fun t => 1) = _
    rw [sm_congr fun c _ => S_one q n, sm_const, Int.pow_succ, Int.mul_comm]
theorem col_nil (n q : Nat) : col n q [] = (q : Int) ^ n := S_one q n
theorem ev_R {q : Nat} : ∀ {d n : Nat} {ts : List (Int × Int)}, Ties n ts → ts.length < d → ev (R d n ts) q = col n q ts
  | 0, _, _, _, h => by omega
  | d + 1, n, ts, hT, h => by
    unfold R
    rcases List.eq_nil_or_concat ts with rfl | ⟨us, t, rfl⟩
    · rw [col_nil]
      exact ev_one q n
    · rw [List.concat_eq_append] at *
      rw [List.getLast?_append, List.getLast?_singleton]
      simp only [Option.some_or, List.dropLast_concat]
      rw [List.length_append, List.length_singleton] at h
      have ht := hT.tie t (by simp)
      have hn : 1 ≤ n := by unfold Tie at ht; omega
      obtain ⟨n, rfl⟩ : ∃ k, n = k + 1 := ⟨n - 1, by omega⟩
      have hm := mg_last_len hT.nodup
      have hs := hT.sub (List.sublist_append_left us [t])
      have hg := mg_ties (n := (n : Int)) hT ht
      have l1 := R_len (d := d) hs (by omega)
      have l2 := R_len (d := d) hg (by omega)
      rw [col_dc (n := n) (t := t) hT (by simp), wo_last hT.nodup, Nat.add_sub_cancel, ev_lessL _ (by rw [l1, List.length_append, l2]; rfl), ev_snoc0, ev_R hs (by omega), ev_R hg (by omega)]
theorem ev_Rw {p : Int} {ts : List (Int × Int)} (w : Web p ts) (q : Nat) : ev (Rw p ts) q = col p.toNat q ts := by
  obtain ⟨⟨h0, h1⟩, h2, h3⟩ := w
  have e : ((p.toNat : Nat) : Int) = p := by omega
  exact ev_R (by rw [e]; exact h3) (by omega)
/-- rows that are worth the same far out are the same -/
theorem ev_inj : ∀ {a b : List Int} {N : Nat}, a.length = b.length → (∀ q : Nat, N ≤ q → ev a q = ev b q) → a = b
  | [], [], _, _, _ => rfl
  | x :: a, y :: b, N, hl, h => by
    have e : x = y := by
      have h1 := h (N + (x - y).natAbs + 1) (by omega)
      have h2 : x + ((N + (x - y).natAbs + 1 : Nat) : Int) * ev a _ = y + ((N + (x - y).natAbs + 1 : Nat) : Int) * ev b _ := h1
      generalize hk : N + (x - y).natAbs + 1 = k at *
      have hd : (k : Int) ∣ (x - y) := ⟨ev b k - ev a k, by rw [Int.mul_sub]; omega⟩
      have h3 : k ∣ (x - y).natAbs := by simpa using Int.natAbs_dvd_natAbs.mpr hd
      by_cases z : (x - y).natAbs = 0
      · omega
      · have := Nat.le_of_dvd (by omega) h3
        omega
    subst e
    congr 1
    refine ev_inj (N := N + 1) (by simpa using hl) fun q hq => ?_
    have h1 : x + (q : Int) * ev a q = x + (q : Int) * ev b q := h q (by omega)
    have h2 : (q : Int) * ev a q = (q : Int) * ev b q := by omega
    exact Int.eq_of_mul_eq_mul_left (by omega) h2
  | [], _ :: _, _, h, _ => by simp at h
  | _ :: _, [], _, h, _ => by simp at h
/-- the figures of a number -/
def dig : Nat → Nat → Nat → List Int
  | 0, _, _ => []
  | n + 1, q, m => ((m % q : Nat) : Int) :: dig n q (m / q)
theorem dig_in {q : Nat} (hq : 0 < q) : ∀ (n m : Nat), In n q (dig n q m)
  | 0, m => ⟨rfl, by simp [dig]⟩
  | n + 1, m => by
    have ih := dig_in hq n (m / q)
    refine ⟨by simp [dig, ih.1], fun x hx => ?_⟩
    rcases List.mem_cons.mp hx with rfl | hx
    · have := Nat.mod_lt m hq
      omega
    · exact ih.2 x hx
theorem sm_dig {q : Nat} (hq : 0 < q) : ∀ (n : Nat) (w : List Int → Int), sm (q ^ n) (fun m => w (dig n q m)) = S n q w
  | 0, w => by simp [sm, S, dig]
  | n + 1, w => by
    rw [Nat.pow_succ, Nat.mul_comm, sm_block]
    have e : ∀ a b : Nat, b < q → dig (n + 1) q (q * a + b) = (b : Int) :: dig n q a := fun a b hb => by
      have h1 : (q * a + b) % q = b := by rw [Nat.mul_add_mod, Nat.mod_eq_of_lt hb]
      have h2 : (q * a + b) / q = a := by rw [Nat.mul_add_div hq, Nat.div_eq_of_lt hb, Nat.add_zero]
      show (((q * a + b) % q : Nat) : Int) :: dig n q ((q * a + b) / q) = _
      rw [h1, h2]
    rw [sm_congr fun a _ => sm_congr fun b hb => by rw [e a b hb], sm_comm]
    exact sm_congr fun b _ => sm_dig hq n fun t => w ((b : Int) :: t)
theorem loopG_sm {f : Int → Int → Option Int} (w : Nat → Int) {s : Int} : ∀ {N : Nat}, (∀ s i, i < N → f s (i : Int) = some (s + w i)) → loopG f s ((List.range N).map fun i => ((i : Nat) : Int)) = some (s + sm N w)
  | 0, _ => by simp [loopG, sm]
  | N + 1, h => by
    have app : ∀ (xs : List Int) (s0 s1 : Int) (y : Int), loopG f s0 xs = some s1 → loopG f s0 (xs ++ [y]) = f s1 y := by
      intro xs
      induction xs with
      | nil =>
        intro s0 s1 y e
        cases e
        show (f s0 y).bind _ = _
        cases f s0 y <;> rfl
      | cons x xs ih =>
        intro s0 s1 y e
        obtain ⟨s2, e1, e2⟩ := Option.bind_eq_some_iff.mp (show (f s0 x).bind (fun s' => loopG f s' xs) = some s1 from e)
        show (f s0 x).bind (fun s' => loopG f s' (xs ++ [y])) = _
        rw [e1]
        exact ih s2 s1 y e2
    rw [List.range_succ, List.map_append]
    rw [List.map_singleton, app _ _ _ _ (loopG_sm w fun s i hi => h s i (by omega)), h _ N (by omega)]
    show some (s + sm N w + w N) = some (s + (sm N w + w N))
    congr 1
    omega
theorem tints_eq {n q m : Nat} (hn : n ≤ 1000) (hq : 0 < q) (hq2 : q ≤ 1000) : tints_by n m q = some (dig n q m) := by
  unfold tints_by
  rw [Option.bind_some, rng0 (by omega), Option.bind_some]
  have key : ∀ (xs : List Int) (m : Nat) (s : List Int), s.length + xs.length ≤ 1000 → loopG (S := Int × (List Int)) (fun (s3 : Int × (List Int)) (q4 : Int) =>
      ((modZ s3.1 (q : Int)).bind fun y8 => addL s3.2 y8).bind fun tints_9 =>
      (divZ s3.1 (q : Int)).bind fun number_10 =>
      some (number_10, tints_9)) ((m : Int), s) xs = some (((m / q ^ xs.length : Nat) : Int), s ++ dig xs.length q m) := by
    intro xs
    induction xs with
    | nil => intro m s _; simp [loopG, dig]
    | cons x xs ih =>
      intro m s hs
      rw [List.length_cons] at hs
      show (((modZ (m : Int) (q : Int)).bind fun y8 => addL s y8).bind fun tints_9 => (divZ (m : Int) (q : Int)).bind fun number_10 => some (number_10, tints_9)).bind _ = _
      rw [modZ_pos (by omega), Option.bind_some, addL_ok (by omega), Option.bind_some, divZ_pos (by omega) (by omega), Option.bind_some, Option.bind_some]
      have e1 : (m : Int) % (q : Int) = ((m % q : Nat) : Int) := rfl
      have e2 : (m : Int) / (q : Int) = ((m / q : Nat) : Int) := rfl
      rw [e1, e2, ih _ _ (by simp; omega)]
      congr 2
      · rw [List.length_cons, Nat.pow_succ, Nat.div_div_eq_div_mul, Nat.mul_comm q]
      · rw [List.length_cons, List.append_assoc]
        rfl
  rw [key _ _ _ (by simp; omega), Option.bind_some]
  simp
theorem many_eq {n q : Nat} (hn : n ≤ 1000) (hq : q ≤ 1000) : many_tints n q = some (((q ^ n : Nat)) : Int) := by
  unfold many_tints
  rw [Option.bind_some, rng0 (by omega), Option.bind_some]
  have key : ∀ (xs : List Int) (s : Nat), loopG (S := Int) (fun (s13 : Int) (q14 : Int) =>
      (mulZ s13 (q : Int)).bind fun found_18 =>
      some found_18) (s : Int) xs = some ((s * q ^ xs.length : Nat) : Int) := by
    intro xs
    induction xs with
    | nil => intro s; simp [loopG]
    | cons x xs ih =>
      intro s
      show ((mulZ (s : Int) (q : Int)).bind fun found_18 => some found_18).bind _ = _
      rw [mulZ_r (by omega) (by omega), Option.bind_some, Option.bind_some]
      have e : (s : Int) * (q : Int) = ((s * q : Nat) : Int) := rfl
      rw [e, ih, List.length_cons, Nat.pow_succ, Nat.mul_assoc, Nat.mul_comm q]
  have h1 := key ((List.range n).map fun i => ((i : Nat) : Int)) 1
  rw [List.length_map, List.length_range, Nat.one_mul] at h1
  rw [show (1 : Int) = ((1 : Nat) : Int) from rfl, h1]
  rfl
theorem atZ_gi {l : List Int} {x : Int} (h0 : 0 ≤ x) (h1 : x < l.length) : atZ l x = some (gi l x) := by
  have e : ((x.toNat : Nat) : Int) = x := by omega
  have := atZ_getD l (k := x.toNat) (by omega)
  rw [e] at this
  exact this
theorem loopR_all {f : Unit → α → Option (Stp Unit Bool)} (ok : α → Bool) : ∀ {xs : List α}, (∀ x ∈ xs, f () x = some (if ok x = true then .go () else .ret false)) →
    loopR f () xs = some (if xs.all ok = true then .go () else .ret false)
  | [], _ => rfl
  | x :: xs, h => by
    have h1 := h x List.mem_cons_self
    have h2 := loopR_all ok fun y hy => h y (List.mem_cons_of_mem _ hy)
    show (f () x).bind _ = _
    rw [h1]
    cases hb : ok x
    · simp [hb]
    · simp [hb, h2]
theorem fits_eq {n : Int} {ts : List (Int × Int)} {l : List Int} (hT : ∀ t ∈ ts, Tie n t) (hl : n ≤ (l.length : Int)) : fits ts l = some (fitsB ts l) := by
  unfold fits
  rw [Option.bind_some, loopR_all (fun e => !decide (gi l e.1 = gi l e.2))]
  · rw [Option.bind_some]
    unfold fitsB
    split <;> rename_i h
    · rw [h]; rfl
    · rw [Bool.eq_false_iff.mpr h]; rfl
  · intro e he
    have ht := hT e he
    unfold Tie at ht
    rw [atZ_gi (by omega) (by omega), atZ_gi (by omega) (by omega)]
    by_cases c : gi l e.1 = gi l e.2 <;> simp [c]
theorem count_eq {n q : Nat} {ts : List (Int × Int)} (hT : Ties n ts) (hn : n ≤ 10) (hq : q ≤ 10) : count_ n ts q = some (col n q ts) := by
  unfold count_
  rw [Option.bind_some]
  by_cases z : q = 0
  · subst z
    rw [if_pos (by simp)]
    congr 1
    cases n with
    | zero =>
      have e : ts = [] := List.eq_nil_iff_forall_not_mem.mpr fun t ht => by
        have := hT.tie t ht
        unfold Tie at this
        omega
      subst e
      rfl
    | succ n => 
      rw [if_neg (by simp; omega)]
      rfl
  · rw [if_neg (by simp; omega), Option.bind_some, many_eq (by omega) (by omega), Option.bind_some]
    have hb : q ^ n ≤ 10 ^ 10 := Nat.le_trans (Nat.pow_le_pow_left hq n) (Nat.pow_le_pow_right (by decide) hn)
    have hr : rng 0 ((q ^ n : Nat) : Int) = some ((List.range (q ^ n)).map fun i => ((i : Nat) : Int)) := by
      unfold rng
      have h10 : (10 : Nat) ^ 10 = 10000000000 := by decide
      rw [if_pos (by omega)]
      have e : (((q ^ n : Nat) : Int) - 0).toNat = q ^ n := by omega
      rw [e]
      congr 1
      exact List.map_congr_left fun i _ => by omega
    rw [hr, Option.bind_some, loopG_sm (fun m => if fitsB ts (dig n q m) = true then 1 else 0), Option.bind_some, Int.zero_add, sm_dig (w := fun l => if fitsB ts l = true then 1 else 0) (by omega)]
    · rfl
    · intro s i _
      have hi := dig_in (q := q) (by omega) n i
      rw [tints_eq (by omega) (by omega) (by omega), Option.bind_some, Option.bind_some, Option.bind_some, fits_eq hT.tie (by rw [hi.1]; omega), Option.bind_some]
      by_cases c : fitsB ts (dig n q i) = true
      · simp [c]
      · simp [c]
end Q

set_option linter.all false
/-! Arrows: do they go round, and the ranks, as the laws reckon them. -/
namespace Q
open Dv
def longest (points : Int) (steps : List (Int × Int)) : Option (Option (List Int)) :=
  (some ([] : List Int)).bind fun found_1 =>
  (lrng points).bind fun left_2 =>
  (lc (fun (q3 : Int) => some true) (fun (q3 : Int) => some 0) left_2).bind fun height_5 =>
  (whileR (S := (List Int) × (List Int)) (R := Option (List Int)) (fun (s6 : (List Int) × (List Int)) => some (decide (0 < (s6.1.length : Int)))) (fun (s6 : (List Int) × (List Int)) =>
      (lc (fun (q10 : Int) => ((lc (fun (q14 : Int × Int) => (if (decide (q14.2 = q10)) = true then some (memL q14.1 s6.1) else some false)) (fun (q14 : Int × Int) => some q14) steps).bind fun y16 => some (y16.length : Int)).bind fun y17 => some (decide (y17 = 0))) (fun (q10 : Int) => some q10) s6.1).bind fun free_19 =>
      (some (decide ((free_19.length : Int) = 0))).bind fun b20 => if b20 = true then
        (some none).bind fun y21 => some (.ret y21)
      else
      (some free_19).bind fun xs22 => (loopG (S := (List Int)) (fun (s23 : (List Int)) (q24 : Int) =>
          (some steps).bind fun xs28 => (loopG (S := (List Int)) (fun (s29 : (List Int)) (q30 : Int × Int) =>
              (some (decide (q30.2 = q24))).bind fun b34 => if b34 = true then
                (((atZ s29 q24).bind fun y35 => ((atZ s29 q30.1).bind fun y36 => some (y36 + 1)).bind fun y37 => some (if y35 < y37 then y37 else y35)).bind fun y38 => setZ s29 q24 y38).bind fun height_39 =>
                some height_39
              else
                some s29) s23 xs28).bind fun s32 =>
          some s32) s6.2 xs22).bind fun s26 =>
      (lc (fun (q40 : Int) => some (!memL q40 free_19)) (fun (q40 : Int) => some q40) s6.1).bind fun left_42 =>
      some (.go (left_42, s26))) 20 (left_2, height_5)).bind fun st8 => st8.elim (fun s7 =>
  some (some s7.2)) (fun y9 => some y9)
/-- arrows that never go round -/
def Acy (E : List (Int × Int)) : Prop := ∃ h : Int → Int, ∀ e ∈ E, h e.1 < h e.2
/-- all arrows are between n points -/
def Arr (n : Nat) (E : List (Int × Int)) : Prop := ∀ e ∈ E, (0 ≤ e.1 ∧ e.1 < n) ∧ (0 ≤ e.2 ∧ e.2 < n)
/-- m is one more than the greatest of f at the arrows' beginnings that lead to v, else nought -/
structure Mx (E : List (Int × Int)) (f : Int → Int) (v m : Int) : Prop where
  nn : 0 ≤ m
  le : ∀ e ∈ E, e.2 = v → f e.1 + 1 ≤ m
  is : m = 0 ∨ ∃ e ∈ E, e.2 = v ∧ m = f e.1 + 1
theorem Mx.uniq {E : List (Int × Int)} {f : Int → Int} {v m k : Int} (a : Mx E f v m) (b : Mx E f v k) : m = k := by
  have h1 : m ≤ k := by
    rcases a.is with h | ⟨e, he, hv, h⟩
    · have := b.nn
      omega
    · have := b.le e he hv
      omega
  have h2 : k ≤ m := by
    rcases b.is with h | ⟨e, he, hv, h⟩
    · have := a.nn
      omega
    · have := a.le e he hv
      omega
  omega
theorem Mx.congr {E : List (Int × Int)} {f g : Int → Int} {v m : Int} (a : Mx E f v m) (h : ∀ e ∈ E, e.2 = v → f e.1 = g e.1) : Mx E g v m :=
  ⟨a.nn, fun e he hv => by rw [← h e he hv]; exact a.le e he hv, a.is.imp id fun ⟨e, he, hv, q⟩ => ⟨e, he, hv, by rw [← h e he hv]; exact q⟩⟩
/-- ranks -/
def Fix (n : Nat) (E : List (Int × Int)) (f : Int → Int) : Prop := ∀ v : Int, 0 ≤ v → v < n → Mx E f v (f v)
theorem Fix.acy {n : Nat} {E : List (Int × Int)} {f : Int → Int} (hE : Arr n E) (h : Fix n E f) : Acy E :=
  ⟨f, fun e he => by
    have := (h e.2 (hE e he).2.1 (hE e he).2.2).le e he rfl
    omega⟩
theorem Fix.uniq {n : Nat} {E : List (Int × Int)} {f g : Int → Int} (hE : Arr n E) (a : Fix n E f) (b : Fix n E g) : ∀ (k : Nat) (v : Int), 0 ≤ v → v < n → f v < k → f v = g v
  | 0, v, h0, h1, h => by
    have := (a v h0 h1).nn
    omega
  | k + 1, v, h0, h1, h => by
    refine Mx.uniq ((a v h0 h1).congr fun e he hv => ?_) (b v h0 h1)
    have := (a v h0 h1).le e he hv
    exact Fix.uniq hE a b k e.1 (hE e he).1.1 (hE e he).1.2 (by omega)
/-- what is told of arrows: None where they go round, else the ranks -/
def Rk (n : Nat) (E : List (Int × Int)) : Option (List Int) → Prop
  | none => ¬ Acy E
  | some l => l.length = n ∧ Fix n E (gi l)
theorem gi_ext {l m : List Int} (h : l.length = m.length) (e : ∀ v : Int, 0 ≤ v → v < l.length → gi l v = gi m v) : l = m := by
  apply List.ext_getElem h
  intro i h1 h2
  have := e i (by omega) (by omega)
  unfold gi at this
  rw [List.getD_eq_getElem?_getD, List.getD_eq_getElem?_getD] at this
  simpa [h1, h2] using this
theorem Rk.uniq {n : Nat} {E : List (Int × Int)} (hE : Arr n E) {r s : Option (List Int)} (a : Rk n E r) (b : Rk n E s) : r = s := by
  cases r with
  | none =>
    cases s with
    | none => rfl
    | some m => exact absurd (b.2.acy hE) a
  | some l =>
    cases s with
    | none => exact absurd (a.2.acy hE) b
    | some m =>
      congr 1
      refine gi_ext (by rw [a.1, b.1]) fun v h0 h1 => ?_
      rw [a.1] at h1
      exact Fix.uniq hE a.2 b.2 ((gi l v).toNat + 1) v h0 h1 (by omega)
theorem gi_set {l : List Int} {i : Int} (h0 : 0 ≤ i) (h1 : i < l.length) (x : Int) {v : Int} (hv : 0 ≤ v) : gi (l.set i.toNat x) v = if v = i then x else gi l v := by
  unfold gi
  rw [List.getD_eq_getElem?_getD, List.getD_eq_getElem?_getD]
  by_cases c : v = i
  · subst c
    rw [List.getElem?_set_self (by omega), if_pos rfl]
    rfl
  · rw [List.getElem?_set_ne (by omega), if_neg c]
theorem setZ_ok {l : List Int} {i : Int} (h0 : 0 ≤ i) (h1 : i < l.length) (x : Int) : setZ l i x = some (l.set i.toNat x) := by
  unfold setZ ixZ
  rw [if_pos h0, if_pos h1]
  rfl
theorem gi_rep (n : Nat) (v : Int) : gi (List.replicate n 0) v = 0 := by
  unfold gi
  rw [List.getD_eq_getElem?_getD, List.getElem?_replicate]
  split <;> rfl
/-- an invariant of a loop through a list, by what went by -/
theorem loopG_pre {S : Type} {f : S → α → Option S} (I : List α → S → Prop) : ∀ {xs pre : List α} {s : S}, I pre s → (∀ pre x s, I pre s → x ∈ xs → Ok (f s x) (I (pre ++ [x]))) → Ok (loopG f s xs) (I (pre ++ xs))
  | [], pre, s, h, _ => ⟨s, rfl, by rw [List.append_nil]; exact h⟩
  | x :: xs, pre, s, h, hs => by
    obtain ⟨s1, e1, h1⟩ := hs pre x s h List.mem_cons_self
    obtain ⟨s2, e2, h2⟩ := loopG_pre I (xs := xs) h1 fun p y s i m => hs p y s i (List.mem_cons_of_mem _ m)
    refine ⟨s2, ?_, ?_⟩
    · show (f s x).bind _ = _
      rw [e1]
      exact e2
    · rw [show pre ++ x :: xs = pre ++ [x] ++ xs by simp]
      exact h2
/-- one more arrow is looked at -/
theorem Mx.snoc {E : List (Int × Int)} {f : Int → Int} {v m : Int} (a : Mx E f v m) (e : Int × Int) : Mx (E ++ [e]) f v (if e.2 = v then (if m < f e.1 + 1 then f e.1 + 1 else m) else m) := by
  have hnn := a.nn
  by_cases c : e.2 = v
  · rw [if_pos c]
    refine ⟨by split <;> omega, fun u hu hv => ?_, ?_⟩
    · rcases List.mem_append.mp hu with hu | hu
      · have := a.le u hu hv
        split <;> omega
      · rw [List.mem_singleton.mp hu]
        split <;> omega
    · by_cases d : m < f e.1 + 1
      · rw [if_pos d]
        exact .inr ⟨e, by simp, c, rfl⟩
      · rw [if_neg d]
        exact a.is.imp id fun ⟨u, hu, q⟩ => ⟨u, List.mem_append_left _ hu, q⟩
  · rw [if_neg c]
    refine ⟨hnn, fun u hu hv => ?_, a.is.imp id fun ⟨u, hu, q⟩ => ⟨u, List.mem_append_left _ hu, q⟩⟩
    rcases List.mem_append.mp hu with hu | hu
    · exact a.le u hu hv
    · rw [List.mem_singleton.mp hu] at hv
      exact absurd hv c
/-- where points are left, to each of which an arrow leads from such a one, arrows go round -/
theorem acy_min {E : List (Int × Int)} (h : Acy E) : ∀ {L : List Int}, L ≠ [] → ∃ v ∈ L, ∀ e ∈ E, e.2 = v → e.1 ∉ L := by
  obtain ⟨h, hh⟩ := h
  have mn : ∀ L : List Int, L ≠ [] → ∃ v ∈ L, ∀ u ∈ L, h v ≤ h u := by
    intro L
    induction L with
    | nil => intro z; exact absurd rfl z
    | cons x L ih =>
      intro _
      by_cases c : L = []
      · subst c
        exact ⟨x, by simp, by simp⟩
      · obtain ⟨v, hv, hm⟩ := ih c
        by_cases d : h x ≤ h v
        · refine ⟨x, by simp, fun u hu => ?_⟩
          rcases List.mem_cons.mp hu with rfl | hu
          · omega
          · have := hm u hu
            omega
        · refine ⟨v, by simp [hv], fun u hu => ?_⟩
          rcases List.mem_cons.mp hu with rfl | hu
          · omega
          · exact hm u hu
  intro L hL
  obtain ⟨v, hv, hm⟩ := mn L hL
  refine ⟨v, hv, fun e he hev hc => ?_⟩
  have h1 := hm e.1 hc
  have h2 := hh e he
  rw [hev] at h2
  omega
/-- what a turn of the laws' reckoning keeps -/
structure Lng (n : Nat) (E : List (Int × Int)) (left height : List Int) : Prop where
  len : height.length = n
  nd : left.Nodup
  sub : ∀ v ∈ left, 0 ≤ v ∧ v < n
  zero : ∀ v ∈ left, gi height v = 0
  out : ∀ v : Int, 0 ≤ v → v < n → v ∉ left → Mx E (gi height) v (gi height v) ∧ ∀ e ∈ E, e.2 = v → e.1 ∉ left
  bd : ∀ v : Int, 0 ≤ v → v < n → gi height v + left.length ≤ n
def freeB (E : List (Int × Int)) (left : List Int) (v : Int) : Bool := decide (((E.filter fun e => decide (e.2 = v) && memL e.1 left).length : Int) = 0)
theorem freeB_iff {E : List (Int × Int)} {left : List Int} {v : Int} : freeB E left v = true ↔ ∀ e ∈ E, e.2 = v → e.1 ∉ left := by
  unfold freeB
  rw [decide_eq_true_iff]
  constructor
  · intro h e he hv hm
    have h2 : (E.filter fun e => decide (e.2 = v) && memL e.1 left) = [] := List.length_eq_zero_iff.mp (by omega)
    have h3 : e ∈ E.filter fun e => decide (e.2 = v) && memL e.1 left := List.mem_filter.mpr ⟨he, by simp [hv, memL, hm]⟩
    rw [h2] at h3
    cases h3
  · intro h
    have : (E.filter fun e => decide (e.2 = v) && memL e.1 left) = [] := by
      rw [List.filter_eq_nil_iff]
      intro e he
      by_cases c : e.2 = v
      · have := h e he c
        simp [c, memL, this]
      · simp [c]
    rw [this]
    rfl
theorem lrng_eq {n : Nat} (h : n ≤ 1000) : lrng n = some ((List.range n).map fun i => ((i : Nat) : Int)) := by
  unfold lrng
  rw [if_pos (by omega)]
  simp
theorem lng_step {n : Nat} {E : List (Int × Int)} (hE : Arr n E) (hn : n ≤ 100) (hEl : E.length ≤ 1000) {left height : List Int} (L : Lng n E left height) (hf : left.filter (freeB E left) ≠ []) :
    Ok (loopG (S := (List Int)) (fun (s104 : (List Int)) (q105 : Int) =>
          (some E).bind fun xs109 => (loopG (S := (List Int)) (fun (s110 : (List Int)) (q111 : Int × Int) =>
              (some (decide (q111.2 = q105))).bind fun b115 => if b115 = true then
                (((atZ s110 q105).bind fun y116 => ((atZ s110 q111.1).bind fun y117 => some (y117 + 1)).bind fun y118 => some (if y116 < y118 then y118 else y116)).bind fun y119 => setZ s110 q105 y119).bind fun height_120 =>
                some height_120
              else
                some s110) s104 xs109).bind fun s113 =>
          some s113) height (left.filter (freeB E left))) fun s => Lng n E (left.filter fun v => !memL v (left.filter (freeB E left))) s := by
  have hfree : ∀ v, v ∈ left.filter (freeB E left) ↔ v ∈ left ∧ ∀ e ∈ E, e.2 = v → e.1 ∉ left := fun v => by
    rw [List.mem_filter, freeB_iff]
  generalize hF : left.filter (freeB E left) = F at *
  have hFn : F.Nodup := by rw [← hF]; exact L.nd.filter _
  -- the heights of the free points
  refine (loopG_pre (S := List Int) (fun pre s => s.length = n ∧ (∀ v : Int, 0 ≤ v → v < n → v ∉ pre → gi s v = gi height v) ∧ ∀ v ∈ pre, v ∈ F ∧ Mx E (gi height) v (gi s v)) (pre := []) ⟨L.len, fun v _ _ _ => rfl, by simp⟩ ?_).imp ?_
  · rintro pre x s ⟨i1, i2, i3⟩ hx
    obtain ⟨hxl, hxp⟩ := (hfree x).mp hx
    obtain ⟨x0, x1⟩ := L.sub x hxl
    rw [Option.bind_some]
    by_cases hxpre : x ∈ pre
    · -- not met: each point once, but nothing hangs on it
      have e0 := (i3 x hxpre).2
      refine Ok.bind (P := fun s' => s' = s) ?_ ?_
      · refine (loopG_pre (S := List Int) (fun _ s' => s' = s) (pre := []) rfl ?_).imp fun _ h => h
        rintro pe e s' rfl he
        rw [Option.bind_some]
        by_cases c : e.2 = x
        · obtain ⟨⟨a0, a1⟩, _⟩ := hE e he
          have hne : e.1 ∉ left := hxp e he c
          have hpe : e.1 ∉ pre := fun z => hne ((hfree _).mp (i3 _ z).1).1
          have hle := e0.le e he c
          rw [← i2 e.1 a0 a1 hpe] at hle
          rw [if_pos (by simpa using c), atZ_gi x0 (by omega), Option.bind_some, atZ_gi a0 (by omega), Option.bind_some, Option.bind_some, if_neg (by omega), Option.bind_some, setZ_ok x0 (by omega), Option.bind_some]
          refine .mk (gi_ext (by simp) fun v h0 h1 => ?_)
          rw [gi_set x0 (by omega) _ h0]
          split
          · rename_i q
            rw [q]
          · rfl
        · rw [if_neg (by simpa using c)]
          exact .mk rfl
      · rintro s' rfl
        refine .mk ⟨i1, fun v h0 h1 hv => i2 v h0 h1 fun z => hv (List.mem_append_left _ z), fun v hv => ?_⟩
        rcases List.mem_append.mp hv with hv | hv
        · exact i3 v hv
        · rw [List.mem_singleton.mp hv]
          exact i3 x hxpre
    · refine Ok.bind (P := fun s' => s'.length = n ∧ (∀ v : Int, 0 ≤ v → v < n → v ≠ x → gi s' v = gi s v) ∧ Mx E (gi height) x (gi s' x)) ?_ ?_
      · refine (loopG_pre (S := List Int) (fun pe s' => s'.length = n ∧ (∀ v : Int, 0 ≤ v → v < n → v ≠ x → gi s' v = gi s v) ∧ Mx pe (gi height) x (gi s' x)) (pre := []) ⟨i1, fun _ _ _ _ => rfl, ?_⟩ ?_).imp fun s' h => ?_
        · rw [i2 x x0 x1 hxpre, L.zero x hxl]
          exact ⟨Int.le_refl 0, by simp, .inl rfl⟩
        · rintro pe e s' ⟨j1, j2, j3⟩ he
          have hsn := j3.snoc e
          rw [Option.bind_some]
          by_cases c : e.2 = x
          · obtain ⟨⟨a0, a1⟩, _⟩ := hE e he
            have hne : e.1 ∉ left := hxp e he c
            have hex : e.1 ≠ x := fun z => hne (z ▸ hxl)
            have hpe : e.1 ∉ pre := fun z => hne ((hfree _).mp (i3 _ z).1).1
            have hg : gi s' e.1 = gi height e.1 := by rw [j2 e.1 a0 a1 hex, i2 e.1 a0 a1 hpe]
            rw [if_pos c] at hsn
            rw [if_pos (by simpa using c), atZ_gi x0 (by omega), Option.bind_some, atZ_gi a0 (by omega), Option.bind_some, Option.bind_some, Option.bind_some, setZ_ok x0 (by omega), Option.bind_some, hg]
            refine .mk ⟨by rw [List.length_set]; exact j1, fun v h0 h1 hv => ?_, ?_⟩
            · rw [gi_set x0 (by omega) _ h0, if_neg hv]
              exact j2 v h0 h1 hv
            · rw [gi_set x0 (by omega) _ x0, if_pos rfl]
              exact hsn
          · rw [if_neg (by simpa using c)]
            rw [if_neg c] at hsn
            exact .mk ⟨j1, j2, hsn⟩
        · exact h
      · rintro s' ⟨j1, j2, j3⟩
        refine .mk ⟨j1, fun v h0 h1 hv => ?_, fun v hv => ?_⟩
        · have a1 : v ≠ x := fun z => hv (by simp [z])
          have a2 : v ∉ pre := fun z => hv (List.mem_append_left _ z)
          rw [j2 v h0 h1 a1, i2 v h0 h1 a2]
        · rcases List.mem_append.mp hv with hv | hv
          · have hvl := L.sub v ((hfree v).mp (i3 v hv).1).1
            rw [j2 v hvl.1 hvl.2 fun z => hxpre (z ▸ hv)]
            exact i3 v hv
          · rw [List.mem_singleton.mp hv]
            exact ⟨hx, j3⟩
  · rintro s ⟨i1, i2, i3⟩
    rw [List.nil_append] at i2 i3
    have hmem : ∀ v, (v ∈ left.filter fun v => !memL v F) ↔ v ∈ left ∧ v ∉ F := fun v => by
      rw [List.mem_filter]
      simp [memL]
    have hlt : (left.filter fun v => !memL v F).length + 1 ≤ left.length := by
      obtain ⟨x, hx⟩ := List.exists_mem_of_ne_nil F hf
      have hxl := ((hfree x).mp hx).1
      have := List.length_filter_lt_length_iff_exists (l := left) (p := fun v => !memL v F) |>.mpr ⟨x, hxl, by simp [memL, hx]⟩
      omega
    refine ⟨i1, L.nd.filter _, fun v hv => L.sub v ((hmem v).mp hv).1, fun v hv => ?_, fun v h0 h1 hv => ?_, fun v h0 h1 => ?_⟩
    · have hv := (hmem v).mp hv
      have hs := L.sub v hv.1
      rw [i2 v hs.1 hs.2 hv.2]
      exact L.zero v hv.1
    · have key : ∀ e ∈ E, e.2 = v → e.1 ∉ left → gi height e.1 = gi s e.1 := fun e he _ hl => by
        obtain ⟨⟨a0, a1⟩, _⟩ := hE e he
        exact (i2 e.1 a0 a1 fun z => hl ((hfree _).mp z).1).symm
      by_cases c : v ∈ F
      · have hvf := (hfree v).mp c
        refine ⟨(i3 v c).2.congr fun e he hev => key e he hev (hvf.2 e he hev), fun e he hev z => hvf.2 e he hev ((hmem _).mp z).1⟩
      · have hvl : v ∉ left := fun z => hv ((hmem v).mpr ⟨z, c⟩)
        obtain ⟨g1, g2⟩ := L.out v h0 h1 hvl
        rw [i2 v h0 h1 c]
        exact ⟨g1.congr fun e he hev => key e he hev (g2 e he hev), fun e he hev z => g2 e he hev ((hmem _).mp z).1⟩
    · by_cases c : v ∈ F
      · have g := (i3 v c).2
        rcases g.is with h | ⟨e, he, hev, h⟩
        · rw [h]
          have := L.bd v h0 h1
          have hz := L.zero v ((hfree v).mp c).1
          omega
        · obtain ⟨⟨a0, a1⟩, _⟩ := hE e he
          have := L.bd e.1 a0 a1
          omega
      · rw [i2 v h0 h1 c]
        have := L.bd v h0 h1
        omega
theorem longest_eq {n : Nat} {E : List (Int × Int)} (hE : Arr n E) (hn : n ≤ 10) (hEl : E.length ≤ 1000) : ∃ r, longest n E = some r ∧ Rk n E r ∧ ∀ l, r = some l → ∀ v : Int, 0 ≤ v → v < n → gi l v ≤ n := by
  unfold longest
  rw [Option.bind_some, lrng_eq (by omega), Option.bind_some, lc_map (fun _ => 0) (by simp; omega) (fun _ _ => rfl), Option.bind_some]
  have h0 : ((List.range n).map fun i => ((i : Nat) : Int)).map (fun _ => (0 : Int)) = List.replicate n 0 := by
    apply List.ext_getElem
    · simp
    · intro i h1 h2
      simp
  rw [h0]
  have L0 : Lng n E ((List.range n).map fun i => ((i : Nat) : Int)) (List.replicate n 0) := by
    refine ⟨by simp, ?_, fun v hv => ?_, fun v _ => gi_rep n v, fun v h0 h1 hv => ?_, fun v _ _ => by rw [gi_rep]; simp⟩
    · rw [List.nodup_iff_pairwise_ne, List.pairwise_map]
      exact List.Pairwise.imp (fun {a b} h => by omega) List.pairwise_lt_range
    · obtain ⟨i, hi, rfl⟩ := List.mem_map.mp hv
      have := List.mem_range.mp hi
      omega
    · exact absurd (List.mem_map.mpr ⟨v.toNat, List.mem_range.mpr (by omega), by omega⟩) hv
  have key : ∀ (fuel : Nat) (left height : List Int), Lng n E left height → left.length < fuel → ∃ st, whileR (S := (List Int) × (List Int)) (R := Option (List Int)) (fun (s87 : (List Int) × (List Int)) => some (decide (0 < (s87.1.length : Int)))) (fun (s87 : (List Int) × (List Int)) =>
      (lc (fun (q91 : Int) => ((lc (fun (q95 : Int × Int) => (if (decide (q95.2 = q91)) = true then some (memL q95.1 s87.1) else some false)) (fun (q95 : Int × Int) => some q95) E).bind fun y97 => some (y97.length : Int)).bind fun y98 => some (decide (y98 = 0))) (fun (q91 : Int) => some q91) s87.1).bind fun free_100 =>
      (some (decide ((free_100.length : Int) = 0))).bind fun b101 => if b101 = true then
        (some none).bind fun y102 => some (.ret y102)
      else
      (some free_100).bind fun xs103 => (loopG (S := (List Int)) (fun (s104 : (List Int)) (q105 : Int) =>
          (some E).bind fun xs109 => (loopG (S := (List Int)) (fun (s110 : (List Int)) (q111 : Int × Int) =>
              (some (decide (q111.2 = q105))).bind fun b115 => if b115 = true then
                (((atZ s110 q105).bind fun y116 => ((atZ s110 q111.1).bind fun y117 => some (y117 + 1)).bind fun y118 => some (if y116 < y118 then y118 else y116)).bind fun y119 => setZ s110 q105 y119).bind fun height_120 =>
                some height_120
              else
                some s110) s104 xs109).bind fun s113 =>
          some s113) s87.2 xs103).bind fun s107 =>
      (lc (fun (q121 : Int) => some (!memL q121 free_100)) (fun (q121 : Int) => some q121) s87.1).bind fun left_123 =>
      some (.go (left_123, s107))) fuel (left, height) = some st ∧ ((st = .ret none ∧ ¬ Acy E) ∨ ∃ h, st = .go ([], h) ∧ Lng n E [] h) := by
    intro fuel
    induction fuel with
    | zero => intro left height _ h; omega
    | succ fuel ih =>
      intro left height L hl
      have hll : left.length ≤ 100 := by
        by_cases c : n = 0
        · cases left with
          | nil => simp
          | cons x xs =>
            have := L.sub x (by simp)
            omega
        · have := L.bd 0 (by omega) (by omega)
          have hz : 0 ≤ gi height 0 := by
            by_cases d : (0 : Int) ∈ left
            · rw [L.zero 0 d]; omega
            · exact (L.out 0 (by omega) (by omega) d).1.nn
          omega
      rw [whileR]
      by_cases z : left = []
      · subst z
        exact ⟨.go ([], height), rfl, .inr ⟨height, rfl, L⟩⟩
      · have hpos : 0 < (left.length : Int) := by
          have := List.length_pos_iff.mpr z
          omega
        have hfr : lc (fun (q91 : Int) => ((lc (fun (q95 : Int × Int) => (if (decide (q95.2 = q91)) = true then some (memL q95.1 left) else some false)) (fun (q95 : Int × Int) => some q95) E).bind fun y97 => some (y97.length : Int)).bind fun y98 => some (decide (y98 = 0))) (fun (q91 : Int) => some q91) left = some (left.filter (freeB E left)) := by
          rw [lc_all (freeB E left) (fun v => v) (by omega)]
          · simp
          · intro v _
            rw [lc_all (fun e : Int × Int => decide (e.2 = v) && memL e.1 left) (fun e => e) (by omega)]
            · simp [freeB]
            · intro e _
              by_cases c : e.2 = v <;> simp [c]
            · intro e _ _
              rfl
          · intro v _ _
            rfl
        simp only [hpos, decide_true, Option.bind_some, ↓reduceIte]
        rw [hfr, Option.bind_some]
        by_cases f0 : left.filter (freeB E left) = []
        · rw [f0]
          refine ⟨.ret none, rfl, .inl ⟨rfl, fun a => ?_⟩⟩
          obtain ⟨v, hv, hm⟩ := acy_min a z
          have : v ∈ left.filter (freeB E left) := List.mem_filter.mpr ⟨hv, freeB_iff.mpr hm⟩
          rw [f0] at this
          cases this
        · have fpos : ¬ ((left.filter (freeB E left)).length : Int) = 0 := by
            have := List.length_pos_iff.mpr f0
            omega
          simp only [fpos, decide_false, Bool.false_eq_true, ↓reduceIte]
          obtain ⟨s, es, hs⟩ := lng_step hE (by omega) hEl L f0
          have es' := es
          simp only [Option.bind_some] at es'
          rw [es', Option.bind_some]
          have hle : (left.filter (freeB E left)).length ≤ left.length := List.length_filter_le _ _
          rw [lc_all (fun v => !memL v (left.filter (freeB E left))) (fun v => v) (by omega) (fun _ _ => rfl) (fun _ _ _ => rfl), Option.bind_some, Option.bind_some, Stp.elim_go, List.map_id']
          have hlt : (left.filter fun v => !memL v (left.filter (freeB E left))).length < left.length := by
            obtain ⟨x, hx⟩ := List.exists_mem_of_ne_nil _ f0
            exact List.length_filter_lt_length_iff_exists.mpr ⟨x, (List.mem_filter.mp hx).1, by simp [memL, hx]⟩
          have := ih _ _ hs (by omega)
          simp only [Option.bind_some] at this
          exact this
  obtain ⟨st, e, h⟩ := key 20 _ _ L0 (by simp; omega)
  simp only [Option.bind_some] at e ⊢
  rw [e, Option.bind_some]
  rcases h with ⟨rfl, hn⟩ | ⟨h, rfl, L⟩
  · exact ⟨none, rfl, hn, fun l hl => by cases hl⟩
  · refine ⟨some h, rfl, ⟨L.len, fun v h0 h1 => (L.out v h0 h1 (by simp)).1⟩, fun l hl v h0 h1 => ?_⟩
    cases hl
    have := L.bd v h0 h1
    simp at this
    exact this
end Q

set_option linter.all false
/-! Arrows, as the program reckons them. -/
namespace Q
open Dv
def asked_setting (points : Int) (ties : List (Int × Int)) (arrows : List Bool) : Rs Unit :=
  (asked_web points ties).bind fun y1 => exB y1 fun _ =>
  (some (!decide ((arrows.length : Int) = (ties.length : Int)))).bind fun b4 => if b4 = true then
    some (.error .noSetting)
  else
  some (.ok ())
def led (ties : List (Int × Int)) (arrows : List Bool) : Option (List (Int × Int)) :=
  (some ([] : List (Int × Int))).bind fun found_5 =>
  (some (ties.zip arrows)).bind fun xs6 => (loopG (S := (List (Int × Int))) (fun (s7 : (List (Int × Int))) (q8 : (Int × Int) × Bool) =>
      (some q8.2).bind fun b12 => if b12 = true then
        (addL s7 q8.1).bind fun found_13 =>
        some found_13
      else
        (addL s7 (q8.1.2, q8.1.1)).bind fun found_14 =>
        some found_14) found_5 xs6).bind fun s10 =>
  some s10
def ranks_by (points : Int) (ties : List (Int × Int)) (arrows : List Bool) : Option (Option (List Int)) :=
  (led ties arrows).bind fun pairs_15 =>
  ((rng 0 points).bind fun y18 => lc (fun (q16 : Int) => some true) (fun (q16 : Int) => some 0) y18).bind fun found_19 =>
  (rng 0 (points + 1)).bind fun xs20 => (loopR (S := (List Int)) (R := Option (List Int)) (fun (s21 : (List Int)) (q22 : Int) =>
      ((rng 0 points).bind fun y28 => lc (fun (q26 : Int) => some true) (fun (q26 : Int) => some 0) y28).bind fun later_29 =>
      (some pairs_15).bind fun xs30 => (loopG (S := (List Int)) (fun (s31 : (List Int)) (q32 : Int × Int) =>
          (((atZ s31 q32.2).bind fun y36 => ((atZ s21 q32.1).bind fun y37 => some (y37 + 1)).bind fun y38 => some (if y36 < y38 then y38 else y36)).bind fun y39 => setZ s31 q32.2 y39).bind fun later_40 =>
          some later_40) later_29 xs30).bind fun s34 =>
      (some (decide (s34 = s21))).bind fun b41 => if b41 = true then
        (some (some s21)).bind fun y42 => some (.ret y42)
      else
      (some s34).bind fun found_43 =>
      some (.go found_43)) found_19 xs20).bind fun st23 => st23.elim (fun s24 =>
  some none) (fun y25 => some y25)
def goes_round (points : Int) (ties : List (Int × Int)) (arrows : List Bool) : Rs Bool :=
  (asked_setting points ties arrows).bind fun y44 => exB y44 fun _ =>
  ((ranks_by points ties arrows).bind fun y47 => some y47.isNone).bind fun y48 => some (.ok y48)
def ranks (points : Int) (ties : List (Int × Int)) (arrows : List Bool) : Rs (List Int) :=
  (asked_setting points ties arrows).bind fun y49 => exB y49 fun _ =>
  (ranks_by points ties arrows).bind fun found_52 =>
  (some found_52.isNone).bind fun b53 => if b53 = true then
    some (.error .goesRound)
  else
  (found_52).bind fun y54 => some (.ok y54)
/-- a tie and its arrow as a pair of points, from and to -/
def ar (t : Int × Int) (b : Bool) : Int × Int := if b = true then t else (t.2, t.1)
/-- the arrows of a setting -/
def arr (ts : List (Int × Int)) (o : List Bool) : List (Int × Int) := List.zipWith ar ts o
theorem arr_len (ts : List (Int × Int)) (o : List Bool) : (arr ts o).length ≤ ts.length := by
  unfold arr
  rw [List.length_zipWith]
  omega
theorem zipWith_mem {α β γ : Type} {f : α → β → γ} : ∀ {xs : List α} {ys : List β} {z : γ}, z ∈ List.zipWith f xs ys → ∃ x ∈ xs, ∃ y ∈ ys, z = f x y
  | [], _, _, h => by simp at h
  | _ :: _, [], _, h => by simp at h
  | x :: xs, y :: ys, z, h => by
    rw [List.zipWith_cons_cons] at h
    rcases List.mem_cons.mp h with h | h
    · exact ⟨x, by simp, y, by simp, h⟩
    · obtain ⟨a, ha, b, hb, e⟩ := zipWith_mem h
      exact ⟨a, by simp [ha], b, by simp [hb], e⟩
theorem arr_Arr {n : Nat} {ts : List (Int × Int)} (hT : ∀ t ∈ ts, Tie n t) (o : List Bool) : Arr n (arr ts o) := fun e he => by
  obtain ⟨t, ht, b, _, rfl⟩ := zipWith_mem he
  have := hT t ht
  unfold Tie at this
  unfold ar
  split
  · omega
  · dsimp only
    omega
theorem led_eq (ts : List (Int × Int)) (o : List Bool) (h : ts.length ≤ 1000) : led ts o = some (arr ts o) := by
  unfold led
  rw [Option.bind_some, Option.bind_some]
  have hz : (ts.zip o).length ≤ 1000 := by rw [List.length_zip]; omega
  rw [(loopG_fr (fun s (q : (Int × Int) × Bool) => s ++ [ar q.1 q.2]) (fun rem s => rem.length + s.length ≤ 1000) (by simpa using hz) ?_).1]
  · rw [Option.bind_some]
    congr 1
    have : ∀ (ts : List (Int × Int)) (o : List Bool) (s : List (Int × Int)), (ts.zip o).foldl (fun s (q : (Int × Int) × Bool) => s ++ [ar q.1 q.2]) s = s ++ arr ts o := by
      intro ts
      induction ts with
      | nil => intro o s; simp [arr]
      | cons t ts ih =>
        intro o s
        cases o with
        | nil => simp [arr]
        | cons b o =>
          rw [List.zip_cons_cons, List.foldl_cons, ih]
          simp [arr]
    exact this ts o []
  · rintro ⟨t, b⟩ rest s hI
    rw [List.length_cons] at hI
    unfold ar
    rw [Option.bind_some]
    cases b
    · rw [if_neg (by simp), addL_ok (by omega)]
      exact ⟨rfl, by simp; omega⟩
    · rw [if_pos rfl, addL_ok (by omega)]
      exact ⟨rfl, by simp; omega⟩
theorem later_eq {n : Nat} {E : List (Int × Int)} (hE : Arr n E) {f : List Int} (hf : f.length = n) :
    Ok (loopG (S := (List Int)) (fun (s31 : (List Int)) (q32 : Int × Int) =>
          (((atZ s31 q32.2).bind fun y36 => ((atZ f q32.1).bind fun y37 => some (y37 + 1)).bind fun y38 => some (if y36 < y38 then y38 else y36)).bind fun y39 => setZ s31 q32.2 y39).bind fun later_40 =>
          some later_40) (List.replicate n 0) E) fun l => l.length = n ∧ ∀ v : Int, 0 ≤ v → v < n → Mx E (gi f) v (gi l v) := by
  refine (loopG_pre (S := List Int) (fun pre s => s.length = n ∧ ∀ v : Int, 0 ≤ v → v < n → Mx pre (gi f) v (gi s v)) (pre := []) ⟨by simp, fun v _ _ => by rw [gi_rep]; exact ⟨Int.le_refl 0, by simp, .inl rfl⟩⟩ ?_).imp fun l h => h
  rintro pre e s ⟨h1, h2⟩ he
  obtain ⟨⟨a0, a1⟩, b0, b1⟩ := hE e he
  rw [atZ_gi b0 (by omega), Option.bind_some, atZ_gi a0 (by omega), Option.bind_some, Option.bind_some, Option.bind_some, setZ_ok b0 (by omega), Option.bind_some]
  refine .mk ⟨by rw [List.length_set]; exact h1, fun v v0 v1 => ?_⟩
  have := (h2 v v0 v1).snoc e
  rw [gi_set b0 (by omega) _ v0]
  by_cases c : v = e.2
  · subst c
    rw [if_pos rfl]
    rw [if_pos rfl] at this
    exact this
  · rw [if_neg c]
    rw [if_neg fun z => c z.symm] at this
    exact this
theorem Mx.min {n : Nat} {E : List (Int × Int)} (hE : Arr n E) {f g : Int → Int} {k v m : Int} (hk : 0 ≤ k) (hf : Fix n E f) (hg : ∀ u : Int, 0 ≤ u → u < n → g u = min (f u) k) (h0 : 0 ≤ v) (h1 : v < n) (h : Mx E g v m) : m = min (f v) (k + 1) := by
  have a := hf v h0 h1
  refine Mx.uniq h ⟨by have := a.nn; omega, fun e he hv => ?_, ?_⟩
  · obtain ⟨⟨a0, a1⟩, _⟩ := hE e he
    rw [hg e.1 a0 a1]
    have := a.le e he hv
    omega
  · rcases a.is with h | ⟨e, he, hv, h⟩
    · exact .inl (by omega)
    · obtain ⟨⟨a0, a1⟩, _⟩ := hE e he
      exact .inr ⟨e, he, hv, by rw [hg e.1 a0 a1]; omega⟩
theorem ranks_by_eq {p : Int} {ts : List (Int × Int)} (w : Web p ts) (o : List Bool) : ∃ r, ranks_by p ts o = some r ∧ Rk p.toNat (arr ts o) r := by
  obtain ⟨⟨h0, h1⟩, h2, h3⟩ := w
  have ep : ((p.toNat : Nat) : Int) = p := by omega
  have hE : Arr p.toNat (arr ts o) := arr_Arr (by rw [ep]; exact h3.tie) o
  have hl := arr_len ts o
  obtain ⟨r, _, hr, hb⟩ := longest_eq hE (by omega) (by omega)
  generalize hn : p.toNat = n at *
  subst ep
  unfold ranks_by
  rw [led_eq ts o (by omega), Option.bind_some, zeros_eq (by omega), Option.bind_some]
  have e1 : ((n : Int) + 1) = ((n + 1 : Nat) : Int) := by omega
  rw [e1, rng0 (by omega), Option.bind_some]
  have fixed : ∀ s l : List Int, s.length = n → l.length = n → (∀ v : Int, 0 ≤ v → v < n → Mx (arr ts o) (gi s) v (gi l v)) → l = s → Rk n (arr ts o) (some s) := fun s l hs hl hm e => by
    subst e
    exact ⟨hs, hm⟩
  show Ok _ _
  cases r with
  | none =>
    refine Ok.bind (P := StpP (fun s => s.length = n) (fun _ => False)) (loopR_ix (fun (_ : Nat) (s : List Int) => s.length = n) (fun _ => False) (by simp) fun i s hi hs => ?_) ?_
    · rw [Option.bind_some, Option.bind_some]
      refine Ok.bind (later_eq hE hs) fun l ⟨g1, g2⟩ => ?_
      rw [Option.bind_some]
      by_cases c : l = s
      · exact absurd ((fixed s l hs g1 g2 c).2.acy hE) hr
      · rw [if_neg (by simpa using c)]
        exact .mk g1
    · intro st hst
      cases st with
      | go s => exact .mk hr
      | ret r => exact absurd hst id
  | some l =>
    refine Ok.bind (P := StpP (fun s => n + 1 ≤ n ∧ s.length = n ∧ ∀ v : Int, 0 ≤ v → v < n → gi s v = min (gi l v) ((n + 1 : Nat) : Int)) (fun r => Rk n (arr ts o) r))
      (loopR_ix (fun k s => k ≤ n ∧ s.length = n ∧ ∀ v : Int, 0 ≤ v → v < n → gi s v = min (gi l v) ((k : Nat) : Int)) (fun r => Rk n (arr ts o) r) ⟨by omega, by simp, fun v v0 v1 => by
        rw [gi_rep]
        have := (hr.2 v v0 v1).nn
        omega⟩ fun i s hi hj => ?_) ?_
    · obtain ⟨j1, j2, j3⟩ := hj
      rw [Option.bind_some, Option.bind_some]
      refine Ok.bind (later_eq hE j2) fun m ⟨g1, g2⟩ => ?_
      have hm : ∀ v : Int, 0 ≤ v → v < n → gi m v = min (gi l v) ((i : Int) + 1) := fun v v0 v1 => Mx.min hE (k := (i : Int)) (by omega) hr.2 j3 v0 v1 (g2 v v0 v1)
      rw [Option.bind_some]
      by_cases c : m = s
      · rw [if_pos (by simpa using c), Option.bind_some]
        exact .mk (fixed s m j2 g1 g2 c)
      · rw [if_neg (by simpa using c), Option.bind_some]
        refine .mk ⟨?_, g1, fun v v0 v1 => by rw [hm v v0 v1]; omega⟩
        by_cases z : i = n
        · refine absurd (gi_ext (by rw [g1, j2]) fun v v0 v1 => ?_) c
          rw [g1] at v1
          rw [hm v v0 v1, j3 v v0 v1]
          have := hb l rfl v v0 v1
          omega
        · omega
    · intro st hst
      cases st with
      | go s =>
        have := hst.1
        omega
      | ret r => exact .mk hst
theorem asked_setting_eq (p : Int) (ts : List (Int × Int)) (o : List Bool) (h : ts.length ≤ 1000) : asked_setting p ts o = some (if Web p ts then (if o.length = ts.length then .ok () else .error .noSetting) else .error .noWeb) := by
  unfold asked_setting
  rw [asked_web_eq p ts h, Option.bind_some]
  by_cases w : Web p ts
  · by_cases c : o.length = ts.length
    · have : (o.length : Int) = ts.length := by omega
      simp [w, c]
    · have : ¬ (o.length : Int) = ts.length := by omega
      simp [w, c, this]
  · simp [w]
def rkE : Option (List Int) → Except Er (List Int)
  | none => .error .goesRound
  | some l => .ok l
/-- what is told of a setting -/
theorem arrows_eq {p : Int} {ts : List (Int × Int)} (w : Web p ts) (o : List Bool) (h : o.length = ts.length) :
    ∃ r, Rk p.toNat (arr ts o) r ∧ goes_round p ts o = some (.ok r.isNone) ∧ ranks p ts o = some (rkE r) := by
  obtain ⟨r, e, hr⟩ := ranks_by_eq w o
  have hl := w.2.1
  refine ⟨r, hr, ?_, ?_⟩
  · unfold goes_round
    rw [asked_setting_eq p ts o (by omega), if_pos w, if_pos h, e]
    rfl
  · unfold ranks
    rw [asked_setting_eq p ts o (by omega), if_pos w, if_pos h, e]
    cases r <;> rfl
theorem arrows_no {p : Int} {ts : List (Int × Int)} (w : Web p ts) (o : List Bool) (h : o.length ≠ ts.length) : goes_round p ts o = some (.error .noSetting) ∧ ranks p ts o = some (.error .noSetting) := by
  have hl := w.2.1
  constructor
  · unfold goes_round
    rw [asked_setting_eq p ts o (by omega), if_pos w, if_neg h]
    rfl
  · unfold ranks
    rw [asked_setting_eq p ts o (by omega), if_pos w, if_neg h]
    rfl
end Q

set_option linter.all false
/-! Settings, as the laws draw them. -/
namespace Q
open Dv
def ways_by (many : Int) (number : Int) : Option (List Bool) :=
  (some ([] : List Bool)).bind fun ways_1 =>
  (rng 0 many).bind fun xs2 => (loopG (S := Int × (List Bool)) (fun (s3 : Int × (List Bool)) (q4 : Int) =>
      (((modZ s3.1 2).bind fun y8 => some (decide (y8 = 1))).bind fun y9 => addL s3.2 y9).bind fun ways_10 =>
      (divZ s3.1 2).bind fun number_11 =>
      some (number_11, ways_10)) (number, ways_1) xs2).bind fun s6 =>
  some s6.2
def from_to (ties : List (Int × Int)) (ways : List Bool) : Option (List (Int × Int)) :=
  (some ([] : List (Int × Int))).bind fun found_12 =>
  (rng 0 (ties.length : Int)).bind fun xs13 => (loopG (S := (List (Int × Int))) (fun (s14 : (List (Int × Int))) (q15 : Int) =>
      (atZ ways q15).bind fun b19 => if b19 = true then
        ((atZ ties q15).bind fun y20 => addL s14 y20).bind fun found_21 =>
        some found_21
      else
        ((((atZ ties q15).bind fun y22 => some y22.2).bind fun y24 => ((atZ ties q15).bind fun y23 => some y23.1).bind fun y25 => some (y24, y25)).bind fun y26 => addL s14 y26).bind fun found_27 =>
        some found_27) found_12 xs13).bind fun s17 =>
  some s17
/-- the ways that a number writes -/
def wy : Nat → Int → List Bool
  | 0, _ => []
  | n + 1, m => decide (m % 2 = 1) :: wy n (m / 2)
theorem wy_len : ∀ (n : Nat) (m : Int), (wy n m).length = n
  | 0, _ => rfl
  | n + 1, m => by rw [wy, List.length_cons, wy_len]
theorem ways_eq {n : Nat} (hn : n ≤ 1000) (m : Int) : ways_by n m = some (wy n m) := by
  unfold ways_by
  rw [Option.bind_some, rng0 (by omega), Option.bind_some]
  have key : ∀ (xs : List Int) (m : Int) (s : List Bool), s.length + xs.length ≤ 1000 → ∃ m', loopG (S := Int × (List Bool)) (fun (s57 : Int × (List Bool)) (q58 : Int) =>
      (((modZ s57.1 2).bind fun y62 => some (decide (y62 = 1))).bind fun y63 => addL s57.2 y63).bind fun ways_64 =>
      (divZ s57.1 2).bind fun number_65 =>
      some (number_65, ways_64)) (m, s) xs = some (m', s ++ wy xs.length m) := by
    intro xs
    induction xs with
    | nil => intro m s _; exact ⟨m, by simp [loopG, wy]⟩
    | cons x xs ih =>
      intro m s hs
      rw [List.length_cons] at hs
      obtain ⟨m', e⟩ := ih (m / 2) (s ++ [decide (m % 2 = 1)]) (by simp; omega)
      refine ⟨m', ?_⟩
      show ((((modZ m 2).bind fun y62 => some (decide (y62 = 1))).bind fun y63 => addL s y63).bind fun ways_64 => (divZ m 2).bind fun number_65 => some (number_65, ways_64)).bind _ = _
      rw [modZ_pos (by decide), Option.bind_some, Option.bind_some, addL_ok (by omega), Option.bind_some, divZ_pos (by decide) (by decide), Option.bind_some, Option.bind_some, e]
      simp [wy]
  obtain ⟨m', e⟩ := key ((List.range n).map fun i => ((i : Nat) : Int)) m [] (by simp; omega)
  rw [e, Option.bind_some]
  simp
theorem from_to_eq (ts : List (Int × Int)) (o : List Bool) (h : ts.length ≤ 1000) (hl : o.length = ts.length) : from_to ts o = some (arr ts o) := by
  unfold from_to
  rw [Option.bind_some, rng0 (by omega), Option.bind_some]
  have at_ts : ∀ i, (hi : i < ts.length) → atZ ts (i : Int) = some ts[i] := fun i hi => by rw [atZ_nat]; simp [hi]
  have at_o : ∀ i, (hi : i < o.length) → atZ o (i : Int) = some o[i] := fun i hi => by rw [atZ_nat]; simp [hi]
  obtain ⟨s, e, hs⟩ := loopG_ix (S := List (Int × Int)) (f := (fun (s68 : (List (Int × Int))) (q69 : Int) =>
      (atZ o q69).bind fun b73 => if b73 = true then
        ((atZ ts q69).bind fun y74 => addL s68 y74).bind fun found_75 =>
        some found_75
      else
        ((((atZ ts q69).bind fun y76 => some y76.2).bind fun y78 => ((atZ ts q69).bind fun y77 => some y77.1).bind fun y79 => some (y78, y79)).bind fun y80 => addL s68 y80).bind fun found_81 =>
        some found_81)) (fun i s => s = arr (ts.take i) (o.take i)) (s := []) (N := ts.length) (by simp [arr]) fun i s hi hs => by
    have hsl : s.length ≤ 1000 := by
      rw [hs]
      have := arr_len (ts.take i) (o.take i)
      rw [List.length_take] at this
      omega
    rw [at_o i (by omega), Option.bind_some, at_ts i hi]
    have app : arr (ts.take (i + 1)) (o.take (i + 1)) = s ++ [ar ts[i] (o[i]'(by omega))] := by
      rw [hs, ← List.take_append_getElem hi, ← List.take_append_getElem (show i < o.length by omega)]
      unfold arr
      rw [List.zipWith_append (by simp; omega)]
      rfl
    unfold ar at app
    by_cases c : o[i]'(by omega) = true
    · rw [if_pos c]
      rw [if_pos c] at app
      rw [Option.bind_some, addL_ok (by omega)]
      exact .mk app.symm
    · rw [if_neg c]
      rw [if_neg c] at app
      simp only [Option.bind_some]
      rw [addL_ok (by omega)]
      exact .mk app.symm
  rw [e, Option.bind_some, hs, List.take_length, ← hl, List.take_length]
end Q

set_option linter.all false
/-! Settings counted. -/
namespace Q
open Dv
open Classical in
/-- nought or one -/
noncomputable def iv (p : Prop) : Int := if p then 1 else 0
theorem iv_t {p : Prop} (h : p) : iv p = 1 := by unfold iv; rw [if_pos h]
theorem iv_f {p : Prop} (h : ¬ p) : iv p = 0 := by unfold iv; rw [if_neg h]
theorem iv_congr {p q : Prop} (h : p ↔ q) : iv p = iv q := by rw [propext h]
/-- how many settings of the ties, together with the arrows A, are such -/
noncomputable def gP (P : List (Int × Int) → Prop) : List (Int × Int) → List (Int × Int) → Int
  | [], A => iv (P A)
  | t :: ts, A => gP P ts (t :: A) + gP P ts ((t.2, t.1) :: A)
/-- looks only at which arrows there are, none of which go round -/
structure OkP (P : List (Int × Int) → Prop) : Prop where
  congr : ∀ {A A' : List (Int × Int)}, (∀ e, e ∈ A ↔ e ∈ A') → P A → P A'
  acy : ∀ {A : List (Int × Int)}, P A → Acy A
theorem gP_set {P : List (Int × Int) → Prop} (h : OkP P) : ∀ {ts A A' : List (Int × Int)}, (∀ e, e ∈ A ↔ e ∈ A') → gP P ts A = gP P ts A'
  | [], A, A', e => iv_congr ⟨h.congr e, h.congr fun x => (e x).symm⟩
  | t :: ts, A, A', e => by
    show gP P ts (t :: A) + gP P ts ((t.2, t.1) :: A) = gP P ts (t :: A') + gP P ts ((t.2, t.1) :: A')
    rw [gP_set h (ts := ts) (A := t :: A) (A' := t :: A') fun x => by rw [List.mem_cons, List.mem_cons, e x], gP_set h (ts := ts) (A := (t.2, t.1) :: A) (A' := (t.2, t.1) :: A') fun x => by rw [List.mem_cons, List.mem_cons, e x]]
theorem gP_perm {P : List (Int × Int) → Prop} (h : OkP P) {ts us : List (Int × Int)} (p : ts.Perm us) : ∀ A, gP P ts A = gP P us A := by
  induction p with
  | nil => intro A; rfl
  | cons x _ ih =>
    intro A
    show gP P _ (x :: A) + gP P _ ((x.2, x.1) :: A) = gP P _ (x :: A) + gP P _ ((x.2, x.1) :: A)
    rw [ih, ih]
  | swap x y l =>
    intro A
    show gP P l (x :: y :: A) + gP P l ((x.2, x.1) :: y :: A) + (gP P l (x :: (y.2, y.1) :: A) + gP P l ((x.2, x.1) :: (y.2, y.1) :: A)) =
      gP P l (y :: x :: A) + gP P l ((y.2, y.1) :: x :: A) + (gP P l (y :: (x.2, x.1) :: A) + gP P l ((y.2, y.1) :: (x.2, x.1) :: A))
    have sw : ∀ a b : Int × Int, gP P l (a :: b :: A) = gP P l (b :: a :: A) := fun a b => gP_set h fun e => by
      simp only [List.mem_cons]
      exact ⟨fun q => q.elim (fun z => .inr (.inl z)) fun q => q.elim .inl fun z => .inr (.inr z), fun q => q.elim (fun z => .inr (.inl z)) fun q => q.elim .inl fun z => .inr (.inr z)⟩
    rw [sw x y, sw (x.2, x.1) y, sw x (y.2, y.1), sw (x.2, x.1) (y.2, y.1)]
    omega
  | trans _ _ ih1 ih2 => intro A; rw [ih1, ih2]
theorem gP_zero {P : List (Int × Int) → Prop} (h : OkP P) {a b : Int} : ∀ {ts A : List (Int × Int)}, (a, b) ∈ A → (b, a) ∈ A → gP P ts A = 0
  | [], A, h1, h2 => iv_f fun q => by
    obtain ⟨f, hf⟩ := h.acy q
    have h3 : f a < f b := hf _ h1
    have h4 : f b < f a := hf _ h2
    omega
  | t :: ts, A, h1, h2 => by
    show gP P ts (t :: A) + gP P ts ((t.2, t.1) :: A) = 0
    rw [gP_zero h (List.mem_cons_of_mem _ h1) (List.mem_cons_of_mem _ h2), gP_zero h (List.mem_cons_of_mem _ h1) (List.mem_cons_of_mem _ h2)]
    rfl
theorem gP_has {P : List (Int × Int) → Prop} (h : OkP P) {t : Int × Int} {ts A : List (Int × Int)} (ht : t ∈ A ∨ (t.2, t.1) ∈ A) : gP P (t :: ts) A = gP P ts A := by
  show gP P ts (t :: A) + gP P ts ((t.2, t.1) :: A) = _
  rcases ht with ht | ht
  · rw [gP_set h (ts := ts) (A := t :: A) (A' := A) fun e => by rw [List.mem_cons]; exact ⟨fun q => q.elim (fun z => z ▸ ht) id, .inr⟩,
      gP_zero h (a := t.1) (b := t.2) (List.mem_cons_of_mem _ ht) List.mem_cons_self]
    omega
  · rw [gP_set h (ts := ts) (A := (t.2, t.1) :: A) (A' := A) fun e => by rw [List.mem_cons]; exact ⟨fun q => q.elim (fun z => z ▸ ht) id, .inr⟩,
      gP_zero h (A := t :: A) (a := t.1) (b := t.2) List.mem_cons_self (List.mem_cons_of_mem _ ht)]
    omega
/-- a tie told twice -/
theorem gP_dup {P : List (Int × Int) → Prop} (h : OkP P) {t : Int × Int} : ∀ {ts : List (Int × Int)} (A : List (Int × Int)), t ∈ ts → gP P (t :: ts) A = gP P ts A
  | [], _, ht => by simp at ht
  | u :: ts, A, ht => by
    by_cases c : u = t
    · subst c
      show gP P (u :: ts) (u :: A) + gP P (u :: ts) ((u.2, u.1) :: A) = gP P ts (u :: A) + gP P ts ((u.2, u.1) :: A)
      rw [gP_has h (.inl List.mem_cons_self), gP_has h (.inr List.mem_cons_self)]
    · have ht' : t ∈ ts := by
        rcases List.mem_cons.mp ht with z | z
        · exact absurd z.symm c
        · exact z
      rw [gP_perm h (List.Perm.swap u t ts)]
      show gP P (t :: ts) (u :: A) + gP P (t :: ts) ((u.2, u.1) :: A) = gP P ts (u :: A) + gP P ts ((u.2, u.1) :: A)
      rw [gP_dup h _ ht', gP_dup h _ ht']
theorem gP_uniq {P : List (Int × Int) → Prop} (h : OkP P) (A : List (Int × Int)) (l : List (Int × Int)) : gP P (uniq l) A = gP P l A := by
  have : ∀ (l s : List (Int × Int)), gP P (l.foldl putD s) A = gP P (s ++ l) A := by
    intro l
    induction l with
    | nil => intro s; simp
    | cons x l ih =>
      intro s
      rw [List.foldl_cons, ih]
      unfold putD
      by_cases c : x ∈ s
      · rw [if_pos c, gP_perm h (List.perm_middle : (s ++ x :: l).Perm (x :: (s ++ l)))]
        exact (gP_dup h A (List.mem_append_left _ c)).symm
      · rw [if_neg c, List.append_assoc]
        rfl
  exact this l []
/-- ends changed about -/
theorem gP_swap {P : List (Int × Int) → Prop} {f g : Int × Int → Int × Int} (hs : ∀ x, g x = f x ∨ g x = ((f x).2, (f x).1)) : ∀ {l : List (Int × Int)} (A : List (Int × Int)), gP P (l.map f) A = gP P (l.map g) A
  | [], A => rfl
  | x :: l, A => by
    show gP P (l.map f) (f x :: A) + gP P (l.map f) (((f x).2, (f x).1) :: A) = gP P (l.map g) (g x :: A) + gP P (l.map g) (((g x).2, (g x).1) :: A)
    rcases hs x with e | e
    · rw [e, gP_swap hs, gP_swap hs]
    · rw [e, gP_swap hs, gP_swap hs]
      show _ = gP P (l.map g) (((f x).2, (f x).1) :: A) + gP P (l.map g) (f x :: A)
      omega
/-- a pair of points behind the merging -/
def nn (t e : Int × Int) : Int × Int := (nm t e.1, nm t e.2)
theorem gP_mg {P : List (Int × Int) → Prop} (h : OkP P) (ts : List (Int × Int)) (t : Int × Int) (A : List (Int × Int)) : gP P (mg ts t) A = gP P ((wo ts t).map (nn t)) A := by
  unfold mg
  rw [gP_perm h (srt_perm _), gP_uniq h]
  refine (gP_swap (fun x => ?_) A).symm
  unfold nn mt mm
  dsimp only
  by_cases c : nm t x.2 < nm t x.1
  · have c2 : ¬ nm t x.1 < nm t x.2 := by omega
    rw [if_pos c, if_neg c2]
    exact .inr rfl
  · rw [if_neg c]
    by_cases c2 : nm t x.1 < nm t x.2
    · rw [if_pos c2]
      exact .inl rfl
    · rw [if_neg c2]
      have : nm t x.1 = nm t x.2 := by omega
      rw [this]
      exact .inl rfl
/-- a tie cut, a tie merged -/
theorem gP_dc {P P1 P2 : List (Int × Int) → Prop} (h : OkP P) (V : Int × Int → Prop) (hV : ∀ e, V e → V (e.2, e.1)) (f : Int × Int → Int × Int) (hf : ∀ e, f (e.2, e.1) = ((f e).2, (f e).1)) {t : Int × Int}
    (base : ∀ A, (∀ e ∈ A, V e) → iv (P (t :: A)) + iv (P ((t.2, t.1) :: A)) = iv (P1 A) + iv (P2 (A.map f))) :
    ∀ {us A : List (Int × Int)}, (∀ e ∈ us, V e) → (∀ e ∈ A, V e) → gP P (t :: us) A = gP P1 us A + gP P2 (us.map f) (A.map f)
  | [], A, _, hA => base A hA
  | w :: us, A, hu, hA => by
    have sw : ∀ a b : Int × Int, gP P us (a :: b :: A) = gP P us (b :: a :: A) := fun a b => gP_set h fun e => by
      simp only [List.mem_cons]
      exact ⟨fun q => q.elim (fun z => .inr (.inl z)) fun q => q.elim .inl fun z => .inr (.inr z), fun q => q.elim (fun z => .inr (.inl z)) fun q => q.elim .inl fun z => .inr (.inr z)⟩
    have hw := hu w List.mem_cons_self
    have hus : ∀ e ∈ us, V e := fun e he => hu e (List.mem_cons_of_mem _ he)
    have i1 : gP P us (t :: w :: A) + gP P us ((t.2, t.1) :: w :: A) = gP P1 us (w :: A) + gP P2 (us.map f) (f w :: A.map f) := gP_dc h V hV f hf base (us := us) (A := w :: A) hus fun e he => by
      rcases List.mem_cons.mp he with rfl | he
      · exact hw
      · exact hA e he
    have i2 : gP P us (t :: (w.2, w.1) :: A) + gP P us ((t.2, t.1) :: (w.2, w.1) :: A) = gP P1 us ((w.2, w.1) :: A) + gP P2 (us.map f) (f (w.2, w.1) :: A.map f) := gP_dc h V hV f hf base (us := us) (A := (w.2, w.1) :: A) hus fun e he => by
      rcases List.mem_cons.mp he with rfl | he
      · exact hV _ hw
      · exact hA e he
    rw [hf] at i2
    show gP P us (w :: t :: A) + gP P us ((w.2, w.1) :: t :: A) + (gP P us (w :: (t.2, t.1) :: A) + gP P us ((w.2, w.1) :: (t.2, t.1) :: A)) =
      gP P1 us (w :: A) + gP P1 us ((w.2, w.1) :: A) + (gP P2 (us.map f) (f w :: A.map f) + gP P2 (us.map f) (((f w).2, (f w).1) :: A.map f))
    rw [sw w t, sw (w.2, w.1) t, sw w (t.2, t.1), sw (w.2, w.1) (t.2, t.1)]
    omega
/-- sums over all lists of True and False -/
def SB : Nat → (List Bool → Int) → Int
  | 0, w => w []
  | m + 1, w => SB m (fun o => w (true :: o)) + SB m (fun o => w (false :: o))
theorem SB_congr : ∀ {m : Nat} {w w' : List Bool → Int}, (∀ o, o.length = m → w o = w' o) → SB m w = SB m w'
  | 0, _, _, h => h [] rfl
  | m + 1, w, w', h => by
    show SB m _ + SB m _ = SB m _ + SB m _
    rw [SB_congr fun o ho => h (true :: o) (by simp [ho]), SB_congr fun o ho => h (false :: o) (by simp [ho])]
theorem gP_SB {P : List (Int × Int) → Prop} (h : OkP P) : ∀ {ts A : List (Int × Int)}, gP P ts A = SB ts.length (fun o => iv (P (arr ts o ++ A)))
  | [], A => rfl
  | t :: ts, A => by
    show gP P ts (t :: A) + gP P ts ((t.2, t.1) :: A) = SB ts.length (fun o => iv (P (arr (t :: ts) (true :: o) ++ A))) + SB ts.length (fun o => iv (P (arr (t :: ts) (false :: o) ++ A)))
    rw [gP_SB h, gP_SB h]
    have mv : ∀ (x : Int × Int) (l : List (Int × Int)), iv (P (l ++ x :: A)) = iv (P (x :: l ++ A)) := fun x l => by
      have e : ∀ e, e ∈ l ++ x :: A ↔ e ∈ x :: l ++ A := fun e => by
        simp only [List.mem_append, List.mem_cons, List.cons_append]
        exact ⟨fun q => q.elim (fun z => .inr (.inl z)) fun q => q.elim .inl fun z => .inr (.inr z), fun q => q.elim (fun z => .inr (.inl z)) fun q => q.elim .inl fun z => .inr (.inr z)⟩
      exact iv_congr ⟨h.congr e, h.congr fun y => (e y).symm⟩
    rw [SB_congr fun o _ => mv t (arr ts o), SB_congr fun o _ => mv (t.2, t.1) (arr ts o)]
    rfl
theorem wy_step (m a b : Nat) (hb : b < 2) : wy (m + 1) ((2 * a + b : Nat) : Int) = decide (b = 1) :: wy m (a : Int) := by
  have h1 : ((2 * a + b : Nat) : Int) % 2 = b := by omega
  have h2 : ((2 * a + b : Nat) : Int) / 2 = a := by omega
  rw [wy, h1, h2]
  congr 1
  rw [Bool.eq_iff_iff, decide_eq_true_iff, decide_eq_true_iff]
  omega
theorem sm_wy : ∀ (m : Nat) (w : List Bool → Int), sm (2 ^ m) (fun k => w (wy m (k : Int))) = SB m w
  | 0, w => by simp [sm, SB, wy]
  | m + 1, w => by
    rw [Nat.pow_succ, Nat.mul_comm, sm_block]
    have e : ∀ a : Nat, sm 2 (fun b => w (wy (m + 1) ((2 * a + b : Nat) : Int))) = w (false :: wy m (a : Int)) + w (true :: wy m (a : Int)) := fun a => by
      show (0 + w (wy (m + 1) ((2 * a + 0 : Nat) : Int))) + w (wy (m + 1) ((2 * a + 1 : Nat) : Int)) = _
      rw [wy_step m a 0 (by omega), wy_step m a 1 (by omega)]
      simp
    rw [sm_congr fun a _ => e a, sm_add, sm_wy m fun o => w (false :: o), sm_wy m fun o => w (true :: o)]
    show _ = SB m _ + SB m _
    omega
end Q

set_option linter.all false
/-! Sets of ties without a broken ring. -/
namespace Q
open Dv
/-- a and b are led together by the ties B -/
def Con (B : List (Int × Int)) (a b : Int) : Prop := ∀ f : Int → Int, (∀ e ∈ B, f e.1 = f e.2) → f a = f b
theorem Con.sub {B B' : List (Int × Int)} {a b : Int} (h : Con B a b) (s : ∀ e ∈ B, e ∈ B') : Con B' a b := fun f hf => h f fun e he => hf e (s e he)
/-- the ties that are in the set -/
def sel : List (Int × Int) → List Bool → List (Int × Int)
  | t :: ts, b :: o => if b = true then t :: sel ts o else sel ts o
  | _, _ => []
/-- no broken ring: no tie's ends are led together by ties of the set that stand behind it -/
def NB : List (Int × Int) → List Bool → Prop
  | t :: ts, _ :: o => ¬ Con (sel ts o) t.1 t.2 ∧ NB ts o
  | _, _ => True
def cntT : List Bool → Nat
  | [] => 0
  | b :: o => (if b = true then 1 else 0) + cntT o
/-- how many sets of m ties have no broken ring -/
noncomputable def cN (E : List (Int × Int)) (m : Nat) : Int := SB E.length fun o => iv (cntT o = m ∧ NB E o)
theorem SB_snoc : ∀ (m : Nat) (w : List Bool → Int), SB (m + 1) w = SB m (fun o => w (o ++ [true])) + SB m (fun o => w (o ++ [false]))
  | 0, w => rfl
  | m + 1, w => by
    show SB (m + 1) (fun o => w (true :: o)) + SB (m + 1) (fun o => w (false :: o)) = (SB m (fun o => w (true :: (o ++ [true]))) + SB m (fun o => w (false :: (o ++ [true])))) + (SB m (fun o => w (true :: (o ++ [false]))) + SB m (fun o => w (false :: (o ++ [false]))))
    rw [SB_snoc m fun o => w (true :: o), SB_snoc m fun o => w (false :: o)]
    omega
theorem SB_add : ∀ (m : Nat) (w w' : List Bool → Int), SB m (fun o => w o + w' o) = SB m w + SB m w'
  | 0, _, _ => rfl
  | m + 1, w, w' => by
    show SB m _ + SB m _ = SB m _ + SB m _ + (SB m _ + SB m _)
    rw [SB_add m (fun o => w (true :: o)), SB_add m (fun o => w (false :: o))]
    omega
theorem SB_none : ∀ m : Nat, SB m (fun _ => 0) = 0
  | 0 => rfl
  | m + 1 => by
    show SB m (fun _ => 0) + SB m (fun _ => 0) = 0
    rw [SB_none m]
    rfl
theorem cntT_snoc (b : Bool) : ∀ o : List Bool, cntT (o ++ [b]) = cntT o + (if b = true then 1 else 0)
  | [] => by simp [cntT]
  | c :: o => by
    show _ + cntT (o ++ [b]) = _ + cntT o + _
    rw [cntT_snoc b o]
    omega
theorem sel_snoc {t : Int × Int} {b : Bool} : ∀ {us : List (Int × Int)} {o : List Bool}, us.length = o.length → sel (us ++ [t]) (o ++ [b]) = sel us o ++ (if b = true then [t] else [])
  | [], [], _ => by cases b <;> rfl
  | w :: us, c :: o, h => by
    show (if c = true then w :: sel (us ++ [t]) (o ++ [b]) else sel (us ++ [t]) (o ++ [b])) = (if c = true then w :: sel us o else sel us o) ++ _
    rw [sel_snoc (by simpa using h)]
    cases c <;> rfl
  | [], _ :: _, h => by simp at h
  | _ :: _, [], h => by simp at h
theorem con_nil {a b : Int} (h : a ≠ b) : ¬ Con [] a b := fun q => h (q id (by simp))
theorem NB_false {t : Int × Int} (ht : t.1 ≠ t.2) : ∀ {us : List (Int × Int)} {o : List Bool}, us.length = o.length → (NB (us ++ [t]) (o ++ [false]) ↔ NB us o)
  | [], [], _ => ⟨fun _ => trivial, fun _ => ⟨con_nil ht, trivial⟩⟩
  | w :: us, c :: o, h => by
    show (¬ Con (sel (us ++ [t]) (o ++ [false])) w.1 w.2 ∧ NB (us ++ [t]) (o ++ [false])) ↔ (¬ Con (sel us o) w.1 w.2 ∧ NB us o)
    rw [NB_false ht (by simpa using h), sel_snoc (by simpa using h)]
    simp
  | [], _ :: _, h => by simp at h
  | _ :: _, [], h => by simp at h
theorem NB_loop {t : Int × Int} (ht : t.1 = t.2) {b : Bool} : ∀ {us : List (Int × Int)} {o : List Bool}, us.length = o.length → ¬ NB (us ++ [t]) (o ++ [b])
  | [], [], _ => fun q => q.1 (fun f _ => by rw [ht])
  | w :: us, c :: o, h => fun q => NB_loop ht (by simpa using h) q.2
  | [], _ :: _, h => by simp at h
  | _ :: _, [], h => by simp at h
theorem con_mm {B : List (Int × Int)} {a b : Int} : Con B (mm a b).1 (mm a b).2 ↔ Con B a b := by
  unfold mm
  by_cases h : b < a
  · have h2 : ¬ a < b := by omega
    simp only [h, h2, ↓reduceIte]
    exact ⟨fun q f hf => (q f hf).symm, fun q f hf => (q f hf).symm⟩
  · by_cases h2 : a < b
    · simp only [h, h2, ↓reduceIte]
    · have : a = b := by omega
      subst this
      simp
theorem mm_eq {f : Int → Int} {a b : Int} : f (mm a b).1 = f (mm a b).2 ↔ f a = f b := by
  unfold mm
  by_cases h : b < a
  · have h2 : ¬ a < b := by omega
    simp only [h, h2, ↓reduceIte]
    exact ⟨Eq.symm, Eq.symm⟩
  · by_cases h2 : a < b
    · simp only [h, h2, ↓reduceIte]
    · have : a = b := by omega
      subst this
      simp
theorem lift_nm' {u v : Int} (huv : u < v) {h : Int → Int} (he : h u = h v) {x : Int} : h (if nm (u, v) x < v then nm (u, v) x else nm (u, v) x + 1) = h x := by
  unfold nm
  dsimp only
  by_cases c : x = v
  · rw [if_pos c, if_pos huv, he, c]
  · rw [if_neg c]
    by_cases d : v < x
    · rw [if_pos d, if_neg (by omega), Int.sub_add_cancel]
    · rw [if_neg d, if_pos (by omega)]
/-- with a tie in the set: its ends are one -/
theorem con_merge {t : Int × Int} (ht : t.1 < t.2) {B : List (Int × Int)} {a b : Int} : Con (B ++ [t]) a b ↔ Con (B.map (mt t)) (nm t a) (nm t b) := by
  have ends : nm t t.1 = nm t t.2 := by
    unfold nm
    rw [if_neg (by omega), if_neg (by omega), if_pos rfl]
  constructor
  · intro q f hf
    refine q (fun x => f (nm t x)) fun e he => ?_
    rcases List.mem_append.mp he with he | he
    · have := hf (mt t e) (List.mem_map.mpr ⟨e, he, rfl⟩)
      unfold mt at this
      exact mm_eq.mp this
    · rw [List.mem_singleton.mp he]
      rw [ends]
  · intro q f hf
    have ft : f t.1 = f t.2 := hf t (by simp)
    have l := fun x => lift_nm' (u := t.1) (v := t.2) ht (h := f) ft (x := x)
    have := q (fun x => f (if x < t.2 then x else x + 1)) fun e' he' => by
      obtain ⟨e, he, rfl⟩ := List.mem_map.mp he'
      unfold mt
      refine (mm_eq (f := fun x => f (if x < t.2 then x else x + 1))).mpr ?_
      rw [show nm t e.1 = nm (t.1, t.2) e.1 from rfl, show nm t e.2 = nm (t.1, t.2) e.2 from rfl, l, l]
      exact hf e (List.mem_append_left _ he)
    rw [show nm t a = nm (t.1, t.2) a from rfl, show nm t b = nm (t.1, t.2) b from rfl, l, l] at this
    exact this
theorem sel_map (f : Int × Int → Int × Int) : ∀ (us : List (Int × Int)) (o : List Bool), sel (us.map f) o = (sel us o).map f
  | [], _ => by simp [sel]
  | _ :: _, [] => rfl
  | w :: us, c :: o => by
    show (if c = true then f w :: sel (us.map f) o else sel (us.map f) o) = (if c = true then w :: sel us o else sel us o).map f
    rw [sel_map f us o]
    cases c <;> rfl
theorem NB_true {t : Int × Int} (ht : t.1 < t.2) : ∀ {us : List (Int × Int)} {o : List Bool}, us.length = o.length → (NB (us ++ [t]) (o ++ [true]) ↔ NB (us.map (mt t)) o)
  | [], [], _ => ⟨fun _ => trivial, fun _ => ⟨con_nil (by omega), trivial⟩⟩
  | w :: us, c :: o, h => by
    show (¬ Con (sel (us ++ [t]) (o ++ [true])) w.1 w.2 ∧ NB (us ++ [t]) (o ++ [true])) ↔ (¬ Con (sel (us.map (mt t)) o) (mt t w).1 (mt t w).2 ∧ NB (us.map (mt t)) o)
    rw [NB_true ht (by simpa using h), sel_snoc (by simpa using h), if_pos rfl, con_merge ht, sel_map]
    unfold mt
    rw [con_mm]
  | [], _ :: _, h => by simp at h
  | _ :: _, [], h => by simp at h
theorem cN_loop {us : List (Int × Int)} {t : Int × Int} (ht : t.1 = t.2) (m : Nat) : cN (us ++ [t]) m = 0 := by
  unfold cN
  rw [List.length_append, List.length_singleton, SB_snoc, SB_congr (w' := fun _ => 0) fun o ho => iv_f fun q => NB_loop ht ho.symm q.2, SB_congr (w := fun o => iv (cntT (o ++ [false]) = m ∧ NB (us ++ [t]) (o ++ [false]))) (w' := fun _ => 0) fun o ho => iv_f fun q => NB_loop ht ho.symm q.2, SB_none]
  rfl
theorem cN_dc {us : List (Int × Int)} {t : Int × Int} (ht : t.1 < t.2) (m : Nat) : cN (us ++ [t]) m = cN us m + (if m = 0 then 0 else cN (us.map (mt t)) (m - 1)) := by
  unfold cN
  rw [List.length_append, List.length_singleton, SB_snoc, List.length_map]
  have e1 : SB us.length (fun o => iv (cntT (o ++ [false]) = m ∧ NB (us ++ [t]) (o ++ [false]))) = SB us.length (fun o => iv (cntT o = m ∧ NB us o)) := SB_congr fun o ho => by
    rw [cntT_snoc, NB_false (by omega) ho.symm]
    simp
  rw [e1]
  by_cases z : m = 0
  · subst z
    rw [if_pos rfl, SB_congr (w' := fun _ => 0) fun o ho => iv_f fun q => by
      have := q.1
      rw [cntT_snoc] at this
      simp at this, SB_none]
    omega
  · rw [if_neg z]
    have e2 : SB us.length (fun o => iv (cntT (o ++ [true]) = m ∧ NB (us ++ [t]) (o ++ [true]))) = SB us.length (fun o => iv (cntT o = m - 1 ∧ NB (us.map (mt t)) o)) := SB_congr fun o ho => by
      rw [cntT_snoc, NB_true ht ho.symm]
      refine iv_congr ⟨fun q => ⟨by have := q.1; simp at this; omega, q.2⟩, fun q => ⟨by have := q.1; simp; omega, q.2⟩⟩
    rw [e2]
    omega
/-- a tie, or a point twice -/
def WT (n : Nat) (e : Int × Int) : Prop := 0 ≤ e.1 ∧ e.1 ≤ e.2 ∧ e.2 < n
theorem mt_wt {n : Nat} {t e : Int × Int} (ht : Tie ((n : Int) + 1) t) (he : WT (n + 1) e) : WT n (mt t e) := by
  unfold WT at he
  obtain ⟨a0, a1⟩ := nm_bd ht (x := e.1) (by omega) (by omega)
  obtain ⟨b0, b1⟩ := nm_bd ht (x := e.2) (by omega) (by omega)
  unfold mt mm WT
  dsimp only
  split <;> split <;> omega
theorem fits_snoc (us : List (Int × Int)) (t : Int × Int) (l : List Int) : fitsB (us ++ [t]) l = (fitsB us l && !decide (gi l t.1 = gi l t.2)) := by
  unfold fitsB
  rw [List.all_append]
  simp
theorem col_dc' {n q : Nat} {us : List (Int × Int)} {t : Int × Int} (ht : Tie ((n : Int) + 1) t) (hu : ∀ e ∈ us, WT (n + 1) e) : col (n + 1) q (us ++ [t]) = col (n + 1) q us - col n q (us.map (mt t)) := by
  have ht' := ht
  unfold Tie at ht'
  unfold col
  have e1 : S (n + 1) q (fun l => if fitsB (us ++ [t]) l = true then (1 : Int) else 0) = S (n + 1) q (fun l => (if fitsB us l = true then (1 : Int) else 0) - (if gi l t.1 = gi l t.2 then (if fitsB us l = true then 1 else 0) else 0)) := by
    refine S_congr fun l _ => ?_
    rw [fits_snoc]
    by_cases a : fitsB us l = true <;> by_cases b : gi l t.1 = gi l t.2 <;> simp [a, b]
  rw [e1, S_sub, S_merge (by omega) (by omega) (by omega)]
  congr 1
  refine S_congr fun l hl => ?_
  have : fitsB us (insA t.2.toNat (gi l t.1) l) = fitsB (us.map (mt t)) l := by
    rw [Bool.eq_iff_iff, fitsB_iff, fitsB_iff]
    have key : ∀ e ∈ us, (gi (insA t.2.toNat (gi l t.1) l) e.1 ≠ gi (insA t.2.toNat (gi l t.1) l) e.2 ↔ gi l (mt t e).1 ≠ gi l (mt t e).2) := fun e he => by
      have h := hu e he
      unfold WT at h
      have hll := hl.1
      rw [gi_nm (by omega) (by omega) (by omega) (by omega), gi_nm (by omega) (by omega) (by omega) (by omega)]
      exact (gi_mm l _ _).symm
    constructor
    · intro h e' he'
      obtain ⟨e, he, rfl⟩ := List.mem_map.mp he'
      exact (key e he).mp (h e he)
    · intro h e he
      exact (key e he).mpr (h _ (List.mem_map.mpr ⟨e, he, rfl⟩))
  rw [this]
theorem sg_even {m : Nat} {x : Int} : (-1 : Int) ^ (m + 1) * x = - ((-1) ^ m * x) := by
  rw [Int.pow_succ, Int.mul_assoc]
  simp [Int.mul_neg]
/-- the row's numbers count the sets without a broken ring -/
theorem whitney : ∀ (k n : Nat) {E : List (Int × Int)}, E.length = k → (∀ e ∈ E, WT n e) →
    ∃ c : List Int, c.length = n + 1 ∧ (∀ m, m ≤ n → c.getD (n - m) 0 = (-1) ^ m * cN E m) ∧ (∀ m, n < m → cN E m = 0) ∧ ∀ q : Nat, ev c q = col n q E
  | 0, n, E, hk, hE => by
    have : E = [] := List.length_eq_zero_iff.mp hk
    subst this
    have c0 : ∀ m, cN [] m = if m = 0 then 1 else 0 := fun m => by
      show iv (cntT [] = m ∧ NB [] []) = _
      by_cases z : m = 0
      · rw [if_pos z, iv_t ⟨z.symm, trivial⟩]
      · rw [if_neg z, iv_f fun q => z q.1.symm]
    refine ⟨List.replicate n 0 ++ [1], by simp, fun m hm => ?_, fun m hm => by rw [c0, if_neg (by omega)], fun q => by rw [ev_one, col_nil]⟩
    rw [c0, List.getD_eq_getElem?_getD]
    by_cases z : m = 0
    · subst z
      simp
    · rw [List.getElem?_append_left (by simp; omega), if_neg z, List.getElem?_replicate, if_pos (by omega)]
      simp
  | k + 1, n, E, hk, hE => by
    rcases List.eq_nil_or_concat E with rfl | ⟨us, t, rfl⟩
    · simp at hk
    · rw [List.concat_eq_append] at *
      rw [List.length_append, List.length_singleton] at hk
      have ht := hE t (by simp)
      have ht' := ht
      unfold WT at ht'
      have hu : ∀ e ∈ us, WT n e := fun e he => hE e (by simp [he])
      by_cases lp : t.1 = t.2
      · refine ⟨List.replicate (n + 1) 0, by simp, fun m hm => ?_, fun m _ => cN_loop lp m, fun q => ?_⟩
        · rw [cN_loop lp, List.getD_eq_getElem?_getD, List.getElem?_replicate, if_pos (by omega)]
          simp
        · have ez : ∀ k : Nat, ev (List.replicate k 0) q = 0 := fun k => by
            induction k with
            | zero => rfl
            | succ k ih =>
              rw [List.replicate_succ]
              show 0 + (q : Int) * ev (List.replicate k 0) q = 0
              rw [ih]
              simp
          rw [ez]
          unfold col
          rw [S_congr (w' := fun _ => 0) fun l _ => ?_, S_zero]
          rw [fits_snoc, lp]
          simp
      · obtain ⟨n, rfl⟩ : ∃ z, n = z + 1 := ⟨n - 1, by omega⟩
        have htie : Tie ((n : Int) + 1) t := ⟨by omega, by omega, by omega⟩
        obtain ⟨c1, l1, a1, b1, d1⟩ := whitney k (n + 1) (E := us) (by omega) hu
        obtain ⟨c2, l2, a2, b2, d2⟩ := whitney k n (E := us.map (mt t)) (by rw [List.length_map]; omega) fun e' he' => by
          obtain ⟨e, he, rfl⟩ := List.mem_map.mp he'
          exact mt_wt htie (hu e he)
        have lz : (c2 ++ [0]).length = n + 2 := by rw [List.length_append, l2]; rfl
        refine ⟨lessL c1 (c2 ++ [0]), lessL_len l1 lz, fun m hm => ?_, fun m hm => ?_, fun q => ?_⟩
        · rw [lessL_getD (by rw [l1, lz]), snoc0_getD, cN_dc (by omega), a1 m hm]
          by_cases z : m = 0
          · subst z
            rw [if_pos rfl, getD_over (by omega)]
            simp
          · obtain ⟨m, rfl⟩ : ∃ z, m = z + 1 := ⟨m - 1, by omega⟩
            have := a2 m (by omega)
            rw [if_neg z, show n + 1 - (m + 1) = n - m by omega, this, Nat.add_sub_cancel, sg_even, sg_even, Int.mul_add]
            omega
        · rw [cN_dc (by omega), b1 m hm, if_neg (by omega), b2 (m - 1) (by omega)]
          rfl
        · rw [ev_lessL _ (by rw [l1, lz]), ev_snoc0, d1, d2, col_dc' htie hu]
theorem SB_nonneg : ∀ {m : Nat} {w : List Bool → Int}, (∀ o, 0 ≤ w o) → 0 ≤ SB m w
  | 0, _, h => h []
  | m + 1, w, h => Int.add_nonneg (SB_nonneg fun o => h _) (SB_nonneg fun o => h _)
theorem iv_nonneg (p : Prop) : 0 ≤ iv p := by
  unfold iv
  split <;> omega
theorem cN_nonneg (E : List (Int × Int)) (m : Nat) : 0 ≤ cN E m := SB_nonneg fun o => iv_nonneg _
/-- the row of a web, place by place -/
theorem Rw_whit {p : Int} {ts : List (Int × Int)} (w : Web p ts) : (∀ m : Nat, m ≤ p.toNat → (Rw p ts).getD (p.toNat - m) 0 = (-1) ^ m * cN ts m) ∧ ∀ m : Nat, p.toNat < m → cN ts m = 0 := by
  have ep : ((p.toNat : Nat) : Int) = p := by have := w.1; omega
  obtain ⟨c, h1, h2, h3, h4⟩ := whitney ts.length p.toNat (E := ts) rfl fun e he => by
    have := w.2.2.tie e he
    unfold Tie at this
    exact ⟨by omega, by omega, by omega⟩
  have : Rw p ts = c := ev_inj (N := 0) (by rw [Rw_len w, h1]) fun q _ => by rw [ev_Rw w, h4]
  rw [this]
  exact ⟨h2, h3⟩
end Q

set_option linter.all false
/-! Lists told and lists due. -/
namespace Q
open Dv
def ties_like (found : List (Int × Int)) (due : List (Int × Int)) : Option Bool :=
  ((if (!true) = true then some true else some (!decide ((found.length : Int) = (due.length : Int))))).bind fun b1 => if b1 = true then
    some false
  else
  (some (found.zip due)).bind fun xs2 => (loopR (S := Unit) (R := Bool) (fun (s3 : Unit) (q4 : (Int × Int) × (Int × Int)) =>
      ((if (!true) = true then some true else (if (!decide (2 = 2)) = true then some true else some (!decide (q4.1 = q4.2))))).bind fun b8 => if b8 = true then
        (some false).bind fun y9 => some (.ret y9)
      else
      (some [q4.1.1, q4.1.2]).bind fun xs10 => (loopR (S := Unit) (R := Bool) (fun (s11 : Unit) (q12 : Int) =>
          ((if (!true) = true then some true else some false)).bind fun b16 => if b16 = true then
            (some false).bind fun y17 => some (.ret y17)
          else
          some (.go ())) () xs10).bind fun st13 => st13.elim (fun s14 =>
      some (.go ())) (fun y15 => some (.ret y15))) () xs2).bind fun st5 => st5.elim (fun s6 =>
  some true) (fun y7 => some y7)
def numbers_like (found : List Int) (due : List Int) : Option Bool :=
  ((if (!true) = true then some true else some (!decide ((found.length : Int) = (due.length : Int))))).bind fun b1 => if b1 = true then
    some false
  else
  (some (found.zip due)).bind fun xs2 => (loopR (S := Unit) (R := Bool) (fun (s3 : Unit) (q4 : Int × Int) =>
      ((if (!true) = true then some true else (if false = true then some true else some (!decide (q4.1 = q4.2))))).bind fun b8 => if b8 = true then
        (some false).bind fun y9 => some (.ret y9)
      else
      some (.go ())) () xs2).bind fun st5 => st5.elim (fun s6 =>
  some true) (fun y7 => some y7)
theorem zip_any {α : Type} [DecidableEq α] : ∀ {xs ys : List α}, xs.length = ys.length → (xs.zip ys).any (fun q => !decide (q.1 = q.2)) = !decide (xs = ys)
  | [], [], _ => rfl
  | x :: xs, y :: ys, h => by
    rw [List.zip_cons_cons, List.any_cons, zip_any (xs := xs) (ys := ys) (by simpa using h)]
    by_cases e : x = y <;> simp [e]
  | [], _ :: _, h => by simp at h
  | _ :: _, [], h => by simp at h
theorem ties_like_eq (xs ys : List (Int × Int)) : ties_like xs ys = some (decide (xs = ys)) := by
  unfold ties_like
  by_cases h : xs.length = ys.length
  · have h' : (xs.length : Int) = (ys.length : Int) := by omega
    simp only [h', Bool.not_true, Bool.false_eq_true, ↓reduceIte, decide_true, Option.bind_some]
    rw [loopR_any (fun q => !decide (q.1 = q.2)) false, zip_any h, Option.bind_some]
    · by_cases e : xs = ys <;> simp [e]
    · intro q _
      by_cases e : q.1 = q.2
      · simp [e, loopR]
      · simp [e]
  · have h' : ¬ (xs.length : Int) = (ys.length : Int) := by omega
    have h2 : xs ≠ ys := fun e => h (by rw [e])
    simp [h', h2]
theorem numbers_like_eq (xs ys : List Int) : numbers_like xs ys = some (decide (xs = ys)) := by
  unfold numbers_like
  by_cases h : xs.length = ys.length
  · have h' : (xs.length : Int) = (ys.length : Int) := by omega
    simp only [h', Bool.not_true, Bool.false_eq_true, ↓reduceIte, decide_true, Option.bind_some]
    rw [loopR_any (fun q => !decide (q.1 = q.2)) false, zip_any h, Option.bind_some]
    · by_cases e : xs = ys <;> simp [e]
    · intro q _
      by_cases e : q.1 = q.2
      · simp [e]
      · simp [e]
  · have h' : ¬ (xs.length : Int) = (ys.length : Int) := by omega
    have h2 : xs ≠ ys := fun e => h (by rw [e])
    simp [h', h2]
end Q

set_option linter.all false
namespace Q
open Dv
def pieces (points : Int) (ties : List (Int × Int)) : Rs (List (List Int)) :=
  (asked_web points ties).bind fun y1 => exB y1 fun _ =>
  (lrng points).bind fun heads_4 =>
  (rng 0 points).bind fun xs5 => (loopG (S := (List Int)) (fun (s6 : (List Int)) (q7 : Int) =>
      (some ties).bind fun xs11 => (loopG (S := (List Int)) (fun (s12 : (List Int)) (q13 : Int × Int) =>
          ((atZ s12 q13.1).bind fun y17 => (atZ s12 q13.2).bind fun y18 => some (if y18 < y17 then y18 else y17)).bind fun least_19 =>
          (setZ s12 q13.1 least_19).bind fun heads_20 =>
          (setZ heads_20 q13.2 least_19).bind fun heads_21 =>
          some heads_21) s6 xs11).bind fun s15 =>
      some s15) heads_4 xs5).bind fun s9 =>
  (some ([] : List (List Int))).bind fun found_22 =>
  (rng 0 points).bind fun xs23 => (loopG (S := (List (List Int))) (fun (s24 : (List (List Int))) (q25 : Int) =>
      ((rng 0 points).bind fun y32 => lc (fun (q29 : Int) => (atZ s9 q29).bind fun y30 => some (decide (y30 = q25))) (fun (q29 : Int) => some q29) y32).bind fun piece_33 =>
      (some (decide (0 < (piece_33.length : Int)))).bind fun b34 => if b34 = true then
        (addL s24 piece_33).bind fun found_35 =>
        some found_35
      else
        some s24) found_22 xs23).bind fun s27 =>
  (some s27).bind fun y36 => some (.ok y36)
def beside (points : Int) (ties : List (Int × Int)) (more : Int) (others : List (Int × Int)) : Rs (List (Int × Int)) :=
  (asked_web points ties).bind fun y37 => exB y37 fun _ =>
  (asked_web more others).bind fun y40 => exB y40 fun _ =>
  ((lc (fun (q43 : Int × Int) => some true) (fun (q43 : Int × Int) => some ((q43.1 + points), (q43.2 + points))) others).bind fun y45 => catL ties y45).bind fun y46 => some (.ok y46)
def parts (points : Int) (ties : List (Int × Int)) : Option (List (List Int)) :=
  (some ([] : List (List Int))).bind fun found_47 =>
  (rng 0 points).bind fun xs48 => (loopG (S := (List (List Int))) (fun (s49 : (List (List Int))) (q50 : Int) =>
      (((lc (fun (q57 : List Int) => some (memL q50 q57)) (fun (q57 : List Int) => some q57) s49).bind fun y59 => some (y59.length : Int)).bind fun y60 => some (decide (y60 = 0))).bind fun b61 => if b61 = true then
        (some [q50]).bind fun part_62 =>
        (rng 0 points).bind fun xs63 => (loopG (S := (List Int)) (fun (s64 : (List Int)) (q65 : Int) =>
            (some ties).bind fun xs69 => (loopG (S := (List Int)) (fun (s70 : (List Int)) (q71 : Int × Int) =>
                (some (!((memL q71.1 s70) == (memL q71.2 s70)))).bind fun b75 => if b75 = true then
                  (((if (memL q71.1 s70) = true then some q71.2 else some q71.1)).bind fun y76 => addL s70 y76).bind fun part_77 =>
                  some part_77
                else
                  some s70) s64 xs69).bind fun s73 =>
            some s73) part_62 xs63).bind fun s67 =>
        ((srtI s67).bind fun y78 => addL s49 y78).bind fun found_79 =>
        some found_79
      else
        some s49) found_47 xs48).bind fun s52 =>
  some s52
def lists_like (found : List (List Int)) (due : List (List Int)) : Option Bool :=
  ((if (!true) = true then some true else some (!decide ((found.length : Int) = (due.length : Int))))).bind fun b80 => if b80 = true then
    some false
  else
  (some (found.zip due)).bind fun xs81 => (loopR (S := Unit) (R := Bool) (fun (s82 : Unit) (q83 : (List Int) × (List Int)) =>
      ((numbers_like q83.1 q83.2).bind fun y87 => some (!y87)).bind fun b88 => if b88 = true then
        (some false).bind fun y89 => some (.ret y89)
      else
      some (.go ())) () xs81).bind fun st84 => st84.elim (fun s85 =>
  some true) (fun y86 => some y86)
def rI (n : Nat) : List Int := (List.range n).map fun i => ((i : Nat) : Int)
theorem mem_rI {n : Nat} {v : Int} : v ∈ rI n ↔ 0 ≤ v ∧ v < n := by
  unfold rI
  rw [List.mem_map]
  constructor
  · rintro ⟨i, hi, rfl⟩
    have := List.mem_range.mp hi
    omega
  · rintro ⟨h1, h2⟩
    exact ⟨v.toNat, List.mem_range.mpr (by omega), by omega⟩
theorem rI_lt (n : Nat) : (rI n).Pairwise (· < ·) := by
  unfold rI
  rw [List.pairwise_map]
  exact List.Pairwise.imp (fun {a b} h => by omega) List.pairwise_lt_range
theorem con_refl {B : List (Int × Int)} (a : Int) : Con B a a := fun _ _ => rfl
theorem Con.symm {B : List (Int × Int)} {a b : Int} (h : Con B a b) : Con B b a := fun f hf => (h f hf).symm
theorem Con.trans {B : List (Int × Int)} {a b c : Int} (h : Con B a b) (k : Con B b c) : Con B a c := fun f hf => (h f hf).trans (k f hf)
theorem con_edge {B : List (Int × Int)} {e : Int × Int} (h : e ∈ B) : Con B e.1 e.2 := fun f hf => hf e h
/-- the least point of its piece -/
def Lst (ts : List (Int × Int)) (v : Int) : Prop := ∀ u, 0 ≤ u → u < v → ¬ Con ts u v
theorem lst_ex (ts : List (Int × Int)) : ∀ (k : Nat) (v : Int), 0 ≤ v → v < k → ∃ m, 0 ≤ m ∧ m ≤ v ∧ Con ts m v ∧ Lst ts m
  | 0, v, h0, h1 => by omega
  | k + 1, v, h0, h1 => by
    by_cases c : Lst ts v
    · exact ⟨v, h0, by omega, con_refl v, c⟩
    · have : ∃ u, 0 ≤ u ∧ u < v ∧ Con ts u v := Classical.byContradiction fun z => c fun u a b d => z ⟨u, a, b, d⟩
      obtain ⟨u, a, b, d⟩ := this
      obtain ⟨m, m0, m1, m2, m3⟩ := lst_ex ts k u a (by omega)
      exact ⟨m, m0, by omega, m2.trans d, m3⟩
/-- what is closed under ties and holds a point holds its piece -/
theorem clo_all {ts : List (Int × Int)} {Z : Int → Prop} {v : Int} (h : ∀ e ∈ ts, (Z e.1 ↔ Z e.2)) (hv : Z v) {u : Int} (hc : Con ts v u) : Z u := by
  have := hc (fun x => @ite _ (Z x) (Classical.propDecidable _) 1 0) fun e he => by
    by_cases c : Z e.1
    · rw [if_pos c, if_pos ((h e he).mp c)]
    · rw [if_neg c, if_neg fun z => c ((h e he).mpr z)]
  rw [if_pos hv] at this
  refine Classical.byContradiction fun z => ?_
  rw [if_neg z] at this
  omega
open Classical in
/-- a point's piece -/
noncomputable def cmp (n : Nat) (ts : List (Int × Int)) (v : Int) : List Int := (rI n).filter fun u => decide (Con ts v u)
open Classical in
noncomputable def canon (n k : Nat) (ts : List (Int × Int)) : List (List Int) := ((rI k).filter fun v => decide (Lst ts v)).map (cmp n ts)
open Classical in
theorem canon_len (n k : Nat) (ts : List (Int × Int)) : (canon n k ts).length ≤ k := by
  unfold canon
  rw [List.length_map]
  refine Nat.le_trans (List.length_filter_le _ _) ?_
  simp [rI]
open Classical in
theorem canon_succ (n k : Nat) (ts : List (Int × Int)) : (Lst ts k → canon n (k + 1) ts = canon n k ts ++ [cmp n ts k]) ∧ (¬ Lst ts k → canon n (k + 1) ts = canon n k ts) := by
  unfold canon rI
  rw [List.range_succ, List.map_append, List.filter_append, List.map_append]
  constructor
  · intro h
    simp [h]
  · intro h
    simp [h]
open Classical in
theorem mem_cmp {n : Nat} {ts : List (Int × Int)} {v u : Int} : u ∈ cmp n ts v ↔ (0 ≤ u ∧ u < n) ∧ Con ts v u := by
  unfold cmp
  rw [List.mem_filter, mem_rI, decide_eq_true_iff]
open Classical in
theorem cmp_srt {n : Nat} {ts : List (Int × Int)} {v : Int} {s : List Int} (hn : n < 64) (hs : s.Nodup) (hm : ∀ u, u ∈ s ↔ u ∈ cmp n ts v) : srtI s = some (cmp n ts v) := by
  have nd : (cmp n ts v).Nodup := by
    unfold cmp
    refine List.Pairwise.filter _ ?_
    exact List.Pairwise.imp (fun {a b} h => by omega) (rI_lt n)
  have pm : (cmp n ts v).Perm s := (List.perm_ext_iff_of_nodup nd hs).mpr fun u => (hm u).symm
  have hl : (cmp n ts v).length ≤ n := by
    unfold cmp
    refine Nat.le_trans (List.length_filter_le _ _) ?_
    simp [rI]
  unfold srtI
  rw [if_pos (by rw [← pm.length_eq]; omega)]
  congr 1
  refine (srt_uniq ordI pm ?_).symm
  unfold cmp
  refine List.Pairwise.filter _ (List.Pairwise.imp (fun {a b} h => ?_) (rI_lt n))
  unfold leI
  rw [decide_eq_true_iff]
  omega
theorem loopG_pre2 {S : Type} {f : S → α → Option S} (I : List α → S → Prop) : ∀ {xs pre : List α} {s : S}, I pre s → (∀ pre' x post s, pre ++ xs = pre' ++ x :: post → I pre' s → Ok (f s x) (I (pre' ++ [x]))) → Ok (loopG f s xs) (I (pre ++ xs))
  | [], pre, s, h, _ => ⟨s, rfl, by rw [List.append_nil]; exact h⟩
  | x :: xs, pre, s, h, hs => by
    obtain ⟨s1, e1, h1⟩ := hs pre x xs s rfl h
    have e3 : pre ++ x :: xs = pre ++ [x] ++ xs := by simp
    obtain ⟨s2, e2, h2⟩ := loopG_pre2 I (xs := xs) h1 fun p y q s e i => hs p y q s (by rw [e3]; exact e) i
    refine ⟨s2, ?_, by rw [e3]; exact h2⟩
    show (f s x).bind _ = _
    rw [e1]
    exact e2
theorem nodup_sub : ∀ {s t : List Int}, s.Nodup → (∀ x ∈ s, x ∈ t) → s.length ≤ t.length
  | [], _, _, _ => Nat.zero_le _
  | x :: s, t, h, hs => by
    have hx := hs x List.mem_cons_self
    have hn := List.nodup_cons.mp h
    have := nodup_sub (s := s) (t := t.erase x) hn.2 fun y hy => (List.mem_erase_of_ne (fun z : y = x => hn.1 (z ▸ hy))).mpr (hs y (List.mem_cons_of_mem _ hy))
    rw [List.length_erase_of_mem hx] at this
    have := List.length_pos_of_mem hx
    rw [List.length_cons]
    omega
theorem nodup_bd {n : Nat} {s : List Int} (h : s.Nodup) (hs : ∀ x ∈ s, 0 ≤ x ∧ x < n) : s.length ≤ n := by
  have := nodup_sub (t := rI n) h fun x hx => mem_rI.mpr (hs x hx)
  simpa [rI] using this
/-- a piece, found by going along ties -/
theorem part_eq {n : Nat} {ts : List (Int × Int)} (hT : ∀ t ∈ ts, Tie n t) (hn : n ≤ 50) {v : Int} (v0 : 0 ≤ v) (v1 : v < n) :
    Ok (loopG (S := (List Int)) (fun (s64 : (List Int)) (q65 : Int) =>
            (some ts).bind fun xs69 => (loopG (S := (List Int)) (fun (s70 : (List Int)) (q71 : Int × Int) =>
                (some (!((memL q71.1 s70) == (memL q71.2 s70)))).bind fun b75 => if b75 = true then
                  (((if (memL q71.1 s70) = true then some q71.2 else some q71.1)).bind fun y76 => addL s70 y76).bind fun part_77 =>
                  some part_77
                else
                  some s70) s64 xs69).bind fun s73 =>
            some s73) [v] (rI n)) fun s => s.Nodup ∧ ∀ u, u ∈ s ↔ u ∈ cmp n ts v := by
  refine (loopG_ix (fun (j : Nat) (s : List Int) => s.Nodup ∧ v ∈ s ∧ (∀ x ∈ s, (0 ≤ x ∧ x < n) ∧ Con ts v x) ∧ ((∀ e ∈ ts, (e.1 ∈ s ↔ e.2 ∈ s)) ∨ j + 1 ≤ s.length))
      ⟨by simp, by simp, fun x hx => by rw [List.mem_singleton.mp hx]; exact ⟨⟨v0, v1⟩, con_refl v⟩, .inr (by simp)⟩ ?_).imp ?_
  · rintro j s hj ⟨i1, i2, i3, i4⟩
    rw [Option.bind_some]
    refine Ok.bind (loopG_pre2 (S := List Int) (fun pre s' => s'.Nodup ∧ (∀ x ∈ s, x ∈ s') ∧ (∀ x ∈ s', (0 ≤ x ∧ x < n) ∧ Con ts v x) ∧ s.length ≤ s'.length ∧ (∀ e ∈ pre, ¬ (e.1 ∈ s ↔ e.2 ∈ s) → s.length < s'.length) ∧ ((∀ e ∈ ts, (e.1 ∈ s ↔ e.2 ∈ s)) → s' = s)) (pre := []) (xs := ts)
      ⟨i1, fun _ h => h, i3, Nat.le_refl _, by simp, fun _ => rfl⟩ ?_) ?_
    · rintro pre e post s' hpre ⟨j1, j3, j4, j2, j5, j6⟩
      rw [List.nil_append] at hpre
      have he : e ∈ ts := by rw [hpre]; simp
      have ht := hT e he
      unfold Tie at ht
      have hl := nodup_bd j1 fun x hx => (j4 x hx).1
      have grow : ∀ x, x ∉ s' → (0 ≤ x ∧ x < n) → Con ts v x → ¬ (∀ e ∈ ts, (e.1 ∈ s ↔ e.2 ∈ s)) → Ok ((addL s' x).bind fun part_77 => some part_77) fun s'' => s''.Nodup ∧ (∀ x ∈ s, x ∈ s'') ∧ (∀ x ∈ s'', (0 ≤ x ∧ x < n) ∧ Con ts v x) ∧ s.length ≤ s''.length ∧ (∀ e' ∈ pre ++ [e], ¬ (e'.1 ∈ s ↔ e'.2 ∈ s) → s.length < s''.length) ∧ ((∀ e ∈ ts, (e.1 ∈ s ↔ e.2 ∈ s)) → s'' = s) := fun x hx hb hc hcl => by
        rw [addL_ok (by omega), Option.bind_some]
        refine .mk ⟨?_, fun y hy => List.mem_append_left _ (j3 y hy), fun y hy => ?_, by simp; omega, fun _ _ _ => by simp; omega, fun z => absurd z hcl⟩
        · refine List.nodup_append.mpr ⟨j1, by simp, fun a ha b hb => ?_⟩
          rw [List.mem_singleton.mp hb]
          exact fun z => hx (z ▸ ha)
        · rcases List.mem_append.mp hy with hy | hy
          · exact j4 y hy
          · rw [List.mem_singleton.mp hy]
            exact ⟨hb, hc⟩
      rw [Option.bind_some]
      by_cases c1 : e.1 ∈ s' <;> by_cases c2 : e.2 ∈ s'
      · have : ((memL e.1 s') == (memL e.2 s')) = true := by simp [memL, c1, c2]
        rw [this, if_neg (by simp)]
        refine .mk ⟨j1, j3, j4, j2, fun x hx hx2 => ?_, j6⟩
        rcases List.mem_append.mp hx with hx | hx
        · exact j5 x hx hx2
        · rw [List.mem_singleton.mp hx] at hx2
          -- one of the ends is new
          have : ∃ y, y ∈ s' ∧ y ∉ s := by
            by_cases d : e.1 ∈ s
            · exact ⟨e.2, c2, fun z => hx2 ⟨fun _ => z, fun _ => d⟩⟩
            · exact ⟨e.1, c1, d⟩
          obtain ⟨y, hy1, hy2⟩ := this
          have hsub : ∀ z ∈ y :: s, z ∈ s' := fun z hz => by
            rcases List.mem_cons.mp hz with rfl | hz
            · exact hy1
            · exact j3 z hz
          have := nodup_sub (List.nodup_cons.mpr ⟨hy2, i1⟩) hsub
          simp only [List.length_cons] at this
          omega
      · have : ((memL e.1 s') == (memL e.2 s')) = false := by simp [memL, c1, c2]
        rw [this, if_pos (by simp), if_pos (by simp [memL, c1]), Option.bind_some]
        refine grow e.2 c2 (by omega) ((j4 _ c1).2.trans (con_edge he)) fun z => ?_
        have := j6 z
        subst this
        exact c2 ((z e he).mp c1)
      · have : ((memL e.1 s') == (memL e.2 s')) = false := by simp [memL, c1, c2]
        rw [this, if_pos (by simp), if_neg (by simp [memL, c1]), Option.bind_some]
        refine grow e.1 c1 (by omega) ((j4 _ c2).2.trans (con_edge he).symm) fun z => ?_
        have := j6 z
        subst this
        exact c1 ((z e he).mpr c2)
      · have : ((memL e.1 s') == (memL e.2 s')) = true := by simp [memL, c1, c2]
        rw [this, if_neg (by simp)]
        refine .mk ⟨j1, j3, j4, j2, fun x hx hx2 => ?_, j6⟩
        rcases List.mem_append.mp hx with hx | hx
        · exact j5 x hx hx2
        · rw [List.mem_singleton.mp hx] at hx2
          exact absurd ⟨fun z => absurd (j3 _ z) c1, fun z => absurd (j3 _ z) c2⟩ hx2
    · rintro s' ⟨j1, j3, j4, j2, j5, j6⟩
      rw [List.nil_append] at j5
      refine .mk ⟨j1, j3 _ i2, j4, ?_⟩
      by_cases c : ∀ e ∈ ts, (e.1 ∈ s ↔ e.2 ∈ s)
      · left
        rw [j6 c]
        exact c
      · right
        have h1 := i4.resolve_left c
        have : ∃ e ∈ ts, ¬ (e.1 ∈ s ↔ e.2 ∈ s) := Classical.byContradiction fun z => c fun e he => Classical.byContradiction fun y => z ⟨e, he, y⟩
        obtain ⟨e, he, hne⟩ := this
        have := j5 e he hne
        omega
  · rintro s ⟨i1, i2, i3, i4⟩
    refine ⟨i1, fun u => ?_⟩
    rw [mem_cmp]
    have clo : ∀ e ∈ ts, (e.1 ∈ s ↔ e.2 ∈ s) := by
      rcases i4 with h | h
      · exact h
      · have := nodup_bd i1 fun x hx => (i3 x hx).1
        omega
    exact ⟨i3 u, fun q => clo_all (Z := fun x => x ∈ s) clo i2 q.2⟩
open Classical in
theorem parts_eq {n : Nat} {ts : List (Int × Int)} (hT : ∀ t ∈ ts, Tie n t) (hn : n ≤ 50) : parts n ts = some (canon n n ts) := by
  unfold parts
  rw [Option.bind_some, rng0 (by omega), Option.bind_some]
  refine Ok.get (x := canon n n ts) ?_
  refine Ok.bind (P := fun s => s = canon n n ts) (loopG_ix (fun (k : Nat) s => s = canon n k ts) rfl ?_) (by rintro s rfl; exact .mk rfl)
  rintro k s hk rfl
  have hcl := canon_len n k ts
  rw [lc_all (fun q => memL (k : Int) q) (fun q => q) (by omega) (fun _ _ => rfl) (fun _ _ _ => rfl), Option.bind_some, Option.bind_some, Option.bind_some, List.map_id']
  have key : (canon n k ts).filter (fun q => memL (k : Int) q) = [] ↔ Lst ts k := by
    rw [List.filter_eq_nil_iff]
    constructor
    · intro h u u0 u1 hc
      obtain ⟨m, m0, m1, m2, m3⟩ := lst_ex ts (u.toNat + 1) u u0 (by omega)
      refine h (cmp n ts m) (List.mem_map.mpr ⟨m, List.mem_filter.mpr ⟨mem_rI.mpr ⟨m0, by omega⟩, decide_eq_true m3⟩, rfl⟩) ?_
      unfold memL
      rw [decide_eq_true_iff, mem_cmp]
      exact ⟨by omega, m2.trans hc⟩
    · intro h q hq
      obtain ⟨m, hm, rfl⟩ := List.mem_map.mp hq
      have hm1 := mem_rI.mp (List.mem_filter.mp hm).1
      unfold memL
      rw [decide_eq_true_iff, mem_cmp]
      exact fun z => h m hm1.1 hm1.2 z.2
  by_cases c : Lst ts k
  · rw [key.mpr c, if_pos (by simp), Option.bind_some, Option.bind_some, (canon_succ n k ts).1 c]
    refine Ok.bind (part_eq hT hn (v := (k : Int)) (by omega) (by omega)) fun s hs => ?_
    rw [cmp_srt (by omega) hs.1 hs.2, Option.bind_some, addL_ok (by omega), Option.bind_some]
    exact .mk rfl
  · rw [if_neg, (canon_succ n k ts).2 c]
    · exact .mk rfl
    · rw [decide_eq_true_iff]
      intro z
      exact c (key.mp (List.length_eq_zero_iff.mp (by omega)))
theorem setZ_ok' {l : List Int} {i : Int} (h0 : 0 ≤ i) (h1 : i < l.length) (x : Int) : setZ l i x = some (l.set i.toNat x) := by
  unfold setZ ixZ
  rw [if_pos h0, if_pos h1]
  rfl
theorem gi_set' {l : List Int} {i : Int} (h0 : 0 ≤ i) (h1 : i < l.length) (x : Int) {v : Int} (hv : 0 ≤ v) : gi (l.set i.toNat x) v = if v = i then x else gi l v := by
  unfold gi
  rw [List.getD_eq_getElem?_getD, List.getD_eq_getElem?_getD]
  by_cases c : v = i
  · subst c
    rw [List.getElem?_set_self (by omega), if_pos rfl]
    rfl
  · rw [List.getElem?_set_ne (by omega), if_neg c]
theorem lrng_eq' {n : Nat} (h : n ≤ 1000) : lrng n = some ((List.range n).map fun i => ((i : Nat) : Int)) := by
  unfold lrng
  rw [if_pos (by omega)]
  simp
/-- the heads of points, brought down along ties -/
structure Hd (n : Nat) (ts : List (Int × Int)) (h : List Int) : Prop where
  len : h.length = n
  bd : ∀ v : Int, 0 ≤ v → v < n → 0 ≤ gi h v ∧ gi h v ≤ v
  con : ∀ v : Int, 0 ≤ v → v < n → Con ts (gi h v) v
theorem Hd.lst {n : Nat} {ts : List (Int × Int)} {h : List Int} (H : Hd n ts h) {m : Int} (m0 : 0 ≤ m) (m1 : m < n) (L : Lst ts m) : gi h m = m := by
  have := H.bd m m0 m1
  by_cases c : gi h m < m
  · exact absurd (H.con m m0 m1) (L _ this.1 c)
  · omega
theorem Hd.ge {n : Nat} {ts : List (Int × Int)} {h : List Int} (H : Hd n ts h) {m v : Int} (m0 : 0 ≤ m) (m1 : m < n) (L : Lst ts m) (v0 : 0 ≤ v) (v1 : v < n) (c : Con ts m v) : m ≤ gi h v := by
  have := H.bd v v0 v1
  by_cases d : gi h v < m
  · exact absurd ((H.con v v0 v1).trans c.symm) (L _ this.1 d)
  · omega
def hc (n : Nat) (h : List Int) (m : Int) : Nat := ((rI n).filter fun v => decide (gi h v = m)).length
theorem filter_le' {α : Type} {p q : α → Bool} : ∀ {B : List α}, (∀ x ∈ B, p x = true → q x = true) → (B.filter p).length ≤ (B.filter q).length
  | [], _ => by simp
  | z :: B, h1 => by
    have := filter_le' (B := B) fun x hx => h1 x (List.mem_cons_of_mem _ hx)
    rw [List.filter_cons, List.filter_cons]
    by_cases c : p z = true
    · rw [if_pos c, if_pos (h1 z List.mem_cons_self c)]
      simpa using this
    · rw [if_neg c]
      split
      · simp only [List.length_cons]
        omega
      · exact this
theorem filter_lt' {α : Type} {p q : α → Bool} : ∀ {B : List α}, (∀ x ∈ B, p x = true → q x = true) → (∃ x ∈ B, p x = false ∧ q x = true) → (B.filter p).length < (B.filter q).length
  | [], _, h => by obtain ⟨x, hx, _⟩ := h; cases hx
  | y :: B, h1, h2 => by
    have le := filter_le' (B := B) fun x hx => h1 x (List.mem_cons_of_mem _ hx)
    rw [List.filter_cons, List.filter_cons]
    obtain ⟨x, hx, px, qx⟩ := h2
    rcases List.mem_cons.mp hx with rfl | hx
    · rw [if_neg (by simp [px]), if_pos qx, List.length_cons]
      omega
    · have ih := filter_lt' (B := B) (fun z hz => h1 z (List.mem_cons_of_mem _ hz)) ⟨x, hx, px, qx⟩
      by_cases c : p y = true
      · rw [if_pos c, if_pos (h1 y List.mem_cons_self c)]
        simpa using ih
      · rw [if_neg c]
        split
        · simp only [List.length_cons]
          omega
        · exact ih
theorem gi_rI {n : Nat} {v : Int} (h0 : 0 ≤ v) (h1 : v < n) : gi (rI n) v = v := by
  unfold gi rI
  rw [List.getD_eq_getElem?_getD, List.getElem?_map, List.getElem?_range (by omega)]
  show ((v.toNat : Nat) : Int) = v
  omega
theorem heads_eq {n : Nat} {ts : List (Int × Int)} (hT : ∀ t ∈ ts, Tie n t) (hn : n ≤ 50) :
    Ok (loopG (S := (List Int)) (fun (s6 : (List Int)) (q7 : Int) =>
      (some ts).bind fun xs11 => (loopG (S := (List Int)) (fun (s12 : (List Int)) (q13 : Int × Int) =>
          ((atZ s12 q13.1).bind fun y17 => (atZ s12 q13.2).bind fun y18 => some (if y18 < y17 then y18 else y17)).bind fun least_19 =>
          (setZ s12 q13.1 least_19).bind fun heads_20 =>
          (setZ heads_20 q13.2 least_19).bind fun heads_21 =>
          some heads_21) s6 xs11).bind fun s15 =>
      some s15) (rI n) (rI n)) fun h => Hd n ts h ∧ ∀ m v : Int, 0 ≤ m → m < n → Lst ts m → 0 ≤ v → v < n → Con ts m v → gi h v = m := by
  refine (loopG_ix (fun (j : Nat) (h : List Int) => Hd n ts h ∧ ∀ m : Int, 0 ≤ m → m < n → Lst ts m → (∀ v : Int, 0 ≤ v → v < n → Con ts m v → gi h v = m) ∨ j + 1 ≤ hc n h m)
      ⟨⟨by simp [rI], fun v v0 v1 => by rw [gi_rI v0 v1]; omega, fun v v0 v1 => by rw [gi_rI v0 v1]; exact con_refl v⟩, fun m m0 m1 _ => .inr ?_⟩ ?_).imp ?_
  · refine List.length_pos_of_mem (a := m) (List.mem_filter.mpr ⟨mem_rI.mpr ⟨m0, m1⟩, ?_⟩)
    rw [gi_rI m0 m1]
    simp
  · rintro j h hj ⟨H, i2⟩
    rw [Option.bind_some]
    refine Ok.bind (loopG_pre2 (S := List Int) (fun pre h' => Hd n ts h' ∧ (∀ m v : Int, 0 ≤ m → m < n → Lst ts m → 0 ≤ v → v < n → gi h v = m → gi h' v = m) ∧ (∀ e ∈ pre, ∀ m : Int, 0 ≤ m → m < n → Lst ts m → (gi h e.1 = m ∨ gi h e.2 = m) → gi h' e.1 = m ∧ gi h' e.2 = m)) (pre := []) (xs := ts)
      ⟨H, fun _ _ _ _ _ _ _ q => q, by simp⟩ ?_) ?_
    · rintro pre e post h' hpre ⟨H', j2, j3⟩
      rw [List.nil_append] at hpre
      have he : e ∈ ts := by rw [hpre]; simp
      have ht := hT e he
      unfold Tie at ht
      have hl := H'.len
      have b1 := H'.bd e.1 (by omega) (by omega)
      have b2 := H'.bd e.2 (by omega) (by omega)
      have ce := con_edge he
      have c1 := H'.con e.1 (by omega) (by omega)
      have c2 := H'.con e.2 (by omega) (by omega)
      rw [atZ_gi (by omega) (by omega), Option.bind_some, atZ_gi (by omega) (by omega), Option.bind_some, Option.bind_some, setZ_ok' (by omega) (by omega), Option.bind_some, setZ_ok' (by omega) (by rw [List.length_set]; omega), Option.bind_some]
      generalize hx : (if gi h' e.2 < gi h' e.1 then gi h' e.2 else gi h' e.1) = x
      have x0 : 0 ≤ x ∧ x ≤ e.1 := by
        rw [← hx]
        split <;> omega
      have xc : Con ts x e.1 ∧ Con ts x e.2 := by
        rw [← hx]
        split
        · exact ⟨c2.trans ce.symm, c2⟩
        · exact ⟨c1, c1.trans ce⟩
      have g : ∀ v : Int, 0 ≤ v → gi ((h'.set e.1.toNat x).set e.2.toNat x) v = if v = e.1 ∨ v = e.2 then x else gi h' v := fun v v0 => by
        rw [gi_set' (by omega) (by rw [List.length_set]; omega) _ v0, gi_set' (by omega) (by omega) _ v0]
        by_cases d1 : v = e.2
        · rw [if_pos d1, if_pos (.inr d1)]
        · by_cases d2 : v = e.1
          · rw [if_neg d1, if_pos d2, if_pos (.inl d2)]
          · rw [if_neg d1, if_neg d2, if_neg (by omega)]
      -- where the head is least already it stays
      have keep : ∀ m : Int, 0 ≤ m → m < n → Lst ts m → (gi h' e.1 = m ∨ gi h' e.2 = m) → x = m := fun m m0 m1 L q => by
        have g1 : m ≤ gi h' e.1 := by
          rcases q with q | q
          · omega
          · exact H'.ge m0 m1 L (by omega) (by omega) ((by rw [← q]; exact c2.trans ce.symm : Con ts m e.1))
        have g2 : m ≤ gi h' e.2 := by
          rcases q with q | q
          · exact H'.ge m0 m1 L (by omega) (by omega) ((by rw [← q]; exact c1.trans ce : Con ts m e.2))
          · omega
        rw [← hx]
        split <;> omega
      refine .mk ⟨⟨by simp [hl], fun v v0 v1 => ?_, fun v v0 v1 => ?_⟩, fun m v m0 m1 L v0 v1 q => ?_, fun e' he' m m0 m1 L q => ?_⟩
      · rw [g v v0]
        split
        · omega
        · exact H'.bd v v0 v1
      · rw [g v v0]
        split
        · rename_i d
          rcases d with rfl | rfl
          · exact xc.1
          · exact xc.2
        · exact H'.con v v0 v1
      · have := j2 m v m0 m1 L v0 v1 q
        rw [g v v0]
        split
        · rename_i d
          rcases d with rfl | rfl
          · exact keep m m0 m1 L (.inl this)
          · exact keep m m0 m1 L (.inr this)
        · exact this
      · rcases List.mem_append.mp he' with he' | he'
        · have ht' := hT e' (by rw [hpre]; simp [he'])
          unfold Tie at ht'
          have := j3 e' he' m m0 m1 L q
          have st : ∀ v : Int, 0 ≤ v → gi h' v = m → gi ((h'.set e.1.toNat x).set e.2.toNat x) v = m := fun v v0 z => by
            rw [g v v0]
            split
            · rename_i d
              rcases d with rfl | rfl
              · exact keep m m0 m1 L (.inl z)
              · exact keep m m0 m1 L (.inr z)
            · exact z
          exact ⟨st _ (by omega) this.1, st _ (by omega) this.2⟩
        · rw [List.mem_singleton.mp he'] at q ⊢
          have : x = m := keep m m0 m1 L (by
            rcases q with q | q
            · exact .inl (j2 m _ m0 m1 L (by omega) (by omega) q)
            · exact .inr (j2 m _ m0 m1 L (by omega) (by omega) q))
          rw [g _ (by omega), g _ (by omega), if_pos (.inl rfl), if_pos (.inr rfl)]
          exact ⟨this, this⟩
    · rintro h' ⟨H', j2, j3⟩
      rw [List.nil_append] at j3
      refine .mk ⟨H', fun m m0 m1 L => ?_⟩
      by_cases c : ∀ v : Int, 0 ≤ v → v < n → Con ts m v → gi h v = m
      · exact .inl fun v v0 v1 q => j2 m v m0 m1 L v0 v1 (c v v0 v1 q)
      · right
        have h1 := (i2 m m0 m1 L).resolve_left c
        have : ∃ e ∈ ts, ¬ (gi h e.1 = m ↔ gi h e.2 = m) := Classical.byContradiction fun z => c fun v _ _ q =>
          clo_all (Z := fun x => gi h x = m) (fun e he => Classical.byContradiction fun y => z ⟨e, he, y⟩) (H.lst m0 m1 L) q
        obtain ⟨e, he, hne⟩ := this
        have ht := hT e he
        unfold Tie at ht
        have hor : gi h e.1 = m ∨ gi h e.2 = m := Classical.byContradiction fun z => hne ⟨fun y => absurd (.inl y) z, fun y => absurd (.inr y) z⟩
        have both := j3 e he m m0 m1 L hor
        have h2 : hc n h m < hc n h' m := by
          unfold hc
          refine filter_lt' (fun v hv q => ?_) ?_
          · have := mem_rI.mp hv
            exact decide_eq_true (j2 m v m0 m1 L this.1 this.2 (of_decide_eq_true q))
          · by_cases d : gi h e.1 = m
            · exact ⟨e.2, mem_rI.mpr (by omega), decide_eq_false fun z => hne ⟨fun _ => z, fun _ => d⟩, decide_eq_true both.2⟩
            · exact ⟨e.1, mem_rI.mpr (by omega), decide_eq_false d, decide_eq_true both.1⟩
        omega
  · rintro h ⟨H, i2⟩
    refine ⟨H, fun m v m0 m1 L v0 v1 q => ?_⟩
    rcases i2 m m0 m1 L with z | z
    · exact z v v0 v1 q
    · have : hc n h m ≤ n := by
        unfold hc
        refine Nat.le_trans (List.length_filter_le _ _) ?_
        simp [rI]
      omega
open Classical in
theorem pieces_eq {p : Int} {ts : List (Int × Int)} (w : Web p ts) : pieces p ts = some (.ok (canon p.toNat p.toNat ts)) := by
  have hw := w.1
  have ep : ((p.toNat : Nat) : Int) = p := by omega
  have hT : ∀ t ∈ ts, Tie (p.toNat : Int) t := by rw [ep]; exact w.2.2.tie
  unfold pieces
  rw [asked_web_ok w, Option.bind_some, exB_ok]
  rw [← ep]
  generalize p.toNat = n at *
  subst ep
  rw [lrng_eq' (by omega), Option.bind_some, rng0 (by omega), Option.bind_some]
  refine stp _ (heads_eq hT (by omega)) fun h ⟨H, hm⟩ => ?_
  rw [Option.bind_some, Option.bind_some]
  refine stp (fun s => s = canon n n ts) (loopG_ix (fun (k : Nat) s => s = canon n k ts) rfl ?_) (by rintro s rfl; rfl)
  rintro k s hk rfl
  have hcl := canon_len n k ts
  have hlen := H.len
  rw [Option.bind_some, lc_all (fun v => decide (gi h v = (k : Int))) (fun v => v) (by simp; omega)]
  rotate_left
  · intro v hv
    have := mem_rI.mp hv
    rw [atZ_gi (by omega) (by omega), Option.bind_some]
  · intro _ _ _
    rfl
  rw [Option.bind_some, Option.bind_some, List.map_id']
  by_cases c : Lst ts k
  · have e : ((List.range n).map fun i => ((i : Nat) : Int)).filter (fun v => decide (gi h v = (k : Int))) = cmp n ts k := by
      unfold cmp
      refine List.filter_congr fun v hv => ?_
      have hv := mem_rI.mp hv
      rw [Bool.eq_iff_iff, decide_eq_true_iff, decide_eq_true_iff]
      constructor
      · intro z
        rw [← z]
        exact H.con v hv.1 hv.2
      · exact hm k v (by omega) (by omega) c hv.1 hv.2
    have hne : 0 < (cmp n ts (k : Int)).length := List.length_pos_of_mem (a := (k : Int)) (mem_cmp.mpr ⟨by omega, con_refl _⟩)
    rw [e, if_pos (by rw [decide_eq_true_iff]; omega), addL_ok (by omega), Option.bind_some, (canon_succ n k ts).1 c]
    exact .mk rfl
  · have e : ((List.range n).map fun i => ((i : Nat) : Int)).filter (fun v => decide (gi h v = (k : Int))) = [] := by
      rw [List.filter_eq_nil_iff]
      intro v hv z
      have hv := mem_rI.mp hv
      have z := of_decide_eq_true z
      obtain ⟨m, m0, m1, m2, m3⟩ := lst_ex ts (v.toNat + 1) v hv.1 (by omega)
      have := hm m v m0 (by omega) m3 hv.1 hv.2 m2
      rw [z] at this
      exact c (this ▸ m3)
    rw [e, if_neg (by simp), (canon_succ n k ts).2 c]
    exact .mk rfl
def law (script : List Int) : Option Bool :=
  ((((((((cell_at script 3).bind fun y1 => modZ y1 12).bind fun y2 => some (1 + y2)).bind fun y3 => some (y3, ())).bind fun y4 => some (7, y4)).bind fun y5 => some (0, y5)).bind fun y6 => some (script, y6)).bind fun a7 => web_by a7.1 a7.2.1 a7.2.2.1 a7.2.2.2.1).bind fun p8 =>
  (web_by script 4 (7 - p8.1) (12 - (p8.2.length : Int))).bind fun p9 =>
  (some p8.2).bind fun handed_10 =>
  (parts p8.1 p8.2).bind fun due_11 =>
  (noX (pieces p8.1 handed_10)).bind fun found_12 =>
  (((lists_like found_12 due_11).bind fun y13 => some (!y13)).bind fun y14 => (if y14 = true then some true else some (!decide (handed_10 = p8.2)))).bind fun b15 => if b15 = true then
    some false
  else
  (addL found_12 [0]).bind fun found_16 =>
  (noX (beside p8.1 handed_10 p9.1 p9.2)).bind fun both_17 =>
  ((((((lc (fun (q18 : Int × Int) => some true) (fun (q18 : Int × Int) => some ((q18.1 + p8.1), (q18.2 + p8.1))) p9.2).bind fun y20 => catL p8.2 y20).bind fun y21 => some (y21, ())).bind fun y22 => some (both_17, y22)).bind fun a23 => ties_like a23.1 a23.2.1).bind fun y24 => some (!y24)).bind fun b25 => if b25 = true then
    some false
  else
  (some both_17).bind fun kept_26 =>
  (addL both_17 (0, 0)).bind fun both_27 =>
  ((if (!decide (handed_10 = p8.2)) = true then some true else (((noX (beside p8.1 handed_10 p9.1 p9.2)).bind fun y28 => some (y28, (kept_26, ()))).bind fun a29 => ties_like a29.1 a29.2.1).bind fun y30 => some (!y30))).bind fun b31 => if b31 = true then
    some false
  else
  (some kept_26).bind fun both_32 =>
  ((parts p9.1 p9.2).bind fun y37 => lc (fun (q33 : List Int) => some true) (fun (q33 : List Int) => lc (fun (q34 : Int) => some true) (fun (q34 : Int) => some (q34 + p8.1)) q33) y37).bind fun later_38 =>
  (((noX (pieces (p8.1 + p9.1) both_32)).bind fun y39 => ((catL due_11 later_38).bind fun y40 => some (y40, ())).bind fun y41 => some (y39, y41)).bind fun a42 => lists_like a42.1 a42.2.1).bind fun y45 => (if y45 = true then ((noX (pieces p8.1 handed_10)).bind fun y43 => some (y43, (due_11, ()))).bind fun a44 => lists_like a44.1 a44.2.1 else some false)
theorem beside_eq {p m : Int} {ts us : List (Int × Int)} (w : Web p ts) (wu : Web m us) : beside p ts m us = some (.ok (ts ++ us.map fun t => (t.1 + p, t.2 + p))) := by
  have h1 := w.2.1
  have h2 := wu.2.1
  unfold beside
  rw [asked_web_ok w, Option.bind_some, exB_ok, asked_web_ok wu, Option.bind_some, exB_ok, lc_map (fun t : Int × Int => (t.1 + p, t.2 + p)) (xs := us) (by omega) (fun _ _ => rfl), Option.bind_some, catL_ok (by simp; omega)]
  rfl
theorem lists_like_eq (xs ys : List (List Int)) : lists_like xs ys = some (decide (xs = ys)) := by
  unfold lists_like
  by_cases h : xs.length = ys.length
  · have h' : (xs.length : Int) = (ys.length : Int) := by omega
    simp only [h', Bool.not_true, Bool.false_eq_true, ↓reduceIte, decide_true, Option.bind_some]
    rw [loopR_any (fun q => !decide (q.1 = q.2)) false, zip_any h, Option.bind_some]
    · by_cases e : xs = ys <;> simp [e]
    · intro q _
      rw [numbers_like_eq]
      by_cases e : q.1 = q.2
      · simp [e]
      · simp [e]
  · have h' : ¬ (xs.length : Int) = (ys.length : Int) := by omega
    have h2 : xs ≠ ys := fun e => h (by rw [e])
    simp [h', h2]
abbrev sh (p : Int) (us : List (Int × Int)) : List (Int × Int) := us.map fun t => (t.1 + p, t.2 + p)
theorem con_left {n m : Nat} {ts us : List (Int × Int)} (hT : ∀ t ∈ ts, Tie n t) (hU : ∀ t ∈ us, Tie m t) {u v : Int} (u1 : u < n) (v1 : v < n) : Con (ts ++ sh n us) u v ↔ Con ts u v := by
  constructor
  · intro q f hf
    have := q (fun x => if x < n then f x else 0) fun e he => by
      rcases List.mem_append.mp he with he | he
      · have := hT e he
        unfold Tie at this
        rw [if_pos (by omega), if_pos (by omega)]
        exact hf e he
      · obtain ⟨t, ht, rfl⟩ := List.mem_map.mp he
        have := hU t ht
        unfold Tie at this
        rw [if_neg (by omega), if_neg (by omega)]
    rw [if_pos u1, if_pos v1] at this
    exact this
  · intro q
    exact q.sub fun e he => List.mem_append_left _ he
theorem con_right {n m : Nat} {ts us : List (Int × Int)} (hT : ∀ t ∈ ts, Tie n t) (hU : ∀ t ∈ us, Tie m t) {u v : Int} (u0 : 0 ≤ u) (v0 : 0 ≤ v) : Con (ts ++ sh n us) (u + n) (v + n) ↔ Con us u v := by
  constructor
  · intro q f hf
    have := q (fun x => if x < n then 0 else f (x - n)) fun e he => by
      rcases List.mem_append.mp he with he | he
      · have := hT e he
        unfold Tie at this
        rw [if_pos (by omega), if_pos (by omega)]
      · obtain ⟨t, ht, rfl⟩ := List.mem_map.mp he
        have := hU t ht
        unfold Tie at this
        rw [if_neg (by omega), if_neg (by omega), Int.add_sub_cancel, Int.add_sub_cancel]
        exact hf t ht
    rw [if_neg (by omega), if_neg (by omega), Int.add_sub_cancel, Int.add_sub_cancel] at this
    exact this
  · intro q f hf
    exact q (fun x => f (x + n)) fun e he => hf _ (List.mem_append_right _ (List.mem_map.mpr ⟨e, he, rfl⟩))
theorem con_mixed {n m : Nat} {ts us : List (Int × Int)} (hT : ∀ t ∈ ts, Tie n t) (hU : ∀ t ∈ us, Tie m t) {u v : Int} (u1 : u < n) (v0 : (n : Int) ≤ v) : ¬ Con (ts ++ sh n us) u v := fun q => by
  have := q (fun x => if x < n then 0 else 1) fun e he => by
    rcases List.mem_append.mp he with he | he
    · have := hT e he
      unfold Tie at this
      rw [if_pos (by omega), if_pos (by omega)]
    · obtain ⟨t, ht, rfl⟩ := List.mem_map.mp he
      have := hU t ht
      unfold Tie at this
      rw [if_neg (by omega), if_neg (by omega)]
  rw [if_pos u1, if_neg (by omega)] at this
  omega
theorem rI_add (n m : Nat) : rI (n + m) = rI n ++ (rI m).map fun x : Int => x + (n : Int) := by
  unfold rI
  rw [List.range_add, List.map_append, List.map_map, List.map_map]
  congr 1
  refine List.map_congr_left fun i _ => ?_
  simp only [Function.comp]
  omega
open Classical in
theorem canon_side {n m : Nat} {ts us : List (Int × Int)} (hT : ∀ t ∈ ts, Tie n t) (hU : ∀ t ∈ us, Tie m t) :
    canon (n + m) (n + m) (ts ++ sh n us) = canon n n ts ++ (canon m m us).map fun part => part.map fun x => x + (n : Int) := by
  have cl : ∀ v : Int, v < n → cmp (n + m) (ts ++ sh n us) v = cmp n ts v := fun v hv => by
    unfold cmp
    have nil : ((rI m).map fun x => x + (n : Int)).filter (fun u => decide (Con (ts ++ sh n us) v u)) = [] := by
      rw [List.filter_eq_nil_iff]
      intro u hu z
      obtain ⟨x, hx, rfl⟩ := List.mem_map.mp hu
      have := mem_rI.mp hx
      exact con_mixed hT hU hv (by omega) (of_decide_eq_true z)
    rw [rI_add, List.filter_append, nil, List.append_nil]
    · refine List.filter_congr fun u hu => ?_
      have := mem_rI.mp hu
      rw [Bool.eq_iff_iff, decide_eq_true_iff, decide_eq_true_iff]
      exact con_left hT hU hv this.2
  have cr : ∀ v : Int, 0 ≤ v → cmp (n + m) (ts ++ sh n us) (v + n) = (cmp m us v).map fun x => x + (n : Int) := fun v hv => by
    unfold cmp
    have nil : (rI n).filter (fun u => decide (Con (ts ++ sh n us) (v + n) u)) = [] := by
      rw [List.filter_eq_nil_iff]
      intro u hu z
      have := mem_rI.mp hu
      exact con_mixed hT hU this.2 (by omega) (of_decide_eq_true z).symm
    rw [rI_add, List.filter_append, nil, List.nil_append, List.filter_map]
    · congr 1
      refine List.filter_congr fun u hu => ?_
      have := mem_rI.mp hu
      simp only [Function.comp]
      rw [Bool.eq_iff_iff, decide_eq_true_iff, decide_eq_true_iff]
      exact con_right hT hU hv this.1
  have ll : ∀ v : Int, v < n → (Lst (ts ++ sh n us) v ↔ Lst ts v) := fun v hv => by
    constructor
    · intro h u u0 u1 q
      exact h u u0 u1 ((con_left hT hU (by omega) hv).mpr q)
    · intro h u u0 u1 q
      exact h u u0 u1 ((con_left hT hU (by omega) hv).mp q)
  have lr : ∀ v : Int, 0 ≤ v → (Lst (ts ++ sh n us) (v + n) ↔ Lst us v) := fun v hv => by
    constructor
    · intro h u u0 u1 q
      exact h (u + n) (by omega) (by omega) ((con_right hT hU u0 hv).mpr q)
    · intro h u u0 u1 q
      by_cases c : u < n
      · exact con_mixed hT hU c (by omega) q
      · refine h (u - n) (by omega) (by omega) ((con_right hT hU (by omega) hv).mp ?_)
        rw [Int.sub_add_cancel]
        exact q
  unfold canon
  rw [rI_add, List.filter_append, List.map_append, List.filter_map, List.map_map, List.map_map]
  congr 1
  · have e : (rI n).filter (fun v => decide (Lst (ts ++ sh n us) v)) = (rI n).filter (fun v => decide (Lst ts v)) := List.filter_congr fun v hv => by
      rw [Bool.eq_iff_iff, decide_eq_true_iff, decide_eq_true_iff]
      exact ll v (mem_rI.mp hv).2
    rw [e]
    refine List.map_congr_left fun v hv => cl v (mem_rI.mp (List.mem_filter.mp hv).1).2
  · have e : (rI m).filter ((fun v => decide (Lst (ts ++ sh n us) v)) ∘ fun x => x + (n : Int)) = (rI m).filter (fun v => decide (Lst us v)) := List.filter_congr fun v hv => by
      simp only [Function.comp]
      rw [Bool.eq_iff_iff, decide_eq_true_iff, decide_eq_true_iff]
      exact lr v (mem_rI.mp hv).1
    rw [e]
    refine List.map_congr_left fun v hv => ?_
    simp only [Function.comp]
    exact cr v (mem_rI.mp (List.mem_filter.mp hv).1).1
theorem sh_web {p m : Int} {ts us : List (Int × Int)} (w : Web p ts) (wu : Web m us) (h : p + m ≤ 7) (hl : ts.length + us.length ≤ 12) : Web (p + m) (ts ++ sh p us) := by
  obtain ⟨⟨p0, p1⟩, _, hT⟩ := w
  obtain ⟨⟨m0, m1⟩, _, hU⟩ := wu
  refine ⟨by omega, by simp; omega, fun t ht => ?_, ?_⟩
  · rcases List.mem_append.mp ht with h | h
    · have := hT.tie t h
      unfold Tie at *
      omega
    · obtain ⟨u, hu, rfl⟩ := List.mem_map.mp h
      have := hU.tie u hu
      unfold Tie at *
      dsimp only
      omega
  · refine List.pairwise_append.mpr ⟨hT.ord, ?_, fun a ha b hb => ?_⟩
    · rw [List.pairwise_map]
      refine List.Pairwise.imp (fun {a b} h => ?_) hU.ord
      unfold ltT at *
      dsimp only
      omega
    · obtain ⟨u, hu, rfl⟩ := List.mem_map.mp hb
      have h1 := hT.tie a ha
      have h2 := hU.tie u hu
      unfold Tie at h1 h2
      unfold ltT
      dsimp only
      omega
theorem law_true (ns : List Int) (_ : ns.length ≤ 63) : law ns = some true := by
  unfold law
  rw [cell_at_eq ns (by decide), Option.bind_some, modZ_pos (by decide), Option.bind_some]
  obtain ⟨c0, c1⟩ := emod_bd (cell ns 3) (show (0 : Int) < 12 by decide)
  simp only [Option.bind_some]
  obtain ⟨p, ts, e0, hp, hl, hT⟩ := web_by_spec ns (k := 0) (most := 7) (cap := 1 + cell ns 3 % 12) (by decide) (by decide) (by decide) (by omega)
  have hl : ts.length ≤ 12 := by omega
  have w : Web p ts := ⟨by omega, by omega, hT⟩
  obtain ⟨m, us, e1, hm, hlu, hU⟩ := web_by_spec ns (k := 4) (most := 7 - p) (cap := 12 - (ts.length : Int)) (by decide) (by omega) (by omega) (by omega)
  have hlu : us.length ≤ 12 - ts.length := by omega
  have wu : Web m us := ⟨by omega, by omega, hU⟩
  have ep : ((p.toNat : Nat) : Int) = p := by omega
  have em : ((m.toNat : Nat) : Int) = m := by omega
  have hT' : ∀ t ∈ ts, Tie (p.toNat : Int) t := by rw [ep]; exact hT.tie
  have hU' : ∀ t ∈ us, Tie (m.toNat : Int) t := by rw [em]; exact hU.tie
  have wb := sh_web w wu (by omega) (by omega)
  have hcl := canon_len p.toNat p.toNat ts
  have hcu := canon_len m.toNat m.toNat us
  have pe := parts_eq hT' (by omega)
  have pu := parts_eq hU' (by omega)
  rw [ep] at pe
  rw [em] at pu
  have hlater : lc (fun (q122 : List Int) => some true) (fun (q122 : List Int) => lc (fun (q123 : Int) => some true) (fun (q123 : Int) => some (q123 + p)) q122) (canon m.toNat m.toNat us) = some ((canon m.toNat m.toNat us).map fun part => part.map fun x => x + p) := by
    refine lc_map (fun part : List Int => part.map fun x => x + p) (by omega) fun part hpart => ?_
    obtain ⟨v, hv, rfl⟩ := List.mem_map.mp hpart
    refine lc_map (fun x => x + p) ?_ fun _ _ => rfl
    have : (cmp m.toNat us v).length ≤ m.toNat := by
      unfold cmp
      refine Nat.le_trans (List.length_filter_le _ _) ?_
      simp [rI]
    omega
  have hside := canon_side hT' hU'
  rw [ep] at hside
  have hfinal : pieces (p + m) (ts ++ sh p us) = some (.ok (canon p.toNat p.toNat ts ++ (canon m.toNat m.toNat us).map fun part => part.map fun x => x + p)) := by
    rw [pieces_eq wb, ← hside, show (p + m).toNat = p.toNat + m.toNat by omega]
  rw [e0, Option.bind_some]
  dsimp only
  rw [e1, Option.bind_some]
  dsimp only
  rw [pe, Option.bind_some, pieces_eq w, noX_ok, Option.bind_some, lists_like_eq, addL_ok (by omega), beside_eq w wu, noX_ok, Option.bind_some,
    lc_map (fun t : Int × Int => (t.1 + p, t.2 + p)) (xs := us) (by omega) (fun _ _ => rfl)]
  have hcat : catL ts (us.map fun t => (t.1 + p, t.2 + p)) = some (ts ++ us.map fun t => (t.1 + p, t.2 + p)) := catL_ok (by simp; omega)
  simp only [hcat, decide_true, Bool.not_true, Bool.false_eq_true, ↓reduceIte, Option.bind_some, ties_like_eq]
  rw [addL_ok (by simp; omega), Option.bind_some, pu, Option.bind_some, hlater, Option.bind_some, catL_ok (by simp; omega)]
  rw [show (ts ++ us.map fun t => (t.1 + p, t.2 + p)) = ts ++ sh p us from rfl, hfinal, noX_ok]
  simp only [Option.bind_some, lists_like_eq, decide_true, ↓reduceIte]
end Q

set_option Elab.async false
set_option linter.all false
set_option maxRecDepth 100000
set_option maxHeartbeats 4000000
namespace Q
open PySem L2 Dv Dw
abbrev topS (i : Nat) : Stmt := PySem.Challenge.pw_dyeweb_k03_pieces.main.body.getD i (.Pass ⟨0, 0, 0, 0⟩)
structure Txt (K : PySem.W.Frag) (mg : Str → Option Value) (ad : Er → Addr) (CW : Addr) : Prop where
  b_bool : mg "bool" = none
  b_int : mg "int" = none
  b_isinstance : mg "isinstance" = none
  b_len : mg "len" = none
  b_list : mg "list" = none
  b_min : mg "min" = none
  b_range : mg "range" = none
  b_sorted : mg "sorted" = none
  b_tuple : mg "tuple" = none
  b_zip : mg "zip" = none
  g_MOST_POINTS : ∃ t, mg "MOST_POINTS" = some (.int 7 t)
  g_MOST_TIES : ∃ t, mg "MOST_TIES" = some (.int 12 t)
  x_NoWeb : ErC K mg "NoWeb" (ad .noWeb)
  nil : True
section
variable {P : Program} {w : World} {K : PySem.W.Frag} {mg : Str → Option Value} {base : Heap} {ad : Er → Addr} {CW : Addr}
abbrev s_is_web : Stmt := topS 6
theorem sc_is_web : FnScope ["points", "ties", "k", "low", "high"] ["points", "ties"] (defScope s_is_web) := ⟨rfl, rfl, rfl, by decide +kernel, rfl, by decide +kernel, by decide +kernel⟩
theorem ok_is_web {f : Addr} {fd : FuncData} (F : Fun K "is_web" "is_web" s_is_web f fd) (gF : mg "is_web" = some (.ref f)) (T : Txt K mg ad CW) : Fn P w K mg base CX0 1 "is_web" ["points", "ties"] (spO (β := Bool) fun (x : Int × (List (Int × Int)) × Unit) => is_web x.1 x.2.1) := by
  obtain ⟨t_MOST_POINTS, T_g_MOST_POINTS⟩ := T.g_MOST_POINTS
  obtain ⟨t_MOST_TIES, T_g_MOST_TIES⟩ := T.g_MOST_TIES
  refine ⟨f, _, gF, F.kp, F.binds (ps := ["points", "ties"]) (fun _ _ _ _ _ _ us hl => match us, hl with | [_, _], _ => rfl), F.ok sc_is_web (spO_len rfl) (fun cdv A outer s H vs Q E hr h => ?_)⟩
  refine ⟨_, (pss_cons (ps_if (PW.pt (pw_or (pt_cmpR op_lt (pv 0) pe_int (nomark _)) (pw_or (pt_cmpR op_gt (pv 0) (pe_glob (v := .int 7) rfl T_g_MOST_POINTS ⟨_, rfl⟩) (nomark _)) (pw_or1 (pt_cmpR op_gt (pe_callB call_len_seq (by rfl) T.b_len PySem.boot_len (pa_cons (pv 1) pa_nil)) (pe_glob (v := .int 12) rfl T_g_MOST_TIES ⟨_, rfl⟩) (nomark _)))))) (pss_one (ps_ret pe_bl)) pss_nil)
    (pss_cons (ps_for PassesOwn.never rfl (pi_range1 (by rfl) T.b_range (pa_cons (pe_callB call_len_seq (by rfl) T.b_len PySem.boot_len (pa_cons (pv 1) pa_nil)) pa_nil)) (pg_name (i := 2) sc_is_web.nd rfl (by first | exact Or.inl rfl | exact Or.inr rfl)) (pss_cons (ps_asg (pe_ix ix_list (pv 1) (pv 2) (fun _ _ => rfl)) (pg_tup rfl (pgs_cons (pg_name (i := 3) sc_is_web.nd rfl (by first | exact Or.inl rfl | exact Or.inr rfl)) (pgs_cons (pg_name (i := 4) sc_is_web.nd rfl (by first | exact Or.inl rfl | exact Or.inr rfl)) pgs_nil))))
    (pss_cons (ps_if (PW.pt (pw_or (pt_cmpR op_lt (pv 3) pe_int (nomark _)) (pw_or (pt_cmpR op_ge (pv 3) (pv 4) (nomark _)) (pw_or1 (pt_cmpR op_ge (pv 4) (pv 0) (nomark _)))))) (pss_one (ps_ret pe_bl)) pss_nil)
    (pss_one (ps_if (PW.pt (pw_and (pt_cmpR op_gt (pv 2) pe_int (nomark _)) (pw_and1 (pt_cmpR (op_leT (hu0 hr)) (pe_ix ix_list (pv 1) (pv 2) (fun _ _ => rfl)) (pe_ix ix_list (pv 1) (pe_op op_sub (pv 2) pe_int) (fun _ _ => rfl)) (nomark _))))) (pss_one (ps_ret pe_bl)) pss_nil)))))
    (pss_one (ps_ret pe_bl)))), ?_⟩
  obtain ⟨F0, ⟨x_points, x_ties, _⟩, y, s0, ⟨v_points, _, rfl, h_points, v_ties, _, rfl, h_ties, rfl⟩, hm, hQ⟩ := h
  have L0 : Lat F0 H F0 H := .refl s0
  refine at_st (σ := [some v_points, some v_ties, none, none, none]) rfl ?_
  replace hm : is_web x_points x_ties = some y := hm
  unfold is_web at hm
  refine rd_guard L0.fh (evt_or (evt_of (ev_op (ev_varF rfl h_points) ev_int rv_cmp)) (evt_or (evt_of (ev_op (ev_varF rfl h_points) ev_int rv_cmp)) (evt_of (ev_op (ev_len (ev_var rfl h_ties)) ev_int rv_cmp)))) hm ?_ ?_
  · intro F1 H2 _ hm l3
    have L4 := L0.trans l3
    exact rd_ret0 L4.fh ev_bl hm fun v F1 H1 l rv => hQ v F1 H1 (L4.trans l) rv
  · intro F5 H6 _ hm l7
    have L8 := L0.trans l7
    replace h_ties := up h_ties l7
    refine rd_for L8.fh (ei_range1 (ev_len (ev_var rfl h_ties))) hm ?_
    intro xs9 J10 F11 H12 hm l13 wk14
    have L15 := L8.trans l13
    replace h_ties := up h_ties l13
    refine rd_loopR wk14 hm (fun (s : Unit) σ_ F_ H_ => ∃ (o2_ : Option V) (o3_ : Option V) (o4_ : Option V), σ_ = [some v_points, some v_ties, o2_, o3_, o4_] ∧ Same F11 F_ ∧ Lat F0 H F_ H_ ∧ True) ⟨_, _, _, rfl, (.refl _), L15, trivial⟩ ?_ ?_ ?_
    · rintro s σ_ F_ H_ ⟨e16, e17, e18, rfl, sf19, L20, -⟩
      exact ⟨sf19, L20.fh⟩
    · rintro q21 s22 σ_ F28 H29 v23 F30 H31 ⟨e32, e33, e34, rfl, sf35, L36, -⟩ l24 rv25 st39 hm D27 hD37 hN26 hR38
      replace hD37 : D27.rt = Q := hD37
      replace h_ties := Rep.mono sf35 h_ties
      have L40 := L36.trans l24
      have sb41 := Same.trans sf35 l24.f
      replace h_ties := up h_ties l24
      refine gt_name ?_
      refine rd_asg2 L40.fh (ev_op (ev_var rfl h_ties) (ev_varF rfl rv25) rv_ixL) hm ?_
      intro x42 v43 v44 F45 H46 hm l47 h_low_48 h_high_49
      have L50 := L40.trans l47
      have sb51 := Same.trans sb41 l47.f
      replace h_ties := up h_ties l47
      refine rd_guard L50.fh (evt_or (evt_of (ev_op (ev_varF rfl h_low_48) ev_int rv_cmp)) (evt_or (evt_of (ev_op (ev_varF rfl h_low_48) (ev_varF rfl h_high_49) rv_cmp)) (evt_of (ev_op (ev_varF rfl h_high_49) (ev_varF rfl h_points) rv_cmp)))) hm ?_ ?_
      · intro F52 H53 _ hm l54
        have L55 := L50.trans l54
        have sb56 := Same.trans sb51 l54.f
        replace h_ties := up h_ties l54
        refine rd_ret L55.fh ev_bl hm ?_
        intro x_ v_ F1_ H1_ hm l_ rv_
        replace hm := hR38 _ (Option.some.inj hm).symm
        obtain rfl := Option.some.inj hm
        rw [hD37]
        exact hQ _ _ _ (L55.trans l_) rv_
      · intro F57 H58 _ hm l59
        have L60 := L50.trans l59
        have sb61 := Same.trans sb51 l59.f
        replace h_ties := up h_ties l59
        refine rd_if L60.fh (evt_and (evt_of (ev_op (ev_varF rfl rv25) ev_int rv_cmp)) (evt_of (ev_op (ev_op (ev_var rfl h_ties) (ev_varF rfl rv25) rv_ixL) (ev_op (ev_var rfl h_ties) (ev_op (ev_varF rfl rv25) ev_int rv_sub) rv_ixL) rv_leT))) hm ?_ ?_
        · intro F62 H63 _ hm l64
          have L65 := L60.trans l64
          have sb66 := Same.trans sb61 l64.f
          replace h_ties := up h_ties l64
          refine rd_ret L65.fh ev_bl hm ?_
          intro x_ v_ F1_ H1_ hm l_ rv_
          replace hm := hR38 _ (Option.some.inj hm).symm
          obtain rfl := Option.some.inj hm
          rw [hD37]
          exact hQ _ _ _ (L65.trans l_) rv_
        · intro F67 H68 _ hm l69
          have L70 := L60.trans l69
          have sb71 := Same.trans sb61 l69.f
          replace h_ties := up h_ties l69
          exact hN26 _ (Option.some.inj hm).symm _ _ _ ⟨_, _, _, rfl, sb71, L70, trivial⟩
    · rintro s72 σ_ F73 H74 hm ⟨e75, e76, e77, rfl, sf78, L79, -⟩
      refine nx_with ?_
      exact rd_ret0 L79.fh ev_bl hm fun v F1 H1 l rv => hQ v F1 H1 (L79.trans l) rv
abbrev s_asked_web : Stmt := topS 7
theorem sc_asked_web : FnScope ["points", "ties"] ["points", "ties"] (defScope s_asked_web) := ⟨rfl, rfl, rfl, by decide +kernel, rfl, by decide +kernel, by decide +kernel⟩
theorem ok_asked_web {f : Addr} {fd : FuncData} (F : Fun K "asked_web" "asked_web" s_asked_web f fd) (gF : mg "asked_web" = some (.ref f)) (T : Txt K mg ad CW) (C_is_web : Fn P w K mg base CX0 1 "is_web" ["points", "ties"] (spO (β := Bool) fun (x : Int × (List (Int × Int)) × Unit) => is_web x.1 x.2.1)) : Fn P w K mg base (L2.CX P w) 2 "asked_web" ["points", "ties"] (spX (clO ad) (β := Unit) fun (x : Int × (List (Int × Int)) × Unit) => asked_web x.1 x.2.1) := by
  refine ⟨f, _, gF, F.kp, F.binds (ps := ["points", "ties"]) (fun _ _ _ _ _ _ us hl => match us, hl with | [_, _], _ => rfl), F.okX sc_asked_web (spX_len rfl) (fun cdv A outer s H vs Q E hr h => ?_)⟩
  refine ⟨_, (pss_one (ps_if (pt_not (pt_val (pe_fn C_is_web (hr.mono (by decide)) rfl (pa_cons (pv 0) (pa_cons (pv 1) pa_nil))))) (pss_one (ps_raiseE rfl (takes_of rfl rfl rfl rfl) T.x_NoWeb rfl)) pss_nil)), ?_⟩
  obtain ⟨F0, ⟨x_points, x_ties, _⟩, y, s0, ⟨v_points, _, rfl, h_points, v_ties, _, rfl, h_ties, rfl⟩, hm, hQ, hE⟩ := h
  have L0 : Lat F0 H F0 H := .refl s0
  refine at_st (σ := [some v_points, some v_ties]) rfl ?_
  replace hm : asked_web x_points x_ties = some y := hm
  unfold asked_web at hm
  refine rd_if L0.fh (evt_not (evt_b (ev_call (eva_cons (ev_varF rfl h_points) (eva_cons (ev_var rfl h_ties) eva_nil))))) hm ?_ ?_
  · intro F1 H2 _ hm l3
    have L4 := L0.trans l3
    exact (fun e F1 H1 ee l => hE e ee F1 H1 (L4.trans l)) _ _ _ (Option.some.inj hm).symm (.refl L4.fh)
  · intro F5 H6 _ hm l7
    have L8 := L0.trans l7
    exact hQ () (Option.some.inj hm).symm .non _ _ L8 rfl
abbrev s_pieces : Stmt := topS 8
theorem sc_pieces : FnScope ["points", "ties", "heads", "lap", "low", "high", "least", "found", "head", "piece", "point"] ["points", "ties"] (defScope s_pieces) := ⟨rfl, rfl, rfl, by decide +kernel, rfl, by decide +kernel, by decide +kernel⟩
theorem ok_pieces {f : Addr} {fd : FuncData} (F : Fun K "pieces" "pieces" s_pieces f fd) (gF : mg "pieces" = some (.ref f)) (T : Txt K mg ad CW) (C_asked_web : Fn P w K mg base (L2.CX P w) 2 "asked_web" ["points", "ties"] (spX (clO ad) (β := Unit) fun (x : Int × (List (Int × Int)) × Unit) => asked_web x.1 x.2.1)) : Fn P w K mg base (L2.CX P w) 3 "pieces" ["points", "ties"] (spXN (clO ad) (β := (List Int)) fun (x : Int × (List (Int × Int)) × Unit) => pieces x.1 x.2.1) := by
  refine ⟨f, _, gF, F.kp, F.binds (ps := ["points", "ties"]) (fun _ _ _ _ _ _ us hl => match us, hl with | [_, _], _ => rfl), F.okX sc_pieces (spXN_len rfl) (fun cdv A outer s H vs Q E hr h => ?_)⟩
  refine ⟨_, (pss_cons (ps_expr (pe_fnX (takes_of rfl rfl rfl rfl) C_asked_web (hr.mono (by decide)) rfl (pa_cons (pv 0) (pa_cons (pv 1) pa_nil))))
    (pss_cons (ps_set (i := 2) sc_pieces.nd rfl (by first | exact Or.inl rfl | exact Or.inr rfl) (pe_listRg rfl rfl T.b_list (prg_1 rfl T.b_range (pv 0))))
    (PSs.nox (pss_cons (ps_for PassesOwn.never rfl (pi_range1 (by rfl) T.b_range (pa_cons (pv 0) pa_nil)) (pg_name (i := 3) sc_pieces.nd rfl (by first | exact Or.inl rfl | exact Or.inr rfl)) (PSs.nox (pss_one (ps_for PassesOwn.never rfl (pi_list (pv 1)) (pg_tup rfl (pgs_cons (pg_name (i := 4) sc_pieces.nd rfl (by first | exact Or.inl rfl | exact Or.inr rfl)) (pgs_cons (pg_name (i := 5) sc_pieces.nd rfl (by first | exact Or.inl rfl | exact Or.inr rfl)) pgs_nil))) (pss_cons (ps_set (i := 6) sc_pieces.nd rfl (by first | exact Or.inl rfl | exact Or.inr rfl) (pe_callB (call_min2 rfl) (by rfl) T.b_min (by decide +kernel) (pa_cons (pe_ix ix_list (pv 2) (pv 4) (fun _ _ => rfl)) (pa_cons (pe_ix ix_list (pv 2) (pv 5) (fun _ _ => rfl)) pa_nil))))
    (pss_cons (ps_asg (pv 6) (pg_sub (pv 2) (pv 4) set_list))
    (pss_one (ps_asg (pv 6) (pg_sub (pv 2) (pv 5) set_list)))))))))
    (pss_cons (ps_set (i := 7) sc_pieces.nd rfl (by first | exact Or.inl rfl | exact Or.inr rfl) (pe_lst pa_nil))
    (pss_cons (ps_for PassesOwn.never rfl (pi_range1 (by rfl) T.b_range (pa_cons (pv 0) pa_nil)) (pg_name (i := 8) sc_pieces.nd rfl (by first | exact Or.inl rfl | exact Or.inr rfl)) (pss_cons (ps_setLc (i := 9) (own := [("point", 10)]) (g := (gName 10)) rfl sc_pieces.nd rfl rfl (sw_true rfl rfl rfl (by decide +kernel)) (pi_range1 (by rfl) T.b_range (pa_cons (pv 0) pa_nil)) (blkOk_by (N := ["points", "ties", "heads", "lap", "low", "high", "least", "found", "head", "piece", "point"]) (sc := defScope s_pieces) (by decide +kernel)) (fun _ _ _ _ _ => (pg_name (i := 10) sc_pieces.nd rfl (by first | exact Or.inl rfl | exact Or.inr rfl))) (fun _ _ _ _ _ => (pts_one (pt_cmpR op_eq (pe_ix (ix_listK rfl) (pv 2) (pv 10) (fun _ _ => rfl)) (pv 8) (nomark _)))) (fun _ _ _ _ _ => (pv 10)))
    (pss_one (ps_if (pt_cmpR op_gt (pe_callB call_len_seq (by rfl) T.b_len PySem.boot_len (pa_cons (pv 9) pa_nil)) pe_int (nomark _)) (pss_one (ps_expr (pe_bm PySem.F.plainAttrs_list PySem.F.slot_list_append PySem.F.type_list_append mt_append (pv 7) (pa_cons (pv 9) pa_nil)))) pss_nil))))
    (pss_one (ps_ret (pv 7))))))))), ?_⟩
  obtain ⟨F0, ⟨x_points, x_ties, _⟩, y, s0, ⟨v_points, _, rfl, h_points, v_ties, _, rfl, h_ties, rfl⟩, hm, hQ, hE⟩ := h
  have L0 : Lat F0 H F0 H := .refl s0
  refine at_st (σ := [some v_points, some v_ties, none, none, none, none, none, none, none, none, none]) rfl ?_
  replace hm : pieces x_points x_ties = some y := hm
  unfold pieces at hm
  refine rd_dropX L0.fh (ex_call (EVA.x (eva_cons (ev_varF rfl h_points) (eva_cons (ev_var rfl h_ties) eva_nil)))) hm (fun e F1 H1 ee l => hE e ee F1 H1 (L0.trans l)) ?_
  intro x1 F2 H3 hm l4
  have L5 := L0.trans l4
  replace h_ties := up h_ties l4
  refine rd_asgN L5.fh (evn_lrng (ev_varF rfl h_points)) hm ?_
  intro x6 p7 w8 F9 H10 hm l11 hn16 fp13 hp12 rl14
  have hz15 := L5.h.free hn16
  have L17 := L5.trans l11
  replace h_ties := up h_ties l11
  refine rd_for L17.fh (ei_range1 (ev_varF rfl h_points)) hm ?_
  intro xs18 J19 F20 H21 hm l22 wk23
  have L24 := L17.trans l22
  replace h_ties := up h_ties l22
  replace fp13 := l22.nwl hp12 fp13
  replace hp12 := l22.h _ _ hp12
  replace rl14 := rpL.mono l22.f rl14
  refine rd_loopG wk23 hm (fun (s : (List Int)) σ_ F_ H_ => ∃ (o3_ : Option V) (o4_ : Option V) (o5_ : Option V) (o6_ : Option V) (w2_ : List V), σ_ = [some v_points, some v_ties, some (.ref p7), o3_, o4_, o5_, o6_, none, none, none, none] ∧ Same F20 F_ ∧ Lat F0 H F_ H_ ∧ (H_ p7 = some (.lst w2_) ∧ F_ p7 = none ∧ rpL s w2_ F_) ∧ True) ⟨_, _, _, _, _, rfl, (.refl _), L24, ⟨hp12, fp13, rl14⟩, trivial⟩ ?_ ?_ ?_
  · rintro s σ_ F_ H_ ⟨e25, e26, e27, e28, e29, rfl, sf30, L31, ⟨hp32, fp33, rl34⟩, -⟩
    exact ⟨sf30, L31.fh⟩
  · rintro q35 s36 σ_ F42 H43 v37 F44 H45 ⟨e46, e47, e48, e49, e50, rfl, sf51, L52, ⟨hp53, fp54, rl55⟩, -⟩ l38 rv39 s56 hm D41 hN40
    replace h_ties := Rep.mono sf51 h_ties
    have L57 := L52.trans l38
    have sb58 := Same.trans sf51 l38.f
    replace h_ties := up h_ties l38
    replace fp54 := l38.nwl hp53 fp54
    replace hp53 := l38.h _ _ hp53
    replace rl55 := rpL.mono l38.f rl55
    refine gt_name ?_
    refine rd_forL L57.fh (ei_list (ev_var rfl h_ties)) hm ?_
    intro xs59 J60 F61 H62 hm l63 wk64
    have L65 := L57.trans l63
    have sb66 := Same.trans sb58 l63.f
    replace h_ties := up h_ties l63
    replace fp54 := l63.nwl hp53 fp54
    replace hp53 := l63.h _ _ hp53
    replace rl55 := rpL.mono l63.f rl55
    refine rd_loopG wk64 hm (fun (s : (List Int)) σ_ F_ H_ => ∃ (o4_ : Option V) (o5_ : Option V) (o6_ : Option V) (w2_ : List V), σ_ = [some v_points, some v_ties, some (.ref p7), some v37, o4_, o5_, o6_, none, none, none, none] ∧ Same F61 F_ ∧ Lat F0 H F_ H_ ∧ (H_ p7 = some (.lst w2_) ∧ F_ p7 = none ∧ rpL s w2_ F_) ∧ True) ⟨_, _, _, _, rfl, (.refl _), L65, ⟨hp53, fp54, rl55⟩, trivial⟩ ?_ ?_ ?_
    · rintro s σ_ F_ H_ ⟨e67, e68, e69, e70, rfl, sf71, L72, ⟨hp73, fp74, rl75⟩, -⟩
      exact ⟨sf71, L72.fh⟩
    · rintro q76 s77 σ_ F83 H84 v78 F85 H86 ⟨e87, e88, e89, e90, rfl, sf91, L92, ⟨hp93, fp94, rl95⟩, -⟩ l79 rv80 s96 hm D82 hN81
      have sb97 := Same.trans sb66 sf91
      replace h_ties := Rep.mono sf91 h_ties
      have L98 := L92.trans l79
      have sb99 := Same.trans sb97 l79.f
      have sb100 := Same.trans sf91 l79.f
      replace h_ties := up h_ties l79
      replace fp94 := l79.nwl hp93 fp94
      replace hp93 := l79.h _ _ hp93
      replace rl95 := rpL.mono l79.f rl95
      refine gt_pair rv80 l79.fh ?_
      intro v101 v102 h_low_103 h_high_104
      refine rd_asg L98.fh (EV.flat (ev_min2 (ev_op (ev_var rfl (own_rp L98.fh hp93 rl95)) (ev_varF rfl h_low_103) rv_ixL) (ev_op (ev_var rfl (own_rp L98.fh hp93 rl95)) (ev_varF rfl h_high_104) rv_ixL)) L98.fh) hm ?_
      intro x105 v106 F107 H108 hm l109 h_least_110
      have L111 := L98.trans l109
      have sb112 := Same.trans sb99 l109.f
      have sb113 := Same.trans sb100 l109.f
      replace h_ties := up h_ties l109
      replace fp94 := l109.nwl hp93 fp94
      replace hp93 := l109.h _ _ hp93
      replace rl95 := rpL.mono l109.f rl95
      refine rd_set L111.fh rfl hp93 fp94 rl95 (ev_varF rfl h_least_110) (ev_varF rfl h_low_103) hm ?_
      intro x114 w115 F116 H117 hm m118 fp119 hp120 rl121
      have L122 := m118.l0 _ _ L111 hz15
      have sb123 := Same.trans sb112 m118.f
      have sb124 := Same.trans sb113 m118.f
      replace h_ties := Rep.mono m118.f h_ties
      refine rd_setL L122.fh rfl hp120 fp119 rl121 (ev_varF rfl h_least_110) (ev_varF rfl h_high_104) hm ?_
      intro x125 w126 F127 H128 hm m129 fp130 hp131 rl132
      have L133 := m129.l0 _ _ L122 hz15
      have sb134 := Same.trans sb123 m129.f
      have sb135 := Same.trans sb124 m129.f
      replace h_ties := Rep.mono m129.f h_ties
      obtain rfl := Option.some.inj hm
      exact hN81 _ _ _ ⟨_, _, _, _, rfl, sb135, L133, ⟨hp131, fp130, rl132⟩, trivial⟩
    · rintro s136 σ_ F137 H138 hm ⟨e139, e140, e141, e142, rfl, sf143, L144, ⟨hp145, fp146, rl147⟩, -⟩
      have sb148 := Same.trans sb66 sf143
      replace h_ties := Rep.mono sf143 h_ties
      obtain rfl := Option.some.inj hm
      exact hN40 _ _ _ ⟨_, _, _, _, _, rfl, sb148, L144, ⟨hp145, fp146, rl147⟩, trivial⟩
  · rintro s149 σ_ F150 H151 hm ⟨e152, e153, e154, e155, e156, rfl, sf157, L158, ⟨hp159, fp160, rl161⟩, -⟩
    refine nx_with ?_
    obtain ⟨F162, L163, sf164, h_heads_165, fq166⟩ := freeze L158 hz15 fp160 hp159 rl161
    refine rd_asgN L163.fh (evn_nil (α := List Int)) hm ?_
    intro x167 p168 w169 F170 H171 hm l172 hn177 fp174 hp173 rl175
    have hz176 := L163.h.free hn177
    have L178 := L163.trans l172
    replace h_heads_165 := up h_heads_165 l172
    refine rd_for L178.fh (ei_range1 (ev_varF rfl h_points)) hm ?_
    intro xs179 J180 F181 H182 hm l183 wk184
    have L185 := L178.trans l183
    replace h_heads_165 := up h_heads_165 l183
    replace fp174 := l183.nwl hp173 fp174
    replace hp173 := l183.h _ _ hp173
    replace rl175 := rpL.mono l183.f rl175
    refine rd_loopG wk184 hm (fun (s : (List (List Int))) σ_ F_ H_ => ∃ (o8_ : Option V) (o9_ : Option V) (w7_ : List V), σ_ = [some v_points, some v_ties, some (.ref p7), e152, e153, e154, e155, some (.ref p168), o8_, o9_, none] ∧ Same F181 F_ ∧ Lat F0 H F_ H_ ∧ (H_ p168 = some (.lst w7_) ∧ F_ p168 = none ∧ rpL s w7_ F_) ∧ True) ⟨_, _, _, rfl, (.refl _), L185, ⟨hp173, fp174, rl175⟩, trivial⟩ ?_ ?_ ?_
    · rintro s σ_ F_ H_ ⟨e186, e187, e188, rfl, sf189, L190, ⟨hp191, fp192, rl193⟩, -⟩
      exact ⟨sf189, L190.fh⟩
    · rintro q194 s195 σ_ F201 H202 v196 F203 H204 ⟨e205, e206, e207, rfl, sf208, L209, ⟨hp210, fp211, rl212⟩, -⟩ l197 rv198 s213 hm D200 hN199
      replace h_heads_165 := Rep.mono sf208 h_heads_165
      have L214 := L209.trans l197
      have sb215 := Same.trans sf208 l197.f
      replace h_heads_165 := up h_heads_165 l197
      replace fp211 := l197.nwl hp210 fp211
      replace hp210 := l197.h _ _ hp210
      replace rl212 := rpL.mono l197.f rl212
      refine gt_name ?_
      refine rd_asg L214.fh (EVN.ev (evn_lc (ei_range1 (ev_varF rfl h_points)) (fun x222 v223 _ _ _ l225 r224 k226 => gt_name (k226 _ rfl (evt_of (ev_op (ev_op (ev_var rfl (up h_heads_165 l225)) (ev_varF rfl r224) rv_ixL) (ev_varF rfl rv198) rv_eqI)) (ev_varF rfl r224))))) hm ?_
      intro x216 v217 F218 H219 hm l220 h_piece_221
      have L227 := L214.trans l220
      have sb228 := Same.trans sb215 l220.f
      replace h_heads_165 := up h_heads_165 l220
      replace fp211 := l220.nwl hp210 fp211
      replace hp210 := l220.h _ _ hp210
      replace rl212 := rpL.mono l220.f rl212
      refine rd_if L227.fh (evt_of (ev_op (ev_len (ev_var rfl h_piece_221)) ev_int rv_cmp)) hm ?_ ?_
      · intro F229 H230 _ hm l231
        have L232 := L227.trans l231
        have sb233 := Same.trans sb228 l231.f
        replace h_heads_165 := up h_heads_165 l231
        replace fp211 := l231.nwl hp210 fp211
        replace hp210 := l231.h _ _ hp210
        replace rl212 := rpL.mono l231.f rl212
        replace h_piece_221 := up h_piece_221 l231
        refine rd_appendL L232.fh rfl hp210 fp211 rl212 (ev_var rfl h_piece_221) hm ?_
        intro x234 w235 F236 H237 hm m238 fp239 hp240 rl241
        have L242 := m238.l0 _ _ L232 hz176
        have sb243 := Same.trans sb233 m238.f
        replace h_heads_165 := Rep.mono m238.f h_heads_165
        replace h_piece_221 := Rep.mono m238.f h_piece_221
        obtain rfl := Option.some.inj hm
        exact hN199 _ _ _ ⟨_, _, _, rfl, sb243, L242, ⟨hp240, fp239, rl241⟩, trivial⟩
      · intro F244 H245 _ hm l246
        have L247 := L227.trans l246
        have sb248 := Same.trans sb228 l246.f
        replace h_heads_165 := up h_heads_165 l246
        replace fp211 := l246.nwl hp210 fp211
        replace hp210 := l246.h _ _ hp210
        replace rl212 := rpL.mono l246.f rl212
        replace h_piece_221 := up h_piece_221 l246
        obtain rfl := Option.some.inj hm
        exact hN199 _ _ _ ⟨_, _, _, rfl, sb248, L247, ⟨hp210, fp211, rl212⟩, trivial⟩
    · rintro s249 σ_ F250 H251 hm ⟨e252, e253, e254, rfl, sf255, L256, ⟨hp257, fp258, rl259⟩, -⟩
      refine nx_with ?_
      exact rd_retO rfl (hQ _ (Option.some.inj hm).symm _ _ _ _ L256 hz176 fp258 hp257 rl259)
abbrev s_beside : Stmt := topS 9
theorem sc_beside : FnScope ["points", "ties", "more", "others", "low", "high"] ["points", "ties", "more", "others"] (defScope s_beside) := ⟨rfl, rfl, rfl, by decide +kernel, rfl, by decide +kernel, by decide +kernel⟩
theorem ok_beside {f : Addr} {fd : FuncData} (F : Fun K "beside" "beside" s_beside f fd) (gF : mg "beside" = some (.ref f)) (T : Txt K mg ad CW) (C_asked_web : Fn P w K mg base (L2.CX P w) 2 "asked_web" ["points", "ties"] (spX (clO ad) (β := Unit) fun (x : Int × (List (Int × Int)) × Unit) => asked_web x.1 x.2.1)) : Fn P w K mg base (L2.CX P w) 3 "beside" ["points", "ties", "more", "others"] (spXN (clO ad) (β := (Int × Int)) fun (x : Int × (List (Int × Int)) × Int × (List (Int × Int)) × Unit) => beside x.1 x.2.1 x.2.2.1 x.2.2.2.1) := by
  refine ⟨f, _, gF, F.kp, F.binds (ps := ["points", "ties", "more", "others"]) (fun _ _ _ _ _ _ us hl => match us, hl with | [_, _, _, _], _ => rfl), F.okX sc_beside (spXN_len rfl) (fun cdv A outer s H vs Q E hr h => ?_)⟩
  refine ⟨_, (pss_cons (ps_expr (pe_fnX (takes_of rfl rfl rfl rfl) C_asked_web (hr.mono (by decide)) rfl (pa_cons (pv 0) (pa_cons (pv 1) pa_nil))))
    (pss_cons (ps_expr (pe_fnX (takes_of rfl rfl rfl rfl) C_asked_web (hr.mono (by decide)) rfl (pa_cons (pv 2) (pa_cons (pv 3) pa_nil))))
    (pss_one (ps_ret (pe_op op_cat (pe_callTy call_list_of (by rfl) T.b_list (by decide +kernel) (pa_cons (pv 1) pa_nil)) (pe_lc (own := [("low", 4), ("high", 5)]) (g := (gTup K 2 (gCons (gName 4) (gCons (gName 5) gNil)))) rfl sc_beside.nd (pi_list (pv 3)) (blkOk_by (N := ["points", "ties", "more", "others", "low", "high"]) (sc := defScope s_beside) (by decide +kernel)) (fun _ _ _ _ _ => (pg_tup rfl (pgs_cons (pg_name (i := 4) sc_beside.nd rfl (by first | exact Or.inl rfl | exact Or.inr rfl)) (pgs_cons (pg_name (i := 5) sc_beside.nd rfl (by first | exact Or.inl rfl | exact Or.inr rfl)) pgs_nil)))) (fun _ _ _ _ _ => pts_nil) (fun _ _ _ _ _ => (pe_tup (pa_cons (pe_op op_add (pv 4) (pv 0)) (pa_cons (pe_op op_add (pv 5) (pv 0)) pa_nil)))))))))), ?_⟩
  obtain ⟨F0, ⟨x_points, x_ties, x_more, x_others, _⟩, y, s0, ⟨v_points, _, rfl, h_points, v_ties, _, rfl, h_ties, v_more, _, rfl, h_more, v_others, _, rfl, h_others, rfl⟩, hm, hQ, hE⟩ := h
  have L0 : Lat F0 H F0 H := .refl s0
  refine at_st (σ := [some v_points, some v_ties, some v_more, some v_others, none, none]) rfl ?_
  replace hm : beside x_points x_ties x_more x_others = some y := hm
  unfold beside at hm
  refine rd_dropX L0.fh (ex_call (EVA.x (eva_cons (ev_varF rfl h_points) (eva_cons (ev_var rfl h_ties) eva_nil)))) hm (fun e F1 H1 ee l => hE e ee F1 H1 (L0.trans l)) ?_
  intro x1 F2 H3 hm l4
  have L5 := L0.trans l4
  replace h_ties := up h_ties l4
  replace h_others := up h_others l4
  refine rd_dropX L5.fh (ex_call (EVA.x (eva_cons (ev_varF rfl h_more) (eva_cons (ev_var rfl h_others) eva_nil)))) hm (fun e F1 H1 ee l => hE e ee F1 H1 (L5.trans l)) ?_
  intro x6 F7 H8 hm l9
  have L10 := L5.trans l9
  replace h_ties := up h_ties l9
  replace h_others := up h_others l9
  exact rd_retNk L10.fh (evn_op (EVN.ev (evn_list (ev_var rfl h_ties))) (EVN.ev (evn_lc (ei_list (ev_var rfl h_others)) (fun x11 v12 _ _ _ l14 r13 k15 => gt_pair r13 l14.fh fun _ _ r16 r17 => (k15 _ rfl evt_yes (ev_tup (ev_op (ev_varF rfl r16) (ev_varF rfl h_points) rv_add) (ev_op (ev_varF rfl r17) (ev_varF rfl h_points) rv_add)))))) rvn_cat) hm fun x p vs F1 H1 hm l h1 h2 h3 rv => hQ x (Option.some.inj hm).symm p vs F1 H1 (L10.trans l) (L10.h.free h1) h2 h3 rv
abbrev s_cell_at : Stmt := topS 11
theorem sc_cell_at : FnScope ["script", "k"] ["script", "k"] (defScope s_cell_at) := ⟨rfl, rfl, rfl, by decide +kernel, rfl, by decide +kernel, by decide +kernel⟩
theorem ok_cell_at {f : Addr} {fd : FuncData} (F : Fun K "_law_cell_at" "_law_cell_at" s_cell_at f fd) (gF : mg "_law_cell_at" = some (.ref f)) (T : Txt K mg ad CW) : Fn P w K mg base CX0 1 "_law_cell_at" ["script", "k"] (spO (β := Int) fun (x : (Scr K) × Int × Unit) => cell_at x.1.l x.2.1) := by
  refine ⟨f, _, gF, F.kp, F.binds (ps := ["script", "k"]) (fun _ _ _ _ _ _ us hl => match us, hl with | [_, _], _ => rfl), F.ok sc_cell_at (spO_len rfl) (fun cdv A outer s H vs Q E hr h => ?_)⟩
  refine ⟨_, (pss_cons (ps_if (pt_cmpR op_lt (pv 1) (pe_callB call_len_seq (by rfl) T.b_len PySem.boot_len (pa_cons (pv 0) pa_nil)) (nomark _)) (pss_one (ps_ret (pe_ix ix_list (pv 0) (pv 1) (fun _ _ => rfl)))) pss_nil)
    (pss_one (ps_ret pe_int))), ?_⟩
  obtain ⟨F0, ⟨x_script, x_k, _⟩, y, s0, ⟨v_script, _, rfl, h_script, v_k, _, rfl, h_k, rfl⟩, hm, hQ⟩ := h
  have L0 : Lat F0 H F0 H := .refl s0
  refine at_st (σ := [some v_script, some v_k]) rfl ?_
  replace hm : cell_at x_script.l x_k = some y := hm
  unfold cell_at at hm
  refine rd_guard L0.fh (evt_of (ev_op (ev_varF rfl h_k) (ev_lenS (ev_var rfl h_script)) rv_cmp)) hm ?_ ?_
  · intro F1 H2 _ hm l3
    have L4 := L0.trans l3
    replace h_script := up h_script l3
    exact rd_ret0 L4.fh (ev_op (ev_var rfl h_script) (ev_varF rfl h_k) rv_ixS) hm fun v F1 H1 l rv => hQ v F1 H1 (L4.trans l) rv
  · intro F5 H6 _ hm l7
    have L8 := L0.trans l7
    exact rd_ret0 L8.fh ev_int hm fun v F1 H1 l rv => hQ v F1 H1 (L8.trans l) rv
abbrev s_next : Stmt := topS 12
theorem sc_next : FnScope ["seed"] ["seed"] (defScope s_next) := ⟨rfl, rfl, rfl, by decide +kernel, rfl, by decide +kernel, by decide +kernel⟩
theorem ok_next {f : Addr} {fd : FuncData} (F : Fun K "_law_next" "_law_next" s_next f fd) (gF : mg "_law_next" = some (.ref f)) (T : Txt K mg ad CW) : Fn P w K mg base CX0 1 "_law_next" ["seed"] (spO (β := Int) fun (x : Int × Unit) => next x.1) := by
  refine ⟨f, _, gF, F.kp, F.binds (ps := ["seed"]) (fun _ _ _ _ _ _ us hl => match us, hl with | [_], _ => rfl), F.ok sc_next (spO_len rfl) (fun cdv A outer s H vs Q E hr h => ?_)⟩
  refine ⟨_, (pss_one (ps_ret (pe_op op_mod (pe_op op_add (pe_op op_mul (pv 0) pe_int) pe_int) pe_int))), ?_⟩
  obtain ⟨F0, ⟨x_seed, _⟩, y, s0, ⟨v_seed, _, rfl, h_seed, rfl⟩, hm, hQ⟩ := h
  have L0 : Lat F0 H F0 H := .refl s0
  refine at_st (σ := [some v_seed]) rfl ?_
  replace hm : next x_seed = some y := hm
  unfold next at hm
  exact rd_ret0 L0.fh (ev_op (ev_op (ev_op (ev_varF rfl h_seed) ev_int rv_mul) ev_int rv_add) ev_int rv_mod) hm fun v F1 H1 l rv => hQ v F1 H1 (L0.trans l) rv
abbrev s_web_by : Stmt := topS 13
theorem sc_web_by : FnScope ["script", "k", "most", "cap", "points", "seed", "thick", "ties", "low", "high"] ["script", "k", "most", "cap"] (defScope s_web_by) := ⟨rfl, rfl, rfl, by decide +kernel, rfl, by decide +kernel, by decide +kernel⟩
theorem ok_web_by {f : Addr} {fd : FuncData} (F : Fun K "_law_web_by" "_law_web_by" s_web_by f fd) (gF : mg "_law_web_by" = some (.ref f)) (T : Txt K mg ad CW) (C_cell_at : Fn P w K mg base CX0 1 "_law_cell_at" ["script", "k"] (spO (β := Int) fun (x : (Scr K) × Int × Unit) => cell_at x.1.l x.2.1)) (C_next : Fn P w K mg base CX0 1 "_law_next" ["seed"] (spO (β := Int) fun (x : Int × Unit) => next x.1)) : Fn P w K mg base CX0 2 "_law_web_by" ["script", "k", "most", "cap"] (spO (β := (Int × (List (Int × Int)))) fun (x : (Scr K) × Int × Int × Int × Unit) => web_by x.1.l x.2.1 x.2.2.1 x.2.2.2.1) := by
  refine ⟨f, _, gF, F.kp, F.binds (ps := ["script", "k", "most", "cap"]) (fun _ _ _ _ _ _ us hl => match us, hl with | [_, _, _, _], _ => rfl), F.ok sc_web_by (spO_len rfl) (fun cdv A outer s H vs Q E hr h => ?_)⟩
  refine ⟨_, (pss_cons (ps_set (i := 4) sc_web_by.nd rfl (by first | exact Or.inl rfl | exact Or.inr rfl) (pe_op op_mod (pe_fn C_cell_at (hr.mono (by decide)) rfl (pa_cons (pv 0) (pa_cons (pv 1) pa_nil))) (pe_op op_add (pv 2) pe_int)))
    (pss_cons (ps_set (i := 5) sc_web_by.nd rfl (by first | exact Or.inl rfl | exact Or.inr rfl) (pe_fn C_next (hr.mono (by decide)) rfl (pa_cons (pe_fn C_cell_at (hr.mono (by decide)) rfl (pa_cons (pv 0) (pa_cons (pe_op op_add (pv 1) pe_int) pa_nil))) pa_nil)))
    (pss_cons (ps_set (i := 6) sc_web_by.nd rfl (by first | exact Or.inl rfl | exact Or.inr rfl) (pe_op op_add pe_int (pe_op op_mod (pe_fn C_cell_at (hr.mono (by decide)) rfl (pa_cons (pv 0) (pa_cons (pe_op op_add (pv 1) pe_int) pa_nil))) pe_int)))
    (pss_cons (ps_set (i := 7) sc_web_by.nd rfl (by first | exact Or.inl rfl | exact Or.inr rfl) (pe_lst pa_nil))
    (pss_cons (ps_for PassesOwn.never rfl (pi_range1 (by rfl) T.b_range (pa_cons (pv 4) pa_nil)) (pg_name (i := 8) sc_web_by.nd rfl (by first | exact Or.inl rfl | exact Or.inr rfl)) (pss_one (ps_for PassesOwn.never rfl (pi_range2 (by rfl) T.b_range (pa_cons (pe_op op_add (pv 8) pe_int) (pa_cons (pv 4) pa_nil))) (pg_name (i := 9) sc_web_by.nd rfl (by first | exact Or.inl rfl | exact Or.inr rfl)) (pss_cons (ps_if (PW.pt (pw_and (pt_cmpR op_lt (pe_op op_mod (pe_op op_fdiv (pv 5) pe_int) pe_int) (pv 6) (nomark _)) (pw_and1 (pt_cmpR op_lt (pe_callB call_len_seq (by rfl) T.b_len PySem.boot_len (pa_cons (pv 7) pa_nil)) (pv 3) (nomark _))))) (pss_one (ps_expr (pe_bm PySem.F.plainAttrs_list PySem.F.slot_list_append PySem.F.type_list_append mt_append (pv 7) (pa_cons (pe_tup (pa_cons (pv 8) (pa_cons (pv 9) pa_nil))) pa_nil)))) pss_nil)
    (pss_one (ps_set (i := 5) sc_web_by.nd rfl (by first | exact Or.inl rfl | exact Or.inr rfl) (pe_fn C_next (hr.mono (by decide)) rfl (pa_cons (pv 5) pa_nil))))))))
    (pss_one (ps_ret (pe_tup (pa_cons (pv 4) (pa_cons (pv 7) pa_nil)))))))))), ?_⟩
  obtain ⟨F0, ⟨x_script, x_k, x_most, x_cap, _⟩, y, s0, ⟨v_script, _, rfl, h_script, v_k, _, rfl, h_k, v_most, _, rfl, h_most, v_cap, _, rfl, h_cap, rfl⟩, hm, hQ⟩ := h
  have L0 : Lat F0 H F0 H := .refl s0
  refine at_st (σ := [some v_script, some v_k, some v_most, some v_cap, none, none, none, none, none, none]) rfl ?_
  replace hm : web_by x_script.l x_k x_most x_cap = some y := hm
  unfold web_by at hm
  refine rd_asg L0.fh (ev_op (ev_call (eva_cons (ev_var rfl h_script) (eva_cons (ev_varF rfl h_k) eva_nil))) (ev_op (ev_varF rfl h_most) ev_int rv_add) rv_mod) hm ?_
  intro x1 v2 F3 H4 hm l5 h_points_6
  have L7 := L0.trans l5
  replace h_script := up h_script l5
  refine rd_asg L7.fh (ev_call (eva_cons (ev_call (eva_cons (ev_var rfl h_script) (eva_cons (ev_op (ev_varF rfl h_k) ev_int rv_add) eva_nil))) eva_nil)) hm ?_
  intro x8 v9 F10 H11 hm l12 h_seed_13
  have L14 := L7.trans l12
  replace h_script := up h_script l12
  refine rd_asg L14.fh (ev_op ev_int (ev_op (ev_call (eva_cons (ev_var rfl h_script) (eva_cons (ev_op (ev_varF rfl h_k) ev_int rv_add) eva_nil))) ev_int rv_mod) rv_add) hm ?_
  intro x15 v16 F17 H18 hm l19 h_thick_20
  have L21 := L14.trans l19
  refine rd_asgN L21.fh (evn_nil (α := Int × Int)) hm ?_
  intro x22 p23 w24 F25 H26 hm l27 hn32 fp29 hp28 rl30
  have hz31 := L21.h.free hn32
  have L33 := L21.trans l27
  refine rd_for L33.fh (ei_range1 (ev_varF rfl h_points_6)) hm ?_
  intro xs34 J35 F36 H37 hm l38 wk39
  have L40 := L33.trans l38
  replace fp29 := l38.nwl hp28 fp29
  replace hp28 := l38.h _ _ hp28
  replace rl30 := rpL.mono l38.f rl30
  refine rd_loopG wk39 hm (fun (s : Int × (List (Int × Int))) σ_ F_ H_ => ∃ (v5_ : V) (o8_ : Option V) (o9_ : Option V) (w7_ : List V), σ_ = [some v_script, some v_k, some v_most, some v_cap, some v2, some v5_, some v16, some (.ref p23), o8_, o9_] ∧ Same F36 F_ ∧ Lat F0 H F_ H_ ∧ Rep.rp s.1 v5_ F_ ∧ (H_ p23 = some (.lst w7_) ∧ F_ p23 = none ∧ rpL s.2 w7_ F_) ∧ True) ⟨_, _, _, _, rfl, (.refl _), L40, (Flat.any h_seed_13), ⟨hp28, fp29, rl30⟩, trivial⟩ ?_ ?_ ?_
  · rintro s σ_ F_ H_ ⟨e41, e42, e43, e44, rfl, sf45, L46, h_seed_47, ⟨hp48, fp49, rl50⟩, -⟩
    exact ⟨sf45, L46.fh⟩
  · rintro q51 s52 σ_ F58 H59 v53 F60 H61 ⟨e62, e63, e64, e65, rfl, sf66, L67, h_seed_68, ⟨hp69, fp70, rl71⟩, -⟩ l54 rv55 s72 hm D57 hN56
    have L73 := L67.trans l54
    have sb74 := Same.trans sf66 l54.f
    replace fp70 := l54.nwl hp69 fp70
    replace hp69 := l54.h _ _ hp69
    replace rl71 := rpL.mono l54.f rl71
    refine gt_name ?_
    refine rd_forL L73.fh (ei_range2 (ev_op (ev_varF rfl rv55) ev_int rv_add) (ev_varF rfl h_points_6)) hm ?_
    intro xs75 J76 F77 H78 hm l79 wk80
    have L81 := L73.trans l79
    have sb82 := Same.trans sb74 l79.f
    replace fp70 := l79.nwl hp69 fp70
    replace hp69 := l79.h _ _ hp69
    replace rl71 := rpL.mono l79.f rl71
    refine rd_loopG wk80 hm (fun (s : Int × (List (Int × Int))) σ_ F_ H_ => ∃ (v5_ : V) (o9_ : Option V) (w7_ : List V), σ_ = [some v_script, some v_k, some v_most, some v_cap, some v2, some v5_, some v16, some (.ref p23), some v53, o9_] ∧ Same F77 F_ ∧ Lat F0 H F_ H_ ∧ Rep.rp s.1 v5_ F_ ∧ (H_ p23 = some (.lst w7_) ∧ F_ p23 = none ∧ rpL s.2 w7_ F_) ∧ True) ⟨_, _, _, rfl, (.refl _), L81, (Flat.any h_seed_68), ⟨hp69, fp70, rl71⟩, trivial⟩ ?_ ?_ ?_
    · rintro s σ_ F_ H_ ⟨e83, e84, e85, rfl, sf86, L87, h_seed_88, ⟨hp89, fp90, rl91⟩, -⟩
      exact ⟨sf86, L87.fh⟩
    · rintro q92 s93 σ_ F99 H100 v94 F101 H102 ⟨e103, e104, e105, rfl, sf106, L107, h_seed_108, ⟨hp109, fp110, rl111⟩, -⟩ l95 rv96 s112 hm D98 hN97
      have sb113 := Same.trans sb82 sf106
      have L114 := L107.trans l95
      have sb115 := Same.trans sb113 l95.f
      have sb116 := Same.trans sf106 l95.f
      replace fp110 := l95.nwl hp109 fp110
      replace hp109 := l95.h _ _ hp109
      replace rl111 := rpL.mono l95.f rl111
      refine gt_name ?_
      refine rd_join (fun (s : (List (Int × Int))) σ_ F_ H_ => ∃ (w7_ : List V), σ_ = [some v_script, some v_k, some v_most, some v_cap, some v2, some e103, some v16, some (.ref p23), some v53, some v94] ∧ Same F101 F_ ∧ Lat F0 H F_ H_ ∧ (H_ p23 = some (.lst w7_) ∧ F_ p23 = none ∧ rpL s w7_ F_) ∧ True) hm ?_ ?_
      · intro s117 hm D118 hN119
        refine rd_if L114.fh (EVT.flat (evt_and (evt_of (ev_op (ev_op (ev_op (ev_varF rfl h_seed_108) ev_int rv_div) ev_int rv_mod) (ev_varF rfl h_thick_20) rv_cmp)) (evt_of (ev_op (ev_len (ev_var rfl (own_rp L114.fh hp109 rl111))) (ev_varF rfl h_cap) rv_cmp))) L114.fh) hm ?_ ?_
        · intro F120 H121 _ hm l122
          have L123 := L114.trans l122
          have sb124 := Same.trans sb115 l122.f
          have sb125 := Same.trans sb116 l122.f
          replace fp110 := l122.nwl hp109 fp110
          replace hp109 := l122.h _ _ hp109
          replace rl111 := rpL.mono l122.f rl111
          refine rd_appendL L123.fh rfl hp109 fp110 rl111 (ev_tup (ev_varF rfl rv55) (ev_varF rfl rv96)) hm ?_
          intro x126 w127 F128 H129 hm m130 fp131 hp132 rl133
          have L134 := m130.l0 _ _ L123 hz31
          have sb135 := Same.trans sb124 m130.f
          have sb136 := Same.trans sb125 m130.f
          have sb137 := Same.trans l122.f m130.f
          obtain rfl := Option.some.inj hm
          exact hN119 _ _ _ ⟨_, rfl, sb137, L134, ⟨hp132, fp131, rl133⟩, trivial⟩
        · intro F138 H139 _ hm l140
          have L141 := L114.trans l140
          have sb142 := Same.trans sb115 l140.f
          have sb143 := Same.trans sb116 l140.f
          replace fp110 := l140.nwl hp109 fp110
          replace hp109 := l140.h _ _ hp109
          replace rl111 := rpL.mono l140.f rl111
          obtain rfl := Option.some.inj hm
          exact hN119 _ _ _ ⟨_, rfl, l140.f, L141, ⟨hp109, fp110, rl111⟩, trivial⟩
      · rintro s144 σ_ F145 H146 hm ⟨e147, rfl, sf148, L149, ⟨hp150, fp151, rl152⟩, -⟩
        have sb153 := Same.trans sb115 sf148
        have sb154 := Same.trans sb116 sf148
        refine rd_asgL L149.fh (ev_call (eva_cons (ev_varF rfl h_seed_108) eva_nil)) hm ?_
        intro x155 v156 F157 H158 hm l159 h_seed_160
        have L161 := L149.trans l159
        have sb162 := Same.trans sb153 l159.f
        have sb163 := Same.trans sb154 l159.f
        replace fp151 := l159.nwl hp150 fp151
        replace hp150 := l159.h _ _ hp150
        replace rl152 := rpL.mono l159.f rl152
        obtain rfl := Option.some.inj hm
        exact hN97 _ _ _ ⟨_, _, _, rfl, sb163, L161, (Flat.any h_seed_160), ⟨hp150, fp151, rl152⟩, trivial⟩
    · rintro s164 σ_ F165 H166 hm ⟨e167, e168, e169, rfl, sf170, L171, h_seed_172, ⟨hp173, fp174, rl175⟩, -⟩
      have sb176 := Same.trans sb82 sf170
      obtain rfl := Option.some.inj hm
      exact hN56 _ _ _ ⟨_, _, _, _, rfl, sb176, L171, (Flat.any h_seed_172), ⟨hp173, fp174, rl175⟩, trivial⟩
  · rintro s177 σ_ F178 H179 hm ⟨e180, e181, e182, e183, rfl, sf184, L185, h_seed_186, ⟨hp187, fp188, rl189⟩, -⟩
    refine nx_with ?_
    obtain ⟨F190, L191, sf192, h_ties_193, fq194⟩ := freeze L185 hz31 fp188 hp187 rl189
    exact rd_ret0 L191.fh (ev_tup (ev_varF rfl h_points_6) (ev_var rfl h_ties_193)) hm fun v F1 H1 l rv => hQ v F1 H1 (L191.trans l) rv
abbrev s_numbers_like : Stmt := topS 14
theorem sc_numbers_like : FnScope ["found", "due", "one", "other"] ["found", "due"] (defScope s_numbers_like) := ⟨rfl, rfl, rfl, by decide +kernel, rfl, by decide +kernel, by decide +kernel⟩
theorem ok_numbers_like {f : Addr} {fd : FuncData} (F : Fun K "_law_numbers_like" "_law_numbers_like" s_numbers_like f fd) (gF : mg "_law_numbers_like" = some (.ref f)) (T : Txt K mg ad CW) : Fn P w K mg base CX0 1 "_law_numbers_like" ["found", "due"] (spO (β := Bool) fun (x : (List Int) × (List Int) × Unit) => numbers_like x.1 x.2.1) := by
  refine ⟨f, _, gF, F.kp, F.binds (ps := ["found", "due"]) (fun _ _ _ _ _ _ us hl => match us, hl with | [_, _], _ => rfl), F.ok sc_numbers_like (spO_len rfl) (fun cdv A outer s H vs Q E hr h => ?_)⟩
  refine ⟨_, (pss_cons (ps_if (PW.pt (pw_or (pt_not (pt_val (pe_callB call_isi (by rfl) T.b_isinstance (by decide +kernel) (pa_cons (pv 0) (pa_cons (pe_bltn (v := .ty "list") (by rfl) T.b_list (by decide +kernel) rfl) pa_nil))))) (pw_or1 (pt_cmpR op_ne (pe_callB call_len_seq (by rfl) T.b_len PySem.boot_len (pa_cons (pv 0) pa_nil)) (pe_callB call_len_seq (by rfl) T.b_len PySem.boot_len (pa_cons (pv 1) pa_nil)) (nomark _))))) (pss_one (ps_ret pe_bl)) pss_nil)
    (pss_cons (ps_for PassesOwn.never rfl (pi_zip (by rfl) T.b_zip (pa_cons (pv 0) (pa_cons (pv 1) pa_nil))) (pg_tup rfl (pgs_cons (pg_name (i := 2) sc_numbers_like.nd rfl (by first | exact Or.inl rfl | exact Or.inr rfl)) (pgs_cons (pg_name (i := 3) sc_numbers_like.nd rfl (by first | exact Or.inl rfl | exact Or.inr rfl)) pgs_nil))) (pss_one (ps_if (PW.pt (pw_or (pt_not (pt_val (pe_callB call_isi (by rfl) T.b_isinstance (by decide +kernel) (pa_cons (pv 2) (pa_cons (pe_bltn (v := .ty "int") (by rfl) T.b_int (by decide +kernel) rfl) pa_nil))))) (pw_or (pt_val (pe_callB call_isi (by rfl) T.b_isinstance (by decide +kernel) (pa_cons (pv 2) (pa_cons (pe_bltn (v := .ty "bool") (by rfl) T.b_bool (by decide +kernel) rfl) pa_nil)))) (pw_or1 (pt_cmpR op_ne (pv 2) (pv 3) (nomark _)))))) (pss_one (ps_ret pe_bl)) pss_nil)))
    (pss_one (ps_ret pe_bl)))), ?_⟩
  obtain ⟨F0, ⟨x_found, x_due, _⟩, y, s0, ⟨v_found, _, rfl, h_found, v_due, _, rfl, h_due, rfl⟩, hm, hQ⟩ := h
  have L0 : Lat F0 H F0 H := .refl s0
  refine at_st (σ := [some v_found, some v_due, none, none]) rfl ?_
  replace hm : numbers_like x_found x_due = some y := hm
  unfold numbers_like at hm
  refine rd_guard L0.fh (evt_or (evt_not (evt_b (ev_isi (ev_var rfl h_found) true))) (evt_of (ev_op (ev_len (ev_var rfl h_found)) (ev_len (ev_var rfl h_due)) rv_neI))) hm ?_ ?_
  · intro F1 H2 _ hm l3
    have L4 := L0.trans l3
    exact rd_ret0 L4.fh ev_bl hm fun v F1 H1 l rv => hQ v F1 H1 (L4.trans l) rv
  · intro F5 H6 _ hm l7
    have L8 := L0.trans l7
    replace h_found := up h_found l7
    replace h_due := up h_due l7
    refine rd_for L8.fh (ei_zip (ev_var rfl h_found) (ev_var rfl h_due)) hm ?_
    intro xs9 J10 F11 H12 hm l13 wk14
    have L15 := L8.trans l13
    replace h_found := up h_found l13
    replace h_due := up h_due l13
    refine rd_loopR wk14 hm (fun (s : Unit) σ_ F_ H_ => ∃ (o2_ : Option V) (o3_ : Option V), σ_ = [some v_found, some v_due, o2_, o3_] ∧ Same F11 F_ ∧ Lat F0 H F_ H_ ∧ True) ⟨_, _, rfl, (.refl _), L15, trivial⟩ ?_ ?_ ?_
    · rintro s σ_ F_ H_ ⟨e16, e17, rfl, sf18, L19, -⟩
      exact ⟨sf18, L19.fh⟩
    · rintro q20 s21 σ_ F27 H28 v22 F29 H30 ⟨e31, e32, rfl, sf33, L34, -⟩ l23 rv24 st37 hm D26 hD35 hN25 hR36
      replace hD35 : D26.rt = Q := hD35
      have L38 := L34.trans l23
      have sb39 := Same.trans sf33 l23.f
      refine gt_pair rv24 l23.fh ?_
      intro v40 v41 h_one_42 h_other_43
      refine rd_if L38.fh (evt_or (evt_not (evt_b (ev_isi (ev_varF rfl h_one_42) true))) (evt_or (evt_b (ev_isi (ev_varF rfl h_one_42) false)) (evt_of (ev_op (ev_varF rfl h_one_42) (ev_varF rfl h_other_43) rv_neI)))) hm ?_ ?_
      · intro F44 H45 _ hm l46
        have L47 := L38.trans l46
        have sb48 := Same.trans sb39 l46.f
        refine rd_ret L47.fh ev_bl hm ?_
        intro x_ v_ F1_ H1_ hm l_ rv_
        replace hm := hR36 _ (Option.some.inj hm).symm
        obtain rfl := Option.some.inj hm
        rw [hD35]
        exact hQ _ _ _ (L47.trans l_) rv_
      · intro F49 H50 _ hm l51
        have L52 := L38.trans l51
        have sb53 := Same.trans sb39 l51.f
        exact hN25 _ (Option.some.inj hm).symm _ _ _ ⟨_, _, rfl, sb53, L52, trivial⟩
    · rintro s54 σ_ F55 H56 hm ⟨e57, e58, rfl, sf59, L60, -⟩
      refine nx_with ?_
      exact rd_ret0 L60.fh ev_bl hm fun v F1 H1 l rv => hQ v F1 H1 (L60.trans l) rv
abbrev s_ties_like : Stmt := topS 15
theorem sc_ties_like : FnScope ["found", "due", "one", "other", "point"] ["found", "due"] (defScope s_ties_like) := ⟨rfl, rfl, rfl, by decide +kernel, rfl, by decide +kernel, by decide +kernel⟩
theorem ok_ties_like {f : Addr} {fd : FuncData} (F : Fun K "_law_ties_like" "_law_ties_like" s_ties_like f fd) (gF : mg "_law_ties_like" = some (.ref f)) (T : Txt K mg ad CW) : Fn P w K mg base CX0 1 "_law_ties_like" ["found", "due"] (spO (β := Bool) fun (x : (List (Int × Int)) × (List (Int × Int)) × Unit) => ties_like x.1 x.2.1) := by
  refine ⟨f, _, gF, F.kp, F.binds (ps := ["found", "due"]) (fun _ _ _ _ _ _ us hl => match us, hl with | [_, _], _ => rfl), F.ok sc_ties_like (spO_len rfl) (fun cdv A outer s H vs Q E hr h => ?_)⟩
  refine ⟨_, (pss_cons (ps_if (PW.pt (pw_or (pt_not (pt_val (pe_callB call_isi (by rfl) T.b_isinstance (by decide +kernel) (pa_cons (pv 0) (pa_cons (pe_bltn (v := .ty "list") (by rfl) T.b_list (by decide +kernel) rfl) pa_nil))))) (pw_or1 (pt_cmpR op_ne (pe_callB call_len_seq (by rfl) T.b_len PySem.boot_len (pa_cons (pv 0) pa_nil)) (pe_callB call_len_seq (by rfl) T.b_len PySem.boot_len (pa_cons (pv 1) pa_nil)) (nomark _))))) (pss_one (ps_ret pe_bl)) pss_nil)
    (pss_cons (ps_for PassesOwn.never rfl (pi_zip (by rfl) T.b_zip (pa_cons (pv 0) (pa_cons (pv 1) pa_nil))) (pg_tup rfl (pgs_cons (pg_name (i := 2) sc_ties_like.nd rfl (by first | exact Or.inl rfl | exact Or.inr rfl)) (pgs_cons (pg_name (i := 3) sc_ties_like.nd rfl (by first | exact Or.inl rfl | exact Or.inr rfl)) pgs_nil))) (pss_cons (ps_if (PW.pt (pw_or (pt_not (pt_val (pe_callB call_isi (by rfl) T.b_isinstance (by decide +kernel) (pa_cons (pv 2) (pa_cons (pe_bltn (v := .ty "tuple") (by rfl) T.b_tuple (by decide +kernel) rfl) pa_nil))))) (pw_or (pt_cmpR op_ne (pe_callB call_len_seq (by rfl) T.b_len PySem.boot_len (pa_cons (pv 2) pa_nil)) pe_int (nomark _)) (pw_or1 (pt_cmpR (op_neD (hu64 hr)) (pv 2) (pv 3) (nomark _)))))) (pss_one (ps_ret pe_bl)) pss_nil)
    (pss_one (ps_for PassesOwn.never rfl (pi_tup (pv 2)) (pg_name (i := 4) sc_ties_like.nd rfl (by first | exact Or.inl rfl | exact Or.inr rfl)) (pss_one (ps_if (PW.pt (pw_or (pt_not (pt_val (pe_callB call_isi (by rfl) T.b_isinstance (by decide +kernel) (pa_cons (pv 4) (pa_cons (pe_bltn (v := .ty "int") (by rfl) T.b_int (by decide +kernel) rfl) pa_nil))))) (pw_or1 (pt_val (pe_callB call_isi (by rfl) T.b_isinstance (by decide +kernel) (pa_cons (pv 4) (pa_cons (pe_bltn (v := .ty "bool") (by rfl) T.b_bool (by decide +kernel) rfl) pa_nil))))))) (pss_one (ps_ret pe_bl)) pss_nil))))))
    (pss_one (ps_ret pe_bl)))), ?_⟩
  obtain ⟨F0, ⟨x_found, x_due, _⟩, y, s0, ⟨v_found, _, rfl, h_found, v_due, _, rfl, h_due, rfl⟩, hm, hQ⟩ := h
  have L0 : Lat F0 H F0 H := .refl s0
  refine at_st (σ := [some v_found, some v_due, none, none, none]) rfl ?_
  replace hm : ties_like x_found x_due = some y := hm
  unfold ties_like at hm
  refine rd_guard L0.fh (evt_or (evt_not (evt_b (ev_isi (ev_var rfl h_found) true))) (evt_of (ev_op (ev_len (ev_var rfl h_found)) (ev_len (ev_var rfl h_due)) rv_neI))) hm ?_ ?_
  · intro F1 H2 _ hm l3
    have L4 := L0.trans l3
    exact rd_ret0 L4.fh ev_bl hm fun v F1 H1 l rv => hQ v F1 H1 (L4.trans l) rv
  · intro F5 H6 _ hm l7
    have L8 := L0.trans l7
    replace h_found := up h_found l7
    replace h_due := up h_due l7
    refine rd_for L8.fh (ei_zip (ev_var rfl h_found) (ev_var rfl h_due)) hm ?_
    intro xs9 J10 F11 H12 hm l13 wk14
    have L15 := L8.trans l13
    replace h_found := up h_found l13
    replace h_due := up h_due l13
    refine rd_loopR wk14 hm (fun (s : Unit) σ_ F_ H_ => ∃ (o2_ : Option V) (o3_ : Option V) (o4_ : Option V), σ_ = [some v_found, some v_due, o2_, o3_, o4_] ∧ Same F11 F_ ∧ Lat F0 H F_ H_ ∧ True) ⟨_, _, _, rfl, (.refl _), L15, trivial⟩ ?_ ?_ ?_
    · rintro s σ_ F_ H_ ⟨e16, e17, e18, rfl, sf19, L20, -⟩
      exact ⟨sf19, L20.fh⟩
    · rintro q21 s22 σ_ F28 H29 v23 F30 H31 ⟨e32, e33, e34, rfl, sf35, L36, -⟩ l24 rv25 st39 hm D27 hD37 hN26 hR38
      replace hD37 : D27.rt = Q := hD37
      have L40 := L36.trans l24
      have sb41 := Same.trans sf35 l24.f
      refine gt_pair rv25 l24.fh ?_
      intro v42 v43 h_one_44 h_other_45
      refine rd_guard L40.fh (evt_or (evt_not (evt_b (ev_isi (ev_var rfl h_one_44) true))) (evt_or (evt_of (ev_op (ev_len2 (ev_var rfl h_one_44)) ev_int rv_neI)) (evt_of (ev_op (ev_var rfl h_one_44) (ev_var rfl h_other_45) (fun x y => rv_neD x y))))) hm ?_ ?_
      · intro F46 H47 _ hm l48
        have L49 := L40.trans l48
        have sb50 := Same.trans sb41 l48.f
        replace h_one_44 := up h_one_44 l48
        replace h_other_45 := up h_other_45 l48
        refine rd_ret L49.fh ev_bl hm ?_
        intro x_ v_ F1_ H1_ hm l_ rv_
        replace hm := hR38 _ (Option.some.inj hm).symm
        obtain rfl := Option.some.inj hm
        rw [hD37]
        exact hQ _ _ _ (L49.trans l_) rv_
      · intro F51 H52 _ hm l53
        have L54 := L40.trans l53
        have sb55 := Same.trans sb41 l53.f
        replace h_one_44 := up h_one_44 l53
        replace h_other_45 := up h_other_45 l53
        refine rd_forL L54.fh (ei_tup (ev_var rfl h_one_44)) hm ?_
        intro xs56 J57 F58 H59 hm l60 wk61
        have L62 := L54.trans l60
        have sb63 := Same.trans sb55 l60.f
        replace h_one_44 := up h_one_44 l60
        replace h_other_45 := up h_other_45 l60
        refine rd_loopR wk61 hm (fun (s : Unit) σ_ F_ H_ => ∃ (o4_ : Option V), σ_ = [some v_found, some v_due, some v42, some v43, o4_] ∧ Same F58 F_ ∧ Lat F0 H F_ H_ ∧ True) ⟨_, rfl, (.refl _), L62, trivial⟩ ?_ ?_ ?_
        · rintro s σ_ F_ H_ ⟨e64, rfl, sf65, L66, -⟩
          exact ⟨sf65, L66.fh⟩
        · rintro q67 s68 σ_ F74 H75 v69 F76 H77 ⟨e78, rfl, sf79, L80, -⟩ l70 rv71 st83 hm D73 hD81 hN72 hR82
          replace hD81 : D73.rt = D27.rt := hD81
          have sb84 := Same.trans sb63 sf79
          replace h_one_44 := Rep.mono sf79 h_one_44
          replace h_other_45 := Rep.mono sf79 h_other_45
          have L85 := L80.trans l70
          have sb86 := Same.trans sb84 l70.f
          have sb87 := Same.trans sf79 l70.f
          replace h_one_44 := up h_one_44 l70
          replace h_other_45 := up h_other_45 l70
          refine gt_name ?_
          refine rd_if L85.fh (evt_or (evt_not (evt_b (ev_isi (ev_varF rfl rv71) true))) (evt_b (ev_isi (ev_varF rfl rv71) false))) hm ?_ ?_
          · intro F88 H89 _ hm l90
            have L91 := L85.trans l90
            have sb92 := Same.trans sb86 l90.f
            have sb93 := Same.trans sb87 l90.f
            replace h_one_44 := up h_one_44 l90
            replace h_other_45 := up h_other_45 l90
            refine rd_ret L91.fh ev_bl hm ?_
            intro x_ v_ F1_ H1_ hm l_ rv_
            replace hm := hR82 _ (Option.some.inj hm).symm
            replace hm := hR38 _ (Option.some.inj hm).symm
            obtain rfl := Option.some.inj hm
            rw [hD81, hD37]
            exact hQ _ _ _ (L91.trans l_) rv_
          · intro F94 H95 _ hm l96
            have L97 := L85.trans l96
            have sb98 := Same.trans sb86 l96.f
            have sb99 := Same.trans sb87 l96.f
            replace h_one_44 := up h_one_44 l96
            replace h_other_45 := up h_other_45 l96
            exact hN72 _ (Option.some.inj hm).symm _ _ _ ⟨_, rfl, sb99, L97, trivial⟩
        · rintro s100 σ_ F101 H102 hm ⟨e103, rfl, sf104, L105, -⟩
          have sb106 := Same.trans sb63 sf104
          replace h_one_44 := Rep.mono sf104 h_one_44
          replace h_other_45 := Rep.mono sf104 h_other_45
          exact hN26 _ (Option.some.inj hm).symm _ _ _ ⟨_, _, _, rfl, sb106, L105, trivial⟩
    · rintro s107 σ_ F108 H109 hm ⟨e110, e111, e112, rfl, sf113, L114, -⟩
      refine nx_with ?_
      exact rd_ret0 L114.fh ev_bl hm fun v F1 H1 l rv => hQ v F1 H1 (L114.trans l) rv
abbrev s_parts : Stmt := topS 16
theorem sc_parts : FnScope ["points", "ties", "found", "point", "part", "lap", "low", "high"] ["points", "ties"] (defScope s_parts) := ⟨rfl, rfl, rfl, by decide +kernel, rfl, by decide +kernel, by decide +kernel⟩
theorem ok_parts {f : Addr} {fd : FuncData} (F : Fun K "_law_parts" "_law_parts" s_parts f fd) (gF : mg "_law_parts" = some (.ref f)) (T : Txt K mg ad CW) : Fn P w K mg base CX0 1 "_law_parts" ["points", "ties"] (spN (β := (List Int)) fun (x : Int × (List (Int × Int)) × Unit) => parts x.1 x.2.1) := by
  refine ⟨f, _, gF, F.kp, F.binds (ps := ["points", "ties"]) (fun _ _ _ _ _ _ us hl => match us, hl with | [_, _], _ => rfl), F.ok sc_parts (spN_len rfl) (fun cdv A outer s H vs Q E hr h => ?_)⟩
  refine ⟨_, (pss_cons (ps_set (i := 2) sc_parts.nd rfl (by first | exact Or.inl rfl | exact Or.inr rfl) (pe_lst pa_nil))
    (pss_cons (ps_for PassesOwn.never rfl (pi_range1 (by rfl) T.b_range (pa_cons (pv 0) pa_nil)) (pg_name (i := 3) sc_parts.nd rfl (by first | exact Or.inl rfl | exact Or.inr rfl)) (pss_one (ps_if (pt_cmpR op_eq (pe_callB call_len_seq (by rfl) T.b_len PySem.boot_len (pa_cons (pe_lc (own := [("part", 4)]) (g := (gName 4)) rfl sc_parts.nd (pi_list (pv 2)) (blkOk_by (N := ["points", "ties", "found", "point", "part", "lap", "low", "high"]) (sc := defScope s_parts) (by decide +kernel)) (fun _ _ _ _ _ => (pg_name (i := 4) sc_parts.nd rfl (by first | exact Or.inl rfl | exact Or.inr rfl))) (fun _ _ _ _ _ => (pts_one (pt_cmpR (op_in_seqK rfl) (pv 3) (pv 4) (by rfl)))) (fun _ _ _ _ _ => (pv 4))) pa_nil)) pe_int (nomark _)) (pss_cons (ps_set (i := 4) sc_parts.nd rfl (by first | exact Or.inl rfl | exact Or.inr rfl) (pe_lst (pa_cons (pv 3) pa_nil)))
    (pss_cons (ps_for PassesOwn.never rfl (pi_range1 (by rfl) T.b_range (pa_cons (pv 0) pa_nil)) (pg_name (i := 5) sc_parts.nd rfl (by first | exact Or.inl rfl | exact Or.inr rfl)) (pss_one (ps_for PassesOwn.never rfl (pi_list (pv 1)) (pg_tup rfl (pgs_cons (pg_name (i := 6) sc_parts.nd rfl (by first | exact Or.inl rfl | exact Or.inr rfl)) (pgs_cons (pg_name (i := 7) sc_parts.nd rfl (by first | exact Or.inl rfl | exact Or.inr rfl)) pgs_nil))) (pss_one (ps_if (pt_cmpR op_ne (pe_cmpR op_in_seq (pv 6) (pv 4) (by rfl)) (pe_cmpR op_in_seq (pv 7) (pv 4) (by rfl)) (nomark _)) (pss_one (ps_expr (pe_bm PySem.F.plainAttrs_list PySem.F.slot_list_append PySem.F.type_list_append mt_append (pv 4) (pa_cons (pe_ifExp (pt_cmpR op_in_seq (pv 6) (pv 4) (by rfl)) (pv 7) (pv 6)) pa_nil)))) pss_nil)))))
    (pss_one (ps_expr (pe_bm PySem.F.plainAttrs_list PySem.F.slot_list_append PySem.F.type_list_append mt_append (pv 2) (pa_cons (pe_callB cr_sorted (by rfl) T.b_sorted (by decide +kernel) (pa_cons (pv 4) pa_nil)) pa_nil)))))) pss_nil)))
    (pss_one (ps_ret (pv 2))))), ?_⟩
  obtain ⟨F0, ⟨x_points, x_ties, _⟩, y, s0, ⟨v_points, _, rfl, h_points, v_ties, _, rfl, h_ties, rfl⟩, hm, hQ⟩ := h
  have L0 : Lat F0 H F0 H := .refl s0
  refine at_st (σ := [some v_points, some v_ties, none, none, none, none, none, none]) rfl ?_
  replace hm : parts x_points x_ties = some y := hm
  unfold parts at hm
  refine rd_asgN L0.fh (evn_nil (α := List Int)) hm ?_
  intro x1 p2 w3 F4 H5 hm l6 hn11 fp8 hp7 rl9
  have hz10 := L0.h.free hn11
  have L12 := L0.trans l6
  replace h_ties := up h_ties l6
  refine rd_for L12.fh (ei_range1 (ev_varF rfl h_points)) hm ?_
  intro xs13 J14 F15 H16 hm l17 wk18
  have L19 := L12.trans l17
  replace h_ties := up h_ties l17
  replace fp8 := l17.nwl hp7 fp8
  replace hp7 := l17.h _ _ hp7
  replace rl9 := rpL.mono l17.f rl9
  refine rd_loopG wk18 hm (fun (s : (List (List Int))) σ_ F_ H_ => ∃ (o3_ : Option V) (o4_ : Option V) (o5_ : Option V) (o6_ : Option V) (o7_ : Option V) (w2_ : List V), σ_ = [some v_points, some v_ties, some (.ref p2), o3_, o4_, o5_, o6_, o7_] ∧ Same F15 F_ ∧ Lat F0 H F_ H_ ∧ (H_ p2 = some (.lst w2_) ∧ F_ p2 = none ∧ rpL s w2_ F_) ∧ True) ⟨_, _, _, _, _, _, rfl, (.refl _), L19, ⟨hp7, fp8, rl9⟩, trivial⟩ ?_ ?_ ?_
  · rintro s σ_ F_ H_ ⟨e20, e21, e22, e23, e24, e25, rfl, sf26, L27, ⟨hp28, fp29, rl30⟩, -⟩
    exact ⟨sf26, L27.fh⟩
  · rintro q31 s32 σ_ F38 H39 v33 F40 H41 ⟨e42, e43, e44, e45, e46, e47, rfl, sf48, L49, ⟨hp50, fp51, rl52⟩, -⟩ l34 rv35 s53 hm D37 hN36
    replace h_ties := Rep.mono sf48 h_ties
    have L54 := L49.trans l34
    have sb55 := Same.trans sf48 l34.f
    replace h_ties := up h_ties l34
    replace fp51 := l34.nwl hp50 fp51
    replace hp50 := l34.h _ _ hp50
    replace rl52 := rpL.mono l34.f rl52
    refine gt_name ?_
    refine rd_if L54.fh (EVT.flat (evt_of (ev_op (ev_len (EVN.ev (evn_lc (ei_list (ev_var rfl (own_rp L54.fh hp50 rl52))) (fun x56 v57 _ _ _ l59 r58 k60 => gt_name (k60 _ rfl (evt_of (ev_op (ev_varF rfl rv35) (ev_var rfl r58) rv_inI)) (ev_var rfl r58)))))) ev_int rv_eqI)) L54.fh) hm ?_ ?_
    · intro F61 H62 _ hm l63
      have L64 := L54.trans l63
      have sb65 := Same.trans sb55 l63.f
      replace h_ties := up h_ties l63
      replace fp51 := l63.nwl hp50 fp51
      replace hp50 := l63.h _ _ hp50
      replace rl52 := rpL.mono l63.f rl52
      refine rd_asgN L64.fh (evn_lst (evl_cons (ev_varF rfl rv35) evl_nil)) hm ?_
      intro x66 p67 w68 F69 H70 hm l71 hn76 fp73 hp72 rl74
      have hz75 := L64.h.free hn76
      have ne77 := ne_of_none hp50 hn76
      have L78 := L64.trans l71
      have sb79 := Same.trans sb65 l71.f
      replace h_ties := up h_ties l71
      replace fp51 := l71.nwl hp50 fp51
      replace hp50 := l71.h _ _ hp50
      replace rl52 := rpL.mono l71.f rl52
      refine rd_for L78.fh (ei_range1 (ev_varF rfl h_points)) hm ?_
      intro xs80 J81 F82 H83 hm l84 wk85
      have L86 := L78.trans l84
      have sb87 := Same.trans sb79 l84.f
      replace h_ties := up h_ties l84
      replace fp51 := l84.nwl hp50 fp51
      replace hp50 := l84.h _ _ hp50
      replace rl52 := rpL.mono l84.f rl52
      replace fp73 := l84.nwl hp72 fp73
      replace hp72 := l84.h _ _ hp72
      replace rl74 := rpL.mono l84.f rl74
      refine rd_loopG wk85 hm (fun (s : (List Int)) σ_ F_ H_ => ∃ (o5_ : Option V) (o6_ : Option V) (o7_ : Option V) (w4_ : List V) (w2_ : List V), σ_ = [some v_points, some v_ties, some (.ref p2), some v33, some (.ref p67), o5_, o6_, o7_] ∧ Same F82 F_ ∧ Lat F0 H F_ H_ ∧ (H_ p67 = some (.lst w4_) ∧ F_ p67 = none ∧ rpL s w4_ F_) ∧ (H_ p2 = some (.lst w2_) ∧ F_ p2 = none ∧ rpL s32 w2_ F_) ∧ True) ⟨_, _, _, _, _, rfl, (.refl _), L86, ⟨hp72, fp73, rl74⟩, ⟨hp50, fp51, rl52⟩, trivial⟩ ?_ ?_ ?_
      · rintro s σ_ F_ H_ ⟨e88, e89, e90, e91, e92, rfl, sf93, L94, ⟨hp95, fp96, rl97⟩, ⟨hp98, fp99, rl100⟩, -⟩
        exact ⟨sf93, L94.fh⟩
      · rintro q101 s102 σ_ F108 H109 v103 F110 H111 ⟨e112, e113, e114, e115, e116, rfl, sf117, L118, ⟨hp119, fp120, rl121⟩, ⟨hp122, fp123, rl124⟩, -⟩ l104 rv105 s125 hm D107 hN106
        have sb126 := Same.trans sb87 sf117
        replace h_ties := Rep.mono sf117 h_ties
        have L127 := L118.trans l104
        have sb128 := Same.trans sb126 l104.f
        have sb129 := Same.trans sf117 l104.f
        replace h_ties := up h_ties l104
        replace fp123 := l104.nwl hp122 fp123
        replace hp122 := l104.h _ _ hp122
        replace rl124 := rpL.mono l104.f rl124
        replace fp120 := l104.nwl hp119 fp120
        replace hp119 := l104.h _ _ hp119
        replace rl121 := rpL.mono l104.f rl121
        refine gt_name ?_
        refine rd_forL L127.fh (ei_list (ev_var rfl h_ties)) hm ?_
        intro xs130 J131 F132 H133 hm l134 wk135
        have L136 := L127.trans l134
        have sb137 := Same.trans sb128 l134.f
        have sb138 := Same.trans sb129 l134.f
        replace h_ties := up h_ties l134
        replace fp123 := l134.nwl hp122 fp123
        replace hp122 := l134.h _ _ hp122
        replace rl124 := rpL.mono l134.f rl124
        replace fp120 := l134.nwl hp119 fp120
        replace hp119 := l134.h _ _ hp119
        replace rl121 := rpL.mono l134.f rl121
        refine rd_loopG wk135 hm (fun (s : (List Int)) σ_ F_ H_ => ∃ (o6_ : Option V) (o7_ : Option V) (w4_ : List V) (w2_ : List V), σ_ = [some v_points, some v_ties, some (.ref p2), some v33, some (.ref p67), some v103, o6_, o7_] ∧ Same F132 F_ ∧ Lat F0 H F_ H_ ∧ (H_ p67 = some (.lst w4_) ∧ F_ p67 = none ∧ rpL s w4_ F_) ∧ (H_ p2 = some (.lst w2_) ∧ F_ p2 = none ∧ rpL s32 w2_ F_) ∧ True) ⟨_, _, _, _, rfl, (.refl _), L136, ⟨hp119, fp120, rl121⟩, ⟨hp122, fp123, rl124⟩, trivial⟩ ?_ ?_ ?_
        · rintro s σ_ F_ H_ ⟨e139, e140, e141, e142, rfl, sf143, L144, ⟨hp145, fp146, rl147⟩, ⟨hp148, fp149, rl150⟩, -⟩
          exact ⟨sf143, L144.fh⟩
        · rintro q151 s152 σ_ F158 H159 v153 F160 H161 ⟨e162, e163, e164, e165, rfl, sf166, L167, ⟨hp168, fp169, rl170⟩, ⟨hp171, fp172, rl173⟩, -⟩ l154 rv155 s174 hm D157 hN156
          have sb175 := Same.trans sb137 sf166
          have sb176 := Same.trans sb138 sf166
          replace h_ties := Rep.mono sf166 h_ties
          have L177 := L167.trans l154
          have sb178 := Same.trans sb175 l154.f
          have sb179 := Same.trans sb176 l154.f
          have sb180 := Same.trans sf166 l154.f
          replace h_ties := up h_ties l154
          replace fp172 := l154.nwl hp171 fp172
          replace hp171 := l154.h _ _ hp171
          replace rl173 := rpL.mono l154.f rl173
          replace fp169 := l154.nwl hp168 fp169
          replace hp168 := l154.h _ _ hp168
          replace rl170 := rpL.mono l154.f rl170
          refine gt_pair rv155 l154.fh ?_
          intro v181 v182 h_low_183 h_high_184
          refine rd_if L177.fh (EVT.flat (evt_of (ev_op (ev_op (ev_varF rfl h_low_183) (ev_var rfl (own_rp L177.fh hp168 rl170)) rv_inI) (ev_op (ev_varF rfl h_high_184) (ev_var rfl (own_rp L177.fh hp168 rl170)) rv_inI) rv_neB)) L177.fh) hm ?_ ?_
          · intro F185 H186 _ hm l187
            have L188 := L177.trans l187
            have sb189 := Same.trans sb178 l187.f
            have sb190 := Same.trans sb179 l187.f
            have sb191 := Same.trans sb180 l187.f
            replace h_ties := up h_ties l187
            replace fp172 := l187.nwl hp171 fp172
            replace hp171 := l187.h _ _ hp171
            replace rl173 := rpL.mono l187.f rl173
            replace fp169 := l187.nwl hp168 fp169
            replace hp168 := l187.h _ _ hp168
            replace rl170 := rpL.mono l187.f rl170
            refine rd_appendL L188.fh rfl hp168 fp169 rl170 (EV.flat (ev_if (evt_of (ev_op (ev_varF rfl h_low_183) (ev_var rfl (own_rp L188.fh hp168 rl170)) rv_inI)) (ev_varF rfl h_high_184) (ev_varF rfl h_low_183)) L188.fh) hm ?_
            intro x192 w193 F194 H195 hm m196 fp197 hp198 rl199
            have L200 := m196.l0 _ _ L188 hz75
            have sb201 := Same.trans sb189 m196.f
            have sb202 := Same.trans sb190 m196.f
            have sb203 := Same.trans sb191 m196.f
            replace h_ties := Rep.mono m196.f h_ties
            replace fp172 := m196.nw _ _ hp171 trivial fp172
            replace hp171 := m196.h _ _ ne77 hp171
            replace rl173 := rpL.mono m196.f rl173
            obtain rfl := Option.some.inj hm
            exact hN156 _ _ _ ⟨_, _, _, _, rfl, sb203, L200, ⟨hp198, fp197, rl199⟩, ⟨hp171, fp172, rl173⟩, trivial⟩
          · intro F204 H205 _ hm l206
            have L207 := L177.trans l206
            have sb208 := Same.trans sb178 l206.f
            have sb209 := Same.trans sb179 l206.f
            have sb210 := Same.trans sb180 l206.f
            replace h_ties := up h_ties l206
            replace fp172 := l206.nwl hp171 fp172
            replace hp171 := l206.h _ _ hp171
            replace rl173 := rpL.mono l206.f rl173
            replace fp169 := l206.nwl hp168 fp169
            replace hp168 := l206.h _ _ hp168
            replace rl170 := rpL.mono l206.f rl170
            obtain rfl := Option.some.inj hm
            exact hN156 _ _ _ ⟨_, _, _, _, rfl, sb210, L207, ⟨hp168, fp169, rl170⟩, ⟨hp171, fp172, rl173⟩, trivial⟩
        · rintro s211 σ_ F212 H213 hm ⟨e214, e215, e216, e217, rfl, sf218, L219, ⟨hp220, fp221, rl222⟩, ⟨hp223, fp224, rl225⟩, -⟩
          have sb226 := Same.trans sb137 sf218
          have sb227 := Same.trans sb138 sf218
          replace h_ties := Rep.mono sf218 h_ties
          obtain rfl := Option.some.inj hm
          exact hN106 _ _ _ ⟨_, _, _, _, _, rfl, sb227, L219, ⟨hp220, fp221, rl222⟩, ⟨hp223, fp224, rl225⟩, trivial⟩
      · rintro s228 σ_ F229 H230 hm ⟨e231, e232, e233, e234, e235, rfl, sf236, L237, ⟨hp238, fp239, rl240⟩, ⟨hp241, fp242, rl243⟩, -⟩
        refine nx_with ?_
        have sb244 := Same.trans sb87 sf236
        replace h_ties := Rep.mono sf236 h_ties
        obtain ⟨F245, L246, sf247, h_part_248, fq249⟩ := freeze L237 hz75 fp239 hp238 rl240
        have sb250 := Same.trans sb244 sf247
        replace h_ties := Rep.mono sf247 h_ties
        replace fp242 := fq249 _ ne77 fp242
        replace rl243 := rpL.mono sf247 rl243
        refine rd_appendL L246.fh rfl hp241 fp242 rl243 (EVN.ev (evn_sortI (ev_var rfl h_part_248))) hm ?_
        intro x251 w252 F253 H254 hm m255 fp256 hp257 rl258
        have L259 := m255.l0 _ _ L246 hz10
        have sb260 := Same.trans sb250 m255.f
        replace h_ties := Rep.mono m255.f h_ties
        replace h_part_248 := Rep.mono m255.f h_part_248
        obtain rfl := Option.some.inj hm
        exact hN36 _ _ _ ⟨_, _, _, _, _, _, rfl, sb260, L259, ⟨hp257, fp256, rl258⟩, trivial⟩
    · intro F261 H262 _ hm l263
      have L264 := L54.trans l263
      have sb265 := Same.trans sb55 l263.f
      replace h_ties := up h_ties l263
      replace fp51 := l263.nwl hp50 fp51
      replace hp50 := l263.h _ _ hp50
      replace rl52 := rpL.mono l263.f rl52
      obtain rfl := Option.some.inj hm
      exact hN36 _ _ _ ⟨_, _, _, _, _, _, rfl, sb265, L264, ⟨hp50, fp51, rl52⟩, trivial⟩
  · rintro s266 σ_ F267 H268 hm ⟨e269, e270, e271, e272, e273, e274, rfl, sf275, L276, ⟨hp277, fp278, rl279⟩, -⟩
    refine nx_with ?_
    obtain rfl := Option.some.inj hm
    exact rd_retO rfl (hQ _ _ _ _ L276 hz10 fp278 hp277 rl279)
abbrev s_lists_like : Stmt := topS 17
theorem sc_lists_like : FnScope ["found", "due", "one", "other"] ["found", "due"] (defScope s_lists_like) := ⟨rfl, rfl, rfl, by decide +kernel, rfl, by decide +kernel, by decide +kernel⟩
theorem ok_lists_like {f : Addr} {fd : FuncData} (F : Fun K "_law_lists_like" "_law_lists_like" s_lists_like f fd) (gF : mg "_law_lists_like" = some (.ref f)) (T : Txt K mg ad CW) (C_numbers_like : Fn P w K mg base CX0 1 "_law_numbers_like" ["found", "due"] (spO (β := Bool) fun (x : (List Int) × (List Int) × Unit) => numbers_like x.1 x.2.1)) : Fn P w K mg base CX0 2 "_law_lists_like" ["found", "due"] (spO (β := Bool) fun (x : (List (List Int)) × (List (List Int)) × Unit) => lists_like x.1 x.2.1) := by
  refine ⟨f, _, gF, F.kp, F.binds (ps := ["found", "due"]) (fun _ _ _ _ _ _ us hl => match us, hl with | [_, _], _ => rfl), F.ok sc_lists_like (spO_len rfl) (fun cdv A outer s H vs Q E hr h => ?_)⟩
  refine ⟨_, (pss_cons (ps_if (PW.pt (pw_or (pt_not (pt_val (pe_callB call_isi (by rfl) T.b_isinstance (by decide +kernel) (pa_cons (pv 0) (pa_cons (pe_bltn (v := .ty "list") (by rfl) T.b_list (by decide +kernel) rfl) pa_nil))))) (pw_or1 (pt_cmpR op_ne (pe_callB call_len_seq (by rfl) T.b_len PySem.boot_len (pa_cons (pv 0) pa_nil)) (pe_callB call_len_seq (by rfl) T.b_len PySem.boot_len (pa_cons (pv 1) pa_nil)) (nomark _))))) (pss_one (ps_ret pe_bl)) pss_nil)
    (pss_cons (ps_for PassesOwn.never rfl (pi_zip (by rfl) T.b_zip (pa_cons (pv 0) (pa_cons (pv 1) pa_nil))) (pg_tup rfl (pgs_cons (pg_name (i := 2) sc_lists_like.nd rfl (by first | exact Or.inl rfl | exact Or.inr rfl)) (pgs_cons (pg_name (i := 3) sc_lists_like.nd rfl (by first | exact Or.inl rfl | exact Or.inr rfl)) pgs_nil))) (pss_one (ps_if (pt_not (pt_val (pe_fn C_numbers_like (hr.mono (by decide)) rfl (pa_cons (pv 2) (pa_cons (pv 3) pa_nil))))) (pss_one (ps_ret pe_bl)) pss_nil)))
    (pss_one (ps_ret pe_bl)))), ?_⟩
  obtain ⟨F0, ⟨x_found, x_due, _⟩, y, s0, ⟨v_found, _, rfl, h_found, v_due, _, rfl, h_due, rfl⟩, hm, hQ⟩ := h
  have L0 : Lat F0 H F0 H := .refl s0
  refine at_st (σ := [some v_found, some v_due, none, none]) rfl ?_
  replace hm : lists_like x_found x_due = some y := hm
  unfold lists_like at hm
  refine rd_guard L0.fh (evt_or (evt_not (evt_b (ev_isi (ev_var rfl h_found) true))) (evt_of (ev_op (ev_len (ev_var rfl h_found)) (ev_len (ev_var rfl h_due)) rv_neI))) hm ?_ ?_
  · intro F1 H2 _ hm l3
    have L4 := L0.trans l3
    exact rd_ret0 L4.fh ev_bl hm fun v F1 H1 l rv => hQ v F1 H1 (L4.trans l) rv
  · intro F5 H6 _ hm l7
    have L8 := L0.trans l7
    replace h_found := up h_found l7
    replace h_due := up h_due l7
    refine rd_for L8.fh (ei_zip (ev_var rfl h_found) (ev_var rfl h_due)) hm ?_
    intro xs9 J10 F11 H12 hm l13 wk14
    have L15 := L8.trans l13
    replace h_found := up h_found l13
    replace h_due := up h_due l13
    refine rd_loopR wk14 hm (fun (s : Unit) σ_ F_ H_ => ∃ (o2_ : Option V) (o3_ : Option V), σ_ = [some v_found, some v_due, o2_, o3_] ∧ Same F11 F_ ∧ Lat F0 H F_ H_ ∧ True) ⟨_, _, rfl, (.refl _), L15, trivial⟩ ?_ ?_ ?_
    · rintro s σ_ F_ H_ ⟨e16, e17, rfl, sf18, L19, -⟩
      exact ⟨sf18, L19.fh⟩
    · rintro q20 s21 σ_ F27 H28 v22 F29 H30 ⟨e31, e32, rfl, sf33, L34, -⟩ l23 rv24 st37 hm D26 hD35 hN25 hR36
      replace hD35 : D26.rt = Q := hD35
      have L38 := L34.trans l23
      have sb39 := Same.trans sf33 l23.f
      refine gt_pair rv24 l23.fh ?_
      intro v40 v41 h_one_42 h_other_43
      refine rd_if L38.fh (evt_not (evt_b (ev_call (eva_cons (ev_var rfl h_one_42) (eva_cons (ev_var rfl h_other_43) eva_nil))))) hm ?_ ?_
      · intro F44 H45 _ hm l46
        have L47 := L38.trans l46
        have sb48 := Same.trans sb39 l46.f
        replace h_one_42 := up h_one_42 l46
        replace h_other_43 := up h_other_43 l46
        refine rd_ret L47.fh ev_bl hm ?_
        intro x_ v_ F1_ H1_ hm l_ rv_
        replace hm := hR36 _ (Option.some.inj hm).symm
        obtain rfl := Option.some.inj hm
        rw [hD35]
        exact hQ _ _ _ (L47.trans l_) rv_
      · intro F49 H50 _ hm l51
        have L52 := L38.trans l51
        have sb53 := Same.trans sb39 l51.f
        replace h_one_42 := up h_one_42 l51
        replace h_other_43 := up h_other_43 l51
        exact hN25 _ (Option.some.inj hm).symm _ _ _ ⟨_, _, rfl, sb53, L52, trivial⟩
    · rintro s54 σ_ F55 H56 hm ⟨e57, e58, rfl, sf59, L60, -⟩
      refine nx_with ?_
      exact rd_ret0 L60.fh ev_bl hm fun v F1 H1 l rv => hQ v F1 H1 (L60.trans l) rv
abbrev s_law : Stmt := topS 18
theorem sc_law : FnScope ["script", "points", "ties", "more", "others", "handed", "due", "found", "both", "kept", "later", "part", "point", "low", "high"] ["script"] (defScope s_law) := ⟨rfl, rfl, rfl, by decide +kernel, rfl, by decide +kernel, by decide +kernel⟩
theorem ok_law {f : Addr} {fd : FuncData} (F : Fun K "law" "law" s_law f fd) (gF : mg "law" = some (.ref f)) (T : Txt K mg ad CW) (C_web_by : Fn P w K mg base CX0 2 "_law_web_by" ["script", "k", "most", "cap"] (spO (β := (Int × (List (Int × Int)))) fun (x : (Scr K) × Int × Int × Int × Unit) => web_by x.1.l x.2.1 x.2.2.1 x.2.2.2.1)) (C_cell_at : Fn P w K mg base CX0 1 "_law_cell_at" ["script", "k"] (spO (β := Int) fun (x : (Scr K) × Int × Unit) => cell_at x.1.l x.2.1)) (C_parts : Fn P w K mg base CX0 1 "_law_parts" ["points", "ties"] (spN (β := (List Int)) fun (x : Int × (List (Int × Int)) × Unit) => parts x.1 x.2.1)) (C_pieces : Fn P w K mg base (L2.CX P w) 3 "pieces" ["points", "ties"] (spXN (clO ad) (β := (List Int)) fun (x : Int × (List (Int × Int)) × Unit) => pieces x.1 x.2.1)) (C_lists_like : Fn P w K mg base CX0 2 "_law_lists_like" ["found", "due"] (spO (β := Bool) fun (x : (List (List Int)) × (List (List Int)) × Unit) => lists_like x.1 x.2.1)) (C_beside : Fn P w K mg base (L2.CX P w) 3 "beside" ["points", "ties", "more", "others"] (spXN (clO ad) (β := (Int × Int)) fun (x : Int × (List (Int × Int)) × Int × (List (Int × Int)) × Unit) => beside x.1 x.2.1 x.2.2.1 x.2.2.2.1)) (C_ties_like : Fn P w K mg base CX0 1 "_law_ties_like" ["found", "due"] (spO (β := Bool) fun (x : (List (Int × Int)) × (List (Int × Int)) × Unit) => ties_like x.1 x.2.1)) : FnOk P w K mg base CX0 4 f fd ["script"] (spO (β := Bool) fun (x : (Scr K) × Unit) => law x.1.l) := by
  refine F.ok sc_law (spO_len rfl) (fun cdv A outer s H vs Q E hr h => ?_)
  refine ⟨_, (pss_cons (ps_asg (pe_fn C_web_by (hr.mono (by decide)) rfl (pa_cons (pv 0) (pa_cons pe_int (pa_cons pe_int (pa_cons (pe_op op_add pe_int (pe_op op_mod (pe_fn C_cell_at (hr.mono (by decide)) rfl (pa_cons (pv 0) (pa_cons pe_int pa_nil))) pe_int)) pa_nil))))) (pg_tup rfl (pgs_cons (pg_name (i := 1) sc_law.nd rfl (by first | exact Or.inl rfl | exact Or.inr rfl)) (pgs_cons (pg_name (i := 2) sc_law.nd rfl (by first | exact Or.inl rfl | exact Or.inr rfl)) pgs_nil))))
    (pss_cons (ps_asg (pe_fn C_web_by (hr.mono (by decide)) rfl (pa_cons (pv 0) (pa_cons pe_int (pa_cons (pe_op op_sub pe_int (pv 1)) (pa_cons (pe_op op_sub pe_int (pe_callB call_len_seq (by rfl) T.b_len PySem.boot_len (pa_cons (pv 2) pa_nil))) pa_nil))))) (pg_tup rfl (pgs_cons (pg_name (i := 3) sc_law.nd rfl (by first | exact Or.inl rfl | exact Or.inr rfl)) (pgs_cons (pg_name (i := 4) sc_law.nd rfl (by first | exact Or.inl rfl | exact Or.inr rfl)) pgs_nil))))
    (pss_cons (ps_set (i := 5) sc_law.nd rfl (by first | exact Or.inl rfl | exact Or.inr rfl) (pe_callTy call_list_of (by rfl) T.b_list (by decide +kernel) (pa_cons (pv 2) pa_nil)))
    (pss_cons (ps_set (i := 6) sc_law.nd rfl (by first | exact Or.inl rfl | exact Or.inr rfl) (pe_fn C_parts (hr.mono (by decide)) rfl (pa_cons (pv 1) (pa_cons (pv 2) pa_nil))))
    (pss_cons (ps_set (i := 7) sc_law.nd rfl (by first | exact Or.inl rfl | exact Or.inr rfl) (pe_fn0 C_pieces (hr.mono (by decide)) rfl (pa_cons (pv 1) (pa_cons (pv 5) pa_nil))))
    (pss_cons (ps_if (PW.pt (pw_or (pt_not (pt_val (pe_fn C_lists_like (hr.mono (by decide)) rfl (pa_cons (pv 7) (pa_cons (pv 6) pa_nil))))) (pw_or1 (pt_cmpR (op_neD (hu64 hr)) (pv 5) (pv 2) (nomark _))))) (pss_one (ps_ret pe_bl)) pss_nil)
    (pss_cons (ps_expr (pe_bm PySem.F.plainAttrs_list PySem.F.slot_list_append PySem.F.type_list_append mt_append (pv 7) (pa_cons (pe_lst (pa_cons pe_int pa_nil)) pa_nil)))
    (pss_cons (ps_set (i := 8) sc_law.nd rfl (by first | exact Or.inl rfl | exact Or.inr rfl) (pe_fn0 C_beside (hr.mono (by decide)) rfl (pa_cons (pv 1) (pa_cons (pv 5) (pa_cons (pv 3) (pa_cons (pe_callTy call_list_of (by rfl) T.b_list (by decide +kernel) (pa_cons (pv 4) pa_nil)) pa_nil))))))
    (pss_cons (ps_if (pt_not (pt_val (pe_fn C_ties_like (hr.mono (by decide)) rfl (pa_cons (pv 8) (pa_cons (pe_op op_cat (pv 2) (pe_lc (own := [("low", 13), ("high", 14)]) (g := (gTup K 2 (gCons (gName 13) (gCons (gName 14) gNil)))) rfl sc_law.nd (pi_list (pv 4)) (blkOk_by (N := ["script", "points", "ties", "more", "others", "handed", "due", "found", "both", "kept", "later", "part", "point", "low", "high"]) (sc := defScope s_law) (by decide +kernel)) (fun _ _ _ _ _ => (pg_tup rfl (pgs_cons (pg_name (i := 13) sc_law.nd rfl (by first | exact Or.inl rfl | exact Or.inr rfl)) (pgs_cons (pg_name (i := 14) sc_law.nd rfl (by first | exact Or.inl rfl | exact Or.inr rfl)) pgs_nil)))) (fun _ _ _ _ _ => pts_nil) (fun _ _ _ _ _ => (pe_tup (pa_cons (pe_op op_add (pv 13) (pv 1)) (pa_cons (pe_op op_add (pv 14) (pv 1)) pa_nil)))))) pa_nil))))) (pss_one (ps_ret pe_bl)) pss_nil)
    (pss_cons (ps_set (i := 9) sc_law.nd rfl (by first | exact Or.inl rfl | exact Or.inr rfl) (pe_callTy call_list_of (by rfl) T.b_list (by decide +kernel) (pa_cons (pv 8) pa_nil)))
    (pss_cons (ps_expr (pe_bm PySem.F.plainAttrs_list PySem.F.slot_list_append PySem.F.type_list_append mt_append (pv 8) (pa_cons (pe_tup (pa_cons pe_int (pa_cons pe_int pa_nil))) pa_nil)))
    (pss_cons (ps_if (PW.pt (pw_or (pt_cmpR (op_neD (hu64 hr)) (pv 5) (pv 2) (nomark _)) (pw_or1 (pt_not (pt_val (pe_fn C_ties_like (hr.mono (by decide)) rfl (pa_cons (pe_fn0 C_beside (hr.mono (by decide)) rfl (pa_cons (pv 1) (pa_cons (pv 5) (pa_cons (pv 3) (pa_cons (pe_callTy call_list_of (by rfl) T.b_list (by decide +kernel) (pa_cons (pv 4) pa_nil)) pa_nil))))) (pa_cons (pv 9) pa_nil)))))))) (pss_one (ps_ret pe_bl)) pss_nil)
    (pss_cons (ps_set (i := 8) sc_law.nd rfl (by first | exact Or.inl rfl | exact Or.inr rfl) (pv 9))
    (pss_cons (ps_setLc (i := 10) (own := [("part", 11)]) (g := (gName 11)) rfl sc_law.nd rfl rfl (sw_true rfl rfl rfl (by decide +kernel)) (pi_list (pe_fn C_parts (hr.mono (by decide)) rfl (pa_cons (pv 3) (pa_cons (pv 4) pa_nil)))) (blkOk_by (N := ["script", "points", "ties", "more", "others", "handed", "due", "found", "both", "kept", "later", "part", "point", "low", "high"]) (sc := defScope s_law) (by decide +kernel)) (fun _ _ _ _ _ => (pg_name (i := 11) sc_law.nd rfl (by first | exact Or.inl rfl | exact Or.inr rfl))) (fun _ _ _ _ _ => pts_nil) (fun _ _ _ _ _ => (pe_lc (own := [("point", 12)]) (g := (gName 12)) rfl sc_law.nd (pi_listK rfl (pv 11)) (blkOk_by (by rfl)) (fun _ _ _ _ _ => (pg_name (i := 12) sc_law.nd rfl (by first | exact Or.inl rfl | exact Or.inr rfl))) (fun _ _ _ _ _ => pts_nil) (fun _ _ _ _ _ => (pe_op op_add (pv 12) (pv 1))))))
    (pss_one (ps_ret (pe_and (pe_fn C_lists_like (hr.mono (by decide)) rfl (pa_cons (pe_fn0 C_pieces (hr.mono (by decide)) rfl (pa_cons (pe_op op_add (pv 1) (pv 3)) (pa_cons (pv 8) pa_nil))) (pa_cons (pe_op op_cat (pv 6) (pv 10)) pa_nil))) (pe_one (pe_fn C_lists_like (hr.mono (by decide)) rfl (pa_cons (pe_fn0 C_pieces (hr.mono (by decide)) rfl (pa_cons (pv 1) (pa_cons (pv 5) pa_nil))) (pa_cons (pv 6) pa_nil))))))))))))))))))))), ?_⟩
  obtain ⟨F0, ⟨x_script, _⟩, y, s0, ⟨v_script, _, rfl, h_script, rfl⟩, hm, hQ⟩ := h
  have L0 : Lat F0 H F0 H := .refl s0
  refine at_st (σ := [some v_script, none, none, none, none, none, none, none, none, none, none, none, none, none, none]) rfl ?_
  replace hm : law x_script.l = some y := hm
  unfold law at hm
  refine rd_asg2 L0.fh (EV.cg (ev_call (eva_cons (ev_var rfl h_script) (eva_cons ev_int (eva_cons ev_int (eva_cons (ev_op ev_int (ev_op (ev_call (eva_cons (ev_var rfl h_script) (eva_cons ev_int eva_nil))) ev_int rv_mod) rv_add) eva_nil))))) (by first | (simp only [Option.bind_assoc, Option.bind_some]; done) | (simp only [Option.bind_assoc, Option.bind_some]; rfl))) hm ?_
  intro x1 v2 v3 F4 H5 hm l6 h_points_7 h_ties_8
  have L9 := L0.trans l6
  replace h_script := up h_script l6
  refine rd_asg2 L9.fh (ev_call (eva_cons (ev_var rfl h_script) (eva_cons ev_int (eva_cons (ev_op ev_int (ev_varF rfl h_points_7) rv_sub) (eva_cons (ev_op ev_int (ev_len (ev_var rfl h_ties_8)) rv_sub) eva_nil))))) hm ?_
  intro x10 v11 v12 F13 H14 hm l15 h_more_16 h_others_17
  have L18 := L9.trans l15
  replace h_ties_8 := up h_ties_8 l15
  refine rd_asg L18.fh (EVN.ev (evn_list (ev_var rfl h_ties_8))) hm ?_
  intro x19 v20 F21 H22 hm l23 h_handed_24
  have L25 := L18.trans l23
  replace h_ties_8 := up h_ties_8 l23
  replace h_others_17 := up h_others_17 l23
  refine rd_asg L25.fh (EVN.ev (evn_call (eva_cons (ev_varF rfl h_points_7) (eva_cons (ev_var rfl h_ties_8) eva_nil)))) hm ?_
  intro x26 v27 F28 H29 hm l30 h_due_31
  have L32 := L25.trans l30
  replace h_ties_8 := up h_ties_8 l30
  replace h_others_17 := up h_others_17 l30
  replace h_handed_24 := up h_handed_24 l30
  refine rd_asgN L32.fh (evn_callX (eva_cons (ev_varF rfl h_points_7) (eva_cons (ev_var rfl h_handed_24) eva_nil))) hm ?_
  intro x33 p34 w35 F36 H37 hm l38 hn43 fp40 hp39 rl41
  have hz42 := L32.h.free hn43
  have L44 := L32.trans l38
  replace h_ties_8 := up h_ties_8 l38
  replace h_others_17 := up h_others_17 l38
  replace h_handed_24 := up h_handed_24 l38
  replace h_due_31 := up h_due_31 l38
  refine rd_guard L44.fh (EVT.flat (evt_or (evt_not (evt_b (ev_call (eva_cons (ev_var rfl (own_rp L44.fh hp39 rl41)) (eva_cons (ev_var rfl (Rep.mono L44.fh h_due_31)) eva_nil))))) (evt_of (ev_op (ev_var rfl (Rep.mono L44.fh h_handed_24)) (ev_var rfl (Rep.mono L44.fh h_ties_8)) (fun x y => rv_neD x y)))) L44.fh) hm ?_ ?_
  · intro F45 H46 _ hm l47
    have L48 := L44.trans l47
    exact rd_ret0 L48.fh ev_bl hm fun v F1 H1 l rv => hQ v F1 H1 (L48.trans l) rv
  · intro F49 H50 _ hm l51
    have L52 := L44.trans l51
    replace h_ties_8 := up h_ties_8 l51
    replace h_others_17 := up h_others_17 l51
    replace h_handed_24 := up h_handed_24 l51
    replace h_due_31 := up h_due_31 l51
    replace fp40 := l51.nwl hp39 fp40
    replace hp39 := l51.h _ _ hp39
    replace rl41 := rpL.mono l51.f rl41
    refine rd_append L52.fh rfl hp39 fp40 rl41 (EVN.ev (evn_lst (evl_cons ev_int evl_nil))) hm ?_
    intro x53 w54 F55 H56 hm m57 fp58 hp59 rl60
    have L61 := m57.l0 _ _ L52 hz42
    replace h_ties_8 := Rep.mono m57.f h_ties_8
    replace h_others_17 := Rep.mono m57.f h_others_17
    replace h_handed_24 := Rep.mono m57.f h_handed_24
    replace h_due_31 := Rep.mono m57.f h_due_31
    refine rd_asgN L61.fh (evn_callX (eva_cons (ev_varF rfl h_points_7) (eva_cons (ev_var rfl h_handed_24) (eva_cons (ev_varF rfl h_more_16) (eva_cons (EVN.ev (evn_list (ev_var rfl h_others_17))) eva_nil))))) hm ?_
    intro x62 p63 w64 F65 H66 hm l67 hn72 fp69 hp68 rl70
    have hz71 := L61.h.free hn72
    have ne73 := ne_of_none hp59 hn72
    have L74 := L61.trans l67
    replace h_ties_8 := up h_ties_8 l67
    replace h_others_17 := up h_others_17 l67
    replace h_handed_24 := up h_handed_24 l67
    replace h_due_31 := up h_due_31 l67
    refine rd_guard L74.fh (EVT.flat (evt_not (evt_b (ev_call (eva_cons (ev_var rfl (own_rp L74.fh hp68 rl70)) (eva_cons (EVN.ev (evn_op (ev_var rfl (Rep.mono L74.fh h_ties_8)) (EVN.ev (evn_lc (ei_list (ev_var rfl (Rep.mono L74.fh h_others_17))) (fun x75 v76 _ _ _ l78 r77 k79 => gt_pair r77 l78.fh fun _ _ r80 r81 => (k79 _ rfl evt_yes (ev_tup (ev_op (ev_varF rfl r80) (ev_varF rfl h_points_7) rv_add) (ev_op (ev_varF rfl r81) (ev_varF rfl h_points_7) rv_add)))))) rvn_cat)) eva_nil))))) L74.fh) hm ?_ ?_
    · intro F82 H83 _ hm l84
      have L85 := L74.trans l84
      exact rd_ret0 L85.fh ev_bl hm fun v F1 H1 l rv => hQ v F1 H1 (L85.trans l) rv
    · intro F86 H87 _ hm l88
      have L89 := L74.trans l88
      replace h_ties_8 := up h_ties_8 l88
      replace h_others_17 := up h_others_17 l88
      replace h_handed_24 := up h_handed_24 l88
      replace h_due_31 := up h_due_31 l88
      replace fp69 := l88.nwl hp68 fp69
      replace hp68 := l88.h _ _ hp68
      replace rl70 := rpL.mono l88.f rl70
      refine rd_asg L89.fh (EVN.ev (evn_listO rfl hp68 rl70)) hm ?_
      intro x90 v91 F92 H93 hm l94 h_kept_95
      have L96 := L89.trans l94
      replace h_ties_8 := up h_ties_8 l94
      replace h_others_17 := up h_others_17 l94
      replace h_handed_24 := up h_handed_24 l94
      replace h_due_31 := up h_due_31 l94
      replace fp69 := l94.nwl hp68 fp69
      replace hp68 := l94.h _ _ hp68
      replace rl70 := rpL.mono l94.f rl70
      refine rd_append L96.fh rfl hp68 fp69 rl70 (ev_tup ev_int ev_int) hm ?_
      intro x97 w98 F99 H100 hm m101 fp102 hp103 rl104
      have L105 := m101.l0 _ _ L96 hz71
      replace h_ties_8 := Rep.mono m101.f h_ties_8
      replace h_others_17 := Rep.mono m101.f h_others_17
      replace h_handed_24 := Rep.mono m101.f h_handed_24
      replace h_due_31 := Rep.mono m101.f h_due_31
      replace h_kept_95 := Rep.mono m101.f h_kept_95
      obtain ⟨F106, L107, sf108, h_both_109, fq110⟩ := freeze L105 hz71 fp102 hp103 rl104
      replace h_ties_8 := Rep.mono sf108 h_ties_8
      replace h_others_17 := Rep.mono sf108 h_others_17
      replace h_handed_24 := Rep.mono sf108 h_handed_24
      replace h_due_31 := Rep.mono sf108 h_due_31
      replace h_kept_95 := Rep.mono sf108 h_kept_95
      refine rd_guard L107.fh (evt_or (evt_of (ev_op (ev_var rfl h_handed_24) (ev_var rfl h_ties_8) (fun x y => rv_neD x y))) (evt_not (evt_b (ev_call (eva_cons (EVN.ev (evn_callX (eva_cons (ev_varF rfl h_points_7) (eva_cons (ev_var rfl h_handed_24) (eva_cons (ev_varF rfl h_more_16) (eva_cons (EVN.ev (evn_list (ev_var rfl h_others_17))) eva_nil)))))) (eva_cons (ev_var rfl h_kept_95) eva_nil)))))) hm ?_ ?_
      · intro F111 H112 _ hm l113
        have L114 := L107.trans l113
        exact rd_ret0 L114.fh ev_bl hm fun v F1 H1 l rv => hQ v F1 H1 (L114.trans l) rv
      · intro F115 H116 _ hm l117
        have L118 := L107.trans l117
        replace h_others_17 := up h_others_17 l117
        replace h_handed_24 := up h_handed_24 l117
        replace h_due_31 := up h_due_31 l117
        replace h_both_109 := up h_both_109 l117
        replace h_kept_95 := up h_kept_95 l117
        refine rd_asg L118.fh (ev_var rfl h_kept_95) hm ?_
        intro x119 v120 F121 H122 hm l123 h_both_124
        have L125 := L118.trans l123
        replace h_others_17 := up h_others_17 l123
        replace h_handed_24 := up h_handed_24 l123
        replace h_due_31 := up h_due_31 l123
        refine rd_asg L125.fh (EVN.ev (evn_lc (ei_list (EVN.ev (evn_call (eva_cons (ev_varF rfl h_more_16) (eva_cons (ev_var rfl h_others_17) eva_nil))))) (fun x132 v133 _ _ _ l135 r134 k136 => gt_name (k136 _ rfl evt_yes (EVN.ev (evn_lc (ei_list (ev_var rfl r134)) (fun x137 v138 _ _ _ l140 r139 k141 => gt_name (k141 _ rfl evt_yes (ev_op (ev_varF rfl r139) (ev_varF rfl h_points_7) rv_add))))))))) hm ?_
        intro x126 v127 F128 H129 hm l130 h_later_131
        have L142 := L125.trans l130
        replace h_handed_24 := up h_handed_24 l130
        replace h_due_31 := up h_due_31 l130
        replace h_both_124 := up h_both_124 l130
        exact rd_ret0 L142.fh (ev_andV (ev_call (eva_cons (EVN.ev (evn_callX (eva_cons (ev_op (ev_varF rfl h_points_7) (ev_varF rfl h_more_16) rv_add) (eva_cons (ev_var rfl h_both_124) eva_nil)))) (eva_cons (EVN.ev (evn_op (ev_var rfl h_due_31) (ev_var rfl h_later_131) rvn_cat)) eva_nil))) (ev_call (eva_cons (EVN.ev (evn_callX (eva_cons (ev_varF rfl h_points_7) (eva_cons (ev_var rfl h_handed_24) eva_nil)))) (eva_cons (ev_var rfl h_due_31) eva_nil)))) hm fun v F1 H1 l rv => hQ v F1 H1 (L142.trans l) rv
end
theorem all_mk {l : PySem.W.OpenLaw} {w : World} {K : PySem.W.Frag} {h : Heap} {mg : Str → Option Value} {fa f0 f1 f2 f3 f4 f5 f6 f7 f8 f9 f10 f11 A_NoWeb : Addr} (X : K.In h) (G : h.Ns mainGlobals mg) (hfa : mg "law" = some (.ref fa))
    {od0 an0 od1 an1 od2 an2 od3 an3 od4 an4 od5 an5 od6 an6 od7 an7 od8 an8 od9 an9 od10 an10 od11 an11 : Option Addr} {sl0 sl1 sl2 sl3 sl4 sl5 sl6 sl7 sl8 sl9 sl10 sl11 : Array (Option Value)} {oc0 kV0 dc0 pm0 cd0 ct0 oc1 kV1 dc1 pm1 cd1 ct1 oc2 kV2 dc2 pm2 cd2 ct2 oc3 kV3 dc3 pm3 cd3 ct3 oc4 kV4 dc4 pm4 cd4 ct4 oc5 kV5 dc5 pm5 cd5 ct5 oc6 kV6 dc6 pm6 cd6 ct6 oc7 kV7 dc7 pm7 cd7 ct7 oc8 kV8 dc8 pm8 cd8 ct8 oc9 kV9 dc9 pm9 cd9 ct9 oc10 kV10 dc10 pm10 cd10 ct10 oc11 kV11 dc11 pm11 cd11 ct11 : Value}
    (a0 : PySem.W.nsIn K mainGlobals "is_web" = some (some (.ref f0))) (l0 : K.lookup f0 = some ⟨oc0, od0, .func (PySem.W.fnOf "is_web" "is_web" (defArgs s_is_web) (defBody s_is_web) (defScope s_is_web) .none kV0 dc0 pm0 an0 cd0 ct0), sl0⟩) (c0 : PySem.W.codeIn K cd0 "is_web" = true) (k0 : PySem.W.keepIn K (.ref f0) = true)
    (a1 : PySem.W.nsIn K mainGlobals "asked_web" = some (some (.ref f1))) (l1 : K.lookup f1 = some ⟨oc1, od1, .func (PySem.W.fnOf "asked_web" "asked_web" (defArgs s_asked_web) (defBody s_asked_web) (defScope s_asked_web) .none kV1 dc1 pm1 an1 cd1 ct1), sl1⟩) (c1 : PySem.W.codeIn K cd1 "asked_web" = true) (k1 : PySem.W.keepIn K (.ref f1) = true)
    (a2 : PySem.W.nsIn K mainGlobals "pieces" = some (some (.ref f2))) (l2 : K.lookup f2 = some ⟨oc2, od2, .func (PySem.W.fnOf "pieces" "pieces" (defArgs s_pieces) (defBody s_pieces) (defScope s_pieces) .none kV2 dc2 pm2 an2 cd2 ct2), sl2⟩) (c2 : PySem.W.codeIn K cd2 "pieces" = true) (k2 : PySem.W.keepIn K (.ref f2) = true)
    (a3 : PySem.W.nsIn K mainGlobals "beside" = some (some (.ref f3))) (l3 : K.lookup f3 = some ⟨oc3, od3, .func (PySem.W.fnOf "beside" "beside" (defArgs s_beside) (defBody s_beside) (defScope s_beside) .none kV3 dc3 pm3 an3 cd3 ct3), sl3⟩) (c3 : PySem.W.codeIn K cd3 "beside" = true) (k3 : PySem.W.keepIn K (.ref f3) = true)
    (a4 : PySem.W.nsIn K mainGlobals "_law_cell_at" = some (some (.ref f4))) (l4 : K.lookup f4 = some ⟨oc4, od4, .func (PySem.W.fnOf "_law_cell_at" "_law_cell_at" (defArgs s_cell_at) (defBody s_cell_at) (defScope s_cell_at) .none kV4 dc4 pm4 an4 cd4 ct4), sl4⟩) (c4 : PySem.W.codeIn K cd4 "_law_cell_at" = true) (k4 : PySem.W.keepIn K (.ref f4) = true)
    (a5 : PySem.W.nsIn K mainGlobals "_law_next" = some (some (.ref f5))) (l5 : K.lookup f5 = some ⟨oc5, od5, .func (PySem.W.fnOf "_law_next" "_law_next" (defArgs s_next) (defBody s_next) (defScope s_next) .none kV5 dc5 pm5 an5 cd5 ct5), sl5⟩) (c5 : PySem.W.codeIn K cd5 "_law_next" = true) (k5 : PySem.W.keepIn K (.ref f5) = true)
    (a6 : PySem.W.nsIn K mainGlobals "_law_web_by" = some (some (.ref f6))) (l6 : K.lookup f6 = some ⟨oc6, od6, .func (PySem.W.fnOf "_law_web_by" "_law_web_by" (defArgs s_web_by) (defBody s_web_by) (defScope s_web_by) .none kV6 dc6 pm6 an6 cd6 ct6), sl6⟩) (c6 : PySem.W.codeIn K cd6 "_law_web_by" = true) (k6 : PySem.W.keepIn K (.ref f6) = true)
    (a7 : PySem.W.nsIn K mainGlobals "_law_numbers_like" = some (some (.ref f7))) (l7 : K.lookup f7 = some ⟨oc7, od7, .func (PySem.W.fnOf "_law_numbers_like" "_law_numbers_like" (defArgs s_numbers_like) (defBody s_numbers_like) (defScope s_numbers_like) .none kV7 dc7 pm7 an7 cd7 ct7), sl7⟩) (c7 : PySem.W.codeIn K cd7 "_law_numbers_like" = true) (k7 : PySem.W.keepIn K (.ref f7) = true)
    (a8 : PySem.W.nsIn K mainGlobals "_law_ties_like" = some (some (.ref f8))) (l8 : K.lookup f8 = some ⟨oc8, od8, .func (PySem.W.fnOf "_law_ties_like" "_law_ties_like" (defArgs s_ties_like) (defBody s_ties_like) (defScope s_ties_like) .none kV8 dc8 pm8 an8 cd8 ct8), sl8⟩) (c8 : PySem.W.codeIn K cd8 "_law_ties_like" = true) (k8 : PySem.W.keepIn K (.ref f8) = true)
    (a9 : PySem.W.nsIn K mainGlobals "_law_parts" = some (some (.ref f9))) (l9 : K.lookup f9 = some ⟨oc9, od9, .func (PySem.W.fnOf "_law_parts" "_law_parts" (defArgs s_parts) (defBody s_parts) (defScope s_parts) .none kV9 dc9 pm9 an9 cd9 ct9), sl9⟩) (c9 : PySem.W.codeIn K cd9 "_law_parts" = true) (k9 : PySem.W.keepIn K (.ref f9) = true)
    (a10 : PySem.W.nsIn K mainGlobals "_law_lists_like" = some (some (.ref f10))) (l10 : K.lookup f10 = some ⟨oc10, od10, .func (PySem.W.fnOf "_law_lists_like" "_law_lists_like" (defArgs s_lists_like) (defBody s_lists_like) (defScope s_lists_like) .none kV10 dc10 pm10 an10 cd10 ct10), sl10⟩) (c10 : PySem.W.codeIn K cd10 "_law_lists_like" = true) (k10 : PySem.W.keepIn K (.ref f10) = true)
    (a11 : PySem.W.nsIn K mainGlobals "law" = some (some (.ref f11))) (l11 : K.lookup f11 = some ⟨oc11, od11, .func (PySem.W.fnOf "law" "law" (defArgs s_law) (defBody s_law) (defScope s_law) .none kV11 dc11 pm11 an11 cd11 ct11), sl11⟩) (c11 : PySem.W.codeIn K cd11 "law" = true) (k11 : PySem.W.keepIn K (.ref f11) = true)
    (b_bool : PySem.W.nsIn K mainGlobals "bool" = some none)
    (b_int : PySem.W.nsIn K mainGlobals "int" = some none)
    (b_isinstance : PySem.W.nsIn K mainGlobals "isinstance" = some none)
    (b_len : PySem.W.nsIn K mainGlobals "len" = some none)
    (b_list : PySem.W.nsIn K mainGlobals "list" = some none)
    (b_min : PySem.W.nsIn K mainGlobals "min" = some none)
    (b_range : PySem.W.nsIn K mainGlobals "range" = some none)
    (b_sorted : PySem.W.nsIn K mainGlobals "sorted" = some none)
    (b_tuple : PySem.W.nsIn K mainGlobals "tuple" = some none)
    (b_zip : PySem.W.nsIn K mainGlobals "zip" = some none)
    {t_MOST_POINTS : Tok} (g_MOST_POINTS : PySem.W.nsIn K mainGlobals "MOST_POINTS" = some (some (.int 7 t_MOST_POINTS)))
    {t_MOST_TIES : Tok} (g_MOST_TIES : PySem.W.nsIn K mainGlobals "MOST_TIES" = some (some (.int 12 t_MOST_TIES)))
    (ga_NoWeb : PySem.W.nsIn K mainGlobals "NoWeb" = some (some (.ref A_NoWeb)))
    (xa_NoWeb : PySem.W.excIn K A_NoWeb [.type "ValueError", .type "Exception", .type "BaseException", .type "object"] "ValueError.__new__" = true) (xk_NoWeb : PySem.W.keepIn K (.ref A_NoWeb) = true) (xb_NoWeb : PySem.W.subIn K (.ref A_NoWeb) (.type "BaseException") = some true) (xt_NoWeb : PySem.W.typeIn K (.ref A_NoWeb) = some (.type "type")) :
    ∃ fd : FuncData, (∀ (s : Shared) (v : Value), BindsTo s fd ⟨[v], []⟩ [("script", v)]) ∧ ∀ base : Heap, K.In base → base.Ns mainGlobals mg → FnOk l.prog w K mg base CX0 4 fa fd ["script"] (spO (β := Bool) fun (x : (Scr K) × Unit) => law x.1.l) := by
  have e := hfa.symm.trans (PySem.W.mg_of X G a11)
  cases e
  let ad : Er → Addr := fun e => match e with | .noWeb => A_NoWeb | _ => A_NoWeb
  have T : Txt K mg ad 0 := { b_bool := PySem.W.mg_none_of X G b_bool, b_int := PySem.W.mg_none_of X G b_int, b_isinstance := PySem.W.mg_none_of X G b_isinstance, b_len := PySem.W.mg_none_of X G b_len, b_list := PySem.W.mg_none_of X G b_list, b_min := PySem.W.mg_none_of X G b_min, b_range := PySem.W.mg_none_of X G b_range, b_sorted := PySem.W.mg_none_of X G b_sorted, b_tuple := PySem.W.mg_none_of X G b_tuple, b_zip := PySem.W.mg_none_of X G b_zip, g_MOST_POINTS := ⟨_, PySem.W.mg_of X G g_MOST_POINTS⟩, g_MOST_TIES := ⟨_, PySem.W.mg_of X G g_MOST_TIES⟩, nil := trivial, x_NoWeb := ⟨PySem.W.mg_of X G ga_NoWeb, xa_NoWeb, xk_NoWeb, xb_NoWeb, xt_NoWeb⟩ }
  refine ⟨PySem.W.fnOf "law" "law" (defArgs s_law) (defBody s_law) (defScope s_law) .none kV11 dc11 pm11 an11 cd11 ct11, fun s v => .of_eq rfl, fun base _ _ => ?_⟩
  have R_is_web : Fn l.prog w K mg base CX0 1 "is_web" ["points", "ties"] (spO (β := Bool) fun (x : Int × (List (Int × Int)) × Unit) => is_web x.1 x.2.1) := ok_is_web (fun_mk (st := s_is_web) l0 c0 k0) (PySem.W.mg_of X G a0) T 
  have R_asked_web : Fn l.prog w K mg base (L2.CX l.prog w) 2 "asked_web" ["points", "ties"] (spX (clO ad) (β := Unit) fun (x : Int × (List (Int × Int)) × Unit) => asked_web x.1 x.2.1) := ok_asked_web (fun_mk (st := s_asked_web) l1 c1 k1) (PySem.W.mg_of X G a1) T R_is_web
  have R_pieces : Fn l.prog w K mg base (L2.CX l.prog w) 3 "pieces" ["points", "ties"] (spXN (clO ad) (β := (List Int)) fun (x : Int × (List (Int × Int)) × Unit) => pieces x.1 x.2.1) := ok_pieces (fun_mk (st := s_pieces) l2 c2 k2) (PySem.W.mg_of X G a2) T R_asked_web
  have R_beside : Fn l.prog w K mg base (L2.CX l.prog w) 3 "beside" ["points", "ties", "more", "others"] (spXN (clO ad) (β := (Int × Int)) fun (x : Int × (List (Int × Int)) × Int × (List (Int × Int)) × Unit) => beside x.1 x.2.1 x.2.2.1 x.2.2.2.1) := ok_beside (fun_mk (st := s_beside) l3 c3 k3) (PySem.W.mg_of X G a3) T R_asked_web
  have R_cell_at : Fn l.prog w K mg base CX0 1 "_law_cell_at" ["script", "k"] (spO (β := Int) fun (x : (Scr K) × Int × Unit) => cell_at x.1.l x.2.1) := ok_cell_at (fun_mk (st := s_cell_at) l4 c4 k4) (PySem.W.mg_of X G a4) T 
  have R_next : Fn l.prog w K mg base CX0 1 "_law_next" ["seed"] (spO (β := Int) fun (x : Int × Unit) => next x.1) := ok_next (fun_mk (st := s_next) l5 c5 k5) (PySem.W.mg_of X G a5) T 
  have R_web_by : Fn l.prog w K mg base CX0 2 "_law_web_by" ["script", "k", "most", "cap"] (spO (β := (Int × (List (Int × Int)))) fun (x : (Scr K) × Int × Int × Int × Unit) => web_by x.1.l x.2.1 x.2.2.1 x.2.2.2.1) := ok_web_by (fun_mk (st := s_web_by) l6 c6 k6) (PySem.W.mg_of X G a6) T R_cell_at R_next
  have R_numbers_like : Fn l.prog w K mg base CX0 1 "_law_numbers_like" ["found", "due"] (spO (β := Bool) fun (x : (List Int) × (List Int) × Unit) => numbers_like x.1 x.2.1) := ok_numbers_like (fun_mk (st := s_numbers_like) l7 c7 k7) (PySem.W.mg_of X G a7) T 
  have R_ties_like : Fn l.prog w K mg base CX0 1 "_law_ties_like" ["found", "due"] (spO (β := Bool) fun (x : (List (Int × Int)) × (List (Int × Int)) × Unit) => ties_like x.1 x.2.1) := ok_ties_like (fun_mk (st := s_ties_like) l8 c8 k8) (PySem.W.mg_of X G a8) T 
  have R_parts : Fn l.prog w K mg base CX0 1 "_law_parts" ["points", "ties"] (spN (β := (List Int)) fun (x : Int × (List (Int × Int)) × Unit) => parts x.1 x.2.1) := ok_parts (fun_mk (st := s_parts) l9 c9 k9) (PySem.W.mg_of X G a9) T 
  have R_lists_like : Fn l.prog w K mg base CX0 2 "_law_lists_like" ["found", "due"] (spO (β := Bool) fun (x : (List (List Int)) × (List (List Int)) × Unit) => lists_like x.1 x.2.1) := ok_lists_like (fun_mk (st := s_lists_like) l10 c10 k10) (PySem.W.mg_of X G a10) T R_numbers_like
  exact ok_law (fun_mk (st := s_law) l11 c11 k11) (PySem.W.mg_of X G a11) T R_web_by R_cell_at R_parts R_pieces R_lists_like R_beside R_ties_like
theorem walk {l : PySem.W.OpenLaw} {q : Program} {loose : List Str} {XP : (Str → Option Value) → Heap → Prop} {YP : World → Heap → Prop} {d : DefRec} {K : Params → PySem.W.Frag} (hn : l.most = some 63) (hdf : d.params.defaults = [])
    (hY : ∀ (w : World) (h : Heap), YP w h → (K w.params).In h)
    (F : ∀ (w : World) (mg : Str → Option Value) (fa : Addr) (h : Heap), (K w.params).In h → h.Ns mainGlobals mg → mg d.name = some (.ref fa) →
      ∃ fd : FuncData, (∀ (s : Shared) (u : Value), BindsTo s fd ⟨[u], []⟩ [("script", u)]) ∧ ∀ base : Heap, (K w.params).In base → base.Ns mainGlobals mg → FnOk l.prog w (K w.params) mg base CX0 4 fa fd ["script"] (let K := K w.params; (spO (β := Bool) fun (x : (Scr K) × Unit) => law x.1.l))) :
    PySem.W.WalkO q loose XP YP l.row.toRowW d [] (fun f vs => PySem.call f vs) :=
  L2.walk_of (n := 63) (k := 4) (x := "script") (CX := fun _ => CX0) (sp := fun w => (let K := K w.params; (spO (β := Bool) fun (x : (Scr K) × Unit) => law x.1.l))) hn (by decide) hdf ⟨rfl, by decide, by decide⟩ hY F
    (fun _ H a ns hl _ hS => ⟨H, (⟨ns⟩, ()), true, .refl H, ⟨.ref a, [], rfl, ⟨a, rfl, hS⟩, rfl⟩, law_true ns hl, fun v F' H' l r => r⟩) fun _ _ _ _ _ z => z
end Q
open PySem PySem.W PyProof.Rows in
set_option maxRecDepth 100000 in
set_option maxHeartbeats 0 in
theorem PySem.Challenge.cw_dyeweb_k03_pieces_holds : PySem.Challenge.rw_dyeweb_k03_pieces.Holds := by
  w_on; o_law; k_head; (case hw => w_witness2)
  k_fill
  refine Q.walk (l := PySem.Challenge.rw_dyeweb_k03_pieces) rfl rfl (fun w h Y => PySem.W.kIn_of Y) ?F
  case F =>
    intro w mg fa h KX G hmg
    refine' Q.all_mk KX G hmg ?a0 ?l0 ?c0 ?k0 ?a1 ?l1 ?c1 ?k1 ?a2 ?l2 ?c2 ?k2 ?a3 ?l3 ?c3 ?k3 ?a4 ?l4 ?c4 ?k4 ?a5 ?l5 ?c5 ?k5 ?a6 ?l6 ?c6 ?k6 ?a7 ?l7 ?c7 ?k7 ?a8 ?l8 ?c8 ?k8 ?a9 ?l9 ?c9 ?k9 ?a10 ?l10 ?c10 ?k10 ?a11 ?l11 ?c11 ?k11 ?b_bool ?b_int ?b_isinstance ?b_len ?b_list ?b_min ?b_range ?b_sorted ?b_tuple ?b_zip ?g_MOST_POINTS ?g_MOST_TIES ?ga_NoWeb ?xa_NoWeb ?xk_NoWeb ?xb_NoWeb ?xt_NoWeb
    (case a0 => k_is)
    (case l0 => k_is)
    (case c0 => k_is)
    (case k0 => k_is)
    (case a1 => k_is)
    (case l1 => k_is)
    (case c1 => k_is)
    (case k1 => k_is)
    (case a2 => k_is)
    (case l2 => k_is)
    (case c2 => k_is)
    (case k2 => k_is)
    (case a3 => k_is)
    (case l3 => k_is)
    (case c3 => k_is)
    (case k3 => k_is)
    (case a4 => k_is)
    (case l4 => k_is)
    (case c4 => k_is)
    (case k4 => k_is)
    (case a5 => k_is)
    (case l5 => k_is)
    (case c5 => k_is)
    (case k5 => k_is)
    (case a6 => k_is)
    (case l6 => k_is)
    (case c6 => k_is)
    (case k6 => k_is)
    (case a7 => k_is)
    (case l7 => k_is)
    (case c7 => k_is)
    (case k7 => k_is)
    (case a8 => k_is)
    (case l8 => k_is)
    (case c8 => k_is)
    (case k8 => k_is)
    (case a9 => k_is)
    (case l9 => k_is)
    (case c9 => k_is)
    (case k9 => k_is)
    (case a10 => k_is)
    (case l10 => k_is)
    (case c10 => k_is)
    (case k10 => k_is)
    (case a11 => k_is)
    (case l11 => k_is)
    (case c11 => k_is)
    (case k11 => k_is)
    (case b_bool => k_is)
    (case b_int => k_is)
    (case b_isinstance => k_is)
    (case b_len => k_is)
    (case b_list => k_is)
    (case b_min => k_is)
    (case b_range => k_is)
    (case b_sorted => k_is)
    (case b_tuple => k_is)
    (case b_zip => k_is)
    (case g_MOST_POINTS => k_is)
    (case g_MOST_TIES => k_is)
    (case ga_NoWeb => k_is)
    (case xa_NoWeb => k_exc)
    (case xk_NoWeb => k_is)
    (case xb_NoWeb => k_is)
    (case xt_NoWeb => k_is)
#print axioms PySem.Challenge.cw_dyeweb_k03_pieces_holds
