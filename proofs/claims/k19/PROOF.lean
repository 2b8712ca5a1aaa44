import PyProof.Rows.All
import Wide.All
import OpenK.AllK
import Wide.FinOn
import HandS.ForMost
import HandS.ForExc
import HandS.Wide
import HandS.Deep
import HandS.Walk
import HandS.TupLe
import HandS.TupSets
import HandS.Conv
import HandS.Style
import HandS.IsInst
import HandS.SortRule
import PyProof.Rows.Chain
import HandS.ExcIs
import PySem.Challenge.RW_dyeweb_k19_dyes_of_more_points
/-! The words that the mirrors are written in: plain Lean, no library. -/
namespace Dv
set_option linter.all false
variable {α β S R : Type}
/-- what leaves a loop's turn -/
inductive Stp (S R : Type) where
  | go (s : S)
  | ret (r : R)
def Stp.elim {T : Type} (st : Stp S R) (f : S → T) (g : R → T) : T := match st with
  | .go s => f s
  | .ret r => g r
@[simp] theorem Stp.elim_go {T : Type} (s : S) (f : S → T) (g : R → T) : (Stp.go s : Stp S R).elim f g = f s := rfl
@[simp] theorem Stp.elim_ret {T : Type} (r : R) (f : S → T) (g : R → T) : (Stp.ret r : Stp S R).elim f g = g r := rfl
def loopG (f : S → α → Option S) : S → List α → Option S
  | s, [] => some s
  | s, x :: xs => (f s x).bind fun s' => loopG f s' xs
def loopR (f : S → α → Option (Stp S R)) : S → List α → Option (Stp S R)
  | s, [] => some (.go s)
  | s, x :: xs => (f s x).bind fun st => st.elim (fun s' => loopR f s' xs) fun r => some (.ret r)
def whileG (c : S → Option Bool) (f : S → Option S) : Nat → S → Option S
  | 0, _ => none
  | n + 1, s => (c s).bind fun b => if b then (f s).bind fun s' => whileG c f n s' else some s
def whileR (c : S → Option Bool) (f : S → Option (Stp S R)) : Nat → S → Option (Stp S R)
  | 0, _ => none
  | n + 1, s => (c s).bind fun b => if b then (f s).bind fun st => st.elim (fun s' => whileR c f n s') fun r => some (.ret r) else some (.go s)
def lcG (c : α → Option Bool) (f : α → Option β) : List α → Option (List β)
  | [] => some []
  | x :: xs => (c x).bind fun b => if b then (f x).bind fun y => (lcG c f xs).bind fun ys => some (y :: ys) else lcG c f xs
/-- a list comprehension over a list that is not too long -/
def lc (c : α → Option Bool) (f : α → Option β) (xs : List α) : Option (List β) := if xs.length < 10000000 then lcG c f xs else none
def ixZ (n : Nat) (i : Int) : Option Nat := if 0 ≤ i then (if i < n then some i.toNat else none) else if -(n : Int) ≤ i then some (i + n).toNat else none
def atZ (xs : List α) (i : Int) : Option α := (ixZ xs.length i).bind fun j => xs[j]?
def setZ (xs : List α) (i : Int) (x : α) : Option (List α) := (ixZ xs.length i).bind fun j => some (xs.set j x)
def rng (a b : Int) : Option (List Int) := if (-4000000000000000000 ≤ a ∧ a ≤ 4000000000000000000) ∧ (-4000000000000000000 ≤ b ∧ b ≤ 4000000000000000000) then some ((List.range (b - a).toNat).map fun i => a + (i : Nat)) else none
def mulZ (i j : Int) : Option Int := if (-(2 ^ 64) < i ∧ i < 2 ^ 64) ∨ (-(2 ^ 64) < j ∧ j < 2 ^ 64) then some (i * j) else none
def divZ (i j : Int) : Option Int := if 0 < j ∧ j < 1073741824 then some (i / j) else none
def divW (i j : Int) : Option Int := if 0 < j ∧ j.natAbs.log2 < 9000 then some (i / j) else none
def modZ (i j : Int) : Option Int := if 0 < j then some (i % j) else none
def addL (xs : List α) (y : α) : Option (List α) := if xs.length < 10000000 then some (xs ++ [y]) else none
def catL (xs ys : List α) : Option (List α) := if xs.length + ys.length ≤ 10000000 then some (xs ++ ys) else none
def cutIx (n d : Nat) : Option Int → Nat
  | none => d
  | some i => if i < 0 then (i + n).toNat else min i.toNat n
def memL [DecidableEq α] (x : α) (xs : List α) : Bool := decide (x ∈ xs)
/-- a part of a list -/
def cutZ (xs : List α) (lo hi : Option Int) : List α := (xs.drop (cutIx xs.length 0 lo)).take (cutIx xs.length xs.length hi - cutIx xs.length 0 lo)
/-- the order of pairs -/
def leP (a b : Int × Int) : Bool := if a.1 = b.1 then decide (a.2 ≤ b.2) else decide (a.1 ≤ b.1)
def ins {γ : Type} (le : γ → γ → Bool) (x : γ) : List γ → List γ
  | [] => [x]
  | y :: ys => if le x y then x :: y :: ys else y :: ins le x ys
def srt {γ : Type} (le : γ → γ → Bool) : List γ → List γ
  | [] => []
  | x :: xs => ins le x (srt le xs)
end Dv
namespace Dv
theorem leP_total (a b : Int × Int) : leP a b = true ∨ leP b a = true := by
  unfold leP
  by_cases h : a.1 = b.1
  · simp only [h, ↓reduceIte, decide_eq_true_eq]
    omega
  · have h' : ¬ b.1 = a.1 := fun e => h e.symm
    simp only [h, h', ↓reduceIte, decide_eq_true_eq]
    omega
theorem leP_trans {a b c : Int × Int} (h1 : leP a b = true) (h2 : leP b c = true) : leP a c = true := by
  unfold leP at *
  split at h1 <;> split at h2 <;> split <;> simp_all <;> omega
theorem leP_anti {a b : Int × Int} (h1 : leP a b = true) (h2 : leP b a = true) : a = b := by
  obtain ⟨a1, a2⟩ := a
  obtain ⟨b1, b2⟩ := b
  unfold leP at *
  dsimp only at *
  split at h1 <;> split at h2 <;> simp_all <;> omega
/-- a total order -/
structure Ord {γ : Type} (le : γ → γ → Bool) : Prop where
  total : ∀ a b, le a b = true ∨ le b a = true
  trans : ∀ a b c, le a b = true → le b c = true → le a c = true
  anti : ∀ a b, le a b = true → le b a = true → a = b
theorem ordP : Ord leP := ⟨leP_total, fun _ _ _ => leP_trans, fun _ _ => leP_anti⟩
def leI (a b : Int) : Bool := decide (a ≤ b)
theorem ordI : Ord leI := ⟨fun a b => by simp only [leI, decide_eq_true_eq]; omega, fun a b c => by simp only [leI, decide_eq_true_eq]; omega, fun a b => by simp only [leI, decide_eq_true_eq]; omega⟩
section
variable {γ : Type} {le : γ → γ → Bool}
theorem ins_perm (x : γ) : ∀ l, (ins le x l).Perm (x :: l)
  | [] => .refl _
  | y :: l => by
    unfold ins
    split
    · exact .refl _
    · exact ((ins_perm x l).cons y).trans (List.Perm.swap x y l)
theorem srt_perm : ∀ l, (srt le l).Perm l
  | [] => .refl _
  | x :: l => (ins_perm x _).trans ((srt_perm l).cons x)
theorem ins_sorted (O : Ord le) (x : γ) : ∀ l, l.Pairwise (fun a b => le a b = true) → (ins le x l).Pairwise (fun a b => le a b = true)
  | [], _ => by simp [ins]
  | y :: l, h => by
    unfold ins
    by_cases c : le x y = true
    · rw [if_pos c]
      refine List.pairwise_cons.mpr ⟨fun z hz => ?_, h⟩
      rcases List.mem_cons.mp hz with rfl | hz
      · exact c
      · exact O.trans _ _ _ c ((List.pairwise_cons.mp h).1 z hz)
    · rw [if_neg c]
      refine List.pairwise_cons.mpr ⟨fun z hz => ?_, ins_sorted O x l (List.pairwise_cons.mp h).2⟩
      rcases List.mem_cons.mp ((ins_perm x l).mem_iff.mp hz) with rfl | hz
      · rcases O.total z y with q | q
        · exact absurd q c
        · exact q
      · exact (List.pairwise_cons.mp h).1 z hz
theorem srt_sorted (O : Ord le) : ∀ l, (srt le l).Pairwise (fun a b => le a b = true)
  | [] => .nil
  | x :: l => ins_sorted O x _ (srt_sorted O l)
theorem sorted_uniq (O : Ord le) : ∀ {l m : List γ}, l.Perm m → l.Pairwise (fun a b => le a b = true) → m.Pairwise (fun a b => le a b = true) → l = m
  | [], m, h, _, _ => (List.Perm.eq_nil h.symm).symm
  | x :: l, [], h, _, _ => absurd h.length_eq (by simp)
  | x :: l, y :: m, h, hl, hm => by
    have e : x = y := by
      rcases List.mem_cons.mp (h.mem_iff.mp (List.mem_cons_self (a := x) (l := l))) with e | hx
      · exact e
      · rcases List.mem_cons.mp (h.mem_iff.mpr (List.mem_cons_self (a := y) (l := m))) with e | hy
        · exact e.symm
        · exact O.anti _ _ ((List.pairwise_cons.mp hl).1 y hy) ((List.pairwise_cons.mp hm).1 x hx)
    subst e
    rw [sorted_uniq O h.cons_inv (List.pairwise_cons.mp hl).2 (List.pairwise_cons.mp hm).2]
theorem srt_uniq (O : Ord le) {l m : List γ} (h : l.Perm m) (hl : l.Pairwise (fun a b => le a b = true)) : l = srt le m :=
  sorted_uniq O (h.trans (srt_perm m).symm) hl (srt_sorted O m)
end
/-- keys of a dict, in the order in which they came -/
def putD {γ : Type} [DecidableEq γ] (ks : List γ) (k : γ) : List γ := if k ∈ ks then ks else ks ++ [k]
end Dv
namespace Dv
/-- the program's refusals -/
inductive Er where
  | noWeb | noTie | noDyeing | noSetting | goesRound | noNote
deriving DecidableEq
abbrev Rs (α : Type) := Option (Except Er α)
def exB {α β : Type} (y : Except Er α) (k : α → Rs β) : Rs β := match y with
  | .ok x => k x
  | .error e => some (.error e)
@[simp] theorem exB_ok {α β : Type} (x : α) (k : α → Rs β) : exB (.ok x) k = k x := rfl
@[simp] theorem exB_error {α β : Type} (e : Er) (k : α → Rs β) : exB (.error e : Except Er α) k = some (.error e) := rfl
/-- an answer that is no refusal -/
def noX {α : Type} (m : Rs α) : Option α := m.bind fun y => match y with
  | .ok x => some x
  | .error _ => none
@[simp] theorem noX_ok {α : Type} (x : α) : noX (some (.ok x) : Rs α) = some x := rfl
/-- try .. except -/
def trX {α β : Type} (m : Rs α) (f : α → Option β) (k : Er → Option β) : Option β := m.bind fun y => match y with
  | .ok x => f x
  | .error e => k e
@[simp] theorem trX_ok {α β : Type} (x : α) (f : α → Option β) (k : Er → Option β) : trX (some (.ok x) : Rs α) f k = f x := rfl
@[simp] theorem trX_error {α β : Type} (e : Er) (f : α → Option β) (k : Er → Option β) : trX (some (.error e) : Rs α) f k = k e := rfl
def isE (e c : Er) : Bool := decide (e = c)
end Dv
namespace Dv
def srtI (xs : List Int) : Option (List Int) := if xs.length < 64 then some (srt leI xs) else none
/-- list(range(n)) -/
def lrng (n : Int) : Option (List Int) := if -4611686018427387904 ≤ n ∧ n ≤ 10000000 then some ((List.range n.toNat).map fun i => ((i : Nat) : Int)) else none
def putDZ (ks : List (Int × Int)) (t : Int × Int) : Option (List (Int × Int)) := if ks.length < 10000000 then some (putD ks t) else none
end Dv
namespace Dv
/-- a list of two of unlike kinds -/
structure Duo (α β : Type) where
  a : α
  b : β
end Dv
namespace Dv
instance {α β : Type} [DecidableEq α] [DecidableEq β] : DecidableEq (Duo α β) := fun x y => decidable_of_iff (x.a = y.a ∧ x.b = y.b) ⟨fun ⟨h1, h2⟩ => by cases x; cases y; cases h1; cases h2; rfl, fun h => by rw [h]; exact ⟨rfl, rfl⟩⟩
end Dv

set_option Elab.async false
set_option linter.all false
set_option maxRecDepth 100000
set_option maxHeartbeats 4000000
/-! The layer between the readings of HandS and mirrors in plain Lean. -/
namespace Dw
open PySem L2 Dv

/-! ### what is known stays -/
/-- what may change -/
def Chg : HO → Prop
  | .lst _ => True
  | .dT _ => True
  | _ => False
structure Lat (F H F' H' : Hp) : Prop where
  f : Same F F'
  h : Same H H'
  fh : Same F' H'
  nw : ∀ a o, H a = some o → Chg o → F a = none → F' a = none
theorem Lat.nwl {F H F' H' : Hp} (l : Lat F H F' H') {a : Addr} {vs : List V} (e : H a = some (.lst vs)) (f : F a = none) : F' a = none := l.nw a _ e trivial f
theorem Lat.refl {F H : Hp} (s : Same F H) : Lat F H F H := ⟨.refl _, .refl _, s, fun _ _ _ _ h => h⟩
theorem Lat.trans {F H F1 H1 F2 H2 : Hp} (a : Lat F H F1 H1) (b : Lat F1 H1 F2 H2) : Lat F H F2 H2 :=
  ⟨a.f.trans b.f, a.h.trans b.h, b.fh, fun p o e c f => b.nw p o (a.h _ _ e) c (a.nw p o e c f)⟩
theorem Lat.s0 {F H F' H' : Hp} (a : Lat F H F' H') (s : Same F H) : Same F H' := s.trans a.h
/-- all of the heap held for known -/
theorem Lat.all {F H F' H' : Hp} (a : Lat F H F' H') : Lat H H H' H' := ⟨a.h, a.h, .refl _, fun _ _ e _ f => by rw [e] at f; cases f⟩
/-- the heap grew, nothing new is known -/
theorem Lat.grow {F H H' : Hp} (s : Same F H) (h : Same H H') : Lat F H F H' := ⟨.refl _, h, s.trans h, fun _ _ _ _ f => f⟩
theorem same_upd {H : Hp} {p : Addr} {o : HO} (h : H p = none) : Same H (upd H p o) := fun a u e => by
  rw [upd_ne (ne_of_none e h)]
  exact e
/-- what stands is held for known -/
theorem Lat.know {F H F1 H1 : Hp} {p : Addr} {o : HO} (l : Lat F H F1 H1) (hp : ∀ u, H p = some u → Chg u → F p = none → False) (h1 : F1 p = none) (e : H1 p = some o) : Lat F H (upd F1 p o) H1 := by
  refine ⟨l.f.trans (same_upd h1), l.h, fun a u q => ?_, fun a u q c f => ?_⟩
  · by_cases z : a = p
    · subst z
      rw [upd_same] at q
      rw [e]
      exact q
    · rw [upd_ne z] at q
      exact l.fh _ _ q
  · by_cases z : a = p
    · subst z
      exact (hp u q c f).elim
    · rw [upd_ne z]
      exact l.nw _ _ q c f
/-- what was made is held for known -/
theorem Lat.hold {F H F1 H1 : Hp} {p : Addr} {o : HO} (l : Lat F H F1 H1) (hp : H p = none) (h1 : F1 p = none) (e : H1 p = some o) : Lat F H (upd F1 p o) H1 :=
  l.know (fun u q _ _ => by rw [hp] at q; cases q) h1 e
/-- a new object, not held for known -/
theorem Lat.made {F H : Hp} {p : Addr} {o : HO} (s : Same F H) (h : H p = none) : Lat F H F (upd H p o) := Lat.grow s (same_upd h)
/-- a new object, known from now on -/
theorem Lat.new {F H : Hp} {p : Addr} {o : HO} (s : Same F H) (h : H p = none) : Lat F H (upd F p o) (upd H p o) :=
  (Lat.made s h).hold h (s.free h) upd_same
/-- a list that was made behind H changes -/
theorem Lat.put {F H F1 H1 : Hp} {p : Addr} {o : HO} (l : Lat F H F1 H1) (hp : H p = none) (h1 : F1 p = none) : Lat F H F1 (upd H1 p o) := by
  refine ⟨l.f, fun a u e => ?_, fun a u e => ?_, l.nw⟩
  · rw [upd_ne (ne_of_none e hp)]
    exact l.h _ _ e
  · rw [upd_ne (ne_of_none e h1)]
    exact l.fh _ _ e

/-! ### data in the heap -/
class Rep (α : Type) where
  rp : α → V → Hp → Prop
  mono : ∀ {x : α} {v : V} {F F' : Hp}, Same F F' → rp x v F → rp x v F'
open Rep (rp)
theorem up {α : Type} [Rep α] {x : α} {v : V} {F F' H H' : Hp} (h : rp x v F) (l : Lat F H F' H') : rp x v F' := Rep.mono l.f h
/-- what does not look at the heap -/
class Flat (α : Type) [Rep α] : Prop where
  any : ∀ {x : α} {v : V} {F F' : Hp}, rp x v F → rp x v F'
instance : Rep Int := ⟨fun x v _ => v = .int x, fun _ h => h⟩
instance : Rep Bool := ⟨fun x v _ => v = .bl x, fun _ h => h⟩
instance : Rep Str := ⟨fun x v _ => v = .str x, fun _ h => h⟩
instance : Rep Unit := ⟨fun _ v _ => v = .non, fun _ h => h⟩
instance : Flat Int := ⟨fun h => h⟩
instance : Flat Bool := ⟨fun h => h⟩
instance : Flat Str := ⟨fun h => h⟩
instance : Flat Unit := ⟨fun h => h⟩
def rpO {α : Type} [Rep α] : Option α → V → Hp → Prop
  | none, v, _ => v = .non
  | some x, v, F => rp x v F
instance {α : Type} [Rep α] : Rep (Option α) := ⟨rpO, fun {x} => by
  cases x with
  | none => exact fun _ h => h
  | some x => exact fun s h => Rep.mono (α := α) s h⟩
def rpL {α : Type} [Rep α] : List α → List V → Hp → Prop
  | [], [], _ => True
  | x :: xs, v :: vs, F => rp x v F ∧ rpL xs vs F
  | _, _, _ => False
theorem rpL.mono {α : Type} [Rep α] {F F' : Hp} (s : Same F F') : ∀ {xs : List α} {vs : List V}, rpL xs vs F → rpL xs vs F'
  | [], [], _ => trivial
  | _ :: _, _ :: _, h => ⟨Rep.mono s h.1, rpL.mono s h.2⟩
  | [], _ :: _, h => h
  | _ :: _, [], h => h
theorem rpL.any {α : Type} [Rep α] [Flat α] {F F' : Hp} : ∀ {xs : List α} {vs : List V}, rpL xs vs F → rpL xs vs F'
  | [], [], _ => trivial
  | _ :: _, _ :: _, h => ⟨Flat.any h.1, rpL.any h.2⟩
  | [], _ :: _, h => h
  | _ :: _, [], h => h
theorem rpL.length {α : Type} [Rep α] {F : Hp} : ∀ {xs : List α} {vs : List V}, rpL xs vs F → vs.length = xs.length
  | [], [], _ => rfl
  | _ :: _, _ :: _, h => by simp [rpL.length h.2]
  | [], _ :: _, h => h.elim
  | _ :: _, [], h => h.elim
theorem rpL.get {α : Type} [Rep α] {F : Hp} : ∀ {xs : List α} {vs : List V}, rpL xs vs F → ∀ {i : Nat} {x : α}, xs[i]? = some x → ∃ v, vs[i]? = some v ∧ rp x v F
  | [], [], _, _, _, e => by simp at e
  | a :: _, v :: _, h, 0, x, e => by
    have : a = x := by simpa using e
    subst this
    exact ⟨v, by simp, h.1⟩
  | _ :: _, _ :: _, h, i + 1, x, e => by
    obtain ⟨v, e', r⟩ := rpL.get h.2 (i := i) (x := x) (by simpa using e)
    exact ⟨v, by simpa using e', r⟩
  | [], _ :: _, h, _, _, _ => h.elim
  | _ :: _, [], h, _, _, _ => h.elim
theorem rpL.get' {α : Type} [Rep α] {F : Hp} : ∀ {xs : List α} {vs : List V}, rpL xs vs F → ∀ {i : Nat} {v : V}, vs[i]? = some v → ∃ x, xs[i]? = some x ∧ rp x v F
  | [], [], _, _, _, e => by simp at e
  | a :: _, b :: _, h, 0, v, e => by
    have : b = v := by simpa using e
    subst this
    exact ⟨a, by simp, h.1⟩
  | _ :: _, _ :: _, h, i + 1, x, e => by
    obtain ⟨v, e', r⟩ := rpL.get' h.2 (i := i) (v := x) (by simpa using e)
    exact ⟨v, by simpa using e', r⟩
  | [], _ :: _, h, _, _, _ => h.elim
  | _ :: _, [], h, _, _, _ => h.elim
theorem rpL.append {α : Type} [Rep α] {F : Hp} : ∀ {xs ys : List α} {vs ws : List V}, rpL xs vs F → rpL ys ws F → rpL (xs ++ ys) (vs ++ ws) F
  | [], _, [], _, _, h => h
  | _ :: _, _, _ :: _, _, h, k => ⟨h.1, rpL.append h.2 k⟩
  | [], _, _ :: _, _, h, _ => h.elim
  | _ :: _, _, [], _, h, _ => h.elim
theorem rpL.set {α : Type} [Rep α] {F : Hp} {y : α} {w : V} (hy : rp y w F) : ∀ {xs : List α} {vs : List V} (i : Nat), rpL xs vs F → rpL (xs.set i y) (vs.set i w) F
  | [], [], _, _ => trivial
  | _ :: _, _ :: _, 0, h => ⟨hy, h.2⟩
  | _ :: _, _ :: _, i + 1, h => ⟨h.1, rpL.set hy i h.2⟩
  | [], _ :: _, _, h => h.elim
  | _ :: _, [], _, h => h.elim
theorem rpL.drop {α : Type} [Rep α] {F : Hp} : ∀ {xs : List α} {vs : List V} (i : Nat), rpL xs vs F → rpL (xs.drop i) (vs.drop i) F
  | [], [], i, _ => by simp [rpL]
  | _ :: _, _ :: _, 0, h => h
  | _ :: _, _ :: _, i + 1, h => by simpa using rpL.drop i h.2
  | [], _ :: _, _, h => h.elim
  | _ :: _, [], _, h => h.elim
theorem rpL.take {α : Type} [Rep α] {F : Hp} : ∀ {xs : List α} {vs : List V} (i : Nat), rpL xs vs F → rpL (xs.take i) (vs.take i) F
  | [], [], i, _ => by simp [rpL]
  | _ :: _, _ :: _, 0, h => by simp [rpL]
  | _ :: _, _ :: _, i + 1, h => ⟨h.1, rpL.take i h.2⟩
  | [], _ :: _, _, h => h.elim
  | _ :: _, [], _, h => h.elim
theorem rpL.reverse {α : Type} [Rep α] {F : Hp} : ∀ {xs : List α} {vs : List V}, rpL xs vs F → rpL xs.reverse vs.reverse F
  | [], [], _ => trivial
  | x :: xs, v :: vs, h => by
    rw [List.reverse_cons, List.reverse_cons]
    exact rpL.append (rpL.reverse h.2) ⟨h.1, trivial⟩
  | [], _ :: _, h => h.elim
  | _ :: _, [], h => h.elim
theorem rpL_ints {F : Hp} : ∀ {xs : List Int} {vs : List V}, rpL xs vs F → vs = xs.map V.int
  | [], [], _ => rfl
  | _ :: _, _ :: _, h => by
    rw [List.map_cons, ← rpL_ints h.2]
    exact congrArg (· :: _) h.1
  | [], _ :: _, h => h.elim
  | _ :: _, [], h => h.elim
theorem rpL_ints' {F : Hp} : ∀ (xs : List Int), rpL xs (xs.map V.int) F
  | [] => trivial
  | _ :: xs => ⟨rfl, rpL_ints' xs⟩
instance {α : Type} [Rep α] : Rep (List α) := ⟨fun xs v F => ∃ a vs, v = .ref a ∧ F a = some (.lst vs) ∧ rpL xs vs F, fun s ⟨a, vs, e, h, r⟩ => ⟨a, vs, e, s _ _ h, rpL.mono s r⟩⟩
instance {α β : Type} [Rep α] [Rep β] : Rep (α × β) := ⟨fun x v F => ∃ a v1 v2, v = .ref a ∧ F a = some (.tup [v1, v2]) ∧ rp x.1 v1 F ∧ rp x.2 v2 F,
  fun s ⟨a, v1, v2, e, h, r1, r2⟩ => ⟨a, v1, v2, e, s _ _ h, Rep.mono s r1, Rep.mono s r2⟩⟩
/-- one of two kinds -/
def rpS {α β : Type} [Rep α] [Rep β] : α ⊕ β → V → Hp → Prop
  | .inl x, v, F => rp x v F
  | .inr x, v, F => rp x v F
instance {α β : Type} [Rep α] [Rep β] : Rep (α ⊕ β) := ⟨rpS, fun {x} => by
  cases x with
  | inl x => exact fun s h => Rep.mono (α := α) s h
  | inr x => exact fun s h => Rep.mono (α := β) s h⟩
/-- a list of two things of unlike kinds -/
instance {α β : Type} [Rep α] [Rep β] : Rep (Duo α β) := ⟨fun x v F => ∃ p v1 v2, v = .ref p ∧ F p = some (.lst [v1, v2]) ∧ rp x.a v1 F ∧ rp x.b v2 F,
  fun s ⟨a, v1, v2, e, h, r1, r2⟩ => ⟨a, v1, v2, e, s _ _ h, Rep.mono s r1, Rep.mono s r2⟩⟩
/-- the script, or a list in its place -/
structure Scr (K : PySem.W.Frag) where
  l : List Int
theorem same_rd {H H' : Hp} {a : Addr} {u : HO} (e : Same H H') (h : Rd H a u) : Rd H' a u := by
  rcases h with h | ⟨o, h⟩
  · exact Or.inl (e a _ h)
  · exact Or.inr ⟨o, e a _ h⟩
theorem same_l {K : PySem.W.Frag} {H H' : Hp} {a : Addr} {xs : List V} (e : Same H H') (h : SqL K H a xs) : SqL K H' a xs := by
  rcases h with h | h
  · exact Or.inl (same_rd e h)
  · exact Or.inr h
instance {K : PySem.W.Frag} : Rep (Scr K) := ⟨fun x v F => ∃ a, v = .ref a ∧ SqL K F a (x.l.map V.int), fun s ⟨a, e, h⟩ => ⟨a, e, same_l s h⟩⟩
theorem sqL {K : PySem.W.Frag} {H : Hp} {a : Addr} {xs : List V} (h : H a = some (.lst xs)) : SqL K H a xs := Or.inl (Or.inl h)
theorem sqT {K : PySem.W.Frag} {H : Hp} {a : Addr} {xs : List V} (h : H a = some (.tup xs)) : SqT K H a xs := Or.inl (Or.inl h)

/-! ### arguments -/
class RepA (α : Type) where
  ra : α → List V → Hp → Prop
  mono : ∀ {x : α} {v : List V} {F F' : Hp}, Same F F' → ra x v F → ra x v F'
open RepA (ra)
instance : RepA Unit := ⟨fun _ vs _ => vs = [], fun _ h => h⟩
instance {α β : Type} [Rep α] [RepA β] : RepA (α × β) := ⟨fun x vs F => ∃ v ws, vs = v :: ws ∧ rp x.1 v F ∧ ra x.2 ws F,
  fun s ⟨v, ws, e, h, k⟩ => ⟨v, ws, e, Rep.mono s h, RepA.mono s k⟩⟩

/-! ### what an expression is worth -/
section
variable {α β γ : Type} [Rep α] [Rep β] [Rep γ]
def EV (t : TE) (σ : L2.St) (F H : Hp) (m : Option α) : Prop :=
  ∀ F1 H1, Lat F H F1 H1 → ∀ x, m = some x → ∀ Q : VK, (∀ v F2 H2, Lat F1 H1 F2 H2 → rp x v F2 → Q v H2) → t σ H1 Q
/-- a new list -/
def EVN (t : TE) (σ : L2.St) (F H : Hp) (m : Option (List α)) : Prop :=
  ∀ F1 H1, Lat F H F1 H1 → ∀ xs, m = some xs → ∀ Q : VK, (∀ p vs F2 H2, Lat F1 H1 F2 H2 → H1 p = none → F2 p = none → H2 p = some (.lst vs) → rpL xs vs F2 → Q (.ref p) H2) → t σ H1 Q
def EVT (t : TT) (σ : L2.St) (F H : Hp) (m : Option Bool) : Prop :=
  ∀ F1 H1, Lat F H F1 H1 → ∀ x, m = some x → ∀ Q : Bool → Hp → Prop, (∀ F2 H2, Lat F1 H1 F2 H2 → Q x H2) → t σ H1 Q
def EVA {δ : Type} [RepA δ] (t : TA) (σ : L2.St) (F H : Hp) (m : Option δ) : Prop :=
  ∀ F1 H1, Lat F H F1 H1 → ∀ x, m = some x → ∀ Q : List V → Hp → Prop, (∀ vs F2 H2, Lat F1 H1 F2 H2 → ra x vs F2 → Q vs H2) → t σ H1 Q
/-- a display's items, n of them -/
def EVL (t : TA) (σ : L2.St) (F H : Hp) (n : Nat) (m : Option (List α)) : Prop :=
  (∀ xs, m = some xs → xs.length = n) ∧ ∀ F1 H1, Lat F H F1 H1 → ∀ xs, m = some xs → ∀ Q : List V → Hp → Prop, (∀ vs F2 H2, Lat F1 H1 F2 H2 → rpL xs vs F2 → Q vs H2) → t σ H1 Q
variable {t : TE} {σ : L2.St} {F H : Hp}
theorem EV.at {m : Option α} (h : EV t σ F H m) {F1 H1 : Hp} (l : Lat F H F1 H1) : EV t σ F1 H1 m := fun F2 H2 l2 => h F2 H2 (l.trans l2)
theorem EVN.at {m : Option (List α)} (h : EVN t σ F H m) {F1 H1 : Hp} (l : Lat F H F1 H1) : EVN t σ F1 H1 m := fun F2 H2 l2 => h F2 H2 (l.trans l2)
theorem EVT.at {t : TT} {m : Option Bool} (h : EVT t σ F H m) {F1 H1 : Hp} (l : Lat F H F1 H1) : EVT t σ F1 H1 m := fun F2 H2 l2 => h F2 H2 (l.trans l2)
theorem EVA.at {δ : Type} [RepA δ] {t : TA} {m : Option δ} (h : EVA t σ F H m) {F1 H1 : Hp} (l : Lat F H F1 H1) : EVA t σ F1 H1 m := fun F2 H2 l2 => h F2 H2 (l.trans l2)
theorem EVN.ev {m : Option (List α)} (h : EVN t σ F H m) : EV t σ F H m := fun F1 H1 l x e Q q =>
  h F1 H1 l x e Q fun p vs F2 H2 l2 h1 h2 h3 r => q (.ref p) (upd F2 p (.lst vs)) H2 (l2.hold h1 h2 h3) ⟨p, vs, rfl, upd_same, rpL.mono (same_upd h2) r⟩
/-- flat answers may look at all that stands -/
theorem EV.flat [Flat α] {m : Option α} (h : EV t σ H H m) (s : Same F H) : EV t σ F H m := fun F1 H1 l x e Q q =>
  h H1 H1 l.all x e Q fun v F2 H2 l2 r => q v F1 H2 (.grow l.fh l2.h) (Flat.any r)
theorem EVT.flat {t : TT} {m : Option Bool} (h : EVT t σ H H m) (s : Same F H) : EVT t σ F H m := fun F1 H1 l x e Q q =>
  h H1 H1 l.all x e Q fun F2 H2 l2 => q F1 H2 (.grow l.fh l2.h)
theorem EVN.flat [Flat α] {m : Option (List α)} (h : EVN t σ H H m) (s : Same F H) : EVN t σ F H m := fun F1 H1 l x e Q q =>
  h H1 H1 l.all x e Q fun p vs F2 H2 l2 h1 _ h3 r => q p vs F1 H2 (.grow l.fh l2.h) h1 (l.fh.free h1) h3 (rpL.any r)

theorem ev_var {i : Nat} {x : α} {v : V} (h : σ[i]? = some (some v)) (r : rp x v F) : EV (tVar i) σ F H (some x) := fun F1 H1 l y e Q q => by
  cases e
  exact ⟨v, h, q v F1 H1 (.refl l.fh) (up r l)⟩
theorem ev_c {x : α} {v : V} (r : ∀ F, rp x v F) : EV (tC v) σ F H (some x) := fun F1 H1 l y e Q q => by
  cases e
  exact q v F1 H1 (.refl l.fh) (r _)
theorem ev_int {n : Int} : EV (tC (.int n)) σ F H (some n) := ev_c fun _ => rfl
theorem ev_bl {b : Bool} : EV (tC (.bl b)) σ F H (some b) := ev_c fun _ => rfl
theorem ev_str {z : Str} : EV (tC (.str z)) σ F H (some z) := ev_c fun _ => rfl
theorem ev_non : EV (tC .non) σ F H (some (none : Option α)) := ev_c fun _ => rfl
theorem ev_some {m : Option α} (h : EV t σ F H m) : EV t σ F H (m.bind fun x => some (some x)) := fun F1 H1 l y e Q q => by
  obtain ⟨x, ex, ey⟩ := Option.bind_eq_some_iff.mp e
  cases ey
  exact h F1 H1 l x ex Q q
theorem ev_inl {m : Option α} (h : EV t σ F H m) : EV t σ F H (m.bind fun x => some (Sum.inl x : α ⊕ β)) := fun F1 H1 l y e Q q => by
  obtain ⟨x, ex, ey⟩ := Option.bind_eq_some_iff.mp e
  cases ey
  exact h F1 H1 l x ex Q q
theorem ev_inr {m : Option β} (h : EV t σ F H m) : EV t σ F H (m.bind fun x => some (Sum.inr x : α ⊕ β)) := fun F1 H1 l y e Q q => by
  obtain ⟨x, ex, ey⟩ := Option.bind_eq_some_iff.mp e
  cases ey
  exact h F1 H1 l x ex Q q
/-- an answer that may be None is none here -/
def unO (x : Option α) : Option α := x
theorem ev_un {m : Option (Option α)} (h : EV t σ F H m) : EV t σ F H (m.bind fun x => unO x) := fun F1 H1 l y e Q q => by
  obtain ⟨x, ex, ey⟩ := Option.bind_eq_some_iff.mp e
  refine h F1 H1 l x ex Q fun v F2 H2 l2 r => q v F2 H2 l2 ?_
  have ey' : x = some y := ey
  subst ey'
  exact r
theorem ev_scr {K : PySem.W.Frag} {m : Option (List Int)} (h : EV t σ F H m) : EV t σ F H (m.bind fun x => some (Scr.mk x : Scr K)) := fun F1 H1 l y e Q q => by
  obtain ⟨x, ex, ey⟩ := Option.bind_eq_some_iff.mp e
  cases ey
  refine h F1 H1 l x ex Q fun v F2 H2 l2 r => ?_
  obtain ⟨a, vs, e1, e2, r2⟩ := r
  exact q v F2 H2 l2 ⟨a, e1, sqL (by rw [rpL_ints r2] at e2; exact e2)⟩

/-! ### operators -/
def RV (r : R2) (x : α) (y : β) (m : Option γ) : Prop :=
  ∀ F H v w, Same F H → rp x v F → rp y w F → ∀ z, m = some z → ∀ Q : VK, (∀ u F2 H2, Lat F H F2 H2 → rp z u F2 → Q u H2) → r v w H Q
theorem ev_op {ta tb : TE} {r : R2} {ma : Option α} {mb : Option β} {k : α → β → Option γ} (ha : EV ta σ F H ma) (hb : EV tb σ F H mb) (hr : ∀ x y, RV r x y (k x y)) :
    EV (tOp r ta tb) σ F H (ma.bind fun x => mb.bind fun y => k x y) := fun F1 H1 l z e Q q => by
  obtain ⟨x, ex, e⟩ := Option.bind_eq_some_iff.mp e
  obtain ⟨y, ey, e⟩ := Option.bind_eq_some_iff.mp e
  refine ha F1 H1 l x ex _ fun v F2 H2 l2 rv => hb F2 H2 (l.trans l2) y ey _ fun w F3 H3 l3 rw' => ?_
  exact hr x y F3 H3 v w l3.fh (up rv l3) rw' z e Q fun u F4 H4 l4 ru => q u F4 H4 ((l2.trans l3).trans l4) ru
/-- the same, the answer a new list -/
def RVN (r : R2) (x : α) (y : β) (m : Option (List γ)) : Prop :=
  ∀ F H v w, Same F H → rp x v F → rp y w F → ∀ zs, m = some zs → ∀ Q : VK, (∀ p vs F2 H2, Lat F H F2 H2 → H p = none → F2 p = none → H2 p = some (.lst vs) → rpL zs vs F2 → Q (.ref p) H2) → r v w H Q
theorem evn_op {ta tb : TE} {r : R2} {ma : Option α} {mb : Option β} {k : α → β → Option (List γ)} (ha : EV ta σ F H ma) (hb : EV tb σ F H mb) (hr : ∀ x y, RVN r x y (k x y)) :
    EVN (tOp r ta tb) σ F H (ma.bind fun x => mb.bind fun y => k x y) := fun F1 H1 l z e Q q => by
  obtain ⟨x, ex, e⟩ := Option.bind_eq_some_iff.mp e
  obtain ⟨y, ey, e⟩ := Option.bind_eq_some_iff.mp e
  refine ha F1 H1 l x ex _ fun v F2 H2 l2 rv => hb F2 H2 (l.trans l2) y ey _ fun w F3 H3 l3 rw' => ?_
  refine hr x y F3 H3 v w l3.fh (up rv l3) rw' z e Q fun p vs F4 H4 l4 h1 h2 h3 r => q p vs F4 H4 ((l2.trans l3).trans l4) ?_ h2 h3 r
  exact (l2.trans l3).h.free h1
theorem rv_I0 {g : Int → Int → V} {f : Int → Int → γ} (hg : ∀ i j F, rp (f i j) (g i j) F) (x y : Int) : RV (rI0 g) x y (some (f x y)) := fun F H v w s rv rw' z e Q q => by
  cases e
  exact ⟨x, y, rv, rw', q _ F H (.refl s) (hg _ _ _)⟩
theorem rv_add (x y : Int) : RV (rI0 fun i j => .int (i + j)) x y (some (x + y)) := rv_I0 (fun _ _ _ => rfl) x y
theorem rv_sub (x y : Int) : RV (rI0 fun i j => .int (i - j)) x y (some (x - y)) := rv_I0 (fun _ _ _ => rfl) x y
theorem rv_I {C : Int → Int → Prop} {g : Int → Int → Int} (x y : Int) {m : Option Int} (h : ∀ z, m = some z → C x y ∧ z = g x y) : RV (rI C fun i j => .int (g i j)) x y m := fun F H v w s rv rw' z e Q q => by
  obtain ⟨h1, rfl⟩ := h z e
  exact ⟨x, y, rv, rw', h1, q _ F H (.refl s) rfl⟩
theorem rv_mul (x y : Int) : RV (rI CMul fun i j => .int (i * j)) x y (mulZ x y) := rv_I x y fun z e => by
  unfold mulZ at e
  split at e
  · cases e
    exact ⟨by assumption, rfl⟩
  · cases e
theorem rv_div (x y : Int) : RV (rI CDiv fun i j => .int (i / j)) x y (divZ x y) := rv_I x y fun z e => by
  unfold divZ at e
  split at e
  · cases e
    exact ⟨by assumption, rfl⟩
  · cases e
theorem rv_mod (x y : Int) : RV (rI (fun _ j => 0 < j) fun i j => .int (i % j)) x y (modZ x y) := rv_I x y fun z e => by
  unfold modZ at e
  split at e
  · cases e
    exact ⟨by assumption, rfl⟩
  · cases e
/-- comparisons of ints by pe_cmpR, pt_cmpR -/
theorem rv_cmp {g : Int → Int → Bool} (x y : Int) : RV (rI0 fun i j => .bl (g i j)) x y (some (g x y)) := rv_I0 (fun _ _ _ => rfl) x y
theorem rv_eqI (x y : Int) : RV rEq x y (some (decide (x = y))) := fun F H v w s rv rw' z e Q q => by
  cases e
  cases rv
  cases rw'
  exact ⟨rfl, q _ F H (.refl s) (show V.bl _ = V.bl _ by congr 1; simp)⟩
theorem rv_neI (x y : Int) : RV rNe x y (some (!decide (x = y))) := fun F H v w s rv rw' z e Q q => by
  cases e
  cases rv
  cases rw'
  exact ⟨rfl, q _ F H (.refl s) (show V.bl _ = V.bl _ by congr 1; simp)⟩
theorem rv_eqB (x y : Bool) : RV rEq x y (some (x == y)) := fun F H v w s rv rw' z e Q q => by
  cases e
  cases rv
  cases rw'
  exact ⟨rfl, q _ F H (.refl s) (show V.bl _ = V.bl _ by congr 1; exact dec_bl)⟩
theorem rv_neB (x y : Bool) : RV rNe x y (some (!(x == y))) := fun F H v w s rv rw' z e Q q => by
  cases e
  cases rv
  cases rw'
  exact ⟨rfl, q _ F H (.refl s) (show V.bl _ = V.bl _ by congr 2; exact dec_bl)⟩
theorem rv_eqS (x y : Str) : RV rEq x y (some (decide (x = y))) := fun F H v w s rv rw' z e Q q => by
  cases e
  cases rv
  cases rw'
  exact ⟨rfl, q _ F H (.refl s) (show V.bl _ = V.bl _ by congr 1; simp)⟩
theorem rv_neS (x y : Str) : RV rNe x y (some (!decide (x = y))) := fun F H v w s rv rw' z e Q q => by
  cases e
  cases rv
  cases rw'
  exact ⟨rfl, q _ F H (.refl s) (show V.bl _ = V.bl _ by congr 1; simp)⟩
theorem ixZ_eq (n : Nat) (i : Int) : ixZ n i = ixN n i := rfl
theorem rv_ixL {K : PySem.W.Frag} (xs : List α) (i : Int) : RV (rIxL K) xs i (atZ xs i) := fun F H v w s rv rw' z e Q q => by
  obtain ⟨a, vs, e1, e2, r⟩ := rv
  unfold atZ at e
  obtain ⟨j, ej, e3⟩ := Option.bind_eq_some_iff.mp e
  obtain ⟨u, eu, ru⟩ := r.get e3
  refine ⟨a, vs, i, u, e1, rw', sqL (s _ _ e2), ?_, q u F H (.refl s) ru⟩
  unfold atI
  rw [r.length, ← ixZ_eq, ej]
  exact eu
theorem rv_ixS {K : PySem.W.Frag} (xs : Scr K) (i : Int) : RV (rIxL K) xs i (atZ xs.l i) := fun F H v w s rv rw' z e Q q => by
  obtain ⟨a, e1, e2⟩ := rv
  unfold atZ at e
  obtain ⟨j, ej, e3⟩ := Option.bind_eq_some_iff.mp e
  obtain ⟨u, eu, ru⟩ := (rpL_ints' (F := F) xs.l).get e3
  refine ⟨a, _, i, u, e1, rw', same_l s e2, ?_, q u F H (.refl s) ru⟩
  unfold atI
  rw [List.length_map, ← ixZ_eq, ej]
  exact eu
theorem ev_fst {K : PySem.W.Frag} {m : Option (α × β)} (h : EV t σ F H m) : EV (tOp (rIxT K) t (tC (.int 0))) σ F H (m.bind fun x => some x.1) := fun F1 H1 l z e Q q => by
  obtain ⟨x, ex, e⟩ := Option.bind_eq_some_iff.mp e
  cases e
  refine h F1 H1 l x ex _ fun v F2 H2 l2 ⟨a, v1, v2, e1, e2, r1, r2⟩ => ?_
  exact ⟨a, _, 0, v1, e1, rfl, sqT (l2.fh _ _ e2), rfl, q v1 F2 H2 l2 r1⟩
theorem ev_snd {K : PySem.W.Frag} {m : Option (α × β)} (h : EV t σ F H m) : EV (tOp (rIxT K) t (tC (.int 1))) σ F H (m.bind fun x => some x.2) := fun F1 H1 l z e Q q => by
  obtain ⟨x, ex, e⟩ := Option.bind_eq_some_iff.mp e
  cases e
  refine h F1 H1 l x ex _ fun v F2 H2 l2 ⟨a, v1, v2, e1, e2, r1, r2⟩ => ?_
  exact ⟨a, _, 1, v2, e1, rfl, sqT (l2.fh _ _ e2), rfl, q v2 F2 H2 l2 r2⟩
theorem ev_duoA {K : PySem.W.Frag} {m : Option (Duo α β)} (h : EV t σ F H m) : EV (tOp (rIxL K) t (tC (.int 0))) σ F H (m.bind fun x => some x.a) := fun F1 H1 l z e Q q => by
  obtain ⟨x, ex, e⟩ := Option.bind_eq_some_iff.mp e
  cases e
  refine h F1 H1 l x ex _ fun v F2 H2 l2 ⟨a, v1, v2, e1, e2, r1, r2⟩ => ?_
  exact ⟨a, _, 0, v1, e1, rfl, sqL (l2.fh _ _ e2), rfl, q v1 F2 H2 l2 r1⟩
theorem ev_duoB {K : PySem.W.Frag} {m : Option (Duo α β)} (h : EV t σ F H m) : EV (tOp (rIxL K) t (tC (.int 1))) σ F H (m.bind fun x => some x.b) := fun F1 H1 l z e Q q => by
  obtain ⟨x, ex, e⟩ := Option.bind_eq_some_iff.mp e
  cases e
  refine h F1 H1 l x ex _ fun v F2 H2 l2 ⟨a, v1, v2, e1, e2, r1, r2⟩ => ?_
  exact ⟨a, _, 1, v2, e1, rfl, sqL (l2.fh _ _ e2), rfl, q v2 F2 H2 l2 r2⟩
theorem ev_neg {m : Option Int} (h : EV t σ F H m) : EV (tUn (rU fun i => .int (-i)) t) σ F H (m.bind fun x => some (-x)) := fun F1 H1 l z e Q q => by
  obtain ⟨x, ex, e⟩ := Option.bind_eq_some_iff.mp e
  cases e
  exact h F1 H1 l x ex _ fun v F2 H2 l2 r => ⟨x, r, q _ F2 H2 l2 rfl⟩

/-! ### arguments, displays -/
theorem eva_nil : EVA tNil σ F H (some ()) := fun F1 H1 l z e Q q => q [] F1 H1 (.refl l.fh) rfl
theorem eva_cons {δ : Type} [RepA δ] {tr : TA} {m : Option α} {mr : Option δ} (h : EV t σ F H m) (hr : EVA tr σ F H mr) : EVA (tCons t tr) σ F H (m.bind fun x => mr.bind fun y => some (x, y)) := fun F1 H1 l z e Q q => by
  obtain ⟨x, ex, e⟩ := Option.bind_eq_some_iff.mp e
  obtain ⟨y, ey, e⟩ := Option.bind_eq_some_iff.mp e
  cases e
  exact h F1 H1 l x ex _ fun v F2 H2 l2 rv => hr F2 H2 (l.trans l2) y ey _ fun ws F3 H3 l3 rw' => q (v :: ws) F3 H3 (l2.trans l3) ⟨v, ws, rfl, (up rv l3), rw'⟩
theorem evl_nil : EVL tNil σ F H 0 (some ([] : List α)) := ⟨fun xs e => by cases e; rfl, fun F1 H1 l z e Q q => by
  cases e
  exact q [] F1 H1 (.refl l.fh) trivial⟩
theorem evl_cons {tr : TA} {n : Nat} {m : Option α} {mr : Option (List α)} (h : EV t σ F H m) (hr : EVL tr σ F H n mr) : EVL (tCons t tr) σ F H (n + 1) (m.bind fun x => mr.bind fun y => some (x :: y)) := ⟨fun xs e => by
  obtain ⟨x, ex, e⟩ := Option.bind_eq_some_iff.mp e
  obtain ⟨y, ey, e⟩ := Option.bind_eq_some_iff.mp e
  cases e
  rw [List.length_cons, hr.1 y ey], fun F1 H1 l z e Q q => by
  obtain ⟨x, ex, e⟩ := Option.bind_eq_some_iff.mp e
  obtain ⟨y, ey, e⟩ := Option.bind_eq_some_iff.mp e
  cases e
  exact h F1 H1 l x ex _ fun v F2 H2 l2 rv => hr.2 F2 H2 (l.trans l2) y ey _ fun ws F3 H3 l3 rw' => q (v :: ws) F3 H3 (l2.trans l3) ⟨(up rv l3), rw'⟩⟩
theorem sz_ok {n : Nat} (h : n ≤ 10000000) : n ≤ sizeLine := Nat.le_trans h (by decide)
theorem sz_lt {n : Nat} (h : n < 10000000) : n < sizeLine := Nat.lt_of_lt_of_le h (by decide)
/-- [a, b, ..] -/
theorem evn_lst {tr : TA} {n : Nat} {mr : Option (List α)} (hr : EVL tr σ F H n mr) (hs : n ≤ 10000000 := by decide) : EVN (tLst tr) σ F H mr := fun F1 H1 l xs e Q q =>
  hr.2 F1 H1 l xs e _ fun vs F2 H2 l2 r => ⟨sz_ok (by rw [r.length, hr.1 xs e]; exact hs), fun p hp => q p vs F2 (upd H2 p (.lst vs)) (l2.trans (.made l2.fh hp)) (l2.h.free hp) (l2.fh.free hp) upd_same r⟩
theorem evn_nil : EVN (tLst tNil) σ F H (some ([] : List α)) := evn_lst evl_nil
theorem ev_tup {ta tb : TE} {ma : Option α} {mb : Option β} (ha : EV ta σ F H ma) (hb : EV tb σ F H mb) : EV (tTup (tCons ta (tCons tb tNil))) σ F H (ma.bind fun x => mb.bind fun y => some (x, y)) := fun F1 H1 l z e Q q => by
  obtain ⟨x, ex, e⟩ := Option.bind_eq_some_iff.mp e
  obtain ⟨y, ey, e⟩ := Option.bind_eq_some_iff.mp e
  cases e
  refine ha F1 H1 l x ex _ fun v F2 H2 l2 rv => hb F2 H2 (l.trans l2) y ey _ fun w F3 H3 l3 rw' => ⟨by show 2 ≤ sizeLine; decide, fun p hp => ?_⟩
  refine q (.ref p) (upd F3 p (.tup [v, w])) (upd H3 p (.tup [v, w])) ((l2.trans l3).trans (.new l3.fh hp)) ⟨p, v, w, rfl, upd_same, ?_, ?_⟩
  · exact Rep.mono (same_upd (l3.fh.free hp)) (up rv l3)
  · exact Rep.mono (same_upd (l3.fh.free hp)) rw'
theorem ev_duo {ta tb : TE} {ma : Option α} {mb : Option β} (ha : EV ta σ F H ma) (hb : EV tb σ F H mb) : EV (tLst (tCons ta (tCons tb tNil))) σ F H (ma.bind fun x => mb.bind fun y => some (Duo.mk x y)) := fun F1 H1 l z e Q q => by
  obtain ⟨x, ex, e⟩ := Option.bind_eq_some_iff.mp e
  obtain ⟨y, ey, e⟩ := Option.bind_eq_some_iff.mp e
  cases e
  refine ha F1 H1 l x ex _ fun v F2 H2 l2 rv => hb F2 H2 (l.trans l2) y ey _ fun w F3 H3 l3 rw' => ⟨by show 2 ≤ sizeLine; decide, fun p hp => ?_⟩
  refine q (.ref p) (upd F3 p (.lst [v, w])) (upd H3 p (.lst [v, w])) ((l2.trans l3).trans (.new l3.fh hp)) ⟨p, v, w, rfl, upd_same, ?_, ?_⟩
  · exact Rep.mono (same_upd (l3.fh.free hp)) (up rv l3)
  · exact Rep.mono (same_upd (l3.fh.free hp)) rw'

/-! ### tests -/
theorem evt_of {m : Option Bool} (h : EV t σ F H m) : EVT (tTest t) σ F H m := fun F1 H1 l x e Q q => h F1 H1 l x e _ fun v F2 H2 l2 r => ⟨x, r, q F2 H2 l2⟩
theorem evt_b {m : Option Bool} (h : EV t σ F H m) : EVT (tB t) σ F H m := fun F1 H1 l x e Q q => h F1 H1 l x e _ fun v F2 H2 l2 r => ⟨x, r, q F2 H2 l2⟩
theorem evt_not {c : TT} {m : Option Bool} (h : EVT c σ F H m) : EVT (tNot c) σ F H (m.bind fun b => some (!b)) := fun F1 H1 l x e Q q => by
  obtain ⟨b, eb, e⟩ := Option.bind_eq_some_iff.mp e
  cases e
  exact h F1 H1 l b eb _ fun F2 H2 l2 => q F2 H2 l2
theorem evt_and {c d : TT} {m n : Option Bool} (h : EVT c σ F H m) (k : EVT d σ F H n) : EVT (tAnd c d) σ F H (m.bind fun b => if b then n else some false) := fun F1 H1 l x e Q q => by
  obtain ⟨b, eb, e⟩ := Option.bind_eq_some_iff.mp e
  refine h F1 H1 l b eb _ fun F2 H2 l2 => ?_
  cases b with
  | true => exact iteT (k F2 H2 (l.trans l2) x e _ fun F3 H3 l3 => q F3 H3 (l2.trans l3))
  | false =>
    have e' : false = x := Option.some.inj e
    subst e'
    exact iteF (q F2 H2 l2)
theorem evt_or {c d : TT} {m n : Option Bool} (h : EVT c σ F H m) (k : EVT d σ F H n) : EVT (tOr c d) σ F H (m.bind fun b => if b then some true else n) := fun F1 H1 l x e Q q => by
  obtain ⟨b, eb, e⟩ := Option.bind_eq_some_iff.mp e
  refine h F1 H1 l b eb _ fun F2 H2 l2 => ?_
  cases b with
  | false => exact iteF (k F2 H2 (l.trans l2) x e _ fun F3 H3 l3 => q F3 H3 (l2.trans l3))
  | true =>
    have e' : true = x := Option.some.inj e
    subst e'
    exact iteT (q F2 H2 l2)
theorem ev_andV {ta tb : TE} {m n : Option Bool} (h : EV ta σ F H m) (k : EV tb σ F H n) : EV (tAndV ta tb) σ F H (m.bind fun b => if b then n else some false) := fun F1 H1 l x e Q q => by
  obtain ⟨b, eb, e⟩ := Option.bind_eq_some_iff.mp e
  refine h F1 H1 l b eb _ fun v F2 H2 l2 r => ⟨b, r, ?_⟩
  cases b with
  | true => exact iteT (k F2 H2 (l.trans l2) x e _ fun w F3 H3 l3 r3 => q w F3 H3 (l2.trans l3) r3)
  | false =>
    have e' : false = x := Option.some.inj e
    subst e'
    exact iteF (q _ F2 H2 l2 rfl)
theorem ev_orV {ta tb : TE} {m n : Option Bool} (h : EV ta σ F H m) (k : EV tb σ F H n) : EV (tOrV ta tb) σ F H (m.bind fun b => if b then some true else n) := fun F1 H1 l x e Q q => by
  obtain ⟨b, eb, e⟩ := Option.bind_eq_some_iff.mp e
  refine h F1 H1 l b eb _ fun v F2 H2 l2 r => ⟨b, r, ?_⟩
  cases b with
  | false => exact iteF (k F2 H2 (l.trans l2) x e _ fun w F3 H3 l3 r3 => q w F3 H3 (l2.trans l3) r3)
  | true =>
    have e' : true = x := Option.some.inj e
    subst e'
    exact iteT (q _ F2 H2 l2 rfl)
theorem ev_notV {m : Option Bool} (h : EV t σ F H m) : EV (tNotV t) σ F H (m.bind fun b => some (!b)) := fun F1 H1 l x e Q q => by
  obtain ⟨b, eb, e⟩ := Option.bind_eq_some_iff.mp e
  cases e
  exact h F1 H1 l b eb _ fun v F2 H2 l2 r => ⟨b, r, q _ F2 H2 l2 rfl⟩
theorem ev_isN {m : Option (Option α)} (nn : ∀ (x : α) v F, rp x v F → v ≠ .non) (h : EV t σ F H m) : EV (tIsN t) σ F H (m.bind fun x => some x.isNone) := fun F1 H1 l x e Q q => by
  obtain ⟨b, eb, e⟩ := Option.bind_eq_some_iff.mp e
  cases e
  refine h F1 H1 l b eb _ fun v F2 H2 l2 r => q _ F2 H2 l2 ?_
  show V.bl (decide (v = .non)) = V.bl b.isNone
  cases b with
  | none =>
    have : v = .non := r
    simp [this]
  | some x => simp [nn x v F2 r]
theorem ev_notN {m : Option (Option α)} (nn : ∀ (x : α) v F, rp x v F → v ≠ .non) (h : EV t σ F H m) : EV (tNotN t) σ F H (m.bind fun x => some (!x.isNone)) := fun F1 H1 l x e Q q => by
  obtain ⟨b, eb, e⟩ := Option.bind_eq_some_iff.mp e
  cases e
  refine h F1 H1 l b eb _ fun v F2 H2 l2 r => q _ F2 H2 l2 ?_
  show V.bl (!decide (v = .non)) = V.bl (!b.isNone)
  cases b with
  | none =>
    have : v = .non := r
    simp [this]
  | some x => simp [nn x v F2 r]
theorem nn_list (x : List α) (v : V) (F : Hp) (h : rp x v F) : v ≠ .non := by
  obtain ⟨a, vs, rfl, _⟩ := h
  intro e
  cases e
theorem nn_pair (x : α × β) (v : V) (F : Hp) (h : rp x v F) : v ≠ .non := by
  obtain ⟨a, v1, v2, rfl, _⟩ := h
  intro e
  cases e
theorem ev_if {c : TT} {ta tb : TE} {m : Option Bool} {ma mb : Option α} (hc : EVT c σ F H m) (ha : EV ta σ F H ma) (hb : EV tb σ F H mb) : EV (tIf c ta tb) σ F H (m.bind fun b => if b then ma else mb) := fun F1 H1 l x e Q q => by
  obtain ⟨b, eb, e⟩ := Option.bind_eq_some_iff.mp e
  refine hc F1 H1 l b eb _ fun F2 H2 l2 => ?_
  cases b with
  | true => exact iteT (ha F2 H2 (l.trans l2) x e _ fun w F3 H3 l3 r3 => q w F3 H3 (l2.trans l3) r3)
  | false => exact iteF (hb F2 H2 (l.trans l2) x e _ fun w F3 H3 l3 r3 => q w F3 H3 (l2.trans l3) r3)
/-- a op b op c -/
theorem ev_chain {δ : Type} [Rep δ] {ta tb tc : TE} {r r' : R2} {ma : Option α} {mb : Option β} {mc : Option δ} {k : α → β → Option Bool} {k' : β → δ → Option Bool} (ha : EV ta σ F H ma) (hb : EV tb σ F H mb) (hc : EV tc σ F H mc)
    (hr : ∀ x y, RV r x y (k x y)) (hr' : ∀ x y, RV r' x y (k' x y)) : EV (tChain r r' ta tb tc) σ F H (ma.bind fun x => mb.bind fun y => (k x y).bind fun b => if b then mc.bind fun z => k' y z else some false) := fun F1 H1 l z e Q q => by
  obtain ⟨x, ex, e⟩ := Option.bind_eq_some_iff.mp e
  obtain ⟨y, ey, e⟩ := Option.bind_eq_some_iff.mp e
  obtain ⟨b, eb, e⟩ := Option.bind_eq_some_iff.mp e
  refine ha F1 H1 l x ex _ fun v F2 H2 l2 rv => hb F2 H2 (l.trans l2) y ey _ fun w F3 H3 l3 rw' => ?_
  refine hr x y F3 H3 v w l3.fh (up rv l3) rw' b eb _ fun u F4 H4 l4 ru => ⟨b, ru, ?_⟩
  cases b with
  | true =>
    refine iteT ?_
    obtain ⟨z1, ez1, e⟩ := Option.bind_eq_some_iff.mp e
    refine hc F4 H4 (((l.trans l2).trans l3).trans l4) z1 ez1 _ fun w2 F5 H5 l5 r5 => ?_
    exact hr' y z1 F5 H5 w w2 l5.fh (up (up rw' l4) l5) r5 z e Q fun u F6 H6 l6 r6 => q u F6 H6 ((((l2.trans l3).trans l4).trans l5).trans l6) r6
  | false =>
    have e' : false = z := Option.some.inj e
    subst e'
    exact iteF (q _ F4 H4 ((l2.trans l3).trans l4) rfl)
end
end Dw

set_option Elab.async false
set_option linter.all false
set_option maxRecDepth 100000
set_option maxHeartbeats 4000000
/-! The layer, second part: walks, loops, comprehensions, statements, calls. -/
namespace Dw
open PySem L2 Dv
open Rep (rp)
open RepA (ra)

/-! ### what is walked -/
structure Wk {α : Type} [Rep α] (J : It) (xs : List α) (F : Hp) : Prop where
  stop : ∀ H, Same F H → J.stop xs.length H
  go : ∀ i x H, xs[i]? = some x → Same F H → J.go i H
  yld : ∀ i x H v H', xs[i]? = some x → Same F H → J.yld i H v H' → ∀ F1, Same F F1 → Same F1 H → ∃ F2, Lat F1 H F2 H' ∧ rp x v F2
section
variable {α β γ S R T : Type} [Rep α] [Rep β] [Rep γ] {K : PySem.W.Frag}
def EI (wi : TI) (σ : L2.St) (F H : Hp) (m : Option (List α)) : Prop :=
  ∀ F1 H1, Lat F H F1 H1 → ∀ xs, m = some xs → ∀ R : It → Hp → Prop, (∀ J F2 H2, Lat F1 H1 F2 H2 → Wk J xs F2 → R J H2) → wi σ H1 R
variable {t : TE} {σ : L2.St} {F H : Hp}
theorem EI.flat [Flat α] {wi : TI} {m : Option (List α)} (h : EI wi σ H H m) (s : Same F H) (hJ : ∀ J xs F2 H2, Lat H H F2 H2 → Wk J xs F2 → Wk J (xs : List α) F) : EI wi σ F H m := fun F1 H1 l xs e R q =>
  h H1 H1 l.all xs e R fun J F2 H2 l2 w => q J F1 H2 (.grow l.fh l2.h) (by
    have w2 := hJ J xs F2 H2 (l.all.trans l2) w
    exact ⟨fun H' s' => w2.stop H' (l.f.trans s'), fun i x H' e s' => w2.go i x H' e (l.f.trans s'), fun i x H' v H'' e s' y F1 s1 s2 => w2.yld i x H' v H'' e (l.f.trans s') y F1 (l.f.trans s1) s2⟩)
theorem wk_list {a : Addr} {xs : List α} {vs : List V} (h : F a = some (.lst vs)) (r : rpL xs vs F) : Wk (Itl K a) xs F := by
  refine ⟨fun H s => ⟨vs, sqL (s _ _ h), Nat.le_of_eq r.length⟩, fun i x H e s => ?_, fun i x H v H' e s y F1 s1 s2 => ?_⟩
  · obtain ⟨v, ev, _⟩ := r.get e
    exact ⟨vs, v, sqL (s _ _ h), ev⟩
  · obtain ⟨rfl, y2⟩ := y
    obtain ⟨v', ev, rv⟩ := r.get e
    have := y2 vs (sqL (s _ _ h))
    rw [ev] at this
    cases this
    exact ⟨F1, .refl s2, Rep.mono s1 rv⟩
theorem ei_list {m : Option (List α)} (h : EV t σ F H m) : EI (iList K t) σ F H m := fun F1 H1 l xs e R q =>
  h F1 H1 l xs e _ fun v F2 H2 l2 ⟨a, vs, ev, ea, r⟩ => ⟨a, ev, ⟨vs, sqL (l2.fh _ _ ea)⟩, q _ F2 H2 l2 (wk_list ea r)⟩
/-- a pair walked -/
theorem ei_tup {m : Option (α × α)} (h : EV t σ F H m) : EI (iTup K t) σ F H (m.bind fun x => some [x.1, x.2]) := fun F1 H1 l xs e R q => by
  obtain ⟨x, ex, e⟩ := Option.bind_eq_some_iff.mp e
  cases e
  refine h F1 H1 l x ex _ fun v F2 H2 l2 ⟨a, v1, v2, ev, ea, r1, r2⟩ => ⟨a, ev, ⟨_, sqT (l2.fh _ _ ea)⟩, q _ F2 H2 l2 ?_⟩
  refine ⟨fun H s => ⟨_, sqT (s _ _ ea), Nat.le_refl _⟩, fun i y H e s => ?_, fun i y H v H' e s z F1 s1 s2 => ?_⟩
  · match i, e with
    | 0, _ => exact ⟨_, v1, sqT (s _ _ ea), rfl⟩
    | 1, _ => exact ⟨_, v2, sqT (s _ _ ea), rfl⟩
  · obtain ⟨rfl, z2⟩ := z
    match i, e, z2 with
    | 0, e, z2 =>
      cases e
      have := z2 _ (sqT (s _ _ ea))
      cases this
      exact ⟨F1, .refl s2, Rep.mono s1 r1⟩
    | 1, e, z2 =>
      cases e
      have := z2 _ (sqT (s _ _ ea))
      cases this
      exact ⟨F1, .refl s2, Rep.mono s1 r2⟩
theorem wk_range {lo : Int} {n : Nat} : Wk (Itr lo n) ((List.range n).map fun i => lo + ((i : Nat) : Int)) F := by
  refine ⟨fun H s => ?_, fun i x H e s => ?_, fun i x H v H' e s y F1 s1 s2 => ?_⟩
  · show n ≤ _
    simp
  · have := (List.getElem?_eq_some_iff.mp e).1
    show i < n
    simpa using this
  · obtain ⟨rfl, rfl⟩ := y
    have hi : i < n := by simpa using (List.getElem?_eq_some_iff.mp e).1
    refine ⟨F1, .refl s2, ?_⟩
    rw [List.getElem?_map, List.getElem?_range hi] at e
    cases e
    rfl
theorem ei_range1 {m : Option Int} (h : EV t σ F H m) : EI (iRng1 (tCons t tNil)) σ F H (m.bind fun n => rng 0 n) := fun F1 H1 l xs e R q => by
  obtain ⟨n, en, e⟩ := Option.bind_eq_some_iff.mp e
  unfold rng at e
  split at e
  · rename_i c
    cases e
    refine h F1 H1 l n en _ fun v F2 H2 l2 r => ⟨n, by rw [show v = V.int n from r], by omega, by omega, ?_⟩
    refine q _ F2 H2 l2 ?_
    have z : (n - 0).toNat = n.toNat := by rw [Int.sub_zero]
    rw [z]
    exact wk_range
  · cases e
theorem ei_range2 {ta tb : TE} {ma mb : Option Int} (ha : EV ta σ F H ma) (hb : EV tb σ F H mb) : EI (iRng2 (tCons ta (tCons tb tNil))) σ F H (ma.bind fun a => mb.bind fun b => rng a b) := fun F1 H1 l xs e R q => by
  obtain ⟨a, en, e⟩ := Option.bind_eq_some_iff.mp e
  obtain ⟨b, eb, e⟩ := Option.bind_eq_some_iff.mp e
  unfold rng at e
  split at e
  · rename_i c
    cases e
    refine ha F1 H1 l a en _ fun v F2 H2 l2 r => hb F2 H2 (l.trans l2) b eb _ fun w F3 H3 l3 r3 => ⟨a, b, by rw [show v = V.int a from r, show w = V.int b from r3], ⟨by omega, by omega, by omega, by omega⟩, ?_⟩
    exact q _ F3 H3 (l2.trans l3) wk_range
  · cases e
theorem ei_rev {m : Option (List α)} (h : EV t σ F H m) : EI (iRev K (tCons t tNil)) σ F H (m.bind fun xs => some xs.reverse) := fun F1 H1 l ys e R q => by
  obtain ⟨xs, en, e⟩ := Option.bind_eq_some_iff.mp e
  cases e
  refine h F1 H1 l xs en _ fun v F2 H2 l2 ⟨a, vs, ev, ea, r⟩ => ⟨a, vs, by rw [ev], sqL (l2.fh _ _ ea), q _ F2 H2 l2 ?_⟩
  have w := walk_rev (K := K) (a := a) (xs := vs)
  have hl := r.length
  refine ⟨fun H s => ?_, fun i x H e s => w.goes i H ?_ (sqL (s _ _ ea)), fun i x H v H' e s y F1 s1 s2 => ?_⟩
  · have := w.stops H (sqL (s _ _ ea))
    rw [hl] at this
    rw [List.length_reverse, hl]
    exact this
  · rw [hl]
    have := (List.getElem?_eq_some_iff.mp e).1
    simpa using this
  · have hi : i < xs.length := by
      have := (List.getElem?_eq_some_iff.mp e).1
      simpa using this
    obtain ⟨rfl, y2⟩ := w.yields i H v H' (by rw [hl]; exact hi) (sqL (s _ _ ea)) y
    rw [List.getElem?_reverse hi] at e
    obtain ⟨v', ev', rv⟩ := r.get e
    rw [hl, ev'] at y2
    cases y2
    exact ⟨F1, .refl s2, Rep.mono s1 rv⟩
theorem ei_zip {ta tb : TE} {ma : Option (List α)} {mb : Option (List β)} (ha : EV ta σ F H ma) (hb : EV tb σ F H mb) :
    EI (iZip K (tCons ta (tCons tb tNil))) σ F H (ma.bind fun a => mb.bind fun b => some (a.zip b)) := fun F1 H1 l zs e R q => by
  obtain ⟨xs, en, e⟩ := Option.bind_eq_some_iff.mp e
  obtain ⟨ys, eb, e⟩ := Option.bind_eq_some_iff.mp e
  cases e
  refine ha F1 H1 l xs en _ fun v F2 H2 l2 ⟨a, vs, ev, ea, r⟩ => hb F2 H2 (l.trans l2) ys eb _ fun w F3 H3 l3 ⟨b, ws, ew, eb, r3⟩ => ⟨a, b, vs, ws, by rw [ev, ew], sqL (l3.fh _ _ (l3.f _ _ ea)), sqL (l3.fh _ _ eb), q _ F3 H3 (l2.trans l3) ?_⟩
  have w := walk_zip (K := K) (a := a) (b := b) (xs := vs) (ys := ws) rfl
  have ea := l3.f _ _ ea
  have r := rpL.mono l3.f r
  have h1 := r.length
  have h2 := r3.length
  refine ⟨fun H s => ?_, fun i x H e s => w.goes i H ?_ ⟨sqL (s _ _ ea), sqL (s _ _ eb)⟩, fun i x H v H' e s y F1 s1 s2 => ?_⟩
  · have := w.stops H ⟨sqL (s _ _ ea), sqL (s _ _ eb)⟩
    rw [List.length_zip, ← h1, ← h2]
    exact this
  · have := (List.getElem?_eq_some_iff.mp e).1
    rw [List.length_zip] at this
    rw [h1, h2]
    exact this
  · have hi := (List.getElem?_eq_some_iff.mp e).1
    rw [List.length_zip] at hi
    obtain ⟨T, x1, y1, rfl, hT, rfl, e1, e2⟩ := w.yields i H v H' (by rw [h1, h2]; exact hi) ⟨sqL (s _ _ ea), sqL (s _ _ eb)⟩ y
    obtain ⟨u1, eu1⟩ : ∃ u, xs[i]? = some u := ⟨xs[i], by simp [show i < xs.length by omega]⟩
    obtain ⟨u2, eu2⟩ : ∃ u, ys[i]? = some u := ⟨ys[i], by simp [show i < ys.length by omega]⟩
    have ex : x = (u1, u2) := by
      have z : (xs.zip ys)[i]? = some (u1, u2) := by
        rw [List.getElem?_zip_eq_some]
        exact ⟨eu1, eu2⟩
      rw [z] at e
      exact (Option.some.inj e).symm
    subst ex
    obtain ⟨v1, ev1, rv1⟩ := r.get eu1
    obtain ⟨v2, ev2, rv2⟩ := r3.get eu2
    dsimp only at e1 e2
    rw [ev1] at e1
    rw [ev2] at e2
    cases e1
    cases e2
    refine ⟨upd F1 T (.tup [x1, y1]), .new s2 hT, T, x1, y1, rfl, upd_same, ?_, ?_⟩
    · exact Rep.mono (s1.trans (same_upd (s2.free hT))) rv1
    · exact Rep.mono (s1.trans (same_upd (s2.free hT))) rv2

/-! ### targets -/
theorem gt_name {i : Nat} {v : V} {Q : L2.St → Hp → Prop} (h : Q (σ.set i (some v)) H) : gName i v σ H Q := h
theorem gt_pair {i j : Nat} {v : V} {x : α × β} {Q : L2.St → Hp → Prop} (r : rp x v F) (s : Same F H) (h : ∀ v1 v2, rp x.1 v1 F → rp x.2 v2 F → Q ((σ.set i (some v1)).set j (some v2)) H) :
    gTup K 2 (gCons (gName i) (gCons (gName j) gNil)) v σ H Q := by
  obtain ⟨a, v1, v2, rfl, e, r1, r2⟩ := r
  exact ⟨a, [v1, v2], rfl, sqT (s _ _ e), rfl, v1, [v2], rfl, v2, [], rfl, rfl, h v1 v2 r1 r2⟩

/-! ### loops -/
def tLoop (J : It) (g : TG) (tb : TS) : TS := fun D σ H1 => ∃ W : Nat → Nat → L2.St → Hp → Prop, (∃ m, W 0 m σ H1) ∧ ∀ i m σ H, W i m σ H →
  (J.stop i H ∧ D.nx σ H) ∨ (J.go i H ∧ ∃ N : L2.St → Hp → Prop, (∀ σ' H', N σ' H' → ∃ m', m' < m ∧ W (i + 1) m' σ' H') ∧ ∀ x H', J.yld i H x H' → g x σ H' fun σ2 H2 => tb { D with nx := N, ct := N, bk := D.nx } σ2 H2)
theorem rd_for {wi : TI} {g : TG} {tb u : TS} {D : Ends} {r : R} {mi : Option (List α)} {k : List α → Option R} (hF : Same F H) (ei : EI wi σ F H mi) (hm : mi.bind k = some r)
    (c : ∀ xs J F1 H1, k xs = some r → Lat F H F1 H1 → Wk J xs F1 → tLoop J g tb { D with nx := u D } σ H1) : tSeq (tFor wi g tb) u D σ H := by
  obtain ⟨xs, e1, e2⟩ := Option.bind_eq_some_iff.mp hm
  exact ei F H (.refl hF) xs e1 _ fun J F1 H1 l w => c xs J F1 H1 e2 l w
theorem rd_forL {wi : TI} {g : TG} {tb : TS} {D : Ends} {r : R} {mi : Option (List α)} {k : List α → Option R} (hF : Same F H) (ei : EI wi σ F H mi) (hm : mi.bind k = some r)
    (c : ∀ xs J F1 H1, k xs = some r → Lat F H F1 H1 → Wk J xs F1 → tLoop J g tb D σ H1) : tFor wi g tb D σ H := by
  obtain ⟨xs, e1, e2⟩ := Option.bind_eq_some_iff.mp hm
  exact ei F H (.refl hF) xs e1 _ fun J F1 H1 l w => c xs J F1 H1 e2 l w
theorem rd_loopG {J : It} {g : TG} {tb : TS} {D : Ends} {r : R} {xs : List α} {f : S → α → Option S} {s0 : S} {k : S → Option R} (wk : Wk J xs F) (hm : (loopG f s0 xs).bind k = some r)
    (P : S → L2.St → Hp → Hp → Prop) (h0 : P s0 σ F H) (hS : ∀ s σ' F' H', P s σ' F' H' → Same F F' ∧ Same F' H')
    (hb : ∀ x s σ' F' H' v F2 H2, P s σ' F' H' → Lat F' H' F2 H2 → rp x v F2 → ∀ s', f s x = some s' → ∀ (D' : Ends), (∀ σ3 F3 H3, P s' σ3 F3 H3 → D'.nx σ3 H3) → g v σ' H2 fun σ2 H3 => tb D' σ2 H3)
    (hd : ∀ s σ' F' H', k s = some r → P s σ' F' H' → D.nx σ' H') : tLoop J g tb D σ H := by
  refine ⟨fun i m σ' H' => m = xs.length - i ∧ i ≤ xs.length ∧ ∃ s F', P s σ' F' H' ∧ (loopG f s (xs.drop i)).bind k = some r, ⟨xs.length, by simp, Nat.zero_le _, s0, F, h0, by simpa using hm⟩, ?_⟩
  rintro i m σ' H' ⟨rfl, hi, s, F', hP, hl⟩
  obtain ⟨s1, s2⟩ := hS _ _ _ _ hP
  by_cases hlt : i < xs.length
  · have ex : xs[i]? = some xs[i] := by simp [hlt]
    rw [List.drop_eq_getElem_cons hlt] at hl
    obtain ⟨sE, hl, hk⟩ := Option.bind_eq_some_iff.mp hl
    obtain ⟨s', h1, h2⟩ := Option.bind_eq_some_iff.mp (show (f s xs[i]).bind (fun s' => loopG f s' (xs.drop (i + 1))) = some sE from hl)
    refine .inr ⟨wk.go i _ H' ex (s1.trans s2), fun σ3 H3 => ∃ F3, P s' σ3 F3 H3, fun σ3 H3 ⟨F3, hp⟩ => ⟨xs.length - (i + 1), by omega, rfl, hlt, s', F3, hp, Option.bind_eq_some_iff.mpr ⟨sE, h2, hk⟩⟩, fun v H2 y => ?_⟩
    obtain ⟨F2, l2, rv⟩ := wk.yld i _ H' v H2 ex (s1.trans s2) y F' s1 s2
    exact hb _ s σ' F' H' v F2 H2 hP l2 rv s' h1 _ fun σ3 F3 H3 hp => ⟨F3, hp⟩
  · have e : i = xs.length := by omega
    subst e
    rw [List.drop_length] at hl
    exact .inl ⟨wk.stop H' (s1.trans s2), hd s σ' F' H' hl hP⟩
/-- with a return in the body: E tells what a return may hand back -/
theorem rd_loopR {J : It} {g : TG} {tb : TS} {D : Ends} {r : T} {xs : List α} {f : S → α → Option (Stp S R)} {s0 : S} {k : S → Option T} {k' : R → Option T} (wk : Wk J xs F) (hm : (loopR f s0 xs).bind (fun st => st.elim k k') = some r)
    (P : S → L2.St → Hp → Hp → Prop) (h0 : P s0 σ F H) (hS : ∀ s σ' F' H', P s σ' F' H' → Same F F' ∧ Same F' H')
    (hb : ∀ x s σ' F' H' v F2 H2, P s σ' F' H' → Lat F' H' F2 H2 → rp x v F2 → ∀ st, f s x = some st → ∀ (D' : Ends), D'.rt = D.rt → (∀ s', st = .go s' → ∀ σ3 F3 H3, P s' σ3 F3 H3 → D'.nx σ3 H3) → (∀ y, st = .ret y → k' y = some r) → g v σ' H2 fun σ2 H3 => tb D' σ2 H3)
    (hd : ∀ s σ' F' H', k s = some r → P s σ' F' H' → D.nx σ' H') : tLoop J g tb D σ H := by
  refine ⟨fun i m σ' H' => m = xs.length - i ∧ i ≤ xs.length ∧ ∃ s F', P s σ' F' H' ∧ (loopR f s (xs.drop i)).bind (fun st => st.elim k k') = some r, ⟨xs.length, by simp, Nat.zero_le _, s0, F, h0, by simpa using hm⟩, ?_⟩
  rintro i m σ' H' ⟨rfl, hi, s, F', hP, hl⟩
  obtain ⟨s1, s2⟩ := hS _ _ _ _ hP
  by_cases hlt : i < xs.length
  · have ex : xs[i]? = some xs[i] := by simp [hlt]
    rw [List.drop_eq_getElem_cons hlt] at hl
    obtain ⟨sE, hl, hk⟩ := Option.bind_eq_some_iff.mp hl
    obtain ⟨st, h1, h2⟩ := Option.bind_eq_some_iff.mp (show (f s xs[i]).bind (fun st => st.elim (fun s' => loopR f s' (xs.drop (i + 1))) fun y => some (.ret y)) = some sE from hl)
    refine .inr ⟨wk.go i _ H' ex (s1.trans s2), fun σ3 H3 => ∃ s' F3, st = .go s' ∧ P s' σ3 F3 H3, fun σ3 H3 ⟨s', F3, es, hp⟩ => ⟨xs.length - (i + 1), by omega, rfl, hlt, s', F3, hp, Option.bind_eq_some_iff.mpr ⟨sE, by subst es; exact h2, hk⟩⟩, fun v H2 y => ?_⟩
    obtain ⟨F2, l2, rv⟩ := wk.yld i _ H' v H2 ex (s1.trans s2) y F' s1 s2
    refine hb _ s σ' F' H' v F2 H2 hP l2 rv st h1 _ rfl (fun s' es σ3 F3 H3 hp => ⟨s', F3, es, hp⟩) fun y ey => ?_
    subst ey
    cases h2
    exact hk
  · have e : i = xs.length := by omega
    subst e
    rw [List.drop_length] at hl
    exact .inl ⟨wk.stop H' (s1.trans s2), hd s σ' F' H' hl hP⟩
theorem rd_whileG {tc : TT} {tb u : TS} {D : Ends} {r : R} {n : Nat} {c : S → Option Bool} {f : S → Option S} {s0 : S} {k : S → Option R} (hm : (whileG c f n s0).bind k = some r)
    (P : S → L2.St → Hp → Hp → Prop) (h0 : P s0 σ F H) (hS : ∀ s σ' F' H', P s σ' F' H' → Same F' H')
    (hc : ∀ s σ' F' H', P s σ' F' H' → EVT tc σ' F' H' (c s))
    (hb : ∀ s σ' F' H' F2 H2, P s σ' F' H' → Lat F' H' F2 H2 → ∀ s', f s = some s' → ∀ (D' : Ends), (∀ σ3 F3 H3, P s' σ3 F3 H3 → D'.nx σ3 H3) → tb D' σ' H2)
    (hd : ∀ s σ' F' H' F2 H2, k s = some r → P s σ' F' H' → Lat F' H' F2 H2 → u D σ' H2) : tSeq (tWhile tc tb) u D σ H := by
  refine ⟨fun m σ' H' => ∃ s F', P s σ' F' H' ∧ (whileG c f m s).bind k = some r, ⟨n, s0, F, h0, hm⟩, ?_⟩
  rintro m σ' H' ⟨s, F', hP, hl⟩
  cases m with
  | zero => cases hl
  | succ m =>
    obtain ⟨sE, hl, hk⟩ := Option.bind_eq_some_iff.mp hl
    obtain ⟨b, h1, h2⟩ := Option.bind_eq_some_iff.mp (show (c s).bind (fun b => if b then (f s).bind fun s' => whileG c f m s' else some s) = some sE from hl)
    refine hc s σ' F' H' hP F' H' (.refl (hS _ _ _ _ hP)) b h1 _ fun F2 H2 l2 => ?_
    cases b with
    | true =>
      refine iteT ?_
      obtain ⟨s', h3, h4⟩ := Option.bind_eq_some_iff.mp (show (f s).bind (fun s' => whileG c f m s') = some sE from h2)
      exact ⟨fun σ3 H3 => ∃ F3, P s' σ3 F3 H3, fun σ3 H3 ⟨F3, hp⟩ => ⟨m, Nat.lt_succ_self m, s', F3, hp, Option.bind_eq_some_iff.mpr ⟨sE, h4, hk⟩⟩, hb s σ' F' H' F2 H2 hP l2 s' h3 _ fun σ3 F3 H3 hp => ⟨F3, hp⟩⟩
    | false =>
      have e : s = sE := Option.some.inj h2
      subst e
      exact iteF (hd s σ' F' H' F2 H2 hk hP l2)
theorem rd_whileR {tc : TT} {tb u : TS} {D : Ends} {r : T} {n : Nat} {c : S → Option Bool} {f : S → Option (Stp S R)} {s0 : S} {k : S → Option T} {k' : R → Option T} (hm : (whileR c f n s0).bind (fun st => st.elim k k') = some r)
    (P : S → L2.St → Hp → Hp → Prop) (h0 : P s0 σ F H) (hS : ∀ s σ' F' H', P s σ' F' H' → Same F' H')
    (hc : ∀ s σ' F' H', P s σ' F' H' → EVT tc σ' F' H' (c s))
    (hb : ∀ s σ' F' H' F2 H2, P s σ' F' H' → Lat F' H' F2 H2 → ∀ st, f s = some st → ∀ (D' : Ends), D'.rt = D.rt → (∀ s', st = .go s' → ∀ σ3 F3 H3, P s' σ3 F3 H3 → D'.nx σ3 H3) → (∀ y, st = .ret y → k' y = some r) → tb D' σ' H2)
    (hd : ∀ s σ' F' H' F2 H2, k s = some r → P s σ' F' H' → Lat F' H' F2 H2 → u D σ' H2) : tSeq (tWhile tc tb) u D σ H := by
  refine ⟨fun m σ' H' => ∃ s F', P s σ' F' H' ∧ (whileR c f m s).bind (fun st => st.elim k k') = some r, ⟨n, s0, F, h0, hm⟩, ?_⟩
  rintro m σ' H' ⟨s, F', hP, hl⟩
  cases m with
  | zero => cases hl
  | succ m =>
    obtain ⟨sE, hl, hk⟩ := Option.bind_eq_some_iff.mp hl
    obtain ⟨b, h1, h2⟩ := Option.bind_eq_some_iff.mp (show (c s).bind (fun b => if b then (f s).bind fun st => st.elim (fun s' => whileR c f m s') (fun y => some (.ret y)) else some (.go s)) = some sE from hl)
    refine hc s σ' F' H' hP F' H' (.refl (hS _ _ _ _ hP)) b h1 _ fun F2 H2 l2 => ?_
    cases b with
    | true =>
      refine iteT ?_
      obtain ⟨st, h3, h4⟩ := Option.bind_eq_some_iff.mp (show (f s).bind (fun st => st.elim (fun s' => whileR c f m s') fun y => some (.ret y)) = some sE from h2)
      refine ⟨fun σ3 H3 => ∃ s' F3, st = .go s' ∧ P s' σ3 F3 H3, fun σ3 H3 ⟨s', F3, es, hp⟩ => ⟨m, Nat.lt_succ_self m, s', F3, hp, Option.bind_eq_some_iff.mpr ⟨sE, by subst es; exact h4, hk⟩⟩, hb s σ' F' H' F2 H2 hP l2 st h3 _ rfl (fun s' es σ3 F3 H3 hp => ⟨s', F3, es, hp⟩) fun y ey => ?_⟩
      subst ey
      cases h4
      exact hk
    | false =>
      have e : Stp.go s = sE := Option.some.inj h2
      subst e
      exact iteF (hd s σ' F' H' F2 H2 hk hP l2)

/-! ### comprehensions -/
theorem evn_lc {wi : TI} {g : TG} {tt : TT} {te : TE} {vs : List Nat} {mi : Option (List α)} {c : α → Option Bool} {f : α → Option β} (ei : EI wi σ F H mi)
    (hg : ∀ x v F1 H1 (Q : L2.St → Hp → Prop), Lat F H F1 H1 → rp x v F1 → (∀ σ2, wipe σ2 vs = wipe σ vs → EVT tt σ2 F1 H1 (c x) → EV te σ2 F1 H1 (f x) → Q σ2 H1) → g v (wipe σ vs) H1 Q) :
    EVN (tLc wi g tt te vs) σ F H (mi.bind fun xs => lc c f xs) := fun F1 H1 l ys e Q q => by
  obtain ⟨xs, exs, e⟩ := Option.bind_eq_some_iff.mp e
  unfold lc at e
  split at e
  · rename_i hlen
    refine ei F1 H1 l xs exs _ fun J F2 H2 l2 wk D hD => ?_
    have fD : F2 D = none := l2.fh.free hD
    refine ⟨fun i m H' => m = xs.length - i ∧ i ≤ xs.length ∧ ∃ (acc : List V) (as zs : List β) (F' : Hp), Lat F2 H2 F' H' ∧ F' D = none ∧ H' D = some (.lst acc) ∧ rpL as acc F' ∧ as.length ≤ i ∧ lcG c f (xs.drop i) = some zs ∧ ys = as ++ zs,
      ⟨xs.length, by simp, Nat.zero_le _, [], [], ys, F2, .made l2.fh hD, fD, upd_same, trivial, Nat.zero_le _, by simpa using e, rfl⟩, ?_⟩
    rintro i m H' ⟨rfl, hi, acc, as, zs, F', l3, f3, h3, r3, len3, e3, rfl⟩
    have s1 := l3.f
    have s2 := l3.fh
    by_cases hlt : i < xs.length
    · have ex : xs[i]? = some xs[i] := by simp [hlt]
      rw [List.drop_eq_getElem_cons hlt] at e3
      obtain ⟨b, eb, e4⟩ := Option.bind_eq_some_iff.mp (show (c xs[i]).bind (fun b => if b then (f xs[i]).bind fun y => (lcG c f (xs.drop (i + 1))).bind fun ys => some (y :: ys) else lcG c f (xs.drop (i + 1))) = some zs from e3)
      refine .inr ⟨wk.go i _ H' ex (s1.trans s2), fun H' => i + 1 ≤ xs.length ∧ ∃ (acc : List V) (as' zs' : List β) (F' : Hp), Lat F2 H2 F' H' ∧ F' D = none ∧ H' D = some (.lst acc) ∧ rpL as' acc F' ∧ as'.length ≤ i + 1 ∧ lcG c f (xs.drop (i + 1)) = some zs' ∧ as ++ zs = as' ++ zs',
        fun H4 h4 => ⟨xs.length - (i + 1), by omega, rfl, h4⟩, fun v H4 y => ?_⟩
      obtain ⟨F4, l4, rv⟩ := wk.yld i _ H' v H4 ex (s1.trans s2) y F' s1 s2
      have lAll := (l2.trans l3).trans l4
      refine hg _ v F4 H4 _ (l.trans lAll) rv fun σ2 hw ht he => ⟨hw, ?_⟩
      refine ht F4 H4 (.refl l4.fh) b eb _ fun F5 H5 l5 => ?_
      have hD5 : H5 D = some (.lst acc) := l5.h _ _ (l4.h _ _ h3)
      have fD5 : F5 D = none := l5.nwl (l4.h _ _ h3) (l4.nwl h3 f3)
      have r5 : rpL as acc F5 := rpL.mono (l4.f.trans l5.f) r3
      cases b with
      | true =>
        refine iteT ?_
        obtain ⟨y1, ey1, e5⟩ := Option.bind_eq_some_iff.mp (show (f xs[i]).bind (fun y => (lcG c f (xs.drop (i + 1))).bind fun ys => some (y :: ys)) = some zs from e4)
        obtain ⟨zs', ez, e6⟩ := Option.bind_eq_some_iff.mp e5
        cases e6
        refine he F5 H5 l5 y1 ey1 _ fun w F6 H6 l6 rw' => ⟨acc, l6.h _ _ hD5, sz_lt (by rw [r5.length]; omega), ?_⟩
        have fD6 : F6 D = none := l6.nwl hD5 fD5
        refine ⟨hlt, acc ++ [w], as ++ [y1], zs', F6, ((l3.trans l4).trans (l5.trans l6)).put hD fD6, fD6, upd_same, ?_, ?_, ez, by simp⟩
        · exact rpL.append (rpL.mono l6.f r5) ⟨rw', trivial⟩
        · rw [List.length_append, List.length_singleton]
          omega
      | false =>
        refine iteF ⟨hlt, acc, as, zs, F5, (l3.trans l4).trans l5, fD5, hD5, r5, by omega, e4, rfl⟩
    · have ei : i = xs.length := by omega
      subst ei
      rw [List.drop_length] at e3
      have ez : zs = [] := (Option.some.inj e3).symm
      subst ez
      rw [List.append_nil] at q
      exact .inl ⟨wk.stop H' (s1.trans s2), q D acc F' H' (l2.trans l3) (l2.h.free hD) f3 h3 r3⟩
  · cases e
theorem evt_yes : EVT tYes σ F H (some true) := fun F1 H1 l x e Q q => by
  cases e
  exact q F1 H1 (.refl l.fh)

/-! ### statements -/
variable {te : TE} {u : TS} {D : Ends} {r : R} {i : Nat}
theorem rd_asg {m : Option α} {k : α → Option R} (hF : Same F H) (ev : EV te σ F H m) (hm : m.bind k = some r) (c : ∀ x v F1 H1, k x = some r → Lat F H F1 H1 → rp x v F1 → u D (σ.set i (some v)) H1) : tSeq (tAsg te (gName i)) u D σ H := by
  obtain ⟨x, e1, e2⟩ := Option.bind_eq_some_iff.mp hm
  exact ev F H (.refl hF) x e1 _ fun v F1 H1 l rv => c x v F1 H1 e2 l rv
theorem rd_asgL {m : Option α} {k : α → Option R} (hF : Same F H) (ev : EV te σ F H m) (hm : m.bind k = some r) (c : ∀ x v F1 H1, k x = some r → Lat F H F1 H1 → rp x v F1 → D.nx (σ.set i (some v)) H1) : tAsg te (gName i) D σ H := by
  obtain ⟨x, e1, e2⟩ := Option.bind_eq_some_iff.mp hm
  exact ev F H (.refl hF) x e1 _ fun v F1 H1 l rv => c x v F1 H1 e2 l rv
/-- a new list that will change -/
theorem rd_asgN {m : Option (List α)} {k : List α → Option R} (hF : Same F H) (ev : EVN te σ F H m) (hm : m.bind k = some r)
    (c : ∀ xs p vs F1 H1, k xs = some r → Lat F H F1 H1 → H p = none → F1 p = none → H1 p = some (.lst vs) → rpL xs vs F1 → u D (σ.set i (some (.ref p))) H1) : tSeq (tAsg te (gName i)) u D σ H := by
  obtain ⟨x, e1, e2⟩ := Option.bind_eq_some_iff.mp hm
  exact ev F H (.refl hF) x e1 _ fun p vs F1 H1 l h1 h2 h3 rv => c x p vs F1 H1 e2 l h1 h2 h3 rv
theorem rd_asg2 {j : Nat} {m : Option (α × β)} {k : α × β → Option R} (hF : Same F H) (ev : EV te σ F H m) (hm : m.bind k = some r)
    (c : ∀ x v w F1 H1, k x = some r → Lat F H F1 H1 → rp x.1 v F1 → rp x.2 w F1 → u D ((σ.set i (some v)).set j (some w)) H1) : tSeq (tAsg te (gTup K 2 (gCons (gName i) (gCons (gName j) gNil)))) u D σ H := by
  obtain ⟨x, e1, e2⟩ := Option.bind_eq_some_iff.mp hm
  exact ev F H (.refl hF) x e1 _ fun v F1 H1 l rv => gt_pair rv l.fh fun v1 v2 r1 r2 => c x v1 v2 F1 H1 e2 l r1 r2
theorem rd_ret {m : Option α} {k : α → Option R} (hF : Same F H) (ev : EV te σ F H m) (hm : m.bind k = some r) (c : ∀ x v F1 H1, k x = some r → Lat F H F1 H1 → rp x v F1 → D.rt v H1) : tRet te D σ H := by
  obtain ⟨x, e1, e2⟩ := Option.bind_eq_some_iff.mp hm
  exact ev F H (.refl hF) x e1 _ fun v F1 H1 l rv => c x v F1 H1 e2 l rv
theorem rd_ret0 {m : Option α} {x : α} (hF : Same F H) (ev : EV te σ F H m) (hm : m = some x) (c : ∀ v F1 H1, Lat F H F1 H1 → rp x v F1 → D.rt v H1) : tRet te D σ H :=
  ev F H (.refl hF) x hm _ fun v F1 H1 l rv => c v F1 H1 l rv
theorem rd_retN {m : Option (List α)} {x : List α} (hF : Same F H) (ev : EVN te σ F H m) (hm : m = some x) (c : ∀ p vs F1 H1, Lat F H F1 H1 → H p = none → F1 p = none → H1 p = some (.lst vs) → rpL x vs F1 → D.rt (.ref p) H1) : tRet te D σ H :=
  ev F H (.refl hF) x hm _ fun p vs F1 H1 l h1 h2 h3 rv => c p vs F1 H1 l h1 h2 h3 rv
theorem rd_if {c : TT} {t1 t2 : TS} {m : Option Bool} {A B : Option R} (hF : Same F H) (ev : EVT c σ F H m) (hm : (m.bind fun b => if b then A else B) = some r)
    (ct : ∀ F1 H1, m = some true → A = some r → Lat F H F1 H1 → t1 D σ H1) (cf : ∀ F1 H1, m = some false → B = some r → Lat F H F1 H1 → t2 D σ H1) : tIfS c t1 t2 D σ H := by
  obtain ⟨b, e1, e2⟩ := Option.bind_eq_some_iff.mp hm
  refine ev F H (.refl hF) b e1 _ fun F1 H1 l => ?_
  cases b with
  | true => exact iteT (ct F1 H1 e1 e2 l)
  | false => exact iteF (cf F1 H1 e1 e2 l)
theorem rd_seq {t1 t2 : TS} (h : t1 { D with nx := t2 D } σ H) : tSeq t1 t2 D σ H := h
theorem at_st {t : TS} {σ' : L2.St} (e : σ' = σ) (h : t D σ H) : t D σ' H := by
  rw [e]
  exact h
theorem nx_with {D : Ends} {N : L2.St → Hp → Prop} (h : N σ H) : ({ D with nx := N } : Ends).nx σ H := h
theorem rd_next (h : D.nx σ H) : tNext D σ H := h
/-- an if whose both ways go on -/
theorem rd_join {c : TT} {t1 t2 : TS} {m : Option S} {k : S → Option R} (P : S → L2.St → Hp → Hp → Prop) (hm : m.bind k = some r)
    (h1 : ∀ s, m = some s → ∀ D' : Ends, (∀ σ3 F3 H3, P s σ3 F3 H3 → D'.nx σ3 H3) → tIfS c t1 t2 D' σ H) (h2 : ∀ s σ' F' H', k s = some r → P s σ' F' H' → u D σ' H') : tSeq (tIfS c t1 t2) u D σ H := by
  obtain ⟨s, e1, e2⟩ := Option.bind_eq_some_iff.mp hm
  exact h1 s e1 _ fun σ3 F3 H3 hp => h2 s σ3 F3 H3 e2 hp
/-- e alone -/
theorem rd_drop {m : Option α} {k : α → Option R} (hF : Same F H) (ev : EV te σ F H m) (hm : m.bind k = some r) (c : ∀ x F1 H1, k x = some r → Lat F H F1 H1 → u D σ H1) : tSeq (tDrop te) u D σ H := by
  obtain ⟨x, e1, e2⟩ := Option.bind_eq_some_iff.mp hm
  exact ev F H (.refl hF) x e1 _ fun v F1 H1 l _ => c x F1 H1 e2 l
/-- an owned list changed -/
structure Mt (p : Addr) (F H F' H' : Hp) : Prop where
  f : Same F F'
  fh : Same F' H'
  l0 : ∀ F0 H0, Lat F0 H0 F H → H0 p = none → Lat F0 H0 F' H'
  h : ∀ q o, q ≠ p → H q = some o → H' q = some o
  nw : ∀ q o, H q = some o → Chg o → F q = none → F' q = none
theorem Mt.nwl {p : Addr} {F H F' H' : Hp} (m : Mt p F H F' H') {a : Addr} {vs : List V} (e : H a = some (.lst vs)) (f : F a = none) : F' a = none := m.nw a _ e trivial f
theorem Mt.of {p : Addr} {F H F1 H1 : Hp} {o : HO} (l : Lat F H F1 H1) (fp : F1 p = none) : Mt p F H F1 (upd H1 p o) := by
  refine ⟨l.f, fun a u e => ?_, fun F0 H0 l0 h0 => (l0.trans l).put h0 fp, fun q u n e => ?_, l.nw⟩
  · rw [upd_ne (ne_of_none e fp)]
    exact l.fh _ _ e
  · rw [upd_ne n]
    exact l.h _ _ e
/-- xs.append(e) -/
theorem rd_appendL {p : Addr} {xs : List α} {vs : List V} {m : Option α} {k : List α → Option R} {j : Nat} (hF : Same F H) (hj : σ[j]? = some (some (.ref p))) (hp : H p = some (.lst vs)) (fp : F p = none) (rl : rpL xs vs F) (ev : EV te σ F H m)
    (hm : (m.bind fun y => addL xs y).bind k = some r)
    (c : ∀ ys ws F1 H1, k ys = some r → Mt p F H F1 H1 → F1 p = none → H1 p = some (.lst ws) → rpL ys ws F1 → D.nx σ H1) : tDrop (tBM K "list" rAppend (tVar j) (tCons te tNil)) D σ H := by
  obtain ⟨ys, e1, e2⟩ := Option.bind_eq_some_iff.mp hm
  obtain ⟨y, e3, e4⟩ := Option.bind_eq_some_iff.mp e1
  unfold addL at e4
  split at e4
  · rename_i hlen
    cases e4
    refine ⟨.ref p, hj, .inl ⟨rfl, vs, sqL hp⟩, ?_⟩
    refine ev F H (.refl hF) y e3 _ fun v F1 H1 l rv => ?_
    have fp1 := l.nwl hp fp
    exact ⟨p, vs, v, rfl, rfl, l.h _ _ hp, sz_lt (by rw [rl.length]; exact hlen), c _ (vs ++ [v]) F1 _ e2 (Mt.of l fp1) fp1 upd_same (rpL.append (rpL.mono l.f rl) ⟨rv, trivial⟩)⟩
  · cases e4
theorem rd_append {p : Addr} {xs : List α} {vs : List V} {m : Option α} {k : List α → Option R} {j : Nat} (hF : Same F H) (hj : σ[j]? = some (some (.ref p))) (hp : H p = some (.lst vs)) (fp : F p = none) (rl : rpL xs vs F) (ev : EV te σ F H m)
    (hm : (m.bind fun y => addL xs y).bind k = some r)
    (c : ∀ ys ws F1 H1, k ys = some r → Mt p F H F1 H1 → F1 p = none → H1 p = some (.lst ws) → rpL ys ws F1 → u D σ H1) : tSeq (tDrop (tBM K "list" rAppend (tVar j) (tCons te tNil))) u D σ H := rd_appendL (D := { D with nx := u D }) hF hj hp fp rl ev hm c
/-- xs[i] = e -/
theorem rd_setL {ti : TE} {p : Addr} {xs : List α} {vs : List V} {m : Option α} {mi : Option Int} {k : List α → Option R} {j : Nat} (hF : Same F H) (hj : σ[j]? = some (some (.ref p))) (hp : H p = some (.lst vs)) (fp : F p = none) (rl : rpL xs vs F) (ev : EV te σ F H m) (ei : EV ti σ F H mi)
    (hm : (m.bind fun y => mi.bind fun i => setZ xs i y).bind k = some r)
    (c : ∀ ys ws F1 H1, k ys = some r → Mt p F H F1 H1 → F1 p = none → H1 p = some (.lst ws) → rpL ys ws F1 → D.nx σ H1) : tAsg te (gSub (tVar j) ti rSetL) D σ H := by
  obtain ⟨ys, e1, e2⟩ := Option.bind_eq_some_iff.mp hm
  obtain ⟨y, e3, e4⟩ := Option.bind_eq_some_iff.mp e1
  obtain ⟨i, e5, e6⟩ := Option.bind_eq_some_iff.mp e4
  unfold setZ at e6
  obtain ⟨n, e7, e8⟩ := Option.bind_eq_some_iff.mp e6
  cases e8
  refine ev F H (.refl hF) y e3 _ fun v F1 H1 l rv => ?_
  refine ⟨.ref p, hj, ei F1 H1 l i e5 _ fun w F2 H2 l2 rw' => ?_⟩
  have hl : vs.length = xs.length := rl.length
  have l12 := l.trans l2
  have fp2 := l12.nwl hp fp
  refine ⟨p, vs, i, n, rfl, rw', l12.h _ _ hp, ?_, c _ (vs.set n v) F2 _ e2 (Mt.of l12 fp2) fp2 upd_same ?_⟩
  · rw [hl]
    exact e7
  · exact rpL.set (up rv l2) n (rpL.mono l12.f rl)
theorem rd_set {ti : TE} {p : Addr} {xs : List α} {vs : List V} {m : Option α} {mi : Option Int} {k : List α → Option R} {j : Nat} (hF : Same F H) (hj : σ[j]? = some (some (.ref p))) (hp : H p = some (.lst vs)) (fp : F p = none) (rl : rpL xs vs F) (ev : EV te σ F H m) (ei : EV ti σ F H mi)
    (hm : (m.bind fun y => mi.bind fun i => setZ xs i y).bind k = some r)
    (c : ∀ ys ws F1 H1, k ys = some r → Mt p F H F1 H1 → F1 p = none → H1 p = some (.lst ws) → rpL ys ws F1 → u D σ H1) : tSeq (tAsg te (gSub (tVar j) ti rSetL)) u D σ H := rd_setL (D := { D with nx := u D }) hF hj hp fp rl ev ei hm c
/-- an owned list is held for known from here on -/
theorem freeze {p : Addr} {xs : List α} {vs : List V} {F0 H0 : Hp} (l0 : Lat F0 H0 F H) (h0 : H0 p = none) (fp : F p = none) (hp : H p = some (.lst vs)) (rl : rpL xs vs F) : ∃ F', Lat F0 H0 F' H ∧ Same F F' ∧ rp xs (.ref p) F' ∧ ∀ q, q ≠ p → F q = none → F' q = none :=
  ⟨upd F p (.lst vs), l0.hold h0 fp hp, same_upd fp, ⟨p, vs, rfl, upd_same, rpL.mono (same_upd fp) rl⟩, fun q n e => by rw [upd_ne n]; exact e⟩
/-- an owned list read -/
theorem own_rp {p : Addr} {xs : List α} {vs : List V} (s : Same F H) (hp : H p = some (.lst vs)) (rl : rpL xs vs F) : rp xs (.ref p) H := ⟨p, vs, rfl, hp, rpL.mono s rl⟩
theorem ev_varF [Flat α] {i : Nat} {x : α} {v : V} {F' : Hp} (h : σ[i]? = some (some v)) (r : rp x v F') : EV (tVar i) σ F H (some x) := ev_var h (Flat.any r)
theorem rd_retO {p : Addr} {j : Nat} (hj : σ[j]? = some (some (.ref p))) (c : D.rt (.ref p) H) : tRet (tVar j) D σ H := ⟨.ref p, hj, c⟩
theorem rd_guard {c : TT} {t1 : TS} {m : Option Bool} {A B : Option R} (hF : Same F H) (ev : EVT c σ F H m) (hm : (m.bind fun b => if b then A else B) = some r)
    (ct : ∀ F1 H1, m = some true → A = some r → Lat F H F1 H1 → t1 { D with nx := u D } σ H1) (cf : ∀ F1 H1, m = some false → B = some r → Lat F H F1 H1 → u D σ H1) : tSeq (tIfS c t1 tNext) u D σ H :=
  rd_if (D := { D with nx := u D }) hF ev hm ct cf
end

/-! ### the promise of a def -/
class RepB (α : Type) extends RepA α where
  n : Nat
  len : ∀ {x : α} {vs : List V} {F : Hp}, ra x vs F → vs.length = n
instance : RepB Unit := ⟨0, fun h => by
  have e : _ = [] := h
  rw [e]
  rfl⟩
instance {α β : Type} [Rep α] [RepB β] : RepB (α × β) := ⟨RepB.n β + 1, fun h => by
  obtain ⟨v, ws, e, h, k⟩ := h
  rw [e, List.length_cons, RepB.len k]⟩
section
variable {δ α β : Type} [RepB δ] [Rep α] [Rep β]
/-- a def that hands back m of its arguments -/
def spO (m : δ → Option β) : Sp := fun vs H Q _ => ∃ (F : Hp) (x : δ) (y : β), Same F H ∧ ra x vs F ∧ m x = some y ∧ ∀ v F' H', Lat F H F' H' → rp y v F' → Q v H'
/-- a def that hands back a new list -/
def spN (m : δ → Option (List β)) : Sp := fun vs H Q _ => ∃ (F : Hp) (x : δ) (y : List β), Same F H ∧ ra x vs F ∧ m x = some y ∧ ∀ p vs F' H', Lat F H F' H' → H p = none → F' p = none → H' p = some (.lst vs) → rpL y vs F' → Q (.ref p) H'
theorem spO_len {m : δ → Option β} {n : Nat} (hn : RepB.n δ = n) : ∀ vs H Q E, spO m vs H Q E → vs.length = n := fun vs H Q E ⟨F, x, y, _, h, _⟩ => (RepB.len h).trans hn
theorem spN_len {m : δ → Option (List β)} {n : Nat} (hn : RepB.n δ = n) : ∀ vs H Q E, spN m vs H Q E → vs.length = n := fun vs H Q E ⟨F, x, y, _, h, _⟩ => (RepB.len h).trans hn
variable {σ : L2.St} {F H : Hp} {ta : TA} {ma : Option δ} {E : XK}
theorem ev_call {m : δ → Option β} (ha : EVA ta σ F H ma) : EV (tCall (spO m) [] E ta) σ F H (ma.bind fun x => m x) := fun F1 H1 l y e Q q => by
  obtain ⟨x, ex, e⟩ := Option.bind_eq_some_iff.mp e
  refine ha F1 H1 l x ex _ fun vs F2 H2 l2 r => ?_
  rw [List.append_nil]
  exact ⟨F2, x, y, l2.fh, r, e, fun v F3 H3 l3 r3 => q v F3 H3 (l2.trans l3) r3⟩
theorem evn_call {m : δ → Option (List β)} (ha : EVA ta σ F H ma) : EVN (tCall (spN m) [] E ta) σ F H (ma.bind fun x => m x) := fun F1 H1 l y e Q q => by
  obtain ⟨x, ex, e⟩ := Option.bind_eq_some_iff.mp e
  refine ha F1 H1 l x ex _ fun vs F2 H2 l2 r => ?_
  rw [List.append_nil]
  exact ⟨F2, x, y, l2.fh, r, e, fun p vs F3 H3 l3 h1 h2 h3 r3 => q p vs F3 H3 (l2.trans l3) (l2.h.free h1) h2 h3 r3⟩

/-! ### calls of built-ins -/
theorem ev_len {t : TE} {K : PySem.W.Frag} {m : Option (List α)} (h : EV t σ F H m) : EV (tCB (fun xs H Q => ∃ p ys, xs = [.ref p] ∧ (SqL K H p ys ∨ SqT K H p ys) ∧ Q (.int ys.length) H) (tCons t tNil)) σ F H (m.bind fun xs => some (xs.length : Int)) := fun F1 H1 l y e Q q => by
  obtain ⟨x, ex, e⟩ := Option.bind_eq_some_iff.mp e
  cases e
  refine h F1 H1 l x ex _ fun v F2 H2 l2 ⟨a, vs, e1, e2, r⟩ => ⟨a, vs, by rw [e1], .inl (sqL (l2.fh _ _ e2)), q _ F2 H2 l2 ?_⟩
  rw [r.length]
  rfl
theorem ev_lenS {t : TE} {K : PySem.W.Frag} {m : Option (Scr K)} (h : EV t σ F H m) : EV (tCB (fun xs H Q => ∃ p ys, xs = [.ref p] ∧ (SqL K H p ys ∨ SqT K H p ys) ∧ Q (.int ys.length) H) (tCons t tNil)) σ F H (m.bind fun xs => some (xs.l.length : Int)) := fun F1 H1 l y e Q q => by
  obtain ⟨x, ex, e⟩ := Option.bind_eq_some_iff.mp e
  cases e
  refine h F1 H1 l x ex _ fun v F2 H2 l2 ⟨a, e1, e2⟩ => ⟨a, _, by rw [e1], .inl (same_l l2.fh e2), q _ F2 H2 l2 ?_⟩
  rw [List.length_map]
  rfl
theorem ev_len2 {t : TE} {K : PySem.W.Frag} {m : Option (α × β)} (h : EV t σ F H m) : EV (tCB (fun xs H Q => ∃ p ys, xs = [.ref p] ∧ (SqL K H p ys ∨ SqT K H p ys) ∧ Q (.int ys.length) H) (tCons t tNil)) σ F H (m.bind fun _ => some (2 : Int)) := fun F1 H1 l y e Q q => by
  obtain ⟨x, ex, e⟩ := Option.bind_eq_some_iff.mp e
  cases e
  exact h F1 H1 l x ex _ fun v F2 H2 l2 ⟨a, v1, v2, e1, e2, r⟩ => ⟨a, [v1, v2], by rw [e1], .inr (sqT (l2.fh _ _ e2)), q _ F2 H2 l2 rfl⟩
theorem evn_list {t : TE} {K : PySem.W.Frag} {m : Option (List α)} (h : EV t σ F H m) : EVN (tCB (fun xs H Q => ∃ p ys, xs = [.ref p] ∧ (SqL K H p ys ∨ SqT K H p ys) ∧ ∀ l, H l = none → Q (.ref l) (upd H l (.lst ys))) (tCons t tNil)) σ F H m := fun F1 H1 l y e Q q =>
  h F1 H1 l y e _ fun v F2 H2 l2 ⟨a, vs, e1, e2, r⟩ => ⟨a, vs, by rw [e1], .inl (sqL (l2.fh _ _ e2)), fun p hp => q p vs F2 _ (l2.trans (.made l2.fh hp)) (l2.h.free hp) (l2.fh.free hp) upd_same r⟩
theorem ev_max2 {ta tb : TE} {ma mb : Option Int} (ha : EV ta σ F H ma) (hb : EV tb σ F H mb) : EV (tCB (fun xs H Q => ∃ i j, xs = [.int i, .int j] ∧ Q (.int (if j > i then j else i)) H) (tCons ta (tCons tb tNil))) σ F H (ma.bind fun i => mb.bind fun j => some (if j > i then j else i)) := fun F1 H1 l y e Q q => by
  obtain ⟨x, ex, e⟩ := Option.bind_eq_some_iff.mp e
  obtain ⟨x2, ex2, e⟩ := Option.bind_eq_some_iff.mp e
  cases e
  exact ha F1 H1 l x ex _ fun v F2 H2 l2 rv => hb F2 H2 (l.trans l2) x2 ex2 _ fun w F3 H3 l3 r3 => ⟨x, x2, by rw [show v = V.int x from rv, show w = V.int x2 from r3], q _ F3 H3 (l2.trans l3) rfl⟩
theorem ev_min2 {ta tb : TE} {ma mb : Option Int} (ha : EV ta σ F H ma) (hb : EV tb σ F H mb) : EV (tCB (fun xs H Q => ∃ i j, xs = [.int i, .int j] ∧ Q (.int (if j < i then j else i)) H) (tCons ta (tCons tb tNil))) σ F H (ma.bind fun i => mb.bind fun j => some (if j < i then j else i)) := fun F1 H1 l y e Q q => by
  obtain ⟨x, ex, e⟩ := Option.bind_eq_some_iff.mp e
  obtain ⟨x2, ex2, e⟩ := Option.bind_eq_some_iff.mp e
  cases e
  exact ha F1 H1 l x ex _ fun v F2 H2 l2 rv => hb F2 H2 (l.trans l2) x2 ex2 _ fun w F3 H3 l3 r3 => ⟨x, x2, by rw [show v = V.int x from rv, show w = V.int x2 from r3], q _ F3 H3 (l2.trans l3) rfl⟩
theorem ev_abs {t : TE} {m : Option Int} (h : EV t σ F H m) : EV (tCB (fun xs H Q => ∃ i, xs = [.int i] ∧ Q (.int (if i < 0 then -i else i)) H) (tCons t tNil)) σ F H (m.bind fun i => some (if i < 0 then -i else i)) := fun F1 H1 l y e Q q => by
  obtain ⟨x, ex, e⟩ := Option.bind_eq_some_iff.mp e
  cases e
  exact h F1 H1 l x ex _ fun v F2 H2 l2 r => ⟨x, by rw [show v = V.int x from r], q _ F2 H2 l2 rfl⟩
theorem ev_intB {t : TE} {m : Option Bool} (h : EV t σ F H m) : EV (tCB (fun xs H Q => (∃ i, xs = [.int i] ∧ Q (.int i) H) ∨ ∃ k, xs = [.bl k] ∧ Q (.int (if k then 1 else 0)) H) (tCons t tNil)) σ F H (m.bind fun k => some (if k then (1 : Int) else 0)) := fun F1 H1 l y e Q q => by
  obtain ⟨x, ex, e⟩ := Option.bind_eq_some_iff.mp e
  cases e
  exact h F1 H1 l x ex _ fun v F2 H2 l2 r => .inr ⟨x, by rw [show v = V.bl x from r], q _ F2 H2 l2 rfl⟩

/-! ### lists -/
theorem evn_cut {t : TE} {K : PySem.W.Frag} {m : Option (List α)} {tl th : TO} {lo hi : Option (Option Int)} (h : EV t σ F H m)
    (hl : ∀ F1 H1, Lat F H F1 H1 → ∀ i, lo = some i → ∀ Q : Option Int → Hp → Prop, (∀ F2 H2, Lat F1 H1 F2 H2 → Q i H2) → tl σ H1 Q)
    (hh : ∀ F1 H1, Lat F H F1 H1 → ∀ i, hi = some i → ∀ Q : Option Int → Hp → Prop, (∀ F2 H2, Lat F1 H1 F2 H2 → Q i H2) → th σ H1 Q) :
    EVN (tSl (rSlL K) t tl th) σ F H (m.bind fun xs => lo.bind fun i => hi.bind fun j => some (cutZ xs i j)) := fun F1 H1 l y e Q q => by
  obtain ⟨x, ex, e⟩ := Option.bind_eq_some_iff.mp e
  obtain ⟨i, ei, e⟩ := Option.bind_eq_some_iff.mp e
  obtain ⟨j, ej, e⟩ := Option.bind_eq_some_iff.mp e
  cases e
  refine h F1 H1 l x ex _ fun v F2 H2 l2 ⟨a, vs, e1, e2, r⟩ => hl F2 H2 (l.trans l2) i ei _ fun F3 H3 l3 => hh F3 H3 ((l.trans l2).trans l3) j ej _ fun F4 H4 l4 => ?_
  have L := (l2.trans l3).trans l4
  refine ⟨a, vs, e1, sqL (l4.h _ _ (l3.h _ _ (l2.fh _ _ e2))), fun p hp => q p _ F4 _ (L.trans (.made l4.fh hp)) (L.h.free hp) (l4.fh.free hp) upd_same ?_⟩
  have hln := r.length
  unfold cutZ cutV
  rw [hln]
  exact rpL.take _ (rpL.drop _ (rpL.mono (l3.f.trans l4.f) r))
theorem po_no : ∀ F1 H1, Lat F H F1 H1 → ∀ i, (some none : Option (Option Int)) = some i → ∀ Q : Option Int → Hp → Prop, (∀ F2 H2, Lat F1 H1 F2 H2 → Q i H2) → tNoPart σ H1 Q := fun F1 H1 l i e Q q => by
  cases e
  exact q F1 H1 (.refl l.fh)
theorem po_at {t : TE} {m : Option Int} (h : EV t σ F H m) : ∀ F1 H1, Lat F H F1 H1 → ∀ i, (m.bind fun x => some (some x)) = some i → ∀ Q : Option Int → Hp → Prop, (∀ F2 H2, Lat F1 H1 F2 H2 → Q i H2) → tPart t σ H1 Q := fun F1 H1 l i e Q q => by
  obtain ⟨x, ex, e⟩ := Option.bind_eq_some_iff.mp e
  cases e
  exact h F1 H1 l x ex _ fun v F2 H2 l2 r => ⟨x, r, q F2 H2 l2⟩
theorem evn_rev {t : TE} {K : PySem.W.Frag} {m : Option (List α)} (h : EV t σ F H m) : EVN (tRevL K t) σ F H (m.bind fun xs => some xs.reverse) := fun F1 H1 l y e Q q => by
  obtain ⟨x, ex, e⟩ := Option.bind_eq_some_iff.mp e
  cases e
  exact h F1 H1 l x ex _ fun v F2 H2 l2 ⟨a, vs, e1, e2, r⟩ => ⟨a, vs, e1, sqL (l2.fh _ _ e2), fun p hp => q p _ F2 _ (l2.trans (.made l2.fh hp)) (l2.h.free hp) (l2.fh.free hp) upd_same r.reverse⟩
theorem rvn_cat (xs ys : List α) : RVN rCat xs ys (catL xs ys) := fun F H v w s ⟨a, vs, e1, e2, r⟩ ⟨b, ws, e3, e4, r2⟩ zs e Q q => by
  unfold catL at e
  split at e
  · rename_i hl
    cases e
    refine ⟨a, b, vs, ws, e1, e3, s _ _ e2, s _ _ e4, sz_ok (by rw [r.length, r2.length]; exact hl), fun p hp => ?_⟩
    exact q p _ F _ (.made s hp) hp (s.free hp) upd_same (rpL.append r r2)
  · cases e
end
end Dw

set_option Elab.async false
set_option linter.all false
set_option maxRecDepth 100000
set_option maxHeartbeats 4000000
/-! The layer, third part: data compared, sorted, asked for their kind; defs as they stand. -/
namespace Dw
open PySem L2 Dv
open Rep (rp)
open RepA (ra)

/-! ### data -/
class Dat (α : Type) [Rep α] [DecidableEq α] where
  enc : α → PyData
  dep : Nat
  dp : ∀ {K : PySem.W.Frag} {x : α} {v : V} {F : Hp}, rp x v F → Dp K F v (enc x)
  lay : ∀ x : α, (enc x).canLay0 = true
  depth : ∀ x : α, (enc x).depth ≤ dep
  eqv : ∀ x y : α, PyData.eqv (enc x) (enc y) = decide (x = y)
instance : Dat Int := ⟨fun i => .int i, 0, fun h => by cases h; exact .int _, fun _ => by simp [PyData.canLay0], fun _ => by simp [PyData.depth], fun x y => by
  simp only [PyData.eqv]
  exact Bool.beq_eq_decide_eq _ _⟩
instance : Dat Bool := ⟨fun i => .bool i, 0, fun h => by cases h; exact .bl _, fun _ => by simp [PyData.canLay0], fun _ => by simp [PyData.depth], fun x y => by
  simp only [PyData.eqv]
  exact Bool.beq_eq_decide_eq _ _⟩
section
variable {α β : Type} [Rep α] [DecidableEq α] [Dat α] [Rep β] [DecidableEq β] [Dat β]
theorem dpAll {K : PySem.W.Frag} {F : Hp} : ∀ {xs : List α} {vs : List V}, rpL xs vs F → DpAll K F vs (xs.map Dat.enc)
  | [], [], _ => .nil
  | _ :: _, _ :: _, h => .cons (Dat.dp h.1) (dpAll h.2)
  | [], _ :: _, h => h.elim
  | _ :: _, [], h => h.elim
theorem layAll : ∀ xs : List α, PyData.canLayAll0 (xs.map Dat.enc) = true
  | [] => by simp [PyData.canLayAll0]
  | x :: xs => by simp [PyData.canLayAll0, Dat.lay x, layAll xs]
theorem depAll : ∀ xs : List α, PyData.depthAll (xs.map Dat.enc) ≤ Dat.dep α
  | [] => by simp [PyData.depthAll]
  | x :: xs => by
    have h1 := Dat.depth x
    have h2 := depAll xs
    simp only [List.map_cons, PyData.depthAll]
    omega
theorem eqvAll : ∀ xs ys : List α, PyData.eqvAll (xs.map Dat.enc) (ys.map Dat.enc) = decide (xs = ys)
  | [], [] => by simp [PyData.eqvAll]
  | [], _ :: _ => by simp [PyData.eqvAll]
  | _ :: _, [] => by simp [PyData.eqvAll]
  | x :: xs, y :: ys => by
    simp only [List.map_cons, PyData.eqvAll, Dat.eqv x y, eqvAll xs ys]
    simp
instance : Dat (List α) := ⟨fun xs => .list (xs.map Dat.enc), Dat.dep α + 1, fun ⟨a, vs, e, h, r⟩ => by rw [e]; exact .lst (sqL h) (dpAll r), fun xs => by
  simp only [PyData.canLay0]
  exact layAll xs, fun xs => by
  simp only [PyData.depth]
  exact Nat.succ_le_succ (depAll xs), fun xs ys => by
  simp only [PyData.eqv]
  exact eqvAll xs ys⟩
instance : Dat (α × β) := ⟨fun x => .tuple [Dat.enc x.1, Dat.enc x.2], max (Dat.dep α) (Dat.dep β) + 1, fun ⟨a, v, w, e, h, r1, r2⟩ => by rw [e]; exact .tup (sqT h) (.cons (Dat.dp r1) (.cons (Dat.dp r2) .nil)), fun x => by
  simp [PyData.canLay0, PyData.canLayAll0, Dat.lay], fun x => by
  have h1 := Dat.depth x.1
  have h2 := Dat.depth x.2
  simp only [PyData.depth, PyData.depthAll]
  omega, fun x y => by
  simp only [PyData.eqv, PyData.eqvAll, Dat.eqv]
  obtain ⟨a, b⟩ := x
  obtain ⟨c, d⟩ := y
  simp⟩
instance : Dat (Duo α β) := ⟨fun x => .list [Dat.enc x.a, Dat.enc x.b], max (Dat.dep α) (Dat.dep β) + 1, fun ⟨a, v, w, e, h, r1, r2⟩ => by rw [e]; exact .lst (sqL h) (.cons (Dat.dp r1) (.cons (Dat.dp r2) .nil)), fun x => by
  simp [PyData.canLay0, PyData.canLayAll0, Dat.lay], fun x => by
  have h1 := Dat.depth x.a
  have h2 := Dat.depth x.b
  simp only [PyData.depth, PyData.depthAll]
  omega, fun x y => by
  simp only [PyData.eqv, PyData.eqvAll, Dat.eqv]
  obtain ⟨a, b⟩ := x
  obtain ⟨c, d⟩ := y
  simp⟩
theorem shaped (x : α) (h : Dat.dep α ≤ 64 := by decide) : SeqAt.shaped (Dat.enc x) = true := by
  have h1 := Dat.depth x
  show ((Dat.enc x).canLay0 && decide ((Dat.enc x).depth ≤ 64)) = true
  rw [Bool.and_eq_true]
  exact ⟨Dat.lay x, decide_eq_true (by omega)⟩
theorem dp_up {K : PySem.W.Frag} {F H : Hp} (s : Same F H) {x : α} {v : V} (h : rp x v F) : Dp K H v (Dat.enc x) := Dat.dp (Rep.mono s h)
theorem rv_eqD {K : PySem.W.Frag} (x y : α) (h : Dat.dep α ≤ 64 := by decide) : RV (rEqD K) x y (some (decide (x = y))) := fun F H v w s rv rw' z e Q q => by
  cases e
  refine ⟨Dat.enc x, Dat.enc y, dp_up s rv, dp_up s rw', shaped x h, shaped y h, q _ F H (.refl s) ?_⟩
  rw [Dat.eqv]
  rfl
theorem rv_neD {K : PySem.W.Frag} (x y : α) (h : Dat.dep α ≤ 64 := by decide) : RV (rNeD K) x y (some (!decide (x = y))) := fun F H v w s rv rw' z e Q q => by
  cases e
  refine ⟨Dat.enc x, Dat.enc y, dp_up s rv, dp_up s rw', shaped x h, shaped y h, q _ F H (.refl s) ?_⟩
  rw [Dat.eqv]
  rfl
theorem any_enc (x : α) : ∀ xs : List α, ((xs.map Dat.enc).any fun z => PyData.eqv z (Dat.enc x)) = decide (x ∈ xs)
  | [] => by simp
  | y :: ys => by
    rw [List.map_cons, List.any_cons, any_enc x ys, Dat.eqv]
    by_cases h : y = x
    · simp [h]
    · have h' : ¬ x = y := fun e => h e.symm
      simp [h, h']
theorem rv_inD {K : PySem.W.Frag} (x : α) (xs : List α) (h : Dat.dep α + 1 ≤ 64 := by decide) : RV (rInD K) x xs (some (memL x xs)) := fun F H v w s rv rw' z e Q q => by
  cases e
  refine ⟨Dat.enc x, xs.map Dat.enc, dp_up s rv, dp_up (α := List α) s rw', shaped x (by omega), shaped (α := List α) xs h, q _ F H (.refl s) ?_⟩
  rw [any_enc]
  rfl
theorem rv_notInD {K : PySem.W.Frag} (x : α) (xs : List α) (h : Dat.dep α + 1 ≤ 64 := by decide) : RV (rNotInD K) x xs (some (!memL x xs)) := fun F H v w s rv rw' z e Q q => by
  cases e
  refine ⟨Dat.enc x, xs.map Dat.enc, dp_up s rv, dp_up (α := List α) s rw', shaped x (by omega), shaped (α := List α) xs h, q _ F H (.refl s) ?_⟩
  rw [any_enc]
  rfl
end
theorem flat_ints (xs : List Int) : (xs.map V.int).all flatV = true := by
  induction xs with
  | nil => rfl
  | cons x xs ih => exact ih
theorem inV_ints (x : Int) : ∀ xs : List Int, inV (.int x) (xs.map V.int) = decide (x ∈ xs)
  | [] => by simp [inV]
  | y :: ys => by
    have ih := inV_ints x ys
    unfold inV at ih ⊢
    rw [List.map_cons, List.any_cons, ih]
    show ((y == x) || _) = _
    by_cases h : y = x
    · simp [h]
    · have h' : ¬ x = y := fun e => h e.symm
      simp [h, h']
theorem rv_inI {K : PySem.W.Frag} (x : Int) (xs : List Int) : RV (rIn K false) x xs (some (memL x xs)) := fun F H v w s rv ⟨a, vs, e1, e2, r⟩ z e Q q => by
  cases e
  cases rv
  rw [rpL_ints r] at e2
  refine ⟨a, _, e1, .inl (sqL (s _ _ e2)), rfl, flat_ints xs, q _ F H (.refl s) ?_⟩
  rw [if_neg Bool.false_ne_true, inV_ints]
  rfl
theorem rv_notInI {K : PySem.W.Frag} (x : Int) (xs : List Int) : RV (rIn K true) x xs (some (!memL x xs)) := fun F H v w s rv ⟨a, vs, e1, e2, r⟩ z e Q q => by
  cases e
  cases rv
  rw [rpL_ints r] at e2
  refine ⟨a, _, e1, .inl (sqL (s _ _ e2)), rfl, flat_ints xs, q _ F H (.refl s) ?_⟩
  rw [if_pos rfl, inV_ints]
  rfl

/-! ### order of pairs, sorting -/
theorem rv_leT {K : PySem.W.Frag} (x y : Int × Int) : RV (rLeT K) x y (some (leP x y)) := fun F H v w s ⟨a, v1, v2, e1, e2, r1, r2⟩ ⟨b, w1, w2, e3, e4, r3, r4⟩ z e Q q => by
  cases e
  cases r1
  cases r2
  cases r3
  cases r4
  refine ⟨a, b, [x.1, x.2], [y.1, y.2], e1, e3, sqT (s _ _ e2), sqT (s _ _ e4), q _ F H (.refl s) ?_⟩
  show V.bl _ = V.bl _
  congr 1
  show (if decide (x.1 = y.1) = true then (if decide (x.2 = y.2) = true then decide (2 ≤ 2) else decide (x.2 ≤ y.2)) else decide (x.1 ≤ y.1)) = leP x y
  unfold leP
  by_cases h1 : x.1 = y.1
  · by_cases h2 : x.2 = y.2
    · simp [h1, h2]
    · simp [h1, h2]
  · simp [h1]
def kOf (F : Hp) : V → Int × Int
  | .ref t => match F t with
    | some (.tup [.int a, .int b]) => (a, b)
    | _ => (0, 0)
  | _ => (0, 0)
theorem kOf_rp {F : Hp} {x : Int × Int} {v : V} (h : rp x v F) : kOf F v = x ∧ ∃ t, v = .ref t ∧ F t = some (.tup [.int x.1, .int x.2]) := by
  obtain ⟨a, v1, v2, e1, e2, r1, r2⟩ := h
  cases r1
  cases r2
  subst e1
  refine ⟨?_, a, rfl, e2⟩
  show (match F a with
    | some (.tup [.int a, .int b]) => (a, b)
    | _ => ((0, 0) : Int × Int)) = x
  rw [e2]
theorem rpL_kOf {F : Hp} : ∀ {xs : List (Int × Int)} {vs : List V}, rpL xs vs F → xs = vs.map (kOf F) ∧ ∀ v ∈ vs, ∃ t, v = .ref t ∧ F t = some (.tup [.int (kOf F v).1, .int (kOf F v).2])
  | [], [], _ => ⟨rfl, fun _ h => by simp at h⟩
  | x :: xs, v :: vs, h => by
    obtain ⟨e, h2⟩ := rpL_kOf h.2
    obtain ⟨e1, t, e2, e3⟩ := kOf_rp h.1
    refine ⟨by rw [List.map_cons, e1, ← e], fun w hw => ?_⟩
    rcases List.mem_cons.mp hw with rfl | hw
    · rw [e1]
      exact ⟨t, e2, e3⟩
    · exact h2 w hw
  | [], _ :: _, h => h.elim
  | _ :: _, [], h => h.elim
theorem rpL_of_kOf {F : Hp} : ∀ {vs : List V}, (∀ v ∈ vs, ∃ t, v = .ref t ∧ F t = some (.tup [.int (kOf F v).1, .int (kOf F v).2])) → rpL (vs.map (kOf F)) vs F
  | [], _ => trivial
  | v :: vs, h => by
    obtain ⟨t, e1, e2⟩ := h v List.mem_cons_self
    exact ⟨⟨t, _, _, e1, e2, rfl, rfl⟩, rpL_of_kOf fun w hw => h w (List.mem_cons_of_mem _ hw)⟩
section
variable {t : TE} {σ : L2.St} {F H : Hp} {K : PySem.W.Frag}
theorem evn_sortP {m : Option (List (Int × Int))} (h : EV t σ F H m) : EVN (tCB (rSortedPO K) (tCons t tNil)) σ F H (m.bind fun xs => some (srt leP xs)) := fun F1 H1 l y e Q q => by
  obtain ⟨xs, ex, e⟩ := Option.bind_eq_some_iff.mp e
  cases e
  refine h F1 H1 l xs ex _ fun v F2 H2 l2 ⟨a, vs, e1, e2, r⟩ => ?_
  obtain ⟨k1, k2⟩ := rpL_kOf r
  refine ⟨a, vs, kOf F2, by rw [e1], sqL (l2.fh _ _ e2), fun x hx => ?_, fun ys p hs hst hp => ?_⟩
  · obtain ⟨t, e3, e4⟩ := k2 x hx
    exact ⟨t, e3, l2.fh _ _ e4⟩
  · have e5 : ys.map (kOf F2) = srt leP xs := by
      refine srt_uniq ordP ?_ ?_
      · rw [k1]
        exact hst.perm.map _
      · rw [List.pairwise_map]
        refine List.Pairwise.imp (fun {x y} (hxy : SrtO.lexB (kOf F2 y) (kOf F2 x) = false) => ?_) hs
        have := SrtO.lexB_no.mp hxy
        unfold leP
        split <;> simp only [decide_eq_true_eq] <;> omega
    refine q p ys F2 _ (l2.trans (.made l2.fh hp)) (l2.h.free hp) (l2.fh.free hp) upd_same ?_
    rw [← e5]
    exact rpL_of_kOf fun v hv => k2 v (hst.perm.mem_iff.mp hv)
theorem evn_sortI {m : Option (List Int)} (h : EV t σ F H m) : EVN (tCB (rSorted K) (tCons t tNil)) σ F H (m.bind fun xs => srtI xs) := fun F1 H1 l y e Q q => by
  obtain ⟨xs, ex, e⟩ := Option.bind_eq_some_iff.mp e
  unfold srtI at e
  split at e
  · rename_i hl
    cases e
    refine h F1 H1 l xs ex _ fun v F2 H2 l2 ⟨a, vs, e1, e2, r⟩ => ?_
    rw [rpL_ints r] at e2
    refine ⟨a, xs, by rw [e1], sqL (l2.fh _ _ e2), hl, fun ns' p hp hs hn => ?_⟩
    have e5 : ns' = srt leI xs := srt_uniq ordI hp (List.Pairwise.imp (fun {a b} h => by unfold leI; exact decide_eq_true h) hs)
    subst e5
    exact q p _ F2 _ (l2.trans (.made l2.fh hn)) (l2.h.free hn) (l2.fh.free hn) upd_same (rpL_ints' _)
  · cases e
end

/-! ### isinstance -/
class Typ (α : Type) [Rep α] where
  name : String
  ty : ∀ {K : PySem.W.Frag} {x : α} {v : V} {F : Hp}, rp x v F → TyX K F v (.type name)
instance : Typ Int := ⟨"int", fun h => by cases h; exact .base (.int _)⟩
instance : Typ Bool := ⟨"bool", fun h => by cases h; exact .base (.bl _)⟩
instance : Typ Str := ⟨"str", fun h => by cases h; exact .base (.str _)⟩
instance {α : Type} [Rep α] : Typ (List α) := ⟨"list", fun ⟨a, vs, e, h, r⟩ => by rw [e]; exact .base (.lst h)⟩
instance {α β : Type} [Rep α] [Rep β] : Typ (α × β) := ⟨"tuple", fun ⟨a, v, w, e, h, r⟩ => by rw [e]; exact .base (.tup h)⟩
section
variable {α : Type} [Rep α] [Typ α] {t : TE} {σ : L2.St} {F H : Hp} {K : PySem.W.Frag}
theorem ev_isi {m : Option α} (h : EV t σ F H m) {n : String} (b : Bool) (hk : kitB (Typ.name α) n = some b := by decide +kernel) : EV (tCB (rIsi K) (tCons t (tCons (tC (.ty n)) tNil))) σ F H (m.bind fun _ => some b) := fun F1 H1 l y e Q q => by
  obtain ⟨x, ex, e⟩ := Option.bind_eq_some_iff.mp e
  cases e
  exact h F1 H1 l x ex _ fun v F2 H2 l2 r => ⟨v, .ty n, _, _, b, rfl, .ty n, Typ.ty (Rep.mono l2.fh r), kit_ty hk, q _ F2 H2 l2 rfl⟩
end

/-! ### defs as they stand -/
structure Fn (P : Program) (w : World) (K : PySem.W.Frag) (mg : Str → Option Value) (base : Heap) (CX : CXT) (k : Nat) (x : Str) (ps : List Str) (sp : Sp) : Prop where
  ex : ∃ f fd, mg x = some (.ref f) ∧ PySem.W.keepIn K (.ref f) = true ∧ Binds K fd ps [] ∧ FnOk P w K mg base CX k f fd ps sp
theorem pe_fn {X : Cx} {k : Nat} {x : Str} {ps : List Str} {sp : Sp} {p pos : Pos} {e : Expr} {es : List Expr} {t : TA} (F : Fn X.prog X.w X.K X.mg X.base CX0 k x ps sp) (hr : Room k X.A) (hg : Gl X x)
    (ha : PA X (e :: es) t) (hdb : (x == ("__debug__" : Str)) = false := by decide) (he : starEach (e :: es) X.env = (false, eval e X.env) :: starEach es X.env := by rfl) (hpl : (backTo pos (starEach es X.env)).any (·.1) = false := by rfl) :
    PE X (.Call (.Name x p) (e :: es) [] pos) (tCall sp [] E0 t) := by
  obtain ⟨f, fd, h1, h2, h3, h4⟩ := F.ex
  exact pe_call h4 hr hg h1 h2 h3 .nil pass0 ha hdb he hpl
theorem hu64 {A : Around} {k : Nat} (hr : Room k A) : A.units + 64 < cLine := by have := hr.un; omega
theorem hu65 {A : Around} {k : Nat} (hr : Room k A) : A.units + 65 < cLine := by have := hr.un; omega
theorem hu0 {A : Around} {k : Nat} (hr : Room k A) : A.units < cLine := by have := hr.un; omega
end Dw

set_option Elab.async false
set_option linter.all false
set_option maxRecDepth 100000
set_option maxHeartbeats 4000000
/-! The layer, fourth part: chains of three, ranges as lists, and what else is asked for now and then. -/
namespace L2
open PySem PySem.Spec PyProof.Rows
/-- a op1 b op2 c op3 d -/
def tChain3 (r r' r'' : R2) (ta tb tc td : TE) : TE := fun σ H Q => ta σ H fun x H1 => tb σ H1 fun y H2 => r x y H2 fun z H3 => ∃ k, z = .bl k ∧
  (if k = true then tc σ H3 fun w' H4 => r' y w' H4 fun z' H5 => ∃ k', z' = .bl k' ∧ (if k' = true then td σ H5 fun u' H6 => r'' w' u' H6 Q else Q (.bl false) H5) else Q (.bl false) H3)
section
variable {X : Cx} {a b c d : Expr} {ta tb tc td : TE} {pos : Pos}
theorem pt_chain3 {op op' op'' : CmpOp} {r r' r'' : R2} (ho : OpR X (compareOp op) r) (ho' : OpR X (compareOp op') r') (ho'' : OpR X (compareOp op'') r'') (ha : PE X a ta) (hb : PE X b tb) (hc : PE X c tc) (hd : PE X d td)
    (hm : lastMarks [op, op', op''] [b, c, d] = false := by with_unfolding_all rfl) : PT X (.Compare a [op, op', op''] [b, c, d] pos) (tTest (tChain3 r r' r'' ta tb tc td)) := by
  refine ⟨fun pins s σ H Q I h => ?_⟩
  refine isTrue_chain (thn (ha.run pins s σ H _ I h) fun v s1 ⟨x, H1, I1, r1, q1⟩ => test_link (thn (hb.run pins s1 σ H1 _ I1 q1) fun u s2 ⟨y, H2, I2, r2, q2⟩ =>
    thn (ho pins s2 σ H2 x y v u _ I2 r1 r2 q2) fun e s3 ⟨z, H3, I3, r3, k, ez, q3⟩ => ?_)) hm
  subst ez
  cases r3
  refine wpAny_truthy_bool ?_
  cases k with
  | false =>
    obtain ⟨k', e', q'⟩ := q3
    cases e'
    exact ite_ff ⟨H3, I3, q'⟩
  | true =>
    refine ite_tt (test_link (thn (hc.run pins s3 σ H3 _ I3 q3) fun w' s4 ⟨z', H4, I4, r4, q4⟩ => thn (ho' pins s4 σ H4 y z' u w' _ I4 r2 r4 q4) fun d' s5 ⟨z2, H5, I5, r5, k2, e2, q5⟩ => ?_))
    subst e2
    cases r5
    refine wpAny_truthy_bool ?_
    cases k2 with
    | false =>
      obtain ⟨k', e', q'⟩ := q5
      cases e'
      exact ite_ff ⟨H5, I5, q'⟩
    | true =>
      refine ite_tt (test_last (thn (hd.run pins s5 σ H5 _ I5 q5) fun u' s6 ⟨z6, H6, I6, r6, q6⟩ => thn (ho'' pins s6 σ H6 z' z6 w' u' _ I6 r4 r6 q6) fun d' s7 ⟨z7, H7, I7, r7, k7, e7, q7⟩ => ?_))
      subst e7
      cases r7
      exact wpAny_truthy_bool ⟨H7, I7, q7⟩
end
end L2
namespace Dw
open PySem L2 Dv
open Rep (rp)
open RepA (ra)
section
variable {α β γ δ : Type} [Rep α] [Rep β] [Rep γ] [Rep δ] {t : TE} {σ : L2.St} {F H : Hp} {K : PySem.W.Frag}
theorem ev_chain3 {ta tb tc td : TE} {r r' r'' : R2} {ma : Option α} {mb : Option β} {mc : Option γ} {md : Option δ} {k : α → β → Option Bool} {k' : β → γ → Option Bool} {k'' : γ → δ → Option Bool} (ha : EV ta σ F H ma) (hb : EV tb σ F H mb) (hc : EV tc σ F H mc) (hd : EV td σ F H md)
    (hr : ∀ x y, RV r x y (k x y)) (hr' : ∀ x y, RV r' x y (k' x y)) (hr'' : ∀ x y, RV r'' x y (k'' x y)) :
    EV (tChain3 r r' r'' ta tb tc td) σ F H (ma.bind fun x => mb.bind fun y => (k x y).bind fun b => if b then mc.bind fun z => (k' y z).bind fun b => if b then md.bind fun u => k'' z u else some false else some false) := fun F1 H1 l z e Q q => by
  obtain ⟨x, ex, e⟩ := Option.bind_eq_some_iff.mp e
  obtain ⟨y, ey, e⟩ := Option.bind_eq_some_iff.mp e
  obtain ⟨b, eb, e⟩ := Option.bind_eq_some_iff.mp e
  refine ha F1 H1 l x ex _ fun v F2 H2 l2 rv => hb F2 H2 (l.trans l2) y ey _ fun w F3 H3 l3 rw' => ?_
  refine hr x y F3 H3 v w l3.fh (up rv l3) rw' b eb _ fun u F4 H4 l4 ru => ⟨b, ru, ?_⟩
  cases b with
  | true =>
    refine iteT ?_
    obtain ⟨z1, ez1, e⟩ := Option.bind_eq_some_iff.mp e
    obtain ⟨b2, eb2, e⟩ := Option.bind_eq_some_iff.mp e
    refine hc F4 H4 (((l.trans l2).trans l3).trans l4) z1 ez1 _ fun w2 F5 H5 l5 r5 => ?_
    refine hr' y z1 F5 H5 w w2 l5.fh (up (up rw' l4) l5) r5 b2 eb2 _ fun u6 F6 H6 l6 r6 => ⟨b2, r6, ?_⟩
    cases b2 with
    | true =>
      refine iteT ?_
      obtain ⟨z3, ez3, e⟩ := Option.bind_eq_some_iff.mp e
      refine hd F6 H6 (((((l.trans l2).trans l3).trans l4).trans l5).trans l6) z3 ez3 _ fun w7 F7 H7 l7 r7 => ?_
      exact hr'' z1 z3 F7 H7 w2 w7 l7.fh (up (up r5 l6) l7) r7 z e Q fun u8 F8 H8 l8 r8 => q u8 F8 H8 ((((((l2.trans l3).trans l4).trans l5).trans l6).trans l7).trans l8) r8
    | false =>
      have e' : false = z := Option.some.inj e
      subst e'
      exact iteF (q _ F6 H6 ((((l2.trans l3).trans l4).trans l5).trans l6) rfl)
  | false =>
    have e' : false = z := Option.some.inj e
    subst e'
    exact iteF (q _ F4 H4 ((l2.trans l3).trans l4) rfl)
theorem rv_isB (x y : Bool) : RV rIsB x y (some (decide (x = y))) := fun F H v w s rv rw' z e Q q => by
  cases e
  exact ⟨x, y, rv, rw', q _ F H (.refl s) rfl⟩
theorem rv_isnotB (x y : Bool) : RV rNotB x y (some (!decide (x = y))) := fun F H v w s rv rw' z e Q q => by
  cases e
  exact ⟨x, y, rv, rw', q _ F H (.refl s) rfl⟩
theorem evn_lrng {m : Option Int} (h : EV t σ F H m) : EVN (tLstRg (tRg1 t)) σ F H (m.bind fun n => lrng n) := fun F1 H1 l xs e Q q => by
  obtain ⟨n, en, e⟩ := Option.bind_eq_some_iff.mp e
  unfold lrng at e
  split at e
  · rename_i c
    cases e
    refine h F1 H1 l n en _ fun v F2 H2 l2 r => ⟨n, r, ⟨by omega, by omega, by omega, by omega, ?_⟩, fun p hp => ?_⟩
    · have : (2 : Nat) ^ 24 = 16777216 := by decide
      rw [this]
      omega
    · refine q p _ F2 _ (l2.trans (.made l2.fh hp)) (l2.h.free hp) (l2.fh.free hp) upd_same ?_
      unfold rgV
      have e1 : (n - 0).toNat = n.toNat := by rw [Int.sub_zero]
      rw [e1]
      have e2 : (List.range n.toNat).map (fun i => V.int (0 + ((i : Nat) : Int))) = ((List.range n.toNat).map fun i => ((i : Nat) : Int)).map V.int := by
        rw [List.map_map]
        refine List.map_congr_left fun i _ => ?_
        show V.int (0 + (i : Int)) = V.int (i : Int)
        rw [Int.zero_add]
      rw [e2]
      exact rpL_ints' _
  · cases e
/-- a part of the script -/
theorem evn_cutS {m : Option (Scr K)} {tl th : TO} {lo hi : Option (Option Int)} (h : EV t σ F H m)
    (hl : ∀ F1 H1, Lat F H F1 H1 → ∀ i, lo = some i → ∀ Q : Option Int → Hp → Prop, (∀ F2 H2, Lat F1 H1 F2 H2 → Q i H2) → tl σ H1 Q)
    (hh : ∀ F1 H1, Lat F H F1 H1 → ∀ i, hi = some i → ∀ Q : Option Int → Hp → Prop, (∀ F2 H2, Lat F1 H1 F2 H2 → Q i H2) → th σ H1 Q) :
    EVN (tSl (rSlL K) t tl th) σ F H (m.bind fun xs => lo.bind fun i => hi.bind fun j => some (cutZ xs.l i j)) := fun F1 H1 l y e Q q => by
  obtain ⟨x, ex, e⟩ := Option.bind_eq_some_iff.mp e
  obtain ⟨i, ei, e⟩ := Option.bind_eq_some_iff.mp e
  obtain ⟨j, ej, e⟩ := Option.bind_eq_some_iff.mp e
  cases e
  refine h F1 H1 l x ex _ fun v F2 H2 l2 ⟨a, e1, e2⟩ => hl F2 H2 (l.trans l2) i ei _ fun F3 H3 l3 => hh F3 H3 ((l.trans l2).trans l3) j ej _ fun F4 H4 l4 => ?_
  have L := (l2.trans l3).trans l4
  refine ⟨a, _, e1, same_l (l3.h.trans l4.h) (same_l l2.fh e2), fun p hp => q p _ F4 _ (L.trans (.made l4.fh hp)) (L.h.free hp) (l4.fh.free hp) upd_same ?_⟩
  unfold cutZ cutV
  rw [List.length_map]
  exact rpL.take _ (rpL.drop _ (rpL_ints' _))
theorem ev_powL {ta tb : TE} {x y n : Int} (ha : EV ta σ F H (some x)) (hb : EV tb σ F H (some y)) (hc : CPow x y) (hn : x ^ y.toNat = n) : EV (tOp (rI CPow fun i j => .int (i ^ j.toNat)) ta tb) σ F H (some n) := fun F1 H1 l z e Q q => by
  cases e
  refine ha F1 H1 l x rfl _ fun v F2 H2 l2 rv => hb F2 H2 (l.trans l2) y rfl _ fun w F3 H3 l3 rw' => ?_
  exact ⟨x, y, rv, rw', hc, q _ F3 H3 (l2.trans l3) (show V.int _ = V.int n by rw [hn])⟩
theorem rv_divW (x y : Int) : RV (rI CDivW fun i j => .int (i / j)) x y (divW x y) := rv_I x y fun z e => by
  unfold divW at e
  split at e
  · rename_i c
    cases e
    exact ⟨c, rfl⟩
  · cases e
end
end Dw
/-! ### rules whose reading names the written part K itself (for use within a comprehension) -/
namespace Dw
open PySem L2 Dv
section
variable {X : Cx} {K : PySem.W.Frag}
theorem ix_listK (hK : X.K = K) : IxR X (rIxL K) := hK ▸ ix_list
theorem ix_tupK (hK : X.K = K) : IxR X (rIxT K) := hK ▸ ix_tup
theorem op_in_seqK (hK : X.K = K) : OpR X (compareOp .In) (rIn K false) := hK ▸ op_in_seq
theorem op_notIn_seqK (hK : X.K = K) : OpR X (compareOp .NotIn) (rIn K true) := hK ▸ op_notIn_seq
theorem op_inDK (hK : X.K = K) (hu : X.A.units + 65 < cLine) : OpR X (compareOp .In) (rInD K) := hK ▸ op_inD hu
theorem op_notInDK (hK : X.K = K) (hu : X.A.units + 65 < cLine) : OpR X (compareOp .NotIn) (rNotInD K) := hK ▸ op_notInD hu
theorem op_eqDK (hK : X.K = K) (hu : X.A.units + 64 < cLine) : OpR X (compareOp .Eq) (rEqD K) := hK ▸ op_eqD hu
theorem op_neDK (hK : X.K = K) (hu : X.A.units + 64 < cLine) : OpR X (compareOp .NotEq) (rNeD K) := hK ▸ op_neD hu
theorem op_leTK (hK : X.K = K) (hu : X.A.units < cLine) : OpR X (compareOp .LtE) (rLeT K) := hK ▸ op_leT hu
theorem sl_listK (hK : X.K = K) : SlR X (rSlL K) := hK ▸ sl_list
theorem call_len_seqK (hK : X.K = K) : CallR X (.builtin "len") (fun xs H Q => ∃ p ys, xs = [.ref p] ∧ (SqL K H p ys ∨ SqT K H p ys) ∧ Q (.int ys.length) H) := hK ▸ call_len_seq
theorem call_list_ofK (hK : X.K = K) : CallR X (.type "list") (fun xs H Q => ∃ p ys, xs = [.ref p] ∧ (SqL K H p ys ∨ SqT K H p ys) ∧ ∀ l, H l = none → Q (.ref l) (upd H l (.lst ys))) := hK ▸ call_list_of
theorem cr_sortedPOK (hK : X.K = K) : CallR X (.builtin "sorted") (rSortedPO K) := hK ▸ cr_sortedPO
theorem cr_sortedK (hK : X.K = K) : CallR X (.builtin "sorted") (rSorted K) := hK ▸ cr_sorted
theorem call_isiK (hK : X.K = K) : CallR X (.builtin "isinstance") (rIsi K) := hK ▸ call_isi
theorem pi_listK {tg l : Expr} {tl : TE} (hK : X.K = K) (hl : PE X l tl) : PI X tg l (iList K tl) := hK ▸ pi_list hl
theorem pi_tupK {tg l : Expr} {tl : TE} (hK : X.K = K) (hl : PE X l tl) : PI X tg l (iTup K tl) := hK ▸ pi_tup hl
theorem mt_indexK (hK : X.K = K) : MtR X "list.index" (rIndex K) := hK ▸ mt_index
theorem pe_bmK {T name id : String} {r : V → List V → Hp → VK → Prop} {o : Expr} {to : TE} {e : Expr} {es : List Expr} {t : TA} {apos pos : Pos} (hK : X.K = K) (h : PE X (.Call (.Attribute o name apos) (e :: es) [] pos) (tBM X.K T r to t)) : PE X (.Call (.Attribute o name apos) (e :: es) [] pos) (tBM K T r to t) := hK ▸ h
theorem pg_tup2K {i j : Nat} {es : List Expr} {k : Nat} {pos : Pos} {t : TGs} {n : Nat} (hK : X.K = K) (h : PG X (.Tuple es k pos) (gTup X.K n t)) : PG X (.Tuple es k pos) (gTup K n t) := hK ▸ h
end
end Dw

set_option Elab.async false
set_option linter.all false
set_option maxRecDepth 100000
set_option maxHeartbeats 4000000
/-! The layer, fifth part: defs that refuse, and refusals caught. -/
namespace Dw
open PySem L2 Dv
open Rep (rp)
open RepA (ra)
section
variable {α β γ R : Type} [Rep α] [Rep β] [Rep γ] {cl : Er → Value} {W : WX} {t : TE} {σ : L2.St} {F H : Hp} {K : PySem.W.Frag}
/-- what an expression is worth that may refuse: cl tells the classes, W what is wished then -/
def EX (cl : Er → Value) (W : WX) (t : TE) (σ : L2.St) (F H : Hp) (m : Rs α) : Prop :=
  ∀ F1 H1, Lat F H F1 H1 → ∀ y, m = some y → ∀ Q : VK, (∀ x, y = .ok x → ∀ v F2 H2, Lat F1 H1 F2 H2 → rp x v F2 → Q v H2) →
    (∀ e, y = .error e → ∀ F2 H2, Lat F1 H1 F2 H2 → W (cl e) none σ H2) → t σ H1 Q
/-- the same of arguments -/
def EXA {δ : Type} [RepA δ] (cl : Er → Value) (W : WX) (t : TA) (σ : L2.St) (F H : Hp) (m : Rs δ) : Prop :=
  ∀ F1 H1, Lat F H F1 H1 → ∀ y, m = some y → ∀ Q : List V → Hp → Prop, (∀ x, y = .ok x → ∀ vs F2 H2, Lat F1 H1 F2 H2 → ra x vs F2 → Q vs H2) →
    (∀ e, y = .error e → ∀ F2 H2, Lat F1 H1 F2 H2 → W (cl e) none σ H2) → t σ H1 Q
theorem EV.x {m : Option α} (h : EV t σ F H m) : EX cl W t σ F H (m.bind fun x => some (.ok x)) := fun F1 H1 l y e Q q _ => by
  obtain ⟨x, ex, e⟩ := Option.bind_eq_some_iff.mp e
  cases e
  exact h F1 H1 l x ex Q fun v F2 H2 l2 r => q x rfl v F2 H2 l2 r
theorem EVA.x {δ : Type} [RepA δ] {t : TA} {m : Option δ} (h : EVA t σ F H m) : EXA cl W t σ F H (m.bind fun x => some (.ok x)) := fun F1 H1 l y e Q q _ => by
  obtain ⟨x, ex, e⟩ := Option.bind_eq_some_iff.mp e
  cases e
  exact h F1 H1 l x ex Q fun v F2 H2 l2 r => q x rfl v F2 H2 l2 r
theorem exB_some {y : Except Er α} {k : α → Rs β} {z : Except Er β} (h : exB y k = some z) : (∃ x, y = .ok x ∧ k x = some z) ∨ ∃ e, y = .error e ∧ z = .error e := by
  cases y with
  | ok x => exact .inl ⟨x, rfl, h⟩
  | error e => exact .inr ⟨e, rfl, by cases h; rfl⟩
theorem exa_cons {δ : Type} [RepA δ] {tr : TA} {m : Rs α} {mr : Rs δ} (h : EX cl W t σ F H m) (hr : EXA cl W tr σ F H mr) : EXA cl W (tCons t tr) σ F H (m.bind fun y => exB y fun x => mr.bind fun z => exB z fun w => some (.ok (x, w))) := fun F1 H1 l y e Q q qe => by
  obtain ⟨y1, e1, e⟩ := Option.bind_eq_some_iff.mp e
  refine h F1 H1 l y1 e1 _ (fun x ex v F2 H2 l2 rv => ?_) (fun e2 ee F2 H2 l2 => ?_)
  · subst ex
    obtain ⟨y2, e3, e⟩ := Option.bind_eq_some_iff.mp (show (mr.bind fun z => exB z fun w => some (.ok (x, w))) = some y from e)
    refine hr F2 H2 (l.trans l2) y2 e3 _ (fun w ew ws F3 H3 l3 rw' => ?_) (fun e4 ee F3 H3 l3 => ?_)
    · subst ew
      cases e
      exact q (x, w) rfl (v :: ws) F3 H3 (l2.trans l3) ⟨v, ws, rfl, (up rv l3), rw'⟩
    · subst ee
      cases e
      exact qe e4 rfl F3 H3 (l2.trans l3)
  · subst ee
    cases e
    exact qe e2 rfl F2 H2 l2
theorem ex_some {m : Rs α} (h : EX cl W t σ F H m) : EX cl W t σ F H (m.bind fun y => exB y fun x => some (.ok (some x))) := fun F1 H1 l z e Q q qe => by
  obtain ⟨y1, e1, e⟩ := Option.bind_eq_some_iff.mp e
  refine h F1 H1 l y1 e1 Q (fun x ex v F2 H2 l2 rv => ?_) (fun e2 ee F2 H2 l2 => ?_)
  · subst ex
    cases e
    exact q (some x) rfl v F2 H2 l2 rv
  · subst ee
    cases e
    exact qe e2 rfl F2 H2 l2
theorem ex_inl {m : Rs α} (h : EX cl W t σ F H m) : EX cl W t σ F H (m.bind fun y => exB y fun x => some (.ok (Sum.inl x : α ⊕ β))) := fun F1 H1 l z e Q q qe => by
  obtain ⟨y1, e1, e⟩ := Option.bind_eq_some_iff.mp e
  refine h F1 H1 l y1 e1 Q (fun x ex v F2 H2 l2 rv => ?_) (fun e2 ee F2 H2 l2 => ?_)
  · subst ex
    cases e
    exact q (.inl x) rfl v F2 H2 l2 rv
  · subst ee
    cases e
    exact qe e2 rfl F2 H2 l2
theorem ex_inr {m : Rs β} (h : EX cl W t σ F H m) : EX cl W t σ F H (m.bind fun y => exB y fun x => some (.ok (Sum.inr x : α ⊕ β))) := fun F1 H1 l z e Q q qe => by
  obtain ⟨y1, e1, e⟩ := Option.bind_eq_some_iff.mp e
  refine h F1 H1 l y1 e1 Q (fun x ex v F2 H2 l2 rv => ?_) (fun e2 ee F2 H2 l2 => ?_)
  · subst ex
    cases e
    exact q (.inr x) rfl v F2 H2 l2 rv
  · subst ee
    cases e
    exact qe e2 rfl F2 H2 l2
theorem ex_tup {ta tb : TE} {ma : Rs α} {mb : Rs β} (ha : EX cl W ta σ F H ma) (hb : EX cl W tb σ F H mb) : EX cl W (tTup (tCons ta (tCons tb tNil))) σ F H (ma.bind fun y => exB y fun x => mb.bind fun z => exB z fun w => some (.ok (x, w))) := fun F1 H1 l y e Q q qe => by
  obtain ⟨y1, e1, e⟩ := Option.bind_eq_some_iff.mp e
  refine ha F1 H1 l y1 e1 _ (fun x ex v F2 H2 l2 rv => ?_) (fun e2 ee F2 H2 l2 => ?_)
  · subst ex
    obtain ⟨y2, e3, e⟩ := Option.bind_eq_some_iff.mp (show (mb.bind fun z => exB z fun w => some (.ok (x, w))) = some y from e)
    refine hb F2 H2 (l.trans l2) y2 e3 _ (fun w ew v2 F3 H3 l3 rw' => ?_) (fun e4 ee F3 H3 l3 => ?_)
    · subst ew
      cases e
      refine ⟨by show 2 ≤ sizeLine; decide, fun p hp => ?_⟩
      refine q (x, w) rfl (.ref p) (upd F3 p (.tup [v, v2])) (upd H3 p (.tup [v, v2])) ((l2.trans l3).trans (.new l3.fh hp)) ⟨p, v, v2, rfl, upd_same, ?_, ?_⟩
      · exact Rep.mono (same_upd (l3.fh.free hp)) (up rv l3)
      · exact Rep.mono (same_upd (l3.fh.free hp)) rw'
    · subst ee
      cases e
      exact qe e4 rfl F3 H3 (l2.trans l3)
  · subst ee
    cases e
    exact qe e2 rfl F2 H2 l2
/-- an operator whose left side may refuse -/
theorem ex_op {ta tb : TE} {r : R2} {ma : Rs α} {mb : Option β} {k : α → β → Option γ} (ha : EX cl W ta σ F H ma) (hb : EV tb σ F H mb) (hr : ∀ x y, RV r x y (k x y)) :
    EX cl W (tOp r ta tb) σ F H (ma.bind fun y => exB y fun x => mb.bind fun y => (k x y).bind fun z => some (.ok z)) := fun F1 H1 l z e Q q qe => by
  obtain ⟨y1, e1, e⟩ := Option.bind_eq_some_iff.mp e
  refine ha F1 H1 l y1 e1 _ (fun x ex v F2 H2 l2 rv => ?_) (fun e2 ee F2 H2 l2 => ?_)
  · subst ex
    obtain ⟨y2, e3, e⟩ := Option.bind_eq_some_iff.mp (show (mb.bind fun y => (k x y).bind fun z => some (.ok z)) = some z from e)
    obtain ⟨z1, e4, e⟩ := Option.bind_eq_some_iff.mp e
    cases e
    refine hb F2 H2 (l.trans l2) y2 e3 _ fun w F3 H3 l3 rw' => ?_
    exact hr x y2 F3 H3 v w l3.fh (up rv l3) rw' z1 e4 Q fun u F4 H4 l4 ru => q z1 rfl u F4 H4 ((l2.trans l3).trans l4) ru
  · subst ee
    cases e
    exact qe e2 rfl F2 H2 l2
theorem ex_abs {m : Rs Int} (h : EX cl W t σ F H m) : EX cl W (tCB (fun xs H Q => ∃ i, xs = [.int i] ∧ Q (.int (if i < 0 then -i else i)) H) (tCons t tNil)) σ F H (m.bind fun y => exB y fun i => some (.ok (if i < 0 then -i else i))) := fun F1 H1 l z e Q q qe => by
  obtain ⟨y1, e1, e⟩ := Option.bind_eq_some_iff.mp e
  refine h F1 H1 l y1 e1 _ (fun x ex v F2 H2 l2 rv => ?_) (fun e2 ee F2 H2 l2 => ?_)
  · subst ex
    cases e
    exact ⟨x, by rw [show v = V.int x from rv], q _ rfl _ F2 H2 l2 rfl⟩
  · subst ee
    cases e
    exact qe e2 rfl F2 H2 l2
end

/-! ### promises -/
section
variable {δ α β R : Type} [RepB δ] [Rep α] [Rep β] {cl : Er → Value} {W : WX} {σ : L2.St} {F H : Hp} {ta : TA}
def spX (cl : Er → Value) (m : δ → Rs β) : Sp := fun vs H Q E => ∃ (F : Hp) (x : δ) (y : Except Er β), Same F H ∧ ra x vs F ∧ m x = some y ∧ (∀ z, y = .ok z → ∀ v F' H', Lat F H F' H' → rp z v F' → Q v H') ∧ ∀ e, y = .error e → ∀ F' H', Lat F H F' H' → E (cl e) none H'
def spXN (cl : Er → Value) (m : δ → Rs (List β)) : Sp := fun vs H Q E => ∃ (F : Hp) (x : δ) (y : Except Er (List β)), Same F H ∧ ra x vs F ∧ m x = some y ∧ (∀ z, y = .ok z → ∀ p ws F' H', Lat F H F' H' → H p = none → F' p = none → H' p = some (.lst ws) → rpL z ws F' → Q (.ref p) H') ∧ ∀ e, y = .error e → ∀ F' H', Lat F H F' H' → E (cl e) none H'
theorem spX_len {m : δ → Rs β} {n : Nat} (hn : RepB.n δ = n) : ∀ vs H Q E, spX cl m vs H Q E → vs.length = n := fun vs H Q E ⟨F, x, y, _, h, _⟩ => (RepB.len h).trans hn
theorem spXN_len {m : δ → Rs (List β)} {n : Nat} (hn : RepB.n δ = n) : ∀ vs H Q E, spXN cl m vs H Q E → vs.length = n := fun vs H Q E ⟨F, x, y, _, h, _⟩ => (RepB.len h).trans hn
/-- a call that may refuse -/
theorem ex_call {m : δ → Rs β} {ma : Rs δ} (ha : EXA cl W ta σ F H ma) : EX cl W (tCallS (spX cl m) (WE W) ta) σ F H (ma.bind fun y => exB y fun x => m x) := fun F1 H1 l y e Q q qe => by
  obtain ⟨y1, e1, e⟩ := Option.bind_eq_some_iff.mp e
  refine ha F1 H1 l y1 e1 _ (fun x ex vs F2 H2 l2 r => ?_) (fun e2 ee F2 H2 l2 => ?_)
  · subst ex
    exact ⟨F2, x, y, l2.fh, r, e, fun z ez v F3 H3 l3 r3 => q z ez v F3 H3 (l2.trans l3) r3, fun e2 ee F3 H3 l3 => qe e2 ee F3 H3 (l2.trans l3)⟩
  · subst ee
    cases e
    exact qe e2 rfl F2 H2 l2
theorem ex_callN {m : δ → Rs (List β)} {ma : Rs δ} (ha : EXA cl W ta σ F H ma) : EX cl W (tCallS (spXN cl m) (WE W) ta) σ F H (ma.bind fun y => exB y fun x => m x) := fun F1 H1 l y e Q q qe => by
  obtain ⟨y1, e1, e⟩ := Option.bind_eq_some_iff.mp e
  refine ha F1 H1 l y1 e1 _ (fun x ex vs F2 H2 l2 r => ?_) (fun e2 ee F2 H2 l2 => ?_)
  · subst ex
    exact ⟨F2, x, y, l2.fh, r, e, fun z ez p ws F3 H3 l3 h1 h2 h3 r3 => q z ez (.ref p) (upd F3 p (.lst ws)) H3 ((l2.trans l3).hold (l2.h.free h1) h2 h3) ⟨p, ws, rfl, upd_same, rpL.mono (same_upd h2) r3⟩, fun e2 ee F3 H3 l3 => qe e2 ee F3 H3 (l2.trans l3)⟩
  · subst ee
    cases e
    exact qe e2 rfl F2 H2 l2
/-- a call that does not refuse -/
theorem noX_some {m : Rs β} {y : β} (h : noX m = some y) : m = some (.ok y) := by
  unfold noX at h
  obtain ⟨z, ez, e⟩ := Option.bind_eq_some_iff.mp h
  cases z with
  | ok x =>
    cases e
    exact ez
  | error _ => cases e
theorem ev_callX {m : δ → Rs β} {ma : Option δ} {E : XK} (ha : EVA ta σ F H ma) : EV (tCall (spX cl m) [] E ta) σ F H (ma.bind fun x => noX (m x)) := fun F1 H1 l y e Q q => by
  obtain ⟨x, ex, e⟩ := Option.bind_eq_some_iff.mp e
  refine ha F1 H1 l x ex _ fun vs F2 H2 l2 r => ?_
  rw [List.append_nil]
  exact ⟨F2, x, .ok y, l2.fh, r, noX_some e, fun z ez v F3 H3 l3 r3 => by cases ez; exact q v F3 H3 (l2.trans l3) r3, fun e ee => by cases ee⟩
theorem evn_callX {m : δ → Rs (List β)} {ma : Option δ} {E : XK} (ha : EVA ta σ F H ma) : EVN (tCall (spXN cl m) [] E ta) σ F H (ma.bind fun x => noX (m x)) := fun F1 H1 l y e Q q => by
  obtain ⟨x, ex, e⟩ := Option.bind_eq_some_iff.mp e
  refine ha F1 H1 l x ex _ fun vs F2 H2 l2 r => ?_
  rw [List.append_nil]
  exact ⟨F2, x, .ok y, l2.fh, r, noX_some e, fun z ez p ws F3 H3 l3 h1 h2 h3 r3 => by cases ez; exact q p ws F3 H3 (l2.trans l3) (l2.h.free h1) h2 h3 r3, fun e ee => by cases ee⟩
theorem pe_fnX {X : Cx} {k : Nat} {x : Str} {ps : List Str} {sp : Sp} {p pos : Pos} {e : Expr} {es : List Expr} {t : TA} (tk : Takes X W) (F : Fn X.prog X.w X.K X.mg X.base (L2.CX X.prog X.w) k x ps sp) (hr : Room k X.A) (hg : Gl X x)
    (ha : PA X (e :: es) t) (hdb : (x == ("__debug__" : Str)) = false := by decide) (he : starEach (e :: es) X.env = (false, eval e X.env) :: starEach es X.env := by rfl) (hpl : (backTo pos (starEach es X.env)).any (·.1) = false := by rfl) :
    PE X (.Call (.Name x p) (e :: es) [] pos) (tCallS sp (WE W) t) := by
  obtain ⟨f, fd, h1, h2, h3, h4⟩ := F.ex
  exact pe_callS h4 hr hg h1 h2 h3 (fun σ => passAt tk σ) ha hdb he hpl
theorem pe_fn0 {X : Cx} {k : Nat} {x : Str} {ps : List Str} {sp : Sp} {p pos : Pos} {e : Expr} {es : List Expr} {t : TA} (F : Fn X.prog X.w X.K X.mg X.base (L2.CX X.prog X.w) k x ps sp) (hr : Room k X.A) (hg : Gl X x)
    (ha : PA X (e :: es) t) (hdb : (x == ("__debug__" : Str)) = false := by decide) (he : starEach (e :: es) X.env = (false, eval e X.env) :: starEach es X.env := by rfl) (hpl : (backTo pos (starEach es X.env)).any (·.1) = false := by rfl) :
    PE X (.Call (.Name x p) (e :: es) [] pos) (tCall sp [] E0 t) := by
  obtain ⟨f, fd, h1, h2, h3, h4⟩ := F.ex
  exact pe_call h4 hr hg h1 h2 h3 .nil passL ha hdb he hpl

/-! ### statements -/
variable {te : TE} {u : TS} {D : Ends} {r : Except Er R} {i : Nat}
theorem rd_asgX {m : Rs α} {k : α → Rs R} (hF : Same F H) (ex : EX cl W te σ F H m) (hm : (m.bind fun y => exB y k) = some r) (ce : ∀ e F1 H1, r = .error e → Lat F H F1 H1 → W (cl e) none σ H1)
    (c : ∀ x v F1 H1, k x = some r → Lat F H F1 H1 → rp x v F1 → u D (σ.set i (some v)) H1) : tSeq (tAsg te (gName i)) u D σ H := by
  obtain ⟨y, e1, e2⟩ := Option.bind_eq_some_iff.mp hm
  refine ex F H (.refl hF) y e1 _ (fun x ex v F1 H1 l rv => ?_) (fun e ee F1 H1 l => ?_)
  · subst ex
    exact c x v F1 H1 e2 l rv
  · subst ee
    cases e2
    exact ce e F1 H1 rfl l
theorem rd_dropX {m : Rs α} {k : α → Rs R} (hF : Same F H) (ex : EX cl W te σ F H m) (hm : (m.bind fun y => exB y k) = some r) (ce : ∀ e F1 H1, r = .error e → Lat F H F1 H1 → W (cl e) none σ H1)
    (c : ∀ x F1 H1, k x = some r → Lat F H F1 H1 → u D σ H1) : tSeq (tDrop te) u D σ H := by
  obtain ⟨y, e1, e2⟩ := Option.bind_eq_some_iff.mp hm
  refine ex F H (.refl hF) y e1 _ (fun x ex v F1 H1 l rv => ?_) (fun e ee F1 H1 l => ?_)
  · subst ex
    exact c x F1 H1 e2 l
  · subst ee
    cases e2
    exact ce e F1 H1 rfl l
theorem rd_retNk {R : Type} {r : R} {m : Option (List α)} {k : List α → Option R} (hF : Same F H) (ev : EVN te σ F H m) (hm : m.bind k = some r)
    (c : ∀ x p vs F1 H1, k x = some r → Lat F H F1 H1 → H p = none → F1 p = none → H1 p = some (.lst vs) → rpL x vs F1 → D.rt (.ref p) H1) : tRet te D σ H := by
  obtain ⟨x, e1, e2⟩ := Option.bind_eq_some_iff.mp hm
  exact ev F H (.refl hF) x e1 _ fun p vs F1 H1 l h1 h2 h3 rv => c x p vs F1 H1 e2 l h1 h2 h3 rv
/-- a call of a def that does not refuse, of arguments that may -/
theorem ex_callP {m : δ → Option β} {ma : Rs δ} {E : XK} (ha : EXA cl W ta σ F H ma) : EX cl W (tCall (spO m) [] E ta) σ F H (ma.bind fun y => exB y fun x => (m x).bind fun z => some (.ok z)) := fun F1 H1 l y e Q q qe => by
  obtain ⟨y1, e1, e⟩ := Option.bind_eq_some_iff.mp e
  refine ha F1 H1 l y1 e1 _ (fun x ex vs F2 H2 l2 r => ?_) (fun e2 ee F2 H2 l2 => ?_)
  · subst ex
    obtain ⟨z, ez, e⟩ := Option.bind_eq_some_iff.mp (show ((m x).bind fun z => some (.ok z)) = some y from e)
    cases e
    rw [List.append_nil]
    exact ⟨F2, x, z, l2.fh, r, ez, fun v F3 H3 l3 r3 => q z rfl v F3 H3 (l2.trans l3) r3⟩
  · subst ee
    cases e
    exact qe e2 rfl F2 H2 l2
theorem rd_dropXL {m : Rs α} {k : α → Rs R} (hF : Same F H) (ex : EX cl W te σ F H m) (hm : (m.bind fun y => exB y k) = some r) (ce : ∀ e F1 H1, r = .error e → Lat F H F1 H1 → W (cl e) none σ H1)
    (c : ∀ x F1 H1, k x = some r → Lat F H F1 H1 → D.nx σ H1) : tDrop te D σ H := by
  obtain ⟨y, e1, e2⟩ := Option.bind_eq_some_iff.mp hm
  refine ex F H (.refl hF) y e1 _ (fun x ex v F1 H1 l rv => ?_) (fun e ee F1 H1 l => ?_)
  · subst ex
    exact c x F1 H1 e2 l
  · subst ee
    cases e2
    exact ce e F1 H1 rfl l
theorem rd_retX {m : Rs α} {r : Except Er α} (hF : Same F H) (ex : EX cl W te σ F H m) (hm : m = some r) (ce : ∀ e F1 H1, r = .error e → Lat F H F1 H1 → W (cl e) none σ H1)
    (c : ∀ x v F1 H1, r = .ok x → Lat F H F1 H1 → rp x v F1 → D.rt v H1) : tRet te D σ H :=
  ex F H (.refl hF) r hm _ (fun x ex v F1 H1 l rv => c x v F1 H1 ex l rv) fun e ee F1 H1 l => ce e F1 H1 ee l
end

/-! ### classes -/
structure ErC (K : PySem.W.Frag) (mg : Str → Option Value) (x : Str) (C : Addr) : Prop where
  g : mg x = some (.ref C)
  x : PySem.W.excIn K C [.type "ValueError", .type "Exception", .type "BaseException", .type "object"] "ValueError.__new__" = true
  k : PySem.W.keepIn K (.ref C) = true
  b : PySem.W.subIn K (.ref C) (.type "BaseException") = some true
  t : PySem.W.typeIn K (.ref C) = some (.type "type")
theorem rd_raise {W : WX} {C : Value} {D : Ends} {σ : L2.St} {H : Hp} (h : W C none σ H) : (fun (_ : Ends) σ H => (fun (_ : L2.St) (H : Hp) (Q : XK) => Q C none H) σ H fun cls d H' => W cls d σ H') D σ H := h
theorem ps_raiseE {X : Cx} {W : WX} {x m : Str} {C : Addr} {j : Nat} {p p2 pos pos2 : Pos} (hc : X.calm = true) (tk : Takes X W) (T : ErC X.K X.mg x C) (hg : Gl X x) (hdb : (x == ("__debug__" : Str)) = false := by decide) :
    PS X (.Raise (some (.Call (.Name x p) [.Constant (.str m) j p2] [] pos)) none pos2) (fun _ σ H => W (.ref C) none σ H) :=
  ps_raise hc tk (pmk_own PySem.F.excBase_ValueError T.x T.g T.k (raises_own T.b T.t) hg hdb)

/-! ### refusals caught -/
abbrev clO (ad : Er → Addr) : Er → Value := fun e => .ref (ad e)
section
variable {R S : Type} {ad : Er → Addr} {K : PySem.W.Frag} {σ : L2.St} {F H : Hp} {D : Ends} {i : Nat} {pos : Pos}
/-- a suite that knows which refusal it holds -/
def tsE (ad : Er → Addr) (t : Er → Addr → TS) : Addr → Value → Option Addr → TS := fun a cls d D σ H => ∃ e, cls = clO ad e ∧ d = none ∧ t e a D σ H
theorem pss_suite {X : Cx} {sts : List Stmt} {a : Addr} {oe : Obj} {cls : Value} {d : Option Addr} {t : Er → Addr → TS} (hz : Zc cls d oe) (h : ∀ e, Zc (clO ad e) none oe → PSs X sts (t e a)) : PSs X sts (tsE ad t a cls d) := by
  refine ⟨fun pins s σ H D I hw => ?_⟩
  obtain ⟨e, rfl, rfl, hw⟩ := hw
  exact (h e hz).run pins s σ H D I hw
def tTry (K : PySem.W.Frag) (c : Value) (i : Nat) (ts : Addr → Value → Option Addr → TS) (tb : WX → TS) : TS := fun D σ H => tb (wAs K c i ts (fun _ _ _ _ => False) D) D σ H
theorem ps_tryE {X : Cx} {x n : Str} {c : Value} {body suite : List Stmt} {b₀ : Stmt} {np pos pos' : Pos} {tb : WX → TS} {t : Er → Addr → TS} (hs : X.stack = X.env :: X.outer) (hf : X.env.frame = some X.env.locals) (hN : X.N.Nodup) (hi : X.N[i]? = some n) (hln : X.env.kindOf n = some .local) (hc : Names X x c)
    (hb : ∀ (W : WX) (pn : List (Addr × Obj)) (xe : Value → Shared → Prop), Takes (X.tr pn xe) W → PassesOwn (model X.prog X.w) X.A X.env xe → PSs (X.tr pn xe) body (tb W))
    (hsu : ∀ (e : Er) (a : Addr) (oe : Obj) (pn : List (Addr × Obj)), Zc (clO ad e) none oe → (∃ vs, oe.data = .fields vs) → PSs (X.suite a ((a, oe) :: pn)) (b₀ :: suite) (t e a)) :
    PS X (.Try body [.ExceptHandler (some (.Name x np)) (some n) (b₀ :: suite) pos'] [] [] pos) (tTry X.K c i (tsE ad t) tb) :=
  ps_try_as hs hf hN hi hln hc takes0 hb fun a oe cls d pn hz hv => pss_suite hz fun e hz => hsu e a oe pn hz hv
theorem rd_try {α β : Type} {tb : WX → TS} {t : Er → Addr → TS} {c : Value} {mb : Rs α} {f : α → Option β} {k : Er → Option β} {r : β} {F0 H0 : Hp} (hx : ∀ e, PySem.W.exmOne K (clO ad e) c = some true) (hm : trX mb f k = some r)
    (hb : ∀ y, mb = some y → (∀ x, y = .ok x → f x = some r) → ∀ W : WX, (∀ e F1 H1, y = .error e → Lat F0 H0 F1 H1 → Same F F1 → W (clO ad e) none σ H1) → tb W D σ H)
    (hs : ∀ e a F1 H1, k e = some r → Lat F0 H0 F1 H1 → Same F F1 → H1 a = none → ∀ D' : Ends, D'.rt = D.rt → (∀ σ' H', D.nx (σ'.set i none) H' → D'.nx σ' H') → t e a D' (σ.set i (some (.ref a))) H1) : tTry K c i (tsE ad t) tb D σ H := by
  obtain ⟨y, e1, e2⟩ := Option.bind_eq_some_iff.mp hm
  refine hb y e1 (fun x ex => by subst ex; exact e2) _ fun e F1 H1 ee l sf => ?_
  subst ee
  exact ⟨true, hx e, fun _ a ha => ⟨e, rfl, rfl, hs e a F1 H1 e2 l sf ha _ rfl fun _ _ h => h⟩, fun q => nomatch q⟩
theorem kit_ref {D C : Addr} {b : Bool} (hd : PySem.W.hasDictIn K C = true) (ht : PySem.W.typeIn K (.ref C) = some (.type "type")) (self : PySem.W.subIn K (.ref C) (.ref C) = some true) (hs : PySem.W.subIn K (.ref D) (.ref C) = some b) : PySem.W.kitOne K (.ref D) (.ref C) = some b := by
  obtain ⟨cd, hc, _⟩ := PySem.W.any_some hd
  unfold PySem.W.kitOne
  by_cases e : ((Value.ref D) == (Value.ref C)) = true
  · rw [if_pos e]
    have e2 : Value.ref D = Value.ref C := beq_iff_eq.mp e
    rw [e2, self] at hs
    exact hs
  · rw [if_neg e]
    show (if ((PySem.W.clsIn K C).isSome && PySem.W.typeIn K (.ref C) == some (.type "type")) = true then PySem.W.subIn K (.ref D) (.ref C) else none) = some b
    rw [hc, ht]
    exact hs
theorem kit_type {D : Addr} {T : String} {b : Bool} (hs : PySem.W.subIn K (.ref D) (.type T) = some b) (hm : PySem.W.kitMeta T = true := by decide +kernel) : PySem.W.kitOne K (.ref D) (.type T) = some b := by
  unfold PySem.W.kitOne
  rw [if_neg (by intro h; exact nomatch (beq_iff_eq.mp h))]
  show (if PySem.W.kitMeta T = true then PySem.W.subIn K (.ref D) (.type T) else none) = some b
  rw [if_pos hm]
  exact hs
/-- what the top says of the refusals, where some are caught -/
structure Kit (K : PySem.W.Frag) (ad : Er → Addr) (CW : Addr) : Prop where
  ex : ∀ e, ExcC K (ad e)
  one : ∀ e c, PySem.W.kitOne K (clO ad e) (clO ad c) = some (isE e c)
  val : ∀ e, PySem.W.kitOne K (clO ad e) (.type "ValueError") = some true
  exm : ∀ e, PySem.W.exmOne K (clO ad e) (.ref CW) = some true
theorem ev_isE {m : Er} {e : Er} {a : Addr} {CW : Addr} (T : Kit K ad CW) (h : σ[i]? = some (some (.ref a))) : EV (tCB (rIsE K (ad e) a) (tCons (tVar i) (tCons (tC (.ref (ad m))) tNil))) σ F H (some (isE e m)) := fun F1 H1 l x ex Q q => by
  cases ex
  exact ⟨.ref a, h, .ref (ad m), _, _, rfl, fun u r => r, T.one e m, q _ F1 H1 (.refl l.fh) rfl⟩
theorem ev_isV {e : Er} {a : Addr} {CW : Addr} (T : Kit K ad CW) (h : σ[i]? = some (some (.ref a))) : EV (tCB (rIsE K (ad e) a) (tCons (tVar i) (tCons (tC (.ty "ValueError")) tNil))) σ F H (some true) := fun F1 H1 l x ex Q q => by
  cases ex
  exact ⟨.ref a, h, .ty "ValueError", _, _, rfl, fun u r => r, T.val e, q _ F1 H1 (.refl l.fh) rfl⟩
end

/-! ### dicts with pairs for keys -/
def kk (t : Int × Int) : List Key := [.inl t.1, .inl t.2]
theorem kk_inj {t u : Int × Int} (h : kk t = kk u) : t = u := by
  unfold kk at h
  injection h with h1 h2
  injection h2 with h2 _
  injection h1 with h1
  injection h2 with h2
  exact Prod.ext h1 h2
theorem keys_put {kvs : List (List Key × V)} {ks : List (Int × Int)} (h : kvs.map (·.1) = ks.map kk) (t : Int × Int) (v : V) : (putK kvs (kk t) v).map (·.1) = (putD ks t).map kk := by
  have hm : kk t ∈ kvs.map (·.1) ↔ t ∈ ks := by
    rw [h, List.mem_map]
    exact ⟨fun ⟨u, hu, e⟩ => kk_inj e ▸ hu, fun hu => ⟨t, hu, rfl⟩⟩
  have ha : (kvs.any fun kv => decide (kv.1 = kk t)) = true ↔ t ∈ ks := by
    rw [← hm, List.any_eq_true, List.mem_map]
    exact ⟨fun ⟨p, hp, e⟩ => ⟨p, hp, of_decide_eq_true e⟩, fun ⟨p, hp, e⟩ => ⟨p, hp, decide_eq_true e⟩⟩
  unfold putK putD
  by_cases c : t ∈ ks
  · rw [if_pos (ha.mpr c), if_pos c, List.map_map, ← h]
    refine List.map_congr_left fun kv _ => ?_
    show (if kv.1 = kk t then (kv.1, v) else kv).1 = kv.1
    split <;> rfl
  · rw [if_neg fun q => c (ha.mp q), if_neg c, List.map_append, List.map_append, h]
    rfl
section
variable {R α : Type} [Rep α] {K : PySem.W.Frag} {σ : L2.St} {F H : Hp} {D : Ends} {u : TS} {i j : Nat} {r : R}
/-- {} -/
theorem rd_newD {k : List (Int × Int) → Option R} (hF : Same F H) (hm : (some ([] : List (Int × Int))).bind k = some r)
    (c : ∀ p F1 H1, k [] = some r → Lat F H F1 H1 → H p = none → F1 p = none → H1 p = some (.dT []) → u D (σ.set i (some (.ref p))) H1) : tSeq (tAsg tDNewT (gName i)) u D σ H :=
  fun p hp => c p F _ hm (.made hF hp) hp (hF.free hp) upd_same
theorem dput_t {H : Hp} {a : Addr} {y v : V} {kvs : List (List Key × V)} {t : Int × Int} {F : Hp} (hF : Same F H) (e : H a = some (.dT kvs)) (ry : rp t y F) (hl : kvs.length < sizeLine) : DPut H a y v (upd H a (.dT (putK kvs (kk t) v))) := by
  obtain ⟨b, v1, v2, rfl, eb, r1, r2⟩ := ry
  cases r1
  cases r2
  exact DPut.t e (hF _ _ eb) hl
theorem rd_putDL {p : Addr} {ks : List (Int × Int)} {kvs : List (List Key × V)} {ti tv : TE} {mi : Option (Int × Int)} {mv : Option α} {k : List (Int × Int) → Option R} (hF : Same F H) (hj : σ[j]? = some (some (.ref p))) (hp : H p = some (.dT kvs)) (fp : F p = none) (rl : kvs.map (·.1) = ks.map kk)
    (ev : EV tv σ F H mv) (ei : EV ti σ F H mi) (hm : (mv.bind fun _ => mi.bind fun t => putDZ ks t).bind k = some r)
    (c : ∀ ys ws F1 H1, k ys = some r → Mt p F H F1 H1 → F1 p = none → H1 p = some (.dT ws) → ws.map (·.1) = ys.map kk → D.nx σ H1) : sDPut (tVar j) ti tv D σ H := by
  obtain ⟨ys, e1, e2⟩ := Option.bind_eq_some_iff.mp hm
  obtain ⟨x, e3, e4⟩ := Option.bind_eq_some_iff.mp e1
  obtain ⟨t, e5, e6⟩ := Option.bind_eq_some_iff.mp e4
  unfold putDZ at e6
  split at e6
  · rename_i hlen
    cases e6
    refine ev F H (.refl hF) x e3 _ fun v F1 H1 l rv => ⟨.ref p, hj, ei F1 H1 l t e5 _ fun w F2 H2 l2 rw' => ?_⟩
    have l12 := l.trans l2
    have fp2 := l12.nw _ _ hp trivial fp
    have hln : kvs.length = ks.length := by rw [← List.length_map (·.1) (as := kvs), rl, List.length_map]
    exact ⟨p, _, rfl, dput_t l12.fh (l12.h _ _ hp) rw' (sz_lt (by omega)), c _ _ F2 _ e2 (Mt.of l12 fp2) fp2 upd_same (keys_put rl t v)⟩
  · cases e6
theorem rd_putD {p : Addr} {ks : List (Int × Int)} {kvs : List (List Key × V)} {ti tv : TE} {mi : Option (Int × Int)} {mv : Option α} {k : List (Int × Int) → Option R} (hF : Same F H) (hj : σ[j]? = some (some (.ref p))) (hp : H p = some (.dT kvs)) (fp : F p = none) (rl : kvs.map (·.1) = ks.map kk)
    (ev : EV tv σ F H mv) (ei : EV ti σ F H mi) (hm : (mv.bind fun _ => mi.bind fun t => putDZ ks t).bind k = some r)
    (c : ∀ ys ws F1 H1, k ys = some r → Mt p F H F1 H1 → F1 p = none → H1 p = some (.dT ws) → ws.map (·.1) = ys.map kk → u D σ H1) : tSeq (sDPut (tVar j) ti tv) u D σ H := rd_putDL (D := { D with nx := u D }) hF hj hp fp rl ev ei hm c
/-- tuples may be held for known at any time -/
theorem know_tups {F H F1 H1 : Hp} (l : Lat F H F1 H1) : ∀ bs : List Addr, (∀ b ∈ bs, ∃ xs, H1 b = some (.tup xs)) → ∃ F2, Lat F H F2 H1 ∧ Same F1 F2 ∧ (∀ b ∈ bs, F2 b = H1 b) ∧ ∀ q o, H1 q = some o → Chg o → F1 q = none → F2 q = none
  | [], _ => ⟨F1, l, .refl _, fun _ h => by simp at h, fun _ _ _ _ h => h⟩
  | b :: bs, h => by
    obtain ⟨F2, l2, s2, h2, n2⟩ := know_tups l bs fun x hx => h x (List.mem_cons_of_mem _ hx)
    obtain ⟨xs, e⟩ := h b List.mem_cons_self
    cases q : F2 b with
    | some o =>
      refine ⟨F2, l2, s2, fun x hx => ?_, n2⟩
      rcases List.mem_cons.mp hx with rfl | hx
      · rw [q, l2.fh _ _ q]
      · exact h2 x hx
    | none =>
      refine ⟨upd F2 b (.tup xs), l2.know (fun u hu cu _ => ?_) q e, s2.trans (same_upd q), fun x hx => ?_, fun p o ep co fp => ?_⟩
      · have := l2.h _ _ hu
        rw [e] at this
        cases this
        exact cu
      · by_cases z : x = b
        · subst z
          rw [upd_same, e]
        · rw [upd_ne z]
          rcases List.mem_cons.mp hx with hx | hx
          · exact absurd hx z
          · exact h2 x hx
      · have : p ≠ b := fun z => by
          subst z
          rw [e] at ep
          cases ep
          exact co
        rw [upd_ne this]
        exact n2 p o ep co fp
theorem rpL_keys {F : Hp} : ∀ {kvs : List (List Key × V)} {ks : List (Int × Int)} {bs : List Addr}, kvs.map (·.1) = ks.map kk → IsKeys F kvs bs → rpL ks (bs.map V.ref) F
  | _, [], _, e, .nil => trivial
  | kv :: kvs, k :: ks, b :: bs, e, .cons h t => by
    rw [List.map_cons, List.map_cons] at e
    injection e with e1 e2
    refine ⟨⟨b, .int k.1, .int k.2, rfl, ?_, rfl, rfl⟩, rpL_keys e2 t⟩
    have h' : F b = some (.tup (kv.1.map kV)) := h
    rw [e1] at h'
    exact h'
  | _, _ :: _, _, e, .nil => by simp at e
  | _ :: _, [], _, e, .cons _ _ => by simp at e
theorem isKeys_mono {H F : Hp} : ∀ {kvs : List (List Key × V)} {bs : List Addr}, (∀ b ∈ bs, F b = H b) → IsKeys H kvs bs → IsKeys F kvs bs
  | _, _, _, .nil => .nil
  | _, _ :: _, h, .cons k t => .cons (by rw [h _ List.mem_cons_self]; exact k) (isKeys_mono (fun b hb => h b (List.mem_cons_of_mem _ hb)) t)
theorem isKeys_tup {H : Hp} : ∀ {kvs : List (List Key × V)} {bs : List Addr}, IsKeys H kvs bs → ∀ b ∈ bs, ∃ xs, H b = some (.tup xs)
  | _, _, .nil, b, hb => by simp at hb
  | _, _ :: _, .cons k t, b, hb => by
    rcases List.mem_cons.mp hb with rfl | hb
    · exact ⟨_, k⟩
    · exact isKeys_tup t b hb
/-- list(d) -/
theorem evn_listD {p : Addr} {ks : List (Int × Int)} {kvs : List (List Key × V)} (hj : σ[j]? = some (some (.ref p))) (hp : H p = some (.dT kvs)) (rl : kvs.map (·.1) = ks.map kk) :
    EVN (tCB (fun xs H Q => ∃ d kvs, xs = [V.ref d] ∧ Rd H d (.dT kvs) ∧ ∀ p bs, H p = none → IsKeys H kvs bs → Q (.ref p) (upd H p (.lst (bs.map V.ref)))) (tCons (tVar j) tNil)) σ F H (some ks) := fun F1 H1 l xs e Q q => by
  cases e
  refine ⟨.ref p, hj, p, kvs, rfl, .inl (l.h _ _ hp), fun a bs ha hk => ?_⟩
  obtain ⟨F2, l2, s2, h2, n2⟩ := know_tups (Lat.refl l.fh) bs (isKeys_tup hk)
  exact q a _ F2 _ (l2.trans (.made l2.fh ha)) ha (l2.fh.free ha) upd_same (rpL_keys rl (isKeys_mono h2 hk))
end
end Dw

set_option Elab.async false
set_option linter.all false
set_option maxRecDepth 100000
set_option maxHeartbeats 4000000
/-! The layer, sixth part. -/
namespace Dw
open PySem L2 Dv
open Rep (rp)
open RepA (ra)
section
variable {α β γ S R T : Type} [Rep α] [Rep β] [Rep γ] {K : PySem.W.Frag} {σ : L2.St} {F H : Hp} {D : Ends} {te : TE} {r : R}
/-- an if of whose ways some go on and some hand back -/
theorem rd_joinR {c : TT} {t1 t2 u : TS} {m : Option (Stp S T)} {k : S → Option R} {k' : T → Option R} (P : S → L2.St → Hp → Hp → Prop) (hm : (m.bind fun st => st.elim k k') = some r)
    (h1 : ∀ st, m = some st → ∀ D' : Ends, D'.rt = D.rt → (∀ s, st = .go s → ∀ σ3 F3 H3, P s σ3 F3 H3 → D'.nx σ3 H3) → (∀ y, st = .ret y → k' y = some r) → tIfS c t1 t2 D' σ H)
    (h2 : ∀ s σ' F' H', k s = some r → P s σ' F' H' → u D σ' H') : tSeq (tIfS c t1 t2) u D σ H := by
  obtain ⟨st, e1, e2⟩ := Option.bind_eq_some_iff.mp hm
  refine h1 st e1 { D with nx := u D } rfl (fun s es σ3 F3 H3 hp => ?_) fun y ey => ?_
  · subst es
    exact h2 s σ3 F3 H3 e2 hp
  · subst ey
    exact e2
theorem EV.cg {t : TE} {m m' : Option α} (h : EV t σ F H m) (e : m = m') : EV t σ F H m' := e ▸ h
end
end Dw

set_option linter.all false
/-! Pure lemmas about the vocabulary. -/
namespace Q
open Dv
variable {α β S R : Type}
theorem loopR_any {f : Unit → α → Option (Stp Unit R)} (bad : α → Bool) (r : R) : ∀ {xs : List α}, (∀ x ∈ xs, f () x = some (if bad x = true then .ret r else .go ())) →
    loopR f () xs = some (if xs.any bad = true then .ret r else .go ())
  | [], _ => rfl
  | x :: xs, h => by
    have h1 := h x List.mem_cons_self
    have h2 := loopR_any bad r fun y hy => h y (List.mem_cons_of_mem _ hy)
    show (f () x).bind _ = _
    rw [h1]
    cases hb : bad x
    · simp [hb, h2]
    · simp [hb]
theorem loopG_inv {f : S → α → Option S} (I : List α → S → Prop) : ∀ {xs : List α} {pre : List α} {s : S}, I pre s →
    (∀ pre x s, I pre s → x ∈ xs → ∃ s', f s x = some s' ∧ I (pre ++ [x]) s') → ∃ s', loopG f s xs = some s' ∧ I (pre ++ xs) s'
  | [], pre, s, h, _ => ⟨s, rfl, by rw [List.append_nil]; exact h⟩
  | x :: xs, pre, s, h, hs => by
    obtain ⟨s1, e1, h1⟩ := hs pre x s h List.mem_cons_self
    obtain ⟨s2, e2, h2⟩ := loopG_inv I (xs := xs) h1 fun p y s i m => hs p y s i (List.mem_cons_of_mem _ m)
    refine ⟨s2, ?_, ?_⟩
    · show (f s x).bind _ = _
      rw [e1]
      exact e2
    · rw [show pre ++ x :: xs = pre ++ [x] ++ xs by simp]
      exact h2
/-- a loop that folds -/
theorem loopG_fold {f : S → α → Option S} (g : S → α → S) (I : S → Prop) : ∀ {xs : List α} {s : S}, I s → (∀ s x, I s → x ∈ xs → f s x = some (g s x) ∧ I (g s x)) → loopG f s xs = some (xs.foldl g s) ∧ I (xs.foldl g s)
  | [], s, h, _ => ⟨rfl, h⟩
  | x :: xs, s, h, hs => by
    obtain ⟨e1, h1⟩ := hs s x h List.mem_cons_self
    obtain ⟨e2, h2⟩ := loopG_fold g I (xs := xs) h1 fun s y i m => hs s y i (List.mem_cons_of_mem _ m)
    refine ⟨?_, h2⟩
    show (f s x).bind _ = _
    rw [e1]
    exact e2
theorem rng_nat {a b : Int} (h1 : -1000000 ≤ a) (h2 : a ≤ 1000000) (h3 : -1000000 ≤ b) (h4 : b ≤ 1000000) : rng a b = some ((List.range (b - a).toNat).map fun i => a + (i : Nat)) := by
  unfold rng
  rw [if_pos (by omega)]
theorem rng0 {n : Nat} (h : n ≤ 1000000) : rng 0 (n : Int) = some ((List.range n).map fun i => ((i : Nat) : Int)) := by
  rw [rng_nat (by omega) (by omega) (by omega) (by omega)]
  have e : ((n : Int) - 0).toNat = n := by omega
  rw [e]
  congr 1
  exact List.map_congr_left fun i _ => by omega
theorem mem_rng {a b : Int} {xs : List Int} (h : rng a b = some xs) (x : Int) : x ∈ xs ↔ a ≤ x ∧ x < b := by
  unfold rng at h
  split at h
  · cases h
    rw [List.mem_map]
    constructor
    · rintro ⟨i, hi, rfl⟩
      have := List.mem_range.mp hi
      omega
    · rintro ⟨h1, h2⟩
      exact ⟨(x - a).toNat, List.mem_range.mpr (by omega), by omega⟩
  · cases h
theorem atZ_nat (xs : List α) (k : Nat) : atZ xs (k : Int) = xs[k]? := by
  unfold atZ ixZ
  rw [if_pos (by omega)]
  by_cases h : k < xs.length
  · rw [if_pos (by omega)]
    simp
  · rw [if_neg (by omega)]
    simp [Nat.not_lt.mp h]
theorem atZ_get {xs : List α} {i : Int} (h0 : 0 ≤ i) (h1 : i < xs.length) : ∃ x, atZ xs i = some x ∧ xs[i.toNat]? = some x := by
  have e : ((i.toNat : Nat) : Int) = i := by omega
  have e2 := atZ_nat xs i.toNat
  rw [e] at e2
  have e3 : xs[i.toNat]? = some (xs[i.toNat]'(by omega)) := by simp
  exact ⟨_, e2.trans e3, e3⟩
theorem atZ_mem {xs : List α} {i : Int} {x : α} (h : atZ xs i = some x) : x ∈ xs := by
  unfold atZ at h
  obtain ⟨j, _, e⟩ := Option.bind_eq_some_iff.mp h
  exact List.mem_of_getElem? e
theorem lcG_all {c : α → Option Bool} {f : α → Option β} (p : α → Bool) (g : α → β) : ∀ {xs : List α}, (∀ x ∈ xs, c x = some (p x)) → (∀ x ∈ xs, p x = true → f x = some (g x)) → lcG c f xs = some ((xs.filter p).map g)
  | [], _, _ => rfl
  | x :: xs, h1, h2 => by
    have e := lcG_all p g (fun y hy => h1 y (List.mem_cons_of_mem _ hy)) fun y hy => h2 y (List.mem_cons_of_mem _ hy)
    show (c x).bind _ = _
    rw [h1 x List.mem_cons_self]
    cases hp : p x
    · simp [hp, e]
    · simp [hp, e, h2 x List.mem_cons_self hp]
theorem lc_all {c : α → Option Bool} {f : α → Option β} (p : α → Bool) (g : α → β) {xs : List α} (hl : xs.length < 10000000) (h1 : ∀ x ∈ xs, c x = some (p x)) (h2 : ∀ x ∈ xs, p x = true → f x = some (g x)) : lc c f xs = some ((xs.filter p).map g) := by
  unfold lc
  rw [if_pos hl]
  exact lcG_all p g h1 h2
theorem lc_map {f : α → Option β} (g : α → β) {xs : List α} (hl : xs.length < 10000000) (h2 : ∀ x ∈ xs, f x = some (g x)) : lc (fun _ => some true) f xs = some (xs.map g) := by
  rw [lc_all (fun _ => true) g hl (fun _ _ => rfl) fun x hx _ => h2 x hx]
  rw [List.filter_eq_self.mpr fun _ _ => rfl]
theorem modZ_pos {i j : Int} (h : 0 < j) : modZ i j = some (i % j) := if_pos h
theorem divZ_pos {i j : Int} (h : 0 < j) (h2 : j < 1073741824) : divZ i j = some (i / j) := if_pos ⟨h, h2⟩
theorem mulZ_r {i j : Int} (h : -1000000000000000000 < j) (h2 : j < 1000000000000000000) : mulZ i j = some (i * j) := if_pos (.inr (by omega))
theorem mulZ_l {i j : Int} (h : -1000000000000000000 < i) (h2 : i < 1000000000000000000) : mulZ i j = some (i * j) := if_pos (.inl (by omega))
theorem addL_ok {xs : List α} {y : α} (h : xs.length < 1000000) : addL xs y = some (xs ++ [y]) := if_pos (by omega)
theorem catL_ok {xs ys : List α} (h : xs.length + ys.length < 1000000) : catL xs ys = some (xs ++ ys) := if_pos (by omega)
theorem emod_bd (a : Int) {b : Int} (h : 0 < b) : 0 ≤ a % b ∧ a % b < b := ⟨Int.emod_nonneg _ (by omega), Int.emod_lt_of_pos _ h⟩
theorem cutZ_len (xs : List α) (lo hi : Option Int) : (cutZ xs lo hi).length ≤ xs.length := by
  unfold cutZ
  rw [List.length_take, List.length_drop]
  omega
theorem cutIx_nat (n d k : Nat) : cutIx n d (some (k : Int)) = min k n := by
  show (if (k : Int) < 0 then ((k : Int) + (n : Int)).toNat else min (k : Int).toNat n) = _
  rw [if_neg (by omega)]
  simp
theorem cutZ_upto (xs : List α) (k : Nat) : cutZ xs none (some (k : Int)) = xs.take k := by
  unfold cutZ
  rw [cutIx_nat]
  show List.take (min k xs.length - 0) (xs.drop 0) = _
  rw [List.drop_zero, Nat.sub_zero]
  by_cases h : k ≤ xs.length
  · rw [Nat.min_eq_left h]
  · rw [Nat.min_eq_right (by omega), List.take_of_length_le (Nat.le_refl _), List.take_of_length_le (by omega)]
theorem cutZ_from (xs : List α) (k : Nat) : cutZ xs (some (k : Int)) none = xs.drop k := by
  unfold cutZ
  rw [cutIx_nat]
  show List.take (xs.length - min k xs.length) _ = _
  rw [List.take_of_length_le (by rw [List.length_drop]; omega)]
  by_cases h : k ≤ xs.length
  · rw [Nat.min_eq_left h]
  · rw [Nat.min_eq_right (by omega), List.drop_of_length_le (Nat.le_refl _), List.drop_of_length_le (by omega)]
end Q
namespace Q
open Dv
variable {α β S R : Type}
/-- a loop by what is still to come -/
theorem loopG_rem {f : S → α → Option S} (I : List α → S → Prop) : ∀ {xs : List α} {s : S}, I xs s → (∀ x rest s, I (x :: rest) s → ∃ s', f s x = some s' ∧ I rest s') → ∃ s', loopG f s xs = some s' ∧ I [] s'
  | [], s, h, _ => ⟨s, rfl, h⟩
  | x :: xs, s, h, hs => by
    obtain ⟨s1, e1, h1⟩ := hs x xs s h
    obtain ⟨s2, e2, h2⟩ := loopG_rem I (xs := xs) h1 hs
    refine ⟨s2, ?_, h2⟩
    show (f s x).bind _ = _
    rw [e1]
    exact e2
theorem rng_lt {a b : Int} {xs : List Int} (h : rng a b = some xs) : xs.Pairwise (· < ·) := by
  unfold rng at h
  split at h
  · cases h
    rw [List.pairwise_map]
    exact List.Pairwise.imp (fun {i j} h => by omega) List.pairwise_lt_range
  · cases h
theorem pairwise_adj {r : α → α → Prop} (tr : ∀ a b c, r a b → r b c → r a c) : ∀ {l : List α}, (∀ k a b, l[k]? = some a → l[k + 1]? = some b → r a b) → l.Pairwise r
  | [], _ => .nil
  | [x], _ => by simp
  | x :: y :: l, h => by
    have ih := pairwise_adj tr (l := y :: l) fun k a b h1 h2 => h (k + 1) a b (by simpa using h1) (by simpa using h2)
    have h0 : r x y := h 0 x y rfl rfl
    refine List.pairwise_cons.mpr ⟨fun z hz => ?_, ih⟩
    rcases List.mem_cons.mp hz with rfl | hz
    · exact h0
    · exact tr _ _ _ h0 ((List.pairwise_cons.mp ih).1 z hz)
theorem pairwise_get {r : α → α → Prop} {l : List α} (h : l.Pairwise r) {i j : Nat} {a b : α} (hij : i < j) (ha : l[i]? = some a) (hb : l[j]? = some b) : r a b := by
  obtain ⟨h1, rfl⟩ := List.getElem?_eq_some_iff.mp ha
  obtain ⟨h2, rfl⟩ := List.getElem?_eq_some_iff.mp hb
  exact List.pairwise_iff_getElem.mp h i j h1 h2 hij
end Q
namespace Q
open Dv
variable {α β S R : Type}
/-- a loop that folds, by what is still to come -/
theorem loopG_fr {f : S → α → Option S} (g : S → α → S) (I : List α → S → Prop) : ∀ {xs : List α} {s : S}, I xs s → (∀ x rest s, I (x :: rest) s → f s x = some (g s x) ∧ I rest (g s x)) → loopG f s xs = some (xs.foldl g s) ∧ I [] (xs.foldl g s)
  | [], s, h, _ => ⟨rfl, h⟩
  | x :: xs, s, h, hs => by
    obtain ⟨e1, h1⟩ := hs x xs s h
    obtain ⟨e2, h2⟩ := loopG_fr g I (xs := xs) h1 hs
    refine ⟨?_, h2⟩
    show (f s x).bind _ = _
    rw [e1]
    exact e2
theorem loopG_eq {f : S → α → Option S} (g : S → α → S) {xs : List α} {s : S} (h : ∀ s x, x ∈ xs → f s x = some (g s x)) : loopG f s xs = some (xs.foldl g s) :=
  (loopG_fold g (fun _ => True) (xs := xs) (s := s) trivial fun s x _ hx => ⟨h s x hx, trivial⟩).1
end Q
namespace Q
open Dv
variable {α β S R : Type}
/-- ends, with such an answer -/
def Ok (m : Option α) (P : α → Prop) : Prop := ∃ x, m = some x ∧ P x
theorem Ok.mk {x : α} {P : α → Prop} (h : P x) : Ok (some x) P := ⟨x, rfl, h⟩
theorem Ok.imp {m : Option α} {P P' : α → Prop} (h : Ok m P) (k : ∀ x, P x → P' x) : Ok m P' := h.elim fun x h => ⟨x, h.1, k x h.2⟩
theorem Ok.of {m : Option α} {x : α} {P : α → Prop} (e : m = some x) (h : P x) : Ok m P := ⟨x, e, h⟩
theorem Ok.bind {m : Option α} {f : α → Option β} {P : α → Prop} {P' : β → Prop} (h : Ok m P) (k : ∀ x, P x → Ok (f x) P') : Ok (m.bind f) P' := by
  obtain ⟨x, e, hx⟩ := h
  obtain ⟨y, e2, hy⟩ := k x hx
  exact ⟨y, by rw [e]; exact e2, hy⟩
theorem Ok.get {m : Option α} {x : α} (h : Ok m fun y => y = x) : m = some x := h.elim fun y h => by rw [h.1, h.2]
/-- a step of a block -/
theorem stp {m : Option α} {f : α → Option β} {r : Option β} (P : α → Prop) (h : Ok m P) (k : ∀ x, P x → f x = r) : m.bind f = r := by
  obtain ⟨x, e, hx⟩ := h
  rw [e]
  exact k x hx
end Q
namespace Q
open Dv
variable {α β S R : Type}
/-- a loop by places -/
theorem loopG_ix {f : S → Int → Option S} (I : Nat → S → Prop) {s : S} (h0 : I 0 s) : ∀ {N : Nat}, (∀ i s, i < N → I i s → Ok (f s (i : Int)) (I (i + 1))) → Ok (loopG f s ((List.range N).map fun i => ((i : Nat) : Int))) (I N)
  | 0, _ => ⟨s, rfl, h0⟩
  | N + 1, h => by
    have app : ∀ (xs : List Int) (s0 s1 : S) (y : Int), loopG f s0 xs = some s1 → loopG f s0 (xs ++ [y]) = f s1 y := by
      intro xs
      induction xs with
      | nil =>
        intro s0 s1 y e
        cases e
        show (f s0 y).bind _ = _
        cases f s0 y <;> rfl
      | cons x xs ih =>
        intro s0 s1 y e
        obtain ⟨s2, e1, e2⟩ := Option.bind_eq_some_iff.mp (show (f s0 x).bind (fun s' => loopG f s' xs) = some s1 from e)
        show (f s0 x).bind (fun s' => loopG f s' (xs ++ [y])) = _
        rw [e1]
        exact ih s2 s1 y e2
    obtain ⟨s1, e1, i1⟩ := loopG_ix I h0 (N := N) fun i s hi => h i s (by omega)
    rw [List.range_succ, List.map_append, List.map_singleton]
    obtain ⟨s2, e2, i2⟩ := h N s1 (by omega) i1
    exact ⟨s2, by rw [app _ _ _ _ e1, e2], i2⟩
end Q

set_option linter.all false
/-! Webs: drawn by a law, and looked at. -/
namespace Q
open Dv
def is_web (points : Int) (ties : List (Int × Int)) : Option Bool :=
  ((if (decide (points < 0)) = true then some true else (if (decide (7 < points)) = true then some true else some (decide (12 < (ties.length : Int)))))).bind fun b1 => if b1 = true then
    some false
  else
  (rng 0 (ties.length : Int)).bind fun xs2 => (loopR (S := Unit) (R := Bool) (fun (s3 : Unit) (q4 : Int) =>
      (atZ ties q4).bind fun p8 =>
      ((if (decide (p8.1 < 0)) = true then some true else (if (decide (p8.2 ≤ p8.1)) = true then some true else some (decide (points ≤ p8.2))))).bind fun b9 => if b9 = true then
        (some false).bind fun y10 => some (.ret y10)
      else
      ((if (decide (0 < q4)) = true then (atZ ties q4).bind fun y11 => (atZ ties (q4 - 1)).bind fun y12 => some (leP y11 y12) else some false)).bind fun b13 => if b13 = true then
        (some false).bind fun y14 => some (.ret y14)
      else
      some (.go ())) () xs2).bind fun st5 => st5.elim (fun s6 =>
  some true) (fun y7 => some y7)
def cell_at (script : List Int) (k : Int) : Option Int :=
  (some (decide (k < (script.length : Int)))).bind fun b15 => if b15 = true then
    atZ script k
  else
  some 0
def next (seed : Int) : Option Int :=
  ((mulZ seed 48271).bind fun y17 => some (y17 + 12345)).bind fun y18 => modZ y18 2147483647
def web_by (script : List Int) (k : Int) (most : Int) (cap : Int) : Option (Int × (List (Int × Int))) :=
  ((cell_at script k).bind fun y19 => modZ y19 (most + 1)).bind fun points_20 =>
  (((cell_at script (k + 1)).bind fun y21 => some (y21, ())).bind fun a22 => next a22.1).bind fun seed_23 =>
  (((cell_at script (k + 2)).bind fun y24 => modZ y24 4).bind fun y25 => some (1 + y25)).bind fun thick_26 =>
  (some []).bind fun ties_27 =>
  (rng 0 points_20).bind fun xs28 => (loopG (S := Int × (List (Int × Int))) (fun (s29 : Int × (List (Int × Int))) (q30 : Int) =>
      (rng (q30 + 1) points_20).bind fun xs34 => (loopG (S := Int × (List (Int × Int))) (fun (s35 : Int × (List (Int × Int))) (q36 : Int) =>
          ((
            ((((divZ s35.1 16).bind fun y45 => modZ y45 4).bind fun y46 => some (decide (y46 < thick_26))).bind fun y47 => (if y47 = true then some (decide ((s35.2.length : Int) < cap)) else some false)).bind fun b48 => if b48 = true then
              (addL s35.2 (q30, q36)).bind fun ties_49 =>
              some ties_49
            else
              some s35.2 : Option ((List (Int × Int))))).bind fun s44 =>
          (next s35.1).bind fun seed_50 =>
          some (seed_50, s44)) (s29.1, s29.2) xs34).bind fun s38 =>
      some (s38.1, s38.2)) (seed_23, ties_27) xs28).bind fun s32 =>
  some (points_20, s32.2)
/-- the order of ties -/
def ltT (a b : Int × Int) : Prop := a.1 < b.1 ∨ (a.1 = b.1 ∧ a.2 < b.2)
instance (a b : Int × Int) : Decidable (ltT a b) := inferInstanceAs (Decidable (_ ∨ _))
theorem ltT_trans (a b c : Int × Int) (h1 : ltT a b) (h2 : ltT b c) : ltT a c := by
  unfold ltT at *
  omega
theorem ltT_not_le (a b : Int × Int) : leP a b = false ↔ ltT b a := by
  unfold leP ltT
  split <;> simp only [decide_eq_false_iff_not] <;> omega
/-- a tie of p points -/
def Tie (p : Int) (t : Int × Int) : Prop := 0 ≤ t.1 ∧ t.1 < t.2 ∧ t.2 < p
instance (p : Int) (t : Int × Int) : Decidable (Tie p t) := inferInstanceAs (Decidable (_ ∧ _ ∧ _))
structure Ties (p : Int) (ts : List (Int × Int)) : Prop where
  tie : ∀ t ∈ ts, Tie p t
  ord : ts.Pairwise ltT
instance (p : Int) (ts : List (Int × Int)) : Decidable (Ties p ts) := decidable_of_iff ((∀ t ∈ ts, Tie p t) ∧ ts.Pairwise ltT) ⟨fun h => ⟨h.1, h.2⟩, fun h => ⟨h.1, h.2⟩⟩
def Web (p : Int) (ts : List (Int × Int)) : Prop := (0 ≤ p ∧ p ≤ 7) ∧ ts.length ≤ 12 ∧ Ties p ts
instance (p : Int) (ts : List (Int × Int)) : Decidable (Web p ts) := inferInstanceAs (Decidable (_ ∧ _ ∧ _))
def badAt (p : Int) (ts : List (Int × Int)) (k : Int) : Bool := match atZ ts k with
  | some t => decide (¬ Tie p t) || (decide (0 < k) && match atZ ts (k - 1) with
    | some u => leP t u
    | none => false)
  | none => false
theorem is_web_eq (p : Int) (ts : List (Int × Int)) (h : ts.length ≤ 1000) : is_web p ts = some (decide (Web p ts)) := by
  unfold is_web
  by_cases c : (p < 0 ∨ 7 < p) ∨ 12 < ts.length
  · have n : ¬ Web p ts := fun ⟨h1, h2, _⟩ => by omega
    have e : (if decide (p < 0) = true then some true else if decide (7 < p) = true then some true else some (decide (12 < (ts.length : Int)))) = some true := by
      by_cases h1 : p < 0
      · simp [h1]
      · by_cases h2 : 7 < p
        · simp [h1, h2]
        · have : 12 < (ts.length : Int) := by omega
          simp [h1, h2, this]
    rw [e, Option.bind_some, if_pos rfl, decide_eq_false n]
  · have e : (if decide (p < 0) = true then some true else if decide (7 < p) = true then some true else some (decide (12 < (ts.length : Int)))) = some false := by
      have h1 : ¬ p < 0 := by omega
      have h2 : ¬ 7 < p := by omega
      have h3 : ¬ 12 < (ts.length : Int) := by omega
      simp [h1, h2, h3]
    rw [e, Option.bind_some, if_neg Bool.false_ne_true, rng0 (by omega), Option.bind_some]
    rw [loopR_any (badAt p ts) false]
    · have key : ((List.range ts.length).map fun i => ((i : Nat) : Int)).any (badAt p ts) = decide (¬ Web p ts) := by
        rw [Bool.eq_iff_iff, List.any_eq_true, decide_eq_true_iff]
        constructor
        · rintro ⟨k, hk, hb⟩ ⟨_, _, w⟩
          obtain ⟨i, hi, rfl⟩ := List.mem_map.mp hk
          have hi := List.mem_range.mp hi
          unfold badAt at hb
          rw [atZ_nat] at hb
          have ei : ts[i]? = some ts[i] := by simp [hi]
          rw [ei] at hb
          simp only [Bool.or_eq_true, decide_eq_true_eq, Bool.and_eq_true] at hb
          rcases hb with hb | ⟨h0, hb⟩
          · exact hb (w.tie _ (List.mem_of_getElem? ei))
          · have e1 : ((i : Int) - 1) = ((i - 1 : Nat) : Int) := by omega
            rw [e1, atZ_nat] at hb
            have ej : ts[i - 1]? = some (ts[i - 1]'(by omega)) := by simp
            rw [ej] at hb
            have := (ltT_not_le _ _).mpr (pairwise_get w.ord (show i - 1 < i by omega) ej ei)
            dsimp only at hb
            rw [this] at hb
            cases hb
        · intro nw
          refine Decidable.byContradiction fun no => nw ⟨by omega, by omega, ?_⟩
          have all : ∀ i, i < ts.length → badAt p ts (i : Int) = false := fun i hi => by
            refine Bool.eq_false_iff.mpr fun q => no ⟨(i : Int), List.mem_map.mpr ⟨i, List.mem_range.mpr hi, rfl⟩, q⟩
          refine ⟨fun t ht => ?_, pairwise_adj ltT_trans fun k a b ha hb => ?_⟩
          · obtain ⟨i, hi⟩ := List.mem_iff_getElem?.mp ht
            have hl := (List.getElem?_eq_some_iff.mp hi).1
            have q := all i hl
            unfold badAt at q
            rw [atZ_nat, hi] at q
            simp only [Bool.or_eq_false_iff, decide_eq_false_iff_not, Decidable.not_not] at q
            exact q.1
          · have hl := (List.getElem?_eq_some_iff.mp hb).1
            have q := all (k + 1) hl
            unfold badAt at q
            rw [atZ_nat, hb] at q
            have e1 : (((k + 1 : Nat) : Int) - 1) = ((k : Nat) : Int) := by omega
            simp only [e1, atZ_nat, ha, Bool.or_eq_false_iff, Bool.and_eq_false_iff, decide_eq_false_iff_not] at q
            refine (ltT_not_le _ _).mp ?_
            rcases q.2 with q | q
            · omega
            · exact q
      rw [key]
      by_cases w : Web p ts
      · simp [w]
      · simp [w]
    · intro k hk
      obtain ⟨i, hi, rfl⟩ := List.mem_map.mp hk
      have hi := List.mem_range.mp hi
      obtain ⟨t, ei⟩ : ∃ t, ts[i]? = some t := ⟨ts[i], by simp [hi]⟩
      unfold badAt
      rw [atZ_nat, ei, Option.bind_some]
      by_cases ht : Tie p t
      · obtain ⟨h1, h2, h3⟩ := id ht
        have g1 : ¬ t.1 < 0 := by omega
        have g2 : ¬ t.2 ≤ t.1 := by omega
        have g3 : ¬ p ≤ t.2 := by omega
        simp only [g1, g2, g3, decide_false, Bool.false_eq_true, ↓reduceIte, Option.bind_some, ht, not_true_eq_false, Bool.false_or]
        by_cases h0 : 0 < (i : Int)
        · have e1 : ((i : Int) - 1) = ((i - 1 : Nat) : Int) := by omega
          have ej : ts[i - 1]? = some (ts[i - 1]'(by omega)) := by simp
          simp only [h0, decide_true, ↓reduceIte, e1, atZ_nat, ei, ej, Option.bind_some, Bool.true_and]
          split <;> rfl
        · simp only [h0, decide_false, Bool.false_eq_true, ↓reduceIte, Option.bind_some, Bool.false_and]
      · have e2 : (if decide (t.1 < 0) = true then some true else if decide (t.2 ≤ t.1) = true then some true else some (decide (p ≤ t.2))) = some true := by
          unfold Tie at ht
          by_cases g1 : t.1 < 0
          · simp [g1]
          · by_cases g2 : t.2 ≤ t.1
            · simp [g1, g2]
            · have g3 : p ≤ t.2 := by omega
              simp [g1, g2, g3]
        rw [e2, Option.bind_some, if_pos rfl]
        simp [ht]
def cell (ns : List Int) (k : Int) : Int := ns.getD k.toNat 0
theorem cell_at_eq (ns : List Int) {k : Int} (h : 0 ≤ k) : cell_at ns k = some (cell ns k) := by
  unfold cell_at cell
  rw [Option.bind_some]
  by_cases c : k < (ns.length : Int)
  · obtain ⟨x, e1, e2⟩ := atZ_get h c
    rw [decide_eq_true c, if_pos rfl, e1, List.getD_eq_getElem?_getD, e2]
    rfl
  · rw [decide_eq_false c, if_neg Bool.false_ne_true, List.getD_eq_getElem?_getD, List.getElem?_eq_none (by omega)]
    rfl
def nxt (s : Int) : Int := (s * 48271 + 12345) % 2147483647
theorem next_eq (s : Int) : next s = some (nxt s) := by
  unfold next nxt
  rw [mulZ_r (by decide) (by decide), Option.bind_some, Option.bind_some, modZ_pos (by decide)]
/-- what a turn of the inner loop keeps -/
structure Inn (p lo : Int) (cap : Int) (rem : List Int) (s : Int × List (Int × Int)) : Prop where
  tie : ∀ t ∈ s.2, Tie p t
  ord : s.2.Pairwise ltT
  len : (s.2.length : Int) ≤ max cap 0
  small : s.2.length ≤ 100000
  lt : ∀ t ∈ s.2, t.1 < lo ∨ (t.1 = lo ∧ ∀ y ∈ rem, t.2 < y)
  rp : rem.Pairwise (· < ·)
  bd : ∀ y ∈ rem, lo < y ∧ y < p
structure Out (p : Int) (cap : Int) (rem : List Int) (s : Int × List (Int × Int)) : Prop where
  tie : ∀ t ∈ s.2, Tie p t
  ord : s.2.Pairwise ltT
  len : (s.2.length : Int) ≤ max cap 0
  small : s.2.length ≤ 100000
  lt : ∀ t ∈ s.2, ∀ x ∈ rem, t.1 < x
  rp : rem.Pairwise (· < ·)
  bd : ∀ x ∈ rem, 0 ≤ x ∧ x < p
theorem web_by_spec (ns : List Int) {k most cap : Int} (hk : 0 ≤ k) (h0 : 0 ≤ most) (h1 : most ≤ 1000) (hc : cap ≤ 1000) :
    ∃ p ts, web_by ns k most cap = some (p, ts) ∧ (0 ≤ p ∧ p ≤ most) ∧ (ts.length : Int) ≤ max cap 0 ∧ Ties p ts := by
  unfold web_by
  rw [cell_at_eq ns hk, Option.bind_some, modZ_pos (by omega), Option.bind_some, cell_at_eq ns (show 0 ≤ k + 1 by omega), Option.bind_some, Option.bind_some, next_eq, Option.bind_some, cell_at_eq ns (show 0 ≤ k + 2 by omega), Option.bind_some, modZ_pos (by decide),
    Option.bind_some, Option.bind_some, Option.bind_some]
  obtain ⟨p0, p1⟩ := emod_bd (cell ns k) (show 0 < most + 1 by omega)
  generalize cell ns k % (most + 1) = p at *
  generalize 1 + cell ns (k + 2) % 4 = thick
  rw [rng_nat (by omega) (by omega) (by omega) (by omega), Option.bind_some]
  generalize hxs : (List.range (p - 0).toNat).map (fun i => (0 : Int) + (i : Nat)) = xs
  have hx : rng 0 p = some xs := by rw [rng_nat (by omega) (by omega) (by omega) (by omega), hxs]
  have L1 := fun hs => loopG_rem (f := (fun (s29 : Int × (List (Int × Int))) (q30 : Int) =>
      (rng (q30 + 1) p).bind fun xs34 => (loopG (S := Int × (List (Int × Int))) (fun (s35 : Int × (List (Int × Int))) (q36 : Int) =>
          ((
            ((((divZ s35.1 16).bind fun y45 => modZ y45 4).bind fun y46 => some (decide (y46 < thick))).bind fun y47 => (if y47 = true then some (decide ((s35.2.length : Int) < cap)) else some false)).bind fun b48 => if b48 = true then
              (addL s35.2 (q30, q36)).bind fun ties_49 =>
              some ties_49
            else
              some s35.2 : Option ((List (Int × Int))))).bind fun s44 =>
          (next s35.1).bind fun seed_50 =>
          some (seed_50, s44)) (s29.1, s29.2) xs34).bind fun s38 =>
      some (s38.1, s38.2))) (Out p cap) (xs := xs) (s := (nxt (cell ns (k + 1)), [])) ⟨by simp, by simp, by simp; omega, by simp, by simp, rng_lt hx, fun x hx' => by
      have := (mem_rng hx x).mp hx'
      omega⟩ hs
  refine Exists.elim (L1 ?_) ?_
  rotate_left
  · rintro s' ⟨e, o⟩
    rw [e, Option.bind_some]
    exact ⟨p, s'.2, rfl, by omega, o.len, o.tie, o.ord⟩
  · intro x rest s O
    obtain ⟨bx0, bx1⟩ := O.bd x List.mem_cons_self
    have hr : rng (x + 1) p = some ((List.range (p - (x + 1)).toNat).map fun i => (x + 1) + (i : Nat)) := rng_nat (by omega) (by omega) (by omega) (by omega)
    generalize hys : (List.range (p - (x + 1)).toNat).map (fun i => (x + 1) + ((i : Nat) : Int)) = ys at hr
    rw [hr, Option.bind_some]
    have L2 := fun hs => loopG_rem (f := (fun (s35 : Int × (List (Int × Int))) (q36 : Int) =>
          ((
            ((((divZ s35.1 16).bind fun y45 => modZ y45 4).bind fun y46 => some (decide (y46 < thick))).bind fun y47 => (if y47 = true then some (decide ((s35.2.length : Int) < cap)) else some false)).bind fun b48 => if b48 = true then
              (addL s35.2 (x, q36)).bind fun ties_49 =>
              some ties_49
            else
              some s35.2 : Option ((List (Int × Int))))).bind fun s44 =>
          (next s35.1).bind fun seed_50 =>
          some (seed_50, s44))) (Inn p x cap) (xs := ys) (s := (s.1, s.2)) ⟨O.tie, O.ord, O.len, O.small, fun t ht => .inl (O.lt t ht x List.mem_cons_self), rng_lt hr, fun y hy => by
        have := (mem_rng hr y).mp hy
        omega⟩ hs
    refine Exists.elim (L2 ?_) ?_
    rotate_left
    · rintro s2 ⟨e2, o2⟩
      rw [e2, Option.bind_some]
      refine ⟨_, rfl, o2.tie, o2.ord, o2.len, o2.small, fun t ht z hz => ?_, (List.pairwise_cons.mp O.rp).2, fun z hz => O.bd z (List.mem_cons_of_mem _ hz)⟩
      have hxz := (List.pairwise_cons.mp O.rp).1 z hz
      rcases o2.lt t ht with q | ⟨q, _⟩ <;> omega
    · intro y rest2 s3 O3
      obtain ⟨by0, by1⟩ := O3.bd y List.mem_cons_self
      have rest : ∀ t ∈ s3.2, t.1 < x ∨ (t.1 = x ∧ ∀ z ∈ rest2, t.2 < z) := fun t ht => by
        rcases O3.lt t ht with q | ⟨q1, q2⟩
        · exact .inl q
        · exact .inr ⟨q1, fun z hz => q2 z (List.mem_cons_of_mem _ hz)⟩
      rw [divZ_pos (by decide) (by decide), Option.bind_some, modZ_pos (by decide), Option.bind_some, Option.bind_some, next_eq]
      by_cases c1 : s3.1 / 16 % 4 < thick
      · by_cases c2 : (s3.2.length : Int) < cap
        · simp only [c1, c2, decide_true, ↓reduceIte, Option.bind_some]
          rw [addL_ok (by have := O3.small; omega), Option.bind_some, Option.bind_some]
          refine ⟨_, rfl, fun t ht => ?_, ?_, ?_, ?_, fun t ht => ?_, (List.pairwise_cons.mp O3.rp).2, fun z hz => O3.bd z (List.mem_cons_of_mem _ hz)⟩
          · rcases List.mem_append.mp ht with ht | ht
            · exact O3.tie t ht
            · rw [List.mem_singleton.mp ht]
              exact ⟨by dsimp only; omega, by dsimp only; omega, by dsimp only; omega⟩
          · refine List.pairwise_append.mpr ⟨O3.ord, by simp, fun a ha b hb => ?_⟩
            rw [List.mem_singleton.mp hb]
            rcases O3.lt a ha with q | ⟨q1, q2⟩
            · exact .inl q
            · exact .inr ⟨q1, q2 y List.mem_cons_self⟩
          · rw [List.length_append, List.length_singleton]
            omega
          · rw [List.length_append, List.length_singleton]
            omega
          · rcases List.mem_append.mp ht with ht | ht
            · exact rest t ht
            · rw [List.mem_singleton.mp ht]
              exact .inr ⟨rfl, (List.pairwise_cons.mp O3.rp).1⟩
        · simp only [c1, c2, decide_true, decide_false, ↓reduceIte, Option.bind_some, Bool.false_eq_true]
          exact ⟨_, rfl, O3.tie, O3.ord, O3.len, O3.small, rest, (List.pairwise_cons.mp O3.rp).2, fun z hz => O3.bd z (List.mem_cons_of_mem _ hz)⟩
      · simp only [c1, decide_false, ↓reduceIte, Option.bind_some, Bool.false_eq_true]
        exact ⟨_, rfl, O3.tie, O3.ord, O3.len, O3.small, rest, (List.pairwise_cons.mp O3.rp).2, fun z hz => O3.bd z (List.mem_cons_of_mem _ hz)⟩
end Q

set_option linter.all false
/-! A tie cut, a tie merged. -/
namespace Q
open Dv
def asked_web (points : Int) (ties : List (Int × Int)) : Rs Unit :=
  ((is_web points ties).bind fun y1 => some (!y1)).bind fun b2 => if b2 = true then
    some (.error .noWeb)
  else
  some (.ok ())
def without (ties : List (Int × Int)) (tie : Int × Int) : Option (List (Int × Int)) :=
  lc (fun (q3 : Int × Int) => some (!decide (q3 = tie))) (fun (q3 : Int × Int) => some q3) ties
def named (point : Int) (tie : Int × Int) : Option Int :=
  (some (decide (point = tie.2))).bind fun b5 => if b5 = true then
    some tie.1
  else
  (some (decide (tie.2 < point))).bind fun b6 => if b6 = true then
    some (point - 1)
  else
  some point
def put_together (ties : List (Int × Int)) (tie : Int × Int) : Option (List (Int × Int)) :=
  (some []).bind fun found_7 =>
  (without ties tie).bind fun xs8 => (loopG (S := (List (Int × Int))) (fun (s9 : (List (Int × Int))) (q10 : Int × Int) =>
      (named q10.1 tie).bind fun low_14 =>
      (named q10.2 tie).bind fun high_15 =>
      (putDZ s9 ((if high_15 < low_14 then high_15 else low_14), (if low_14 < high_15 then high_15 else low_14))).bind fun found_16 =>
      some found_16) found_7 xs8).bind fun s12 =>
  some (srt leP s12)
theorem asked_web_eq (p : Int) (ts : List (Int × Int)) (h : ts.length ≤ 1000) : asked_web p ts = some (if Web p ts then .ok () else .error .noWeb) := by
  unfold asked_web
  rw [is_web_eq p ts h]
  by_cases w : Web p ts <;> simp [w]
theorem asked_web_ok {p : Int} {ts : List (Int × Int)} (w : Web p ts) : asked_web p ts = some (.ok ()) := by
  rw [asked_web_eq p ts (by have := w.2.1; omega), if_pos w]
/-- the ties but one -/
def wo (ts : List (Int × Int)) (t : Int × Int) : List (Int × Int) := ts.filter fun u => !decide (u = t)
theorem without_eq (ts : List (Int × Int)) (t : Int × Int) (h : ts.length ≤ 1000) : without ts t = some (wo ts t) := by
  unfold without wo
  rw [lc_all (fun u => !decide (u = t)) (fun u => u) (by omega) (fun _ _ => rfl) fun _ _ _ => rfl]
  simp
theorem wo_len (ts : List (Int × Int)) (t : Int × Int) : (wo ts t).length ≤ ts.length := List.length_filter_le _ _
/-- a point's number behind the merging -/
def nm (t : Int × Int) (x : Int) : Int := if x = t.2 then t.1 else if t.2 < x then x - 1 else x
theorem named_eq (x : Int) (t : Int × Int) : named x t = some (nm t x) := by
  unfold named nm
  by_cases h1 : x = t.2
  · simp [h1]
  · by_cases h2 : t.2 < x <;> simp [h1, h2]
def mm (a b : Int) : Int × Int := (if b < a then b else a, if a < b then b else a)
/-- a tie behind the merging -/
def mt (t u : Int × Int) : Int × Int := mm (nm t u.1) (nm t u.2)
/-- each once, in the order in which they came -/
def uniq (l : List (Int × Int)) : List (Int × Int) := l.foldl putD []
/-- the ties of the web with t merged -/
def mg (ts : List (Int × Int)) (t : Int × Int) : List (Int × Int) := srt leP (uniq ((wo ts t).map (mt t)))
theorem putD_len (s : List (Int × Int)) (t : Int × Int) : (putD s t).length ≤ s.length + 1 := by
  unfold putD
  split
  · omega
  · simp
theorem put_together_eq (ts : List (Int × Int)) (t : Int × Int) (h : ts.length ≤ 1000) : put_together ts t = some (mg ts t) := by
  unfold put_together
  simp only [Option.bind_some]
  rw [without_eq ts t h, Option.bind_some]
  have hl := wo_len ts t
  have key : ∀ (l : List (Int × Int)) (s : List (Int × Int)), s.length + l.length ≤ 1000 → loopG (S := (List (Int × Int))) (fun (s31 : (List (Int × Int))) (q32 : Int × Int) =>
      (named q32.1 t).bind fun low_36 =>
      (named q32.2 t).bind fun high_37 =>
      (putDZ s31 ((if high_37 < low_36 then high_37 else low_36), (if low_36 < high_37 then high_37 else low_36))).bind fun found_38 =>
      some found_38) s l = some ((l.map (mt t)).foldl putD s) := by
    intro l
    induction l with
    | nil => intro s _; rfl
    | cons u l ih =>
      intro s hs
      rw [List.length_cons] at hs
      show ((named u.1 t).bind _).bind _ = _
      rw [named_eq, Option.bind_some, named_eq, Option.bind_some]
      have hp : putDZ s (mt t u) = some (putD s (mt t u)) := if_pos (by omega)
      show ((putDZ s (mt t u)).bind _).bind _ = _
      rw [hp, Option.bind_some, Option.bind_some, ih _ (by have := putD_len s (mt t u); omega)]
      rfl
  rw [key _ [] (by simp; omega), Option.bind_some]
  rfl
theorem putD_mem (s : List (Int × Int)) (t u : Int × Int) : u ∈ putD s t ↔ u ∈ s ∨ u = t := by
  unfold putD
  split
  · rename_i h
    constructor
    · exact .inl
    · rintro (h2 | rfl)
      · exact h2
      · exact h
  · simp
theorem putD_nodup {s : List (Int × Int)} (h : s.Nodup) (t : Int × Int) : (putD s t).Nodup := by
  unfold putD
  split
  · exact h
  · rename_i n
    refine List.nodup_append.mpr ⟨h, by simp, fun a ha b hb => ?_⟩
    rw [List.mem_singleton.mp hb]
    exact fun e => n (e ▸ ha)
theorem uniq_mem (l : List (Int × Int)) (u : Int × Int) : u ∈ uniq l ↔ u ∈ l := by
  have : ∀ (l s : List (Int × Int)), u ∈ l.foldl putD s ↔ u ∈ s ∨ u ∈ l := by
    intro l
    induction l with
    | nil => intro s; simp
    | cons x l ih =>
      intro s
      rw [List.foldl_cons, ih, putD_mem, List.mem_cons, or_assoc]
  have h := this l []
  simp only [List.not_mem_nil, false_or] at h
  exact h
theorem uniq_nodup (l : List (Int × Int)) : (uniq l).Nodup := by
  have : ∀ (l s : List (Int × Int)), s.Nodup → (l.foldl putD s).Nodup := by
    intro l
    induction l with
    | nil => intro s h; exact h
    | cons x l ih => intro s h; exact ih _ (putD_nodup h x)
  exact this l [] .nil
theorem uniq_len (l : List (Int × Int)) : (uniq l).length ≤ l.length := by
  have : ∀ (l s : List (Int × Int)), (l.foldl putD s).length ≤ s.length + l.length := by
    intro l
    induction l with
    | nil => intro s; simp
    | cons x l ih =>
      intro s
      have h1 := ih (putD s x)
      have h2 := putD_len s x
      rw [List.foldl_cons, List.length_cons]
      omega
  have h := this l []
  simp only [List.length_nil, Nat.zero_add] at h
  exact h
theorem mg_mem (ts : List (Int × Int)) (t u : Int × Int) : u ∈ mg ts t ↔ ∃ v ∈ ts, v ≠ t ∧ mt t v = u := by
  unfold mg
  rw [(srt_perm _).mem_iff, uniq_mem, List.mem_map]
  unfold wo
  constructor
  · rintro ⟨v, hv, e⟩
    rw [List.mem_filter] at hv
    exact ⟨v, hv.1, by simpa using hv.2, e⟩
  · rintro ⟨v, hv, hn, e⟩
    exact ⟨v, List.mem_filter.mpr ⟨hv, by simpa using hn⟩, e⟩
theorem mg_nodup (ts : List (Int × Int)) (t : Int × Int) : (mg ts t).Nodup := ((srt_perm _).nodup_iff).mpr (uniq_nodup _)
theorem mg_len (ts : List (Int × Int)) (t : Int × Int) : (mg ts t).length ≤ (wo ts t).length := by
  unfold mg
  rw [(srt_perm _).length_eq]
  have := uniq_len ((wo ts t).map (mt t))
  rw [List.length_map] at this
  exact this
theorem leP_ltT {a b : Int × Int} (h : leP a b = true) (n : a ≠ b) : ltT a b := by
  have n2 : ¬ (a.1 = b.1 ∧ a.2 = b.2) := fun z => n (Prod.ext z.1 z.2)
  unfold leP at h
  unfold ltT
  split at h <;> simp only [decide_eq_true_eq] at h <;> omega
theorem srt_ord {l : List (Int × Int)} (h : l.Nodup) : (srt leP l).Pairwise ltT := by
  have h1 := srt_sorted ordP l
  have h2 : (srt leP l).Nodup := ((srt_perm l).nodup_iff).mpr h
  exact List.Pairwise.imp₂ (fun a b q n => leP_ltT q n) h1 h2
end Q

set_option linter.all false
/-! The worth of a row at a number. -/
namespace Q
open Dv
def worth (numbers : List Int) (q : Int) : Option Int :=
  (some 0).bind fun total_1 =>
  (some numbers.reverse).bind fun xs2 => (loopG (S := Int) (fun (s3 : Int) (q4 : Int) =>
      ((mulZ s3 q).bind fun y8 => some (y8 + q4)).bind fun total_9 =>
      some total_9) total_1 xs2).bind fun s6 =>
  some s6
def at_ (numbers : List Int) (q : Int) : Option Int :=
  (some 0).bind fun total_10 =>
  (some 1).bind fun power_11 =>
  (some numbers).bind fun xs12 => (loopG (S := Int × Int) (fun (s13 : Int × Int) (q14 : Int) =>
      ((mulZ q14 s13.2).bind fun y18 => some (s13.1 + y18)).bind fun total_19 =>
      (mulZ s13.2 q).bind fun power_20 =>
      some (total_19, power_20)) (total_10, power_11) xs12).bind fun s16 =>
  some s16.1
def whole (found : Int) : Option Bool :=
  (if true = true then some (!false) else some false)
/-- x0 + x1 q + x2 q q .. -/
def ev : List Int → Int → Int
  | [], _ => 0
  | x :: xs, q => x + q * ev xs q
theorem worth_eq (xs : List Int) {q : Int} (h : -1000 ≤ q) (h2 : q ≤ 1000) : worth xs q = some (ev xs q) := by
  unfold worth
  simp only [Option.bind_some]
  have e := loopG_fold (f := fun (s3 : Int) (q4 : Int) => ((mulZ s3 q).bind fun y8 => some (y8 + q4)).bind fun total_9 => some total_9) (fun s x => s * q + x) (fun _ => True) (xs := xs.reverse) (s := 0) trivial
    (fun s x _ _ => ⟨by rw [mulZ_r (by omega) (by omega)]; rfl, trivial⟩)
  rw [e.1, Option.bind_some]
  congr 1
  rw [List.foldl_reverse]
  have : ∀ ys : List Int, ys.foldr (fun x s => s * q + x) 0 = ev ys q := fun ys => by
    induction ys with
    | nil => rfl
    | cons y ys ih =>
      show ys.foldr (fun x s => s * q + x) 0 * q + y = y + q * ev ys q
      rw [ih, Int.mul_comm, Int.add_comm]
  exact this xs
theorem pow_bd {a q : Int} {B : Nat} (h : a.natAbs ≤ B) (hq : q.natAbs ≤ 100) : (a * q).natAbs ≤ B * 100 := by
  rw [Int.natAbs_mul]
  exact Nat.mul_le_mul h hq
theorem at_loop (q : Int) (hq : q.natAbs ≤ 100) : ∀ (xs : List Int) (t pw : Int) (n : Nat), xs.length ≤ n → n ≤ 8 → pw.natAbs ≤ 100 ^ (8 - n) →
    loopG (S := Int × Int) (fun (s14 : Int × Int) (q15 : Int) =>
      ((mulZ q15 s14.2).bind fun y19 => some (s14.1 + y19)).bind fun total_20 =>
      (mulZ s14.2 q).bind fun power_21 =>
      some (total_20, power_21)) (t, pw) xs = some (t + pw * ev xs q, pw * q ^ xs.length)
  | [], t, pw, n, _, _, _ => by simp [loopG, ev]
  | x :: xs, t, pw, 0, h, _, _ => by simp at h
  | x :: xs, t, pw, n + 1, h, hn, hp => by
    have hp2 : pw.natAbs ≤ 100 ^ 7 := Nat.le_trans hp (Nat.pow_le_pow_right (by decide) (by omega))
    have h7 : (100 : Nat) ^ 7 = 100000000000000 := by decide
    rw [h7] at hp2
    have hb := pow_bd hp hq
    have e1 : 100 ^ (8 - (n + 1)) * 100 = 100 ^ (8 - n) := by
      rw [← Nat.pow_succ]
      congr 1
      omega
    rw [e1] at hb
    show ((((mulZ x pw).bind fun y19 => some (t + y19)).bind fun total_20 => (mulZ pw q).bind fun power_21 => some (total_20, power_21)).bind _) = _
    rw [mulZ_r (by omega) (by omega), Option.bind_some, Option.bind_some, mulZ_r (by omega) (by omega), Option.bind_some, Option.bind_some,
      at_loop q hq xs (t + x * pw) (pw * q) n (by simpa using h) (by omega) hb]
    congr 2
    · show t + x * pw + pw * q * ev xs q = t + pw * (x + q * ev xs q)
      rw [Int.mul_add, Int.mul_comm x pw, Int.mul_assoc, Int.add_assoc]
    · rw [List.length_cons, Int.pow_succ, Int.mul_assoc, Int.mul_comm (q ^ xs.length) q]
theorem at_eq (xs : List Int) {q : Int} (hl : xs.length ≤ 8) (h : -100 ≤ q) (h2 : q ≤ 100) : at_ xs q = some (ev xs q) := by
  unfold at_
  simp only [Option.bind_some]
  rw [at_loop q (by omega) xs 0 1 8 hl (by omega) (by decide)]
  simp
theorem whole_eq (n : Int) : whole n = some true := rfl
end Q

set_option linter.all false
/-! Sums over all lists of dyes. -/
namespace Q
open Dv
def sm : Nat → (Nat → Int) → Int
  | 0, _ => 0
  | n + 1, f => sm n f + f n
theorem sm_congr {f g : Nat → Int} : ∀ {n : Nat}, (∀ i, i < n → f i = g i) → sm n f = sm n g
  | 0, _ => rfl
  | n + 1, h => by
    show sm n f + f n = sm n g + g n
    rw [sm_congr fun i hi => h i (by omega), h n (by omega)]
theorem sm_zero : ∀ n : Nat, sm n (fun _ => 0) = 0
  | 0 => rfl
  | n + 1 => by
    show sm n (fun _ => 0) + 0 = 0
    rw [sm_zero n]
    rfl
theorem sm_add (f g : Nat → Int) : ∀ n : Nat, sm n (fun i => f i + g i) = sm n f + sm n g
  | 0 => rfl
  | n + 1 => by
    show sm n (fun i => f i + g i) + (f n + g n) = sm n f + f n + (sm n g + g n)
    rw [sm_add f g n]
    omega
theorem sm_sub (f g : Nat → Int) : ∀ n : Nat, sm n (fun i => f i - g i) = sm n f - sm n g
  | 0 => rfl
  | n + 1 => by
    show sm n (fun i => f i - g i) + (f n - g n) = sm n f + f n - (sm n g + g n)
    rw [sm_sub f g n]
    omega
theorem sm_mul (c : Int) (f : Nat → Int) : ∀ n : Nat, sm n (fun i => c * f i) = c * sm n f
  | 0 => by simp [sm]
  | n + 1 => by
    show sm n (fun i => c * f i) + c * f n = c * (sm n f + f n)
    rw [sm_mul c f n, Int.mul_add]
theorem sm_comm (f : Nat → Nat → Int) (m : Nat) : ∀ n : Nat, sm n (fun i => sm m (f i)) = sm m (fun j => sm n (fun i => f i j))
  | 0 => (sm_zero m).symm
  | n + 1 => by
    show sm n (fun i => sm m (f i)) + sm m (f n) = sm m (fun j => sm n (fun i => f i j) + f n j)
    rw [sm_comm f m n, sm_add]
theorem sm_one {f : Nat → Int} {k : Nat} : ∀ {n : Nat}, (∀ i, i < n → i ≠ k → f i = 0) → sm n f = if k < n then f k else 0
  | 0, _ => rfl
  | n + 1, h => by
    show sm n f + f n = _
    rw [sm_one (k := k) (n := n) fun i hi => h i (by omega)]
    by_cases c : k = n
    · subst c
      simp
    · rw [h n (by omega) (fun e => c e.symm)]
      by_cases d : k < n
      · have : k < n + 1 := by omega
        simp [d, this]
      · have : ¬ k < n + 1 := by omega
        simp [d, this]
theorem sm_nonneg {f : Nat → Int} : ∀ {n : Nat}, (∀ i, i < n → 0 ≤ f i) → 0 ≤ sm n f
  | 0, _ => Int.le_refl 0
  | n + 1, h => by
    show 0 ≤ sm n f + f n
    have h1 := sm_nonneg fun i (hi : i < n) => h i (by omega)
    have h2 := h n (by omega)
    omega
theorem sm_append (f : Nat → Int) (m : Nat) : ∀ n : Nat, sm (m + n) f = sm m f + sm n (fun i => f (m + i))
  | 0 => by simp [sm]
  | n + 1 => by
    show sm (m + n) f + f (m + n) = sm m f + (sm n (fun i => f (m + i)) + f (m + n))
    rw [sm_append f m n]
    omega
/-- m turns of n -/
theorem sm_block (f : Nat → Int) (n : Nat) : ∀ m : Nat, sm (n * m) f = sm m (fun a => sm n (fun b => f (n * a + b)))
  | 0 => rfl
  | m + 1 => by
    rw [Nat.mul_succ, sm_append, sm_block f n m]
    rfl
/-- the sum over all lists of n dyes below q -/
def S : Nat → Nat → (List Int → Int) → Int
  | 0, _, w => w []
  | n + 1, q, w => sm q fun c => S n q fun t => w ((c : Int) :: t)
/-- n dyes below q -/
def In (n q : Nat) (t : List Int) : Prop := t.length = n ∧ ∀ x ∈ t, 0 ≤ x ∧ x < q
theorem S_congr {q : Nat} : ∀ {n : Nat} {w w' : List Int → Int}, (∀ t, In n q t → w t = w' t) → S n q w = S n q w'
  | 0, _, _, h => h [] ⟨rfl, by simp⟩
  | n + 1, w, w', h => sm_congr fun c hc => S_congr fun t ht => h _ ⟨by simp [ht.1], fun x hx => by
      rcases List.mem_cons.mp hx with rfl | hx
      · omega
      · exact ht.2 x hx⟩
theorem S_add {q : Nat} : ∀ {n : Nat} (w w' : List Int → Int), S n q (fun t => w t + w' t) = S n q w + S n q w'
  | 0, _, _ => rfl
  | n + 1, w, w' => by
    show sm q (fun c => S n q fun t => w ((c : Int) :: t) + w' (c :: t)) = sm q _ + sm q _
    rw [← sm_add]
    exact sm_congr fun c _ => S_add _ _
theorem S_sub {q : Nat} : ∀ {n : Nat} (w w' : List Int → Int), S n q (fun t => w t - w' t) = S n q w - S n q w'
  | 0, _, _ => rfl
  | n + 1, w, w' => by
    show sm q (fun c => S n q fun t => w ((c : Int) :: t) - w' (c :: t)) = sm q _ - sm q _
    rw [← sm_sub]
    exact sm_congr fun c _ => S_sub _ _
theorem S_zero {q : Nat} : ∀ {n : Nat}, S n q (fun _ => 0) = 0
  | 0 => rfl
  | n + 1 => by
    show sm q (fun c => S n q fun t => 0) = 0
    rw [sm_congr fun c _ => S_zero (q := q) (n := n), sm_zero]
theorem S_mul {q : Nat} (a : Int) : ∀ {n : Nat} (w : List Int → Int), S n q (fun t => a * w t) = a * S n q w
  | 0, _ => rfl
  | n + 1, w => by
    show sm q (fun c => S n q fun t => a * w ((c : Int) :: t)) = a * sm q _
    rw [← sm_mul]
    exact sm_congr fun c _ => S_mul a _
theorem S_nonneg {q : Nat} : ∀ {n : Nat} {w : List Int → Int}, (∀ t, In n q t → 0 ≤ w t) → 0 ≤ S n q w
  | 0, _, h => h [] ⟨rfl, by simp⟩
  | n + 1, w, h => sm_nonneg fun c hc => S_nonneg fun t ht => h _ ⟨by simp [ht.1], fun x hx => by
      rcases List.mem_cons.mp hx with rfl | hx
      · omega
      · exact ht.2 x hx⟩
theorem sm_le_one {f : Nat → Int} {k : Nat} : ∀ {n : Nat}, k < n → (∀ i, i < n → 0 ≤ f i) → f k ≤ sm n f
  | n + 1, hk, h => by
    show f k ≤ sm n f + f n
    have h2 := h n (by omega)
    have h3 := sm_nonneg fun i (hi : i < n) => h i (by omega)
    by_cases c : k = n
    · subst c
      omega
    · have h1 := sm_le_one (k := k) (n := n) (by omega) fun i hi => h i (by omega)
      omega
theorem S_le_one {q : Nat} : ∀ {n : Nat} {w : List Int → Int}, (∀ t, In n q t → 0 ≤ w t) → ∀ t, In n q t → w t ≤ S n q w
  | 0, w, h, t, ht => by
    have : t = [] := List.length_eq_zero_iff.mp ht.1
    subst this
    exact Int.le_refl _
  | n + 1, w, h, [], ht => by simp [In] at ht
  | n + 1, w, h, x :: t, ht => by
    have hx := ht.2 x List.mem_cons_self
    have ht' : In n q t := ⟨by simpa using ht.1, fun y hy => ht.2 y (List.mem_cons_of_mem _ hy)⟩
    have hin : ∀ c : Nat, c < q → ∀ t, In n q t → In (n + 1) q ((c : Int) :: t) := fun c hc t ht => ⟨by simp [ht.1], fun y hy => by
      rcases List.mem_cons.mp hy with rfl | hy
      · omega
      · exact ht.2 y hy⟩
    have h1 := S_le_one (q := q) (n := n) (w := fun t => w (x :: t)) (fun t ht => by
      have e : ((x.toNat : Nat) : Int) = x := by omega
      rw [← e]
      exact h _ (hin x.toNat (by omega) t ht)) t ht'
    refine Int.le_trans h1 ?_
    have e : ((x.toNat : Nat) : Int) = x := by omega
    have := sm_le_one (f := fun c => S n q fun t => w ((c : Int) :: t)) (k := x.toNat) (n := q) (by omega) fun c hc => S_nonneg fun t ht => h _ (hin c hc t ht)
    rw [e] at this
    exact this
theorem S_sm {q : Nat} (f : Nat → List Int → Int) (m : Nat) : ∀ n : Nat, sm m (fun c => S n q (f c)) = S n q (fun t => sm m (fun c => f c t))
  | 0 => rfl
  | n + 1 => by
    show sm m (fun c => sm q fun d => S n q fun t => f c ((d : Int) :: t)) = sm q fun d => S n q fun t => sm m fun c => f c (d :: t)
    rw [sm_comm]
    exact sm_congr fun d _ => S_sm (fun c t => f c ((d : Int) :: t)) m n
/-- a dye put in at a place -/
def insA : Nat → Int → List Int → List Int
  | 0, c, t => c :: t
  | _ + 1, c, [] => [c]
  | v + 1, c, x :: t => x :: insA v c t
theorem S_ins {q : Nat} : ∀ {v n : Nat} (w : List Int → Int), v ≤ n → S (n + 1) q w = S n q (fun t => sm q fun c => w (insA v c t))
  | 0, n, w, _ => S_sm (fun c t => w ((c : Int) :: t)) q n
  | v + 1, 0, _, h => by omega
  | v + 1, n + 1, w, h => by
    show sm q (fun x => S (n + 1) q fun t => w ((x : Int) :: t)) = sm q fun x => S n q fun t => sm q fun c => w ((x : Int) :: insA v c t)
    exact sm_congr fun x _ => S_ins (v := v) (fun t => w ((x : Int) :: t)) (by omega)
/-- a point's dye -/
def gi (t : List Int) (x : Int) : Int := t.getD x.toNat 0
theorem gi_cons0 (c : Int) (t : List Int) : gi (c :: t) 0 = c := rfl
theorem insA_get (c : Int) : ∀ (v : Nat) (t : List Int), v ≤ t.length → ∀ x : Nat, (insA v c t).getD x 0 = if x < v then t.getD x 0 else if x = v then c else t.getD (x - 1) 0
  | 0, t, _, 0 => rfl
  | 0, t, _, x + 1 => by
    show (c :: t).getD (x + 1) 0 = _
    simp
  | v + 1, [], h, _ => by simp at h
  | v + 1, y :: t, h, 0 => by simp [insA]
  | v + 1, y :: t, h, x + 1 => by
    show (y :: insA v c t).getD (x + 1) 0 = _
    have ih := insA_get c v t (by simpa using h) x
    simp only [List.getD_cons_succ]
    rw [ih]
    by_cases h1 : x < v
    · simp [h1]
    · by_cases h2 : x = v
      · simp [h2]
      · simp only [h1, h2, ↓reduceIte, Nat.add_lt_add_iff_right, Nat.add_right_cancel_iff, Nat.add_sub_cancel]
        obtain ⟨z, rfl⟩ : ∃ z, x = z + 1 := ⟨x - 1, by omega⟩
        simp
theorem gi_ins {c : Int} {v : Nat} {t : List Int} (h : v ≤ t.length) {x : Int} (hx : 0 ≤ x) : gi (insA v c t) x = if x < v then gi t x else if x = v then c else gi t (x - 1) := by
  unfold gi
  rw [insA_get c v t h]
  by_cases h1 : x < v
  · have : x.toNat < v := by omega
    simp [h1, this]
  · by_cases h2 : x = v
    · subst h2
      simp
    · have h3 : ¬ x.toNat < v := by omega
      have h4 : ¬ x.toNat = v := by omega
      have h5 : (x - 1).toNat = x.toNat - 1 := by omega
      simp [h1, h2, h3, h4, h5]
theorem gi_in {n q : Nat} {t : List Int} (h : In n q t) {x : Int} (h0 : 0 ≤ x) (h1 : x < n) : 0 ≤ gi t x ∧ gi t x < q := by
  unfold gi
  have e : x.toNat < t.length := by
    have := h.1
    omega
  rw [List.getD_eq_getElem?_getD, List.getElem?_eq_getElem e]
  exact h.2 _ (List.getElem_mem e)
/-- both ends of a tie with one dye: the greater end is left out -/
theorem S_merge {n q : Nat} {u v : Int} (hu : 0 ≤ u) (huv : u < v) (hv : v < n + 1) (w : List Int → Int) :
    S (n + 1) q (fun t => if gi t u = gi t v then w t else 0) = S n q (fun t => w (insA v.toNat (gi t u) t)) := by
  rw [S_ins (v := v.toNat) _ (by omega)]
  refine S_congr fun t ht => ?_
  have hl : v.toNat ≤ t.length := by
    have := ht.1
    omega
  obtain ⟨b0, b1⟩ := gi_in ht hu (by omega)
  have e : ∀ c : Int, (if gi (insA v.toNat c t) u = gi (insA v.toNat c t) v then w (insA v.toNat c t) else 0) = if gi t u = c then w (insA v.toNat c t) else 0 := fun c => by
    rw [gi_ins hl hu, gi_ins hl (by omega)]
    have h1 : u < (v.toNat : Int) := by omega
    have h2 : ¬ v < (v.toNat : Int) := by omega
    have h3 : v = (v.toNat : Int) := by omega
    rw [if_pos h1, if_neg h2, if_pos h3]
  rw [sm_congr fun c _ => e c, sm_one (k := (gi t u).toNat)]
  · have e2 : ((gi t u).toNat : Int) = gi t u := by omega
    rw [if_pos (by omega), e2, if_pos rfl]
  · intro i _ hi
    exact if_neg fun z => hi (by omega)
end Q

set_option linter.all false
/-! The row of a web. -/
namespace Q
open Dv
def row_byF : Nat → Int → (List (Int × Int)) → Option (List Int)
  | 0, _, _ => none
  | n_ + 1, points, ties =>
  (some (decide ((ties.length : Int) = 0))).bind fun b1 => if b1 = true then
    ((rng 0 points).bind fun y4 => lc (fun (q2 : Int) => some true) (fun (q2 : Int) => some 0) y4).bind fun y5 => catL y5 [1]
  else
  (atZ ties (-1)).bind fun tie_6 =>
  (row_byF n_ points (cutZ ties none (some (-1)))).bind fun less_7 =>
  (((((put_together ties tie_6).bind fun y8 => some (y8, ())).bind fun y9 => some ((points - 1), y9)).bind fun a10 => row_byF n_ a10.1 a10.2.1).bind fun y11 => catL y11 [0]).bind fun other_12 =>
  (rng 0 (points + 1)).bind fun y17 => lc (fun (q13 : Int) => some true) (fun (q13 : Int) => (atZ less_7 q13).bind fun y14 => (atZ other_12 q13).bind fun y15 => some (y14 - y15)) y17
def row_by (points : Int) (ties : List (Int × Int)) : Option (List Int) := row_byF 20 points ties
def row (points : Int) (ties : List (Int × Int)) : Rs (List Int) :=
  (asked_web points ties).bind fun y18 => exB y18 fun _ =>
  (row_by points ties).bind fun y21 => some (.ok y21)
/-- a row of a web without its last tie, less another -/
def lessL (a b : List Int) : List Int := List.zipWith (fun x y => x - y) a b
/-- the row, with fuel -/
def R : Nat → Nat → List (Int × Int) → List Int
  | 0, _, _ => []
  | d + 1, n, ts => match ts.getLast? with
    | none => List.replicate n 0 ++ [1]
    | some t => lessL (R d n ts.dropLast) (R d (n - 1) (mg ts t) ++ [0])
theorem nm_bd {n : Int} {t : Int × Int} (h : Tie (n + 1) t) {x : Int} (h0 : 0 ≤ x) (h1 : x < n + 1) : 0 ≤ nm t x ∧ nm t x < n := by
  unfold Tie at h
  unfold nm
  split
  · omega
  · split <;> omega
theorem nm_inj {n : Int} {t : Int × Int} (h : Tie (n + 1) t) {x y : Int} (hxy : x < y) (hn : ¬ (x = t.1 ∧ y = t.2)) : nm t x ≠ nm t y := by
  unfold Tie at h
  unfold nm
  split
  · split
    · omega
    · split <;> omega
  · split
    · split
      · omega
      · split <;> omega
    · split
      · omega
      · split <;> omega
theorem mt_tie {n : Int} {t u : Int × Int} (h : Tie (n + 1) t) (hu : Tie (n + 1) u) (hn : u ≠ t) : Tie n (mt t u) := by
  have hu' := hu
  unfold Tie at hu'
  obtain ⟨a0, a1⟩ := nm_bd h (x := u.1) (by omega) (by omega)
  obtain ⟨b0, b1⟩ := nm_bd h (x := u.2) (by omega) (by omega)
  have ne := nm_inj h (x := u.1) (y := u.2) (by omega) fun z => hn (Prod.ext z.1 z.2)
  unfold mt mm Tie
  dsimp only
  split <;> split <;> omega
theorem mg_ties {n : Int} {ts : List (Int × Int)} {t : Int × Int} (h : Ties (n + 1) ts) (ht : Tie (n + 1) t) : Ties n (mg ts t) := by
  refine ⟨fun u hu => ?_, ?_⟩
  · obtain ⟨v, hv, hn, rfl⟩ := (mg_mem ts t u).mp hu
    exact mt_tie ht (h.tie v hv) hn
  · exact srt_ord (uniq_nodup _)
theorem Ties.nodup {p : Int} {ts : List (Int × Int)} (h : Ties p ts) : ts.Nodup :=
  List.Pairwise.imp (fun {a b} q e => by subst e; unfold ltT at q; omega) h.ord
theorem Ties.sub {p : Int} {ts us : List (Int × Int)} (h : Ties p ts) (s : us.Sublist ts) : Ties p us := ⟨fun t ht => h.tie t (s.subset ht), h.ord.sublist s⟩
theorem wo_last {ts : List (Int × Int)} {t : Int × Int} (h : (ts ++ [t]).Nodup) : wo (ts ++ [t]) t = ts := by
  unfold wo
  have h2 := List.nodup_append.mp h
  rw [List.filter_append, List.filter_eq_self.mpr fun u hu => ?_]
  · simp
  · have := h2.2.2 u hu t (by simp)
    simp [this]
theorem mg_last_len {ts : List (Int × Int)} {t : Int × Int} (h : (ts ++ [t]).Nodup) : (mg (ts ++ [t]) t).length ≤ ts.length := by
  have := mg_len (ts ++ [t]) t
  rw [wo_last h] at this
  exact this
theorem lessL_len {a b : List Int} {n : Nat} (ha : a.length = n) (hb : b.length = n) : (lessL a b).length = n := by
  unfold lessL
  rw [List.length_zipWith, ha, hb, Nat.min_self]
theorem R_len : ∀ {d n : Nat} {ts : List (Int × Int)}, Ties n ts → ts.length < d → (R d n ts).length = n + 1
  | 0, _, _, _, h => by omega
  | d + 1, n, ts, hT, h => by
    unfold R
    rcases List.eq_nil_or_concat ts with rfl | ⟨us, t, rfl⟩
    · simp
    · rw [List.concat_eq_append] at *
      rw [List.getLast?_append, List.getLast?_singleton]
      simp only [Option.some_or, List.dropLast_concat]
      rw [List.length_append, List.length_singleton] at h
      have ht := hT.tie t (by simp)
      have hn : 1 ≤ n := by unfold Tie at ht; omega
      obtain ⟨n, rfl⟩ : ∃ k, n = k + 1 := ⟨n - 1, by omega⟩
      refine lessL_len (R_len (hT.sub (List.sublist_append_left us [t])) (by omega)) ?_
      rw [List.length_append, List.length_singleton]
      have := mg_last_len hT.nodup
      rw [Nat.add_sub_cancel, R_len (mg_ties hT ht) (by omega)]
theorem zip_idx (a b : List Int) (h : a.length = b.length) : lessL a b = (List.range a.length).map fun i => a.getD i 0 - b.getD i 0 := by
  unfold lessL
  apply List.ext_getElem
  · simp [h]
  · intro i h1 h2
    simp at h1
    have ha : i < a.length := by omega
    have hb : i < b.length := by omega
    simp [List.getD_eq_getElem?_getD, ha, hb]
theorem atZ_getD (xs : List Int) {k : Nat} (h : k < xs.length) : atZ xs (k : Int) = some (xs.getD k 0) := by
  rw [atZ_nat, List.getD_eq_getElem?_getD]
  simp [h]
theorem less_eq {a b : List Int} {n : Nat} (ha : a.length = n + 1) (hb : b.length = n + 1) (hn : n ≤ 1000) :
    ((rng 0 ((n : Int) + 1)).bind fun y17 => lc (fun (q13 : Int) => some true) (fun (q13 : Int) => (atZ a q13).bind fun y14 => (atZ b q13).bind fun y15 => some (y14 - y15)) y17) = some (lessL a b) := by
  have e : ((n : Int) + 1) = ((n + 1 : Nat) : Int) := by omega
  rw [e, rng0 (by omega), Option.bind_some, lc_map (fun i => a.getD i.toNat 0 - b.getD i.toNat 0) (by simp; omega), zip_idx a b (by omega), ha, List.map_map]
  · congr 1
  · intro x hx
    obtain ⟨i, hi, rfl⟩ := List.mem_map.mp hx
    have := List.mem_range.mp hi
    rw [atZ_getD a (by omega), atZ_getD b (by omega)]
    simp
theorem zeros_eq {n : Nat} (hn : n ≤ 1000) : ((rng 0 (n : Int)).bind fun y => lc (fun (q : Int) => some true) (fun (q : Int) => some (0 : Int)) y) = some (List.replicate n 0) := by
  rw [rng0 (by omega), Option.bind_some, lc_map (fun _ => 0) (by simp; omega) fun _ _ => rfl]
  congr 1
  rw [List.map_map]
  apply List.ext_getElem
  · simp
  · intro i h1 h2
    simp
theorem cut_last (ts : List (Int × Int)) (t : Int × Int) : cutZ (ts ++ [t]) none (some (-1)) = ts := by
  unfold cutZ
  have e : cutIx (ts ++ [t]).length (ts ++ [t]).length (some (-1)) = ts.length := by
    unfold cutIx
    dsimp only
    rw [if_pos (by omega), List.length_append, List.length_singleton]
    omega
  rw [e]
  show List.take (ts.length - 0) (List.drop 0 _) = _
  simp
theorem at_last {α : Type} (ts : List α) (t : α) : atZ (ts ++ [t]) (-1) = some t := by
  unfold atZ ixZ
  rw [if_neg (by omega), if_pos (by rw [List.length_append, List.length_singleton]; omega), Option.bind_some, List.length_append, List.length_singleton]
  have e : (-1 + ((ts.length + 1 : Nat) : Int)).toNat = ts.length := by omega
  rw [e]
  simp
theorem row_byF_eq : ∀ {d n : Nat} {ts : List (Int × Int)}, Ties n ts → ts.length < d → d ≤ 100 → n ≤ 100 → row_byF d n ts = some (R d n ts)
  | 0, _, _, _, h, _, _ => by omega
  | d + 1, n, ts, hT, h, hd, hn' => by
    unfold row_byF R
    rcases List.eq_nil_or_concat ts with rfl | ⟨us, t, rfl⟩
    · simp only [List.length_nil, Option.bind_some]
      rw [if_pos (by simp), zeros_eq (by omega), Option.bind_some, catL_ok (by simp; omega)]
      simp
    · rw [List.concat_eq_append] at *
      rw [List.getLast?_append, List.getLast?_singleton]
      simp only [Option.some_or, List.dropLast_concat]
      have hl : (us ++ [t]).length = us.length + 1 := by simp
      rw [hl] at h
      have ht := hT.tie t (by simp)
      have hn : 1 ≤ n := by unfold Tie at ht; omega
      obtain ⟨n, rfl⟩ : ∃ k, n = k + 1 := ⟨n - 1, by omega⟩
      have hm := mg_last_len hT.nodup
      have hs := hT.sub (List.sublist_append_left us [t])
      have hg := mg_ties (n := (n : Int)) hT ht
      rw [Option.bind_some, if_neg (by simp; omega), at_last, Option.bind_some, cut_last, row_byF_eq hs (by omega) (by omega) (by omega), Option.bind_some, put_together_eq _ _ (by omega)]
      simp only [Option.bind_some]
      have e : (((n + 1 : Nat) : Int) - 1) = (n : Int) := by omega
      rw [e, row_byF_eq hg (by omega) (by omega) (by omega), Option.bind_some]
      have l1 := R_len (d := d) hs (by omega)
      have l2 := R_len (d := d) hg (by omega)
      rw [catL_ok (by rw [l2]; simp; omega), Option.bind_some]
      exact less_eq l1 (by simp [l2]) (by omega)
/-- the row of a web of p points -/
def Rw (p : Int) (ts : List (Int × Int)) : List Int := R 20 p.toNat ts
theorem row_by_eq {p : Int} {ts : List (Int × Int)} (w : Web p ts) : row_by p ts = some (Rw p ts) := by
  unfold row_by Rw
  obtain ⟨⟨h0, h1⟩, h2, h3⟩ := w
  have e : ((p.toNat : Nat) : Int) = p := by omega
  have := row_byF_eq (d := 20) (n := p.toNat) (ts := ts) (by rw [e]; exact h3) (by omega) (by omega) (by omega)
  rw [e] at this
  exact this
theorem row_eq {p : Int} {ts : List (Int × Int)} (w : Web p ts) : row p ts = some (.ok (Rw p ts)) := by
  unfold row
  rw [asked_web_ok w, Option.bind_some, exB_ok, row_by_eq w]
  rfl
theorem row_no {p : Int} {ts : List (Int × Int)} (h : ts.length ≤ 1000) (w : ¬ Web p ts) : row p ts = some (.error .noWeb) := by
  unfold row
  rw [asked_web_eq p ts h, if_neg w]
  rfl
theorem Rw_len {p : Int} {ts : List (Int × Int)} (w : Web p ts) : (Rw p ts).length = p.toNat + 1 := by
  obtain ⟨⟨h0, h1⟩, h2, h3⟩ := w
  have e : ((p.toNat : Nat) : Int) = p := by omega
  exact R_len (by rw [e]; exact h3) (by omega)
end Q
namespace Q
open Dv
theorem lessL_getD : ∀ {a b : List Int} (h : a.length = b.length) (i : Nat), (lessL a b).getD i 0 = a.getD i 0 - b.getD i 0
  | [], [], _, i => by simp [lessL]
  | x :: a, y :: b, h, 0 => rfl
  | x :: a, y :: b, h, i + 1 => lessL_getD (a := a) (b := b) (by simpa using h) i
  | [], _ :: _, h, _ => by simp at h
  | _ :: _, [], h, _ => by simp at h
theorem snoc0_getD (a : List Int) (i : Nat) : (a ++ [0]).getD i 0 = a.getD i 0 := by
  by_cases hi : i < a.length
  · rw [List.getD_eq_getElem?_getD, List.getD_eq_getElem?_getD, List.getElem?_append_left hi]
  · by_cases h2 : i = a.length
    · subst h2
      simp [List.getD_eq_getElem?_getD]
    · have h3 : ¬ i < a.length + 1 := by omega
      rw [List.getD_eq_getElem?_getD, List.getD_eq_getElem?_getD, List.getElem?_eq_none (by simp; omega), List.getElem?_eq_none (by omega)]
theorem getD_over {a : List Int} {i : Nat} (h : a.length ≤ i) : a.getD i 0 = 0 := by
  rw [List.getD_eq_getElem?_getD, List.getElem?_eq_none h]
  rfl
/-- what the row of a web with a tie is -/
theorem R_snoc {d n : Nat} {us : List (Int × Int)} {t : Int × Int} (hT : Ties ((n + 1 : Nat) : Int) (us ++ [t])) (h : us.length < d) :
    Ties ((n + 1 : Nat) : Int) us ∧ Ties (n : Int) (mg (us ++ [t]) t) ∧ (mg (us ++ [t]) t).length < d ∧ R (d + 1) (n + 1) (us ++ [t]) = lessL (R d (n + 1) us) (R d n (mg (us ++ [t]) t) ++ [0]) ∧
      (R d (n + 1) us).length = n + 2 ∧ (R d n (mg (us ++ [t]) t)).length = n + 1 := by
  have ht := hT.tie t (by simp)
  have hm := mg_last_len hT.nodup
  have hs := hT.sub (List.sublist_append_left us [t])
  have hg := mg_ties (n := (n : Int)) hT ht
  refine ⟨hs, hg, by omega, ?_, R_len hs h, R_len hg (by omega)⟩
  rw [R, List.getLast?_append, List.getLast?_singleton]
  simp only [Option.some_or, List.dropLast_concat, Nat.add_sub_cancel]
theorem R_ind {P : Nat → Nat → List (Int × Int) → Prop} (h0 : ∀ d n, P (d + 1) n [])
    (h1 : ∀ d n us t, Ties ((n + 1 : Nat) : Int) (us ++ [t]) → us.length < d → Ties ((n + 1 : Nat) : Int) us → Ties (n : Int) (mg (us ++ [t]) t) → (mg (us ++ [t]) t).length < d → P d (n + 1) us → P d n (mg (us ++ [t]) t) → P (d + 1) (n + 1) (us ++ [t])) :
    ∀ {d n : Nat} {ts : List (Int × Int)}, Ties n ts → ts.length < d → P d n ts
  | 0, _, _, _, h => by omega
  | d + 1, n, ts, hT, h => by
    rcases List.eq_nil_or_concat ts with rfl | ⟨us, t, rfl⟩
    · exact h0 d n
    · rw [List.concat_eq_append] at *
      rw [List.length_append, List.length_singleton] at h
      have ht := hT.tie t (by simp)
      have hn : 1 ≤ n := by unfold Tie at ht; omega
      obtain ⟨n, rfl⟩ : ∃ k, n = k + 1 := ⟨n - 1, by omega⟩
      obtain ⟨hs, hg, hm, _⟩ := R_snoc hT (d := d) (by omega)
      exact h1 d n us t hT (by omega) hs hg hm (R_ind h0 h1 hs (by omega)) (R_ind h0 h1 hg hm)
theorem R_nil (d n : Nat) : R (d + 1) n [] = List.replicate n 0 ++ [1] := rfl
theorem R_last {d n : Nat} {ts : List (Int × Int)} (hT : Ties n ts) (h : ts.length < d) : (R d n ts).getD n 0 = 1 := by
  refine R_ind (P := fun d n ts => (R d n ts).getD n 0 = 1) ?_ ?_ hT h
  · intro d n
    rw [R_nil, List.getD_eq_getElem?_getD]
    simp
  · intro d n us t hT hl hs hg hm i1 i2
    obtain ⟨_, _, _, e, l1, l2⟩ := R_snoc hT hl
    rw [e, lessL_getD (by rw [List.length_append, l1, l2]; rfl), snoc0_getD, i1, getD_over (by omega)]
    rfl
end Q
namespace Q
open Dv
/-- from the last number on downwards, not below and not above nought in turns -/
theorem R_sign {d n : Nat} {ts : List (Int × Int)} (hT : Ties n ts) (h : ts.length < d) : ∀ m, m ≤ n → (m % 2 = 0 → 0 ≤ (R d n ts).getD (n - m) 0) ∧ (m % 2 = 1 → (R d n ts).getD (n - m) 0 ≤ 0) := by
  refine R_ind (P := fun d n ts => ∀ m, m ≤ n → (m % 2 = 0 → 0 ≤ (R d n ts).getD (n - m) 0) ∧ (m % 2 = 1 → (R d n ts).getD (n - m) 0 ≤ 0)) ?_ ?_ hT h
  · intro d n m hm
    rw [R_nil, List.getD_eq_getElem?_getD]
    by_cases z : m = 0
    · subst z
      simp
    · have : n - m < n := by omega
      rw [List.getElem?_append_left (by simpa using this)]
      simp [this]
  · intro d n us t hT hl hs hg hm i1 i2 m hmn
    obtain ⟨_, _, _, e, l1, l2⟩ := R_snoc hT hl
    rw [e, lessL_getD (by rw [List.length_append, l1, l2]; rfl), snoc0_getD]
    have a := i1 m hmn
    by_cases z : m = 0
    · subst z
      have e : (R d n (mg (us ++ [t]) t)).getD (n + 1 - 0) 0 = 0 := getD_over (by omega)
      rw [e]
      omega
    · have b := i2 (m - 1) (by omega)
      have e : n - (m - 1) = n + 1 - m := by omega
      rw [e] at b
      omega
end Q

set_option linter.all false
/-! Dyeings counted: the row's worth at each number of dyes. -/
namespace Q
open Dv
def tints_by (points : Int) (number : Int) (many : Int) : Option (List Int) :=
  (some ([] : List Int)).bind fun tints_1 =>
  (rng 0 points).bind fun xs2 => (loopG (S := Int × (List Int)) (fun (s3 : Int × (List Int)) (q4 : Int) =>
      ((modZ s3.1 many).bind fun y8 => addL s3.2 y8).bind fun tints_9 =>
      (divZ s3.1 many).bind fun number_10 =>
      some (number_10, tints_9)) (number, tints_1) xs2).bind fun s6 =>
  some s6.2
def many_tints (points : Int) (many : Int) : Option Int :=
  (some 1).bind fun found_11 =>
  (rng 0 points).bind fun xs12 => (loopG (S := Int) (fun (s13 : Int) (q14 : Int) =>
      (mulZ s13 many).bind fun found_18 =>
      some found_18) found_11 xs12).bind fun s16 =>
  some s16
def fits (ties : List (Int × Int)) (tints : List Int) : Option Bool :=
  (some ties).bind fun xs19 => (loopR (S := Unit) (R := Bool) (fun (s20 : Unit) (q21 : Int × Int) =>
      ((atZ tints q21.1).bind fun y25 => (atZ tints q21.2).bind fun y26 => some (decide (y25 = y26))).bind fun b27 => if b27 = true then
        (some false).bind fun y28 => some (.ret y28)
      else
      some (.go ())) () xs19).bind fun st22 => st22.elim (fun s23 =>
  some true) (fun y24 => some y24)
def count_ (points : Int) (ties : List (Int × Int)) (many : Int) : Option Int :=
  (some (decide (many = 0))).bind fun b29 => if b29 = true then
    some (if (decide (points = 0)) = true then (1 : Int) else 0)
  else
  (some 0).bind fun found_30 =>
  ((many_tints points many).bind fun y31 => rng 0 y31).bind fun xs32 => (loopG (S := Int) (fun (s33 : Int) (q34 : Int) =>
      ((((tints_by points q34 many).bind fun y38 => some (y38, ())).bind fun y39 => some (ties, y39)).bind fun a40 => fits a40.1 a40.2.1).bind fun b41 => if b41 = true then
        (some (s33 + 1)).bind fun found_42 =>
        some found_42
      else
        some s33) found_30 xs32).bind fun s36 =>
  some s36
def fitsB (ts : List (Int × Int)) (l : List Int) : Bool := ts.all fun e => !decide (gi l e.1 = gi l e.2)
theorem fitsB_iff (ts : List (Int × Int)) (l : List Int) : fitsB ts l = true ↔ ∀ e ∈ ts, gi l e.1 ≠ gi l e.2 := by
  unfold fitsB
  rw [List.all_eq_true]
  exact ⟨fun h e he => by simpa using h e he, fun h e he => by simpa using h e he⟩
/-- how many dyeings of n points with q dyes -/
def col (n q : Nat) (ts : List (Int × Int)) : Int := S n q fun l => if fitsB ts l = true then 1 else 0
theorem gi_nm {u v : Int} (hu : 0 ≤ u) (huv : u < v) {l : List Int} (hl : v ≤ l.length) {x : Int} (hx : 0 ≤ x) : gi (insA v.toNat (gi l u) l) x = gi l (nm (u, v) x) := by
  rw [gi_ins (by omega) hx]
  unfold nm
  dsimp only
  by_cases h1 : x < (v.toNat : Int)
  · have h2 : ¬ x = v := by omega
    have h3 : ¬ v < x := by omega
    rw [if_pos h1, if_neg h2, if_neg h3]
  · by_cases h2 : x = (v.toNat : Int)
    · have h3 : x = v := by omega
      rw [if_neg h1, if_pos h2, if_pos h3]
    · have h3 : ¬ x = v := by omega
      have h4 : v < x := by omega
      rw [if_neg h1, if_neg h2, if_neg h3, if_pos h4]
theorem gi_mm (l : List Int) (a b : Int) : (gi l (mm a b).1 ≠ gi l (mm a b).2) ↔ gi l a ≠ gi l b := by
  unfold mm
  by_cases h : b < a
  · have h2 : ¬ a < b := by omega
    simp only [h, h2, ↓reduceIte]
    exact ⟨fun z e => z e.symm, fun z e => z e.symm⟩
  · by_cases h2 : a < b
    · simp only [h, h2, ↓reduceIte]
    · have : a = b := by omega
      subst this
      simp
theorem fits_mg {n : Int} {ts : List (Int × Int)} {t : Int × Int} (hT : Ties (n + 1) ts) (ht : Tie (n + 1) t) {l : List Int} (hl : (l.length : Int) = n) :
    fitsB (wo ts t) (insA t.2.toNat (gi l t.1) l) = fitsB (mg ts t) l := by
  rw [Bool.eq_iff_iff, fitsB_iff, fitsB_iff]
  have ht' := ht
  unfold Tie at ht'
  have key : ∀ e ∈ ts, (gi (insA t.2.toNat (gi l t.1) l) e.1 ≠ gi (insA t.2.toNat (gi l t.1) l) e.2 ↔ gi l (mt t e).1 ≠ gi l (mt t e).2) := fun e he => by
    have h := hT.tie e he
    unfold Tie at h
    rw [gi_nm (by omega) (by omega) (by omega) (by omega), gi_nm (by omega) (by omega) (by omega) (by omega)]
    exact (gi_mm l _ _).symm
  constructor
  · intro h u hu
    obtain ⟨v, hv, hn, rfl⟩ := (mg_mem ts t u).mp hu
    refine (key v hv).mp (h v ?_)
    unfold wo
    exact List.mem_filter.mpr ⟨hv, by simpa using hn⟩
  · intro h v hv
    unfold wo at hv
    have := List.mem_filter.mp hv
    exact (key v this.1).mpr (h _ ((mg_mem ts t _).mpr ⟨v, this.1, by simpa using this.2, rfl⟩))
theorem fits_split {ts : List (Int × Int)} {t : Int × Int} (h : t ∈ ts) (l : List Int) : fitsB ts l = (fitsB (wo ts t) l && !decide (gi l t.1 = gi l t.2)) := by
  rw [Bool.eq_iff_iff, Bool.and_eq_true, fitsB_iff, fitsB_iff]
  constructor
  · intro a
    refine ⟨fun e he => a e ?_, by simpa using a t h⟩
    unfold wo at he
    exact (List.mem_filter.mp he).1
  · rintro ⟨a, b⟩ e he
    by_cases c : e = t
    · subst c
      simpa using b
    · exact a e (by unfold wo; exact List.mem_filter.mpr ⟨he, by simpa using c⟩)
/-- a tie cut, a tie merged -/
theorem col_dc {n q : Nat} {ts : List (Int × Int)} {t : Int × Int} (hT : Ties ((n : Int) + 1) ts) (h : t ∈ ts) : col (n + 1) q ts = col (n + 1) q (wo ts t) - col n q (mg ts t) := by
  have ht := hT.tie t h
  have ht' := ht
  unfold Tie at ht'
  unfold col
  have e1 : S (n + 1) q (fun l => if fitsB ts l = true then (1 : Int) else 0) = S (n + 1) q (fun l => (if fitsB (wo ts t) l = true then (1 : Int) else 0) - (if gi l t.1 = gi l t.2 then (if fitsB (wo ts t) l = true then 1 else 0) else 0)) := by
    refine S_congr fun l _ => ?_
    rw [fits_split h l]
    by_cases a : fitsB (wo ts t) l = true <;> by_cases b : gi l t.1 = gi l t.2 <;> simp [a, b]
  rw [e1, S_sub, S_merge (by omega) (by omega) (by omega)]
  congr 1
  refine S_congr fun l hl => ?_
  rw [fits_mg hT ht (by rw [hl.1])]
theorem ev_lessL : ∀ {a b : List Int} (q : Int), a.length = b.length → ev (lessL a b) q = ev a q - ev b q
  | [], [], _, _ => rfl
  | x :: a, y :: b, q, h => by
    show (x - y) + q * ev (lessL a b) q = x + q * ev a q - (y + q * ev b q)
    rw [ev_lessL q (by simpa using h), Int.mul_sub]
    omega
  | [], _ :: _, _, h => by simp at h
  | _ :: _, [], _, h => by simp at h
theorem ev_snoc0 : ∀ (a : List Int) (q : Int), ev (a ++ [0]) q = ev a q
  | [], q => by simp [ev]
  | x :: a, q => by
    show x + q * ev (a ++ [0]) q = x + q * ev a q
    rw [ev_snoc0 a q]
theorem ev_one (q : Int) : ∀ n : Nat, ev (List.replicate n 0 ++ [1]) q = q ^ n
  | 0 => by simp [ev]
  | n + 1 => by
    rw [List.replicate_succ, List.cons_append]
    show 0 + q * ev (List.replicate n 0 ++ [1]) q = _
    rw [ev_one q n, Int.pow_succ, Int.zero_add, Int.mul_comm]
theorem sm_const (c : Int) : ∀ n : Nat, sm n (fun _ => c) = n * c
  | 0 => by simp [sm]
  | n + 1 => by
    show sm n (fun _ => c) + c = _
    rw [sm_const c n, Int.natCast_add, Int.add_mul]
    simp
theorem S_one (q : Nat) : ∀ n : Nat, S n q (fun _ => 1) = (q : Int) ^ n
  | 0 => rfl
  | n + 1 => by
    show sm q (fun c => S n q fun t => 1) = _
    rw [sm_congr fun c _ => S_one q n, sm_const, Int.pow_succ, Int.mul_comm]
theorem col_nil (n q : Nat) : col n q [] = (q : Int) ^ n := S_one q n
theorem ev_R {q : Nat} : ∀ {d n : Nat} {ts : List (Int × Int)}, Ties n ts → ts.length < d → ev (R d n ts) q = col n q ts
  | 0, _, _, _, h => by omega
  | d + 1, n, ts, hT, h => by
    unfold R
    rcases List.eq_nil_or_concat ts with rfl | ⟨us, t, rfl⟩
    · rw [col_nil]
      exact ev_one q n
    · rw [List.concat_eq_append] at *
      rw [List.getLast?_append, List.getLast?_singleton]
      simp only [Option.some_or, List.dropLast_concat]
      rw [List.length_append, List.length_singleton] at h
      have ht := hT.tie t (by simp)
      have hn : 1 ≤ n := by unfold Tie at ht; omega
      obtain ⟨n, rfl⟩ : ∃ k, n = k + 1 := ⟨n - 1, by omega⟩
      have hm := mg_last_len hT.nodup
      have hs := hT.sub (List.sublist_append_left us [t])
      have hg := mg_ties (n := (n : Int)) hT ht
      have l1 := R_len (d := d) hs (by omega)
      have l2 := R_len (d := d) hg (by omega)
      rw [col_dc (n := n) (t := t) hT (by simp), wo_last hT.nodup, Nat.add_sub_cancel, ev_lessL _ (by rw [l1, List.length_append, l2]; rfl), ev_snoc0, ev_R hs (by omega), ev_R hg (by omega)]
theorem ev_Rw {p : Int} {ts : List (Int × Int)} (w : Web p ts) (q : Nat) : ev (Rw p ts) q = col p.toNat q ts := by
  obtain ⟨⟨h0, h1⟩, h2, h3⟩ := w
  have e : ((p.toNat : Nat) : Int) = p := by omega
  exact ev_R (by rw [e]; exact h3) (by omega)
/-- rows that are worth the same far out are the same -/
theorem ev_inj : ∀ {a b : List Int} {N : Nat}, a.length = b.length → (∀ q : Nat, N ≤ q → ev a q = ev b q) → a = b
  | [], [], _, _, _ => rfl
  | x :: a, y :: b, N, hl, h => by
    have e : x = y := by
      have h1 := h (N + (x - y).natAbs + 1) (by omega)
      have h2 : x + ((N + (x - y).natAbs + 1 : Nat) : Int) * ev a _ = y + ((N + (x - y).natAbs + 1 : Nat) : Int) * ev b _ := h1
      generalize hk : N + (x - y).natAbs + 1 = k at *
      have hd : (k : Int) ∣ (x - y) := ⟨ev b k - ev a k, by rw [Int.mul_sub]; omega⟩
      have h3 : k ∣ (x - y).natAbs := by simpa using Int.natAbs_dvd_natAbs.mpr hd
      by_cases z : (x - y).natAbs = 0
      · omega
      · have := Nat.le_of_dvd (by omega) h3
        omega
    subst e
    congr 1
    refine ev_inj (N := N + 1) (by simpa using hl) fun q hq => ?_
    have h1 : x + (q : Int) * ev a q = x + (q : Int) * ev b q := h q (by omega)
    have h2 : (q : Int) * ev a q = (q : Int) * ev b q := by omega
    exact Int.eq_of_mul_eq_mul_left (by omega) h2
  | [], _ :: _, _, h, _ => by simp at h
  | _ :: _, [], _, h, _ => by simp at h
/-- the figures of a number -/
def dig : Nat → Nat → Nat → List Int
  | 0, _, _ => []
  | n + 1, q, m => ((m % q : Nat) : Int) :: dig n q (m / q)
theorem dig_in {q : Nat} (hq : 0 < q) : ∀ (n m : Nat), In n q (dig n q m)
  | 0, m => ⟨rfl, by simp [dig]⟩
  | n + 1, m => by
    have ih := dig_in hq n (m / q)
    refine ⟨by simp [dig, ih.1], fun x hx => ?_⟩
    rcases List.mem_cons.mp hx with rfl | hx
    · have := Nat.mod_lt m hq
      omega
    · exact ih.2 x hx
theorem sm_dig {q : Nat} (hq : 0 < q) : ∀ (n : Nat) (w : List Int → Int), sm (q ^ n) (fun m => w (dig n q m)) = S n q w
  | 0, w => by simp [sm, S, dig]
  | n + 1, w => by
    rw [Nat.pow_succ, Nat.mul_comm, sm_block]
    have e : ∀ a b : Nat, b < q → dig (n + 1) q (q * a + b) = (b : Int) :: dig n q a := fun a b hb => by
      have h1 : (q * a + b) % q = b := by rw [Nat.mul_add_mod, Nat.mod_eq_of_lt hb]
      have h2 : (q * a + b) / q = a := by rw [Nat.mul_add_div hq, Nat.div_eq_of_lt hb, Nat.add_zero]
      show (((q * a + b) % q : Nat) : Int) :: dig n q ((q * a + b) / q) = _
      rw [h1, h2]
    rw [sm_congr fun a _ => sm_congr fun b hb => by rw [e a b hb], sm_comm]
    exact sm_congr fun b _ => sm_dig hq n fun t => w ((b : Int) :: t)
theorem loopG_sm {f : Int → Int → Option Int} (w : Nat → Int) {s : Int} : ∀ {N : Nat}, (∀ s i, i < N → f s (i : Int) = some (s + w i)) → loopG f s ((List.range N).map fun i => ((i : Nat) : Int)) = some (s + sm N w)
  | 0, _ => by simp [loopG, sm]
  | N + 1, h => by
    have app : ∀ (xs : List Int) (s0 s1 : Int) (y : Int), loopG f s0 xs = some s1 → loopG f s0 (xs ++ [y]) = f s1 y := by
      intro xs
      induction xs with
      | nil =>
        intro s0 s1 y e
        cases e
        show (f s0 y).bind _ = _
        cases f s0 y <;> rfl
      | cons x xs ih =>
        intro s0 s1 y e
        obtain ⟨s2, e1, e2⟩ := Option.bind_eq_some_iff.mp (show (f s0 x).bind (fun s' => loopG f s' xs) = some s1 from e)
        show (f s0 x).bind (fun s' => loopG f s' (xs ++ [y])) = _
        rw [e1]
        exact ih s2 s1 y e2
    rw [List.range_succ, List.map_append]
    rw [List.map_singleton, app _ _ _ _ (loopG_sm w fun s i hi => h s i (by omega)), h _ N (by omega)]
    show some (s + sm N w + w N) = some (s + (sm N w + w N))
    congr 1
    omega
theorem tints_eq {n q m : Nat} (hn : n ≤ 1000) (hq : 0 < q) (hq2 : q ≤ 1000) : tints_by n m q = some (dig n q m) := by
  unfold tints_by
  rw [Option.bind_some, rng0 (by omega), Option.bind_some]
  have key : ∀ (xs : List Int) (m : Nat) (s : List Int), s.length + xs.length ≤ 1000 → loopG (S := Int × (List Int)) (fun (s3 : Int × (List Int)) (q4 : Int) =>
      ((modZ s3.1 (q : Int)).bind fun y8 => addL s3.2 y8).bind fun tints_9 =>
      (divZ s3.1 (q : Int)).bind fun number_10 =>
      some (number_10, tints_9)) ((m : Int), s) xs = some (((m / q ^ xs.length : Nat) : Int), s ++ dig xs.length q m) := by
    intro xs
    induction xs with
    | nil => intro m s _; simp [loopG, dig]
    | cons x xs ih =>
      intro m s hs
      rw [List.length_cons] at hs
      show (((modZ (m : Int) (q : Int)).bind fun y8 => addL s y8).bind fun tints_9 => (divZ (m : Int) (q : Int)).bind fun number_10 => some (number_10, tints_9)).bind _ = _
      rw [modZ_pos (by omega), Option.bind_some, addL_ok (by omega), Option.bind_some, divZ_pos (by omega) (by omega), Option.bind_some, Option.bind_some]
      have e1 : (m : Int) % (q : Int) = ((m % q : Nat) : Int) := rfl
      have e2 : (m : Int) / (q : Int) = ((m / q : Nat) : Int) := rfl
      rw [e1, e2, ih _ _ (by simp; omega)]
      congr 2
      · rw [List.length_cons, Nat.pow_succ, Nat.div_div_eq_div_mul, Nat.mul_comm q]
      · rw [List.length_cons, List.append_assoc]
        rfl
  rw [key _ _ _ (by simp; omega), Option.bind_some]
  simp
theorem many_eq {n q : Nat} (hn : n ≤ 1000) (hq : q ≤ 1000) : many_tints n q = some (((q ^ n : Nat)) : Int) := by
  unfold many_tints
  rw [Option.bind_some, rng0 (by omega), Option.bind_some]
  have key : ∀ (xs : List Int) (s : Nat), loopG (S := Int) (fun (s13 : Int) (q14 : Int) =>
      (mulZ s13 (q : Int)).bind fun found_18 =>
      some found_18) (s : Int) xs = some ((s * q ^ xs.length : Nat) : Int) := by
    intro xs
    induction xs with
    | nil => intro s; simp [loopG]
    | cons x xs ih =>
      intro s
      show ((mulZ (s : Int) (q : Int)).bind fun found_18 => some found_18).bind _ = _
      rw [mulZ_r (by omega) (by omega), Option.bind_some, Option.bind_some]
      have e : (s : Int) * (q : Int) = ((s * q : Nat) : Int) := rfl
      rw [e, ih, List.length_cons, Nat.pow_succ, Nat.mul_assoc, Nat.mul_comm q]
  have h1 := key ((List.range n).map fun i => ((i : Nat) : Int)) 1
  rw [List.length_map, List.length_range, Nat.one_mul] at h1
  rw [show (1 : Int) = ((1 : Nat) : Int) from rfl, h1]
  rfl
theorem atZ_gi {l : List Int} {x : Int} (h0 : 0 ≤ x) (h1 : x < l.length) : atZ l x = some (gi l x) := by
  have e : ((x.toNat : Nat) : Int) = x := by omega
  have := atZ_getD l (k := x.toNat) (by omega)
  rw [e] at this
  exact this
theorem loopR_all {f : Unit → α → Option (Stp Unit Bool)} (ok : α → Bool) : ∀ {xs : List α}, (∀ x ∈ xs, f () x = some (if ok x = true then .go () else .ret false)) →
    loopR f () xs = some (if xs.all ok = true then .go () else .ret false)
  | [], _ => rfl
  | x :: xs, h => by
    have h1 := h x List.mem_cons_self
    have h2 := loopR_all ok fun y hy => h y (List.mem_cons_of_mem _ hy)
    show (f () x).bind _ = _
    rw [h1]
    cases hb : ok x
    · simp [hb]
    · simp [hb, h2]
theorem fits_eq {n : Int} {ts : List (Int × Int)} {l : List Int} (hT : ∀ t ∈ ts, Tie n t) (hl : n ≤ (l.length : Int)) : fits ts l = some (fitsB ts l) := by
  unfold fits
  rw [Option.bind_some, loopR_all (fun e => !decide (gi l e.1 = gi l e.2))]
  · rw [Option.bind_some]
    unfold fitsB
    split <;> rename_i h
    · rw [h]; rfl
    · rw [Bool.eq_false_iff.mpr h]; rfl
  · intro e he
    have ht := hT e he
    unfold Tie at ht
    rw [atZ_gi (by omega) (by omega), atZ_gi (by omega) (by omega)]
    by_cases c : gi l e.1 = gi l e.2 <;> simp [c]
theorem count_eq {n q : Nat} {ts : List (Int × Int)} (hT : Ties n ts) (hn : n ≤ 10) (hq : q ≤ 10) : count_ n ts q = some (col n q ts) := by
  unfold count_
  rw [Option.bind_some]
  by_cases z : q = 0
  · subst z
    rw [if_pos (by simp)]
    congr 1
    cases n with
    | zero =>
      have e : ts = [] := List.eq_nil_iff_forall_not_mem.mpr fun t ht => by
        have := hT.tie t ht
        unfold Tie at this
        omega
      subst e
      rfl
    | succ n => 
      rw [if_neg (by simp; omega)]
      rfl
  · rw [if_neg (by simp; omega), Option.bind_some, many_eq (by omega) (by omega), Option.bind_some]
    have hb : q ^ n ≤ 10 ^ 10 := Nat.le_trans (Nat.pow_le_pow_left hq n) (Nat.pow_le_pow_right (by decide) hn)
    have hr : rng 0 ((q ^ n : Nat) : Int) = some ((List.range (q ^ n)).map fun i => ((i : Nat) : Int)) := by
      unfold rng
      have h10 : (10 : Nat) ^ 10 = 10000000000 := by decide
      rw [if_pos (by omega)]
      have e : (((q ^ n : Nat) : Int) - 0).toNat = q ^ n := by omega
      rw [e]
      congr 1
      exact List.map_congr_left fun i _ => by omega
    rw [hr, Option.bind_some, loopG_sm (fun m => if fitsB ts (dig n q m) = true then 1 else 0), Option.bind_some, Int.zero_add, sm_dig (w := fun l => if fitsB ts l = true then 1 else 0) (by omega)]
    · rfl
    · intro s i _
      have hi := dig_in (q := q) (by omega) n i
      rw [tints_eq (by omega) (by omega) (by omega), Option.bind_some, Option.bind_some, Option.bind_some, fits_eq hT.tie (by rw [hi.1]; omega), Option.bind_some]
      by_cases c : fitsB ts (dig n q i) = true
      · simp [c]
      · simp [c]
end Q

set_option linter.all false
/-! Dyeings: the least one, the fewest dyes. -/
namespace Q
open Dv
def unlike (ties : List (Int × Int)) (dyes : List Int) : Option Bool :=
  (some ties).bind fun xs1 => (loopR (S := Unit) (R := Bool) (fun (s2 : Unit) (q3 : Int × Int) =>
      ((atZ dyes q3.1).bind fun y7 => (atZ dyes q3.2).bind fun y8 => some (decide (y7 = y8))).bind fun b9 => if b9 = true then
        (some false).bind fun y10 => some (.ret y10)
      else
      some (.go ())) () xs1).bind fun st4 => st4.elim (fun s5 =>
  some true) (fun y6 => some y6)
def is_dyeing (points : Int) (ties : List (Int × Int)) (dyes : List Int) (many : Int) : Rs Bool :=
  (asked_web points ties).bind fun y11 => exB y11 fun _ =>
  (some (!decide ((dyes.length : Int) = points))).bind fun b14 => if b14 = true then
    (some false).bind fun y15 => some (.ok y15)
  else
  (some dyes).bind fun xs16 => (loopR (S := Unit) (R := Bool) (fun (s17 : Unit) (q18 : Int) =>
      ((if (decide (q18 < 0)) = true then some true else some (decide (many ≤ q18)))).bind fun b22 => if b22 = true then
        (some false).bind fun y23 => some (.ret y23)
      else
      some (.go ())) () xs16).bind fun st19 => st19.elim (fun s20 =>
  (unlike ties dyes).bind fun y24 => some (.ok y24)) (fun y21 => some (.ok y21))
def fewest (points : Int) (ties : List (Int × Int)) : Rs Int :=
  (row points ties).bind fun y25 => exB y25 fun numbers_26 =>
  (some 0).bind fun many_29 =>
  (whileG (S := Int) (fun (s30 : Int) => (worth numbers_26 s30).bind fun y34 => some (decide (y34 = 0))) (fun (s30 : Int) =>
      (some (s30 + 1)).bind fun many_35 =>
      some many_35) 20 many_29).bind fun s31 =>
  (some s31).bind fun y36 => some (.ok y36)
def extendedF : Nat → Int → (List (Int × Int)) → Int → (List Int) → Option (Option (List Int))
  | 0, _, _, _, _ => none
  | n_ + 1, points, ties, many, dyes =>
  (some (dyes.length : Int)).bind fun at__37 =>
  (some (decide (at__37 = points))).bind fun b38 => if b38 = true then
    some (some dyes)
  else
  (lc (fun (q39 : Int × Int) => some (decide (q39.2 = at__37))) (fun (q39 : Int × Int) => atZ dyes q39.1) ties).bind fun near_41 =>
  (rng 0 many).bind fun xs42 => (loopR (S := Unit) (R := Option (List Int)) (fun (s43 : Unit) (q44 : Int) =>
      (some (!memL q44 near_41)).bind fun b48 => if b48 = true then
        ((((((catL dyes [q44]).bind fun y49 => some (y49, ())).bind fun y50 => some (many, y50)).bind fun y51 => some (ties, y51)).bind fun y52 => some (points, y52)).bind fun a53 => extendedF n_ a53.1 a53.2.1 a53.2.2.1 a53.2.2.2.1).bind fun found_54 =>
        (some (!found_54.isNone)).bind fun b55 => if b55 = true then
          (some found_54).bind fun y56 => some (.ret y56)
        else
        some (.go ())
      else
        some (.go ())) () xs42).bind fun st45 => st45.elim (fun s46 =>
  some none) (fun y47 => some y47)
def extended (points : Int) (ties : List (Int × Int)) (many : Int) (dyes : List Int) : Option (Option (List Int)) := extendedF 10 points ties many dyes
def least (points : Int) (ties : List (Int × Int)) (many : Int) : Rs (Option (List Int)) :=
  (asked_web points ties).bind fun y57 => exB y57 fun _ =>
  (extended points ties many ([] : List Int)).bind fun y60 => some (.ok y60)
/-- all lists of n dyes below q, the lesser ones first -/
def LX : Nat → Nat → List (List Int)
  | 0, _ => [[]]
  | n + 1, q => (List.range q).flatMap fun c : Nat => (LX n q).map fun t => (c : Int) :: t
theorem mem_LX {q : Nat} : ∀ {n : Nat} {t : List Int}, t ∈ LX n q ↔ In n q t
  | 0, t => by
    unfold LX In
    rw [List.mem_singleton]
    constructor
    · rintro rfl
      simp
    · rintro ⟨h, _⟩
      exact List.length_eq_zero_iff.mp h
  | n + 1, t => by
    unfold LX
    rw [List.mem_flatMap]
    constructor
    · rintro ⟨c, hc, h⟩
      obtain ⟨u, hu, rfl⟩ := List.mem_map.mp h
      have hc := List.mem_range.mp hc
      have ih := mem_LX.mp hu
      refine ⟨by simp [ih.1], fun x hx => ?_⟩
      rcases List.mem_cons.mp hx with rfl | hx
      · omega
      · exact ih.2 x hx
    · intro h
      cases t with
      | nil => simp [In] at h
      | cons x u =>
        have hx := h.2 x List.mem_cons_self
        refine ⟨x.toNat, List.mem_range.mpr (by omega), List.mem_map.mpr ⟨u, mem_LX.mpr ⟨by simpa using h.1, fun y hy => h.2 y (List.mem_cons_of_mem _ hy)⟩, ?_⟩⟩
        congr 1
        omega
theorem range_mul (n : Nat) : ∀ m : Nat, List.range (m * n) = (List.range m).flatMap fun a => (List.range n).map fun b => a * n + b
  | 0 => by simp
  | m + 1 => by
    rw [Nat.succ_mul, List.range_add, range_mul n m, List.range_succ, List.flatMap_append]
    simp
theorem dig_top {q : Nat} (hq : 0 < q) : ∀ {n a b : Nat}, a < q → b < q ^ n → dig (n + 1) q (a * q ^ n + b) = dig n q b ++ [(a : Int)]
  | 0, a, b, ha, hb => by
    have : b = 0 := by simpa using hb
    subst this
    simp [dig, Nat.mod_eq_of_lt ha]
  | n + 1, a, b, ha, hb => by
    have e1 : (a * q ^ (n + 1) + b) % q = b % q := by rw [Nat.pow_succ, ← Nat.mul_assoc, Nat.mul_comm (a * q ^ n) q, Nat.mul_add_mod]
    have e2 : (a * q ^ (n + 1) + b) / q = a * q ^ n + b / q := by rw [Nat.pow_succ, ← Nat.mul_assoc, Nat.mul_comm (a * q ^ n) q, Nat.mul_add_div hq]
    have hb2 : b / q < q ^ n := Nat.div_lt_of_lt_mul (by rw [Nat.mul_comm, ← Nat.pow_succ]; exact hb)
    show (((a * q ^ (n + 1) + b) % q : Nat) : Int) :: dig (n + 1) q ((a * q ^ (n + 1) + b) / q) = ((b % q : Nat) : Int) :: (dig n q (b / q) ++ [(a : Int)])
    rw [e1, e2, dig_top hq ha hb2]
theorem LX_eq {q : Nat} (hq : 0 < q) : ∀ n : Nat, (List.range (q ^ n)).map (fun m => (dig n q m).reverse) = LX n q
  | 0 => by simp [LX, dig]
  | n + 1 => by
    rw [Nat.pow_succ, Nat.mul_comm, range_mul, List.map_flatMap]
    unfold LX
    rw [List.flatMap_def, List.flatMap_def]
    congr 1
    refine List.map_congr_left fun a ha => ?_
    have ha := List.mem_range.mp ha
    rw [← LX_eq hq n, List.map_map, List.map_map]
    refine List.map_congr_left fun b hb => ?_
    have hb := List.mem_range.mp hb
    simp only [Function.comp]
    rw [dig_top hq ha hb, List.reverse_append]
    rfl
/-- the first dyeing in order -/
def fst_ (n q : Nat) (ts : List (Int × Int)) : Option (List Int) := (LX n q).find? (fitsB ts)
theorem col_zero {n q : Nat} {ts : List (Int × Int)} : col n q ts = 0 ↔ fst_ n q ts = none := by
  unfold col fst_
  rw [List.find?_eq_none]
  constructor
  · intro h t ht hf
    have := S_le_one (q := q) (n := n) (w := fun l => if fitsB ts l = true then 1 else 0) (fun t _ => by split <;> omega) t (mem_LX.mp ht)
    rw [if_pos hf, h] at this
    omega
  · intro h
    rw [S_congr (w' := fun _ => 0) fun t ht => if_neg (h t (mem_LX.mpr ht)), S_zero]
theorem fst_some {n q : Nat} {ts : List (Int × Int)} {t : List Int} (h : fst_ n q ts = some t) : In n q t ∧ fitsB ts t = true :=
  ⟨mem_LX.mp (List.mem_of_find?_eq_some h), List.find?_some h⟩
theorem fst_of {n q : Nat} {ts : List (Int × Int)} {t : List Int} (h : In n q t) (hf : fitsB ts t = true) : fst_ n q ts ≠ none := by
  unfold fst_
  intro e
  exact List.find?_eq_none.mp e t (mem_LX.mpr h) hf
/-- as many dyes as points are enough -/
theorem fst_full {n : Nat} {ts : List (Int × Int)} (hT : ∀ t ∈ ts, Tie n t) : fst_ n n ts ≠ none := by
  refine fst_of (t := (List.range n).map fun i => ((i : Nat) : Int)) ⟨by simp, fun x hx => ?_⟩ ?_
  · obtain ⟨i, hi, rfl⟩ := List.mem_map.mp hx
    have := List.mem_range.mp hi
    omega
  · rw [fitsB_iff]
    intro e he
    have ht := hT e he
    unfold Tie at ht
    have g : ∀ x : Int, 0 ≤ x → x < n → gi ((List.range n).map fun i => ((i : Nat) : Int)) x = x := fun x h0 h1 => by
      unfold gi
      rw [List.getD_eq_getElem?_getD]
      have : x.toNat < n := by omega
      simp [this]
      omega
    rw [g _ (by omega) (by omega), g _ (by omega) (by omega)]
    omega
/-- a while that looks for the least number -/
theorem while_least {c : Int → Option Bool} {f : Int → Option Int} {P : Nat → Bool} {N : Nat} (hc : ∀ i : Nat, i ≤ N → c i = some (P i)) (hf : ∀ i : Nat, i ≤ N → f i = some ((i : Int) + 1)) (hN : P N = false) :
    ∀ {d k fuel : Nat}, k + d = N → d < fuel → (∀ j, j < k → P j = true) → ∃ m, m ≤ N ∧ P m = false ∧ (∀ j, j < m → P j = true) ∧ whileG c f fuel (k : Int) = some (m : Int)
  | d, k, 0, _, h, _ => by omega
  | d, k, fuel + 1, hk, hd, hj => by
    show ∃ m, m ≤ N ∧ P m = false ∧ (∀ j, j < m → P j = true) ∧ ((c k).bind fun b => if b then (f k).bind fun s' => whileG c f fuel s' else some (k : Int)) = some (m : Int)
    rw [hc k (by omega), Option.bind_some]
    cases hp : P k
    · exact ⟨k, by omega, hp, hj, rfl⟩
    · have hne : k ≠ N := fun e => by rw [e, hN] at hp; cases hp
      obtain ⟨d, rfl⟩ : ∃ z, d = z + 1 := ⟨d - 1, by omega⟩
      obtain ⟨m, h1, h2, h3, h4⟩ := while_least hc hf hN (d := d) (k := k + 1) (fuel := fuel) (by omega) (by omega) fun j hj2 => by
        by_cases e : j = k
        · rw [e, hp]
        · exact hj j (by omega)
      refine ⟨m, h1, h2, h3, ?_⟩
      rw [if_pos rfl, hf k (by omega), Option.bind_some]
      exact h4
/-- k is the fewest number of dyes -/
structure Few (n : Nat) (ts : List (Int × Int)) (k : Nat) : Prop where
  le : k ≤ n
  some : fst_ n k ts ≠ none
  none : ∀ j, j < k → fst_ n j ts = none
theorem Few.eq {n : Nat} {ts : List (Int × Int)} {j k : Nat} (a : Few n ts j) (b : Few n ts k) : j = k := by
  by_cases h1 : j < k
  · exact absurd (b.none j h1) a.some
  · by_cases h2 : k < j
    · exact absurd (a.none k h2) b.some
    · omega
theorem while_few {c : Int → Option Bool} {f : Int → Option Int} {n : Nat} {ts : List (Int × Int)} (hT : ∀ t ∈ ts, Tie n t) (hc : ∀ i : Nat, i ≤ n → c i = some (decide (fst_ n i ts = none))) (hf : ∀ i : Nat, i ≤ n → f i = some ((i : Int) + 1)) {fuel : Nat} (hfu : n < fuel) :
    ∃ k, Few n ts k ∧ whileG c f fuel 0 = some (k : Int) := by
  obtain ⟨m, h1, h2, h3, h4⟩ := while_least (P := fun i => decide (fst_ n i ts = none)) (N := n) hc hf (by simpa using fst_full hT) (d := n) (k := 0) (fuel := fuel) (by omega) hfu (fun j hj => by omega)
  exact ⟨m, ⟨h1, by simpa using h2, fun j hj => by simpa using h3 j hj⟩, h4⟩
theorem fewest_eq {p : Int} {ts : List (Int × Int)} (w : Web p ts) : ∃ k : Nat, Few p.toNat ts k ∧ fewest p ts = some (.ok (k : Int)) := by
  have w' := w
  obtain ⟨⟨h0, h1⟩, h2, h3⟩ := w'
  have ep : ((p.toNat : Nat) : Int) = p := by omega
  unfold fewest
  rw [row_eq w, Option.bind_some, exB_ok, Option.bind_some]
  obtain ⟨k, hk, e⟩ := while_few (n := p.toNat) (ts := ts) (c := fun s30 => (worth (Rw p ts) s30).bind fun y34 => some (decide (y34 = 0))) (f := fun s30 => (some (s30 + 1)).bind fun many_35 => some many_35) (fuel := 20)
    (by rw [ep]; exact h3.tie) (fun i hi => by
      rw [worth_eq _ (by omega) (by omega), Option.bind_some, ev_Rw w]
      congr 1
      rw [Bool.eq_iff_iff, decide_eq_true_iff, decide_eq_true_iff, col_zero]) (fun i _ => rfl) (by omega)
  exact ⟨k, hk, by rw [e]; rfl⟩
/-- the dyes near the point at -/
def near (ts : List (Int × Int)) (dyes : List Int) : List Int := (ts.filter fun e => decide (e.2 = (dyes.length : Int))).map fun e => gi dyes e.1
/-- the least dyeing that begins with some dyes, k points left -/
def EX (q : Nat) (ts : List (Int × Int)) : Nat → List Int → Option (List Int)
  | 0, dyes => some dyes
  | k + 1, dyes => (List.range q).findSome? fun c : Nat => if (c : Int) ∈ near ts dyes then none else EX q ts k (dyes ++ [(c : Int)])
theorem findSome_congr {f g : α → Option β} : ∀ {xs : List α}, (∀ x ∈ xs, f x = g x) → xs.findSome? f = xs.findSome? g
  | [], _ => rfl
  | x :: xs, h => by
    rw [List.findSome?_cons, List.findSome?_cons, h x List.mem_cons_self, findSome_congr fun y hy => h y (List.mem_cons_of_mem _ hy)]
/-- no tie among the points dyed has one dye at both ends -/
def Part (ts : List (Int × Int)) (dyes : List Int) : Prop := ∀ e ∈ ts, e.2 < dyes.length → gi dyes e.1 ≠ gi dyes e.2
theorem near_mem {ts : List (Int × Int)} {dyes : List Int} {c : Int} : c ∈ near ts dyes ↔ ∃ e ∈ ts, e.2 = dyes.length ∧ gi dyes e.1 = c := by
  unfold near
  rw [List.mem_map]
  constructor
  · rintro ⟨e, he, h⟩
    rw [List.mem_filter, decide_eq_true_iff] at he
    exact ⟨e, he.1, he.2, h⟩
  · rintro ⟨e, h1, h2, h3⟩
    exact ⟨e, List.mem_filter.mpr ⟨h1, by simpa using h2⟩, h3⟩
theorem gi_app {a b : List Int} {x : Int} (h0 : 0 ≤ x) (h1 : x < a.length) : gi (a ++ b) x = gi a x := by
  unfold gi
  rw [List.getD_eq_getElem?_getD, List.getD_eq_getElem?_getD, List.getElem?_append_left (by omega)]
theorem gi_mid {a b : List Int} {c x : Int} (h : x = a.length) : gi (a ++ c :: b) x = c := by
  unfold gi
  subst h
  rw [List.getD_eq_getElem?_getD, List.getElem?_append_right (by omega)]
  simp
theorem part_snoc {n : Int} {ts : List (Int × Int)} (hT : ∀ t ∈ ts, Tie n t) {dyes : List Int} {c : Int} (hp : Part ts dyes) (hc : c ∉ near ts dyes) : Part ts (dyes ++ [c]) := by
  intro e he hl
  have ht := hT e he
  unfold Tie at ht
  rw [List.length_append, List.length_singleton] at hl
  by_cases z : e.2 = dyes.length
  · rw [gi_mid z, gi_app (by omega) (by omega)]
    exact fun q => hc (near_mem.mpr ⟨e, he, z, q⟩)
  · rw [gi_app (by omega) (by omega), gi_app (by omega) (by omega)]
    exact hp e he (by omega)
theorem EX_eq {q n : Nat} {ts : List (Int × Int)} (hT : ∀ t ∈ ts, Tie n t) : ∀ {k : Nat} {dyes : List Int}, dyes.length + k = n → Part ts dyes → EX q ts k dyes = ((LX k q).map fun t => dyes ++ t).find? (fitsB ts)
  | 0, dyes, hl, hp => by
    have hf : fitsB ts dyes = true := (fitsB_iff ts dyes).mpr fun e he => hp e he (by
      have := hT e he
      unfold Tie at this
      omega)
    simp [EX, LX, hf]
  | k + 1, dyes, hl, hp => by
    unfold EX LX
    rw [List.map_flatMap, List.find?_flatMap]
    refine findSome_congr fun c _ => ?_
    rw [List.map_map]
    by_cases hc : (c : Int) ∈ near ts dyes
    · rw [if_pos hc]
      symm
      rw [List.find?_eq_none]
      intro t ht hf
      obtain ⟨u, hu, rfl⟩ := List.mem_map.mp ht
      obtain ⟨e, he, h1, h2⟩ := near_mem.mp hc
      have hT' := hT e he
      unfold Tie at hT'
      have := (fitsB_iff _ _).mp hf e he
      simp only [Function.comp] at this
      rw [gi_mid h1, gi_app (by omega) (by omega)] at this
      exact this h2
    · rw [if_neg hc, EX_eq hT (by simp; omega) (part_snoc hT hp hc)]
      congr 1
      refine List.map_congr_left fun t _ => ?_
      simp
theorem EX_nil {q n : Nat} {ts : List (Int × Int)} (hT : ∀ t ∈ ts, Tie n t) : EX q ts n [] = fst_ n q ts := by
  rw [EX_eq hT (by simp) fun e he hl => by
    have := hT e he
    unfold Tie at this
    simp at hl
    omega]
  unfold fst_
  simp
/-- a loop that hands back what it finds first -/
theorem loopR_find {ρ : Type} {f : Unit → α → Option (Stp Unit ρ)} (g : α → Option ρ) : ∀ {xs : List α}, (∀ x ∈ xs, f () x = some (match g x with | some r => .ret r | none => .go ())) →
    loopR f () xs = some (match xs.findSome? g with | some r => .ret r | none => .go ())
  | [], _ => rfl
  | x :: xs, h => by
    have h1 := h x List.mem_cons_self
    have h2 := loopR_find g fun y hy => h y (List.mem_cons_of_mem _ hy)
    show (f () x).bind _ = _
    rw [h1, List.findSome?_cons]
    cases hb : g x
    · simp [h2]
    · simp
theorem findSome_map {ρ : Type} {f : β → Option ρ} (g : α → β) : ∀ {xs : List α}, (xs.map g).findSome? f = xs.findSome? fun x => f (g x)
  | [] => rfl
  | x :: xs => by
    rw [List.map_cons, List.findSome?_cons, List.findSome?_cons, findSome_map g]
theorem near_eq {n : Int} {ts : List (Int × Int)} (hT : ∀ t ∈ ts, Tie n t) {dyes : List Int} (hl : ts.length ≤ 1000) : lc (fun (q39 : Int × Int) => some (decide (q39.2 = (dyes.length : Int)))) (fun (q39 : Int × Int) => atZ dyes q39.1) ts = some (near ts dyes) := by
  rw [lc_all (fun e : Int × Int => decide (e.2 = (dyes.length : Int))) (fun e => gi dyes e.1) (by omega) (fun _ _ => rfl)]
  · rfl
  · intro e he h
    have ht := hT e he
    unfold Tie at ht
    have h := of_decide_eq_true h
    exact atZ_gi (by omega) (by omega)
theorem extendedF_eq {q n : Nat} {ts : List (Int × Int)} (hT : ∀ t ∈ ts, Tie n t) (hq : q ≤ 100) (hn : n ≤ 100) (hlt : ts.length ≤ 1000) : ∀ {k d : Nat} {dyes : List Int}, dyes.length + k = n → k < d → extendedF d n ts q dyes = some (EX q ts k dyes)
  | k, 0, _, _, h => by omega
  | 0, d + 1, dyes, hl, _ => by
    unfold extendedF EX
    rw [Option.bind_some, Option.bind_some, if_pos (by simp; omega)]
  | k + 1, d + 1, dyes, hl, hd => by
    unfold extendedF EX
    rw [Option.bind_some, Option.bind_some, if_neg (by simp; omega), near_eq hT hlt, Option.bind_some, rng0 (by omega), Option.bind_some,
      loopR_find (fun c : Int => if c ∈ near ts dyes then none else (EX q ts k (dyes ++ [c])).map some)]
    · rw [Option.bind_some, findSome_map]
      have : ∀ xs : List Nat, xs.findSome? (fun x : Nat => if (x : Int) ∈ near ts dyes then none else (EX q ts k (dyes ++ [(x : Int)])).map some) = (xs.findSome? fun c : Nat => if (c : Int) ∈ near ts dyes then none else EX q ts k (dyes ++ [(c : Int)])).map some := by
        intro xs
        induction xs with
        | nil => rfl
        | cons x xs ih =>
          rw [List.findSome?_cons, List.findSome?_cons, ih]
          by_cases hc : (x : Int) ∈ near ts dyes
          · simp [hc]
          · rw [if_neg hc, if_neg hc]
            cases EX q ts k (dyes ++ [(x : Int)]) <;> rfl
      rw [this]
      cases (List.range q).findSome? fun c : Nat => if (c : Int) ∈ near ts dyes then none else EX q ts k (dyes ++ [(c : Int)]) <;> rfl
    · intro c hc
      unfold memL
      rw [Option.bind_some]
      by_cases h : c ∈ near ts dyes
      · simp [h]
      · rw [if_neg h, if_pos (by simp [h]), catL_ok (by simp; omega)]
        simp only [Option.bind_some]
        rw [extendedF_eq hT hq hn hlt (k := k) (by simp; omega) (by omega), Option.bind_some]
        cases EX q ts k (dyes ++ [c]) <;> rfl
theorem least_eq {p : Int} {ts : List (Int × Int)} (w : Web p ts) {q : Nat} (hq : q ≤ 100) : least p ts q = some (.ok (fst_ p.toNat q ts)) := by
  have w' := w
  obtain ⟨⟨h0, h1⟩, h2, h3⟩ := w'
  have ep : ((p.toNat : Nat) : Int) = p := by omega
  have hT : ∀ t ∈ ts, Tie (p.toNat : Int) t := by rw [ep]; exact h3.tie
  unfold least extended
  rw [asked_web_ok w, Option.bind_some, exB_ok]
  have := extendedF_eq (q := q) (n := p.toNat) (ts := ts) hT hq (by omega) (by omega) (k := p.toNat) (d := 10) (dyes := []) (by simp) (by omega)
  rw [ep] at this
  rw [this, Option.bind_some, EX_nil hT]
end Q

set_option linter.all false
/-! Lists told and lists due. -/
namespace Q
open Dv
def ties_like (found : List (Int × Int)) (due : List (Int × Int)) : Option Bool :=
  ((if (!true) = true then some true else some (!decide ((found.length : Int) = (due.length : Int))))).bind fun b1 => if b1 = true then
    some false
  else
  (some (found.zip due)).bind fun xs2 => (loopR (S := Unit) (R := Bool) (fun (s3 : Unit) (q4 : (Int × Int) × (Int × Int)) =>
      ((if (!true) = true then some true else (if (!decide (2 = 2)) = true then some true else some (!decide (q4.1 = q4.2))))).bind fun b8 => if b8 = true then
        (some false).bind fun y9 => some (.ret y9)
      else
      (some [q4.1.1, q4.1.2]).bind fun xs10 => (loopR (S := Unit) (R := Bool) (fun (s11 : Unit) (q12 : Int) =>
          ((if (!true) = true then some true else some false)).bind fun b16 => if b16 = true then
            (some false).bind fun y17 => some (.ret y17)
          else
          some (.go ())) () xs10).bind fun st13 => st13.elim (fun s14 =>
      some (.go ())) (fun y15 => some (.ret y15))) () xs2).bind fun st5 => st5.elim (fun s6 =>
  some true) (fun y7 => some y7)
def numbers_like (found : List Int) (due : List Int) : Option Bool :=
  ((if (!true) = true then some true else some (!decide ((found.length : Int) = (due.length : Int))))).bind fun b1 => if b1 = true then
    some false
  else
  (some (found.zip due)).bind fun xs2 => (loopR (S := Unit) (R := Bool) (fun (s3 : Unit) (q4 : Int × Int) =>
      ((if (!true) = true then some true else (if false = true then some true else some (!decide (q4.1 = q4.2))))).bind fun b8 => if b8 = true then
        (some false).bind fun y9 => some (.ret y9)
      else
      some (.go ())) () xs2).bind fun st5 => st5.elim (fun s6 =>
  some true) (fun y7 => some y7)
theorem zip_any {α : Type} [DecidableEq α] : ∀ {xs ys : List α}, xs.length = ys.length → (xs.zip ys).any (fun q => !decide (q.1 = q.2)) = !decide (xs = ys)
  | [], [], _ => rfl
  | x :: xs, y :: ys, h => by
    rw [List.zip_cons_cons, List.any_cons, zip_any (xs := xs) (ys := ys) (by simpa using h)]
    by_cases e : x = y <;> simp [e]
  | [], _ :: _, h => by simp at h
  | _ :: _, [], h => by simp at h
theorem ties_like_eq (xs ys : List (Int × Int)) : ties_like xs ys = some (decide (xs = ys)) := by
  unfold ties_like
  by_cases h : xs.length = ys.length
  · have h' : (xs.length : Int) = (ys.length : Int) := by omega
    simp only [h', Bool.not_true, Bool.false_eq_true, ↓reduceIte, decide_true, Option.bind_some]
    rw [loopR_any (fun q => !decide (q.1 = q.2)) false, zip_any h, Option.bind_some]
    · by_cases e : xs = ys <;> simp [e]
    · intro q _
      by_cases e : q.1 = q.2
      · simp [e, loopR]
      · simp [e]
  · have h' : ¬ (xs.length : Int) = (ys.length : Int) := by omega
    have h2 : xs ≠ ys := fun e => h (by rw [e])
    simp [h', h2]
theorem numbers_like_eq (xs ys : List Int) : numbers_like xs ys = some (decide (xs = ys)) := by
  unfold numbers_like
  by_cases h : xs.length = ys.length
  · have h' : (xs.length : Int) = (ys.length : Int) := by omega
    simp only [h', Bool.not_true, Bool.false_eq_true, ↓reduceIte, decide_true, Option.bind_some]
    rw [loopR_any (fun q => !decide (q.1 = q.2)) false, zip_any h, Option.bind_some]
    · by_cases e : xs = ys <;> simp [e]
    · intro q _
      by_cases e : q.1 = q.2
      · simp [e]
      · simp [e]
  · have h' : ¬ (xs.length : Int) = (ys.length : Int) := by omega
    have h2 : xs ≠ ys := fun e => h (by rw [e])
    simp [h', h2]
end Q

set_option linter.all false
namespace Q
open Dv
def goes_onF : Nat → Int → (List (Int × Int)) → Int → (List Int) → Option Bool
  | 0, _, _, _, _ => none
  | n_ + 1, points, ties, many, tints =>
  (some (decide ((tints.length : Int) = points))).bind fun b1 => if b1 = true then
    some true
  else
  (lc (fun (q2 : Int × Int) => some (decide (q2.2 = (tints.length : Int)))) (fun (q2 : Int × Int) => atZ tints q2.1) ties).bind fun near_4 =>
  (rng 0 many).bind fun xs5 => (loopR (S := Unit) (R := Bool) (fun (s6 : Unit) (q7 : Int) =>
      ((if (!memL q7 near_4) = true then (((((catL tints [q7]).bind fun y11 => some (y11, ())).bind fun y12 => some (many, y12)).bind fun y13 => some (ties, y13)).bind fun y14 => some (points, y14)).bind fun a15 => goes_onF n_ a15.1 a15.2.1 a15.2.2.1 a15.2.2.2.1 else some false)).bind fun b16 => if b16 = true then
        (some true).bind fun y17 => some (.ret y17)
      else
      some (.go ())) () xs5).bind fun st8 => st8.elim (fun s9 =>
  some false) (fun y10 => some y10)
def goes_on (points : Int) (ties : List (Int × Int)) (many : Int) (tints : List Int) : Option Bool := goes_onF 10 points ties many tints
def is_ (points : Int) (ties : List (Int × Int)) (tints : List Int) (many : Int) : Option Bool :=
  ((if (!true) = true then some true else some (!decide ((tints.length : Int) = points)))).bind fun b18 => if b18 = true then
    some false
  else
  (some tints).bind fun xs19 => (loopR (S := Unit) (R := Bool) (fun (s20 : Unit) (q21 : Int) =>
      (((whole q21).bind fun y25 => some (!y25)).bind fun y27 => (if y27 = true then some true else ((if (decide (0 ≤ q21)) = true then some (decide (q21 < many)) else some false)).bind fun y26 => some (!y26))).bind fun b28 => if b28 = true then
        (some false).bind fun y29 => some (.ret y29)
      else
      some (.go ())) () xs19).bind fun st22 => st22.elim (fun s23 =>
  ((lc (fun (q30 : Int × Int) => (atZ tints q30.1).bind fun y31 => (atZ tints q30.2).bind fun y32 => some (decide (y31 = y32))) (fun (q30 : Int × Int) => some q30) ties).bind fun y34 => some (y34.length : Int)).bind fun y35 => some (decide (y35 = 0))) (fun y24 => some y24)
def law (script : List Int) : Option Bool :=
  (web_by script 0 7 10).bind fun p36 =>
  ((cell_at script 3).bind fun y37 => modZ y37 8).bind fun many_38 =>
  (noX (row p36.1 p36.2)).bind fun numbers_39 =>
  (some p36.2).bind fun handed_40 =>
  (noX (fewest p36.1 handed_40)).bind fun few_41 =>
  (((whole few_41).bind fun y42 => some (!y42)).bind fun y44 => (if y44 = true then some true else (if (decide (few_41 < 0)) = true then some true else (if (decide (7 < few_41)) = true then some true else (at_ numbers_39 few_41).bind fun y43 => some (decide (y43 = 0)))))).bind fun b45 => if b45 = true then
    some false
  else
  ((((rng 0 few_41).bind fun y49 => lc (fun (q46 : Int) => (at_ numbers_39 q46).bind fun y47 => some (!decide (y47 = 0))) (fun (q46 : Int) => some q46) y49).bind fun y50 => some (y50.length : Int)).bind fun y51 => some (decide (0 < y51))).bind fun b52 => if b52 = true then
    some false
  else
  (noX (least p36.1 handed_40 many_38)).bind fun found_53 =>
  (some (decide (many_38 < few_41))).bind fun b54 => if b54 = true then
    (if found_53.isNone = true then some (decide (handed_40 = p36.2)) else some false)
  else
  (((((((found_53).bind fun y55 => some (y55, (many_38, ()))).bind fun y56 => some (p36.2, y56)).bind fun y57 => some (p36.1, y57)).bind fun a58 => is_ a58.1 a58.2.1 a58.2.2.1 a58.2.2.2.1).bind fun y59 => some (!y59)).bind fun y60 => (if y60 = true then some true else some (!decide (handed_40 = p36.2)))).bind fun b61 => if b61 = true then
    some false
  else
  (rng 0 p36.1).bind fun xs62 => (loopR (S := Unit) (R := Bool) (fun (s63 : Unit) (q64 : Int) =>
      (lc (fun (q68 : Int × Int) => some (decide (q68.2 = q64))) (fun (q68 : Int × Int) => (found_53).bind fun y69 => atZ y69 q68.1) p36.2).bind fun near_71 =>
      (((found_53).bind fun y72 => atZ y72 q64).bind fun y73 => rng 0 y73).bind fun xs74 => (loopR (S := Unit) (R := Bool) (fun (s75 : Unit) (q76 : Int) =>
          ((if (!memL q76 near_71) = true then (((((((found_53).bind fun y80 => some (cutZ y80 none (some q64))).bind fun y81 => catL y81 [q76]).bind fun y82 => some (y82, ())).bind fun y83 => some (many_38, y83)).bind fun y84 => some (p36.2, y84)).bind fun y85 => some (p36.1, y85)).bind fun a86 => goes_on a86.1 a86.2.1 a86.2.2.1 a86.2.2.2.1 else some false)).bind fun b87 => if b87 = true then
            (some false).bind fun y88 => some (.ret y88)
          else
          some (.go ())) () xs74).bind fun st77 => st77.elim (fun s78 =>
      some (.go ())) (fun y79 => some (.ret y79))) () xs62).bind fun st65 => st65.elim (fun s66 =>
  some true) (fun y67 => some y67)
theorem findSome_isSome {f : α → Option β} : ∀ {xs : List α}, (xs.findSome? f).isSome = xs.any fun x => (f x).isSome
  | [] => rfl
  | x :: xs => by
    rw [List.findSome?_cons, List.any_cons]
    cases h : f x
    · simp [findSome_isSome]
    · simp
theorem goes_onF_eq {q n : Nat} {ts : List (Int × Int)} (hT : ∀ t ∈ ts, Tie n t) (hq : q ≤ 100) (hn : n ≤ 100) (hlt : ts.length ≤ 1000) : ∀ {k d : Nat} {dyes : List Int}, dyes.length + k = n → k < d → goes_onF d n ts q dyes = some (EX q ts k dyes).isSome
  | k, 0, _, _, h => by omega
  | 0, d + 1, dyes, hl, _ => by
    unfold goes_onF EX
    rw [Option.bind_some, if_pos (by simp; omega)]
    rfl
  | k + 1, d + 1, dyes, hl, hd => by
    unfold goes_onF EX
    rw [Option.bind_some, if_neg (by simp; omega), near_eq hT hlt, Option.bind_some, rng0 (by omega), Option.bind_some,
      loopR_any (fun c : Int => !decide (c ∈ near ts dyes) && (EX q ts k (dyes ++ [c])).isSome) true]
    · rw [Option.bind_some, findSome_isSome, List.any_map]
      have : ((fun c : Int => !decide (c ∈ near ts dyes) && (EX q ts k (dyes ++ [c])).isSome) ∘ fun i : Nat => (i : Int)) = fun x : Nat => (if (x : Int) ∈ near ts dyes then none else EX q ts k (dyes ++ [(x : Int)])).isSome := by
        funext x
        by_cases h : (x : Int) ∈ near ts dyes <;> simp [h]
      rw [this]
      split <;> rename_i h
      · rw [h]; rfl
      · rw [Bool.eq_false_iff.mpr h]; rfl
    · intro c hc
      unfold memL
      by_cases h : c ∈ near ts dyes
      · simp [h]
      · rw [if_pos (by simp [h]), catL_ok (by simp; omega)]
        simp only [Option.bind_some]
        rw [goes_onF_eq hT hq hn hlt (k := k) (by simp; omega) (by omega), Option.bind_some]
        simp only [h, decide_false, Bool.not_false, Bool.true_and]
        split <;> simp_all
theorem findSome_range {f : Nat → Option β} {b : β} : ∀ {q : Nat}, (List.range q).findSome? f = some b → ∃ a, a < q ∧ f a = some b ∧ ∀ x, x < a → f x = none
  | 0, h => by simp at h
  | q + 1, h => by
    rw [List.range_succ, List.findSome?_append] at h
    cases h1 : (List.range q).findSome? f with
    | some b' =>
      rw [h1] at h
      obtain ⟨a, h2, h3, h4⟩ := findSome_range h1
      cases h
      exact ⟨a, by omega, h3, h4⟩
    | none =>
      rw [h1] at h
      have h2 : f q = some b := by
        simp [List.findSome?_cons] at h
        cases h3 : f q <;> simp_all
      refine ⟨q, by omega, h2, fun x hx => ?_⟩
      rw [List.findSome?_eq_none_iff] at h1
      exact h1 x (List.mem_range.mpr hx)
theorem EX_prefix {q : Nat} {ts : List (Int × Int)} : ∀ {k : Nat} {dyes t : List Int}, EX q ts k dyes = some t → ∃ u, t = dyes ++ u
  | 0, dyes, t, h => by
    cases h
    exact ⟨[], by simp⟩
  | k + 1, dyes, t, h => by
    obtain ⟨a, h1, h2, h3⟩ := findSome_range h
    by_cases hc : (a : Int) ∈ near ts dyes
    · rw [if_pos hc] at h2
      cases h2
    · rw [if_neg hc] at h2
      obtain ⟨u, hu⟩ := EX_prefix h2
      exact ⟨(a : Int) :: u, by rw [hu]; simp⟩
theorem EX_min {q : Nat} {ts : List (Int × Int)} : ∀ {k : Nat} {dyes t : List Int}, EX q ts k dyes = some t → ∀ j : Nat, dyes.length ≤ j → j < dyes.length + k → ∀ c : Nat, (c : Int) < gi t j → (c : Int) ∉ near ts (t.take j) →
    EX q ts (dyes.length + k - j - 1) (t.take j ++ [(c : Int)]) = none
  | 0, dyes, t, _, j, h1, h2, _, _, _ => by omega
  | k + 1, dyes, t, h, j, hj1, hj2, c, hc, hn => by
    obtain ⟨a, h1, h2, h3⟩ := findSome_range h
    by_cases ha : (a : Int) ∈ near ts dyes
    · rw [if_pos ha] at h2
      cases h2
    · rw [if_neg ha] at h2
      by_cases e : j = dyes.length
      · subst e
        obtain ⟨u, hu⟩ := EX_prefix h2
        have hu2 : t = dyes ++ ((a : Int) :: u) := by rw [hu]; simp
        have e1 : t.take dyes.length = dyes := by rw [hu2, List.take_left]
        rw [hu2, gi_mid rfl] at hc
        rw [e1] at hn ⊢
        have := h3 c (by omega)
        rw [if_neg hn] at this
        have e2 : dyes.length + (k + 1) - dyes.length - 1 = k := by omega
        rw [e2]
        exact this
      · have := EX_min h2 j (by simp; omega) (by simp; omega) c hc hn
        have e2 : (dyes ++ [(a : Int)]).length + k - j - 1 = dyes.length + (k + 1) - j - 1 := by simp; omega
        rw [e2] at this
        exact this
theorem is_true {p : Int} {ts : List (Int × Int)} (hT : ∀ t ∈ ts, Tie p t) (hlt : ts.length ≤ 1000) {n q : Nat} (hp : p = n) {l : List Int} (hi : In n q l) (hf : fitsB ts l = true) : is_ p ts l q = some true := by
  subst hp
  unfold is_
  have h : (l.length : Int) = n := by rw [hi.1]
  simp only [h, Bool.not_true, Bool.false_eq_true, ↓reduceIte, decide_true, Option.bind_some]
  rw [loopR_all (fun _ => true), Option.bind_some]
  · simp only [List.all_eq_true, implies_true, ↓reduceIte, Stp.elim_go]
    rw [lc_all (fun e : Int × Int => decide (gi l e.1 = gi l e.2)) (fun e => e) (by omega)]
    · rw [Option.bind_some, Option.bind_some, List.filter_eq_nil_iff.mpr]
      · rfl
      · intro e he
        have := (fitsB_iff ts l).mp hf e he
        simpa using this
    · intro e he
      have ht := hT e he
      unfold Tie at ht
      rw [atZ_gi (by omega) (by omega), Option.bind_some, atZ_gi (by omega) (by omega), Option.bind_some]
    · intro e _ _
      rfl
  · intro x hx
    have := hi.2 x hx
    rw [whole_eq]
    have h1 : 0 ≤ x := this.1
    have h2 : x < q := this.2
    simp [h1, h2]
theorem take_near {n : Int} {ts : List (Int × Int)} (hT : ∀ t ∈ ts, Tie n t) {l : List Int} (hl : n ≤ l.length) (hlt : ts.length ≤ 1000) {k : Nat} (hk : (k : Int) < n) :
    lc (fun (q68 : Int × Int) => some (decide (q68.2 = (k : Int)))) (fun (q68 : Int × Int) => atZ l q68.1) ts = some (near ts (l.take k)) := by
  have hlen : (l.take k).length = k := by rw [List.length_take]; omega
  rw [lc_all (fun e : Int × Int => decide (e.2 = (k : Int))) (fun e => gi l e.1) (by omega) (fun _ _ => rfl)]
  · unfold near
    rw [hlen]
    congr 1
    refine List.map_congr_left fun e he => ?_
    have he := List.mem_filter.mp he
    have ht := hT e he.1
    have h2 := of_decide_eq_true he.2
    unfold Tie at ht
    unfold gi
    rw [List.getD_eq_getElem?_getD, List.getD_eq_getElem?_getD, List.getElem?_take_of_lt (by omega)]
  · intro e he h
    have ht := hT e he
    have h2 := of_decide_eq_true h
    unfold Tie at ht
    exact atZ_gi (by omega) (by omega)
theorem law_true (ns : List Int) (_ : ns.length ≤ 63) : law ns = some true := by
  unfold law
  obtain ⟨p, ts, e0, hp, hl, hT⟩ := web_by_spec ns (k := 0) (most := 7) (cap := 10) (by decide) (by decide) (by decide) (by decide)
  have w : Web p ts := ⟨by omega, by omega, hT⟩
  have ep : ((p.toNat : Nat) : Int) = p := by omega
  have hT' : ∀ t ∈ ts, Tie (p.toNat : Int) t := by rw [ep]; exact hT.tie
  have hlen := Rw_len w
  rw [e0, Option.bind_some, cell_at_eq ns (by decide), Option.bind_some, modZ_pos (by decide), Option.bind_some]
  obtain ⟨m0, m1⟩ := emod_bd (cell ns 3) (show (0 : Int) < 8 by decide)
  generalize cell ns 3 % 8 = many at *
  dsimp only
  obtain ⟨k, hk, ek⟩ := fewest_eq w
  have hkp := hk.le
  rw [row_eq w, noX_ok, Option.bind_some, Option.bind_some, ek, noX_ok, Option.bind_some, whole_eq, Option.bind_some]
  have c1 : ¬ (k : Int) < 0 := by omega
  have c2 : ¬ (7 : Int) < k := by omega
  have c3 : ¬ ev (Rw p ts) (k : Int) = 0 := by
    rw [ev_Rw w, col_zero]
    exact hk.some
  simp only [Bool.not_true, Bool.false_eq_true, c1, c2, decide_false, ↓reduceIte, Option.bind_some]
  rw [at_eq _ (by omega) (by omega) (by omega), Option.bind_some, Option.bind_some, if_neg (by simpa using c3), rng0 (by omega), Option.bind_some, lc_all (fun _ => false) (fun q => q) (by simp; omega) ?_ (fun _ _ _ => rfl)]
  rotate_left
  · intro x hx
    obtain ⟨i, hi, rfl⟩ := List.mem_map.mp hx
    have hi := List.mem_range.mp hi
    rw [at_eq _ (by omega) (by omega) (by omega), Option.bind_some, ev_Rw w, col_zero.mpr (hk.none i hi)]
    rfl
  have hlst := least_eq w (q := many.toNat) (by omega)
  rw [show ((many.toNat : Nat) : Int) = many by omega] at hlst
  rw [List.filter_eq_nil_iff.mpr fun _ _ => Bool.false_ne_true]
  simp only [List.map_nil, List.length_nil, Option.bind_some]
  rw [if_neg (by decide), hlst, noX_ok, Option.bind_some]
  by_cases hm : many < (k : Int)
  · rw [if_pos (by simpa using hm), hk.none many.toNat (by omega)]
    simp
  · rw [if_neg (by simpa using hm)]
    have hne : fst_ p.toNat many.toNat ts ≠ none := by
      cases h : fst_ p.toNat k ts with
      | none => exact absurd h hk.some
      | some t =>
        obtain ⟨h1, h2⟩ := fst_some h
        exact fst_of ⟨h1.1, fun x hx => by have := h1.2 x hx; omega⟩ h2
    cases h : fst_ p.toNat many.toNat ts with
    | none => exact absurd h hne
    | some t =>
      obtain ⟨h1, h2⟩ := fst_some h
      have hex := h
      rw [← EX_nil hT'] at hex
      have his := is_true hT.tie (by omega) ep.symm h1 h2
      rw [show ((many.toNat : Nat) : Int) = many by omega] at his
      have htl := h1.1
      simp only [Option.bind_some]
      rw [his]
      simp only [Option.bind_some, Bool.not_true, Bool.false_eq_true, ↓reduceIte, decide_true]
      rw [show p = ((p.toNat : Nat) : Int) from ep.symm, rng0 (by omega), Option.bind_some, loopR_any (fun _ => false) false]
      · simp
      · intro x hx
        obtain ⟨i, hi, rfl⟩ := List.mem_map.mp hx
        have hi := List.mem_range.mp hi
        obtain ⟨b0, b1⟩ := gi_in h1 (x := (i : Int)) (by omega) (by omega)
        rw [take_near hT' (by omega) (by omega) (by omega), Option.bind_some, atZ_gi (by omega) (by omega), Option.bind_some, show gi t (i : Int) = (((gi t (i : Int)).toNat : Nat) : Int) by omega, rng0 (by omega), Option.bind_some, loopR_any (fun _ => false) false]
        · simp
        · intro y hy
          obtain ⟨c, hc, rfl⟩ := List.mem_map.mp hy
          have hc := List.mem_range.mp hc
          unfold memL
          by_cases hn : (c : Int) ∈ near ts (t.take i)
          · simp [hn]
          · have hg := goes_onF_eq (q := many.toNat) (n := p.toNat) (ts := ts) hT' (by omega) (by omega) (by omega) (k := p.toNat - i - 1) (d := 10) (dyes := t.take i ++ [(c : Int)]) (by rw [List.length_append, List.length_take]; simp; omega) (by omega)
            have hmin := EX_min hex i (by simp) (by simp; omega) c (by omega) hn
            simp only [List.length_nil, Nat.zero_add] at hmin
            rw [hmin, show ((many.toNat : Nat) : Int) = many by omega] at hg
            simp only [hn, decide_false, Bool.not_false, ↓reduceIte, Option.bind_some, cutZ_upto]
            rw [catL_ok (by rw [List.length_take]; simp; omega)]
            simp only [Option.bind_some]
            have hgo : goes_on ((p.toNat : Nat) : Int) ts many (t.take i ++ [(c : Int)]) = some false := hg
            rw [hgo]
            rfl
end Q

set_option Elab.async false
set_option linter.all false
set_option maxRecDepth 100000
set_option maxHeartbeats 4000000
namespace Q
open PySem L2 Dv Dw
abbrev topS (i : Nat) : Stmt := PySem.Challenge.pw_dyeweb_k19_dyes_of_more_points.main.body.getD i (.Pass ⟨0, 0, 0, 0⟩)
structure Txt (K : PySem.W.Frag) (mg : Str → Option Value) (ad : Er → Addr) (CW : Addr) : Prop where
  b_bool : mg "bool" = none
  b_int : mg "int" = none
  b_isinstance : mg "isinstance" = none
  b_len : mg "len" = none
  b_list : mg "list" = none
  b_max : mg "max" = none
  b_min : mg "min" = none
  b_range : mg "range" = none
  b_reversed : mg "reversed" = none
  b_sorted : mg "sorted" = none
  g_MOST_POINTS : ∃ t, mg "MOST_POINTS" = some (.int 7 t)
  g_MOST_TIES : ∃ t, mg "MOST_TIES" = some (.int 12 t)
  x_NoWeb : ErC K mg "NoWeb" (ad .noWeb)
  nil : True
section
variable {P : Program} {w : World} {K : PySem.W.Frag} {mg : Str → Option Value} {base : Heap} {ad : Er → Addr} {CW : Addr}
abbrev s_is_web : Stmt := topS 6
theorem sc_is_web : FnScope ["points", "ties", "k", "low", "high"] ["points", "ties"] (defScope s_is_web) := ⟨rfl, rfl, rfl, by decide +kernel, rfl, by decide +kernel, by decide +kernel⟩
theorem ok_is_web {f : Addr} {fd : FuncData} (F : Fun K "is_web" "is_web" s_is_web f fd) (gF : mg "is_web" = some (.ref f)) (T : Txt K mg ad CW) : Fn P w K mg base CX0 1 "is_web" ["points", "ties"] (spO (β := Bool) fun (x : Int × (List (Int × Int)) × Unit) => is_web x.1 x.2.1) := by
  obtain ⟨t_MOST_POINTS, T_g_MOST_POINTS⟩ := T.g_MOST_POINTS
  obtain ⟨t_MOST_TIES, T_g_MOST_TIES⟩ := T.g_MOST_TIES
  refine ⟨f, _, gF, F.kp, F.binds (ps := ["points", "ties"]) (fun _ _ _ _ _ _ us hl => match us, hl with | [_, _], _ => rfl), F.ok sc_is_web (spO_len rfl) (fun cdv A outer s H vs Q E hr h => ?_)⟩
  refine ⟨_, (pss_cons (ps_if (PW.pt (pw_or (pt_cmpR op_lt (pv 0) pe_int (nomark _)) (pw_or (pt_cmpR op_gt (pv 0) (pe_glob (v := .int 7) rfl T_g_MOST_POINTS ⟨_, rfl⟩) (nomark _)) (pw_or1 (pt_cmpR op_gt (pe_callB call_len_seq (by rfl) T.b_len PySem.boot_len (pa_cons (pv 1) pa_nil)) (pe_glob (v := .int 12) rfl T_g_MOST_TIES ⟨_, rfl⟩) (nomark _)))))) (pss_one (ps_ret pe_bl)) pss_nil)
    (pss_cons (ps_for PassesOwn.never rfl (pi_range1 (by rfl) T.b_range (pa_cons (pe_callB call_len_seq (by rfl) T.b_len PySem.boot_len (pa_cons (pv 1) pa_nil)) pa_nil)) (pg_name (i := 2) sc_is_web.nd rfl (by first | exact Or.inl rfl | exact Or.inr rfl)) (pss_cons (ps_asg (pe_ix ix_list (pv 1) (pv 2) (fun _ _ => rfl)) (pg_tup rfl (pgs_cons (pg_name (i := 3) sc_is_web.nd rfl (by first | exact Or.inl rfl | exact Or.inr rfl)) (pgs_cons (pg_name (i := 4) sc_is_web.nd rfl (by first | exact Or.inl rfl | exact Or.inr rfl)) pgs_nil))))
    (pss_cons (ps_if (PW.pt (pw_or (pt_cmpR op_lt (pv 3) pe_int (nomark _)) (pw_or (pt_cmpR op_ge (pv 3) (pv 4) (nomark _)) (pw_or1 (pt_cmpR op_ge (pv 4) (pv 0) (nomark _)))))) (pss_one (ps_ret pe_bl)) pss_nil)
    (pss_one (ps_if (PW.pt (pw_and (pt_cmpR op_gt (pv 2) pe_int (nomark _)) (pw_and1 (pt_cmpR (op_leT (hu0 hr)) (pe_ix ix_list (pv 1) (pv 2) (fun _ _ => rfl)) (pe_ix ix_list (pv 1) (pe_op op_sub (pv 2) pe_int) (fun _ _ => rfl)) (nomark _))))) (pss_one (ps_ret pe_bl)) pss_nil)))))
    (pss_one (ps_ret pe_bl)))), ?_⟩
  obtain ⟨F0, ⟨x_points, x_ties, _⟩, y, s0, ⟨v_points, _, rfl, h_points, v_ties, _, rfl, h_ties, rfl⟩, hm, hQ⟩ := h
  have L0 : Lat F0 H F0 H := .refl s0
  refine at_st (σ := [some v_points, some v_ties, none, none, none]) rfl ?_
  replace hm : is_web x_points x_ties = some y := hm
  unfold is_web at hm
  refine rd_guard L0.fh (evt_or (evt_of (ev_op (ev_varF rfl h_points) ev_int rv_cmp)) (evt_or (evt_of (ev_op (ev_varF rfl h_points) ev_int rv_cmp)) (evt_of (ev_op (ev_len (ev_var rfl h_ties)) ev_int rv_cmp)))) hm ?_ ?_
  · intro F1 H2 _ hm l3
    have L4 := L0.trans l3
    exact rd_ret0 L4.fh ev_bl hm fun v F1 H1 l rv => hQ v F1 H1 (L4.trans l) rv
  · intro F5 H6 _ hm l7
    have L8 := L0.trans l7
    replace h_ties := up h_ties l7
    refine rd_for L8.fh (ei_range1 (ev_len (ev_var rfl h_ties))) hm ?_
    intro xs9 J10 F11 H12 hm l13 wk14
    have L15 := L8.trans l13
    replace h_ties := up h_ties l13
    refine rd_loopR wk14 hm (fun (s : Unit) σ_ F_ H_ => ∃ (o2_ : Option V) (o3_ : Option V) (o4_ : Option V), σ_ = [some v_points, some v_ties, o2_, o3_, o4_] ∧ Same F11 F_ ∧ Lat F0 H F_ H_ ∧ True) ⟨_, _, _, rfl, (.refl _), L15, trivial⟩ ?_ ?_ ?_
    · rintro s σ_ F_ H_ ⟨e16, e17, e18, rfl, sf19, L20, -⟩
      exact ⟨sf19, L20.fh⟩
    · rintro q21 s22 σ_ F28 H29 v23 F30 H31 ⟨e32, e33, e34, rfl, sf35, L36, -⟩ l24 rv25 st39 hm D27 hD37 hN26 hR38
      replace hD37 : D27.rt = Q := hD37
      replace h_ties := Rep.mono sf35 h_ties
      have L40 := L36.trans l24
      have sb41 := Same.trans sf35 l24.f
      replace h_ties := up h_ties l24
      refine gt_name ?_
      refine rd_asg2 L40.fh (ev_op (ev_var rfl h_ties) (ev_varF rfl rv25) rv_ixL) hm ?_
      intro x42 v43 v44 F45 H46 hm l47 h_low_48 h_high_49
      have L50 := L40.trans l47
      have sb51 := Same.trans sb41 l47.f
      replace h_ties := up h_ties l47
      refine rd_guard L50.fh (evt_or (evt_of (ev_op (ev_varF rfl h_low_48) ev_int rv_cmp)) (evt_or (evt_of (ev_op (ev_varF rfl h_low_48) (ev_varF rfl h_high_49) rv_cmp)) (evt_of (ev_op (ev_varF rfl h_high_49) (ev_varF rfl h_points) rv_cmp)))) hm ?_ ?_
      · intro F52 H53 _ hm l54
        have L55 := L50.trans l54
        have sb56 := Same.trans sb51 l54.f
        replace h_ties := up h_ties l54
        refine rd_ret L55.fh ev_bl hm ?_
        intro x_ v_ F1_ H1_ hm l_ rv_
        replace hm := hR38 _ (Option.some.inj hm).symm
        obtain rfl := Option.some.inj hm
        rw [hD37]
        exact hQ _ _ _ (L55.trans l_) rv_
      · intro F57 H58 _ hm l59
        have L60 := L50.trans l59
        have sb61 := Same.trans sb51 l59.f
        replace h_ties := up h_ties l59
        refine rd_if L60.fh (evt_and (evt_of (ev_op (ev_varF rfl rv25) ev_int rv_cmp)) (evt_of (ev_op (ev_op (ev_var rfl h_ties) (ev_varF rfl rv25) rv_ixL) (ev_op (ev_var rfl h_ties) (ev_op (ev_varF rfl rv25) ev_int rv_sub) rv_ixL) rv_leT))) hm ?_ ?_
        · intro F62 H63 _ hm l64
          have L65 := L60.trans l64
          have sb66 := Same.trans sb61 l64.f
          replace h_ties := up h_ties l64
          refine rd_ret L65.fh ev_bl hm ?_
          intro x_ v_ F1_ H1_ hm l_ rv_
          replace hm := hR38 _ (Option.some.inj hm).symm
          obtain rfl := Option.some.inj hm
          rw [hD37]
          exact hQ _ _ _ (L65.trans l_) rv_
        · intro F67 H68 _ hm l69
          have L70 := L60.trans l69
          have sb71 := Same.trans sb61 l69.f
          replace h_ties := up h_ties l69
          exact hN26 _ (Option.some.inj hm).symm _ _ _ ⟨_, _, _, rfl, sb71, L70, trivial⟩
    · rintro s72 σ_ F73 H74 hm ⟨e75, e76, e77, rfl, sf78, L79, -⟩
      refine nx_with ?_
      exact rd_ret0 L79.fh ev_bl hm fun v F1 H1 l rv => hQ v F1 H1 (L79.trans l) rv
abbrev s_asked_web : Stmt := topS 7
theorem sc_asked_web : FnScope ["points", "ties"] ["points", "ties"] (defScope s_asked_web) := ⟨rfl, rfl, rfl, by decide +kernel, rfl, by decide +kernel, by decide +kernel⟩
theorem ok_asked_web {f : Addr} {fd : FuncData} (F : Fun K "asked_web" "asked_web" s_asked_web f fd) (gF : mg "asked_web" = some (.ref f)) (T : Txt K mg ad CW) (C_is_web : Fn P w K mg base CX0 1 "is_web" ["points", "ties"] (spO (β := Bool) fun (x : Int × (List (Int × Int)) × Unit) => is_web x.1 x.2.1)) : Fn P w K mg base (L2.CX P w) 2 "asked_web" ["points", "ties"] (spX (clO ad) (β := Unit) fun (x : Int × (List (Int × Int)) × Unit) => asked_web x.1 x.2.1) := by
  refine ⟨f, _, gF, F.kp, F.binds (ps := ["points", "ties"]) (fun _ _ _ _ _ _ us hl => match us, hl with | [_, _], _ => rfl), F.okX sc_asked_web (spX_len rfl) (fun cdv A outer s H vs Q E hr h => ?_)⟩
  refine ⟨_, (pss_one (ps_if (pt_not (pt_val (pe_fn C_is_web (hr.mono (by decide)) rfl (pa_cons (pv 0) (pa_cons (pv 1) pa_nil))))) (pss_one (ps_raiseE rfl (takes_of rfl rfl rfl rfl) T.x_NoWeb rfl)) pss_nil)), ?_⟩
  obtain ⟨F0, ⟨x_points, x_ties, _⟩, y, s0, ⟨v_points, _, rfl, h_points, v_ties, _, rfl, h_ties, rfl⟩, hm, hQ, hE⟩ := h
  have L0 : Lat F0 H F0 H := .refl s0
  refine at_st (σ := [some v_points, some v_ties]) rfl ?_
  replace hm : asked_web x_points x_ties = some y := hm
  unfold asked_web at hm
  refine rd_if L0.fh (evt_not (evt_b (ev_call (eva_cons (ev_varF rfl h_points) (eva_cons (ev_var rfl h_ties) eva_nil))))) hm ?_ ?_
  · intro F1 H2 _ hm l3
    have L4 := L0.trans l3
    exact (fun e F1 H1 ee l => hE e ee F1 H1 (L4.trans l)) _ _ _ (Option.some.inj hm).symm (.refl L4.fh)
  · intro F5 H6 _ hm l7
    have L8 := L0.trans l7
    exact hQ () (Option.some.inj hm).symm .non _ _ L8 rfl
abbrev s_without : Stmt := topS 8
theorem sc_without : FnScope ["ties", "tie", "one"] ["ties", "tie"] (defScope s_without) := ⟨rfl, rfl, rfl, by decide +kernel, rfl, by decide +kernel, by decide +kernel⟩
theorem ok_without {f : Addr} {fd : FuncData} (F : Fun K "without" "without" s_without f fd) (gF : mg "without" = some (.ref f)) (T : Txt K mg ad CW) : Fn P w K mg base CX0 1 "without" ["ties", "tie"] (spN (β := (Int × Int)) fun (x : (List (Int × Int)) × (Int × Int) × Unit) => without x.1 x.2.1) := by
  refine ⟨f, _, gF, F.kp, F.binds (ps := ["ties", "tie"]) (fun _ _ _ _ _ _ us hl => match us, hl with | [_, _], _ => rfl), F.ok sc_without (spN_len rfl) (fun cdv A outer s H vs Q E hr h => ?_)⟩
  refine ⟨_, (pss_one (ps_ret (pe_lc (own := [("one", 2)]) (g := (gName 2)) rfl sc_without.nd (pi_list (pv 0)) (blkOk_by (N := ["ties", "tie", "one"]) (sc := defScope s_without) (by decide +kernel)) (fun _ _ _ _ _ => (pg_name (i := 2) sc_without.nd rfl (by first | exact Or.inl rfl | exact Or.inr rfl))) (fun _ _ _ _ _ => (pts_one (pt_cmpR (op_neDK rfl (hu64 hr)) (pv 2) (pv 1) (nomark _)))) (fun _ _ _ _ _ => (pv 2))))), ?_⟩
  obtain ⟨F0, ⟨x_ties, x_tie, _⟩, y, s0, ⟨v_ties, _, rfl, h_ties, v_tie, _, rfl, h_tie, rfl⟩, hm, hQ⟩ := h
  have L0 : Lat F0 H F0 H := .refl s0
  refine at_st (σ := [some v_ties, some v_tie, none]) rfl ?_
  replace hm : without x_ties x_tie = some y := hm
  unfold without at hm
  exact rd_retN L0.fh (evn_lc (ei_list (ev_var rfl h_ties)) (fun x1 v2 _ _ _ l4 r3 k5 => gt_name (k5 _ rfl (evt_of (ev_op (ev_var rfl r3) (ev_var rfl (up h_tie l4)) (fun x y => rv_neD x y))) (ev_var rfl r3)))) hm fun p vs F1 H1 l h1 h2 h3 rv => hQ p vs F1 H1 (L0.trans l) (L0.h.free h1) h2 h3 rv
abbrev s_named : Stmt := topS 9
theorem sc_named : FnScope ["point", "tie"] ["point", "tie"] (defScope s_named) := ⟨rfl, rfl, rfl, by decide +kernel, rfl, by decide +kernel, by decide +kernel⟩
theorem ok_named {f : Addr} {fd : FuncData} (F : Fun K "named" "named" s_named f fd) (gF : mg "named" = some (.ref f)) (T : Txt K mg ad CW) : Fn P w K mg base CX0 1 "named" ["point", "tie"] (spO (β := Int) fun (x : Int × (Int × Int) × Unit) => named x.1 x.2.1) := by
  refine ⟨f, _, gF, F.kp, F.binds (ps := ["point", "tie"]) (fun _ _ _ _ _ _ us hl => match us, hl with | [_, _], _ => rfl), F.ok sc_named (spO_len rfl) (fun cdv A outer s H vs Q E hr h => ?_)⟩
  refine ⟨_, (pss_cons (ps_if (pt_cmpR op_eq (pv 0) (pe_ix ix_tup (pv 1) pe_int (fun _ _ => rfl)) (nomark _)) (pss_one (ps_ret (pe_ix ix_tup (pv 1) pe_int (fun _ _ => rfl)))) pss_nil)
    (pss_cons (ps_if (pt_cmpR op_gt (pv 0) (pe_ix ix_tup (pv 1) pe_int (fun _ _ => rfl)) (nomark _)) (pss_one (ps_ret (pe_op op_sub (pv 0) pe_int))) pss_nil)
    (pss_one (ps_ret (pv 0))))), ?_⟩
  obtain ⟨F0, ⟨x_point, x_tie, _⟩, y, s0, ⟨v_point, _, rfl, h_point, v_tie, _, rfl, h_tie, rfl⟩, hm, hQ⟩ := h
  have L0 : Lat F0 H F0 H := .refl s0
  refine at_st (σ := [some v_point, some v_tie]) rfl ?_
  replace hm : named x_point x_tie = some y := hm
  unfold named at hm
  refine rd_guard L0.fh (evt_of (ev_op (ev_varF rfl h_point) (ev_snd (ev_var rfl h_tie)) rv_eqI)) hm ?_ ?_
  · intro F1 H2 _ hm l3
    have L4 := L0.trans l3
    replace h_tie := up h_tie l3
    exact rd_ret0 L4.fh (ev_fst (ev_var rfl h_tie)) hm fun v F1 H1 l rv => hQ v F1 H1 (L4.trans l) rv
  · intro F5 H6 _ hm l7
    have L8 := L0.trans l7
    replace h_tie := up h_tie l7
    refine rd_guard L8.fh (evt_of (ev_op (ev_varF rfl h_point) (ev_snd (ev_var rfl h_tie)) rv_cmp)) hm ?_ ?_
    · intro F9 H10 _ hm l11
      have L12 := L8.trans l11
      exact rd_ret0 L12.fh (ev_op (ev_varF rfl h_point) ev_int rv_sub) hm fun v F1 H1 l rv => hQ v F1 H1 (L12.trans l) rv
    · intro F13 H14 _ hm l15
      have L16 := L8.trans l15
      exact rd_ret0 L16.fh (ev_varF rfl h_point) hm fun v F1 H1 l rv => hQ v F1 H1 (L16.trans l) rv
abbrev s_put_together : Stmt := topS 10
theorem sc_put_together : FnScope ["ties", "tie", "found", "one", "low", "high"] ["ties", "tie"] (defScope s_put_together) := ⟨rfl, rfl, rfl, by decide +kernel, rfl, by decide +kernel, by decide +kernel⟩
theorem ok_put_together {f : Addr} {fd : FuncData} (F : Fun K "put_together" "put_together" s_put_together f fd) (gF : mg "put_together" = some (.ref f)) (T : Txt K mg ad CW) (C_without : Fn P w K mg base CX0 1 "without" ["ties", "tie"] (spN (β := (Int × Int)) fun (x : (List (Int × Int)) × (Int × Int) × Unit) => without x.1 x.2.1)) (C_named : Fn P w K mg base CX0 1 "named" ["point", "tie"] (spO (β := Int) fun (x : Int × (Int × Int) × Unit) => named x.1 x.2.1)) : Fn P w K mg base CX0 2 "put_together" ["ties", "tie"] (spN (β := (Int × Int)) fun (x : (List (Int × Int)) × (Int × Int) × Unit) => put_together x.1 x.2.1) := by
  refine ⟨f, _, gF, F.kp, F.binds (ps := ["ties", "tie"]) (fun _ _ _ _ _ _ us hl => match us, hl with | [_, _], _ => rfl), F.ok sc_put_together (spN_len rfl) (fun cdv A outer s H vs Q E hr h => ?_)⟩
  refine ⟨_, (pss_cons (ps_set (i := 2) sc_put_together.nd rfl (by first | exact Or.inl rfl | exact Or.inr rfl) pe_dnewT)
    (pss_cons (ps_for PassesOwn.never rfl (pi_list (pe_fn C_without (hr.mono (by decide)) rfl (pa_cons (pv 0) (pa_cons (pv 1) pa_nil)))) (pg_name (i := 3) sc_put_together.nd rfl (by first | exact Or.inl rfl | exact Or.inr rfl)) (pss_cons (ps_set (i := 4) sc_put_together.nd rfl (by first | exact Or.inl rfl | exact Or.inr rfl) (pe_fn C_named (hr.mono (by decide)) rfl (pa_cons (pe_ix ix_tup (pv 3) pe_int (fun _ _ => rfl)) (pa_cons (pv 1) pa_nil))))
    (pss_cons (ps_set (i := 5) sc_put_together.nd rfl (by first | exact Or.inl rfl | exact Or.inr rfl) (pe_fn C_named (hr.mono (by decide)) rfl (pa_cons (pe_ix ix_tup (pv 3) pe_int (fun _ _ => rfl)) (pa_cons (pv 1) pa_nil))))
    (pss_one (ps_dput (hu_of hr) (pv 2) (pe_tup (pa_cons (pe_callB (call_min2 rfl) (by rfl) T.b_min (by decide +kernel) (pa_cons (pv 4) (pa_cons (pv 5) pa_nil))) (pa_cons (pe_callB (call_max2 rfl) (by rfl) T.b_max (by decide +kernel) (pa_cons (pv 4) (pa_cons (pv 5) pa_nil))) pa_nil))) pe_bl rfl)))))
    (pss_one (ps_ret (pe_callB cr_sortedPO (by rfl) T.b_sorted (by decide +kernel) (pa_cons (pe_callTy (call_list_dT rfl) (by rfl) T.b_list (by decide +kernel) (pa_cons (pv 2) pa_nil)) pa_nil)))))), ?_⟩
  obtain ⟨F0, ⟨x_ties, x_tie, _⟩, y, s0, ⟨v_ties, _, rfl, h_ties, v_tie, _, rfl, h_tie, rfl⟩, hm, hQ⟩ := h
  have L0 : Lat F0 H F0 H := .refl s0
  refine at_st (σ := [some v_ties, some v_tie, none, none, none, none]) rfl ?_
  replace hm : put_together x_ties x_tie = some y := hm
  unfold put_together at hm
  refine rd_newD L0.fh hm ?_
  intro p1 F2 H3 hm l4 hn5 fp7 hp6
  have rl8 : List.map (fun x => x.1) ([] : List (List Key × V)) = List.map kk [] := rfl
  have hz9 := L0.h.free hn5
  have L10 := L0.trans l4
  replace h_ties := up h_ties l4
  replace h_tie := up h_tie l4
  refine rd_for L10.fh (ei_list (EVN.ev (evn_call (eva_cons (ev_var rfl h_ties) (eva_cons (ev_var rfl h_tie) eva_nil))))) hm ?_
  intro xs11 J12 F13 H14 hm l15 wk16
  have L17 := L10.trans l15
  replace h_ties := up h_ties l15
  replace h_tie := up h_tie l15
  replace fp7 := l15.nw _ _ hp6 trivial fp7
  replace hp6 := l15.h _ _ hp6
  refine rd_loopG wk16 hm (fun (s : (List (Int × Int))) σ_ F_ H_ => ∃ (o3_ : Option V) (o4_ : Option V) (o5_ : Option V) (w2_ : List (List Key × V)), σ_ = [some v_ties, some v_tie, some (.ref p1), o3_, o4_, o5_] ∧ Same F13 F_ ∧ Lat F0 H F_ H_ ∧ (H_ p1 = some (.dT w2_) ∧ F_ p1 = none ∧ List.map (fun x => x.1) w2_ = List.map kk s) ∧ True) ⟨_, _, _, _, rfl, (.refl _), L17, ⟨hp6, fp7, rl8⟩, trivial⟩ ?_ ?_ ?_
  · rintro s σ_ F_ H_ ⟨e18, e19, e20, e21, rfl, sf22, L23, ⟨hp24, fp25, rl26⟩, -⟩
    exact ⟨sf22, L23.fh⟩
  · rintro q27 s28 σ_ F34 H35 v29 F36 H37 ⟨e38, e39, e40, e41, rfl, sf42, L43, ⟨hp44, fp45, rl46⟩, -⟩ l30 rv31 s47 hm D33 hN32
    replace h_tie := Rep.mono sf42 h_tie
    have L48 := L43.trans l30
    have sb49 := Same.trans sf42 l30.f
    replace h_tie := up h_tie l30
    replace fp45 := l30.nw _ _ hp44 trivial fp45
    replace hp44 := l30.h _ _ hp44
    refine gt_name ?_
    refine rd_asg L48.fh (ev_call (eva_cons (ev_fst (ev_var rfl rv31)) (eva_cons (ev_var rfl h_tie) eva_nil))) hm ?_
    intro x50 v51 F52 H53 hm l54 h_low_55
    have L56 := L48.trans l54
    have sb57 := Same.trans sb49 l54.f
    replace h_tie := up h_tie l54
    replace fp45 := l54.nw _ _ hp44 trivial fp45
    replace hp44 := l54.h _ _ hp44
    replace rv31 := up rv31 l54
    refine rd_asg L56.fh (ev_call (eva_cons (ev_snd (ev_var rfl rv31)) (eva_cons (ev_var rfl h_tie) eva_nil))) hm ?_
    intro x58 v59 F60 H61 hm l62 h_high_63
    have L64 := L56.trans l62
    have sb65 := Same.trans sb57 l62.f
    replace h_tie := up h_tie l62
    replace fp45 := l62.nw _ _ hp44 trivial fp45
    replace hp44 := l62.h _ _ hp44
    replace rv31 := up rv31 l62
    refine rd_putDL L64.fh rfl hp44 fp45 rl46 ev_bl (ev_tup (ev_min2 (ev_varF rfl h_low_55) (ev_varF rfl h_high_63)) (ev_max2 (ev_varF rfl h_low_55) (ev_varF rfl h_high_63))) hm ?_
    intro x66 w67 F68 H69 hm m70 fp71 hp72 rl73
    have L74 := m70.l0 _ _ L64 hz9
    have sb75 := Same.trans sb65 m70.f
    replace h_tie := Rep.mono m70.f h_tie
    replace rv31 := Rep.mono m70.f rv31
    obtain rfl := Option.some.inj hm
    exact hN32 _ _ _ ⟨_, _, _, _, rfl, sb75, L74, ⟨hp72, fp71, rl73⟩, trivial⟩
  · rintro s76 σ_ F77 H78 hm ⟨e79, e80, e81, e82, rfl, sf83, L84, ⟨hp85, fp86, rl87⟩, -⟩
    refine nx_with ?_
    exact rd_retN L84.fh (evn_sortP (EVN.ev (evn_listD rfl hp85 rl87))) hm fun p vs F1 H1 l h1 h2 h3 rv => hQ p vs F1 H1 (L84.trans l) (L84.h.free h1) h2 h3 rv
abbrev s_row_by : Stmt := topS 12
theorem sc_row_by : FnScope ["points", "ties", "tie", "less", "other", "k"] ["points", "ties"] (defScope s_row_by) := ⟨rfl, rfl, rfl, by decide +kernel, rfl, by decide +kernel, by decide +kernel⟩
theorem ok_row_by {f : Addr} {fd : FuncData} (F : Fun K "row_by" "row_by" s_row_by f fd) (gF : mg "row_by" = some (.ref f)) (T : Txt K mg ad CW) (C_put_together : Fn P w K mg base CX0 2 "put_together" ["ties", "tie"] (spN (β := (Int × Int)) fun (x : (List (Int × Int)) × (Int × Int) × Unit) => put_together x.1 x.2.1)) : ∀ d_ : Nat, Fn P w K mg base CX0 (3 + d_) "row_by" ["points", "ties"] (spN (β := Int) fun (x : Int × (List (Int × Int)) × Unit) => row_byF d_ x.1 x.2.1)
  | 0 => ⟨f, _, gF, F.kp, F.binds (ps := ["points", "ties"]) (fun _ _ _ _ _ _ us hl => match us, hl with | [_, _], _ => rfl), F.ok (k := 2) sc_row_by (spN_len rfl) (fun cdv A outer s H vs Q E hr h => by obtain ⟨F0, _, y, s0, _, hm, _⟩ := h; cases hm)⟩
  | n_ + 1 => by
    have C_row_by := ok_row_by F gF T C_put_together n_
    refine ⟨f, _, gF, F.kp, F.binds (ps := ["points", "ties"]) (fun _ _ _ _ _ _ us hl => match us, hl with | [_, _], _ => rfl), F.ok (k := 3 + n_) sc_row_by (spN_len rfl) (fun cdv A outer s H vs Q E hr h => ?_)⟩
    refine ⟨_, (pss_cons (ps_if (pt_cmpR op_eq (pe_callB call_len_seq (by rfl) T.b_len PySem.boot_len (pa_cons (pv 1) pa_nil)) pe_int (nomark _)) (pss_one (ps_ret (pe_op op_cat (pe_lc (own := [("k", 5)]) (g := (gName 5)) rfl sc_row_by.nd (pi_range1 (by rfl) T.b_range (pa_cons (pv 0) pa_nil)) (blkOk_by (N := ["points", "ties", "tie", "less", "other", "k"]) (sc := defScope s_row_by) (by decide +kernel)) (fun _ _ _ _ _ => (pg_name (i := 5) sc_row_by.nd rfl (by first | exact Or.inl rfl | exact Or.inr rfl))) (fun _ _ _ _ _ => pts_nil) (fun _ _ _ _ _ => pe_int)) (pe_lst (pa_cons pe_int pa_nil))))) pss_nil)
    (pss_cons (ps_set (i := 2) sc_row_by.nd rfl (by first | exact Or.inl rfl | exact Or.inr rfl) (pe_ix ix_list (pv 1) (pe_un un_neg pe_int) (fun _ _ => rfl)))
    (pss_cons (ps_set (i := 3) sc_row_by.nd rfl (by first | exact Or.inl rfl | exact Or.inr rfl) (pe_fn C_row_by (hr.mono (by omega)) rfl (pa_cons (pv 0) (pa_cons (pe_slice sl_list (pv 1) po_none (po_some (pe_un un_neg pe_int))) pa_nil))))
    (pss_cons (ps_set (i := 4) sc_row_by.nd rfl (by first | exact Or.inl rfl | exact Or.inr rfl) (pe_op op_cat (pe_fn C_row_by (hr.mono (by omega)) rfl (pa_cons (pe_op op_sub (pv 0) pe_int) (pa_cons (pe_fn C_put_together (hr.mono (by omega)) rfl (pa_cons (pv 1) (pa_cons (pv 2) pa_nil))) pa_nil))) (pe_lst (pa_cons pe_int pa_nil))))
    (pss_one (ps_ret (pe_lc (own := [("k", 5)]) (g := (gName 5)) rfl sc_row_by.nd (pi_range1 (by rfl) T.b_range (pa_cons (pe_op op_add (pv 0) pe_int) pa_nil)) (blkOk_by (N := ["points", "ties", "tie", "less", "other", "k"]) (sc := defScope s_row_by) (by decide +kernel)) (fun _ _ _ _ _ => (pg_name (i := 5) sc_row_by.nd rfl (by first | exact Or.inl rfl | exact Or.inr rfl))) (fun _ _ _ _ _ => pts_nil) (fun _ _ _ _ _ => (pe_op op_sub (pe_ix (ix_listK rfl) (pv 3) (pv 5) (fun _ _ => rfl)) (pe_ix (ix_listK rfl) (pv 4) (pv 5) (fun _ _ => rfl))))))))))), ?_⟩
    obtain ⟨F0, ⟨x_points, x_ties, _⟩, y, s0, ⟨v_points, _, rfl, h_points, v_ties, _, rfl, h_ties, rfl⟩, hm, hQ⟩ := h
    have L0 : Lat F0 H F0 H := .refl s0
    refine at_st (σ := [some v_points, some v_ties, none, none, none, none]) rfl ?_
    replace hm : row_byF (n_ + 1) x_points x_ties = some y := hm
    unfold row_byF at hm
    refine rd_guard L0.fh (evt_of (ev_op (ev_len (ev_var rfl h_ties)) ev_int rv_eqI)) hm ?_ ?_
    · intro F1 H2 _ hm l3
      have L4 := L0.trans l3
      exact rd_retN L4.fh (evn_op (EVN.ev (evn_lc (ei_range1 (ev_varF rfl h_points)) (fun x5 v6 _ _ _ l8 r7 k9 => gt_name (k9 _ rfl evt_yes ev_int)))) (EVN.ev (evn_lst (evl_cons ev_int evl_nil))) rvn_cat) hm fun p vs F1 H1 l h1 h2 h3 rv => hQ p vs F1 H1 (L4.trans l) (L4.h.free h1) h2 h3 rv
    · intro F10 H11 _ hm l12
      have L13 := L0.trans l12
      replace h_ties := up h_ties l12
      refine rd_asg L13.fh (ev_op (ev_var rfl h_ties) (ev_neg ev_int) rv_ixL) hm ?_
      intro x14 v15 F16 H17 hm l18 h_tie_19
      have L20 := L13.trans l18
      replace h_ties := up h_ties l18
      refine rd_asg L20.fh (EVN.ev (evn_call (eva_cons (ev_varF rfl h_points) (eva_cons (EVN.ev (evn_cut (ev_var rfl h_ties) po_no (po_at (ev_neg ev_int)))) eva_nil)))) hm ?_
      intro x21 v22 F23 H24 hm l25 h_less_26
      have L27 := L20.trans l25
      replace h_ties := up h_ties l25
      replace h_tie_19 := up h_tie_19 l25
      refine rd_asg L27.fh (EVN.ev (evn_op (EVN.ev (evn_call (eva_cons (ev_op (ev_varF rfl h_points) ev_int rv_sub) (eva_cons (EVN.ev (evn_call (eva_cons (ev_var rfl h_ties) (eva_cons (ev_var rfl h_tie_19) eva_nil)))) eva_nil)))) (EVN.ev (evn_lst (evl_cons ev_int evl_nil))) rvn_cat)) hm ?_
      intro x28 v29 F30 H31 hm l32 h_other_33
      have L34 := L27.trans l32
      replace h_less_26 := up h_less_26 l32
      exact rd_retN L34.fh (evn_lc (ei_range1 (ev_op (ev_varF rfl h_points) ev_int rv_add)) (fun x35 v36 _ _ _ l38 r37 k39 => gt_name (k39 _ rfl evt_yes (ev_op (ev_op (ev_var rfl (up h_less_26 l38)) (ev_varF rfl r37) rv_ixL) (ev_op (ev_var rfl (up h_other_33 l38)) (ev_varF rfl r37) rv_ixL) rv_sub)))) hm fun p vs F1 H1 l h1 h2 h3 rv => hQ p vs F1 H1 (L34.trans l) (L34.h.free h1) h2 h3 rv
abbrev s_row : Stmt := topS 13
theorem sc_row : FnScope ["points", "ties"] ["points", "ties"] (defScope s_row) := ⟨rfl, rfl, rfl, by decide +kernel, rfl, by decide +kernel, by decide +kernel⟩
theorem ok_row {f : Addr} {fd : FuncData} (F : Fun K "row" "row" s_row f fd) (gF : mg "row" = some (.ref f)) (T : Txt K mg ad CW) (C_asked_web : Fn P w K mg base (L2.CX P w) 2 "asked_web" ["points", "ties"] (spX (clO ad) (β := Unit) fun (x : Int × (List (Int × Int)) × Unit) => asked_web x.1 x.2.1)) (C_row_by : Fn P w K mg base CX0 23 "row_by" ["points", "ties"] (spN (β := Int) fun (x : Int × (List (Int × Int)) × Unit) => row_by x.1 x.2.1)) : Fn P w K mg base (L2.CX P w) 24 "row" ["points", "ties"] (spXN (clO ad) (β := Int) fun (x : Int × (List (Int × Int)) × Unit) => row x.1 x.2.1) := by
  refine ⟨f, _, gF, F.kp, F.binds (ps := ["points", "ties"]) (fun _ _ _ _ _ _ us hl => match us, hl with | [_, _], _ => rfl), F.okX sc_row (spXN_len rfl) (fun cdv A outer s H vs Q E hr h => ?_)⟩
  refine ⟨_, (pss_cons (ps_expr (pe_fnX (takes_of rfl rfl rfl rfl) C_asked_web (hr.mono (by decide)) rfl (pa_cons (pv 0) (pa_cons (pv 1) pa_nil))))
    (pss_one (ps_ret (pe_fn C_row_by (hr.mono (by decide)) rfl (pa_cons (pv 0) (pa_cons (pe_callTy call_list_of (by rfl) T.b_list (by decide +kernel) (pa_cons (pv 1) pa_nil)) pa_nil)))))), ?_⟩
  obtain ⟨F0, ⟨x_points, x_ties, _⟩, y, s0, ⟨v_points, _, rfl, h_points, v_ties, _, rfl, h_ties, rfl⟩, hm, hQ, hE⟩ := h
  have L0 : Lat F0 H F0 H := .refl s0
  refine at_st (σ := [some v_points, some v_ties]) rfl ?_
  replace hm : row x_points x_ties = some y := hm
  unfold row at hm
  refine rd_dropX L0.fh (ex_call (EVA.x (eva_cons (ev_varF rfl h_points) (eva_cons (ev_var rfl h_ties) eva_nil)))) hm (fun e F1 H1 ee l => hE e ee F1 H1 (L0.trans l)) ?_
  intro x1 F2 H3 hm l4
  have L5 := L0.trans l4
  replace h_ties := up h_ties l4
  exact rd_retNk L5.fh (evn_call (eva_cons (ev_varF rfl h_points) (eva_cons (EVN.ev (evn_list (ev_var rfl h_ties))) eva_nil))) hm fun x p vs F1 H1 hm l h1 h2 h3 rv => hQ x (Option.some.inj hm).symm p vs F1 H1 (L5.trans l) (L5.h.free h1) h2 h3 rv
abbrev s_worth : Stmt := topS 14
theorem sc_worth : FnScope ["numbers", "q", "total", "number"] ["numbers", "q"] (defScope s_worth) := ⟨rfl, rfl, rfl, by decide +kernel, rfl, by decide +kernel, by decide +kernel⟩
theorem ok_worth {f : Addr} {fd : FuncData} (F : Fun K "worth" "worth" s_worth f fd) (gF : mg "worth" = some (.ref f)) (T : Txt K mg ad CW) : Fn P w K mg base CX0 1 "worth" ["numbers", "q"] (spO (β := Int) fun (x : (List Int) × Int × Unit) => worth x.1 x.2.1) := by
  refine ⟨f, _, gF, F.kp, F.binds (ps := ["numbers", "q"]) (fun _ _ _ _ _ _ us hl => match us, hl with | [_, _], _ => rfl), F.ok sc_worth (spO_len rfl) (fun cdv A outer s H vs Q E hr h => ?_)⟩
  refine ⟨_, (pss_cons (ps_set (i := 2) sc_worth.nd rfl (by first | exact Or.inl rfl | exact Or.inr rfl) pe_int)
    (pss_cons (ps_for PassesOwn.never rfl (pi_reversed (by rfl) T.b_reversed (pa_cons (pv 0) pa_nil)) (pg_name (i := 3) sc_worth.nd rfl (by first | exact Or.inl rfl | exact Or.inr rfl)) (pss_one (ps_set (i := 2) sc_worth.nd rfl (by first | exact Or.inl rfl | exact Or.inr rfl) (pe_op op_add (pe_op op_mul (pv 2) (pv 1)) (pv 3)))))
    (pss_one (ps_ret (pv 2))))), ?_⟩
  obtain ⟨F0, ⟨x_numbers, x_q, _⟩, y, s0, ⟨v_numbers, _, rfl, h_numbers, v_q, _, rfl, h_q, rfl⟩, hm, hQ⟩ := h
  have L0 : Lat F0 H F0 H := .refl s0
  refine at_st (σ := [some v_numbers, some v_q, none, none]) rfl ?_
  replace hm : worth x_numbers x_q = some y := hm
  unfold worth at hm
  refine rd_asg L0.fh ev_int hm ?_
  intro x1 v2 F3 H4 hm l5 h_total_6
  have L7 := L0.trans l5
  replace h_numbers := up h_numbers l5
  refine rd_for L7.fh (ei_rev (ev_var rfl h_numbers)) hm ?_
  intro xs8 J9 F10 H11 hm l12 wk13
  have L14 := L7.trans l12
  replace h_numbers := up h_numbers l12
  refine rd_loopG wk13 hm (fun (s : Int) σ_ F_ H_ => ∃ (v2_ : V) (o3_ : Option V), σ_ = [some v_numbers, some v_q, some v2_, o3_] ∧ Same F10 F_ ∧ Lat F0 H F_ H_ ∧ Rep.rp s v2_ F_ ∧ True) ⟨_, _, rfl, (.refl _), L14, (Flat.any h_total_6), trivial⟩ ?_ ?_ ?_
  · rintro s σ_ F_ H_ ⟨e15, e16, rfl, sf17, L18, h_total_19, -⟩
    exact ⟨sf17, L18.fh⟩
  · rintro q20 s21 σ_ F27 H28 v22 F29 H30 ⟨e31, e32, rfl, sf33, L34, h_total_35, -⟩ l23 rv24 s36 hm D26 hN25
    have L37 := L34.trans l23
    have sb38 := Same.trans sf33 l23.f
    refine gt_name ?_
    refine rd_asgL L37.fh (ev_op (ev_op (ev_varF rfl h_total_35) (ev_varF rfl h_q) rv_mul) (ev_varF rfl rv24) rv_add) hm ?_
    intro x39 v40 F41 H42 hm l43 h_total_44
    have L45 := L37.trans l43
    have sb46 := Same.trans sb38 l43.f
    obtain rfl := Option.some.inj hm
    exact hN25 _ _ _ ⟨_, _, rfl, sb46, L45, (Flat.any h_total_44), trivial⟩
  · rintro s47 σ_ F48 H49 hm ⟨e50, e51, rfl, sf52, L53, h_total_54, -⟩
    refine nx_with ?_
    exact rd_ret0 L53.fh (ev_varF rfl h_total_54) hm fun v F1 H1 l rv => hQ v F1 H1 (L53.trans l) rv
abbrev s_fewest : Stmt := topS 16
theorem sc_fewest : FnScope ["points", "ties", "numbers", "many"] ["points", "ties"] (defScope s_fewest) := ⟨rfl, rfl, rfl, by decide +kernel, rfl, by decide +kernel, by decide +kernel⟩
theorem ok_fewest {f : Addr} {fd : FuncData} (F : Fun K "fewest" "fewest" s_fewest f fd) (gF : mg "fewest" = some (.ref f)) (T : Txt K mg ad CW) (C_row : Fn P w K mg base (L2.CX P w) 24 "row" ["points", "ties"] (spXN (clO ad) (β := Int) fun (x : Int × (List (Int × Int)) × Unit) => row x.1 x.2.1)) (C_worth : Fn P w K mg base CX0 1 "worth" ["numbers", "q"] (spO (β := Int) fun (x : (List Int) × Int × Unit) => worth x.1 x.2.1)) : Fn P w K mg base (L2.CX P w) 25 "fewest" ["points", "ties"] (spX (clO ad) (β := Int) fun (x : Int × (List (Int × Int)) × Unit) => fewest x.1 x.2.1) := by
  refine ⟨f, _, gF, F.kp, F.binds (ps := ["points", "ties"]) (fun _ _ _ _ _ _ us hl => match us, hl with | [_, _], _ => rfl), F.okX sc_fewest (spX_len rfl) (fun cdv A outer s H vs Q E hr h => ?_)⟩
  refine ⟨_, (pss_cons (ps_set (i := 2) sc_fewest.nd rfl (by first | exact Or.inl rfl | exact Or.inr rfl) (pe_fnX (takes_of rfl rfl rfl rfl) C_row (hr.mono (by decide)) rfl (pa_cons (pv 0) (pa_cons (pv 1) pa_nil))))
    (pss_cons (ps_set (i := 3) sc_fewest.nd rfl (by first | exact Or.inl rfl | exact Or.inr rfl) pe_int)
    (PSs.nox (pss_cons (ps_while PassesOwn.never (pt_cmpR op_eq (pe_fn C_worth (hr.mono (by decide)) rfl (pa_cons (pv 2) (pa_cons (pv 3) pa_nil))) pe_int (nomark _)) (pss_one (ps_set (i := 3) sc_fewest.nd rfl (by first | exact Or.inl rfl | exact Or.inr rfl) (pe_op op_add (pv 3) pe_int))))
    (pss_one (ps_ret (pv 3))))))), ?_⟩
  obtain ⟨F0, ⟨x_points, x_ties, _⟩, y, s0, ⟨v_points, _, rfl, h_points, v_ties, _, rfl, h_ties, rfl⟩, hm, hQ, hE⟩ := h
  have L0 : Lat F0 H F0 H := .refl s0
  refine at_st (σ := [some v_points, some v_ties, none, none]) rfl ?_
  replace hm : fewest x_points x_ties = some y := hm
  unfold fewest at hm
  refine rd_asgX L0.fh (ex_callN (EVA.x (eva_cons (ev_varF rfl h_points) (eva_cons (ev_var rfl h_ties) eva_nil)))) hm (fun e F1 H1 ee l => hE e ee F1 H1 (L0.trans l)) ?_
  intro x1 v2 F3 H4 hm l5 h_numbers_6
  have L7 := L0.trans l5
  refine rd_asg L7.fh ev_int hm ?_
  intro x8 v9 F10 H11 hm l12 h_many_13
  have L14 := L7.trans l12
  replace h_numbers_6 := up h_numbers_6 l12
  refine rd_whileG hm (fun (s : Int) σ_ F_ H_ => ∃ (v3_ : V), σ_ = [some v_points, some v_ties, some v2, some v3_] ∧ Same F10 F_ ∧ Lat F0 H F_ H_ ∧ Rep.rp s v3_ F_ ∧ True) ⟨_, rfl, (.refl _), L14, (Flat.any h_many_13), trivial⟩ ?_ ?_ ?_ ?_
  · rintro s σ_ F_ H_ ⟨e15, rfl, sf16, L17, h_many_18, -⟩
    exact L17.fh
  · rintro s19 σ_ F20 H21 ⟨e22, rfl, sf23, L24, h_many_25, -⟩
    replace h_numbers_6 := Rep.mono sf23 h_numbers_6
    exact (evt_of (ev_op (ev_call (eva_cons (ev_var rfl h_numbers_6) (eva_cons (ev_varF rfl h_many_25) eva_nil))) ev_int rv_eqI))
  · rintro s26 σ_ F27 H28 F29 H30 ⟨e34, rfl, sf35, L36, h_many_37, -⟩ l31 s38 hm D32 hN33
    replace h_numbers_6 := Rep.mono sf35 h_numbers_6
    have L39 := L36.trans l31
    have sb40 := Same.trans sf35 l31.f
    replace h_numbers_6 := up h_numbers_6 l31
    refine rd_asgL L39.fh (ev_op (ev_varF rfl h_many_37) ev_int rv_add) hm ?_
    intro x41 v42 F43 H44 hm l45 h_many_46
    have L47 := L39.trans l45
    have sb48 := Same.trans sb40 l45.f
    replace h_numbers_6 := up h_numbers_6 l45
    obtain rfl := Option.some.inj hm
    exact hN33 _ _ _ ⟨_, rfl, sb48, L47, (Flat.any h_many_46), trivial⟩
  · rintro s49 σ_ F50 H51 F52 H53 hm ⟨e55, rfl, sf56, L57, h_many_58, -⟩ l54
    have L59 := L57.trans l54
    exact rd_ret L59.fh (ev_varF rfl h_many_58) hm fun x v F1 H1 hm l rv => hQ x (Option.some.inj hm).symm v F1 H1 (L59.trans l) rv
abbrev s_extended : Stmt := topS 17
theorem sc_extended : FnScope ["points", "ties", "many", "dyes", "at", "near", "dye", "found", "low", "high"] ["points", "ties", "many", "dyes"] (defScope s_extended) := ⟨rfl, rfl, rfl, by decide +kernel, rfl, by decide +kernel, by decide +kernel⟩
theorem ok_extended {f : Addr} {fd : FuncData} (F : Fun K "extended" "extended" s_extended f fd) (gF : mg "extended" = some (.ref f)) (T : Txt K mg ad CW) : ∀ d_ : Nat, Fn P w K mg base CX0 (1 + d_) "extended" ["points", "ties", "many", "dyes"] (spO (β := (Option (List Int))) fun (x : Int × (List (Int × Int)) × Int × (List Int) × Unit) => extendedF d_ x.1 x.2.1 x.2.2.1 x.2.2.2.1)
  | 0 => ⟨f, _, gF, F.kp, F.binds (ps := ["points", "ties", "many", "dyes"]) (fun _ _ _ _ _ _ us hl => match us, hl with | [_, _, _, _], _ => rfl), F.ok (k := 0) sc_extended (spO_len rfl) (fun cdv A outer s H vs Q E hr h => by obtain ⟨F0, _, y, s0, _, hm, _⟩ := h; cases hm)⟩
  | n_ + 1 => by
    have C_extended := ok_extended F gF T  n_
    refine ⟨f, _, gF, F.kp, F.binds (ps := ["points", "ties", "many", "dyes"]) (fun _ _ _ _ _ _ us hl => match us, hl with | [_, _, _, _], _ => rfl), F.ok (k := 1 + n_) sc_extended (spO_len rfl) (fun cdv A outer s H vs Q E hr h => ?_)⟩
    refine ⟨_, (pss_cons (ps_set (i := 4) sc_extended.nd rfl (by first | exact Or.inl rfl | exact Or.inr rfl) (pe_callB call_len_seq (by rfl) T.b_len PySem.boot_len (pa_cons (pv 3) pa_nil)))
    (pss_cons (ps_if (pt_cmpR op_eq (pv 4) (pv 0) (nomark _)) (pss_one (ps_ret (pv 3))) pss_nil)
    (pss_cons (ps_setLc (i := 5) (own := [("low", 8), ("high", 9)]) (g := (gTup K 2 (gCons (gName 8) (gCons (gName 9) gNil)))) rfl sc_extended.nd rfl rfl (sw_true rfl rfl rfl (by decide +kernel)) (pi_list (pv 1)) (blkOk_by (N := ["points", "ties", "many", "dyes", "at", "near", "dye", "found", "low", "high"]) (sc := defScope s_extended) (by decide +kernel)) (fun _ _ _ _ _ => (pg_tup rfl (pgs_cons (pg_name (i := 8) sc_extended.nd rfl (by first | exact Or.inl rfl | exact Or.inr rfl)) (pgs_cons (pg_name (i := 9) sc_extended.nd rfl (by first | exact Or.inl rfl | exact Or.inr rfl)) pgs_nil)))) (fun _ _ _ _ _ => (pts_one (pt_cmpR op_eq (pv 9) (pv 4) (nomark _)))) (fun _ _ _ _ _ => (pe_ix (ix_listK rfl) (pv 3) (pv 8) (fun _ _ => rfl))))
    (pss_cons (ps_for PassesOwn.never rfl (pi_range1 (by rfl) T.b_range (pa_cons (pv 2) pa_nil)) (pg_name (i := 6) sc_extended.nd rfl (by first | exact Or.inl rfl | exact Or.inr rfl)) (pss_one (ps_if (pt_cmpR op_notIn_seq (pv 6) (pv 5) (by rfl)) (pss_cons (ps_set (i := 7) sc_extended.nd rfl (by first | exact Or.inl rfl | exact Or.inr rfl) (pe_fn C_extended (hr.mono (by omega)) rfl (pa_cons (pv 0) (pa_cons (pv 1) (pa_cons (pv 2) (pa_cons (pe_op op_cat (pv 3) (pe_lst (pa_cons (pv 6) pa_nil))) pa_nil))))))
    (pss_one (ps_if (pt_cmp (pc_notN (pv 7)) rfl) (pss_one (ps_ret (pv 7))) pss_nil))) pss_nil)))
    (pss_one (ps_ret pe_non)))))), ?_⟩
    obtain ⟨F0, ⟨x_points, x_ties, x_many, x_dyes, _⟩, y, s0, ⟨v_points, _, rfl, h_points, v_ties, _, rfl, h_ties, v_many, _, rfl, h_many, v_dyes, _, rfl, h_dyes, rfl⟩, hm, hQ⟩ := h
    have L0 : Lat F0 H F0 H := .refl s0
    refine at_st (σ := [some v_points, some v_ties, some v_many, some v_dyes, none, none, none, none, none, none]) rfl ?_
    replace hm : extendedF (n_ + 1) x_points x_ties x_many x_dyes = some y := hm
    unfold extendedF at hm
    refine rd_asg L0.fh (ev_len (ev_var rfl h_dyes)) hm ?_
    intro x1 v2 F3 H4 hm l5 h_at_6
    have L7 := L0.trans l5
    replace h_ties := up h_ties l5
    replace h_dyes := up h_dyes l5
    refine rd_guard L7.fh (evt_of (ev_op (ev_varF rfl h_at_6) (ev_varF rfl h_points) rv_eqI)) hm ?_ ?_
    · intro F8 H9 _ hm l10
      have L11 := L7.trans l10
      replace h_dyes := up h_dyes l10
      exact rd_ret0 L11.fh (ev_some (ev_var rfl h_dyes)) hm fun v F1 H1 l rv => hQ v F1 H1 (L11.trans l) rv
    · intro F12 H13 _ hm l14
      have L15 := L7.trans l14
      replace h_ties := up h_ties l14
      replace h_dyes := up h_dyes l14
      refine rd_asg L15.fh (EVN.ev (evn_lc (ei_list (ev_var rfl h_ties)) (fun x22 v23 _ _ _ l25 r24 k26 => gt_pair r24 l25.fh fun _ _ r27 r28 => (k26 _ rfl (evt_of (ev_op (ev_varF rfl r28) (ev_varF rfl h_at_6) rv_eqI)) (ev_op (ev_var rfl (up h_dyes l25)) (ev_varF rfl r27) rv_ixL))))) hm ?_
      intro x16 v17 F18 H19 hm l20 h_near_21
      have L29 := L15.trans l20
      replace h_ties := up h_ties l20
      replace h_dyes := up h_dyes l20
      refine rd_for L29.fh (ei_range1 (ev_varF rfl h_many)) hm ?_
      intro xs30 J31 F32 H33 hm l34 wk35
      have L36 := L29.trans l34
      replace h_ties := up h_ties l34
      replace h_dyes := up h_dyes l34
      replace h_near_21 := up h_near_21 l34
      refine rd_loopR wk35 hm (fun (s : Unit) σ_ F_ H_ => ∃ (o6_ : Option V) (o7_ : Option V), σ_ = [some v_points, some v_ties, some v_many, some v_dyes, some v2, some v17, o6_, o7_, none, none] ∧ Same F32 F_ ∧ Lat F0 H F_ H_ ∧ True) ⟨_, _, rfl, (.refl _), L36, trivial⟩ ?_ ?_ ?_
      · rintro s σ_ F_ H_ ⟨e37, e38, rfl, sf39, L40, -⟩
        exact ⟨sf39, L40.fh⟩
      · rintro q41 s42 σ_ F48 H49 v43 F50 H51 ⟨e52, e53, rfl, sf54, L55, -⟩ l44 rv45 st58 hm D47 hD56 hN46 hR57
        replace hD56 : D47.rt = Q := hD56
        replace h_ties := Rep.mono sf54 h_ties
        replace h_dyes := Rep.mono sf54 h_dyes
        replace h_near_21 := Rep.mono sf54 h_near_21
        have L59 := L55.trans l44
        have sb60 := Same.trans sf54 l44.f
        replace h_ties := up h_ties l44
        replace h_dyes := up h_dyes l44
        replace h_near_21 := up h_near_21 l44
        refine gt_name ?_
        refine rd_if L59.fh (evt_of (ev_op (ev_varF rfl rv45) (ev_var rfl h_near_21) rv_notInI)) hm ?_ ?_
        · intro F61 H62 _ hm l63
          have L64 := L59.trans l63
          have sb65 := Same.trans sb60 l63.f
          replace h_ties := up h_ties l63
          replace h_dyes := up h_dyes l63
          replace h_near_21 := up h_near_21 l63
          refine rd_asg L64.fh (ev_call (eva_cons (ev_varF rfl h_points) (eva_cons (ev_var rfl h_ties) (eva_cons (ev_varF rfl h_many) (eva_cons (EVN.ev (evn_op (ev_var rfl h_dyes) (EVN.ev (evn_lst (evl_cons (ev_varF rfl rv45) evl_nil))) rvn_cat)) eva_nil))))) hm ?_
          intro x66 v67 F68 H69 hm l70 h_found_71
          have L72 := L64.trans l70
          have sb73 := Same.trans sb65 l70.f
          replace h_ties := up h_ties l70
          replace h_dyes := up h_dyes l70
          replace h_near_21 := up h_near_21 l70
          refine rd_if L72.fh (evt_b (ev_notN (fun x v F h => nn_list x v F h) (ev_var rfl h_found_71))) hm ?_ ?_
          · intro F74 H75 _ hm l76
            have L77 := L72.trans l76
            have sb78 := Same.trans sb73 l76.f
            replace h_ties := up h_ties l76
            replace h_dyes := up h_dyes l76
            replace h_near_21 := up h_near_21 l76
            replace h_found_71 := up h_found_71 l76
            refine rd_ret L77.fh (ev_var rfl h_found_71) hm ?_
            intro x_ v_ F1_ H1_ hm l_ rv_
            replace hm := hR57 _ (Option.some.inj hm).symm
            obtain rfl := Option.some.inj hm
            rw [hD56]
            exact hQ _ _ _ (L77.trans l_) rv_
          · intro F79 H80 _ hm l81
            have L82 := L72.trans l81
            have sb83 := Same.trans sb73 l81.f
            replace h_ties := up h_ties l81
            replace h_dyes := up h_dyes l81
            replace h_near_21 := up h_near_21 l81
            replace h_found_71 := up h_found_71 l81
            exact hN46 _ (Option.some.inj hm).symm _ _ _ ⟨_, _, rfl, sb83, L82, trivial⟩
        · intro F84 H85 _ hm l86
          have L87 := L59.trans l86
          have sb88 := Same.trans sb60 l86.f
          replace h_ties := up h_ties l86
          replace h_dyes := up h_dyes l86
          replace h_near_21 := up h_near_21 l86
          exact hN46 _ (Option.some.inj hm).symm _ _ _ ⟨_, _, rfl, sb88, L87, trivial⟩
      · rintro s89 σ_ F90 H91 hm ⟨e92, e93, rfl, sf94, L95, -⟩
        refine nx_with ?_
        exact rd_ret0 L95.fh (ev_non (α := List Int)) hm fun v F1 H1 l rv => hQ v F1 H1 (L95.trans l) rv
abbrev s_least : Stmt := topS 18
theorem sc_least : FnScope ["points", "ties", "many"] ["points", "ties", "many"] (defScope s_least) := ⟨rfl, rfl, rfl, by decide +kernel, rfl, by decide +kernel, by decide +kernel⟩
theorem ok_least {f : Addr} {fd : FuncData} (F : Fun K "least" "least" s_least f fd) (gF : mg "least" = some (.ref f)) (T : Txt K mg ad CW) (C_asked_web : Fn P w K mg base (L2.CX P w) 2 "asked_web" ["points", "ties"] (spX (clO ad) (β := Unit) fun (x : Int × (List (Int × Int)) × Unit) => asked_web x.1 x.2.1)) (C_extended : Fn P w K mg base CX0 11 "extended" ["points", "ties", "many", "dyes"] (spO (β := (Option (List Int))) fun (x : Int × (List (Int × Int)) × Int × (List Int) × Unit) => extended x.1 x.2.1 x.2.2.1 x.2.2.2.1)) : Fn P w K mg base (L2.CX P w) 12 "least" ["points", "ties", "many"] (spX (clO ad) (β := (Option (List Int))) fun (x : Int × (List (Int × Int)) × Int × Unit) => least x.1 x.2.1 x.2.2.1) := by
  refine ⟨f, _, gF, F.kp, F.binds (ps := ["points", "ties", "many"]) (fun _ _ _ _ _ _ us hl => match us, hl with | [_, _, _], _ => rfl), F.okX sc_least (spX_len rfl) (fun cdv A outer s H vs Q E hr h => ?_)⟩
  refine ⟨_, (pss_cons (ps_expr (pe_fnX (takes_of rfl rfl rfl rfl) C_asked_web (hr.mono (by decide)) rfl (pa_cons (pv 0) (pa_cons (pv 1) pa_nil))))
    (pss_one (ps_ret (pe_fn C_extended (hr.mono (by decide)) rfl (pa_cons (pv 0) (pa_cons (pv 1) (pa_cons (pv 2) (pa_cons (pe_lst pa_nil) pa_nil)))))))), ?_⟩
  obtain ⟨F0, ⟨x_points, x_ties, x_many, _⟩, y, s0, ⟨v_points, _, rfl, h_points, v_ties, _, rfl, h_ties, v_many, _, rfl, h_many, rfl⟩, hm, hQ, hE⟩ := h
  have L0 : Lat F0 H F0 H := .refl s0
  refine at_st (σ := [some v_points, some v_ties, some v_many]) rfl ?_
  replace hm : least x_points x_ties x_many = some y := hm
  unfold least at hm
  refine rd_dropX L0.fh (ex_call (EVA.x (eva_cons (ev_varF rfl h_points) (eva_cons (ev_var rfl h_ties) eva_nil)))) hm (fun e F1 H1 ee l => hE e ee F1 H1 (L0.trans l)) ?_
  intro x1 F2 H3 hm l4
  have L5 := L0.trans l4
  replace h_ties := up h_ties l4
  exact rd_ret L5.fh (ev_call (eva_cons (ev_varF rfl h_points) (eva_cons (ev_var rfl h_ties) (eva_cons (ev_varF rfl h_many) (eva_cons (EVN.ev (evn_nil (α := Int))) eva_nil))))) hm fun x v F1 H1 hm l rv => hQ x (Option.some.inj hm).symm v F1 H1 (L5.trans l) rv
abbrev s_cell_at : Stmt := topS 20
theorem sc_cell_at : FnScope ["script", "k"] ["script", "k"] (defScope s_cell_at) := ⟨rfl, rfl, rfl, by decide +kernel, rfl, by decide +kernel, by decide +kernel⟩
theorem ok_cell_at {f : Addr} {fd : FuncData} (F : Fun K "_law_cell_at" "_law_cell_at" s_cell_at f fd) (gF : mg "_law_cell_at" = some (.ref f)) (T : Txt K mg ad CW) : Fn P w K mg base CX0 1 "_law_cell_at" ["script", "k"] (spO (β := Int) fun (x : (Scr K) × Int × Unit) => cell_at x.1.l x.2.1) := by
  refine ⟨f, _, gF, F.kp, F.binds (ps := ["script", "k"]) (fun _ _ _ _ _ _ us hl => match us, hl with | [_, _], _ => rfl), F.ok sc_cell_at (spO_len rfl) (fun cdv A outer s H vs Q E hr h => ?_)⟩
  refine ⟨_, (pss_cons (ps_if (pt_cmpR op_lt (pv 1) (pe_callB call_len_seq (by rfl) T.b_len PySem.boot_len (pa_cons (pv 0) pa_nil)) (nomark _)) (pss_one (ps_ret (pe_ix ix_list (pv 0) (pv 1) (fun _ _ => rfl)))) pss_nil)
    (pss_one (ps_ret pe_int))), ?_⟩
  obtain ⟨F0, ⟨x_script, x_k, _⟩, y, s0, ⟨v_script, _, rfl, h_script, v_k, _, rfl, h_k, rfl⟩, hm, hQ⟩ := h
  have L0 : Lat F0 H F0 H := .refl s0
  refine at_st (σ := [some v_script, some v_k]) rfl ?_
  replace hm : cell_at x_script.l x_k = some y := hm
  unfold cell_at at hm
  refine rd_guard L0.fh (evt_of (ev_op (ev_varF rfl h_k) (ev_lenS (ev_var rfl h_script)) rv_cmp)) hm ?_ ?_
  · intro F1 H2 _ hm l3
    have L4 := L0.trans l3
    replace h_script := up h_script l3
    exact rd_ret0 L4.fh (ev_op (ev_var rfl h_script) (ev_varF rfl h_k) rv_ixS) hm fun v F1 H1 l rv => hQ v F1 H1 (L4.trans l) rv
  · intro F5 H6 _ hm l7
    have L8 := L0.trans l7
    exact rd_ret0 L8.fh ev_int hm fun v F1 H1 l rv => hQ v F1 H1 (L8.trans l) rv
abbrev s_next : Stmt := topS 21
theorem sc_next : FnScope ["seed"] ["seed"] (defScope s_next) := ⟨rfl, rfl, rfl, by decide +kernel, rfl, by decide +kernel, by decide +kernel⟩
theorem ok_next {f : Addr} {fd : FuncData} (F : Fun K "_law_next" "_law_next" s_next f fd) (gF : mg "_law_next" = some (.ref f)) (T : Txt K mg ad CW) : Fn P w K mg base CX0 1 "_law_next" ["seed"] (spO (β := Int) fun (x : Int × Unit) => next x.1) := by
  refine ⟨f, _, gF, F.kp, F.binds (ps := ["seed"]) (fun _ _ _ _ _ _ us hl => match us, hl with | [_], _ => rfl), F.ok sc_next (spO_len rfl) (fun cdv A outer s H vs Q E hr h => ?_)⟩
  refine ⟨_, (pss_one (ps_ret (pe_op op_mod (pe_op op_add (pe_op op_mul (pv 0) pe_int) pe_int) pe_int))), ?_⟩
  obtain ⟨F0, ⟨x_seed, _⟩, y, s0, ⟨v_seed, _, rfl, h_seed, rfl⟩, hm, hQ⟩ := h
  have L0 : Lat F0 H F0 H := .refl s0
  refine at_st (σ := [some v_seed]) rfl ?_
  replace hm : next x_seed = some y := hm
  unfold next at hm
  exact rd_ret0 L0.fh (ev_op (ev_op (ev_op (ev_varF rfl h_seed) ev_int rv_mul) ev_int rv_add) ev_int rv_mod) hm fun v F1 H1 l rv => hQ v F1 H1 (L0.trans l) rv
abbrev s_web_by : Stmt := topS 22
theorem sc_web_by : FnScope ["script", "k", "most", "cap", "points", "seed", "thick", "ties", "low", "high"] ["script", "k", "most", "cap"] (defScope s_web_by) := ⟨rfl, rfl, rfl, by decide +kernel, rfl, by decide +kernel, by decide +kernel⟩
theorem ok_web_by {f : Addr} {fd : FuncData} (F : Fun K "_law_web_by" "_law_web_by" s_web_by f fd) (gF : mg "_law_web_by" = some (.ref f)) (T : Txt K mg ad CW) (C_cell_at : Fn P w K mg base CX0 1 "_law_cell_at" ["script", "k"] (spO (β := Int) fun (x : (Scr K) × Int × Unit) => cell_at x.1.l x.2.1)) (C_next : Fn P w K mg base CX0 1 "_law_next" ["seed"] (spO (β := Int) fun (x : Int × Unit) => next x.1)) : Fn P w K mg base CX0 2 "_law_web_by" ["script", "k", "most", "cap"] (spO (β := (Int × (List (Int × Int)))) fun (x : (Scr K) × Int × Int × Int × Unit) => web_by x.1.l x.2.1 x.2.2.1 x.2.2.2.1) := by
  refine ⟨f, _, gF, F.kp, F.binds (ps := ["script", "k", "most", "cap"]) (fun _ _ _ _ _ _ us hl => match us, hl with | [_, _, _, _], _ => rfl), F.ok sc_web_by (spO_len rfl) (fun cdv A outer s H vs Q E hr h => ?_)⟩
  refine ⟨_, (pss_cons (ps_set (i := 4) sc_web_by.nd rfl (by first | exact Or.inl rfl | exact Or.inr rfl) (pe_op op_mod (pe_fn C_cell_at (hr.mono (by decide)) rfl (pa_cons (pv 0) (pa_cons (pv 1) pa_nil))) (pe_op op_add (pv 2) pe_int)))
    (pss_cons (ps_set (i := 5) sc_web_by.nd rfl (by first | exact Or.inl rfl | exact Or.inr rfl) (pe_fn C_next (hr.mono (by decide)) rfl (pa_cons (pe_fn C_cell_at (hr.mono (by decide)) rfl (pa_cons (pv 0) (pa_cons (pe_op op_add (pv 1) pe_int) pa_nil))) pa_nil)))
    (pss_cons (ps_set (i := 6) sc_web_by.nd rfl (by first | exact Or.inl rfl | exact Or.inr rfl) (pe_op op_add pe_int (pe_op op_mod (pe_fn C_cell_at (hr.mono (by decide)) rfl (pa_cons (pv 0) (pa_cons (pe_op op_add (pv 1) pe_int) pa_nil))) pe_int)))
    (pss_cons (ps_set (i := 7) sc_web_by.nd rfl (by first | exact Or.inl rfl | exact Or.inr rfl) (pe_lst pa_nil))
    (pss_cons (ps_for PassesOwn.never rfl (pi_range1 (by rfl) T.b_range (pa_cons (pv 4) pa_nil)) (pg_name (i := 8) sc_web_by.nd rfl (by first | exact Or.inl rfl | exact Or.inr rfl)) (pss_one (ps_for PassesOwn.never rfl (pi_range2 (by rfl) T.b_range (pa_cons (pe_op op_add (pv 8) pe_int) (pa_cons (pv 4) pa_nil))) (pg_name (i := 9) sc_web_by.nd rfl (by first | exact Or.inl rfl | exact Or.inr rfl)) (pss_cons (ps_if (PW.pt (pw_and (pt_cmpR op_lt (pe_op op_mod (pe_op op_fdiv (pv 5) pe_int) pe_int) (pv 6) (nomark _)) (pw_and1 (pt_cmpR op_lt (pe_callB call_len_seq (by rfl) T.b_len PySem.boot_len (pa_cons (pv 7) pa_nil)) (pv 3) (nomark _))))) (pss_one (ps_expr (pe_bm PySem.F.plainAttrs_list PySem.F.slot_list_append PySem.F.type_list_append mt_append (pv 7) (pa_cons (pe_tup (pa_cons (pv 8) (pa_cons (pv 9) pa_nil))) pa_nil)))) pss_nil)
    (pss_one (ps_set (i := 5) sc_web_by.nd rfl (by first | exact Or.inl rfl | exact Or.inr rfl) (pe_fn C_next (hr.mono (by decide)) rfl (pa_cons (pv 5) pa_nil))))))))
    (pss_one (ps_ret (pe_tup (pa_cons (pv 4) (pa_cons (pv 7) pa_nil)))))))))), ?_⟩
  obtain ⟨F0, ⟨x_script, x_k, x_most, x_cap, _⟩, y, s0, ⟨v_script, _, rfl, h_script, v_k, _, rfl, h_k, v_most, _, rfl, h_most, v_cap, _, rfl, h_cap, rfl⟩, hm, hQ⟩ := h
  have L0 : Lat F0 H F0 H := .refl s0
  refine at_st (σ := [some v_script, some v_k, some v_most, some v_cap, none, none, none, none, none, none]) rfl ?_
  replace hm : web_by x_script.l x_k x_most x_cap = some y := hm
  unfold web_by at hm
  refine rd_asg L0.fh (ev_op (ev_call (eva_cons (ev_var rfl h_script) (eva_cons (ev_varF rfl h_k) eva_nil))) (ev_op (ev_varF rfl h_most) ev_int rv_add) rv_mod) hm ?_
  intro x1 v2 F3 H4 hm l5 h_points_6
  have L7 := L0.trans l5
  replace h_script := up h_script l5
  refine rd_asg L7.fh (ev_call (eva_cons (ev_call (eva_cons (ev_var rfl h_script) (eva_cons (ev_op (ev_varF rfl h_k) ev_int rv_add) eva_nil))) eva_nil)) hm ?_
  intro x8 v9 F10 H11 hm l12 h_seed_13
  have L14 := L7.trans l12
  replace h_script := up h_script l12
  refine rd_asg L14.fh (ev_op ev_int (ev_op (ev_call (eva_cons (ev_var rfl h_script) (eva_cons (ev_op (ev_varF rfl h_k) ev_int rv_add) eva_nil))) ev_int rv_mod) rv_add) hm ?_
  intro x15 v16 F17 H18 hm l19 h_thick_20
  have L21 := L14.trans l19
  refine rd_asgN L21.fh (evn_nil (α := Int × Int)) hm ?_
  intro x22 p23 w24 F25 H26 hm l27 hn32 fp29 hp28 rl30
  have hz31 := L21.h.free hn32
  have L33 := L21.trans l27
  refine rd_for L33.fh (ei_range1 (ev_varF rfl h_points_6)) hm ?_
  intro xs34 J35 F36 H37 hm l38 wk39
  have L40 := L33.trans l38
  replace fp29 := l38.nwl hp28 fp29
  replace hp28 := l38.h _ _ hp28
  replace rl30 := rpL.mono l38.f rl30
  refine rd_loopG wk39 hm (fun (s : Int × (List (Int × Int))) σ_ F_ H_ => ∃ (v5_ : V) (o8_ : Option V) (o9_ : Option V) (w7_ : List V), σ_ = [some v_script, some v_k, some v_most, some v_cap, some v2, some v5_, some v16, some (.ref p23), o8_, o9_] ∧ Same F36 F_ ∧ Lat F0 H F_ H_ ∧ Rep.rp s.1 v5_ F_ ∧ (H_ p23 = some (.lst w7_) ∧ F_ p23 = none ∧ rpL s.2 w7_ F_) ∧ True) ⟨_, _, _, _, rfl, (.refl _), L40, (Flat.any h_seed_13), ⟨hp28, fp29, rl30⟩, trivial⟩ ?_ ?_ ?_
  · rintro s σ_ F_ H_ ⟨e41, e42, e43, e44, rfl, sf45, L46, h_seed_47, ⟨hp48, fp49, rl50⟩, -⟩
    exact ⟨sf45, L46.fh⟩
  · rintro q51 s52 σ_ F58 H59 v53 F60 H61 ⟨e62, e63, e64, e65, rfl, sf66, L67, h_seed_68, ⟨hp69, fp70, rl71⟩, -⟩ l54 rv55 s72 hm D57 hN56
    have L73 := L67.trans l54
    have sb74 := Same.trans sf66 l54.f
    replace fp70 := l54.nwl hp69 fp70
    replace hp69 := l54.h _ _ hp69
    replace rl71 := rpL.mono l54.f rl71
    refine gt_name ?_
    refine rd_forL L73.fh (ei_range2 (ev_op (ev_varF rfl rv55) ev_int rv_add) (ev_varF rfl h_points_6)) hm ?_
    intro xs75 J76 F77 H78 hm l79 wk80
    have L81 := L73.trans l79
    have sb82 := Same.trans sb74 l79.f
    replace fp70 := l79.nwl hp69 fp70
    replace hp69 := l79.h _ _ hp69
    replace rl71 := rpL.mono l79.f rl71
    refine rd_loopG wk80 hm (fun (s : Int × (List (Int × Int))) σ_ F_ H_ => ∃ (v5_ : V) (o9_ : Option V) (w7_ : List V), σ_ = [some v_script, some v_k, some v_most, some v_cap, some v2, some v5_, some v16, some (.ref p23), some v53, o9_] ∧ Same F77 F_ ∧ Lat F0 H F_ H_ ∧ Rep.rp s.1 v5_ F_ ∧ (H_ p23 = some (.lst w7_) ∧ F_ p23 = none ∧ rpL s.2 w7_ F_) ∧ True) ⟨_, _, _, rfl, (.refl _), L81, (Flat.any h_seed_68), ⟨hp69, fp70, rl71⟩, trivial⟩ ?_ ?_ ?_
    · rintro s σ_ F_ H_ ⟨e83, e84, e85, rfl, sf86, L87, h_seed_88, ⟨hp89, fp90, rl91⟩, -⟩
      exact ⟨sf86, L87.fh⟩
    · rintro q92 s93 σ_ F99 H100 v94 F101 H102 ⟨e103, e104, e105, rfl, sf106, L107, h_seed_108, ⟨hp109, fp110, rl111⟩, -⟩ l95 rv96 s112 hm D98 hN97
      have sb113 := Same.trans sb82 sf106
      have L114 := L107.trans l95
      have sb115 := Same.trans sb113 l95.f
      have sb116 := Same.trans sf106 l95.f
      replace fp110 := l95.nwl hp109 fp110
      replace hp109 := l95.h _ _ hp109
      replace rl111 := rpL.mono l95.f rl111
      refine gt_name ?_
      refine rd_join (fun (s : (List (Int × Int))) σ_ F_ H_ => ∃ (w7_ : List V), σ_ = [some v_script, some v_k, some v_most, some v_cap, some v2, some e103, some v16, some (.ref p23), some v53, some v94] ∧ Same F101 F_ ∧ Lat F0 H F_ H_ ∧ (H_ p23 = some (.lst w7_) ∧ F_ p23 = none ∧ rpL s w7_ F_) ∧ True) hm ?_ ?_
      · intro s117 hm D118 hN119
        refine rd_if L114.fh (EVT.flat (evt_and (evt_of (ev_op (ev_op (ev_op (ev_varF rfl h_seed_108) ev_int rv_div) ev_int rv_mod) (ev_varF rfl h_thick_20) rv_cmp)) (evt_of (ev_op (ev_len (ev_var rfl (own_rp L114.fh hp109 rl111))) (ev_varF rfl h_cap) rv_cmp))) L114.fh) hm ?_ ?_
        · intro F120 H121 _ hm l122
          have L123 := L114.trans l122
          have sb124 := Same.trans sb115 l122.f
          have sb125 := Same.trans sb116 l122.f
          replace fp110 := l122.nwl hp109 fp110
          replace hp109 := l122.h _ _ hp109
          replace rl111 := rpL.mono l122.f rl111
          refine rd_appendL L123.fh rfl hp109 fp110 rl111 (ev_tup (ev_varF rfl rv55) (ev_varF rfl rv96)) hm ?_
          intro x126 w127 F128 H129 hm m130 fp131 hp132 rl133
          have L134 := m130.l0 _ _ L123 hz31
          have sb135 := Same.trans sb124 m130.f
          have sb136 := Same.trans sb125 m130.f
          have sb137 := Same.trans l122.f m130.f
          obtain rfl := Option.some.inj hm
          exact hN119 _ _ _ ⟨_, rfl, sb137, L134, ⟨hp132, fp131, rl133⟩, trivial⟩
        · intro F138 H139 _ hm l140
          have L141 := L114.trans l140
          have sb142 := Same.trans sb115 l140.f
          have sb143 := Same.trans sb116 l140.f
          replace fp110 := l140.nwl hp109 fp110
          replace hp109 := l140.h _ _ hp109
          replace rl111 := rpL.mono l140.f rl111
          obtain rfl := Option.some.inj hm
          exact hN119 _ _ _ ⟨_, rfl, l140.f, L141, ⟨hp109, fp110, rl111⟩, trivial⟩
      · rintro s144 σ_ F145 H146 hm ⟨e147, rfl, sf148, L149, ⟨hp150, fp151, rl152⟩, -⟩
        have sb153 := Same.trans sb115 sf148
        have sb154 := Same.trans sb116 sf148
        refine rd_asgL L149.fh (ev_call (eva_cons (ev_varF rfl h_seed_108) eva_nil)) hm ?_
        intro x155 v156 F157 H158 hm l159 h_seed_160
        have L161 := L149.trans l159
        have sb162 := Same.trans sb153 l159.f
        have sb163 := Same.trans sb154 l159.f
        replace fp151 := l159.nwl hp150 fp151
        replace hp150 := l159.h _ _ hp150
        replace rl152 := rpL.mono l159.f rl152
        obtain rfl := Option.some.inj hm
        exact hN97 _ _ _ ⟨_, _, _, rfl, sb163, L161, (Flat.any h_seed_160), ⟨hp150, fp151, rl152⟩, trivial⟩
    · rintro s164 σ_ F165 H166 hm ⟨e167, e168, e169, rfl, sf170, L171, h_seed_172, ⟨hp173, fp174, rl175⟩, -⟩
      have sb176 := Same.trans sb82 sf170
      obtain rfl := Option.some.inj hm
      exact hN56 _ _ _ ⟨_, _, _, _, rfl, sb176, L171, (Flat.any h_seed_172), ⟨hp173, fp174, rl175⟩, trivial⟩
  · rintro s177 σ_ F178 H179 hm ⟨e180, e181, e182, e183, rfl, sf184, L185, h_seed_186, ⟨hp187, fp188, rl189⟩, -⟩
    refine nx_with ?_
    obtain ⟨F190, L191, sf192, h_ties_193, fq194⟩ := freeze L185 hz31 fp188 hp187 rl189
    exact rd_ret0 L191.fh (ev_tup (ev_varF rfl h_points_6) (ev_var rfl h_ties_193)) hm fun v F1 H1 l rv => hQ v F1 H1 (L191.trans l) rv
abbrev s_at_ : Stmt := topS 23
theorem sc_at_ : FnScope ["numbers", "q", "total", "power", "number"] ["numbers", "q"] (defScope s_at_) := ⟨rfl, rfl, rfl, by decide +kernel, rfl, by decide +kernel, by decide +kernel⟩
theorem ok_at_ {f : Addr} {fd : FuncData} (F : Fun K "_law_at" "_law_at" s_at_ f fd) (gF : mg "_law_at" = some (.ref f)) (T : Txt K mg ad CW) : Fn P w K mg base CX0 1 "_law_at" ["numbers", "q"] (spO (β := Int) fun (x : (List Int) × Int × Unit) => at_ x.1 x.2.1) := by
  refine ⟨f, _, gF, F.kp, F.binds (ps := ["numbers", "q"]) (fun _ _ _ _ _ _ us hl => match us, hl with | [_, _], _ => rfl), F.ok sc_at_ (spO_len rfl) (fun cdv A outer s H vs Q E hr h => ?_)⟩
  refine ⟨_, (pss_cons (ps_set (i := 2) sc_at_.nd rfl (by first | exact Or.inl rfl | exact Or.inr rfl) pe_int)
    (pss_cons (ps_set (i := 3) sc_at_.nd rfl (by first | exact Or.inl rfl | exact Or.inr rfl) pe_int)
    (pss_cons (ps_for PassesOwn.never rfl (pi_list (pv 0)) (pg_name (i := 4) sc_at_.nd rfl (by first | exact Or.inl rfl | exact Or.inr rfl)) (pss_cons (ps_set (i := 2) sc_at_.nd rfl (by first | exact Or.inl rfl | exact Or.inr rfl) (pe_op op_add (pv 2) (pe_op op_mul (pv 4) (pv 3))))
    (pss_one (ps_set (i := 3) sc_at_.nd rfl (by first | exact Or.inl rfl | exact Or.inr rfl) (pe_op op_mul (pv 3) (pv 1))))))
    (pss_one (ps_ret (pv 2)))))), ?_⟩
  obtain ⟨F0, ⟨x_numbers, x_q, _⟩, y, s0, ⟨v_numbers, _, rfl, h_numbers, v_q, _, rfl, h_q, rfl⟩, hm, hQ⟩ := h
  have L0 : Lat F0 H F0 H := .refl s0
  refine at_st (σ := [some v_numbers, some v_q, none, none, none]) rfl ?_
  replace hm : at_ x_numbers x_q = some y := hm
  unfold at_ at hm
  refine rd_asg L0.fh ev_int hm ?_
  intro x1 v2 F3 H4 hm l5 h_total_6
  have L7 := L0.trans l5
  replace h_numbers := up h_numbers l5
  refine rd_asg L7.fh ev_int hm ?_
  intro x8 v9 F10 H11 hm l12 h_power_13
  have L14 := L7.trans l12
  replace h_numbers := up h_numbers l12
  refine rd_for L14.fh (ei_list (ev_var rfl h_numbers)) hm ?_
  intro xs15 J16 F17 H18 hm l19 wk20
  have L21 := L14.trans l19
  replace h_numbers := up h_numbers l19
  refine rd_loopG wk20 hm (fun (s : Int × Int) σ_ F_ H_ => ∃ (v2_ : V) (v3_ : V) (o4_ : Option V), σ_ = [some v_numbers, some v_q, some v2_, some v3_, o4_] ∧ Same F17 F_ ∧ Lat F0 H F_ H_ ∧ Rep.rp s.1 v2_ F_ ∧ Rep.rp s.2 v3_ F_ ∧ True) ⟨_, _, _, rfl, (.refl _), L21, (Flat.any h_total_6), (Flat.any h_power_13), trivial⟩ ?_ ?_ ?_
  · rintro s σ_ F_ H_ ⟨e22, e23, e24, rfl, sf25, L26, h_total_27, h_power_28, -⟩
    exact ⟨sf25, L26.fh⟩
  · rintro q29 s30 σ_ F36 H37 v31 F38 H39 ⟨e40, e41, e42, rfl, sf43, L44, h_total_45, h_power_46, -⟩ l32 rv33 s47 hm D35 hN34
    have L48 := L44.trans l32
    have sb49 := Same.trans sf43 l32.f
    refine gt_name ?_
    refine rd_asg L48.fh (ev_op (ev_varF rfl h_total_45) (ev_op (ev_varF rfl rv33) (ev_varF rfl h_power_46) rv_mul) rv_add) hm ?_
    intro x50 v51 F52 H53 hm l54 h_total_55
    have L56 := L48.trans l54
    have sb57 := Same.trans sb49 l54.f
    refine rd_asgL L56.fh (ev_op (ev_varF rfl h_power_46) (ev_varF rfl h_q) rv_mul) hm ?_
    intro x58 v59 F60 H61 hm l62 h_power_63
    have L64 := L56.trans l62
    have sb65 := Same.trans sb57 l62.f
    obtain rfl := Option.some.inj hm
    exact hN34 _ _ _ ⟨_, _, _, rfl, sb65, L64, (Flat.any h_total_55), (Flat.any h_power_63), trivial⟩
  · rintro s66 σ_ F67 H68 hm ⟨e69, e70, e71, rfl, sf72, L73, h_total_74, h_power_75, -⟩
    refine nx_with ?_
    exact rd_ret0 L73.fh (ev_varF rfl h_total_74) hm fun v F1 H1 l rv => hQ v F1 H1 (L73.trans l) rv
abbrev s_whole : Stmt := topS 24
theorem sc_whole : FnScope ["found"] ["found"] (defScope s_whole) := ⟨rfl, rfl, rfl, by decide +kernel, rfl, by decide +kernel, by decide +kernel⟩
theorem ok_whole {f : Addr} {fd : FuncData} (F : Fun K "_law_whole" "_law_whole" s_whole f fd) (gF : mg "_law_whole" = some (.ref f)) (T : Txt K mg ad CW) : Fn P w K mg base CX0 1 "_law_whole" ["found"] (spO (β := Bool) fun (x : Int × Unit) => whole x.1) := by
  refine ⟨f, _, gF, F.kp, F.binds (ps := ["found"]) (fun _ _ _ _ _ _ us hl => match us, hl with | [_], _ => rfl), F.ok sc_whole (spO_len rfl) (fun cdv A outer s H vs Q E hr h => ?_)⟩
  refine ⟨_, (pss_one (ps_ret (pe_and (pe_callB call_isi (by rfl) T.b_isinstance (by decide +kernel) (pa_cons (pv 0) (pa_cons (pe_bltn (v := .ty "int") (by rfl) T.b_int (by decide +kernel) rfl) pa_nil))) (pe_one (pe_not (pe_callB call_isi (by rfl) T.b_isinstance (by decide +kernel) (pa_cons (pv 0) (pa_cons (pe_bltn (v := .ty "bool") (by rfl) T.b_bool (by decide +kernel) rfl) pa_nil)))))))), ?_⟩
  obtain ⟨F0, ⟨x_found, _⟩, y, s0, ⟨v_found, _, rfl, h_found, rfl⟩, hm, hQ⟩ := h
  have L0 : Lat F0 H F0 H := .refl s0
  refine at_st (σ := [some v_found]) rfl ?_
  replace hm : whole x_found = some y := hm
  unfold whole at hm
  exact rd_ret0 L0.fh (ev_andV (ev_isi (ev_varF rfl h_found) true) (ev_notV (ev_isi (ev_varF rfl h_found) false))) hm fun v F1 H1 l rv => hQ v F1 H1 (L0.trans l) rv
abbrev s_goes_on : Stmt := topS 25
theorem sc_goes_on : FnScope ["points", "ties", "many", "tints", "near", "tint", "tie"] ["points", "ties", "many", "tints"] (defScope s_goes_on) := ⟨rfl, rfl, rfl, by decide +kernel, rfl, by decide +kernel, by decide +kernel⟩
theorem ok_goes_on {f : Addr} {fd : FuncData} (F : Fun K "_law_goes_on" "_law_goes_on" s_goes_on f fd) (gF : mg "_law_goes_on" = some (.ref f)) (T : Txt K mg ad CW) : ∀ d_ : Nat, Fn P w K mg base CX0 (1 + d_) "_law_goes_on" ["points", "ties", "many", "tints"] (spO (β := Bool) fun (x : Int × (List (Int × Int)) × Int × (List Int) × Unit) => goes_onF d_ x.1 x.2.1 x.2.2.1 x.2.2.2.1)
  | 0 => ⟨f, _, gF, F.kp, F.binds (ps := ["points", "ties", "many", "tints"]) (fun _ _ _ _ _ _ us hl => match us, hl with | [_, _, _, _], _ => rfl), F.ok (k := 0) sc_goes_on (spO_len rfl) (fun cdv A outer s H vs Q E hr h => by obtain ⟨F0, _, y, s0, _, hm, _⟩ := h; cases hm)⟩
  | n_ + 1 => by
    have C_goes_on := ok_goes_on F gF T  n_
    refine ⟨f, _, gF, F.kp, F.binds (ps := ["points", "ties", "many", "tints"]) (fun _ _ _ _ _ _ us hl => match us, hl with | [_, _, _, _], _ => rfl), F.ok (k := 1 + n_) sc_goes_on (spO_len rfl) (fun cdv A outer s H vs Q E hr h => ?_)⟩
    refine ⟨_, (pss_cons (ps_if (pt_cmpR op_eq (pe_callB call_len_seq (by rfl) T.b_len PySem.boot_len (pa_cons (pv 3) pa_nil)) (pv 0) (nomark _)) (pss_one (ps_ret pe_bl)) pss_nil)
    (pss_cons (ps_setLc (i := 4) (own := [("tie", 6)]) (g := (gName 6)) rfl sc_goes_on.nd rfl rfl (sw_true rfl rfl rfl (by decide +kernel)) (pi_list (pv 1)) (blkOk_by (N := ["points", "ties", "many", "tints", "near", "tint", "tie"]) (sc := defScope s_goes_on) (by decide +kernel)) (fun _ _ _ _ _ => (pg_name (i := 6) sc_goes_on.nd rfl (by first | exact Or.inl rfl | exact Or.inr rfl))) (fun _ _ _ _ _ => (pts_one (pt_cmpR op_eq (pe_ix (ix_tupK rfl) (pv 6) pe_int (fun _ _ => rfl)) (pe_callB (call_len_seqK rfl) (by rfl) T.b_len PySem.boot_len (pa_cons (pv 3) pa_nil)) (nomark _)))) (fun _ _ _ _ _ => (pe_ix (ix_listK rfl) (pv 3) (pe_ix (ix_tupK rfl) (pv 6) pe_int (fun _ _ => rfl)) (fun _ _ => rfl))))
    (pss_cons (ps_for PassesOwn.never rfl (pi_range1 (by rfl) T.b_range (pa_cons (pv 2) pa_nil)) (pg_name (i := 5) sc_goes_on.nd rfl (by first | exact Or.inl rfl | exact Or.inr rfl)) (pss_one (ps_if (PW.pt (pw_and (pt_cmpR op_notIn_seq (pv 5) (pv 4) (by rfl)) (pw_and1 (pt_val (pe_fn C_goes_on (hr.mono (by omega)) rfl (pa_cons (pv 0) (pa_cons (pv 1) (pa_cons (pv 2) (pa_cons (pe_op op_cat (pv 3) (pe_lst (pa_cons (pv 5) pa_nil))) pa_nil))))))))) (pss_one (ps_ret pe_bl)) pss_nil)))
    (pss_one (ps_ret pe_bl))))), ?_⟩
    obtain ⟨F0, ⟨x_points, x_ties, x_many, x_tints, _⟩, y, s0, ⟨v_points, _, rfl, h_points, v_ties, _, rfl, h_ties, v_many, _, rfl, h_many, v_tints, _, rfl, h_tints, rfl⟩, hm, hQ⟩ := h
    have L0 : Lat F0 H F0 H := .refl s0
    refine at_st (σ := [some v_points, some v_ties, some v_many, some v_tints, none, none, none]) rfl ?_
    replace hm : goes_onF (n_ + 1) x_points x_ties x_many x_tints = some y := hm
    unfold goes_onF at hm
    refine rd_guard L0.fh (evt_of (ev_op (ev_len (ev_var rfl h_tints)) (ev_varF rfl h_points) rv_eqI)) hm ?_ ?_
    · intro F1 H2 _ hm l3
      have L4 := L0.trans l3
      exact rd_ret0 L4.fh ev_bl hm fun v F1 H1 l rv => hQ v F1 H1 (L4.trans l) rv
    · intro F5 H6 _ hm l7
      have L8 := L0.trans l7
      replace h_ties := up h_ties l7
      replace h_tints := up h_tints l7
      refine rd_asg L8.fh (EVN.ev (evn_lc (ei_list (ev_var rfl h_ties)) (fun x15 v16 _ _ _ l18 r17 k19 => gt_name (k19 _ rfl (evt_of (ev_op (ev_snd (ev_var rfl r17)) (ev_len (ev_var rfl (up h_tints l18))) rv_eqI)) (ev_op (ev_var rfl (up h_tints l18)) (ev_fst (ev_var rfl r17)) rv_ixL))))) hm ?_
      intro x9 v10 F11 H12 hm l13 h_near_14
      have L20 := L8.trans l13
      replace h_ties := up h_ties l13
      replace h_tints := up h_tints l13
      refine rd_for L20.fh (ei_range1 (ev_varF rfl h_many)) hm ?_
      intro xs21 J22 F23 H24 hm l25 wk26
      have L27 := L20.trans l25
      replace h_ties := up h_ties l25
      replace h_tints := up h_tints l25
      replace h_near_14 := up h_near_14 l25
      refine rd_loopR wk26 hm (fun (s : Unit) σ_ F_ H_ => ∃ (o5_ : Option V), σ_ = [some v_points, some v_ties, some v_many, some v_tints, some v10, o5_, none] ∧ Same F23 F_ ∧ Lat F0 H F_ H_ ∧ True) ⟨_, rfl, (.refl _), L27, trivial⟩ ?_ ?_ ?_
      · rintro s σ_ F_ H_ ⟨e28, rfl, sf29, L30, -⟩
        exact ⟨sf29, L30.fh⟩
      · rintro q31 s32 σ_ F38 H39 v33 F40 H41 ⟨e42, rfl, sf43, L44, -⟩ l34 rv35 st47 hm D37 hD45 hN36 hR46
        replace hD45 : D37.rt = Q := hD45
        replace h_ties := Rep.mono sf43 h_ties
        replace h_tints := Rep.mono sf43 h_tints
        replace h_near_14 := Rep.mono sf43 h_near_14
        have L48 := L44.trans l34
        have sb49 := Same.trans sf43 l34.f
        replace h_ties := up h_ties l34
        replace h_tints := up h_tints l34
        replace h_near_14 := up h_near_14 l34
        refine gt_name ?_
        refine rd_if L48.fh (evt_and (evt_of (ev_op (ev_varF rfl rv35) (ev_var rfl h_near_14) rv_notInI)) (evt_b (ev_call (eva_cons (ev_varF rfl h_points) (eva_cons (ev_var rfl h_ties) (eva_cons (ev_varF rfl h_many) (eva_cons (EVN.ev (evn_op (ev_var rfl h_tints) (EVN.ev (evn_lst (evl_cons (ev_varF rfl rv35) evl_nil))) rvn_cat)) eva_nil))))))) hm ?_ ?_
        · intro F50 H51 _ hm l52
          have L53 := L48.trans l52
          have sb54 := Same.trans sb49 l52.f
          replace h_ties := up h_ties l52
          replace h_tints := up h_tints l52
          replace h_near_14 := up h_near_14 l52
          refine rd_ret L53.fh ev_bl hm ?_
          intro x_ v_ F1_ H1_ hm l_ rv_
          replace hm := hR46 _ (Option.some.inj hm).symm
          obtain rfl := Option.some.inj hm
          rw [hD45]
          exact hQ _ _ _ (L53.trans l_) rv_
        · intro F55 H56 _ hm l57
          have L58 := L48.trans l57
          have sb59 := Same.trans sb49 l57.f
          replace h_ties := up h_ties l57
          replace h_tints := up h_tints l57
          replace h_near_14 := up h_near_14 l57
          exact hN36 _ (Option.some.inj hm).symm _ _ _ ⟨_, rfl, sb59, L58, trivial⟩
      · rintro s60 σ_ F61 H62 hm ⟨e63, rfl, sf64, L65, -⟩
        refine nx_with ?_
        exact rd_ret0 L65.fh ev_bl hm fun v F1 H1 l rv => hQ v F1 H1 (L65.trans l) rv
abbrev s_is_ : Stmt := topS 26
theorem sc_is_ : FnScope ["points", "ties", "tints", "many", "tint", "tie"] ["points", "ties", "tints", "many"] (defScope s_is_) := ⟨rfl, rfl, rfl, by decide +kernel, rfl, by decide +kernel, by decide +kernel⟩
theorem ok_is_ {f : Addr} {fd : FuncData} (F : Fun K "_law_is" "_law_is" s_is_ f fd) (gF : mg "_law_is" = some (.ref f)) (T : Txt K mg ad CW) (C_whole : Fn P w K mg base CX0 1 "_law_whole" ["found"] (spO (β := Bool) fun (x : Int × Unit) => whole x.1)) : Fn P w K mg base CX0 2 "_law_is" ["points", "ties", "tints", "many"] (spO (β := Bool) fun (x : Int × (List (Int × Int)) × (List Int) × Int × Unit) => is_ x.1 x.2.1 x.2.2.1 x.2.2.2.1) := by
  refine ⟨f, _, gF, F.kp, F.binds (ps := ["points", "ties", "tints", "many"]) (fun _ _ _ _ _ _ us hl => match us, hl with | [_, _, _, _], _ => rfl), F.ok sc_is_ (spO_len rfl) (fun cdv A outer s H vs Q E hr h => ?_)⟩
  refine ⟨_, (pss_cons (ps_if (PW.pt (pw_or (pt_not (pt_val (pe_callB call_isi (by rfl) T.b_isinstance (by decide +kernel) (pa_cons (pv 2) (pa_cons (pe_bltn (v := .ty "list") (by rfl) T.b_list (by decide +kernel) rfl) pa_nil))))) (pw_or1 (pt_cmpR op_ne (pe_callB call_len_seq (by rfl) T.b_len PySem.boot_len (pa_cons (pv 2) pa_nil)) (pv 0) (nomark _))))) (pss_one (ps_ret pe_bl)) pss_nil)
    (pss_cons (ps_for PassesOwn.never rfl (pi_list (pv 2)) (pg_name (i := 4) sc_is_.nd rfl (by first | exact Or.inl rfl | exact Or.inr rfl)) (pss_one (ps_if (PW.pt (pw_or (pt_not (pt_val (pe_fn C_whole (hr.mono (by decide)) rfl (pa_cons (pv 4) pa_nil)))) (pw_or1 (pt_not (pt_chain op_le op_lt pe_int (pv 4) (pv 3)))))) (pss_one (ps_ret pe_bl)) pss_nil)))
    (pss_one (ps_ret (pe_cmpR op_eq (pe_callB call_len_seq (by rfl) T.b_len PySem.boot_len (pa_cons (pe_lc (own := [("tie", 5)]) (g := (gName 5)) rfl sc_is_.nd (pi_list (pv 1)) (blkOk_by (N := ["points", "ties", "tints", "many", "tint", "tie"]) (sc := defScope s_is_) (by decide +kernel)) (fun _ _ _ _ _ => (pg_name (i := 5) sc_is_.nd rfl (by first | exact Or.inl rfl | exact Or.inr rfl))) (fun _ _ _ _ _ => (pts_one (pt_cmpR op_eq (pe_ix (ix_listK rfl) (pv 2) (pe_ix (ix_tupK rfl) (pv 5) pe_int (fun _ _ => rfl)) (fun _ _ => rfl)) (pe_ix (ix_listK rfl) (pv 2) (pe_ix (ix_tupK rfl) (pv 5) pe_int (fun _ _ => rfl)) (fun _ _ => rfl)) (nomark _)))) (fun _ _ _ _ _ => (pv 5))) pa_nil)) pe_int (nomark _)))))), ?_⟩
  obtain ⟨F0, ⟨x_points, x_ties, x_tints, x_many, _⟩, y, s0, ⟨v_points, _, rfl, h_points, v_ties, _, rfl, h_ties, v_tints, _, rfl, h_tints, v_many, _, rfl, h_many, rfl⟩, hm, hQ⟩ := h
  have L0 : Lat F0 H F0 H := .refl s0
  refine at_st (σ := [some v_points, some v_ties, some v_tints, some v_many, none, none]) rfl ?_
  replace hm : is_ x_points x_ties x_tints x_many = some y := hm
  unfold is_ at hm
  refine rd_guard L0.fh (evt_or (evt_not (evt_b (ev_isi (ev_var rfl h_tints) true))) (evt_of (ev_op (ev_len (ev_var rfl h_tints)) (ev_varF rfl h_points) rv_neI))) hm ?_ ?_
  · intro F1 H2 _ hm l3
    have L4 := L0.trans l3
    exact rd_ret0 L4.fh ev_bl hm fun v F1 H1 l rv => hQ v F1 H1 (L4.trans l) rv
  · intro F5 H6 _ hm l7
    have L8 := L0.trans l7
    replace h_ties := up h_ties l7
    replace h_tints := up h_tints l7
    refine rd_for L8.fh (ei_list (ev_var rfl h_tints)) hm ?_
    intro xs9 J10 F11 H12 hm l13 wk14
    have L15 := L8.trans l13
    replace h_ties := up h_ties l13
    replace h_tints := up h_tints l13
    refine rd_loopR wk14 hm (fun (s : Unit) σ_ F_ H_ => ∃ (o4_ : Option V), σ_ = [some v_points, some v_ties, some v_tints, some v_many, o4_, none] ∧ Same F11 F_ ∧ Lat F0 H F_ H_ ∧ True) ⟨_, rfl, (.refl _), L15, trivial⟩ ?_ ?_ ?_
    · rintro s σ_ F_ H_ ⟨e16, rfl, sf17, L18, -⟩
      exact ⟨sf17, L18.fh⟩
    · rintro q19 s20 σ_ F26 H27 v21 F28 H29 ⟨e30, rfl, sf31, L32, -⟩ l22 rv23 st35 hm D25 hD33 hN24 hR34
      replace hD33 : D25.rt = Q := hD33
      replace h_ties := Rep.mono sf31 h_ties
      replace h_tints := Rep.mono sf31 h_tints
      have L36 := L32.trans l22
      have sb37 := Same.trans sf31 l22.f
      replace h_ties := up h_ties l22
      replace h_tints := up h_tints l22
      refine gt_name ?_
      refine rd_if L36.fh (evt_or (evt_not (evt_b (ev_call (eva_cons (ev_varF rfl rv23) eva_nil)))) (evt_not (evt_of (ev_chain ev_int (ev_varF rfl rv23) (ev_varF rfl h_many) rv_cmp rv_cmp)))) hm ?_ ?_
      · intro F38 H39 _ hm l40
        have L41 := L36.trans l40
        have sb42 := Same.trans sb37 l40.f
        replace h_ties := up h_ties l40
        replace h_tints := up h_tints l40
        refine rd_ret L41.fh ev_bl hm ?_
        intro x_ v_ F1_ H1_ hm l_ rv_
        replace hm := hR34 _ (Option.some.inj hm).symm
        obtain rfl := Option.some.inj hm
        rw [hD33]
        exact hQ _ _ _ (L41.trans l_) rv_
      · intro F43 H44 _ hm l45
        have L46 := L36.trans l45
        have sb47 := Same.trans sb37 l45.f
        replace h_ties := up h_ties l45
        replace h_tints := up h_tints l45
        exact hN24 _ (Option.some.inj hm).symm _ _ _ ⟨_, rfl, sb47, L46, trivial⟩
    · rintro s48 σ_ F49 H50 hm ⟨e51, rfl, sf52, L53, -⟩
      refine nx_with ?_
      replace h_ties := Rep.mono sf52 h_ties
      replace h_tints := Rep.mono sf52 h_tints
      exact rd_ret0 L53.fh (ev_op (ev_len (EVN.ev (evn_lc (ei_list (ev_var rfl h_ties)) (fun x54 v55 _ _ _ l57 r56 k58 => gt_name (k58 _ rfl (evt_of (ev_op (ev_op (ev_var rfl (up h_tints l57)) (ev_fst (ev_var rfl r56)) rv_ixL) (ev_op (ev_var rfl (up h_tints l57)) (ev_snd (ev_var rfl r56)) rv_ixL) rv_eqI)) (ev_var rfl r56)))))) ev_int rv_eqI) hm fun v F1 H1 l rv => hQ v F1 H1 (L53.trans l) rv
abbrev s_law : Stmt := topS 27
theorem sc_law : FnScope ["script", "points", "ties", "many", "numbers", "handed", "few", "found", "k", "near", "tint", "tie", "q"] ["script"] (defScope s_law) := ⟨rfl, rfl, rfl, by decide +kernel, rfl, by decide +kernel, by decide +kernel⟩
theorem ok_law {f : Addr} {fd : FuncData} (F : Fun K "law" "law" s_law f fd) (gF : mg "law" = some (.ref f)) (T : Txt K mg ad CW) (C_web_by : Fn P w K mg base CX0 2 "_law_web_by" ["script", "k", "most", "cap"] (spO (β := (Int × (List (Int × Int)))) fun (x : (Scr K) × Int × Int × Int × Unit) => web_by x.1.l x.2.1 x.2.2.1 x.2.2.2.1)) (C_cell_at : Fn P w K mg base CX0 1 "_law_cell_at" ["script", "k"] (spO (β := Int) fun (x : (Scr K) × Int × Unit) => cell_at x.1.l x.2.1)) (C_row : Fn P w K mg base (L2.CX P w) 24 "row" ["points", "ties"] (spXN (clO ad) (β := Int) fun (x : Int × (List (Int × Int)) × Unit) => row x.1 x.2.1)) (C_fewest : Fn P w K mg base (L2.CX P w) 25 "fewest" ["points", "ties"] (spX (clO ad) (β := Int) fun (x : Int × (List (Int × Int)) × Unit) => fewest x.1 x.2.1)) (C_at_ : Fn P w K mg base CX0 1 "_law_at" ["numbers", "q"] (spO (β := Int) fun (x : (List Int) × Int × Unit) => at_ x.1 x.2.1)) (C_whole : Fn P w K mg base CX0 1 "_law_whole" ["found"] (spO (β := Bool) fun (x : Int × Unit) => whole x.1)) (C_least : Fn P w K mg base (L2.CX P w) 12 "least" ["points", "ties", "many"] (spX (clO ad) (β := (Option (List Int))) fun (x : Int × (List (Int × Int)) × Int × Unit) => least x.1 x.2.1 x.2.2.1)) (C_is_ : Fn P w K mg base CX0 2 "_law_is" ["points", "ties", "tints", "many"] (spO (β := Bool) fun (x : Int × (List (Int × Int)) × (List Int) × Int × Unit) => is_ x.1 x.2.1 x.2.2.1 x.2.2.2.1)) (C_goes_on : Fn P w K mg base CX0 11 "_law_goes_on" ["points", "ties", "many", "tints"] (spO (β := Bool) fun (x : Int × (List (Int × Int)) × Int × (List Int) × Unit) => goes_on x.1 x.2.1 x.2.2.1 x.2.2.2.1)) : FnOk P w K mg base CX0 26 f fd ["script"] (spO (β := Bool) fun (x : (Scr K) × Unit) => law x.1.l) := by
  refine F.ok sc_law (spO_len rfl) (fun cdv A outer s H vs Q E hr h => ?_)
  refine ⟨_, (pss_cons (ps_asg (pe_fn C_web_by (hr.mono (by decide)) rfl (pa_cons (pv 0) (pa_cons pe_int (pa_cons pe_int (pa_cons pe_int pa_nil))))) (pg_tup rfl (pgs_cons (pg_name (i := 1) sc_law.nd rfl (by first | exact Or.inl rfl | exact Or.inr rfl)) (pgs_cons (pg_name (i := 2) sc_law.nd rfl (by first | exact Or.inl rfl | exact Or.inr rfl)) pgs_nil))))
    (pss_cons (ps_set (i := 3) sc_law.nd rfl (by first | exact Or.inl rfl | exact Or.inr rfl) (pe_op op_mod (pe_fn C_cell_at (hr.mono (by decide)) rfl (pa_cons (pv 0) (pa_cons pe_int pa_nil))) pe_int))
    (pss_cons (ps_set (i := 4) sc_law.nd rfl (by first | exact Or.inl rfl | exact Or.inr rfl) (pe_fn0 C_row (hr.mono (by decide)) rfl (pa_cons (pv 1) (pa_cons (pe_callTy call_list_of (by rfl) T.b_list (by decide +kernel) (pa_cons (pv 2) pa_nil)) pa_nil))))
    (pss_cons (ps_set (i := 5) sc_law.nd rfl (by first | exact Or.inl rfl | exact Or.inr rfl) (pe_callTy call_list_of (by rfl) T.b_list (by decide +kernel) (pa_cons (pv 2) pa_nil)))
    (pss_cons (ps_set (i := 6) sc_law.nd rfl (by first | exact Or.inl rfl | exact Or.inr rfl) (pe_fn0 C_fewest (hr.mono (by decide)) rfl (pa_cons (pv 1) (pa_cons (pv 5) pa_nil))))
    (pss_cons (ps_if (PW.pt (pw_or (pt_not (pt_val (pe_fn C_whole (hr.mono (by decide)) rfl (pa_cons (pv 6) pa_nil)))) (pw_or (pt_cmpR op_lt (pv 6) pe_int (nomark _)) (pw_or (pt_cmpR op_gt (pv 6) pe_int (nomark _)) (pw_or1 (pt_cmpR op_eq (pe_fn C_at_ (hr.mono (by decide)) rfl (pa_cons (pv 4) (pa_cons (pv 6) pa_nil))) pe_int (nomark _))))))) (pss_one (ps_ret pe_bl)) pss_nil)
    (pss_cons (ps_if (pt_cmpR op_gt (pe_callB call_len_seq (by rfl) T.b_len PySem.boot_len (pa_cons (pe_lc (own := [("q", 12)]) (g := (gName 12)) rfl sc_law.nd (pi_range1 (by rfl) T.b_range (pa_cons (pv 6) pa_nil)) (blkOk_by (N := ["script", "points", "ties", "many", "numbers", "handed", "few", "found", "k", "near", "tint", "tie", "q"]) (sc := defScope s_law) (by decide +kernel)) (fun _ _ _ _ _ => (pg_name (i := 12) sc_law.nd rfl (by first | exact Or.inl rfl | exact Or.inr rfl))) (fun _ _ _ _ _ => (pts_one (pt_cmpR op_ne (pe_fn C_at_ (hr.mono (by decide)) rfl (pa_cons (pv 4) (pa_cons (pv 12) pa_nil))) pe_int (nomark _)))) (fun _ _ _ _ _ => (pv 12))) pa_nil)) pe_int (nomark _)) (pss_one (ps_ret pe_bl)) pss_nil)
    (pss_cons (ps_set (i := 7) sc_law.nd rfl (by first | exact Or.inl rfl | exact Or.inr rfl) (pe_fn0 C_least (hr.mono (by decide)) rfl (pa_cons (pv 1) (pa_cons (pv 5) (pa_cons (pv 3) pa_nil)))))
    (pss_cons (ps_if (pt_cmpR op_lt (pv 3) (pv 6) (nomark _)) (pss_one (ps_ret (pe_and (pe_cmp (pc_isN (pv 7)) rfl) (pe_one (pe_cmpR (op_eqD (hu64 hr)) (pv 5) (pv 2) (nomark _)))))) pss_nil)
    (pss_cons (ps_if (PW.pt (pw_or (pt_not (pt_val (pe_fn C_is_ (hr.mono (by decide)) rfl (pa_cons (pv 1) (pa_cons (pv 2) (pa_cons (pv 7) (pa_cons (pv 3) pa_nil))))))) (pw_or1 (pt_cmpR (op_neD (hu64 hr)) (pv 5) (pv 2) (nomark _))))) (pss_one (ps_ret pe_bl)) pss_nil)
    (pss_cons (ps_for PassesOwn.never rfl (pi_range1 (by rfl) T.b_range (pa_cons (pv 1) pa_nil)) (pg_name (i := 8) sc_law.nd rfl (by first | exact Or.inl rfl | exact Or.inr rfl)) (pss_cons (ps_setLc (i := 9) (own := [("tie", 11)]) (g := (gName 11)) rfl sc_law.nd rfl rfl (sw_true rfl rfl rfl (by decide +kernel)) (pi_list (pv 2)) (blkOk_by (N := ["script", "points", "ties", "many", "numbers", "handed", "few", "found", "k", "near", "tint", "tie", "q"]) (sc := defScope s_law) (by decide +kernel)) (fun _ _ _ _ _ => (pg_name (i := 11) sc_law.nd rfl (by first | exact Or.inl rfl | exact Or.inr rfl))) (fun _ _ _ _ _ => (pts_one (pt_cmpR op_eq (pe_ix (ix_tupK rfl) (pv 11) pe_int (fun _ _ => rfl)) (pv 8) (nomark _)))) (fun _ _ _ _ _ => (pe_ix (ix_listK rfl) (pv 7) (pe_ix (ix_tupK rfl) (pv 11) pe_int (fun _ _ => rfl)) (fun _ _ => rfl))))
    (pss_one (ps_for PassesOwn.never rfl (pi_range1 (by rfl) T.b_range (pa_cons (pe_ix ix_list (pv 7) (pv 8) (fun _ _ => rfl)) pa_nil)) (pg_name (i := 10) sc_law.nd rfl (by first | exact Or.inl rfl | exact Or.inr rfl)) (pss_one (ps_if (PW.pt (pw_and (pt_cmpR op_notIn_seq (pv 10) (pv 9) (by rfl)) (pw_and1 (pt_val (pe_fn C_goes_on (hr.mono (by decide)) rfl (pa_cons (pv 1) (pa_cons (pv 2) (pa_cons (pv 3) (pa_cons (pe_op op_cat (pe_slice sl_list (pv 7) po_none (po_some (pv 8))) (pe_lst (pa_cons (pv 10) pa_nil))) pa_nil))))))))) (pss_one (ps_ret pe_bl)) pss_nil))))))
    (pss_one (ps_ret pe_bl))))))))))))), ?_⟩
  obtain ⟨F0, ⟨x_script, _⟩, y, s0, ⟨v_script, _, rfl, h_script, rfl⟩, hm, hQ⟩ := h
  have L0 : Lat F0 H F0 H := .refl s0
  refine at_st (σ := [some v_script, none, none, none, none, none, none, none, none, none, none, none, none]) rfl ?_
  replace hm : law x_script.l = some y := hm
  unfold law at hm
  refine rd_asg2 L0.fh (ev_call (eva_cons (ev_var rfl h_script) (eva_cons ev_int (eva_cons ev_int (eva_cons ev_int eva_nil))))) hm ?_
  intro x1 v2 v3 F4 H5 hm l6 h_points_7 h_ties_8
  have L9 := L0.trans l6
  replace h_script := up h_script l6
  refine rd_asg L9.fh (ev_op (ev_call (eva_cons (ev_var rfl h_script) (eva_cons ev_int eva_nil))) ev_int rv_mod) hm ?_
  intro x10 v11 F12 H13 hm l14 h_many_15
  have L16 := L9.trans l14
  replace h_ties_8 := up h_ties_8 l14
  refine rd_asg L16.fh (EVN.ev (evn_callX (eva_cons (ev_varF rfl h_points_7) (eva_cons (EVN.ev (evn_list (ev_var rfl h_ties_8))) eva_nil)))) hm ?_
  intro x17 v18 F19 H20 hm l21 h_numbers_22
  have L23 := L16.trans l21
  replace h_ties_8 := up h_ties_8 l21
  refine rd_asg L23.fh (EVN.ev (evn_list (ev_var rfl h_ties_8))) hm ?_
  intro x24 v25 F26 H27 hm l28 h_handed_29
  have L30 := L23.trans l28
  replace h_ties_8 := up h_ties_8 l28
  replace h_numbers_22 := up h_numbers_22 l28
  refine rd_asg L30.fh (ev_callX (eva_cons (ev_varF rfl h_points_7) (eva_cons (ev_var rfl h_handed_29) eva_nil))) hm ?_
  intro x31 v32 F33 H34 hm l35 h_few_36
  have L37 := L30.trans l35
  replace h_ties_8 := up h_ties_8 l35
  replace h_numbers_22 := up h_numbers_22 l35
  replace h_handed_29 := up h_handed_29 l35
  refine rd_guard L37.fh (evt_or (evt_not (evt_b (ev_call (eva_cons (ev_varF rfl h_few_36) eva_nil)))) (evt_or (evt_of (ev_op (ev_varF rfl h_few_36) ev_int rv_cmp)) (evt_or (evt_of (ev_op (ev_varF rfl h_few_36) ev_int rv_cmp)) (evt_of (ev_op (ev_call (eva_cons (ev_var rfl h_numbers_22) (eva_cons (ev_varF rfl h_few_36) eva_nil))) ev_int rv_eqI))))) hm ?_ ?_
  · intro F38 H39 _ hm l40
    have L41 := L37.trans l40
    exact rd_ret0 L41.fh ev_bl hm fun v F1 H1 l rv => hQ v F1 H1 (L41.trans l) rv
  · intro F42 H43 _ hm l44
    have L45 := L37.trans l44
    replace h_ties_8 := up h_ties_8 l44
    replace h_numbers_22 := up h_numbers_22 l44
    replace h_handed_29 := up h_handed_29 l44
    refine rd_guard L45.fh (evt_of (ev_op (ev_len (EVN.ev (evn_lc (ei_range1 (ev_varF rfl h_few_36)) (fun x46 v47 _ _ _ l49 r48 k50 => gt_name (k50 _ rfl (evt_of (ev_op (ev_call (eva_cons (ev_var rfl (up h_numbers_22 l49)) (eva_cons (ev_varF rfl r48) eva_nil))) ev_int rv_neI)) (ev_varF rfl r48)))))) ev_int rv_cmp)) hm ?_ ?_
    · intro F51 H52 _ hm l53
      have L54 := L45.trans l53
      exact rd_ret0 L54.fh ev_bl hm fun v F1 H1 l rv => hQ v F1 H1 (L54.trans l) rv
    · intro F55 H56 _ hm l57
      have L58 := L45.trans l57
      replace h_ties_8 := up h_ties_8 l57
      replace h_handed_29 := up h_handed_29 l57
      refine rd_asg L58.fh (ev_callX (eva_cons (ev_varF rfl h_points_7) (eva_cons (ev_var rfl h_handed_29) (eva_cons (ev_varF rfl h_many_15) eva_nil)))) hm ?_
      intro x59 v60 F61 H62 hm l63 h_found_64
      have L65 := L58.trans l63
      replace h_ties_8 := up h_ties_8 l63
      replace h_handed_29 := up h_handed_29 l63
      refine rd_guard L65.fh (evt_of (ev_op (ev_varF rfl h_many_15) (ev_varF rfl h_few_36) rv_cmp)) hm ?_ ?_
      · intro F66 H67 _ hm l68
        have L69 := L65.trans l68
        replace h_ties_8 := up h_ties_8 l68
        replace h_handed_29 := up h_handed_29 l68
        replace h_found_64 := up h_found_64 l68
        exact rd_ret0 L69.fh (ev_andV (ev_isN (fun x v F h => nn_list x v F h) (ev_var rfl h_found_64)) (ev_op (ev_var rfl h_handed_29) (ev_var rfl h_ties_8) (fun x y => rv_eqD x y))) hm fun v F1 H1 l rv => hQ v F1 H1 (L69.trans l) rv
      · intro F70 H71 _ hm l72
        have L73 := L65.trans l72
        replace h_ties_8 := up h_ties_8 l72
        replace h_handed_29 := up h_handed_29 l72
        replace h_found_64 := up h_found_64 l72
        refine rd_guard L73.fh (evt_or (evt_not (evt_b (ev_call (eva_cons (ev_varF rfl h_points_7) (eva_cons (ev_var rfl h_ties_8) (eva_cons (ev_un (ev_var rfl h_found_64)) (eva_cons (ev_varF rfl h_many_15) eva_nil))))))) (evt_of (ev_op (ev_var rfl h_handed_29) (ev_var rfl h_ties_8) (fun x y => rv_neD x y)))) hm ?_ ?_
        · intro F74 H75 _ hm l76
          have L77 := L73.trans l76
          exact rd_ret0 L77.fh ev_bl hm fun v F1 H1 l rv => hQ v F1 H1 (L77.trans l) rv
        · intro F78 H79 _ hm l80
          have L81 := L73.trans l80
          replace h_ties_8 := up h_ties_8 l80
          replace h_found_64 := up h_found_64 l80
          refine rd_for L81.fh (ei_range1 (ev_varF rfl h_points_7)) hm ?_
          intro xs82 J83 F84 H85 hm l86 wk87
          have L88 := L81.trans l86
          replace h_ties_8 := up h_ties_8 l86
          replace h_found_64 := up h_found_64 l86
          refine rd_loopR wk87 hm (fun (s : Unit) σ_ F_ H_ => ∃ (o8_ : Option V) (o9_ : Option V) (o10_ : Option V), σ_ = [some v_script, some v2, some v3, some v11, some v18, some v25, some v32, some v60, o8_, o9_, o10_, none, none] ∧ Same F84 F_ ∧ Lat F0 H F_ H_ ∧ True) ⟨_, _, _, rfl, (.refl _), L88, trivial⟩ ?_ ?_ ?_
          · rintro s σ_ F_ H_ ⟨e89, e90, e91, rfl, sf92, L93, -⟩
            exact ⟨sf92, L93.fh⟩
          · rintro q94 s95 σ_ F101 H102 v96 F103 H104 ⟨e105, e106, e107, rfl, sf108, L109, -⟩ l97 rv98 st112 hm D100 hD110 hN99 hR111
            replace hD110 : D100.rt = Q := hD110
            replace h_ties_8 := Rep.mono sf108 h_ties_8
            replace h_found_64 := Rep.mono sf108 h_found_64
            have L113 := L109.trans l97
            have sb114 := Same.trans sf108 l97.f
            replace h_ties_8 := up h_ties_8 l97
            replace h_found_64 := up h_found_64 l97
            refine gt_name ?_
            refine rd_asg L113.fh (EVN.ev (evn_lc (ei_list (ev_var rfl h_ties_8)) (fun x121 v122 _ _ _ l124 r123 k125 => gt_name (k125 _ rfl (evt_of (ev_op (ev_snd (ev_var rfl r123)) (ev_varF rfl rv98) rv_eqI)) (ev_op (ev_un (ev_var rfl (up h_found_64 l124))) (ev_fst (ev_var rfl r123)) rv_ixL))))) hm ?_
            intro x115 v116 F117 H118 hm l119 h_near_120
            have L126 := L113.trans l119
            have sb127 := Same.trans sb114 l119.f
            replace h_ties_8 := up h_ties_8 l119
            replace h_found_64 := up h_found_64 l119
            refine rd_forL L126.fh (ei_range1 (ev_op (ev_un (ev_var rfl h_found_64)) (ev_varF rfl rv98) rv_ixL)) hm ?_
            intro xs128 J129 F130 H131 hm l132 wk133
            have L134 := L126.trans l132
            have sb135 := Same.trans sb127 l132.f
            replace h_ties_8 := up h_ties_8 l132
            replace h_found_64 := up h_found_64 l132
            replace h_near_120 := up h_near_120 l132
            refine rd_loopR wk133 hm (fun (s : Unit) σ_ F_ H_ => ∃ (o10_ : Option V), σ_ = [some v_script, some v2, some v3, some v11, some v18, some v25, some v32, some v60, some v96, some v116, o10_, none, none] ∧ Same F130 F_ ∧ Lat F0 H F_ H_ ∧ True) ⟨_, rfl, (.refl _), L134, trivial⟩ ?_ ?_ ?_
            · rintro s σ_ F_ H_ ⟨e136, rfl, sf137, L138, -⟩
              exact ⟨sf137, L138.fh⟩
            · rintro q139 s140 σ_ F146 H147 v141 F148 H149 ⟨e150, rfl, sf151, L152, -⟩ l142 rv143 st155 hm D145 hD153 hN144 hR154
              replace hD153 : D145.rt = D100.rt := hD153
              have sb156 := Same.trans sb135 sf151
              replace h_ties_8 := Rep.mono sf151 h_ties_8
              replace h_found_64 := Rep.mono sf151 h_found_64
              replace h_near_120 := Rep.mono sf151 h_near_120
              have L157 := L152.trans l142
              have sb158 := Same.trans sb156 l142.f
              have sb159 := Same.trans sf151 l142.f
              replace h_ties_8 := up h_ties_8 l142
              replace h_found_64 := up h_found_64 l142
              replace h_near_120 := up h_near_120 l142
              refine gt_name ?_
              refine rd_if L157.fh (evt_and (evt_of (ev_op (ev_varF rfl rv143) (ev_var rfl h_near_120) rv_notInI)) (evt_b (ev_call (eva_cons (ev_varF rfl h_points_7) (eva_cons (ev_var rfl h_ties_8) (eva_cons (ev_varF rfl h_many_15) (eva_cons (EVN.ev (evn_op (EVN.ev (evn_cut (ev_un (ev_var rfl h_found_64)) po_no (po_at (ev_varF rfl rv98)))) (EVN.ev (evn_lst (evl_cons (ev_varF rfl rv143) evl_nil))) rvn_cat)) eva_nil))))))) hm ?_ ?_
              · intro F160 H161 _ hm l162
                have L163 := L157.trans l162
                have sb164 := Same.trans sb158 l162.f
                have sb165 := Same.trans sb159 l162.f
                replace h_ties_8 := up h_ties_8 l162
                replace h_found_64 := up h_found_64 l162
                replace h_near_120 := up h_near_120 l162
                refine rd_ret L163.fh ev_bl hm ?_
                intro x_ v_ F1_ H1_ hm l_ rv_
                replace hm := hR154 _ (Option.some.inj hm).symm
                replace hm := hR111 _ (Option.some.inj hm).symm
                obtain rfl := Option.some.inj hm
                rw [hD153, hD110]
                exact hQ _ _ _ (L163.trans l_) rv_
              · intro F166 H167 _ hm l168
                have L169 := L157.trans l168
                have sb170 := Same.trans sb158 l168.f
                have sb171 := Same.trans sb159 l168.f
                replace h_ties_8 := up h_ties_8 l168
                replace h_found_64 := up h_found_64 l168
                replace h_near_120 := up h_near_120 l168
                exact hN144 _ (Option.some.inj hm).symm _ _ _ ⟨_, rfl, sb171, L169, trivial⟩
            · rintro s172 σ_ F173 H174 hm ⟨e175, rfl, sf176, L177, -⟩
              have sb178 := Same.trans sb135 sf176
              replace h_ties_8 := Rep.mono sf176 h_ties_8
              replace h_found_64 := Rep.mono sf176 h_found_64
              replace h_near_120 := Rep.mono sf176 h_near_120
              exact hN99 _ (Option.some.inj hm).symm _ _ _ ⟨_, _, _, rfl, sb178, L177, trivial⟩
          · rintro s179 σ_ F180 H181 hm ⟨e182, e183, e184, rfl, sf185, L186, -⟩
            refine nx_with ?_
            exact rd_ret0 L186.fh ev_bl hm fun v F1 H1 l rv => hQ v F1 H1 (L186.trans l) rv
end
theorem all_mk {l : PySem.W.OpenLaw} {w : World} {K : PySem.W.Frag} {h : Heap} {mg : Str → Option Value} {fa f0 f1 f2 f3 f4 f5 f6 f7 f8 f9 f10 f11 f12 f13 f14 f15 f16 f17 f18 A_NoWeb : Addr} (X : K.In h) (G : h.Ns mainGlobals mg) (hfa : mg "law" = some (.ref fa))
    {od0 an0 od1 an1 od2 an2 od3 an3 od4 an4 od5 an5 od6 an6 od7 an7 od8 an8 od9 an9 od10 an10 od11 an11 od12 an12 od13 an13 od14 an14 od15 an15 od16 an16 od17 an17 od18 an18 : Option Addr} {sl0 sl1 sl2 sl3 sl4 sl5 sl6 sl7 sl8 sl9 sl10 sl11 sl12 sl13 sl14 sl15 sl16 sl17 sl18 : Array (Option Value)} {oc0 kV0 dc0 pm0 cd0 ct0 oc1 kV1 dc1 pm1 cd1 ct1 oc2 kV2 dc2 pm2 cd2 ct2 oc3 kV3 dc3 pm3 cd3 ct3 oc4 kV4 dc4 pm4 cd4 ct4 oc5 kV5 dc5 pm5 cd5 ct5 oc6 kV6 dc6 pm6 cd6 ct6 oc7 kV7 dc7 pm7 cd7 ct7 oc8 kV8 dc8 pm8 cd8 ct8 oc9 kV9 dc9 pm9 cd9 ct9 oc10 kV10 dc10 pm10 cd10 ct10 oc11 kV11 dc11 pm11 cd11 ct11 oc12 kV12 dc12 pm12 cd12 ct12 oc13 kV13 dc13 pm13 cd13 ct13 oc14 kV14 dc14 pm14 cd14 ct14 oc15 kV15 dc15 pm15 cd15 ct15 oc16 kV16 dc16 pm16 cd16 ct16 oc17 kV17 dc17 pm17 cd17 ct17 oc18 kV18 dc18 pm18 cd18 ct18 : Value}
    (a0 : PySem.W.nsIn K mainGlobals "is_web" = some (some (.ref f0))) (l0 : K.lookup f0 = some ⟨oc0, od0, .func (PySem.W.fnOf "is_web" "is_web" (defArgs s_is_web) (defBody s_is_web) (defScope s_is_web) .none kV0 dc0 pm0 an0 cd0 ct0), sl0⟩) (c0 : PySem.W.codeIn K cd0 "is_web" = true) (k0 : PySem.W.keepIn K (.ref f0) = true)
    (a1 : PySem.W.nsIn K mainGlobals "asked_web" = some (some (.ref f1))) (l1 : K.lookup f1 = some ⟨oc1, od1, .func (PySem.W.fnOf "asked_web" "asked_web" (defArgs s_asked_web) (defBody s_asked_web) (defScope s_asked_web) .none kV1 dc1 pm1 an1 cd1 ct1), sl1⟩) (c1 : PySem.W.codeIn K cd1 "asked_web" = true) (k1 : PySem.W.keepIn K (.ref f1) = true)
    (a2 : PySem.W.nsIn K mainGlobals "without" = some (some (.ref f2))) (l2 : K.lookup f2 = some ⟨oc2, od2, .func (PySem.W.fnOf "without" "without" (defArgs s_without) (defBody s_without) (defScope s_without) .none kV2 dc2 pm2 an2 cd2 ct2), sl2⟩) (c2 : PySem.W.codeIn K cd2 "without" = true) (k2 : PySem.W.keepIn K (.ref f2) = true)
    (a3 : PySem.W.nsIn K mainGlobals "named" = some (some (.ref f3))) (l3 : K.lookup f3 = some ⟨oc3, od3, .func (PySem.W.fnOf "named" "named" (defArgs s_named) (defBody s_named) (defScope s_named) .none kV3 dc3 pm3 an3 cd3 ct3), sl3⟩) (c3 : PySem.W.codeIn K cd3 "named" = true) (k3 : PySem.W.keepIn K (.ref f3) = true)
    (a4 : PySem.W.nsIn K mainGlobals "put_together" = some (some (.ref f4))) (l4 : K.lookup f4 = some ⟨oc4, od4, .func (PySem.W.fnOf "put_together" "put_together" (defArgs s_put_together) (defBody s_put_together) (defScope s_put_together) .none kV4 dc4 pm4 an4 cd4 ct4), sl4⟩) (c4 : PySem.W.codeIn K cd4 "put_together" = true) (k4 : PySem.W.keepIn K (.ref f4) = true)
    (a5 : PySem.W.nsIn K mainGlobals "row_by" = some (some (.ref f5))) (l5 : K.lookup f5 = some ⟨oc5, od5, .func (PySem.W.fnOf "row_by" "row_by" (defArgs s_row_by) (defBody s_row_by) (defScope s_row_by) .none kV5 dc5 pm5 an5 cd5 ct5), sl5⟩) (c5 : PySem.W.codeIn K cd5 "row_by" = true) (k5 : PySem.W.keepIn K (.ref f5) = true)
    (a6 : PySem.W.nsIn K mainGlobals "row" = some (some (.ref f6))) (l6 : K.lookup f6 = some ⟨oc6, od6, .func (PySem.W.fnOf "row" "row" (defArgs s_row) (defBody s_row) (defScope s_row) .none kV6 dc6 pm6 an6 cd6 ct6), sl6⟩) (c6 : PySem.W.codeIn K cd6 "row" = true) (k6 : PySem.W.keepIn K (.ref f6) = true)
    (a7 : PySem.W.nsIn K mainGlobals "worth" = some (some (.ref f7))) (l7 : K.lookup f7 = some ⟨oc7, od7, .func (PySem.W.fnOf "worth" "worth" (defArgs s_worth) (defBody s_worth) (defScope s_worth) .none kV7 dc7 pm7 an7 cd7 ct7), sl7⟩) (c7 : PySem.W.codeIn K cd7 "worth" = true) (k7 : PySem.W.keepIn K (.ref f7) = true)
    (a8 : PySem.W.nsIn K mainGlobals "fewest" = some (some (.ref f8))) (l8 : K.lookup f8 = some ⟨oc8, od8, .func (PySem.W.fnOf "fewest" "fewest" (defArgs s_fewest) (defBody s_fewest) (defScope s_fewest) .none kV8 dc8 pm8 an8 cd8 ct8), sl8⟩) (c8 : PySem.W.codeIn K cd8 "fewest" = true) (k8 : PySem.W.keepIn K (.ref f8) = true)
    (a9 : PySem.W.nsIn K mainGlobals "extended" = some (some (.ref f9))) (l9 : K.lookup f9 = some ⟨oc9, od9, .func (PySem.W.fnOf "extended" "extended" (defArgs s_extended) (defBody s_extended) (defScope s_extended) .none kV9 dc9 pm9 an9 cd9 ct9), sl9⟩) (c9 : PySem.W.codeIn K cd9 "extended" = true) (k9 : PySem.W.keepIn K (.ref f9) = true)
    (a10 : PySem.W.nsIn K mainGlobals "least" = some (some (.ref f10))) (l10 : K.lookup f10 = some ⟨oc10, od10, .func (PySem.W.fnOf "least" "least" (defArgs s_least) (defBody s_least) (defScope s_least) .none kV10 dc10 pm10 an10 cd10 ct10), sl10⟩) (c10 : PySem.W.codeIn K cd10 "least" = true) (k10 : PySem.W.keepIn K (.ref f10) = true)
    (a11 : PySem.W.nsIn K mainGlobals "_law_cell_at" = some (some (.ref f11))) (l11 : K.lookup f11 = some ⟨oc11, od11, .func (PySem.W.fnOf "_law_cell_at" "_law_cell_at" (defArgs s_cell_at) (defBody s_cell_at) (defScope s_cell_at) .none kV11 dc11 pm11 an11 cd11 ct11), sl11⟩) (c11 : PySem.W.codeIn K cd11 "_law_cell_at" = true) (k11 : PySem.W.keepIn K (.ref f11) = true)
    (a12 : PySem.W.nsIn K mainGlobals "_law_next" = some (some (.ref f12))) (l12 : K.lookup f12 = some ⟨oc12, od12, .func (PySem.W.fnOf "_law_next" "_law_next" (defArgs s_next) (defBody s_next) (defScope s_next) .none kV12 dc12 pm12 an12 cd12 ct12), sl12⟩) (c12 : PySem.W.codeIn K cd12 "_law_next" = true) (k12 : PySem.W.keepIn K (.ref f12) = true)
    (a13 : PySem.W.nsIn K mainGlobals "_law_web_by" = some (some (.ref f13))) (l13 : K.lookup f13 = some ⟨oc13, od13, .func (PySem.W.fnOf "_law_web_by" "_law_web_by" (defArgs s_web_by) (defBody s_web_by) (defScope s_web_by) .none kV13 dc13 pm13 an13 cd13 ct13), sl13⟩) (c13 : PySem.W.codeIn K cd13 "_law_web_by" = true) (k13 : PySem.W.keepIn K (.ref f13) = true)
    (a14 : PySem.W.nsIn K mainGlobals "_law_at" = some (some (.ref f14))) (l14 : K.lookup f14 = some ⟨oc14, od14, .func (PySem.W.fnOf "_law_at" "_law_at" (defArgs s_at_) (defBody s_at_) (defScope s_at_) .none kV14 dc14 pm14 an14 cd14 ct14), sl14⟩) (c14 : PySem.W.codeIn K cd14 "_law_at" = true) (k14 : PySem.W.keepIn K (.ref f14) = true)
    (a15 : PySem.W.nsIn K mainGlobals "_law_whole" = some (some (.ref f15))) (l15 : K.lookup f15 = some ⟨oc15, od15, .func (PySem.W.fnOf "_law_whole" "_law_whole" (defArgs s_whole) (defBody s_whole) (defScope s_whole) .none kV15 dc15 pm15 an15 cd15 ct15), sl15⟩) (c15 : PySem.W.codeIn K cd15 "_law_whole" = true) (k15 : PySem.W.keepIn K (.ref f15) = true)
    (a16 : PySem.W.nsIn K mainGlobals "_law_goes_on" = some (some (.ref f16))) (l16 : K.lookup f16 = some ⟨oc16, od16, .func (PySem.W.fnOf "_law_goes_on" "_law_goes_on" (defArgs s_goes_on) (defBody s_goes_on) (defScope s_goes_on) .none kV16 dc16 pm16 an16 cd16 ct16), sl16⟩) (c16 : PySem.W.codeIn K cd16 "_law_goes_on" = true) (k16 : PySem.W.keepIn K (.ref f16) = true)
    (a17 : PySem.W.nsIn K mainGlobals "_law_is" = some (some (.ref f17))) (l17 : K.lookup f17 = some ⟨oc17, od17, .func (PySem.W.fnOf "_law_is" "_law_is" (defArgs s_is_) (defBody s_is_) (defScope s_is_) .none kV17 dc17 pm17 an17 cd17 ct17), sl17⟩) (c17 : PySem.W.codeIn K cd17 "_law_is" = true) (k17 : PySem.W.keepIn K (.ref f17) = true)
    (a18 : PySem.W.nsIn K mainGlobals "law" = some (some (.ref f18))) (l18 : K.lookup f18 = some ⟨oc18, od18, .func (PySem.W.fnOf "law" "law" (defArgs s_law) (defBody s_law) (defScope s_law) .none kV18 dc18 pm18 an18 cd18 ct18), sl18⟩) (c18 : PySem.W.codeIn K cd18 "law" = true) (k18 : PySem.W.keepIn K (.ref f18) = true)
    (b_bool : PySem.W.nsIn K mainGlobals "bool" = some none)
    (b_int : PySem.W.nsIn K mainGlobals "int" = some none)
    (b_isinstance : PySem.W.nsIn K mainGlobals "isinstance" = some none)
    (b_len : PySem.W.nsIn K mainGlobals "len" = some none)
    (b_list : PySem.W.nsIn K mainGlobals "list" = some none)
    (b_max : PySem.W.nsIn K mainGlobals "max" = some none)
    (b_min : PySem.W.nsIn K mainGlobals "min" = some none)
    (b_range : PySem.W.nsIn K mainGlobals "range" = some none)
    (b_reversed : PySem.W.nsIn K mainGlobals "reversed" = some none)
    (b_sorted : PySem.W.nsIn K mainGlobals "sorted" = some none)
    {t_MOST_POINTS : Tok} (g_MOST_POINTS : PySem.W.nsIn K mainGlobals "MOST_POINTS" = some (some (.int 7 t_MOST_POINTS)))
    {t_MOST_TIES : Tok} (g_MOST_TIES : PySem.W.nsIn K mainGlobals "MOST_TIES" = some (some (.int 12 t_MOST_TIES)))
    (ga_NoWeb : PySem.W.nsIn K mainGlobals "NoWeb" = some (some (.ref A_NoWeb)))
    (xa_NoWeb : PySem.W.excIn K A_NoWeb [.type "ValueError", .type "Exception", .type "BaseException", .type "object"] "ValueError.__new__" = true) (xk_NoWeb : PySem.W.keepIn K (.ref A_NoWeb) = true) (xb_NoWeb : PySem.W.subIn K (.ref A_NoWeb) (.type "BaseException") = some true) (xt_NoWeb : PySem.W.typeIn K (.ref A_NoWeb) = some (.type "type")) :
    ∃ fd : FuncData, (∀ (s : Shared) (v : Value), BindsTo s fd ⟨[v], []⟩ [("script", v)]) ∧ ∀ base : Heap, K.In base → base.Ns mainGlobals mg → FnOk l.prog w K mg base CX0 26 fa fd ["script"] (spO (β := Bool) fun (x : (Scr K) × Unit) => law x.1.l) := by
  have e := hfa.symm.trans (PySem.W.mg_of X G a18)
  cases e
  let ad : Er → Addr := fun e => match e with | .noWeb => A_NoWeb | _ => A_NoWeb
  have T : Txt K mg ad 0 := { b_bool := PySem.W.mg_none_of X G b_bool, b_int := PySem.W.mg_none_of X G b_int, b_isinstance := PySem.W.mg_none_of X G b_isinstance, b_len := PySem.W.mg_none_of X G b_len, b_list := PySem.W.mg_none_of X G b_list, b_max := PySem.W.mg_none_of X G b_max, b_min := PySem.W.mg_none_of X G b_min, b_range := PySem.W.mg_none_of X G b_range, b_reversed := PySem.W.mg_none_of X G b_reversed, b_sorted := PySem.W.mg_none_of X G b_sorted, g_MOST_POINTS := ⟨_, PySem.W.mg_of X G g_MOST_POINTS⟩, g_MOST_TIES := ⟨_, PySem.W.mg_of X G g_MOST_TIES⟩, nil := trivial, x_NoWeb := ⟨PySem.W.mg_of X G ga_NoWeb, xa_NoWeb, xk_NoWeb, xb_NoWeb, xt_NoWeb⟩ }
  refine ⟨PySem.W.fnOf "law" "law" (defArgs s_law) (defBody s_law) (defScope s_law) .none kV18 dc18 pm18 an18 cd18 ct18, fun s v => .of_eq rfl, fun base _ _ => ?_⟩
  have R_is_web : Fn l.prog w K mg base CX0 1 "is_web" ["points", "ties"] (spO (β := Bool) fun (x : Int × (List (Int × Int)) × Unit) => is_web x.1 x.2.1) := ok_is_web (fun_mk (st := s_is_web) l0 c0 k0) (PySem.W.mg_of X G a0) T 
  have R_asked_web : Fn l.prog w K mg base (L2.CX l.prog w) 2 "asked_web" ["points", "ties"] (spX (clO ad) (β := Unit) fun (x : Int × (List (Int × Int)) × Unit) => asked_web x.1 x.2.1) := ok_asked_web (fun_mk (st := s_asked_web) l1 c1 k1) (PySem.W.mg_of X G a1) T R_is_web
  have R_without : Fn l.prog w K mg base CX0 1 "without" ["ties", "tie"] (spN (β := (Int × Int)) fun (x : (List (Int × Int)) × (Int × Int) × Unit) => without x.1 x.2.1) := ok_without (fun_mk (st := s_without) l2 c2 k2) (PySem.W.mg_of X G a2) T 
  have R_named : Fn l.prog w K mg base CX0 1 "named" ["point", "tie"] (spO (β := Int) fun (x : Int × (Int × Int) × Unit) => named x.1 x.2.1) := ok_named (fun_mk (st := s_named) l3 c3 k3) (PySem.W.mg_of X G a3) T 
  have R_put_together : Fn l.prog w K mg base CX0 2 "put_together" ["ties", "tie"] (spN (β := (Int × Int)) fun (x : (List (Int × Int)) × (Int × Int) × Unit) => put_together x.1 x.2.1) := ok_put_together (fun_mk (st := s_put_together) l4 c4 k4) (PySem.W.mg_of X G a4) T R_without R_named
  have R_row_by : Fn l.prog w K mg base CX0 23 "row_by" ["points", "ties"] (spN (β := Int) fun (x : Int × (List (Int × Int)) × Unit) => row_by x.1 x.2.1) := ok_row_by (fun_mk (st := s_row_by) l5 c5 k5) (PySem.W.mg_of X G a5) T R_put_together 20
  have R_row : Fn l.prog w K mg base (L2.CX l.prog w) 24 "row" ["points", "ties"] (spXN (clO ad) (β := Int) fun (x : Int × (List (Int × Int)) × Unit) => row x.1 x.2.1) := ok_row (fun_mk (st := s_row) l6 c6 k6) (PySem.W.mg_of X G a6) T R_asked_web R_row_by
  have R_worth : Fn l.prog w K mg base CX0 1 "worth" ["numbers", "q"] (spO (β := Int) fun (x : (List Int) × Int × Unit) => worth x.1 x.2.1) := ok_worth (fun_mk (st := s_worth) l7 c7 k7) (PySem.W.mg_of X G a7) T 
  have R_fewest : Fn l.prog w K mg base (L2.CX l.prog w) 25 "fewest" ["points", "ties"] (spX (clO ad) (β := Int) fun (x : Int × (List (Int × Int)) × Unit) => fewest x.1 x.2.1) := ok_fewest (fun_mk (st := s_fewest) l8 c8 k8) (PySem.W.mg_of X G a8) T R_row R_worth
  have R_extended : Fn l.prog w K mg base CX0 11 "extended" ["points", "ties", "many", "dyes"] (spO (β := (Option (List Int))) fun (x : Int × (List (Int × Int)) × Int × (List Int) × Unit) => extended x.1 x.2.1 x.2.2.1 x.2.2.2.1) := ok_extended (fun_mk (st := s_extended) l9 c9 k9) (PySem.W.mg_of X G a9) T 10
  have R_least : Fn l.prog w K mg base (L2.CX l.prog w) 12 "least" ["points", "ties", "many"] (spX (clO ad) (β := (Option (List Int))) fun (x : Int × (List (Int × Int)) × Int × Unit) => least x.1 x.2.1 x.2.2.1) := ok_least (fun_mk (st := s_least) l10 c10 k10) (PySem.W.mg_of X G a10) T R_asked_web R_extended
  have R_cell_at : Fn l.prog w K mg base CX0 1 "_law_cell_at" ["script", "k"] (spO (β := Int) fun (x : (Scr K) × Int × Unit) => cell_at x.1.l x.2.1) := ok_cell_at (fun_mk (st := s_cell_at) l11 c11 k11) (PySem.W.mg_of X G a11) T 
  have R_next : Fn l.prog w K mg base CX0 1 "_law_next" ["seed"] (spO (β := Int) fun (x : Int × Unit) => next x.1) := ok_next (fun_mk (st := s_next) l12 c12 k12) (PySem.W.mg_of X G a12) T 
  have R_web_by : Fn l.prog w K mg base CX0 2 "_law_web_by" ["script", "k", "most", "cap"] (spO (β := (Int × (List (Int × Int)))) fun (x : (Scr K) × Int × Int × Int × Unit) => web_by x.1.l x.2.1 x.2.2.1 x.2.2.2.1) := ok_web_by (fun_mk (st := s_web_by) l13 c13 k13) (PySem.W.mg_of X G a13) T R_cell_at R_next
  have R_at_ : Fn l.prog w K mg base CX0 1 "_law_at" ["numbers", "q"] (spO (β := Int) fun (x : (List Int) × Int × Unit) => at_ x.1 x.2.1) := ok_at_ (fun_mk (st := s_at_) l14 c14 k14) (PySem.W.mg_of X G a14) T 
  have R_whole : Fn l.prog w K mg base CX0 1 "_law_whole" ["found"] (spO (β := Bool) fun (x : Int × Unit) => whole x.1) := ok_whole (fun_mk (st := s_whole) l15 c15 k15) (PySem.W.mg_of X G a15) T 
  have R_goes_on : Fn l.prog w K mg base CX0 11 "_law_goes_on" ["points", "ties", "many", "tints"] (spO (β := Bool) fun (x : Int × (List (Int × Int)) × Int × (List Int) × Unit) => goes_on x.1 x.2.1 x.2.2.1 x.2.2.2.1) := ok_goes_on (fun_mk (st := s_goes_on) l16 c16 k16) (PySem.W.mg_of X G a16) T 10
  have R_is_ : Fn l.prog w K mg base CX0 2 "_law_is" ["points", "ties", "tints", "many"] (spO (β := Bool) fun (x : Int × (List (Int × Int)) × (List Int) × Int × Unit) => is_ x.1 x.2.1 x.2.2.1 x.2.2.2.1) := ok_is_ (fun_mk (st := s_is_) l17 c17 k17) (PySem.W.mg_of X G a17) T R_whole
  exact ok_law (fun_mk (st := s_law) l18 c18 k18) (PySem.W.mg_of X G a18) T R_web_by R_cell_at R_row R_fewest R_at_ R_whole R_least R_is_ R_goes_on
theorem walk {l : PySem.W.OpenLaw} {q : Program} {loose : List Str} {XP : (Str → Option Value) → Heap → Prop} {YP : World → Heap → Prop} {d : DefRec} {K : Params → PySem.W.Frag} (hn : l.most = some 63) (hdf : d.params.defaults = [])
    (hY : ∀ (w : World) (h : Heap), YP w h → (K w.params).In h)
    (F : ∀ (w : World) (mg : Str → Option Value) (fa : Addr) (h : Heap), (K w.params).In h → h.Ns mainGlobals mg → mg d.name = some (.ref fa) →
      ∃ fd : FuncData, (∀ (s : Shared) (u : Value), BindsTo s fd ⟨[u], []⟩ [("script", u)]) ∧ ∀ base : Heap, (K w.params).In base → base.Ns mainGlobals mg → FnOk l.prog w (K w.params) mg base CX0 26 fa fd ["script"] (let K := K w.params; (spO (β := Bool) fun (x : (Scr K) × Unit) => law x.1.l))) :
    PySem.W.WalkO q loose XP YP l.row.toRowW d [] (fun f vs => PySem.call f vs) :=
  L2.walk_of (n := 63) (k := 26) (x := "script") (CX := fun _ => CX0) (sp := fun w => (let K := K w.params; (spO (β := Bool) fun (x : (Scr K) × Unit) => law x.1.l))) hn (by decide) hdf ⟨rfl, by decide, by decide⟩ hY F
    (fun _ H a ns hl _ hS => ⟨H, (⟨ns⟩, ()), true, .refl H, ⟨.ref a, [], rfl, ⟨a, rfl, hS⟩, rfl⟩, law_true ns hl, fun v F' H' l r => r⟩) fun _ _ _ _ _ z => z
end Q
open PySem PySem.W PyProof.Rows in
set_option maxRecDepth 100000 in
set_option maxHeartbeats 0 in
theorem PySem.Challenge.cw_dyeweb_k19_dyes_of_more_points_holds : PySem.Challenge.rw_dyeweb_k19_dyes_of_more_points.Holds := by
  w_on; o_law; k_head; (case hw => w_witness2)
  k_fill
  refine Q.walk (l := PySem.Challenge.rw_dyeweb_k19_dyes_of_more_points) rfl rfl (fun w h Y => PySem.W.kIn_of Y) ?F
  case F =>
    intro w mg fa h KX G hmg
    refine' Q.all_mk KX G hmg ?a0 ?l0 ?c0 ?k0 ?a1 ?l1 ?c1 ?k1 ?a2 ?l2 ?c2 ?k2 ?a3 ?l3 ?c3 ?k3 ?a4 ?l4 ?c4 ?k4 ?a5 ?l5 ?c5 ?k5 ?a6 ?l6 ?c6 ?k6 ?a7 ?l7 ?c7 ?k7 ?a8 ?l8 ?c8 ?k8 ?a9 ?l9 ?c9 ?k9 ?a10 ?l10 ?c10 ?k10 ?a11 ?l11 ?c11 ?k11 ?a12 ?l12 ?c12 ?k12 ?a13 ?l13 ?c13 ?k13 ?a14 ?l14 ?c14 ?k14 ?a15 ?l15 ?c15 ?k15 ?a16 ?l16 ?c16 ?k16 ?a17 ?l17 ?c17 ?k17 ?a18 ?l18 ?c18 ?k18 ?b_bool ?b_int ?b_isinstance ?b_len ?b_list ?b_max ?b_min ?b_range ?b_reversed ?b_sorted ?g_MOST_POINTS ?g_MOST_TIES ?ga_NoWeb ?xa_NoWeb ?xk_NoWeb ?xb_NoWeb ?xt_NoWeb
    (case a0 => k_is)
    (case l0 => k_is)
    (case c0 => k_is)
    (case k0 => k_is)
    (case a1 => k_is)
    (case l1 => k_is)
    (case c1 => k_is)
    (case k1 => k_is)
    (case a2 => k_is)
    (case l2 => k_is)
    (case c2 => k_is)
    (case k2 => k_is)
    (case a3 => k_is)
    (case l3 => k_is)
    (case c3 => k_is)
    (case k3 => k_is)
    (case a4 => k_is)
    (case l4 => k_is)
    (case c4 => k_is)
    (case k4 => k_is)
    (case a5 => k_is)
    (case l5 => k_is)
    (case c5 => k_is)
    (case k5 => k_is)
    (case a6 => k_is)
    (case l6 => k_is)
    (case c6 => k_is)
    (case k6 => k_is)
    (case a7 => k_is)
    (case l7 => k_is)
    (case c7 => k_is)
    (case k7 => k_is)
    (case a8 => k_is)
    (case l8 => k_is)
    (case c8 => k_is)
    (case k8 => k_is)
    (case a9 => k_is)
    (case l9 => k_is)
    (case c9 => k_is)
    (case k9 => k_is)
    (case a10 => k_is)
    (case l10 => k_is)
    (case c10 => k_is)
    (case k10 => k_is)
    (case a11 => k_is)
    (case l11 => k_is)
    (case c11 => k_is)
    (case k11 => k_is)
    (case a12 => k_is)
    (case l12 => k_is)
    (case c12 => k_is)
    (case k12 => k_is)
    (case a13 => k_is)
    (case l13 => k_is)
    (case c13 => k_is)
    (case k13 => k_is)
    (case a14 => k_is)
    (case l14 => k_is)
    (case c14 => k_is)
    (case k14 => k_is)
    (case a15 => k_is)
    (case l15 => k_is)
    (case c15 => k_is)
    (case k15 => k_is)
    (case a16 => k_is)
    (case l16 => k_is)
    (case c16 => k_is)
    (case k16 => k_is)
    (case a17 => k_is)
    (case l17 => k_is)
    (case c17 => k_is)
    (case k17 => k_is)
    (case a18 => k_is)
    (case l18 => k_is)
    (case c18 => k_is)
    (case k18 => k_is)
    (case b_bool => k_is)
    (case b_int => k_is)
    (case b_isinstance => k_is)
    (case b_len => k_is)
    (case b_list => k_is)
    (case b_max => k_is)
    (case b_min => k_is)
    (case b_range => k_is)
    (case b_reversed => k_is)
    (case b_sorted => k_is)
    (case g_MOST_POINTS => k_is)
    (case g_MOST_TIES => k_is)
    (case ga_NoWeb => k_is)
    (case xa_NoWeb => k_exc)
    (case xk_NoWeb => k_is)
    (case xb_NoWeb => k_is)
    (case xt_NoWeb => k_is)
#print axioms PySem.Challenge.cw_dyeweb_k19_dyes_of_more_points_holds
