/- A calculus for functions with a number of rounds: from some round on one answer, and what is known of it. -/
import Derived.Test.YtakpkmkjhndpjaaDoorQx0
namespace Go.Proofs.YtakpkmkjhndpjaaDoor.Pure
open Go.RowKit
/-- from some number of rounds on the answer is r -/
def Ev {α : Type} (F : Nat → Option α) (r : α) : Prop := ∃ k, ∀ j, k ≤ j → F j = some r
theorem Ev.pure {α : Type} (r : α) : Ev (fun _ => some r) r := ⟨0, fun _ _ => rfl⟩
theorem Ev.bind {α β : Type} {F : Nat → Option α} {G : Nat → α → Option β} {a : α} {r : β} (h : Ev F a) (g : Ev (fun k => G k a) r) : Ev (fun k => (F k).bind (G k)) r := by
  obtain ⟨k1, h1⟩ := h
  obtain ⟨k2, h2⟩ := g
  exact ⟨max k1 k2, fun j hj => by simp [h1 j (by omega), h2 j (by omega)]⟩
theorem Ev.succ {α : Type} {F G : Nat → Option α} {r : α} (h : Ev G r) (e : ∀ k, F (k + 1) = G k) : Ev F r := by
  obtain ⟨k, h1⟩ := h
  refine ⟨k + 1, fun j hj => ?_⟩
  cases j with
  | zero => omega
  | succ j => rw [e]; exact h1 j (by omega)
theorem Ev.congr {α : Type} {F G : Nat → Option α} {r : α} (h : Ev G r) (e : ∀ k, F k = G k) : Ev F r := by
  obtain ⟨k, h1⟩ := h
  exact ⟨k, fun j hj => by rw [e]; exact h1 j hj⟩

theorem wrap_id {x : Int} (h1 : -9223372036854775808 ≤ x) (h2 : x < 9223372036854775808) : wrap64 x = x := by
  unfold wrap64; omega
/-- from some number of rounds on there is one answer, and it is as P says -/
def W {α : Type} (F : Nat → Option α) (P : α → Prop) : Prop := ∃ r, Ev F r ∧ P r
theorem W.of {α : Type} {F : Nat → Option α} {P : α → Prop} {r : α} (h : Ev F r) (p : P r) : W F P := ⟨r, h, p⟩
theorem W.pure {α : Type} {P : α → Prop} {r : α} (p : P r) : W (fun _ => some r) P := ⟨r, Ev.pure r, p⟩
theorem W.mono {α : Type} {F : Nat → Option α} {P Q : α → Prop} (h : W F P) (q : ∀ a, P a → Q a) : W F Q := by
  obtain ⟨r, e, p⟩ := h
  exact ⟨r, e, q r p⟩
theorem W.bind {α β : Type} {F : Nat → Option α} {G : Nat → α → Option β} {P : α → Prop} {Q : β → Prop} (h : W F P) (g : ∀ a, P a → W (fun k => G k a) Q) : W (fun k => (F k).bind (G k)) Q := by
  obtain ⟨r, e, p⟩ := h
  obtain ⟨r2, e2, p2⟩ := g r p
  exact ⟨r2, Ev.bind e e2, p2⟩
theorem W.step {α : Type} {F G : Nat → Option α} {P : α → Prop} (e : ∀ k, F (k + 1) = G k) (h : W G P) : W F P := by
  obtain ⟨r, e2, p⟩ := h
  exact ⟨r, Ev.succ e2 e, p⟩
theorem W.cong {α : Type} {F G : Nat → Option α} {P : α → Prop} (e : ∀ k, F k = G k) (h : W G P) : W F P := by
  obtain ⟨r, e2, p⟩ := h
  exact ⟨r, Ev.congr e2 e, p⟩
theorem W.ite {α : Type} {c : Prop} [Decidable c] {F G : Nat → Option α} {P : α → Prop} (h1 : c → W F P) (h2 : ¬ c → W G P) : W (fun k => if c then F k else G k) P := by
  by_cases h : c
  · exact W.cong (fun k => if_pos h) (h1 h)
  · exact W.cong (fun k => if_neg h) (h2 h)
set_option linter.unusedVariables false in
theorem W.yes {α : Type} {c : Prop} [Decidable c] {F G : Nat → Option α} {P : α → Prop} (h : c) (h1 : W F P) : W (fun k => if c then F k else G k) P := W.cong (fun k => if_pos h) h1
set_option linter.unusedVariables false in
theorem W.no {α : Type} {c : Prop} [Decidable c] {F G : Nat → Option α} {P : α → Prop} (h : ¬ c) (h1 : W G P) : W (fun k => if c then F k else G k) P := W.cong (fun k => if_neg h) h1
theorem W.bindc {α β : Type} {X : Option α} {G : Nat → α → Option β} {a : α} {Q : β → Prop} (h : X = some a) (g : W (fun k => G k a) Q) : W (fun k => X.bind (G k)) Q := by
  subst h
  exact g
theorem W.ev {α : Type} {F : Nat → Option α} {r : α} (h : W F (· = r)) : Ev F r := by
  obtain ⟨r', e, p⟩ := h
  subst p
  exact e

theorem W.bindE {α β : Type} {F : Nat → Option α} {G : Nat → α → Option β} {a : α} {Q : β → Prop} (h : Ev F a) (g : W (fun k => G k a) Q) : W (fun k => (F k).bind (G k)) Q := by
  obtain ⟨r2, e2, p2⟩ := g
  exact ⟨r2, Ev.bind h e2, p2⟩
theorem W.total {α : Type} {F : Nat → Option α} {P : α → Prop} (h : W F P) : ∃ r, P r ∧ ∃ k, ∀ j, k ≤ j → F j = some r := by
  obtain ⟨r, e, p⟩ := h
  exact ⟨r, p, e⟩
end Go.Proofs.YtakpkmkjhndpjaaDoor.Pure
