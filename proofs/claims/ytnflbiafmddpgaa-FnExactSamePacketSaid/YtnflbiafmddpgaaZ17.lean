/- The path calculus, part 17: words for the proofs over printed functions. -/
import Derived.Test.YtnflbiafmddpgaaZ16
namespace Go.Proofs.Ytnflbiafmddpgaa.Z
open Go.RowKit
set_option linter.unusedVariables false
theorem gd_ {α : Type} {c : Prop} [Decidable c] {x : Option α} {r : α} (h : (if c then x else none) = some r) : c ∧ x = some r := by
  by_cases hc : c
  · rw [if_pos hc] at h; exact ⟨hc, h⟩
  · rw [if_neg hc] at h; cases h
theorem bo_ {α β : Type} {o : Option α} {f : α → Option β} {r : β} (h : o.bind f = some r) : ∃ a, o = some a ∧ f a = some r := Option.bind_eq_some_iff.1 h
theorem bs_ {α β : Type} {x : α} {f : α → Option β} {r : β} (h : (some x).bind f = some r) : f x = some r := h
theorem nt_ {b : Bool} (h : b = false) : ¬ b = true := by rw [h]; simp
theorem si_ {α : Type} {a b : α} (h : some a = some b) : b = a := (Option.some.inj h).symm
theorem nil_args {T : Tys} {w : World} {S : Nat → Prop} {m : List (Arg T.Tb)} {e : Nat} : ∀ {l : List (Arg T.Tb)} {vs : List Value}, ArgsRel w S (l ++ .c (.sc (.slice none 0 0)) :: m) vs → ArgsRel w S (l ++ .c (.sl e []) :: m) vs
  | [], _, ⟨v, r, e1, h1, h2⟩ => ⟨v, r, e1, by obtain ⟨rfl, _⟩ := h1; exact .nil e none 0, h2⟩
  | x :: l, _, ⟨v, r, e1, h1, h2⟩ => ⟨v, r, e1, h1, nil_args (l := l) h2⟩
section
variable {α : Type} {p : Prop} [Decidable p] {x y : Option α} {r : α}
/-! The way that a told bool takes in 'if p then x else y'. -/
theorem p0 (h : (if p then x else y) = some r) (c : p) : x = some r := by rwa [if_pos c] at h
theorem p1 (h : (if p then x else y) = some r) (c : decide p = true) : x = some r := p0 h (of_decide_eq_true c)
theorem n1 (h : (if p then x else y) = some r) (c : decide p = false) : y = some r := by rwa [if_neg (of_decide_eq_false c)] at h
theorem n9 (h : (if p then x else y) = some r) (c : ¬ p) : y = some r := by rwa [if_neg c] at h
end
section
variable {α β : Type} {x y : Option α} {r : α} {b : Bool}
theorem n0 (h : (if b = true then x else y) = some r) (c : b = false) : y = some r := by subst c; exact h
theorem p3 (h : (if b = true then x else y) = some r) (c : (!b) = false) : x = some r := by cases b <;> first | exact h | cases c
theorem n3 (h : (if b = true then x else y) = some r) (c : (!b) = true) : y = some r := by cases b <;> first | exact h | cases c
variable [DecidableEq β] {u v : β}
theorem p2 (h : (if u = v then x else y) = some r) (c : (u == v) = true) : x = some r := p0 h (by simpa using c)
theorem n2 (h : (if u = v then x else y) = some r) (c : (u == v) = false) : y = some r := n9 h (by simpa using c)
theorem p4 (h : (if u = v then x else y) = some r) (c : (u != v) = false) : x = some r := p0 h (by simpa using c)
theorem n4 (h : (if u = v then x else y) = some r) (c : (u != v) = true) : y = some r := n9 h (by simpa using c)
theorem p5 (h : (if u = v then x else y) = some r) (c : (!(u == v)) = false) : x = some r := p0 h (by simpa using c)
theorem n5 (h : (if u = v then x else y) = some r) (c : (!(u == v)) = true) : y = some r := n9 h (by simpa using c)
end
/-- A row of none in place of a nil slice. -/
theorem nilArg {T : Tys} {P : Program} {f : FuncId} {l m : List (Arg T.Tb)} {e : Nat} {res : RS T.Tb} (h : CallOb T P f (l ++ .c (.sl e []) :: m) res) : CallOb T P f (l ++ .c (.sc (.slice none 0 0)) :: m) res :=
  ⟨h.1, fun w vs S hargs => h.2 w vs S (nil_args hargs)⟩
end Go.Proofs.Ytnflbiafmddpgaa.Z
