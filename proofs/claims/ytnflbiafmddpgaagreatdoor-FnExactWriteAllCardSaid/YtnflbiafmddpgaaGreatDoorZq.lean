/- Several texts of this claim in one (a claim holds at most 60 files). -/
import Derived.Test.YtnflbiafmddpgaaGreatDoorZp
import Derived.Test.YtnflbiafmddpgaaGreatDoorT3
import Derived.Test.YtnflbiafmddpgaaGreatDoorZc
section
/- Texts, topics and filters: the printed contracts in the form of the path calculus. -/
namespace Go.Proofs.YtnflbiafmddpgaaGreatDoor.Q
open Go.RowKit Go.Proofs.YtnflbiafmddpgaaGreatDoor.Z
set_option linter.unusedVariables false
theorem ob_text {f : FuncId} {fn : Func} {c : Code} (hf : Tryz.prog.funcs[f]? = some fn) (hname : (fn.name == "runtime.NumGoroutine") = false) (hb : fn.body = some c) {s : ByteArray} {b : Bool}
    (h : ∀ w, Go.Proofs.YtnflbiafmddpgaaGreatDoor.X.Tabs w → Calls Tryz.prog f #[.string s] w fun e w' => e = .returned (.bool b) ∧ Below w.heap.size w w') : CallOb T Tryz.prog f [.c (.sc (.string s))] (.c (.sc (.bool b))) := by
  refine ⟨⟨fn, hf, hname, by rw [hb]; rfl⟩, fun w vs S hj ha => ?_⟩
  obtain ⟨v, r, rfl, ⟨rfl, _⟩, rfl⟩ := ha
  refine (h w hj).mono ?_
  rintro e w' ⟨rfl, hb⟩
  exact ⟨.bool b, fun _ _ => False, rfl, hb, fun _ _ h => h.elim, fun _ _ _ h => h.elim, [.bool b], rfl, [], rfl, rfl, rfl⟩
theorem implTextOk (s : ByteArray) (hs : s.size ≤ 140737488351232) : CallOb T Tryz.prog 73 [.c (.sc (.string s))] (.c (.sc (.bool (X.textOkP s)))) :=
  ob_text Tryz.func73 (by kernel_rfl) rfl (fun w hT => X.impl_TextOk.calls s _ w hT (Pure.implTextOk_eq s hs))
theorem specTextOk (s : ByteArray) : CallOb T Tryz.prog 49 [.c (.sc (.string s))] (.c (.sc (.bool (X.textOkP s)))) := by
  obtain ⟨k, h⟩ := (Pure.specTextOk_ev s)
  exact ob_text Tryz.func49 (by kernel_rfl) rfl (fun w hT => P.spec_TextOk.calls _ s _ w (h k (Nat.le_refl _)))
theorem implTopicOk (s : ByteArray) (hs : s.size ≤ 1073741824) : CallOb T Tryz.prog 57 [.c (.sc (.string s))] (.c (.sc (.bool (Pure.topicL s)))) :=
  ob_text Tryz.func57 (by kernel_rfl) rfl (fun w hT => P.impl_TopicOk.calls s _ w hT (Pure.implTopicOk_eq s hs))
theorem specTopicOk (s : ByteArray) (hs : s.size ≤ 1073741824) : CallOb T Tryz.prog 48 [.c (.sc (.string s))] (.c (.sc (.bool (Pure.topicL s)))) := by
  obtain ⟨k, h⟩ := (Pure.specTopicOk_ev s hs)
  exact ob_text Tryz.func48 (by kernel_rfl) rfl (fun w hT => P.spec_TopicOk.calls _ s _ w (h k (Nat.le_refl _)))
theorem implFilterOk (s : ByteArray) (hs : s.size ≤ 1073741824) : CallOb T Tryz.prog 77 [.c (.sc (.string s))] (.c (.sc (.bool (Pure.filterL s)))) := by
  obtain ⟨k, h⟩ := (Pure.implFilterOk_ev s hs)
  exact ob_text Tryz.func77 (by kernel_rfl) rfl (fun w hT => P.impl_FilterOk.calls _ s _ w hT (h k (Nat.le_refl _)))
theorem specFilterOk (s : ByteArray) (hs : s.size ≤ 1073741824) : CallOb T Tryz.prog 50 [.c (.sc (.string s))] (.c (.sc (.bool (Pure.filterL s)))) := by
  obtain ⟨k, h⟩ := (Pure.specFilterOk_ev s hs)
  exact ob_text Tryz.func50 (by kernel_rfl) rfl (fun w hT => P.spec_FilterOk.calls _ s _ w (h k (Nat.le_refl _)))
end Go.Proofs.YtnflbiafmddpgaaGreatDoor.Q
end
section
/- Texts, topics, filters, numbers within bounds: what the functions of both sides answer, in the form of the path calculus. -/
namespace Go.Proofs.YtnflbiafmddpgaaGreatDoor.Q
open Go.RowKit Go.Proofs.YtnflbiafmddpgaaGreatDoor.Z
set_option linter.unusedVariables false
set_option linter.unusedSimpArgs false
set_option maxRecDepth 100000
set_option maxHeartbeats 4000000
def inR (n lo hi : Int) : Bool := decide (n ≥ lo) && decide (n ≤ hi)
theorem within (n lo hi : Int) : CallOb T Tryz.prog 52 [.c (.sc (.int .i64 n)), .c (.sc (.int .i64 lo)), .c (.sc (.int .i64 hi))] (.c (.sc (.bool (inR n lo hi)))) := by
  refine call_of_vc hT Tryz.func52 (by kernel_rfl) rfl rfl (fun A => ?_)
  conv => whnf
  repeat' (first
    | (refine Split.mk (fun c => ?_) (fun c => ?_) <;> conv => whnf)
    | exact RetQ.mk ⟨rfl, rfl⟩ ⟨rfl, rfl⟩ ⟨bv (by simp only [inR, *, Bool.true_and, Bool.false_and]), trivial⟩)
theorem l1In (n lo hi : Int) : CallOb T Tryz.prog 45 [.c (.sc (.int .i64 n)), .c (.sc (.int .i64 lo)), .c (.sc (.int .i64 hi))] (.c (.sc (.bool (inR n lo hi)))) := by
  refine call_of_vc hT Tryz.func45 (by kernel_rfl) rfl rfl (fun A => ?_)
  conv => whnf
  repeat' (first
    | (refine Split.mk (fun c => ?_) (fun c => ?_) <;> conv => whnf)
    | exact RetQ.mk ⟨rfl, rfl⟩ ⟨rfl, rfl⟩ ⟨bv (by simp only [inR, *, Bool.true_and, Bool.false_and]), trivial⟩)
theorem isQos (n : Int) : CallOb T Tryz.prog 56 [.c (.sc (.int .i64 n))] (.c (.sc (.bool (inR n 0 2)))) := by
  refine call_of_vc hT Tryz.func56 (by kernel_rfl) rfl rfl (fun A => ?_)
  conv => whnf
  refine CallQ.mk _ (within _ _ _) ?_
  conv => whnf
  exact RetQ.mk ⟨rfl, rfl⟩ ⟨rfl, rfl⟩ ⟨rfl, trivial⟩
theorem isId (n : Int) : CallOb T Tryz.prog 58 [.c (.sc (.int .i64 n))] (.c (.sc (.bool (inR n 1 65535)))) := by
  refine call_of_vc hT Tryz.func58 (by kernel_rfl) rfl rfl (fun A => ?_)
  conv => whnf
  refine CallQ.mk _ (within _ _ _) ?_
  conv => whnf
  exact RetQ.mk ⟨rfl, rfl⟩ ⟨rfl, rfl⟩ ⟨rfl, trivial⟩
theorem isWord (n : Int) : CallOb T Tryz.prog 74 [.c (.sc (.int .i64 n))] (.c (.sc (.bool (inR n 0 65535)))) := by
  refine call_of_vc hT Tryz.func74 (by kernel_rfl) rfl rfl (fun A => ?_)
  conv => whnf
  refine CallQ.mk _ (within _ _ _) ?_
  conv => whnf
  exact RetQ.mk ⟨rfl, rfl⟩ ⟨rfl, rfl⟩ ⟨rfl, trivial⟩
end Go.Proofs.YtnflbiafmddpgaaGreatDoor.Q
end
section
/- Packets: what their kind names; whether they are right. What the functions of both sides answer, by the path calculus. Printed by a program of this work (gen_pok.py). -/
namespace Go.Proofs.YtnflbiafmddpgaaGreatDoor.Q
open Go.RowKit Go.Proofs.YtnflbiafmddpgaaGreatDoor.Z
set_option linter.unusedVariables false
set_option linter.unusedSimpArgs false
set_option maxRecDepth 100000
set_option maxHeartbeats 4000000
def nmI (p : S42) : S42 :=
  if p.f0 == 1 then (if p.f11 then (if p.f16 then (if p.f18 then ⟨p.f0, false, 0, false, 0, (⟨#[]⟩ : ByteArray), [], p.f7, p.f8, p.f9, p.f10, p.f11, p.f12, p.f13, p.f14, p.f15, p.f16, p.f17, p.f18, p.f19, 0, false, [], [], []⟩ else ⟨p.f0, false, 0, false, 0, (⟨#[]⟩ : ByteArray), [], p.f7, p.f8, p.f9, p.f10, p.f11, p.f12, p.f13, p.f14, p.f15, p.f16, p.f17, p.f18, [], 0, false, [], [], []⟩) else ⟨p.f0, false, 0, false, 0, (⟨#[]⟩ : ByteArray), [], p.f7, p.f8, p.f9, p.f10, p.f11, p.f12, p.f13, p.f14, p.f15, p.f16, (⟨#[]⟩ : ByteArray), false, [], 0, false, [], [], []⟩) else (if p.f16 then (if p.f18 then ⟨p.f0, false, 0, false, 0, (⟨#[]⟩ : ByteArray), [], p.f7, p.f8, p.f9, p.f10, p.f11, (⟨#[]⟩ : ByteArray), [], 0, false, p.f16, p.f17, p.f18, p.f19, 0, false, [], [], []⟩ else ⟨p.f0, false, 0, false, 0, (⟨#[]⟩ : ByteArray), [], p.f7, p.f8, p.f9, p.f10, p.f11, (⟨#[]⟩ : ByteArray), [], 0, false, p.f16, p.f17, p.f18, [], 0, false, [], [], []⟩) else ⟨p.f0, false, 0, false, 0, (⟨#[]⟩ : ByteArray), [], p.f7, p.f8, p.f9, p.f10, p.f11, (⟨#[]⟩ : ByteArray), [], 0, false, p.f16, (⟨#[]⟩ : ByteArray), false, [], 0, false, [], [], []⟩))
  else if p.f0 == 2 then ⟨p.f0, false, 0, false, 0, (⟨#[]⟩ : ByteArray), [], (⟨#[]⟩ : ByteArray), 0, false, 0, false, (⟨#[]⟩ : ByteArray), [], 0, false, false, (⟨#[]⟩ : ByteArray), false, [], p.f20, p.f21, [], [], []⟩
  else if p.f0 == 3 then (if decide (p.f2 > 0) then ⟨p.f0, p.f1, p.f2, p.f3, p.f4, p.f5, p.f6, (⟨#[]⟩ : ByteArray), 0, false, 0, false, (⟨#[]⟩ : ByteArray), [], 0, false, false, (⟨#[]⟩ : ByteArray), false, [], 0, false, [], [], []⟩ else ⟨p.f0, false, p.f2, p.f3, 0, p.f5, p.f6, (⟨#[]⟩ : ByteArray), 0, false, 0, false, (⟨#[]⟩ : ByteArray), [], 0, false, false, (⟨#[]⟩ : ByteArray), false, [], 0, false, [], [], []⟩)
  else if p.f0 == 4 then ⟨p.f0, false, 0, false, p.f4, (⟨#[]⟩ : ByteArray), [], (⟨#[]⟩ : ByteArray), 0, false, 0, false, (⟨#[]⟩ : ByteArray), [], 0, false, false, (⟨#[]⟩ : ByteArray), false, [], 0, false, [], [], []⟩
  else if p.f0 == 5 then ⟨p.f0, false, 0, false, p.f4, (⟨#[]⟩ : ByteArray), [], (⟨#[]⟩ : ByteArray), 0, false, 0, false, (⟨#[]⟩ : ByteArray), [], 0, false, false, (⟨#[]⟩ : ByteArray), false, [], 0, false, [], [], []⟩
  else if p.f0 == 6 then ⟨p.f0, false, 0, false, p.f4, (⟨#[]⟩ : ByteArray), [], (⟨#[]⟩ : ByteArray), 0, false, 0, false, (⟨#[]⟩ : ByteArray), [], 0, false, false, (⟨#[]⟩ : ByteArray), false, [], 0, false, [], [], []⟩
  else if p.f0 == 7 then ⟨p.f0, false, 0, false, p.f4, (⟨#[]⟩ : ByteArray), [], (⟨#[]⟩ : ByteArray), 0, false, 0, false, (⟨#[]⟩ : ByteArray), [], 0, false, false, (⟨#[]⟩ : ByteArray), false, [], 0, false, [], [], []⟩
  else if p.f0 == 11 then ⟨p.f0, false, 0, false, p.f4, (⟨#[]⟩ : ByteArray), [], (⟨#[]⟩ : ByteArray), 0, false, 0, false, (⟨#[]⟩ : ByteArray), [], 0, false, false, (⟨#[]⟩ : ByteArray), false, [], 0, false, [], [], []⟩
  else if p.f0 == 8 then ⟨p.f0, false, 0, false, p.f4, (⟨#[]⟩ : ByteArray), [], (⟨#[]⟩ : ByteArray), 0, false, 0, false, (⟨#[]⟩ : ByteArray), [], 0, false, false, (⟨#[]⟩ : ByteArray), false, [], 0, false, p.f22, [], []⟩
  else if p.f0 == 9 then ⟨p.f0, false, 0, false, p.f4, (⟨#[]⟩ : ByteArray), [], (⟨#[]⟩ : ByteArray), 0, false, 0, false, (⟨#[]⟩ : ByteArray), [], 0, false, false, (⟨#[]⟩ : ByteArray), false, [], 0, false, [], [], p.f24⟩
  else if p.f0 == 10 then ⟨p.f0, false, 0, false, p.f4, (⟨#[]⟩ : ByteArray), [], (⟨#[]⟩ : ByteArray), 0, false, 0, false, (⟨#[]⟩ : ByteArray), [], 0, false, false, (⟨#[]⟩ : ByteArray), false, [], 0, false, [], p.f23, []⟩
  else ⟨p.f0, false, 0, false, 0, (⟨#[]⟩ : ByteArray), [], (⟨#[]⟩ : ByteArray), 0, false, 0, false, (⟨#[]⟩ : ByteArray), [], 0, false, false, (⟨#[]⟩ : ByteArray), false, [], 0, false, [], [], []⟩
def nmS (p : S42) : S42 :=
  if p.f0 == 1 then (if p.f11 then (if p.f16 then (if p.f18 then ⟨p.f0, false, 0, false, 0, (⟨#[]⟩ : ByteArray), [], p.f7, p.f8, p.f9, p.f10, p.f11, p.f12, p.f13, p.f14, p.f15, p.f16, p.f17, p.f18, p.f19, 0, false, [], [], []⟩ else ⟨p.f0, false, 0, false, 0, (⟨#[]⟩ : ByteArray), [], p.f7, p.f8, p.f9, p.f10, p.f11, p.f12, p.f13, p.f14, p.f15, p.f16, p.f17, p.f18, [], 0, false, [], [], []⟩) else ⟨p.f0, false, 0, false, 0, (⟨#[]⟩ : ByteArray), [], p.f7, p.f8, p.f9, p.f10, p.f11, p.f12, p.f13, p.f14, p.f15, p.f16, (⟨#[]⟩ : ByteArray), false, [], 0, false, [], [], []⟩) else (if p.f16 then (if p.f18 then ⟨p.f0, false, 0, false, 0, (⟨#[]⟩ : ByteArray), [], p.f7, p.f8, p.f9, p.f10, p.f11, (⟨#[]⟩ : ByteArray), [], 0, false, p.f16, p.f17, p.f18, p.f19, 0, false, [], [], []⟩ else ⟨p.f0, false, 0, false, 0, (⟨#[]⟩ : ByteArray), [], p.f7, p.f8, p.f9, p.f10, p.f11, (⟨#[]⟩ : ByteArray), [], 0, false, p.f16, p.f17, p.f18, [], 0, false, [], [], []⟩) else ⟨p.f0, false, 0, false, 0, (⟨#[]⟩ : ByteArray), [], p.f7, p.f8, p.f9, p.f10, p.f11, (⟨#[]⟩ : ByteArray), [], 0, false, p.f16, (⟨#[]⟩ : ByteArray), false, [], 0, false, [], [], []⟩))
  else if p.f0 == 2 then ⟨p.f0, false, 0, false, 0, (⟨#[]⟩ : ByteArray), [], (⟨#[]⟩ : ByteArray), 0, false, 0, false, (⟨#[]⟩ : ByteArray), [], 0, false, false, (⟨#[]⟩ : ByteArray), false, [], p.f20, (if p.f21 then p.f20 == 0 else false), [], [], []⟩
  else if p.f0 == 3 then (if decide (p.f2 > 0) then ⟨p.f0, p.f1, p.f2, p.f3, p.f4, p.f5, p.f6, (⟨#[]⟩ : ByteArray), 0, false, 0, false, (⟨#[]⟩ : ByteArray), [], 0, false, false, (⟨#[]⟩ : ByteArray), false, [], 0, false, [], [], []⟩ else ⟨p.f0, false, p.f2, p.f3, 0, p.f5, p.f6, (⟨#[]⟩ : ByteArray), 0, false, 0, false, (⟨#[]⟩ : ByteArray), [], 0, false, false, (⟨#[]⟩ : ByteArray), false, [], 0, false, [], [], []⟩)
  else if p.f0 == 4 then ⟨p.f0, false, 0, false, p.f4, (⟨#[]⟩ : ByteArray), [], (⟨#[]⟩ : ByteArray), 0, false, 0, false, (⟨#[]⟩ : ByteArray), [], 0, false, false, (⟨#[]⟩ : ByteArray), false, [], 0, false, [], [], []⟩
  else if p.f0 == 5 then ⟨p.f0, false, 0, false, p.f4, (⟨#[]⟩ : ByteArray), [], (⟨#[]⟩ : ByteArray), 0, false, 0, false, (⟨#[]⟩ : ByteArray), [], 0, false, false, (⟨#[]⟩ : ByteArray), false, [], 0, false, [], [], []⟩
  else if p.f0 == 6 then ⟨p.f0, false, 0, false, p.f4, (⟨#[]⟩ : ByteArray), [], (⟨#[]⟩ : ByteArray), 0, false, 0, false, (⟨#[]⟩ : ByteArray), [], 0, false, false, (⟨#[]⟩ : ByteArray), false, [], 0, false, [], [], []⟩
  else if p.f0 == 7 then ⟨p.f0, false, 0, false, p.f4, (⟨#[]⟩ : ByteArray), [], (⟨#[]⟩ : ByteArray), 0, false, 0, false, (⟨#[]⟩ : ByteArray), [], 0, false, false, (⟨#[]⟩ : ByteArray), false, [], 0, false, [], [], []⟩
  else if p.f0 == 11 then ⟨p.f0, false, 0, false, p.f4, (⟨#[]⟩ : ByteArray), [], (⟨#[]⟩ : ByteArray), 0, false, 0, false, (⟨#[]⟩ : ByteArray), [], 0, false, false, (⟨#[]⟩ : ByteArray), false, [], 0, false, [], [], []⟩
  else if p.f0 == 8 then ⟨p.f0, false, 0, false, p.f4, (⟨#[]⟩ : ByteArray), [], (⟨#[]⟩ : ByteArray), 0, false, 0, false, (⟨#[]⟩ : ByteArray), [], 0, false, false, (⟨#[]⟩ : ByteArray), false, [], 0, false, p.f22, [], []⟩
  else if p.f0 == 9 then ⟨p.f0, false, 0, false, p.f4, (⟨#[]⟩ : ByteArray), [], (⟨#[]⟩ : ByteArray), 0, false, 0, false, (⟨#[]⟩ : ByteArray), [], 0, false, false, (⟨#[]⟩ : ByteArray), false, [], 0, false, [], [], p.f24⟩
  else if p.f0 == 10 then ⟨p.f0, false, 0, false, p.f4, (⟨#[]⟩ : ByteArray), [], (⟨#[]⟩ : ByteArray), 0, false, 0, false, (⟨#[]⟩ : ByteArray), [], 0, false, false, (⟨#[]⟩ : ByteArray), false, [], 0, false, [], p.f23, []⟩
  else ⟨p.f0, false, 0, false, 0, (⟨#[]⟩ : ByteArray), [], (⟨#[]⟩ : ByteArray), 0, false, 0, false, (⟨#[]⟩ : ByteArray), [], 0, false, false, (⟨#[]⟩ : ByteArray), false, [], 0, false, [], [], []⟩
theorem cx_ {b : Bool} {p : Prop} (h : b = true) (h2 : b = false) : p := by rw [h] at h2; cases h2
theorem bw_ {x y : Bool} (h : x = y) : Value.bool x = Value.bool y := by rw [h]
def imR {Tb : Nat → Type} : List (C0 Tb) → List (R0 Tb)
  | [] => []
  | .sc v :: l => .sc v :: imR l
  | .sl e x :: l => .im e x :: imR l
theorem implNamed (p q : S42) (hq : nmI p = q) : CallOb T Tryz.prog 54 [.ag (T.cells 42 p)] (.ag (imR (T.cells 42 q))) := by
  unfold nmI at hq
  refine call_of_vc hT Tryz.func54 (by kernel_rfl) rfl rfl (fun A => ?_)
  conv => whnf
  repeat' (first
    | (refine Split.mk (fun c => ft_ c) (fun _ => ?_); conv => whnf)
    | (refine Split.mk (fun _ => ?_) (fun c => tf_ c); conv => whnf)
    | (refine Split.mk (fun _ => ?_) (fun c => cx_ (by assumption) c); conv => whnf)
    | (refine Split.mk (fun c => cx_ c (by assumption)) (fun _ => ?_); conv => whnf)
    | (refine Split.mk (fun c => ?_) (fun c => ?_) <;> (try simp only [c, decide_true, decide_false, if_true, if_false, Bool.false_eq_true] at hq) <;> conv => whnf)
    | (refine DrawQ.mk ⟨by kernel_rfl, by kernel_rfl⟩ ?_; conv => whnf)
    | (refine Need.mk (by kernel_rfl) ?_; conv => whnf)
    | (refine RetQ.mk ⟨rfl, rfl⟩ ⟨rfl, rfl⟩ ?_
       subst hq
       exact ⟨rfl, bw_ (by simp only [*]), rfl, bw_ (by simp only [*]), rfl, rfl, by first | rfl | exact ⟨rfl, rfl⟩, rfl, rfl, bw_ (by simp only [*]), rfl, bw_ (by simp only [*]), rfl, by first | rfl | exact ⟨rfl, rfl⟩, rfl, bw_ (by simp only [*]), bw_ (by simp only [*]), rfl, bw_ (by simp only [*]), by first | rfl | exact ⟨rfl, rfl⟩, rfl, bw_ (by simp only [*]), by first | rfl | exact ⟨rfl, rfl⟩, by first | rfl | exact ⟨rfl, rfl⟩, by first | rfl | exact ⟨rfl, rfl⟩, trivial⟩))
theorem specNamed (p q : S42) (hq : nmS p = q) : CallOb T Tryz.prog 47 [.ag (T.cells 42 p)] (.ag (imR (T.cells 42 q))) := by
  unfold nmS at hq
  refine call_of_vc hT Tryz.func47 (by kernel_rfl) rfl rfl (fun A => ?_)
  conv => whnf
  repeat' (first
    | (refine Split.mk (fun c => ft_ c) (fun _ => ?_); conv => whnf)
    | (refine Split.mk (fun _ => ?_) (fun c => tf_ c); conv => whnf)
    | (refine Split.mk (fun _ => ?_) (fun c => cx_ (by assumption) c); conv => whnf)
    | (refine Split.mk (fun c => cx_ c (by assumption)) (fun _ => ?_); conv => whnf)
    | (refine Split.mk (fun c => ?_) (fun c => ?_) <;> (try simp only [c, decide_true, decide_false, if_true, if_false, Bool.false_eq_true] at hq) <;> conv => whnf)
    | (refine DrawQ.mk ⟨by kernel_rfl, by kernel_rfl⟩ ?_; conv => whnf)
    | (refine Need.mk (by kernel_rfl) ?_; conv => whnf)
    | (refine RetQ.mk ⟨rfl, rfl⟩ ⟨rfl, rfl⟩ ?_
       subst hq
       exact ⟨rfl, bw_ (by simp only [*]), rfl, bw_ (by simp only [*]), rfl, rfl, by first | rfl | exact ⟨rfl, rfl⟩, rfl, rfl, bw_ (by simp only [*]), rfl, bw_ (by simp only [*]), rfl, by first | rfl | exact ⟨rfl, rfl⟩, rfl, bw_ (by simp only [*]), bw_ (by simp only [*]), rfl, bw_ (by simp only [*]), by first | rfl | exact ⟨rfl, rfl⟩, rfl, bw_ (by simp only [*]), by first | rfl | exact ⟨rfl, rfl⟩, by first | rfl | exact ⟨rfl, rfl⟩, by first | rfl | exact ⟨rfl, rfl⟩, trivial⟩))
end Go.Proofs.YtnflbiafmddpgaaGreatDoor.Q
end
section
/- Packets that are right: what impl.PacketOk and spec.PacketOk answer, by the path calculus. -/
namespace Go.Proofs.YtnflbiafmddpgaaGreatDoor.Q
open Go.RowKit Go.Proofs.YtnflbiafmddpgaaGreatDoor.Z
open Go.Proofs.YtnflbiafmddpgaaGreatDoor.X (textOkP)
open Go.Proofs.YtnflbiafmddpgaaGreatDoor.Pure (topicL filterL)
set_option linter.unusedVariables false
set_option linter.unusedSimpArgs false
set_option maxRecDepth 100000
set_option maxHeartbeats 4000000
/-- Texts that are no longer than any that a law hands over. -/
structure Txt (p : S42) : Prop where
  fit : Fit2 p
  t5 : p.f5.size ≤ 1073741824
  t7 : p.f7.size ≤ 140737488351232
  t12 : p.f12.size ≤ 1073741824
  t17 : p.f17.size ≤ 140737488351232
  w22 : ∀ y ∈ p.f22, y.f0.size ≤ 1073741824
  w23 : ∀ y ∈ p.f23, y.size ≤ 1073741824
/-- impl.connectOk -/
def conI1 (p : S42) : Bool := if !p.f11 then true else if topicL p.f12 then (if decide ((@List.length (T.Tb 5) p.f13 : Int) ≤ 40) then inR p.f14 0 2 else false) else false
def conI (p : S42) : Bool := if inR p.f8 0 255 then (if textOkP p.f7 then (if inR p.f10 0 65535 then (if conI1 p then (if textOkP p.f17 then decide ((@List.length (T.Tb 5) p.f19 : Int) ≤ 60) else false) else false) else false) else false) else false
theorem connectOk (p : S42) (hp : Txt p) (q : Bool) (hq : conI p = q) : CallOb T Tryz.prog 55 [.ag (T.cells 42 p)] (.c (.sc (.bool q))) := by
  unfold conI conI1 at hq
  refine call_of_vc hT Tryz.func55 (by kernel_rfl) rfl rfl (fun A => ?_)
  conv => whnf
  repeat' (first
    | (refine Split.mk (fun c => ft_ c) (fun _ => ?_); conv => whnf)
    | (refine Split.mk (fun _ => ?_) (fun c => tf_ c); conv => whnf)
    | (refine Split.mk (fun _ => ?_) (fun c => cx_ (by assumption) c); conv => whnf)
    | (refine Split.mk (fun c => cx_ c (by assumption)) (fun _ => ?_); conv => whnf)
    | (refine Split.mk (fun c => ?_) (fun c => ?_) <;> (try simp only [c, decide_true, decide_false, if_true, if_false, Bool.false_eq_true] at hq) <;> conv => whnf)
    | (refine CallQ.mk _ (implTopicOk _ hp.t12) ?_; conv => whnf)
    | (refine CallQ.mk _ (isQos _) ?_; conv => whnf)
    | (refine CallQ.mk _ (within _ _ _) ?_; conv => whnf)
    | (refine CallQ.mk _ (isWord _) ?_; conv => whnf)
    | (refine CallQ.mk _ (implTextOk _ hp.t7) ?_; conv => whnf)
    | (refine CallQ.mk _ (implTextOk _ hp.t17) ?_; conv => whnf)
    | (subst hq; exact RetQ.mk ⟨rfl, rfl⟩ ⟨rfl, rfl⟩ ⟨rfl, trivial⟩))
/-! ### lists -/
def wantOk (w : S56) : Bool := filterL w.f0 && inR w.f1 0 2
def codeOk (c : Int) : Bool := inR c 0 2 || !(c != 128)
theorem an_1 {a b : Bool} (h : a = false) : (a && b) = false := by rw [h]; rfl
theorem an_2 {a b : Bool} (h : b = false) : (a && b) = false := by rw [h]; cases a <;> rfl
theorem an_t {a b : Bool} (h : a = true) (h2 : b = true) : (a && b) = true := by rw [h, h2]; rfl
theorem or_1 {a b : Bool} (h : a = false) (h2 : b = true) : (a || !b) = false := by rw [h, h2]; rfl
theorem or_2 {a b : Bool} (h2 : b = false) : (a || !b) = true := by rw [h2]; cases a <;> rfl
theorem or_3 {a b : Bool} (h : a = true) : (a || !b) = true := by rw [h]; rfl
theorem all_more {α : Type} {d : α} {l : List α} {k : Nat} {f : α → Bool} (hk : k < l.length) (h : (l.take k).all f = true) (h2 : f (l.getD k d) = true) : (l.take (k + 1)).all f = true := by
  rw [List.take_succ_eq_append_getElem hk, List.all_append, h]
  have : l.getD k d = l[k] := by simp [hk]
  rw [this] at h2
  simp [h2]
theorem all_end {α : Type} {l : List α} {k : Nat} {f : α → Bool} (hk : k = l.length) (h : (l.take k).all f = true) : l.all f = true := by subst hk; rwa [List.take_length] at h
theorem all_not {α : Type} {d : α} {l : List α} {k : Nat} {f : α → Bool} (hk : k < l.length) (h : f (l.getD k d) = false) : l.all f = false := by
  rw [List.all_eq_false]
  exact ⟨_, getD_mem (d := d) hk, by rw [h]; simp⟩
theorem sum_ {a b : Nat} (ha : a ≤ 140737488351232) (hb : b ≤ 140737488351232) : wrap64 ((a : Int) + (b : Int)) = (a : Int) + b := by simp only [wrap64]; omega
theorem sum3_ {a b c : Nat} (ha : a ≤ 140737488351232) (hb : b ≤ 140737488351232) (hc : c ≤ 140737488351232) : wrap64 (wrap64 ((a : Int) + (b : Int)) + (c : Int)) = (a : Int) + b + c := by simp only [wrap64]; omega
def lisI (p : S42) : Bool := p.f22.all wantOk && (p.f23.all filterL && (p.f24.all codeOk && inR ((p.f22.length : Int) + p.f23.length + p.f24.length) 1 4))
abbrev bxp (p : S42) : Res T := .bx 42 ((T.cells 42 p).map (toCell none))
abbrev p00 : Slot T := .c (.px 0 0)
theorem listsOk (p : S42) (hp : Txt p) : CallOb T Tryz.prog 59 [.ag (T.cells 42 p)] (.c (.sc (.bool (lisI p)))) := by
  refine call_of_vc hT Tryz.func59 (by kernel_rfl) rfl rfl (fun A => ?_)
  conv => whnf
  refine LoopQ.mk { k : Nat // k ≤ p.f22.length ∧ (p.f22.take k).all wantOk = true } (fun s => (2, [(12, i64 s.1), (11, i64 p.f22.length), (10, im 56 p.f22), (1, p00)], [(0, bxp p)])) (fun s => p.f22.length - s.1) ⟨0, Nat.zero_le _, rfl⟩ (imp_of [(0, 0)] rfl rfl rfl ⟨⟨rfl, rfl⟩, ⟨rfl, rfl⟩, ⟨rfl, rfl⟩, ⟨rfl, rfl⟩, trivial⟩ ⟨⟨rfl, rfl⟩, trivial⟩) ?_
  rintro ⟨k, hk, ht⟩
  conv => whnf
  refine Split.mk (fun c => ?_) (fun c => ?_)
  · have hk2 : k < p.f22.length := ln_t c
    clear c
    conv => whnf
    refine Need.mk (idx hk2) ?_
    conv => whnf
    refine CallQ.mk _ (implFilterOk _ (hp.w22 _ (getD_mem (d := z56) hk2))) ?_
    conv => whnf
    refine Split.mk (fun c1 => ?_) (fun c1 => ?_)
    · conv => whnf
      repeat (refine Split.mk (fun _ => ?_) (fun c => tf_ c); conv => whnf)
      exact RetQ.mk ⟨rfl, rfl⟩ ⟨rfl, rfl⟩ ⟨bv (by unfold lisI; rw [all_not (f := wantOk) (d := z56) hk2 (an_1 (not_t c1))]; rfl), trivial⟩
    · conv => whnf
      refine CallQ.mk _ (isQos _) ?_
      conv => whnf
      refine Split.mk (fun c2 => ?_) (fun c2 => ?_)
      · conv => whnf
        exact RetQ.mk ⟨rfl, rfl⟩ ⟨rfl, rfl⟩ ⟨bv (by unfold lisI; rw [all_not (f := wantOk) (d := z56) hk2 (an_2 (not_t c2))]; rfl), trivial⟩
      · conv => whnf
        exact NextQ.mk ⟨⟨k + 1, hk2, all_more (f := wantOk) (d := z56) hk2 ht (an_t (not_f c1) (not_f c2))⟩, Nat.sub_lt_sub_left hk2 (Nat.lt_succ_self k), imp_of [(0, 0)] rfl rfl rfl ⟨⟨rfl, congrArg i64 (sc_ hk2 hp.fit.l22)⟩, ⟨rfl, rfl⟩, ⟨rfl, rfl⟩, ⟨rfl, rfl⟩, trivial⟩ ⟨⟨rfl, rfl⟩, trivial⟩⟩
  have a22 := all_end (Nat.le_antisymm hk (ln_f c)) ht
  clear c
  conv => whnf
  refine LoopQ.mk { k : Nat // k ≤ p.f23.length ∧ (p.f23.take k).all filterL = true } (fun s => (2, [(30, i64 s.1), (29, i64 p.f23.length), (28, im 9 p.f23), (1, p00)], [(0, bxp p)])) (fun s => p.f23.length - s.1) ⟨0, Nat.zero_le _, rfl⟩ (imp_of [(0, 0)] rfl rfl rfl ⟨⟨rfl, rfl⟩, ⟨rfl, rfl⟩, ⟨rfl, rfl⟩, ⟨rfl, rfl⟩, trivial⟩ ⟨⟨rfl, rfl⟩, trivial⟩) ?_
  rintro ⟨k, hk, ht⟩
  conv => whnf
  refine Split.mk (fun c => ?_) (fun c => ?_)
  · have hk2 : k < p.f23.length := ln_t c
    clear c
    conv => whnf
    refine Need.mk (idx hk2) ?_
    conv => whnf
    refine CallQ.mk _ (implFilterOk _ (hp.w23 _ (getD_mem (d := ByteArray.empty) hk2))) ?_
    conv => whnf
    refine Split.mk (fun c1 => ?_) (fun c1 => ?_)
    · conv => whnf
      exact RetQ.mk ⟨rfl, rfl⟩ ⟨rfl, rfl⟩ ⟨bv (by unfold lisI; rw [a22, all_not (f := filterL) (d := ByteArray.empty) hk2 (not_t c1)]; rfl), trivial⟩
    · conv => whnf
      exact NextQ.mk ⟨⟨k + 1, hk2, all_more (f := filterL) (d := ByteArray.empty) hk2 ht (not_f c1)⟩, Nat.sub_lt_sub_left hk2 (Nat.lt_succ_self k), imp_of [(0, 0)] rfl rfl rfl ⟨⟨rfl, congrArg i64 (sc_ hk2 hp.fit.l23)⟩, ⟨rfl, rfl⟩, ⟨rfl, rfl⟩, ⟨rfl, rfl⟩, trivial⟩ ⟨⟨rfl, rfl⟩, trivial⟩⟩
  have a23 := all_end (Nat.le_antisymm hk (ln_f c)) ht
  clear c
  conv => whnf
  refine LoopQ.mk { k : Nat // k ≤ p.f24.length ∧ (p.f24.take k).all codeOk = true } (fun s => (2, [(41, i64 s.1), (40, i64 p.f24.length), (39, im 3 p.f24), (1, p00)], [(0, bxp p)])) (fun s => p.f24.length - s.1) ⟨0, Nat.zero_le _, rfl⟩ (imp_of [(0, 0)] rfl rfl rfl ⟨⟨rfl, rfl⟩, ⟨rfl, rfl⟩, ⟨rfl, rfl⟩, ⟨rfl, rfl⟩, trivial⟩ ⟨⟨rfl, rfl⟩, trivial⟩) ?_
  rintro ⟨k, hk, ht⟩
  conv => whnf
  refine Split.mk (fun c => ?_) (fun c => ?_)
  · have hk2 : k < p.f24.length := ln_t c
    clear c
    conv => whnf
    refine Need.mk (idx hk2) ?_
    conv => whnf
    refine CallQ.mk _ (isQos _) ?_
    conv => whnf
    refine Split.mk (fun c1 => ?_) (fun c1 => ?_)
    · conv => whnf
      refine Split.mk (fun c2 => ?_) (fun c2 => ?_)
      · conv => whnf
        exact RetQ.mk ⟨rfl, rfl⟩ ⟨rfl, rfl⟩ ⟨bv (by unfold lisI; rw [a22, a23, all_not (f := codeOk) (d := (0 : Int)) hk2 (or_1 (not_t c1) c2)]; rfl), trivial⟩
      · conv => whnf
        exact NextQ.mk ⟨⟨k + 1, hk2, all_more (f := codeOk) (d := (0 : Int)) hk2 ht (or_2 c2)⟩, Nat.sub_lt_sub_left hk2 (Nat.lt_succ_self k), imp_of [(0, 0)] rfl rfl rfl ⟨⟨rfl, congrArg i64 (sc_ hk2 hp.fit.l24)⟩, ⟨rfl, rfl⟩, ⟨rfl, rfl⟩, ⟨rfl, rfl⟩, trivial⟩ ⟨⟨rfl, rfl⟩, trivial⟩⟩
    · conv => whnf
      repeat (refine Split.mk (fun c => ft_ c) (fun _ => ?_); conv => whnf)
      exact NextQ.mk ⟨⟨k + 1, hk2, all_more (f := codeOk) (d := (0 : Int)) hk2 ht (or_3 (not_f c1))⟩, Nat.sub_lt_sub_left hk2 (Nat.lt_succ_self k), imp_of [(0, 0)] rfl rfl rfl ⟨⟨rfl, congrArg i64 (sc_ hk2 hp.fit.l24)⟩, ⟨rfl, rfl⟩, ⟨rfl, rfl⟩, ⟨rfl, rfl⟩, trivial⟩ ⟨⟨rfl, rfl⟩, trivial⟩⟩
  have a24 := all_end (Nat.le_antisymm hk (ln_f c)) ht
  clear c
  conv => whnf
  refine CallQ.mk _ (within _ _ _) ?_
  conv => whnf
  exact RetQ.mk ⟨rfl, rfl⟩ ⟨rfl, rfl⟩ ⟨bv (by unfold lisI; rw [a22, a23, a24]; exact (congrArg (fun n => inR n 1 4) (sum3_ hp.fit.l22 hp.fit.l23 hp.fit.l24)).symm), trivial⟩
end Go.Proofs.YtnflbiafmddpgaaGreatDoor.Q
end
section
/- What is put behind bytes: words, texts, bytes, lengths; what the functions of both sides answer. Printed by a program of this work (gen_put.py). -/
namespace Go.Proofs.YtnflbiafmddpgaaGreatDoor.Q
open Go.RowKit Go.Proofs.YtnflbiafmddpgaaGreatDoor.Z
open Go.Proofs.YtnflbiafmddpgaaGreatDoor.X (textOkP)
set_option linter.unusedVariables false
set_option linter.unusedSimpArgs false
set_option maxRecDepth 100000
set_option maxHeartbeats 4000000
abbrev bT (s : ByteArray) : List Int := bytesE T 5 s
def hiB (n : Int) : Int := IntKind.u8.wrap (IntKind.i64.wrap (BitVec.ofInt IntKind.i64.bits (n.fdiv (2 ^ min (Int.toNat 8) IntKind.i64.bits)) &&& BitVec.ofInt IntKind.i64.bits 255).toNat)
def loB (n : Int) : Int := IntKind.u8.wrap (IntKind.i64.wrap (BitVec.ofInt IntKind.i64.bits n &&& BitVec.ofInt IntKind.i64.bits 255).toNat)
def putW (b : List Int) (n : Int) : List Int := b ++ [hiB n, loB n]
def putT (b : List Int) (s : ByteArray) : List Int := if textOkP s then putW b (s.size : Int) ++ bT s else b
def putB (b : List Int) (x : List Int) : List Int := if decide ((@List.length (T.Tb 5) x : Int) > 60) then b else putW b (x.length : Int) ++ x
theorem putW_len {b : List Int} {n : Int} : (putW b n).length = b.length + 2 := by simp [putW]
theorem bT_len {s : ByteArray} : (bT s).length = s.size := bytesE_len
theorem textOk_size {s : ByteArray} (h : textOkP s = true) : s.size ≤ 60 := by
  unfold X.textOkP at h
  simp only [Bool.and_eq_true, decide_eq_true_eq] at h
  exact h.2.2
theorem putT_len {b : List Int} {s : ByteArray} : (putT b s).length ≤ b.length + 62 := by
  unfold putT
  split
  · rename_i h
    have := textOk_size h
    rw [List.length_append, putW_len, bT_len]; omega
  · omega
theorem putB_len {b x : List Int} : (putB b x).length ≤ b.length + 62 := by
  unfold putB
  split
  · omega
  · rename_i h
    have h2 : ¬ ((@List.length (T.Tb 5) x : Int) > 60) := by simpa using h
    have h3 : x.length ≤ 60 := by
      have : (@List.length (T.Tb 5) x) = x.length := rfl
      omega
    rw [List.length_append, putW_len]; omega
theorem flat5 : AllFlat T 5 := fun _ => rfl
theorem flat_le {l : List (List Int)} {M : Nat} (h : ∀ x ∈ l, x.length ≤ M) : l.flatten.length ≤ l.length * M := by
  induction l with
  | nil => simp
  | cons x l ih =>
    have := h x List.mem_cons_self
    have := ih (fun y hy => h y (List.mem_cons_of_mem _ hy))
    simp only [List.flatten_cons, List.length_append, List.length_cons, Nat.succ_mul]
    omega
theorem flat_take {l : List (List Int)} {k : Nat} (hk : k < l.length) : (l.take k).flatten ++ l.getD k [] = (l.take (k + 1)).flatten := by
  rw [List.take_succ_eq_append_getElem hk]
  have : l.getD k [] = l[k] := by simp [hk]
  rw [this, List.flatten_append]; simp
theorem ap_ {m n : Nat} (h : m + n ≤ 100000000000) : m + n ≤ maxLen ∧ (m + n) * 1 ≤ 140737488355328 := by simp only [maxLen]; omega
theorem apt_ {m n : Nat} (h : m + n ≤ 100000000000) : m + n ≤ maxLen ∧ m + n ≤ 140737488355328 := by simp only [maxLen]; omega
theorem joined (ps : List (List Int)) (hn : ps.length ≤ 16) (hs : ∀ x ∈ ps, x.length ≤ 1100000000) : CallOb T Tryz.prog 38 [.c (.sl 24 ps)] (.c (.ow 5 ps.flatten)) := by
  refine call_of_vc hT Tryz.func38 (by kernel_rfl) rfl rfl (fun A => ?_)
  conv => whnf
  refine LoopQ.mk { k : Nat // k ≤ ps.length } (fun p => (2, [(9, i64 p.1), (8, i64 ps.length), (7, im 24 ps), (3, .c (.hd 0))], [(0, .row 1 5 (ps.take p.1).flatten)])) (fun p => ps.length - p.1) ⟨0, Nat.zero_le _⟩ (imp_of [(0, 0)] rfl rfl rfl ⟨⟨rfl, rfl⟩, ⟨rfl, rfl⟩, ⟨rfl, rfl⟩, ⟨rfl, rfl⟩, trivial⟩ ⟨show SameRow (T := T) 5 [] 5 (ps.take 0).flatten from sr_ rfl, trivial⟩) ?_
  rintro ⟨k, hk⟩
  conv => whnf
  refine Split.mk (fun c => ?_) (fun c => ?_)
  · have hk2 : k < ps.length := ln_t c
    clear c
    have hm : (ps.getD k []).length ≤ 1100000000 := hs _ (getD_mem (d := []) hk2)
    have hf : (ps.take k).flatten.length ≤ 17600000000 := by
      have h1 := flat_le (l := ps.take k) (M := 1100000000) (fun x hx => hs x (List.mem_of_mem_take hx))
      have h2 : (ps.take k).length ≤ 16 := by rw [List.length_take]; omega
      have h3 := Nat.mul_le_mul_right 1100000000 h2
      omega
    conv => whnf
    refine Need.mk (idx hk2) ?_
    conv => whnf
    refine Need.mk ⟨flat5, ap_ (show (ps.take k).flatten.length + (ps.getD k []).length ≤ 100000000000 by omega)⟩ ?_
    conv => whnf
    exact NextQ.mk ⟨⟨k + 1, hk2⟩, Nat.sub_lt_sub_left hk2 (Nat.lt_succ_self k), imp_of [(0, 2)] rfl rfl rfl ⟨⟨rfl, congrArg i64 (sc_ hk2 (by omega))⟩, ⟨rfl, rfl⟩, ⟨rfl, rfl⟩, ⟨rfl, rfl⟩, trivial⟩ ⟨show SameRow (T := T) 5 ((ps.take k).flatten ++ ps.getD k []) 5 (ps.take (k + 1)).flatten from sr_ (flat_take hk2), trivial⟩⟩
  · have hk2 : k = ps.length := Nat.le_antisymm hk (ln_f c)
    clear c
    conv => whnf
    subst hk2
    exact RetQ.mk ⟨rfl, rfl⟩ ⟨rfl, rfl⟩ ⟨show SameRow (T := T) 5 (ps.take ps.length).flatten 5 ps.flatten from sr_ (by rw [List.take_length]), trivial⟩
theorem fl1 {b : List Int} : [b].flatten = b := by simp
theorem fl2 {b c : List Int} : [b, c].flatten = b ++ c := by simp
theorem all1 {M : Nat} {b : List Int} (h : b.length ≤ M) : ∀ x ∈ [b], x.length ≤ M := by intro x hx; simp at hx; subst hx; exact h
theorem all2 {M : Nat} {b c : List Int} (h : b.length ≤ M) (h2 : c.length ≤ M) : ∀ x ∈ [b, c], x.length ≤ M := by intro x hx; simp at hx; rcases hx with rfl | rfl <;> assumption
theorem implPutWord (b : List Int) (n : Int) (hb : b.length ≤ 1000000000) : CallOb T Tryz.prog 63 [.c (.sl 5 b), .c (.sc (.int .i64 n))] (.c (.ow 5 (putW b n))) := by
  refine call_of_vc hT Tryz.func63 (by kernel_rfl) rfl rfl (fun A => ?_)
  conv => whnf
  refine CallQ.mk _ (joined [b, [hiB n, loB n]] (by simp) (all2 (by omega) (by simp))) ?_
  conv => whnf
  exact RetQ.mk ⟨rfl, rfl⟩ ⟨rfl, rfl⟩ ⟨show SameRow (T := T) 5 [b, [hiB n, loB n]].flatten 5 (putW b n) from sr_ fl2, trivial⟩
theorem specPutWord (b : List Int) (n : Int) (hb : b.length ≤ 1000000000) : CallOb T Tryz.prog 29 [.c (.sl 5 b), .c (.sc (.int .i64 n))] (.c (.ow 5 (putW b n))) := by
  refine call_of_vc hT Tryz.func29 (by kernel_rfl) rfl rfl (fun A => ?_)
  conv => whnf
  refine Need.mk ⟨flat5, ap_ (show 0 + b.length ≤ 100000000000 by omega)⟩ ?_
  conv => whnf
  refine Need.mk (ap_ (show List.length (α := Int) b + 2 ≤ 100000000000 by omega)) ?_
  conv => whnf
  exact RetQ.mk ⟨rfl, rfl⟩ ⟨rfl, rfl⟩ ⟨rfl, trivial⟩
theorem implPutText (b : List Int) (s : ByteArray) (hb : b.length ≤ 1000000000) (hs : s.size ≤ 1073741824) : CallOb T Tryz.prog 62 [.c (.sl 5 b), .c (.sc (.string s))] (.c (.ow 5 (putT b s))) := by
  refine call_of_vc hT Tryz.func62 (by kernel_rfl) rfl rfl (fun A => ?_)
  conv => whnf
  refine CallQ.mk _ (implTextOk s (by omega)) ?_
  conv => whnf
  refine Split.mk (fun c => ?_) (fun c => ?_)
  · conv => whnf
    refine CallQ.mk _ (joined [b] (by simp) (all1 (by omega))) ?_
    conv => whnf
    exact RetQ.mk ⟨rfl, rfl⟩ ⟨rfl, rfl⟩ ⟨show SameRow (T := T) 5 [b].flatten 5 (putT b s) from sr_ (by rw [putT, not_t c]; exact fl1), trivial⟩
  · conv => whnf
    refine CallQ.mk _ (implPutWord b _ hb) ?_
    conv => whnf
    refine Need.mk ⟨fun _ => rfl, by omega⟩ ?_
    conv => whnf
    refine CallQ.mk _ (joined [putW b (s.size : Int), bT s] (by simp) (all2 (by rw [putW_len]; omega) (by rw [bT_len]; omega))) ?_
    conv => whnf
    exact RetQ.mk ⟨rfl, rfl⟩ ⟨rfl, rfl⟩ ⟨show SameRow (T := T) 5 [putW b (s.size : Int), bT s].flatten 5 (putT b s) from sr_ (by rw [putT, not_f c]; exact fl2), trivial⟩
theorem specPutText (b : List Int) (s : ByteArray) (hb : b.length ≤ 1000000000) (hs : s.size ≤ 1073741824) : CallOb T Tryz.prog 27 [.c (.sl 5 b), .c (.sc (.string s))] (.c (.ow 5 (putT b s))) := by
  refine call_of_vc hT Tryz.func27 (by kernel_rfl) rfl rfl (fun A => ?_)
  conv => whnf
  refine CallQ.mk _ (specTextOk s) ?_
  conv => whnf
  refine Split.mk (fun c => ?_) (fun c => ?_)
  · conv => whnf
    refine Need.mk ⟨flat5, ap_ (show 0 + b.length ≤ 100000000000 by omega)⟩ ?_
    conv => whnf
    exact RetQ.mk ⟨rfl, rfl⟩ ⟨rfl, rfl⟩ ⟨show SameRow (T := T) 5 (([] : List Int) ++ b : List Int) 5 (putT b s) from sr_ (by rw [putT, not_t c]; rfl), trivial⟩
  · conv => whnf
    refine CallQ.mk _ (specPutWord b _ hb) ?_
    conv => whnf
    refine Need.mk ⟨⟨fun _ => rfl, by unfold U8; kernel_rfl⟩, apt_ (show (putW b (s.size : Int)).length + s.size ≤ 100000000000 by rw [putW_len]; omega)⟩ ?_
    conv => whnf
    exact RetQ.mk ⟨rfl, rfl⟩ ⟨rfl, rfl⟩ ⟨show SameRow (T := T) 5 (putW b (s.size : Int) ++ bT s) 5 (putT b s) from sr_ (by rw [putT, not_f c]; rfl), trivial⟩
theorem implPutBytes (b x : List Int) (hb : b.length ≤ 1000000000) (hx : x.length ≤ 1000000000) : CallOb T Tryz.prog 78 [.c (.sl 5 b), .c (.sl 5 x)] (.c (.ow 5 (putB b x))) := by
  refine call_of_vc hT Tryz.func78 (by kernel_rfl) rfl rfl (fun A => ?_)
  conv => whnf
  refine Split.mk (fun c => ?_) (fun c => ?_)
  · conv => whnf
    refine CallQ.mk _ (joined [b] (by simp) (all1 (by omega))) ?_
    conv => whnf
    exact RetQ.mk ⟨rfl, rfl⟩ ⟨rfl, rfl⟩ ⟨show SameRow (T := T) 5 [b].flatten 5 (putB b x) from sr_ (fl1.trans (by rw [putB, c]; rfl)), trivial⟩
  · conv => whnf
    refine CallQ.mk _ (implPutWord b _ hb) ?_
    conv => whnf
    refine CallQ.mk _ (joined [putW b (x.length : Int), x] (by simp) (all2 (by rw [putW_len]; omega) (by omega))) ?_
    conv => whnf
    exact RetQ.mk ⟨rfl, rfl⟩ ⟨rfl, rfl⟩ ⟨show SameRow (T := T) 5 [putW b (x.length : Int), x].flatten 5 (putB b x) from sr_ (fl2.trans (by rw [putB, c]; rfl)), trivial⟩
theorem specPutBytes (b x : List Int) (hb : b.length ≤ 1000000000) (hx : x.length ≤ 1000000000) : CallOb T Tryz.prog 30 [.c (.sl 5 b), .c (.sl 5 x)] (.c (.ow 5 (putB b x))) := by
  refine call_of_vc hT Tryz.func30 (by kernel_rfl) rfl rfl (fun A => ?_)
  conv => whnf
  refine Split.mk (fun c => ?_) (fun c => ?_)
  · conv => whnf
    refine Need.mk ⟨flat5, ap_ (show 0 + b.length ≤ 100000000000 by omega)⟩ ?_
    conv => whnf
    exact RetQ.mk ⟨rfl, rfl⟩ ⟨rfl, rfl⟩ ⟨show SameRow (T := T) 5 (([] : List Int) ++ b : List Int) 5 (putB b x) from sr_ (by rw [putB, c]; rfl), trivial⟩
  · conv => whnf
    refine CallQ.mk _ (specPutWord b _ hb) ?_
    conv => whnf
    refine Need.mk ⟨flat5, ap_ (show (putW b (x.length : Int)).length + x.length ≤ 100000000000 by rw [putW_len]; omega)⟩ ?_
    conv => whnf
    exact RetQ.mk ⟨rfl, rfl⟩ ⟨rfl, rfl⟩ ⟨show SameRow (T := T) 5 (putW b (x.length : Int) ++ x) 5 (putB b x) from sr_ (by rw [putB, c]; rfl), trivial⟩
/-! ### lengths -/
def lenR (m : Nat) : List Int := if h : m > 127 then IntKind.u8.wrap (wrap64 (((m % 128 : Nat) : Int) + 128)) :: lenR (m / 128) else [IntKind.u8.wrap (m : Int)]
termination_by m
decreasing_by omega
theorem lenR_big {m : Nat} (h : m > 127) : lenR m = IntKind.u8.wrap (wrap64 (((m % 128 : Nat) : Int) + 128)) :: lenR (m / 128) := by
  conv => lhs; unfold lenR
  rw [dif_pos h]
theorem lenR_small {m : Nat} (h : ¬ m > 127) : lenR m = [IntKind.u8.wrap (m : Int)] := by unfold lenR; rw [dif_neg h]
theorem lenR_len : ∀ (n m : Nat), m ≤ n → (lenR m).length ≤ m + 1
  | n, m, h => by
    by_cases hm : m > 127
    · cases n with
      | zero => omega
      | succ n =>
        have := lenR_len n (m / 128) (by omega)
        rw [lenR_big hm, List.length_cons]; omega
    · rw [lenR_small hm]; simp
theorem mod128 (k : Nat) : ((k : Int).tmod 128) = ((k % 128 : Nat) : Int) := by rw [Int.tmod_eq_emod_of_nonneg (by omega)]; omega
theorem div128 {k : Nat} (h : k ≤ 4611686018427387904) : IntKind.i64.wrap ((k : Int).tdiv 128) = ((k / 128 : Nat) : Int) := by
  rw [Int.tdiv_eq_ediv_of_nonneg (by omega), wrap_i64]
  simp only [wrap64]; omega
theorem inR_t {n : Nat} (h : n ≤ 268435455) : inR (n : Int) 0 268435455 = true := by simp only [inR, Bool.and_eq_true, decide_eq_true_eq]; omega
theorem implPutLen (b : List Int) (n : Nat) (hb : b.length ≤ 1000000000) (hn : n ≤ 268435455) : CallOb T Tryz.prog 39 [.c (.sl 5 b), .c (.sc (.int .i64 (n : Int)))] (.c (.ow 5 (b ++ lenR n))) := by
  refine call_of_vc hT Tryz.func39 (by kernel_rfl) rfl rfl (fun A => ?_)
  conv => whnf
  refine CallQ.mk _ (joined [b] (by simp) (all1 (by omega))) ?_
  conv => whnf
  refine CallQ.mk _ (within _ _ _) ?_
  conv => whnf
  refine Split.mk (fun c => cx_ (inR_t hn) (not_t c)) (fun c => ?_)
  clear c
  conv => whnf
  refine LoopQ.mk { p : Nat × List Int // p.1 ≤ n ∧ p.2 ++ lenR p.1 = b ++ lenR n ∧ p.2.length + p.1 ≤ b.length + n } (fun p => (2, [(1, i64 p.1.1), (5, .c (.hd 0))], [(0, .row 1 5 p.1.2)])) (fun p => p.1.1) ⟨(n, b), Nat.le_refl _, rfl, Nat.le_refl _⟩ (imp_of [(0, 0)] rfl rfl rfl ⟨⟨rfl, rfl⟩, ⟨rfl, rfl⟩, trivial⟩ ⟨show SameRow (T := T) 5 [b].flatten 5 b from sr_ fl1, trivial⟩) ?_
  rintro ⟨⟨m, out⟩, g1, g2, g3⟩
  dsimp only at g1 g2 g3
  conv => whnf
  refine Split.mk (fun c => ?_) (fun c => ?_)
  · have hm : m > 127 := by simp at c; omega
    clear c
    conv => whnf
    refine Need.mk (ap_ (show out.length + 1 ≤ 100000000000 by omega)) ?_
    conv => whnf
    refine NextQ.mk ⟨⟨(m / 128, out ++ [IntKind.u8.wrap (wrap64 (((m % 128 : Nat) : Int) + 128))]), by dsimp only; omega, ?_, ?_⟩, Nat.div_lt_self (by omega) (by decide), imp_of [(0, 3)] rfl rfl rfl ⟨⟨rfl, congrArg i64 (div128 (by omega)).symm⟩, ⟨rfl, rfl⟩, trivial⟩ ⟨show SameRow (T := T) 5 (out ++ [IntKind.u8.wrap (wrap64 ((m : Int).tmod 128 + 128))]) 5 (out ++ [IntKind.u8.wrap (wrap64 (((m % 128 : Nat) : Int) + 128))]) from sr_ (by rw [mod128]), trivial⟩⟩
    · dsimp only
      rw [List.append_assoc, List.singleton_append, ← lenR_big hm]; exact g2
    · dsimp only
      rw [List.length_append, List.length_singleton]; omega
  · have hm : ¬ m > 127 := by simp at c; omega
    clear c
    conv => whnf
    refine Need.mk (ap_ (show out.length + 1 ≤ 100000000000 by omega)) ?_
    conv => whnf
    exact RetQ.mk ⟨rfl, rfl⟩ ⟨rfl, rfl⟩ ⟨show SameRow (T := T) 5 (out ++ [IntKind.u8.wrap (m : Int)]) 5 (b ++ lenR n) from sr_ (by rw [← g2, lenR_small hm]), trivial⟩
theorem specPutLen (b : List Int) (n : Nat) (hb : b.length ≤ 1000000000) (hn : n ≤ 268435455) : CallOb T Tryz.prog 31 [.c (.sl 5 b), .c (.sc (.int .i64 (n : Int)))] (.c (.ow 5 (b ++ lenR n))) := by
  refine call_of_vc hT Tryz.func31 (by kernel_rfl) rfl rfl (fun A => ?_)
  conv => whnf
  refine Need.mk ⟨flat5, ap_ (show 0 + b.length ≤ 100000000000 by omega)⟩ ?_
  conv => whnf
  refine CallQ.mk _ (l1In _ _ _) ?_
  conv => whnf
  refine Split.mk (fun c => cx_ (inR_t hn) (not_t c)) (fun c => ?_)
  clear c
  conv => whnf
  refine LoopQ.mk { p : Nat × List Int // p.1 ≤ n ∧ p.2 ++ lenR p.1 = b ++ lenR n ∧ p.2.length + p.1 ≤ b.length + n } (fun p => (2, [(1, i64 p.1.1), (5, .c (.hd 0))], [(0, .row 1 5 p.1.2)])) (fun p => p.1.1) ⟨(n, b), Nat.le_refl _, rfl, Nat.le_refl _⟩ (imp_of [(0, 1)] rfl rfl rfl ⟨⟨rfl, rfl⟩, ⟨rfl, rfl⟩, trivial⟩ ⟨show SameRow (T := T) 5 (([] : List Int) ++ b : List Int) 5 b from sr_ rfl, trivial⟩) ?_
  rintro ⟨⟨m, out⟩, g1, g2, g3⟩
  dsimp only at g1 g2 g3
  conv => whnf
  refine Split.mk (fun c => ?_) (fun c => ?_)
  · have hm : m > 127 := by simp at c; omega
    clear c
    conv => whnf
    refine Need.mk (ap_ (show out.length + 1 ≤ 100000000000 by omega)) ?_
    conv => whnf
    refine NextQ.mk ⟨⟨(m / 128, out ++ [IntKind.u8.wrap (wrap64 (((m % 128 : Nat) : Int) + 128))]), by dsimp only; omega, ?_, ?_⟩, Nat.div_lt_self (by omega) (by decide), imp_of [(0, 3)] rfl rfl rfl ⟨⟨rfl, congrArg i64 (div128 (by omega)).symm⟩, ⟨rfl, rfl⟩, trivial⟩ ⟨show SameRow (T := T) 5 (out ++ [IntKind.u8.wrap (wrap64 (128 + (m : Int).tmod 128))]) 5 (out ++ [IntKind.u8.wrap (wrap64 (((m % 128 : Nat) : Int) + 128))]) from sr_ (by rw [mod128, Int.add_comm]), trivial⟩⟩
    · dsimp only
      rw [List.append_assoc, List.singleton_append, ← lenR_big hm]; exact g2
    · dsimp only
      rw [List.length_append, List.length_singleton]; omega
  · have hm : ¬ m > 127 := by simp at c; omega
    clear c
    conv => whnf
    refine Need.mk (ap_ (show out.length + 1 ≤ 100000000000 by omega)) ?_
    conv => whnf
    exact RetQ.mk ⟨rfl, rfl⟩ ⟨rfl, rfl⟩ ⟨show SameRow (T := T) 5 (out ++ [IntKind.u8.wrap (m : Int)]) 5 (b ++ lenR n) from sr_ (by rw [← g2, lenR_small hm]), trivial⟩
end Go.Proofs.YtnflbiafmddpgaaGreatDoor.Q
end
section
/- Packets that are right: what impl.PacketOk and spec.PacketOk answer, by the path calculus. Printed by a program of this work (gen_pok4.py). -/
namespace Go.Proofs.YtnflbiafmddpgaaGreatDoor.Q
open Go.RowKit Go.Proofs.YtnflbiafmddpgaaGreatDoor.Z
open Go.Proofs.YtnflbiafmddpgaaGreatDoor.X (textOkP)
open Go.Proofs.YtnflbiafmddpgaaGreatDoor.Pure (topicL filterL)
set_option linter.unusedVariables false
set_option linter.unusedSimpArgs false
set_option maxRecDepth 100000
set_option maxHeartbeats 4000000
theorem ite_ind {α : Type} {c : Prop} [Decidable c] {Q : α → Prop} {x y : α} (hx : Q x) (hy : Q y) : Q (if c then x else y) := by
  by_cases h : c
  · rw [if_pos h]; exact hx
  · rw [if_neg h]; exact hy
theorem nmI_fit {p : S42} (h : Fit2 p) : Fit2 (nmI p) := by
  unfold nmI
  repeat' (with_reducible refine ite_ind ?_ ?_)
  all_goals (constructor <;> (try dsimp only) <;> first | exact Nat.zero_le _ | (intro x hx; cases hx; done) | exact h.s5 | exact h.l6 | exact h.y6 | exact h.s7 | exact h.s12 | exact h.l13 | exact h.y13 | exact h.s17 | exact h.l19 | exact h.y19 | exact h.l22 | exact h.w22 | exact h.l23 | exact h.w23 | exact h.l24)
theorem nmS_fit {p : S42} (h : Fit2 p) : Fit2 (nmS p) := by
  unfold nmS
  repeat' (with_reducible refine ite_ind ?_ ?_)
  all_goals (constructor <;> (try dsimp only) <;> first | exact Nat.zero_le _ | (intro x hx; cases hx; done) | exact h.s5 | exact h.l6 | exact h.y6 | exact h.s7 | exact h.s12 | exact h.l13 | exact h.y13 | exact h.s17 | exact h.l19 | exact h.y19 | exact h.l22 | exact h.w22 | exact h.l23 | exact h.w23 | exact h.l24)
noncomputable def okI (p : S42) : Bool := if !inR p.f0 1 14 then false else if !same p (nmI p) then false
  else if p.f0 == 1 then conI p
  else if p.f0 == 2 then (if inR p.f20 0 5 then (if !p.f21 then true else p.f20 == 0) else false)
  else if p.f0 == 3 then (if inR p.f2 0 2 then (if topicL p.f5 then (if decide ((@List.length (T.Tb 5) p.f6 : Int) ≤ 40) then (if p.f2 == 0 then true else inR p.f4 1 65535) else false) else false) else false)
  else if p.f0 == 4 then inR p.f4 1 65535 else if p.f0 == 5 then inR p.f4 1 65535 else if p.f0 == 6 then inR p.f4 1 65535 else if p.f0 == 7 then inR p.f4 1 65535 else if p.f0 == 11 then inR p.f4 1 65535
  else if p.f0 == 8 then (if inR p.f4 1 65535 then lisI p else false) else if p.f0 == 9 then (if inR p.f4 1 65535 then lisI p else false) else if p.f0 == 10 then (if inR p.f4 1 65535 then lisI p else false)
  else true
def conS (p : S42) : Bool := if inR p.f8 0 255 then (if textOkP p.f7 then (if inR p.f10 0 65535 then (if textOkP p.f17 then decide ((@List.length (T.Tb 5) p.f19 : Int) ≤ 60) else false) else false) else false) else false
def pubS (p : S42) : Bool := if topicL p.f5 then decide ((@List.length (T.Tb 5) p.f6 : Int) ≤ 40) else false
noncomputable def okS (p : S42) : Bool := if !inR p.f0 1 14 then false else if !same p (nmS p) then false
  else if p.f0 == 1 then (if p.f11 then (if !topicL p.f12 then false else if decide ((@List.length (T.Tb 5) p.f13 : Int) > 40) then false else if !inR p.f14 0 2 then false else conS p) else conS p)
  else if p.f0 == 2 then inR p.f20 0 5
  else if p.f0 == 3 then (if inR p.f2 0 2 then (if p.f2 == 0 then pubS p else if inR p.f4 1 65535 then pubS p else false) else false)
  else if p.f0 == 12 then true else if p.f0 == 13 then true else if p.f0 == 14 then true
  else if p.f0 == 8 then (if p.f22.all wantOk then (if inR p.f4 1 65535 then inR (p.f22.length : Int) 1 4 else false) else false)
  else if p.f0 == 9 then (if p.f24.all codeOk then (if inR p.f4 1 65535 then inR (p.f24.length : Int) 1 4 else false) else false)
  else if p.f0 == 10 then (if p.f23.all filterL then (if inR p.f4 1 65535 then inR (p.f23.length : Int) 1 4 else false) else false)
  else inR p.f4 1 65535
theorem implPacketOk (p : S42) (hp : Txt p) (q : Bool) (hq : okI p = q) : CallOb T Tryz.prog 36 [.ag (T.cells 42 p)] (.c (.sc (.bool q))) := by
  unfold okI at hq
  refine call_of_vc hT Tryz.func36 (by kernel_rfl) rfl rfl (fun A => ?_)
  conv => whnf
  repeat' (first
    | (refine Split.mk (fun c => ft_ c) (fun _ => ?_); conv => whnf)
    | (refine Split.mk (fun _ => ?_) (fun c => tf_ c); conv => whnf)
    | (refine Split.mk (fun _ => ?_) (fun c => cx_ (by assumption) c); conv => whnf)
    | (refine Split.mk (fun c => cx_ c (by assumption)) (fun _ => ?_); conv => whnf)
    | (refine Split.mk (fun c => ?_) (fun c => ?_) <;> (try simp only [c, decide_true, decide_false, if_true, if_false, Bool.false_eq_true] at hq) <;> conv => whnf)
    | (refine DrawQ.mk ⟨by kernel_rfl, by kernel_rfl⟩ ?_; conv => whnf)
    | (refine CallQ.mk _ (within _ _ _) ?_; conv => whnf)
    | (refine CallQ.mk _ (implNamed p _ rfl) ?_; conv => whnf)
    | (refine CallQ.mk _ (implSame p (nmI p) hp.fit (nmI_fit hp.fit)) ?_; conv => whnf)
    | (refine CallQ.mk _ (connectOk p hp _ rfl) ?_; conv => whnf)
    | (refine CallQ.mk _ (isQos _) ?_; conv => whnf)
    | (refine CallQ.mk _ (implTopicOk _ hp.t5) ?_; conv => whnf)
    | (refine CallQ.mk _ (isId _) ?_; conv => whnf)
    | (refine CallQ.mk _ (listsOk p hp) ?_; conv => whnf)
    | (subst hq; exact RetQ.mk ⟨rfl, rfl⟩ ⟨rfl, rfl⟩ ⟨rfl, trivial⟩))
theorem specPacketOk (p : S42) (hp : Txt p) (q : Bool) (hq : okS p = q) : CallOb T Tryz.prog 26 [.ag (T.cells 42 p)] (.c (.sc (.bool q))) := by
  unfold okS conS pubS at hq
  refine call_of_vc hT Tryz.func26 (by kernel_rfl) rfl rfl (fun A => ?_)
  conv => whnf
  repeat' (first
    | (refine Split.mk (fun c => ft_ c) (fun _ => ?_); conv => whnf)
    | (refine Split.mk (fun _ => ?_) (fun c => tf_ c); conv => whnf)
    | (refine Split.mk (fun _ => ?_) (fun c => cx_ (by assumption) c); conv => whnf)
    | (refine Split.mk (fun c => cx_ c (by assumption)) (fun _ => ?_); conv => whnf)
    | (refine Split.mk (fun c => ?_) (fun c => ?_) <;> (try simp only [c, decide_true, decide_false, if_true, if_false, Bool.false_eq_true] at hq) <;> conv => whnf)
    | (refine DrawQ.mk ⟨by kernel_rfl, by kernel_rfl⟩ ?_; conv => whnf)
    | (refine CallQ.mk _ (l1In _ _ _) ?_; conv => whnf)
    | (refine CallQ.mk _ (specNamed p _ rfl) ?_; conv => whnf)
    | (refine CallQ.mk _ (specSame p (nmS p) hp.fit (nmS_fit hp.fit)) ?_; conv => whnf)
    | (refine CallQ.mk _ (specTopicOk _ hp.t12) ?_; conv => whnf)
    | (refine CallQ.mk _ (specTopicOk _ hp.t5) ?_; conv => whnf)
    | (refine CallQ.mk _ (specTextOk _) ?_; conv => whnf)
    | (subst hq; exact RetQ.mk ⟨rfl, rfl⟩ ⟨rfl, rfl⟩ ⟨rfl, trivial⟩))
  · refine LoopQ.mk { k : Nat // k ≤ p.f22.length ∧ (p.f22.take k).all wantOk = true } (fun s => (2, [(4, i64 s.1), (3, bo (inR p.f4 1 65535)), (1, p00)], [(0, bxp p)])) (fun s => p.f22.length - s.1) ⟨0, Nat.zero_le _, rfl⟩ (imp_of [(0, 0)] rfl rfl rfl ⟨⟨rfl, rfl⟩, ⟨rfl, rfl⟩, ⟨rfl, rfl⟩, trivial⟩ ⟨⟨rfl, rfl⟩, trivial⟩) ?_
    rintro ⟨k, hk, ht⟩
    conv => whnf
    refine Split.mk (fun c => ?_) (fun c => ?_)
    · have hk2 : k < p.f22.length := ln_t c
      clear c
      conv => whnf
      refine Need.mk (idx hk2) ?_
      conv => whnf
      refine CallQ.mk _ (specFilterOk _ (hp.w22 _ (getD_mem (d := z56) hk2))) ?_
      conv => whnf
      refine Split.mk (fun c1 => ?_) (fun c1 => ?_)
      · conv => whnf
        repeat (refine Split.mk (fun _ => ?_) (fun c => tf_ c); conv => whnf)
        exact RetQ.mk ⟨rfl, rfl⟩ ⟨rfl, rfl⟩ ⟨bv (by rw [← hq, all_not (f := wantOk) (d := z56) hk2 (an_1 (not_t c1))]; rfl), trivial⟩
      · conv => whnf
        refine Need.mk (idx hk2) ?_
        conv => whnf
        refine CallQ.mk _ (l1In _ _ _) ?_
        conv => whnf
        refine Split.mk (fun c2 => ?_) (fun c2 => ?_)
        · conv => whnf
          exact RetQ.mk ⟨rfl, rfl⟩ ⟨rfl, rfl⟩ ⟨bv (by rw [← hq, all_not (f := wantOk) (d := z56) hk2 (an_2 (not_t c2))]; rfl), trivial⟩
        · conv => whnf
          exact NextQ.mk ⟨⟨k + 1, hk2, all_more (f := wantOk) (d := z56) hk2 ht (an_t (not_f c1) (not_f c2))⟩, Nat.sub_lt_sub_left hk2 (Nat.lt_succ_self k), imp_of [(0, 0)] rfl rfl rfl ⟨⟨rfl, congrArg i64 (sc_ hk2 hp.fit.l22)⟩, ⟨rfl, rfl⟩, ⟨rfl, rfl⟩, trivial⟩ ⟨⟨rfl, rfl⟩, trivial⟩⟩
    · have a := all_end (Nat.le_antisymm hk (ln_f c)) ht
      clear c
      rw [a] at hq
      simp only [if_true] at hq
      conv => whnf
      repeat' (first
        | (refine Split.mk (fun c => ft_ c) (fun _ => ?_); conv => whnf)
        | (refine Split.mk (fun _ => ?_) (fun c => tf_ c); conv => whnf)
        | (refine Split.mk (fun _ => ?_) (fun c => cx_ (by assumption) c); conv => whnf)
        | (refine Split.mk (fun c => cx_ c (by assumption)) (fun _ => ?_); conv => whnf)
        | (refine Split.mk (fun c => ?_) (fun c => ?_) <;> (try simp only [c, decide_true, decide_false, if_true, if_false, Bool.false_eq_true] at hq) <;> conv => whnf)
        | (refine DrawQ.mk ⟨by kernel_rfl, by kernel_rfl⟩ ?_; conv => whnf)
        | (refine CallQ.mk _ (l1In _ _ _) ?_; conv => whnf)
        | (subst hq; exact RetQ.mk ⟨rfl, rfl⟩ ⟨rfl, rfl⟩ ⟨rfl, trivial⟩))
  · refine LoopQ.mk { k : Nat // k ≤ p.f24.length ∧ (p.f24.take k).all codeOk = true } (fun s => (2, [(5, i64 s.1), (3, bo (inR p.f4 1 65535)), (1, p00)], [(0, bxp p)])) (fun s => p.f24.length - s.1) ⟨0, Nat.zero_le _, rfl⟩ (imp_of [(0, 0)] rfl rfl rfl ⟨⟨rfl, rfl⟩, ⟨rfl, rfl⟩, ⟨rfl, rfl⟩, trivial⟩ ⟨⟨rfl, rfl⟩, trivial⟩) ?_
    rintro ⟨k, hk, ht⟩
    conv => whnf
    refine Split.mk (fun c => ?_) (fun c => ?_)
    · have hk2 : k < p.f24.length := ln_t c
      clear c
      conv => whnf
      refine Need.mk (idx hk2) ?_
      conv => whnf
      refine CallQ.mk _ (l1In _ _ _) ?_
      conv => whnf
      refine Split.mk (fun c1 => ?_) (fun c1 => ?_)
      · conv => whnf
        refine Need.mk (idx hk2) ?_
        conv => whnf
        refine Split.mk (fun c2 => ?_) (fun c2 => ?_)
        · conv => whnf
          exact RetQ.mk ⟨rfl, rfl⟩ ⟨rfl, rfl⟩ ⟨bv (by rw [← hq, all_not (f := codeOk) (d := (0 : Int)) hk2 (or_1 (not_t c1) c2)]; rfl), trivial⟩
        · conv => whnf
          exact NextQ.mk ⟨⟨k + 1, hk2, all_more (f := codeOk) (d := (0 : Int)) hk2 ht (or_2 c2)⟩, Nat.sub_lt_sub_left hk2 (Nat.lt_succ_self k), imp_of [(0, 0)] rfl rfl rfl ⟨⟨rfl, congrArg i64 (sc_ hk2 hp.fit.l24)⟩, ⟨rfl, rfl⟩, ⟨rfl, rfl⟩, trivial⟩ ⟨⟨rfl, rfl⟩, trivial⟩⟩
      · conv => whnf
        repeat (refine Split.mk (fun c => ft_ c) (fun _ => ?_); conv => whnf)
        exact NextQ.mk ⟨⟨k + 1, hk2, all_more (f := codeOk) (d := (0 : Int)) hk2 ht (or_3 (not_f c1))⟩, Nat.sub_lt_sub_left hk2 (Nat.lt_succ_self k), imp_of [(0, 0)] rfl rfl rfl ⟨⟨rfl, congrArg i64 (sc_ hk2 hp.fit.l24)⟩, ⟨rfl, rfl⟩, ⟨rfl, rfl⟩, trivial⟩ ⟨⟨rfl, rfl⟩, trivial⟩⟩
    · have a := all_end (Nat.le_antisymm hk (ln_f c)) ht
      clear c
      rw [a] at hq
      simp only [if_true] at hq
      conv => whnf
      repeat' (first
        | (refine Split.mk (fun c => ft_ c) (fun _ => ?_); conv => whnf)
        | (refine Split.mk (fun _ => ?_) (fun c => tf_ c); conv => whnf)
        | (refine Split.mk (fun _ => ?_) (fun c => cx_ (by assumption) c); conv => whnf)
        | (refine Split.mk (fun c => cx_ c (by assumption)) (fun _ => ?_); conv => whnf)
        | (refine Split.mk (fun c => ?_) (fun c => ?_) <;> (try simp only [c, decide_true, decide_false, if_true, if_false, Bool.false_eq_true] at hq) <;> conv => whnf)
        | (refine DrawQ.mk ⟨by kernel_rfl, by kernel_rfl⟩ ?_; conv => whnf)
        | (refine CallQ.mk _ (l1In _ _ _) ?_; conv => whnf)
        | (subst hq; exact RetQ.mk ⟨rfl, rfl⟩ ⟨rfl, rfl⟩ ⟨rfl, trivial⟩))
  · refine LoopQ.mk { k : Nat // k ≤ p.f23.length ∧ (p.f23.take k).all filterL = true } (fun s => (2, [(6, i64 s.1), (3, bo (inR p.f4 1 65535)), (1, p00)], [(0, bxp p)])) (fun s => p.f23.length - s.1) ⟨0, Nat.zero_le _, rfl⟩ (imp_of [(0, 0)] rfl rfl rfl ⟨⟨rfl, rfl⟩, ⟨rfl, rfl⟩, ⟨rfl, rfl⟩, trivial⟩ ⟨⟨rfl, rfl⟩, trivial⟩) ?_
    rintro ⟨k, hk, ht⟩
    conv => whnf
    refine Split.mk (fun c => ?_) (fun c => ?_)
    · have hk2 : k < p.f23.length := ln_t c
      clear c
      conv => whnf
      refine Need.mk (idx hk2) ?_
      conv => whnf
      refine CallQ.mk _ (specFilterOk _ (hp.w23 _ (getD_mem (d := ByteArray.empty) hk2))) ?_
      conv => whnf
      refine Split.mk (fun c1 => ?_) (fun c1 => ?_)
      · conv => whnf
        exact RetQ.mk ⟨rfl, rfl⟩ ⟨rfl, rfl⟩ ⟨bv (by rw [← hq, all_not (f := filterL) (d := ByteArray.empty) hk2 (not_t c1)]; rfl), trivial⟩
      · conv => whnf
        exact NextQ.mk ⟨⟨k + 1, hk2, all_more (f := filterL) (d := ByteArray.empty) hk2 ht (not_f c1)⟩, Nat.sub_lt_sub_left hk2 (Nat.lt_succ_self k), imp_of [(0, 0)] rfl rfl rfl ⟨⟨rfl, congrArg i64 (sc_ hk2 hp.fit.l23)⟩, ⟨rfl, rfl⟩, ⟨rfl, rfl⟩, trivial⟩ ⟨⟨rfl, rfl⟩, trivial⟩⟩
    · have a := all_end (Nat.le_antisymm hk (ln_f c)) ht
      clear c
      rw [a] at hq
      simp only [if_true] at hq
      conv => whnf
      repeat' (first
        | (refine Split.mk (fun c => ft_ c) (fun _ => ?_); conv => whnf)
        | (refine Split.mk (fun _ => ?_) (fun c => tf_ c); conv => whnf)
        | (refine Split.mk (fun _ => ?_) (fun c => cx_ (by assumption) c); conv => whnf)
        | (refine Split.mk (fun c => cx_ c (by assumption)) (fun _ => ?_); conv => whnf)
        | (refine Split.mk (fun c => ?_) (fun c => ?_) <;> (try simp only [c, decide_true, decide_false, if_true, if_false, Bool.false_eq_true] at hq) <;> conv => whnf)
        | (refine DrawQ.mk ⟨by kernel_rfl, by kernel_rfl⟩ ?_; conv => whnf)
        | (refine CallQ.mk _ (l1In _ _ _) ?_; conv => whnf)
        | (subst hq; exact RetQ.mk ⟨rfl, rfl⟩ ⟨rfl, rfl⟩ ⟨rfl, trivial⟩))
end Go.Proofs.YtnflbiafmddpgaaGreatDoor.Q
end
section
/- A packet's bytes: what the functions of both sides answer, by the path calculus. Printed by a program of this work (gen_put2.py). -/
namespace Go.Proofs.YtnflbiafmddpgaaGreatDoor.Q
open Go.RowKit Go.Proofs.YtnflbiafmddpgaaGreatDoor.Z
open Go.Proofs.YtnflbiafmddpgaaGreatDoor.X (textOkP)
open Go.Proofs.YtnflbiafmddpgaaGreatDoor.Pure (topicL filterL)
set_option linter.unusedVariables false
set_option linter.unusedSimpArgs false
set_option maxRecDepth 100000
set_option maxHeartbeats 4000000
/-- A row of none in place of a nil slice, in front. -/
theorem nilRow {f : FuncId} {m : List (Arg T.Tb)} {e : Nat} {res : RS T.Tb} (h : CallOb T Tryz.prog f (.c (.sl e []) :: m) res) : CallOb T Tryz.prog f (.c (.sc (.slice none 0 0)) :: m) res := nilArg (l := []) h
def fl (b : Bool) (n : Int) : Int := if b then n else 0
theorem bit (b : Bool) (n : Int) : CallOb T Tryz.prog 61 [.c (.sc (.bool b)), .c (.sc (.int .i64 n))] (.c (.sc (.int .i64 (fl b n)))) := by
  refine call_of_vc hT Tryz.func61 (by kernel_rfl) rfl rfl (fun A => ?_)
  conv => whnf
  refine Split.mk (fun c => ?_) (fun c => ?_)
  · conv => whnf
    exact RetQ.mk ⟨rfl, rfl⟩ ⟨rfl, rfl⟩ ⟨iv (by rw [fl, c]; rfl), trivial⟩
  · conv => whnf
    exact RetQ.mk ⟨rfl, rfl⟩ ⟨rfl, rfl⟩ ⟨iv (by rw [fl, c]; rfl), trivial⟩
theorem l5Flag (b : Bool) (n : Int) : CallOb T Tryz.prog 28 [.c (.sc (.bool b)), .c (.sc (.int .i64 n))] (.c (.sc (.int .i64 (fl b n)))) := by
  refine call_of_vc hT Tryz.func28 (by kernel_rfl) rfl rfl (fun A => ?_)
  conv => whnf
  refine Split.mk (fun c => ?_) (fun c => ?_)
  · conv => whnf
    exact RetQ.mk ⟨rfl, rfl⟩ ⟨rfl, rfl⟩ ⟨iv (by rw [fl, c]; rfl), trivial⟩
  · conv => whnf
    exact RetQ.mk ⟨rfl, rfl⟩ ⟨rfl, rfl⟩ ⟨iv (by rw [fl, c]; rfl), trivial⟩
abbrev u8 (n : Int) : Int := IntKind.u8.wrap n
/-- What may be put: texts and rows that are not too long. -/
structure Bnd (p : S42) : Prop where
  txt : Txt p
  t7 : p.f7.size ≤ 1073741824
  t17 : p.f17.size ≤ 1073741824
  l6 : p.f6.length ≤ 1048576
  l13 : p.f13.length ≤ 1048576
  l19 : p.f19.length ≤ 1048576
  l22 : p.f22.length ≤ 1048576
  l23 : p.f23.length ≤ 1048576
  l24 : p.f24.length ≤ 1048576
def mq : ByteArray := ⟨#[77, 81, 84, 84]⟩
def flg (p : S42) : Int := wrap64 (wrap64 (wrap64 (wrap64 (wrap64 (fl p.f9 2 + fl p.f11 4) + wrap64 (8 * p.f14)) + fl p.f15 32) + fl p.f18 64) + fl p.f16 128)
def con1 (p : S42) : List Int := putT (putW (putT [] mq ++ [u8 p.f8, u8 (flg p)]) p.f10) p.f7
def con2 (p : S42) : List Int := if p.f11 then putB (putT (con1 p) p.f12) p.f13 else con1 p
def con3 (p : S42) : List Int := if p.f16 then putT (con2 p) p.f17 else con2 p
def conB (p : S42) : List Int := if p.f18 then putB (con3 p) p.f19 else con3 p
theorem con1_len (p : S42) : (con1 p).length ≤ 130 := by
  have h1 := putT_len (b := []) (s := mq)
  have h2 := putT_len (b := putW (putT [] mq ++ [u8 p.f8, u8 (flg p)]) p.f10) (s := p.f7)
  rw [putW_len, List.length_append] at h2
  simp at h1 h2
  unfold con1
  omega
theorem con2_len (p : S42) : (con2 p).length ≤ 260 := by
  have h := con1_len p
  unfold con2
  split
  · have h1 := putB_len (b := putT (con1 p) p.f12) (x := p.f13)
    have h2 := putT_len (b := con1 p) (s := p.f12)
    omega
  · omega
theorem con3_len (p : S42) : (con3 p).length ≤ 330 := by
  have h := con2_len p
  have h2 := putT_len (b := con2 p) (s := p.f17)
  unfold con3
  split <;> omega
theorem conB_len (p : S42) : (conB p).length ≤ 400 := by
  have h := con3_len p
  have h2 := putB_len (b := con3 p) (x := p.f19)
  unfold conB
  split <;> omega
theorem sr5 {l l' : List Int} (h : l = l') : SameRow (T := T) 5 l 5 l' := sr_ h
theorem connectBytes (p : S42) (hp : Bnd p) : CallOb T Tryz.prog 60 [.ag (T.cells 42 p)] (.c (.ow 5 (conB p))) := by
  have k1 := con1_len p
  have k2 := con2_len p
  have k3 := con3_len p
  have m1 := putT_len (b := []) (s := mq)
  refine call_of_Vc hT Tryz.func60 (by kernel_rfl) rfl rfl (fun A => ?_)
  refine Vc.seq 0 hT ?_
  conv => whnf
  refine Vc.seq 1 hT ?_
  conv => whnf
  refine CallQ.mk _ (bit _ _) ?_
  conv => whnf
  refine CallQ.mk _ (bit _ _) ?_
  conv => whnf
  refine CallQ.mk _ (bit _ _) ?_
  conv => whnf
  refine CallQ.mk _ (bit _ _) ?_
  conv => whnf
  refine CallQ.mk _ (bit _ _) ?_
  conv => whnf
  refine DrawQ.mk ⟨by kernel_rfl, by kernel_rfl⟩ ?_
  refine Vc.cut (α := Unit) 10 (fun _ => True) (fun _ => [(4, .c (.hd 1)), (1, p00)]) (fun _ => [(0, bxp p), (1, .row 1 5 (putT [] mq ++ [u8 p.f8, u8 (flg p)]))]) hT ?_ (fun _ _ => ?_)
  · conv => whnf
    refine CallQ.mk _ (nilRow (implPutText [] mq (by simp) (by decide))) ?_
    conv => whnf
    refine Need.mk (ap_ (show (putT [] mq).length + 2 ≤ 100000000000 by simp at m1; omega)) ?_
    conv => whnf
    refine DrawQ.mk ⟨by kernel_rfl, by kernel_rfl⟩ ?_
    exact CutQ.mk ⟨(), trivial, imp_of [(0, 0), (1, 12)] rfl rfl rfl ⟨⟨rfl, rfl⟩, ⟨rfl, rfl⟩, trivial⟩ ⟨⟨rfl, rfl⟩, rfl, trivial⟩⟩
  refine Vc.cut (α := Unit) 10 (fun _ => True) (fun _ => [(4, .c (.hd 1)), (1, p00)]) (fun _ => [(0, bxp p), (1, .row 1 5 (con1 p))]) hT ?_ (fun _ _ => ?_)
  · conv => whnf
    refine CallQ.mk _ (implPutWord (putT [] mq ++ [u8 p.f8, u8 (flg p)]) p.f10 (by simp at m1 ⊢; omega)) ?_
    conv => whnf
    refine CallQ.mk _ (implPutText (putW (putT [] mq ++ [u8 p.f8, u8 (flg p)]) p.f10) p.f7 (by rw [putW_len]; simp at m1 ⊢; omega) hp.t7) ?_
    conv => whnf
    refine DrawQ.mk ⟨by kernel_rfl, by kernel_rfl⟩ ?_
    exact CutQ.mk ⟨(), trivial, imp_of [(0, 0), (1, 11)] rfl rfl rfl ⟨⟨rfl, rfl⟩, ⟨rfl, rfl⟩, trivial⟩ ⟨⟨rfl, rfl⟩, rfl, trivial⟩⟩
  refine Vc.cut (α := Unit) 10 (fun _ => True) (fun _ => [(4, .c (.hd 1)), (1, p00)]) (fun _ => [(0, bxp p), (1, .row 1 5 (con2 p))]) hT ?_ (fun _ _ => ?_)
  · conv => whnf
    refine Split.mk (fun c => ?_) (fun c => ?_)
    · conv => whnf
      refine CallQ.mk _ (implPutText (con1 p) p.f12 (by omega) hp.txt.t12) ?_
      conv => whnf
      refine CallQ.mk _ (implPutBytes (putT (con1 p) p.f12) p.f13 (by have := putT_len (b := con1 p) (s := p.f12); omega) (by have := hp.l13; omega)) ?_
      conv => whnf
      refine DrawQ.mk ⟨by kernel_rfl, by kernel_rfl⟩ ?_
      exact CutQ.mk ⟨(), trivial, imp_of [(0, 0), (1, 11)] rfl rfl rfl ⟨⟨rfl, rfl⟩, ⟨rfl, rfl⟩, trivial⟩ ⟨⟨rfl, rfl⟩, sr5 (by rw [con2, c]; rfl), trivial⟩⟩
    · conv => whnf
      exact CutQ.mk ⟨(), trivial, imp_of [(0, 0), (1, 1)] rfl rfl rfl ⟨⟨rfl, rfl⟩, ⟨rfl, rfl⟩, trivial⟩ ⟨⟨rfl, rfl⟩, sr5 (by rw [con2, c]; rfl), trivial⟩⟩
  refine Vc.cut (α := Unit) 10 (fun _ => True) (fun _ => [(4, .c (.hd 1)), (1, p00)]) (fun _ => [(0, bxp p), (1, .row 1 5 (con3 p))]) hT ?_ (fun _ _ => ?_)
  · conv => whnf
    refine Split.mk (fun c => ?_) (fun c => ?_)
    · conv => whnf
      refine CallQ.mk _ (implPutText (con2 p) p.f17 (by omega) hp.t17) ?_
      conv => whnf
      exact CutQ.mk ⟨(), trivial, imp_of [(0, 0), (1, 10)] rfl rfl rfl ⟨⟨rfl, rfl⟩, ⟨rfl, rfl⟩, trivial⟩ ⟨⟨rfl, rfl⟩, sr5 (by rw [con3, c]; rfl), trivial⟩⟩
    · conv => whnf
      exact CutQ.mk ⟨(), trivial, imp_of [(0, 0), (1, 1)] rfl rfl rfl ⟨⟨rfl, rfl⟩, ⟨rfl, rfl⟩, trivial⟩ ⟨⟨rfl, rfl⟩, sr5 (by rw [con3, c]; rfl), trivial⟩⟩
  refine Vc.cut (α := Unit) 10 (fun _ => True) (fun _ => [(4, .c (.hd 1)), (1, p00)]) (fun _ => [(0, bxp p), (1, .row 1 5 (conB p))]) hT ?_ (fun _ _ => ?_)
  · conv => whnf
    refine Split.mk (fun c => ?_) (fun c => ?_)
    · conv => whnf
      refine CallQ.mk _ (implPutBytes (con3 p) p.f19 (by omega) (by have := hp.l19; omega)) ?_
      conv => whnf
      exact CutQ.mk ⟨(), trivial, imp_of [(0, 0), (1, 10)] rfl rfl rfl ⟨⟨rfl, rfl⟩, ⟨rfl, rfl⟩, trivial⟩ ⟨⟨rfl, rfl⟩, sr5 (by rw [conB, c]; rfl), trivial⟩⟩
    · conv => whnf
      exact CutQ.mk ⟨(), trivial, imp_of [(0, 0), (1, 1)] rfl rfl rfl ⟨⟨rfl, rfl⟩, ⟨rfl, rfl⟩, trivial⟩ ⟨⟨rfl, rfl⟩, sr5 (by rw [conB, c]; rfl), trivial⟩⟩
  refine Vc.of 10 hT ?_
  conv => whnf
  exact RetQ.mk ⟨rfl, rfl⟩ ⟨rfl, rfl⟩ ⟨rfl, trivial⟩
/-! ### rows that are put one by one -/
def wanB (out : List Int) (l : List S56) : List Int := l.foldl (fun o w => putT o w.f0 ++ [u8 w.f1]) out
def codB (out : List Int) (l : List Int) : List Int := l.foldl (fun o c => o ++ [u8 c]) out
def namB (out : List Int) (l : List ByteArray) : List Int := l.foldl (fun o s => putT o s) out
theorem fold_take {α β : Type} {f : β → α → β} {d : α} {b : β} {l : List α} {k : Nat} (h : k < l.length) : f ((l.take k).foldl f b) (l.getD k d) = (l.take (k + 1)).foldl f b := by
  rw [List.take_succ_eq_append_getElem h, List.foldl_append]
  have : l.getD k d = l[k] := by simp [h]
  rw [this]; rfl
theorem wan_take {b : List Int} {l : List S56} {k : Nat} (h : k < l.length) : putT (wanB b (l.take k)) (l.getD k z56).f0 ++ [u8 (l.getD k z56).f1] = wanB b (l.take (k + 1)) := fold_take (f := fun o (w : S56) => putT o w.f0 ++ [u8 w.f1]) h
theorem cod_take {b : List Int} {l : List Int} {k : Nat} (h : k < l.length) : codB b (l.take k) ++ [u8 (l.getD k 0)] = codB b (l.take (k + 1)) := fold_take (f := fun o (c : Int) => o ++ [u8 c]) h
theorem nam_take {b : List Int} {l : List ByteArray} {k : Nat} (h : k < l.length) : putT (namB b (l.take k)) (l.getD k ByteArray.empty) = namB b (l.take (k + 1)) := fold_take (f := fun o (c : ByteArray) => putT o c) h
theorem fold_len {α : Type} {f : List Int → α → List Int} {m : Nat} (hf : ∀ o x, (f o x).length ≤ o.length + m) : ∀ {l : List α} {b : List Int}, (l.foldl f b).length ≤ b.length + m * l.length
  | [], b => by simp
  | x :: l, b => by
    have h1 := fold_len hf (l := l) (b := f b x)
    have h2 := hf b x
    simp only [List.foldl_cons, List.length_cons, Nat.mul_succ]
    omega
theorem wanB_len {out : List Int} {l : List S56} : (wanB out l).length ≤ out.length + 63 * l.length := fold_len (fun o w => by have := putT_len (b := o) (s := w.f0); rw [List.length_append, List.length_singleton]; omega)
theorem codB_len {out : List Int} {l : List Int} : (codB out l).length ≤ out.length + 1 * l.length := fold_len (fun o w => by rw [List.length_append, List.length_singleton]; omega)
theorem namB_len {out : List Int} {l : List ByteArray} : (namB out l).length ≤ out.length + 62 * l.length := fold_len (fun o w => putT_len)
theorem take_le {α : Type} {l : List α} {k n : Nat} (h : l.length ≤ n) : (l.take k).length ≤ n := by rw [List.length_take]; omega
def folTail (p : S42) (b : List Int) : List Int := namB (codB (wanB b p.f22) p.f24) p.f23
def folI (p : S42) : List Int := if p.f0 == 1 then conB p else if p.f0 == 2 then [u8 (fl p.f21 1), u8 p.f20] else if p.f0 == 3 then (if decide (p.f2 > 0) then putW (putT [] p.f5) p.f4 else putT [] p.f5) ++ p.f6 else if p.f0 == 12 then [] else if p.f0 == 13 then [] else if p.f0 == 14 then [] else folTail p (putW [] p.f4)
end Go.Proofs.YtnflbiafmddpgaaGreatDoor.Q
end
section
/- A packet's bytes: following, firstByte, PutPacket of both sides, by the path calculus. Printed by a program of this work (gen_put2.py). -/
namespace Go.Proofs.YtnflbiafmddpgaaGreatDoor.Q
open Go.RowKit Go.Proofs.YtnflbiafmddpgaaGreatDoor.Z
open Go.Proofs.YtnflbiafmddpgaaGreatDoor.X (textOkP)
open Go.Proofs.YtnflbiafmddpgaaGreatDoor.Pure (topicL filterL)
set_option linter.unusedVariables false
set_option linter.unusedSimpArgs false
set_option maxRecDepth 100000
set_option maxHeartbeats 4000000
def fstI (p : S42) : Int := if p.f0 == 3 then wrap64 (wrap64 (16 * p.f0) + wrap64 (wrap64 (fl p.f1 8 + wrap64 (2 * p.f2)) + fl p.f3 1)) else if p.f0 == 6 then wrap64 (wrap64 (16 * p.f0) + 2) else if p.f0 == 8 then wrap64 (wrap64 (16 * p.f0) + 2) else if p.f0 == 10 then wrap64 (wrap64 (16 * p.f0) + 2) else wrap64 (16 * p.f0)
theorem firstByte (p : S42) (q : Int) (hq : fstI p = q) : CallOb T Tryz.prog 40 [.ag (T.cells 42 p)] (.c (.sc (.int .i64 q))) := by
  unfold fstI at hq
  refine call_of_vc hT Tryz.func40 (by kernel_rfl) rfl rfl (fun A => ?_)
  conv => whnf
  repeat' (first
    | (refine Split.mk (fun c => ft_ c) (fun _ => ?_); conv => whnf)
    | (refine Split.mk (fun _ => ?_) (fun c => tf_ c); conv => whnf)
    | (refine Split.mk (fun _ => ?_) (fun c => cx_ (by assumption) c); conv => whnf)
    | (refine Split.mk (fun c => cx_ c (by assumption)) (fun _ => ?_); conv => whnf)
    | (refine Split.mk (fun c => ?_) (fun c => ?_) <;> (try simp only [c, decide_true, decide_false, if_true, if_false, Bool.false_eq_true] at hq) <;> conv => whnf)
    | (refine DrawQ.mk ⟨by kernel_rfl, by kernel_rfl⟩ ?_; conv => whnf)
    | (refine CallQ.mk _ (bit _ _) ?_; conv => whnf)
    | (subst hq; exact RetQ.mk ⟨rfl, rfl⟩ ⟨rfl, rfl⟩ ⟨rfl, trivial⟩))
theorem following (p : S42) (hp : Bnd p) (q : List Int) (hq : folI p = q) : CallOb T Tryz.prog 37 [.ag (T.cells 42 p)] (.c (.ow 5 q)) := by
  have m5 := putT_len (b := []) (s := p.f5)
  unfold folI at hq
  refine call_of_vc hT Tryz.func37 (by kernel_rfl) rfl rfl (fun A => ?_)
  conv => whnf
  repeat' (first
    | (refine Split.mk (fun c => ft_ c) (fun _ => ?_); conv => whnf)
    | (refine Split.mk (fun _ => ?_) (fun c => tf_ c); conv => whnf)
    | (refine Split.mk (fun _ => ?_) (fun c => cx_ (by assumption) c); conv => whnf)
    | (refine Split.mk (fun c => cx_ c (by assumption)) (fun _ => ?_); conv => whnf)
    | (refine Split.mk (fun c => ?_) (fun c => ?_) <;> (try simp only [c, decide_true, decide_false, if_true, if_false, Bool.false_eq_true] at hq) <;> conv => whnf)
    | (refine DrawQ.mk ⟨by kernel_rfl, by kernel_rfl⟩ ?_; conv => whnf)
    | (refine CallQ.mk _ (connectBytes p hp) ?_; conv => whnf)
    | (refine CallQ.mk _ (bit _ _) ?_; conv => whnf)
    | (refine CallQ.mk _ (implPutText [] p.f5 (by simp) hp.txt.t5) ?_; conv => whnf)
    | (refine CallQ.mk _ (implPutWord (putT [] p.f5) p.f4 (by simp at m5; omega)) ?_; conv => whnf)
    | (refine CallQ.mk _ (implPutWord [] p.f4 (by simp)) ?_; conv => whnf)
    | (refine CallQ.mk _ (joined [putW (putT [] p.f5) p.f4, p.f6] (by simp) (all2 (by rw [putW_len]; simp at m5; omega) (by have := hp.l6; omega))) ?_; conv => whnf)
    | (refine CallQ.mk _ (joined [putT [] p.f5, p.f6] (by simp) (all2 (by simp at m5; omega) (by have := hp.l6; omega))) ?_; conv => whnf)
    | (subst hq; exact RetQ.mk ⟨rfl, rfl⟩ ⟨rfl, rfl⟩ ⟨by first | exact sr5 fl2 | rfl, trivial⟩))
  refine LoopQ.mk { k : Nat // k ≤ p.f22.length } (fun s => (2, [(57, i64 s.1), (56, i64 p.f22.length), (55, im 56 p.f22), (3, .c (.hd 1)), (1, p00)], [(0, bxp p), (1, .row 1 5 (wanB (putW [] p.f4) (p.f22.take s.1)))])) (fun s => p.f22.length - s.1) ⟨0, Nat.zero_le _⟩ (imp_of [(0, 0), (1, 2)] rfl rfl rfl ⟨⟨rfl, rfl⟩, ⟨rfl, rfl⟩, ⟨rfl, rfl⟩, ⟨rfl, rfl⟩, ⟨rfl, rfl⟩, trivial⟩ ⟨⟨rfl, rfl⟩, sr5 rfl, trivial⟩) ?_
  rintro ⟨k, hk⟩
  have hb22 := wanB_len (out := (putW [] p.f4)) (l := p.f22.take k)
  have ht22 : (p.f22.take k).length ≤ 1048576 := take_le hp.l22
  conv => whnf
  refine Split.mk (fun c => ?_) (fun c => ?_)
  · have hk2 : k < p.f22.length := ln_t c
    clear c
    conv => whnf
    refine Need.mk (idx hk2) ?_
    conv => whnf
    refine CallQ.mk _ (implPutText (wanB (putW [] p.f4) (p.f22.take k)) _ (by rw [putW_len] at hb22; simp only [List.length_nil] at hb22; omega) (hp.txt.w22 _ (getD_mem (d := z56) hk2))) ?_
    conv => whnf
    refine Need.mk (ap_ (show (putT (wanB (putW [] p.f4) (p.f22.take k)) (p.f22.getD k z56).f0).length + 1 ≤ 100000000000 by have := putT_len (b := wanB (putW [] p.f4) (p.f22.take k)) (s := (p.f22.getD k z56).f0); rw [putW_len] at hb22; simp only [List.length_nil] at hb22; omega)) ?_
    conv => whnf
    refine DrawQ.mk ⟨by kernel_rfl, by kernel_rfl⟩ ?_
    conv => whnf
    exact NextQ.mk ⟨⟨k + 1, hk2⟩, Nat.sub_lt_sub_left hk2 (Nat.lt_succ_self k), imp_of [(0, 0), (1, 5)] rfl rfl rfl ⟨⟨rfl, congrArg i64 (sc_ hk2 (by have := hp.l22; omega))⟩, ⟨rfl, rfl⟩, ⟨rfl, rfl⟩, ⟨rfl, rfl⟩, ⟨rfl, rfl⟩, trivial⟩ ⟨⟨rfl, rfl⟩, sr5 (wan_take hk2), trivial⟩⟩
  have e22 : p.f22.take k = p.f22 := by rw [Nat.le_antisymm hk (ln_f c)]; exact List.take_length
  clear c
  conv => whnf
  rw [e22]
  obtain ⟨W22, hW⟩ : ∃ W22, wanB (putW [] p.f4) p.f22 = W22 := ⟨_, rfl⟩
  have hW2 : W22.length ≤ 66061000 := by have := wanB_len (out := putW [] p.f4) (l := p.f22); have := hp.l22; rw [hW, putW_len] at *; simp at *; omega
  rw [hW]
  unfold folTail at hq
  rw [hW] at hq
  refine LoopQ.mk { k : Nat // k ≤ p.f24.length } (fun s => (2, [(74, i64 s.1), (73, i64 p.f24.length), (72, im 3 p.f24), (3, .c (.hd 1)), (1, p00)], [(0, bxp p), (1, .row 1 5 (codB W22 (p.f24.take s.1)))])) (fun s => p.f24.length - s.1) ⟨0, Nat.zero_le _⟩ (imp_of [(0, 0), (1, 1)] rfl rfl rfl ⟨⟨rfl, rfl⟩, ⟨rfl, rfl⟩, ⟨rfl, rfl⟩, ⟨rfl, rfl⟩, ⟨rfl, rfl⟩, trivial⟩ ⟨⟨rfl, rfl⟩, sr5 rfl, trivial⟩) ?_
  rintro ⟨k, hk⟩
  have hb24 := codB_len (out := W22) (l := p.f24.take k)
  have ht24 : (p.f24.take k).length ≤ 1048576 := take_le hp.l24
  conv => whnf
  refine Split.mk (fun c => ?_) (fun c => ?_)
  · have hk2 : k < p.f24.length := ln_t c
    clear c
    conv => whnf
    refine Need.mk (idx hk2) ?_
    conv => whnf
    refine Need.mk (ap_ (show (codB W22 (p.f24.take k)).length + 1 ≤ 100000000000 by omega)) ?_
    conv => whnf
    exact NextQ.mk ⟨⟨k + 1, hk2⟩, Nat.sub_lt_sub_left hk2 (Nat.lt_succ_self k), imp_of [(0, 0), (1, 3)] rfl rfl rfl ⟨⟨rfl, congrArg i64 (sc_ hk2 (by have := hp.l24; omega))⟩, ⟨rfl, rfl⟩, ⟨rfl, rfl⟩, ⟨rfl, rfl⟩, ⟨rfl, rfl⟩, trivial⟩ ⟨⟨rfl, rfl⟩, sr5 (cod_take hk2), trivial⟩⟩
  have e24 : p.f24.take k = p.f24 := by rw [Nat.le_antisymm hk (ln_f c)]; exact List.take_length
  clear c
  conv => whnf
  rw [e24]
  obtain ⟨C24, hC⟩ : ∃ C24, codB W22 p.f24 = C24 := ⟨_, rfl⟩
  have hC2 : C24.length ≤ 68000000 := by have := codB_len (out := W22) (l := p.f24); have := hp.l24; rw [hC] at *; omega
  rw [hC]
  rw [hC] at hq
  refine LoopQ.mk { k : Nat // k ≤ p.f23.length } (fun s => (2, [(87, i64 s.1), (86, i64 p.f23.length), (85, im 9 p.f23), (3, .c (.hd 1)), (1, p00)], [(0, bxp p), (1, .row 1 5 (namB C24 (p.f23.take s.1)))])) (fun s => p.f23.length - s.1) ⟨0, Nat.zero_le _⟩ (imp_of [(0, 0), (1, 1)] rfl rfl rfl ⟨⟨rfl, rfl⟩, ⟨rfl, rfl⟩, ⟨rfl, rfl⟩, ⟨rfl, rfl⟩, ⟨rfl, rfl⟩, trivial⟩ ⟨⟨rfl, rfl⟩, sr5 rfl, trivial⟩) ?_
  rintro ⟨k, hk⟩
  have hb23 := namB_len (out := C24) (l := p.f23.take k)
  have ht23 : (p.f23.take k).length ≤ 1048576 := take_le hp.l23
  conv => whnf
  refine Split.mk (fun c => ?_) (fun c => ?_)
  · have hk2 : k < p.f23.length := ln_t c
    clear c
    conv => whnf
    refine Need.mk (idx hk2) ?_
    conv => whnf
    refine CallQ.mk _ (implPutText (namB C24 (p.f23.take k)) _ (by omega) (hp.txt.w23 _ (getD_mem (d := ByteArray.empty) hk2))) ?_
    conv => whnf
    exact NextQ.mk ⟨⟨k + 1, hk2⟩, Nat.sub_lt_sub_left hk2 (Nat.lt_succ_self k), imp_of [(0, 0), (1, 2)] rfl rfl rfl ⟨⟨rfl, congrArg i64 (sc_ hk2 (by have := hp.l23; omega))⟩, ⟨rfl, rfl⟩, ⟨rfl, rfl⟩, ⟨rfl, rfl⟩, ⟨rfl, rfl⟩, trivial⟩ ⟨⟨rfl, rfl⟩, sr5 (nam_take hk2), trivial⟩⟩
  have e23 : p.f23.take k = p.f23 := by rw [Nat.le_antisymm hk (ln_f c)]; exact List.take_length
  clear c
  conv => whnf
  rw [e23]
  subst hq
  exact RetQ.mk ⟨rfl, rfl⟩ ⟨rfl, rfl⟩ ⟨rfl, trivial⟩
end Go.Proofs.YtnflbiafmddpgaaGreatDoor.Q
end
section
/- The law FnExactPacketOk's function answers true: both sides call the same packets right. Printed by a program of this work (gen_pok4.py). -/
namespace Go.Proofs.YtnflbiafmddpgaaGreatDoor.Q
open Go.RowKit Go.Proofs.YtnflbiafmddpgaaGreatDoor.Z
open Go.Proofs.YtnflbiafmddpgaaGreatDoor.X (textOkP)
open Go.Proofs.YtnflbiafmddpgaaGreatDoor.Pure (topicL filterL)
set_option linter.unusedVariables false
set_option linter.unusedSimpArgs false
set_option maxRecDepth 100000
set_option maxHeartbeats 4000000
theorem nm_eq {p : S42} (h : (p.f0 == 2) = false) : nmS p = nmI p := by
  unfold nmS nmI
  simp only [h, Bool.false_eq_true, if_false]
theorem le_gt (n : Nat) : decide ((n : Int) > 40) = !decide ((n : Int) ≤ 40) := by
  by_cases h : (n : Int) ≤ 40
  · rw [decide_eq_true h, decide_eq_false (by omega)]; rfl
  · rw [decide_eq_false h, decide_eq_true (by omega)]; rfl
theorem con_eq (p : S42) : (if p.f11 then (if !topicL p.f12 then false else if decide ((@List.length (T.Tb 5) p.f13 : Int) > 40) then false else if !inR p.f14 0 2 then false else conS p) else conS p) = conI p := by
  unfold conS conI conI1
  rw [le_gt]
  generalize inR p.f8 0 255 = x1
  generalize textOkP p.f7 = x2
  generalize inR p.f10 0 65535 = x3
  generalize p.f11 = x4
  generalize topicL p.f12 = x5
  generalize decide ((@List.length (T.Tb 5) p.f13 : Int) ≤ 40) = x6
  generalize inR p.f14 0 2 = x7
  generalize textOkP p.f17 = x8
  generalize decide ((@List.length (T.Tb 5) p.f19 : Int) ≤ 60) = x9
  revert x1 x2 x3 x4 x5 x6 x7 x8 x9
  decide +kernel
theorem ok_eq (p : S42) : okI p = okS p := by
  cases hin : inR p.f0 1 14 with
  | false => unfold okI okS; rw [hin]; rfl
  | true =>
    have : p.f0 = 1 ∨ p.f0 = 2 ∨ p.f0 = 3 ∨ p.f0 = 4 ∨ p.f0 = 5 ∨ p.f0 = 6 ∨ p.f0 = 7 ∨ p.f0 = 8 ∨ p.f0 = 9 ∨ p.f0 = 10 ∨ p.f0 = 11 ∨ p.f0 = 12 ∨ p.f0 = 13 ∨ p.f0 = 14 := by simp only [inR, Bool.and_eq_true, decide_eq_true_eq] at hin; omega
    rcases this with h | h | h | h | h | h | h | h | h | h | h | h | h | h
    · unfold okI okS
      rw [hin, con_eq, nm_eq (p := p) (by rw [h]; rfl)]
      simp only [h, Int.reduceBEq, if_true, if_false, Bool.false_eq_true, Bool.not_true, Bool.not_false, beq_self_eq_true, Bool.true_eq_false]
    · have hI : okI p = if !same p (nmI p) then false else (if inR p.f20 0 5 then (if !p.f21 then true else p.f20 == 0) else false) := by unfold okI; rw [hin]; simp only [h, Int.reduceBEq, if_true, if_false, Bool.false_eq_true, Bool.not_true, Bool.not_false, beq_self_eq_true, Bool.true_eq_false]
      have hS : okS p = if !same p (nmS p) then false else inR p.f20 0 5 := by unfold okS; rw [hin]; simp only [h, Int.reduceBEq, if_true, if_false, Bool.false_eq_true, Bool.not_true, Bool.not_false, beq_self_eq_true, Bool.true_eq_false]
      have h21 : (nmS p).f21 = (if p.f21 then p.f20 == 0 else false) := by simp only [nmS, h, Int.reduceBEq, if_true, if_false, Bool.false_eq_true, Bool.not_true, Bool.not_false, beq_self_eq_true, Bool.true_eq_false]
      have hx : p.f21 = (if p.f21 then p.f20 == 0 else false) → nmS p = nmI p := fun e => by simp only [nmS, nmI, h, Int.reduceBEq, if_true, if_false, Bool.false_eq_true, Bool.not_true, Bool.not_false, beq_self_eq_true, Bool.true_eq_false, ← e]
      rw [hI, hS]
      cases h1 : p.f21 with
      | false => rw [hx (by rw [h1]; rfl)]; simp
      | true =>
        cases h2 : (p.f20 == 0) with
        | true => rw [hx (by rw [h1, h2]; rfl)]; simp
        | false =>
          have : same p (nmS p) = false := same_f (fun e => by have := congrArg S42.f21 e; rw [h21, h1, h2] at this; cases this)
          rw [this]
          cases same p (nmI p) <;> cases inR p.f20 0 5 <;> rfl
    · simp only [okI, okS, hin, nm_eq (p := p) (by rw [h]; rfl), h, Int.reduceBEq, if_true, if_false, Bool.false_eq_true, Bool.not_true, Bool.not_false, beq_self_eq_true, Bool.true_eq_false]
      unfold pubS
      generalize same p (nmI p) = x1
      generalize inR p.f2 0 2 = x2
      generalize topicL p.f5 = x3
      generalize decide ((@List.length (T.Tb 5) p.f6 : Int) ≤ 40) = x4
      generalize (p.f2 == 0) = x5
      generalize inR p.f4 1 65535 = x6
      revert x1 x2 x3 x4 x5 x6
      decide +kernel
    · simp only [okI, okS, hin, nm_eq (p := p) (by rw [h]; rfl), h, Int.reduceBEq, if_true, if_false, Bool.false_eq_true, Bool.not_true, Bool.not_false, beq_self_eq_true, Bool.true_eq_false]
    · simp only [okI, okS, hin, nm_eq (p := p) (by rw [h]; rfl), h, Int.reduceBEq, if_true, if_false, Bool.false_eq_true, Bool.not_true, Bool.not_false, beq_self_eq_true, Bool.true_eq_false]
    · simp only [okI, okS, hin, nm_eq (p := p) (by rw [h]; rfl), h, Int.reduceBEq, if_true, if_false, Bool.false_eq_true, Bool.not_true, Bool.not_false, beq_self_eq_true, Bool.true_eq_false]
    · simp only [okI, okS, hin, nm_eq (p := p) (by rw [h]; rfl), h, Int.reduceBEq, if_true, if_false, Bool.false_eq_true, Bool.not_true, Bool.not_false, beq_self_eq_true, Bool.true_eq_false]
    · simp only [okI, okS, hin, nm_eq (p := p) (by rw [h]; rfl), h, Int.reduceBEq, if_true, if_false, Bool.false_eq_true, Bool.not_true, Bool.not_false, beq_self_eq_true, Bool.true_eq_false]
      cases hs : same p (nmI p) with
      | false => rfl
      | true =>
        have e := of_same hs
        have e23 : p.f23 = [] := (congrArg S42.f23 e).trans (by simp only [nmI, h, Int.reduceBEq, if_true, if_false, Bool.false_eq_true, Bool.not_true, Bool.not_false, beq_self_eq_true, Bool.true_eq_false])
        have e24 : p.f24 = [] := (congrArg S42.f24 e).trans (by simp only [nmI, h, Int.reduceBEq, if_true, if_false, Bool.false_eq_true, Bool.not_true, Bool.not_false, beq_self_eq_true, Bool.true_eq_false])
        rw [show lisI p = (p.f22.all wantOk && inR (p.f22.length : Int) 1 4) from by simp [lisI, e23, e24]]
        simp only [if_true, if_false, Bool.not_true, Bool.false_eq_true]
        generalize p.f22.all wantOk = x1
        generalize inR p.f4 1 65535 = x2
        generalize inR _ 1 4 = x3
        cases x1 <;> cases x2 <;> cases x3 <;> rfl
    · simp only [okI, okS, hin, nm_eq (p := p) (by rw [h]; rfl), h, Int.reduceBEq, if_true, if_false, Bool.false_eq_true, Bool.not_true, Bool.not_false, beq_self_eq_true, Bool.true_eq_false]
      cases hs : same p (nmI p) with
      | false => rfl
      | true =>
        have e := of_same hs
        have e22 : p.f22 = [] := (congrArg S42.f22 e).trans (by simp only [nmI, h, Int.reduceBEq, if_true, if_false, Bool.false_eq_true, Bool.not_true, Bool.not_false, beq_self_eq_true, Bool.true_eq_false])
        have e23 : p.f23 = [] := (congrArg S42.f23 e).trans (by simp only [nmI, h, Int.reduceBEq, if_true, if_false, Bool.false_eq_true, Bool.not_true, Bool.not_false, beq_self_eq_true, Bool.true_eq_false])
        rw [show lisI p = (p.f24.all codeOk && inR (p.f24.length : Int) 1 4) from by simp [lisI, e22, e23]]
        simp only [if_true, if_false, Bool.not_true, Bool.false_eq_true]
        generalize p.f24.all codeOk = x1
        generalize inR p.f4 1 65535 = x2
        generalize inR _ 1 4 = x3
        cases x1 <;> cases x2 <;> cases x3 <;> rfl
    · simp only [okI, okS, hin, nm_eq (p := p) (by rw [h]; rfl), h, Int.reduceBEq, if_true, if_false, Bool.false_eq_true, Bool.not_true, Bool.not_false, beq_self_eq_true, Bool.true_eq_false]
      cases hs : same p (nmI p) with
      | false => rfl
      | true =>
        have e := of_same hs
        have e22 : p.f22 = [] := (congrArg S42.f22 e).trans (by simp only [nmI, h, Int.reduceBEq, if_true, if_false, Bool.false_eq_true, Bool.not_true, Bool.not_false, beq_self_eq_true, Bool.true_eq_false])
        have e24 : p.f24 = [] := (congrArg S42.f24 e).trans (by simp only [nmI, h, Int.reduceBEq, if_true, if_false, Bool.false_eq_true, Bool.not_true, Bool.not_false, beq_self_eq_true, Bool.true_eq_false])
        rw [show lisI p = (p.f23.all filterL && inR (p.f23.length : Int) 1 4) from by simp [lisI, e22, e24]]
        simp only [if_true, if_false, Bool.not_true, Bool.false_eq_true]
        generalize p.f23.all filterL = x1
        generalize inR p.f4 1 65535 = x2
        generalize inR _ 1 4 = x3
        cases x1 <;> cases x2 <;> cases x3 <;> rfl
    · simp only [okI, okS, hin, nm_eq (p := p) (by rw [h]; rfl), h, Int.reduceBEq, if_true, if_false, Bool.false_eq_true, Bool.not_true, Bool.not_false, beq_self_eq_true, Bool.true_eq_false]
    · simp only [okI, okS, hin, nm_eq (p := p) (by rw [h]; rfl), h, Int.reduceBEq, if_true, if_false, Bool.false_eq_true, Bool.not_true, Bool.not_false, beq_self_eq_true, Bool.true_eq_false]
    · simp only [okI, okS, hin, nm_eq (p := p) (by rw [h]; rfl), h, Int.reduceBEq, if_true, if_false, Bool.false_eq_true, Bool.not_true, Bool.not_false, beq_self_eq_true, Bool.true_eq_false]
    · simp only [okI, okS, hin, nm_eq (p := p) (by rw [h]; rfl), h, Int.reduceBEq, if_true, if_false, Bool.false_eq_true, Bool.not_true, Bool.not_false, beq_self_eq_true, Bool.true_eq_false]
theorem szG_mem {α : Type} {f : α → Nat} : ∀ {l : List α} {x : Int}, 0 ≤ szG f l x → ∀ y ∈ l, (f y : Int) ≤ x
  | [], _, _, y, h => by cases h
  | a :: l, x, h, y, hy => by
    obtain ⟨g, h2⟩ := tS_inv (r := szL (f a) x) (K := szG f l) h
    have m := szL_le' g
    rcases List.mem_cons.1 hy with rfl | hy
    · exact m.1
    · exact Int.le_trans (szG_mem h2 y hy) m.2
theorem tG_mem {α : Type} {f : α → Nat} {l : List α} {n : Nat} {x : Int} (g : 0 ≤ thenS (szL n x) (szG f l)) : ∀ y ∈ l, (f y : Int) ≤ x := fun y hy => Int.le_trans (szG_mem (tS_inv g).2 y hy) (szL_le' (tS_inv g).1).2
theorem szP_txt (p : S38) (x : Int) (h0 : 0 ≤ x) (hx : x ≤ 1048576) (hf : Fit p) (h : 0 ≤ szP p x) : Txt (toP p) := by
  unfold szP at h
  obtain ⟨g, h⟩ := tS_inv h
  have m5 := szL_le' g
  have n5 := Int.le_trans m5.1 hx
  replace hx := Int.le_trans m5.2 hx
  replace h0 := g
  clear m5 g
  obtain ⟨g, h⟩ := tS_inv h
  have m6 := szL_le' g
  have n6 := Int.le_trans m6.1 hx
  replace hx := Int.le_trans m6.2 hx
  replace h0 := g
  clear m6 g
  obtain ⟨g, h⟩ := tS_inv h
  have m7 := szL_le' g
  have n7 := Int.le_trans m7.1 hx
  replace hx := Int.le_trans m7.2 hx
  replace h0 := g
  clear m7 g
  obtain ⟨g, h⟩ := tS_inv h
  have m12 := szL_le' g
  have n12 := Int.le_trans m12.1 hx
  replace hx := Int.le_trans m12.2 hx
  replace h0 := g
  clear m12 g
  obtain ⟨g, h⟩ := tS_inv h
  have m13 := szL_le' g
  have n13 := Int.le_trans m13.1 hx
  replace hx := Int.le_trans m13.2 hx
  replace h0 := g
  clear m13 g
  obtain ⟨g, h⟩ := tS_inv h
  have m17 := szL_le' g
  have n17 := Int.le_trans m17.1 hx
  replace hx := Int.le_trans m17.2 hx
  replace h0 := g
  clear m17 g
  obtain ⟨g, h⟩ := tS_inv h
  have m19 := szL_le' g
  have n19 := Int.le_trans m19.1 hx
  replace hx := Int.le_trans m19.2 hx
  replace h0 := g
  clear m19 g
  obtain ⟨g, h⟩ := tS_inv h
  have n22 := fun y hy => Int.le_trans (tG_mem g y hy) hx
  have m22 := tG_le' h0 g
  replace hx := Int.le_trans m22.2 hx
  replace h0 := g
  clear m22 g
  obtain ⟨g, h⟩ := tS_inv h
  have n23 := fun y hy => Int.le_trans (tG_mem g y hy) hx
  have m23 := tG_le' h0 g
  replace hx := Int.le_trans m23.2 hx
  replace h0 := g
  clear m23 g
  obtain ⟨g, h⟩ := tS_inv h
  have m24 := szL_le' g
  have n24 := Int.le_trans m24.1 hx
  replace hx := Int.le_trans m24.2 hx
  replace h0 := g
  clear m24 g
  refine ⟨fit2 hf, ?_, ?_, ?_, ?_, ?_, ?_⟩
  · show p.f5.size ≤ _; omega
  · show p.f7.size ≤ _; omega
  · show p.f12.size ≤ _; omega
  · show p.f17.size ≤ _; omega
  · intro y hy
    obtain ⟨z, hz, rfl⟩ := List.mem_map.1 hy
    have := n22 z hz
    show z.f0.size ≤ _; omega
  · intro y hy
    have := n23 y hy
    omega
end Go.Proofs.YtnflbiafmddpgaaGreatDoor.Q
end
section
/- PutPacket of both sides, by the path calculus. Printed by a program of this work (gen_put2.py). -/
namespace Go.Proofs.YtnflbiafmddpgaaGreatDoor.Q
open Go.RowKit Go.Proofs.YtnflbiafmddpgaaGreatDoor.Z
open Go.Proofs.YtnflbiafmddpgaaGreatDoor.X (textOkP)
open Go.Proofs.YtnflbiafmddpgaaGreatDoor.Pure (topicL filterL)
set_option linter.unusedVariables false
set_option linter.unusedSimpArgs false
set_option maxRecDepth 100000
set_option maxHeartbeats 4000000
def c1S (p : S42) : List Int := putT (putW ((putT [] mq ++ [u8 p.f8]) ++ [u8 (flg p)]) p.f10) p.f7
def typB (p : S42) : List Int := if p.f0 == 1 then (if p.f11 then (if p.f16 then (if p.f18 then (putB (putT (putB (putT (c1S p) p.f12) p.f13) p.f17) p.f19) else (putT (putB (putT (c1S p) p.f12) p.f13) p.f17)) else (if p.f18 then (putB (putB (putT (c1S p) p.f12) p.f13) p.f19) else (putB (putT (c1S p) p.f12) p.f13))) else (if p.f16 then (if p.f18 then (putB (putT (c1S p) p.f17) p.f19) else (putT (c1S p) p.f17)) else (if p.f18 then (putB (c1S p) p.f19) else (c1S p)))) else if p.f0 == 2 then [] ++ [u8 (fl p.f21 1), u8 p.f20] else if p.f0 == 3 then (if decide (p.f2 > 0) then putW (putT [] p.f5) p.f4 ++ p.f6 else putT [] p.f5 ++ p.f6) else []
def fstS (p : S42) : Int := if p.f0 == 1 then wrap64 (16 * p.f0) else if p.f0 == 2 then wrap64 (16 * p.f0) else if p.f0 == 3 then wrap64 (wrap64 (wrap64 (wrap64 (16 * p.f0) + fl p.f1 8) + wrap64 (2 * p.f2)) + fl p.f3 1) else if p.f0 == 6 then wrap64 (wrap64 (16 * p.f0) + 2) else if p.f0 == 8 then wrap64 (wrap64 (16 * p.f0) + 2) else if p.f0 == 10 then wrap64 (wrap64 (16 * p.f0) + 2) else wrap64 (16 * p.f0)
def idB (p : S42) : List Int := if p.f0 != 3 then (if decide (p.f4 > 0) then putW (typB p) p.f4 else typB p) else typB p
def bodS (p : S42) : List Int := namB (codB (wanB (idB p) p.f22) p.f24) p.f23
noncomputable def pkS (p : S42) : List Int := if okS p then ([u8 (fstS p)] ++ lenR (bodS p).length) ++ bodS p else []
noncomputable def pkI (p : S42) : List Int := if okS p then ([u8 (fstI p)] ++ lenR (folI p).length) ++ folI p else []
theorem c1S_len (p : S42) : (c1S p).length ≤ 130 := by
  have h1 := putT_len (b := []) (s := mq)
  have h2 := putT_len (b := putW ((putT [] mq ++ [u8 p.f8]) ++ [u8 (flg p)]) p.f10) (s := p.f7)
  rw [putW_len, List.length_append, List.length_append] at h2
  simp only [List.length_nil, List.length_cons] at h1 h2
  unfold c1S
  omega
theorem typB_len (p : S42) (hp : Bnd p) : (typB p).length ≤ 1100000 := by
  have k1 := c1S_len p
  have l6 := hp.l6
  have m5 := putT_len (b := []) (s := p.f5)
  have a1 := putT_len (b := c1S p) (s := p.f12)
  have a2 := putB_len (b := putT (c1S p) p.f12) (x := p.f13)
  have a3 := putT_len (b := c1S p) (s := p.f17)
  have a4 := putT_len (b := putB (putT (c1S p) p.f12) p.f13) (s := p.f17)
  have a5 := putB_len (b := putT (putB (putT (c1S p) p.f12) p.f13) p.f17) (x := p.f19)
  have a6 := putB_len (b := putT (c1S p) p.f17) (x := p.f19)
  have a7 := putB_len (b := putB (putT (c1S p) p.f12) p.f13) (x := p.f19)
  have a8 := putB_len (b := c1S p) (x := p.f19)
  have a9 := putW_len (b := putT [] p.f5) (n := p.f4)
  simp only [List.length_nil] at m5
  unfold typB
  repeat' (with_reducible refine ite_ind (Q := fun l : List Int => l.length ≤ 1100000) ?_ ?_)
  all_goals first | (simp only [List.length_append, List.length_nil, List.length_cons]; omega) | omega
theorem specPutPacket (p : S42) (hp : Bnd p) (Q : List Int) (hQ : pkS p = Q) : CallOb T Tryz.prog 14 [.ag (T.cells 42 p)] (.c (.ow 5 Q)) := by
  have m1 := putT_len (b := []) (s := mq)
  have m5 := putT_len (b := []) (s := p.f5)
  obtain ⟨q, hq⟩ : ∃ q, typB p = q := ⟨_, rfl⟩
  obtain ⟨f, hf⟩ : ∃ f, fstS p = f := ⟨_, rfl⟩
  have hql : q.length ≤ 1100000 := by rw [← hq]; exact typB_len p hp
  unfold pkS bodS idB at hQ
  rw [hq, hf] at hQ
  refine call_of_Vc hT Tryz.func14 (by kernel_rfl) rfl rfl (fun A => ?_)
  refine Vc.seq 0 hT ?_
  conv => whnf
  refine Vc.seq 1 hT ?_
  conv => whnf
  refine CallQ.mk _ (specPacketOk p hp.txt _ rfl) ?_
  conv => whnf
  refine Split.mk (fun c => ?_) (fun c => ?_)
  · conv => whnf
    exact RetQ.mk ⟨rfl, rfl⟩ ⟨rfl, rfl⟩ ⟨sr5 (by rw [← hQ, not_t c]; rfl), trivial⟩
  rw [not_f c] at hQ
  simp only [if_true] at hQ
  clear c
  conv => whnf
  refine Vc.seq 2 hT ?_
  conv => whnf
  refine Vc.seq 2 hT ?_
  conv => whnf
  refine Vc.cut (α := Unit) 3 (fun _ => True) (fun _ => [(3, i64 f), (4, .c (.hd 1)), (1, p00)]) (fun _ => [(0, bxp p), (1, .row 1 5 q)]) hT ?_ (fun _ _ => ?_)
  · unfold typB at hq
    unfold fstS at hf
    clear hQ hql
    conv => whnf
    refine Split.mk (fun c => ?_) (fun c => ?_)
    · (try simp only [c, if_true, if_false, Bool.false_eq_true] at hq); (try simp only [c, if_true, if_false, Bool.false_eq_true] at hf)
      conv => whnf
      refine CallQ.mk _ (specPutText [] mq (by simp) (by decide)) ?_
      conv => whnf
      refine Need.mk (ap_ (show (putT [] mq).length + 1 ≤ 100000000000 by simp at m1; omega)) ?_
      conv => whnf
      refine DrawQ.mk ⟨by kernel_rfl, by kernel_rfl⟩ ?_
      conv => whnf
      refine CallQ.mk _ (l5Flag _ _) ?_
      conv => whnf
      refine CallQ.mk _ (l5Flag _ _) ?_
      conv => whnf
      refine CallQ.mk _ (l5Flag _ _) ?_
      conv => whnf
      refine CallQ.mk _ (l5Flag _ _) ?_
      conv => whnf
      refine CallQ.mk _ (l5Flag _ _) ?_
      conv => whnf
      refine Need.mk (ap_ (show (putT [] mq ++ [u8 p.f8]).length + 1 ≤ 100000000000 by simp at m1 ⊢; omega)) ?_
      conv => whnf
      refine DrawQ.mk ⟨by kernel_rfl, by kernel_rfl⟩ ?_
      conv => whnf
      refine CallQ.mk _ (specPutWord ((putT [] mq ++ [u8 p.f8]) ++ [u8 (flg p)]) p.f10 (by simp at m1 ⊢; omega)) ?_
      conv => whnf
      refine CallQ.mk (.c (.ow 5 (c1S p))) (specPutText (putW ((putT [] mq ++ [u8 p.f8]) ++ [u8 (flg p)]) p.f10) p.f7 (by rw [putW_len]; simp at m1 ⊢; omega) hp.t7) ?_
      conv => whnf
      refine DrawQ.mk ⟨by kernel_rfl, by kernel_rfl⟩ ?_
      conv => whnf
      refine Split.mk (fun c => ?_) (fun c => ?_)
      · simp only [c, decide_true, decide_false, if_true, if_false, Bool.false_eq_true] at hq
        conv => whnf
        refine CallQ.mk _ (specPutText (c1S p) p.f12 (by have := c1S_len p; omega) hp.txt.t12) ?_
        conv => whnf
        refine CallQ.mk _ (specPutBytes (putT (c1S p) p.f12) p.f13 (by have := c1S_len p; have := putT_len (b := (c1S p)) (s := p.f12); omega) (by have := hp.l13; omega)) ?_
        conv => whnf
        refine DrawQ.mk ⟨by kernel_rfl, by kernel_rfl⟩ ?_
        conv => whnf
        refine Split.mk (fun c => ?_) (fun c => ?_)
        · simp only [c, decide_true, decide_false, if_true, if_false, Bool.false_eq_true] at hq
          conv => whnf
          refine CallQ.mk _ (specPutText (putB (putT (c1S p) p.f12) p.f13) p.f17 (by have := c1S_len p; have := putT_len (b := (c1S p)) (s := p.f12); have := putB_len (b := putT (c1S p) p.f12) (x := p.f13); omega) hp.t17) ?_
          conv => whnf
          refine Split.mk (fun c => ?_) (fun c => ?_)
          · simp only [c, decide_true, decide_false, if_true, if_false, Bool.false_eq_true] at hq
            conv => whnf
            refine CallQ.mk _ (specPutBytes (putT (putB (putT (c1S p) p.f12) p.f13) p.f17) p.f19 (by have := c1S_len p; have := putT_len (b := (c1S p)) (s := p.f12); have := putB_len (b := putT (c1S p) p.f12) (x := p.f13); have := putT_len (b := (putB (putT (c1S p) p.f12) p.f13)) (s := p.f17); omega) (by have := hp.l19; omega)) ?_
            conv => whnf
            exact CutQ.mk ⟨(), trivial, imp_of [(0, 0), (1, 18)] rfl rfl rfl ⟨⟨rfl, congrArg i64 hf.symm⟩, ⟨rfl, rfl⟩, ⟨rfl, rfl⟩, trivial⟩ ⟨⟨rfl, rfl⟩, sr5 hq, trivial⟩⟩
          · simp only [c, decide_true, decide_false, if_true, if_false, Bool.false_eq_true] at hq
            conv => whnf
            exact CutQ.mk ⟨(), trivial, imp_of [(0, 0), (1, 17)] rfl rfl rfl ⟨⟨rfl, congrArg i64 hf.symm⟩, ⟨rfl, rfl⟩, ⟨rfl, rfl⟩, trivial⟩ ⟨⟨rfl, rfl⟩, sr5 hq, trivial⟩⟩
        · simp only [c, decide_true, decide_false, if_true, if_false, Bool.false_eq_true] at hq
          conv => whnf
          refine Split.mk (fun c => ?_) (fun c => ?_)
          · simp only [c, decide_true, decide_false, if_true, if_false, Bool.false_eq_true] at hq
            conv => whnf
            refine CallQ.mk _ (specPutBytes (putB (putT (c1S p) p.f12) p.f13) p.f19 (by have := c1S_len p; have := putT_len (b := (c1S p)) (s := p.f12); have := putB_len (b := putT (c1S p) p.f12) (x := p.f13); omega) (by have := hp.l19; omega)) ?_
            conv => whnf
            exact CutQ.mk ⟨(), trivial, imp_of [(0, 0), (1, 17)] rfl rfl rfl ⟨⟨rfl, congrArg i64 hf.symm⟩, ⟨rfl, rfl⟩, ⟨rfl, rfl⟩, trivial⟩ ⟨⟨rfl, rfl⟩, sr5 hq, trivial⟩⟩
          · simp only [c, decide_true, decide_false, if_true, if_false, Bool.false_eq_true] at hq
            conv => whnf
            exact CutQ.mk ⟨(), trivial, imp_of [(0, 0), (1, 16)] rfl rfl rfl ⟨⟨rfl, congrArg i64 hf.symm⟩, ⟨rfl, rfl⟩, ⟨rfl, rfl⟩, trivial⟩ ⟨⟨rfl, rfl⟩, sr5 hq, trivial⟩⟩
      · simp only [c, decide_true, decide_false, if_true, if_false, Bool.false_eq_true] at hq
        conv => whnf
        refine Split.mk (fun c => ?_) (fun c => ?_)
        · simp only [c, decide_true, decide_false, if_true, if_false, Bool.false_eq_true] at hq
          conv => whnf
          refine CallQ.mk _ (specPutText (c1S p) p.f17 (by have := c1S_len p; omega) hp.t17) ?_
          conv => whnf
          refine Split.mk (fun c => ?_) (fun c => ?_)
          · simp only [c, decide_true, decide_false, if_true, if_false, Bool.false_eq_true] at hq
            conv => whnf
            refine CallQ.mk _ (specPutBytes (putT (c1S p) p.f17) p.f19 (by have := c1S_len p; have := putT_len (b := (c1S p)) (s := p.f17); omega) (by have := hp.l19; omega)) ?_
            conv => whnf
            exact CutQ.mk ⟨(), trivial, imp_of [(0, 0), (1, 16)] rfl rfl rfl ⟨⟨rfl, congrArg i64 hf.symm⟩, ⟨rfl, rfl⟩, ⟨rfl, rfl⟩, trivial⟩ ⟨⟨rfl, rfl⟩, sr5 hq, trivial⟩⟩
          · simp only [c, decide_true, decide_false, if_true, if_false, Bool.false_eq_true] at hq
            conv => whnf
            exact CutQ.mk ⟨(), trivial, imp_of [(0, 0), (1, 15)] rfl rfl rfl ⟨⟨rfl, congrArg i64 hf.symm⟩, ⟨rfl, rfl⟩, ⟨rfl, rfl⟩, trivial⟩ ⟨⟨rfl, rfl⟩, sr5 hq, trivial⟩⟩
        · simp only [c, decide_true, decide_false, if_true, if_false, Bool.false_eq_true] at hq
          conv => whnf
          refine Split.mk (fun c => ?_) (fun c => ?_)
          · simp only [c, decide_true, decide_false, if_true, if_false, Bool.false_eq_true] at hq
            conv => whnf
            refine CallQ.mk _ (specPutBytes (c1S p) p.f19 (by have := c1S_len p; omega) (by have := hp.l19; omega)) ?_
            conv => whnf
            exact CutQ.mk ⟨(), trivial, imp_of [(0, 0), (1, 15)] rfl rfl rfl ⟨⟨rfl, congrArg i64 hf.symm⟩, ⟨rfl, rfl⟩, ⟨rfl, rfl⟩, trivial⟩ ⟨⟨rfl, rfl⟩, sr5 hq, trivial⟩⟩
          · simp only [c, decide_true, decide_false, if_true, if_false, Bool.false_eq_true] at hq
            conv => whnf
            exact CutQ.mk ⟨(), trivial, imp_of [(0, 0), (1, 14)] rfl rfl rfl ⟨⟨rfl, congrArg i64 hf.symm⟩, ⟨rfl, rfl⟩, ⟨rfl, rfl⟩, trivial⟩ ⟨⟨rfl, rfl⟩, sr5 hq, trivial⟩⟩
    (try simp only [c, if_true, if_false, Bool.false_eq_true] at hq); (try simp only [c, if_true, if_false, Bool.false_eq_true] at hf)
    conv => whnf
    refine Split.mk (fun c => ?_) (fun c => ?_)
    · (try simp only [c, if_true, if_false, Bool.false_eq_true] at hq); (try simp only [c, if_true, if_false, Bool.false_eq_true] at hf)
      conv => whnf
      refine CallQ.mk _ (l5Flag _ _) ?_
      conv => whnf
      refine Need.mk (ap_ (show 0 + 2 ≤ 100000000000 by decide)) ?_
      conv => whnf
      refine DrawQ.mk ⟨by kernel_rfl, by kernel_rfl⟩ ?_
      conv => whnf
      exact CutQ.mk ⟨(), trivial, imp_of [(0, 0), (1, 5)] rfl rfl rfl ⟨⟨rfl, congrArg i64 hf.symm⟩, ⟨rfl, rfl⟩, ⟨rfl, rfl⟩, trivial⟩ ⟨⟨rfl, rfl⟩, sr5 hq, trivial⟩⟩
    (try simp only [c, if_true, if_false, Bool.false_eq_true] at hq); (try simp only [c, if_true, if_false, Bool.false_eq_true] at hf)
    conv => whnf
    refine Split.mk (fun c => ?_) (fun c => ?_)
    · (try simp only [c, if_true, if_false, Bool.false_eq_true] at hq); (try simp only [c, if_true, if_false, Bool.false_eq_true] at hf)
      conv => whnf
      refine CallQ.mk _ (l5Flag _ _) ?_
      conv => whnf
      refine CallQ.mk _ (l5Flag _ _) ?_
      conv => whnf
      refine DrawQ.mk ⟨by kernel_rfl, by kernel_rfl⟩ ?_
      conv => whnf
      refine CallQ.mk _ (specPutText [] p.f5 (by simp) hp.txt.t5) ?_
      conv => whnf
      refine Split.mk (fun c => ?_) (fun c => ?_)
      · simp only [c, decide_true, decide_false, if_true, if_false, Bool.false_eq_true] at hq
        conv => whnf
        refine CallQ.mk _ (specPutWord (putT [] p.f5) p.f4 (by simp at m5; omega)) ?_
        conv => whnf
        refine Need.mk ⟨flat5, ap_ (show (putW (putT [] p.f5) p.f4).length + p.f6.length ≤ 100000000000 by have := hp.l6; rw [putW_len]; simp at m5; omega)⟩ ?_
        conv => whnf
        exact CutQ.mk ⟨(), trivial, imp_of [(0, 0), (1, 7)] rfl rfl rfl ⟨⟨rfl, congrArg i64 hf.symm⟩, ⟨rfl, rfl⟩, ⟨rfl, rfl⟩, trivial⟩ ⟨⟨rfl, rfl⟩, sr5 hq, trivial⟩⟩
      · simp only [c, decide_true, decide_false, if_true, if_false, Bool.false_eq_true] at hq
        conv => whnf
        refine Need.mk ⟨flat5, ap_ (show (putT [] p.f5).length + p.f6.length ≤ 100000000000 by have := hp.l6; simp at m5; omega)⟩ ?_
        conv => whnf
        exact CutQ.mk ⟨(), trivial, imp_of [(0, 0), (1, 6)] rfl rfl rfl ⟨⟨rfl, congrArg i64 hf.symm⟩, ⟨rfl, rfl⟩, ⟨rfl, rfl⟩, trivial⟩ ⟨⟨rfl, rfl⟩, sr5 hq, trivial⟩⟩
    (try simp only [c, if_true, if_false, Bool.false_eq_true] at hq); (try simp only [c, if_true, if_false, Bool.false_eq_true] at hf)
    conv => whnf
    repeat' (first
      | (refine Split.mk (fun _ => ?_) (fun c => cx_ (by assumption) c); conv => whnf)
      | (refine Split.mk (fun c => cx_ c (by assumption)) (fun _ => ?_); conv => whnf)
      | (refine Split.mk (fun c => ?_) (fun c => ?_) <;> (try simp only [c, if_true, if_false, Bool.false_eq_true] at hf) <;> conv => whnf)
      | (exact CutQ.mk ⟨(), trivial, imp_of [(0, 0), (1, 2)] rfl rfl rfl ⟨⟨rfl, congrArg i64 hf.symm⟩, ⟨rfl, rfl⟩, ⟨rfl, rfl⟩, trivial⟩ ⟨⟨rfl, rfl⟩, sr5 hq, trivial⟩⟩))
  obtain ⟨d, hd⟩ : ∃ d, (if p.f0 != 3 then (if decide (p.f4 > 0) then putW q p.f4 else q) else q) = d := ⟨_, rfl⟩
  have hdl : d.length ≤ 1100002 := by
    rw [← hd]
    have := putW_len (b := q) (n := p.f4)
    split
    · split <;> omega
    · omega
  rw [hd] at hQ
  refine Vc.cut (α := Unit) 3 (fun _ => True) (fun _ => [(3, i64 f), (4, .c (.hd 1)), (1, p00)]) (fun _ => [(0, bxp p), (1, .row 1 5 d)]) hT ?_ (fun _ _ => ?_)
  · clear hQ
    have hq := hd
    conv => whnf
    refine Split.mk (fun c => ?_) (fun c => ?_)
    · simp only [c, decide_true, decide_false, if_true, if_false, Bool.false_eq_true] at hq
      conv => whnf
      refine Split.mk (fun c => ?_) (fun c => ?_)
      · simp only [c, decide_true, decide_false, if_true, if_false, Bool.false_eq_true] at hq
        conv => whnf
        refine CallQ.mk _ (specPutWord q p.f4 (by omega)) ?_
        conv => whnf
        exact CutQ.mk ⟨(), trivial, imp_of [(0, 0), (1, 3)] rfl rfl rfl ⟨⟨rfl, rfl⟩, ⟨rfl, rfl⟩, ⟨rfl, rfl⟩, trivial⟩ ⟨⟨rfl, rfl⟩, sr5 hq, trivial⟩⟩
      · simp only [c, decide_true, decide_false, if_true, if_false, Bool.false_eq_true] at hq
        conv => whnf
        exact CutQ.mk ⟨(), trivial, imp_of [(0, 0), (1, 1)] rfl rfl rfl ⟨⟨rfl, rfl⟩, ⟨rfl, rfl⟩, ⟨rfl, rfl⟩, trivial⟩ ⟨⟨rfl, rfl⟩, sr5 hq, trivial⟩⟩
    · simp only [c, decide_true, decide_false, if_true, if_false, Bool.false_eq_true] at hq
      conv => whnf
      repeat (refine Split.mk (fun c => ft_ c) (fun _ => ?_); conv => whnf)
      exact CutQ.mk ⟨(), trivial, imp_of [(0, 0), (1, 1)] rfl rfl rfl ⟨⟨rfl, rfl⟩, ⟨rfl, rfl⟩, ⟨rfl, rfl⟩, trivial⟩ ⟨⟨rfl, rfl⟩, sr5 hq, trivial⟩⟩
  refine Vc.of 3 hT ?_
  conv => whnf
  refine LoopQ.mk { k : Nat // k ≤ p.f22.length } (fun s => (2, [(5, i64 s.1), (3, i64 f), (4, .c (.hd 1)), (1, p00)], [(0, bxp p), (1, .row 1 5 (wanB d (p.f22.take s.1)))])) (fun s => p.f22.length - s.1) ⟨0, Nat.zero_le _⟩ (imp_of [(0, 0), (1, 1)] rfl rfl rfl ⟨⟨rfl, rfl⟩, ⟨rfl, rfl⟩, ⟨rfl, rfl⟩, ⟨rfl, rfl⟩, trivial⟩ ⟨⟨rfl, rfl⟩, sr5 rfl, trivial⟩) ?_
  rintro ⟨k, hk⟩
  have hb22 := wanB_len (out := d) (l := p.f22.take k)
  have ht22 : (p.f22.take k).length ≤ 1048576 := take_le hp.l22
  conv => whnf
  refine Split.mk (fun c => ?_) (fun c => ?_)
  · have hk2 : k < p.f22.length := ln_t c
    clear c
    conv => whnf
    refine Need.mk (idx hk2) ?_
    conv => whnf
    refine CallQ.mk _ (specPutText (wanB d (p.f22.take k)) _ (by omega) (hp.txt.w22 _ (getD_mem (d := z56) hk2))) ?_
    conv => whnf
    refine Need.mk (idx hk2) ?_
    conv => whnf
    refine Need.mk (ap_ (show (putT (wanB d (p.f22.take k)) (p.f22.getD k z56).f0).length + 1 ≤ 100000000000 by have := putT_len (b := wanB d (p.f22.take k)) (s := (p.f22.getD k z56).f0); omega)) ?_
    conv => whnf
    refine DrawQ.mk ⟨by kernel_rfl, by kernel_rfl⟩ ?_
    conv => whnf
    exact NextQ.mk ⟨⟨k + 1, hk2⟩, Nat.sub_lt_sub_left hk2 (Nat.lt_succ_self k), imp_of [(0, 0), (1, 4)] rfl rfl rfl ⟨⟨rfl, congrArg i64 (sc_ hk2 (by have := hp.l22; omega))⟩, ⟨rfl, rfl⟩, ⟨rfl, rfl⟩, ⟨rfl, rfl⟩, trivial⟩ ⟨⟨rfl, rfl⟩, sr5 (wan_take hk2), trivial⟩⟩
  have e22 : p.f22.take k = p.f22 := by rw [Nat.le_antisymm hk (ln_f c)]; exact List.take_length
  clear c
  conv => whnf
  rw [e22]
  obtain ⟨W22, hW⟩ : ∃ W22, wanB d p.f22 = W22 := ⟨_, rfl⟩
  have hW2 : W22.length ≤ 67200000 := by have := wanB_len (out := d) (l := p.f22); have := hp.l22; rw [hW] at *; omega
  rw [hW]
  rw [hW] at hQ
  refine LoopQ.mk { k : Nat // k ≤ p.f24.length } (fun s => (2, [(6, i64 s.1), (3, i64 f), (4, .c (.hd 1)), (1, p00)], [(0, bxp p), (1, .row 1 5 (codB W22 (p.f24.take s.1)))])) (fun s => p.f24.length - s.1) ⟨0, Nat.zero_le _⟩ (imp_of [(0, 0), (1, 1)] rfl rfl rfl ⟨⟨rfl, rfl⟩, ⟨rfl, rfl⟩, ⟨rfl, rfl⟩, ⟨rfl, rfl⟩, trivial⟩ ⟨⟨rfl, rfl⟩, sr5 rfl, trivial⟩) ?_
  rintro ⟨k, hk⟩
  have hb24 := codB_len (out := W22) (l := p.f24.take k)
  have ht24 : (p.f24.take k).length ≤ 1048576 := take_le hp.l24
  conv => whnf
  refine Split.mk (fun c => ?_) (fun c => ?_)
  · have hk2 : k < p.f24.length := ln_t c
    clear c
    conv => whnf
    refine Need.mk (idx hk2) ?_
    conv => whnf
    refine Need.mk (ap_ (show (codB W22 (p.f24.take k)).length + 1 ≤ 100000000000 by omega)) ?_
    conv => whnf
    exact NextQ.mk ⟨⟨k + 1, hk2⟩, Nat.sub_lt_sub_left hk2 (Nat.lt_succ_self k), imp_of [(0, 0), (1, 3)] rfl rfl rfl ⟨⟨rfl, congrArg i64 (sc_ hk2 (by have := hp.l24; omega))⟩, ⟨rfl, rfl⟩, ⟨rfl, rfl⟩, ⟨rfl, rfl⟩, trivial⟩ ⟨⟨rfl, rfl⟩, sr5 (cod_take hk2), trivial⟩⟩
  have e24 : p.f24.take k = p.f24 := by rw [Nat.le_antisymm hk (ln_f c)]; exact List.take_length
  clear c
  conv => whnf
  rw [e24]
  obtain ⟨C24, hC⟩ : ∃ C24, codB W22 p.f24 = C24 := ⟨_, rfl⟩
  have hC2 : C24.length ≤ 69000000 := by have := codB_len (out := W22) (l := p.f24); have := hp.l24; rw [hC] at *; omega
  rw [hC]
  rw [hC] at hQ
  refine LoopQ.mk { k : Nat // k ≤ p.f23.length } (fun s => (2, [(7, i64 s.1), (3, i64 f), (4, .c (.hd 1)), (1, p00)], [(0, bxp p), (1, .row 1 5 (namB C24 (p.f23.take s.1)))])) (fun s => p.f23.length - s.1) ⟨0, Nat.zero_le _⟩ (imp_of [(0, 0), (1, 1)] rfl rfl rfl ⟨⟨rfl, rfl⟩, ⟨rfl, rfl⟩, ⟨rfl, rfl⟩, ⟨rfl, rfl⟩, trivial⟩ ⟨⟨rfl, rfl⟩, sr5 rfl, trivial⟩) ?_
  rintro ⟨k, hk⟩
  have hb23 := namB_len (out := C24) (l := p.f23.take k)
  have ht23 : (p.f23.take k).length ≤ 1048576 := take_le hp.l23
  conv => whnf
  refine Split.mk (fun c => ?_) (fun c => ?_)
  · have hk2 : k < p.f23.length := ln_t c
    clear c
    conv => whnf
    refine Need.mk (idx hk2) ?_
    conv => whnf
    refine CallQ.mk _ (specPutText (namB C24 (p.f23.take k)) _ (by omega) (hp.txt.w23 _ (getD_mem (d := ByteArray.empty) hk2))) ?_
    conv => whnf
    exact NextQ.mk ⟨⟨k + 1, hk2⟩, Nat.sub_lt_sub_left hk2 (Nat.lt_succ_self k), imp_of [(0, 0), (1, 2)] rfl rfl rfl ⟨⟨rfl, congrArg i64 (sc_ hk2 (by have := hp.l23; omega))⟩, ⟨rfl, rfl⟩, ⟨rfl, rfl⟩, ⟨rfl, rfl⟩, trivial⟩ ⟨⟨rfl, rfl⟩, sr5 (nam_take hk2), trivial⟩⟩
  have e23 : p.f23.take k = p.f23 := by rw [Nat.le_antisymm hk (ln_f c)]; exact List.take_length
  clear c
  conv => whnf
  rw [e23]
  obtain ⟨N23, hN⟩ : ∃ N23, namB C24 p.f23 = N23 := ⟨_, rfl⟩
  have hN2 : N23.length ≤ 140000000 := by have := namB_len (out := C24) (l := p.f23); have := hp.l23; rw [hN] at *; omega
  rw [hN]
  rw [hN] at hQ
  refine CallQ.mk _ (specPutLen [u8 f] N23.length (by simp) (by omega)) ?_
  conv => whnf
  refine Need.mk (ap_ (show ([u8 f] ++ lenR N23.length).length + N23.length ≤ 100000000000 by have := lenR_len _ N23.length (Nat.le_refl _); rw [List.length_append, List.length_singleton]; omega)) ?_
  conv => whnf
  exact RetQ.mk ⟨rfl, rfl⟩ ⟨rfl, rfl⟩ ⟨sr5 hQ, trivial⟩
theorem folI_len (p : S42) (hp : Bnd p) : (folI p).length ≤ 140000000 := by
  have k1 := conB_len p
  have l6 := hp.l6
  have m5 := putT_len (b := []) (s := p.f5)
  have a9 := putW_len (b := putT [] p.f5) (n := p.f4)
  have w0 := putW_len (b := []) (n := p.f4)
  have w1 := wanB_len (out := putW [] p.f4) (l := p.f22)
  have w2 := codB_len (out := wanB (putW [] p.f4) p.f22) (l := p.f24)
  have w3 := namB_len (out := codB (wanB (putW [] p.f4) p.f22) p.f24) (l := p.f23)
  have l22 := hp.l22
  have l23 := hp.l23
  have l24 := hp.l24
  simp only [List.length_nil] at m5 w0
  unfold folI folTail
  repeat' (with_reducible refine ite_ind (Q := fun l : List Int => l.length ≤ 140000000) ?_ ?_)
  all_goals first | omega | (simp only [List.length_nil, List.length_cons]; omega) | (rw [List.length_append]; split <;> omega)
theorem implPutPacket (p : S42) (hp : Bnd p) (Q : List Int) (hQ : pkI p = Q) : CallOb T Tryz.prog 16 [.ag (T.cells 42 p)] (.c (.ow 5 Q)) := by
  have hl := folI_len p hp
  have hr := lenR_len _ (folI p).length (Nat.le_refl _)
  unfold pkI at hQ
  refine call_of_vc hT Tryz.func16 (by kernel_rfl) rfl rfl (fun A => ?_)
  conv => whnf
  refine CallQ.mk _ (implPacketOk p hp.txt _ (ok_eq _)) ?_
  conv => whnf
  refine Split.mk (fun c => ?_) (fun c => ?_)
  · conv => whnf
    exact RetQ.mk ⟨rfl, rfl⟩ ⟨rfl, rfl⟩ ⟨⟨rfl, by rw [← hQ, not_t c]; rfl⟩, trivial⟩
  rw [not_f c] at hQ
  simp only [if_true] at hQ
  conv => whnf
  refine CallQ.mk _ (following p hp _ rfl) ?_
  conv => whnf
  refine CallQ.mk _ (firstByte p _ rfl) ?_
  conv => whnf
  refine CallQ.mk _ (implPutLen [u8 (fstI p)] (folI p).length (by simp) (by omega)) ?_
  conv => whnf
  refine CallQ.mk _ (joined [[u8 (fstI p)] ++ lenR (folI p).length, folI p] (by simp) (all2 (by rw [List.length_append, List.length_singleton]; omega) (by omega))) ?_
  conv => whnf
  exact RetQ.mk ⟨rfl, rfl⟩ ⟨rfl, rfl⟩ ⟨sr5 (fl2.trans hQ), trivial⟩
end Go.Proofs.YtnflbiafmddpgaaGreatDoor.Q
end
section
/- Both sides put the same bytes. -/
namespace Go.Proofs.YtnflbiafmddpgaaGreatDoor.Q
open Go.RowKit Go.Proofs.YtnflbiafmddpgaaGreatDoor.Z
open Go.Proofs.YtnflbiafmddpgaaGreatDoor.X (textOkP)
open Go.Proofs.YtnflbiafmddpgaaGreatDoor.Pure (topicL filterL)
set_option linter.unusedVariables false
set_option linter.unusedSimpArgs false
set_option maxRecDepth 100000
set_option maxHeartbeats 4000000
theorem wr_r (a b : Int) : wrap64 (a + wrap64 b) = wrap64 (a + b) := by simp only [wrap64]; omega
theorem wr_l (a b : Int) : wrap64 (wrap64 a + b) = wrap64 (a + b) := by simp only [wrap64]; omega
theorem fst_eq (p : S42) : fstI p = fstS p := by
  unfold fstI fstS
  cases h1 : p.f0 == 1 with
  | true => have h : p.f0 = 1 := by simpa using h1
            simp only [h, Int.reduceBEq, if_true, if_false, Bool.false_eq_true]
  | false =>
    cases h2 : p.f0 == 2 with
    | true => have h : p.f0 = 2 := by simpa using h2
              simp only [h, Int.reduceBEq, if_true, if_false, Bool.false_eq_true]
    | false =>
      simp only [if_true, if_false, Bool.false_eq_true]
      cases h3 : p.f0 == 3 with
      | false => rfl
      | true =>
        simp only [if_true]

        simp only [wr_r, wr_l]
        congr 1
        omega
theorem bod_con (p : S42) (h : p.f0 = 1) (e4 : p.f4 = 0) (e22 : p.f22 = []) (e23 : p.f23 = []) (e24 : p.f24 = []) : folI p = bodS p := by
  have hc : c1S p = con1 p := by unfold c1S con1; rw [List.append_assoc, List.singleton_append]
  have d0 : decide ((0 : Int) > 0) = false := rfl
  unfold bodS idB typB folI conB con3 con2
  rw [e22, e23, e24, e4, hc]
  simp only [h, d0, wanB, codB, namB, List.foldl_nil, Int.reduceBEq, Int.reduceBNe, if_true, if_false, Bool.false_eq_true]
  generalize con1 p = x
  cases p.f11 <;> cases p.f16 <;> cases p.f18 <;> simp only [if_true, if_false, Bool.false_eq_true]
theorem bod_ack (p : S42) (h : p.f0 = 2) (e4 : p.f4 = 0) (e22 : p.f22 = []) (e23 : p.f23 = []) (e24 : p.f24 = []) : folI p = bodS p := by
  have d0 : decide ((0 : Int) > 0) = false := rfl
  unfold bodS idB typB folI
  rw [e22, e23, e24, e4]
  simp only [h, d0, wanB, codB, namB, List.foldl_nil, Int.reduceBEq, Int.reduceBNe, if_true, if_false, Bool.false_eq_true]
  rfl
theorem bod_pub (p : S42) (h : p.f0 = 3) (e22 : p.f22 = []) (e23 : p.f23 = []) (e24 : p.f24 = []) : folI p = bodS p := by
  have n3 : ((3 : Int) != 3) = false := rfl
  unfold bodS idB typB folI
  rw [e22, e23, e24]
  simp only [h, n3, wanB, codB, namB, List.foldl_nil, Int.reduceBEq, Int.reduceBNe, if_true, if_false, Bool.false_eq_true]
  split <;> rfl
theorem bod_none (p : S42) (h : p.f0 = 12 ∨ p.f0 = 13 ∨ p.f0 = 14) (e4 : p.f4 = 0) (e22 : p.f22 = []) (e23 : p.f23 = []) (e24 : p.f24 = []) : folI p = bodS p := by
  have d0 : decide ((0 : Int) > 0) = false := rfl
  unfold bodS idB typB folI
  rw [e22, e23, e24, e4]
  rcases h with h | h | h <;>
  simp only [h, d0, wanB, codB, namB, List.foldl_nil, Int.reduceBEq, Int.reduceBNe, if_true, if_false, Bool.false_eq_true, ite_self]
theorem bod_id (p : S42) (h : p.f0 = 4 ∨ p.f0 = 5 ∨ p.f0 = 6 ∨ p.f0 = 7 ∨ p.f0 = 8 ∨ p.f0 = 9 ∨ p.f0 = 10 ∨ p.f0 = 11) (e4 : inR p.f4 1 65535 = true) : folI p = bodS p := by
  have d4 : decide (p.f4 > 0) = true := by simp only [inR, Bool.and_eq_true, decide_eq_true_eq] at e4; exact decide_eq_true (by omega)
  unfold bodS idB typB folI folTail
  rcases h with h | h | h | h | h | h | h | h <;>
  simp only [h, d4, Int.reduceBEq, Int.reduceBNe, if_true, if_false, Bool.false_eq_true]
theorem if_tt {a b : Bool} (h : (if a = true then b else false) = true) : a = true := by cases a with
  | true => rfl
  | false => exact absurd (show false = true from h) Bool.false_ne_true
theorem bod_eq (p : S42) (hk : okS p = true) : folI p = bodS p := by
  have hi := (ok_eq p).trans hk
  cases hin : inR p.f0 1 14 with
  | false => unfold okI at hi; rw [hin] at hi; exact absurd (show false = true from hi) Bool.false_ne_true
  | true =>
    cases hs : same p (nmI p) with
    | false => unfold okI at hi; rw [hin, hs] at hi; exact absurd (show false = true from hi) Bool.false_ne_true
    | true =>
      have e := of_same hs
      unfold okI at hi
      rw [hin, hs] at hi
      have : p.f0 = 1 ∨ p.f0 = 2 ∨ p.f0 = 3 ∨ p.f0 = 4 ∨ p.f0 = 5 ∨ p.f0 = 6 ∨ p.f0 = 7 ∨ p.f0 = 8 ∨ p.f0 = 9 ∨ p.f0 = 10 ∨ p.f0 = 11 ∨ p.f0 = 12 ∨ p.f0 = 13 ∨ p.f0 = 14 := by simp only [inR, Bool.and_eq_true, decide_eq_true_eq] at hin; omega
      rcases this with h | h | h | h | h | h | h | h | h | h | h | h | h | h <;> simp only [h, Int.reduceBEq, if_true, if_false, Bool.false_eq_true, Bool.not_true, Bool.not_false, beq_self_eq_true, Bool.true_eq_false] at hi
      · have hn : (nmI p).f4 = 0 ∧ (nmI p).f22 = [] ∧ (nmI p).f23 = [] ∧ (nmI p).f24 = [] := by
          unfold nmI
          simp only [h, Int.reduceBEq, if_true]
          cases p.f11 <;> cases p.f16 <;> cases p.f18 <;> exact ⟨rfl, rfl, rfl, rfl⟩
        exact bod_con p h ((congrArg S42.f4 e).trans hn.1) ((congrArg S42.f22 e).trans hn.2.1) ((congrArg S42.f23 e).trans hn.2.2.1) ((congrArg S42.f24 e).trans hn.2.2.2)
      · have hn : (nmI p).f4 = 0 ∧ (nmI p).f22 = [] ∧ (nmI p).f23 = [] ∧ (nmI p).f24 = [] := by
          unfold nmI
          simp only [h, Int.reduceBEq, if_true, if_false, Bool.false_eq_true]
          exact ⟨trivial, trivial, trivial, trivial⟩
        exact bod_ack p h ((congrArg S42.f4 e).trans hn.1) ((congrArg S42.f22 e).trans hn.2.1) ((congrArg S42.f23 e).trans hn.2.2.1) ((congrArg S42.f24 e).trans hn.2.2.2)
      · have hn : (nmI p).f22 = [] ∧ (nmI p).f23 = [] ∧ (nmI p).f24 = [] := by
          unfold nmI
          simp only [h, Int.reduceBEq, if_true, if_false, Bool.false_eq_true]
          cases decide (p.f2 > 0) <;> exact ⟨rfl, rfl, rfl⟩
        exact bod_pub p h ((congrArg S42.f22 e).trans hn.1) ((congrArg S42.f23 e).trans hn.2.1) ((congrArg S42.f24 e).trans hn.2.2)
      · exact bod_id p (by simp [h]) hi
      · exact bod_id p (by simp [h]) hi
      · exact bod_id p (by simp [h]) hi
      · exact bod_id p (by simp [h]) hi
      · exact bod_id p (by simp [h]) (if_tt hi)
      · exact bod_id p (by simp [h]) (if_tt hi)
      · exact bod_id p (by simp [h]) (if_tt hi)
      · exact bod_id p (by simp [h]) hi
      all_goals
        have hn : (nmI p).f4 = 0 ∧ (nmI p).f22 = [] ∧ (nmI p).f23 = [] ∧ (nmI p).f24 = [] := by
          unfold nmI
          simp only [h, Int.reduceBEq, if_true, if_false, Bool.false_eq_true]
          exact ⟨trivial, trivial, trivial, trivial⟩
        exact bod_none p (by simp [h]) ((congrArg S42.f4 e).trans hn.1) ((congrArg S42.f22 e).trans hn.2.1) ((congrArg S42.f23 e).trans hn.2.2.1) ((congrArg S42.f24 e).trans hn.2.2.2)
theorem put_eq (p : S42) : pkI p = pkS p := by
  unfold pkI pkS
  cases hk : okS p with
  | false => rfl
  | true => rw [bod_eq p hk, fst_eq]
end Go.Proofs.YtnflbiafmddpgaaGreatDoor.Q
end
section
/- Marks: what is written into rows that are handed over, and found there again. Printed by a program of this work (gen_marks.py). -/
namespace Go.Proofs.YtnflbiafmddpgaaGreatDoor.Q
open Go.RowKit Go.Proofs.YtnflbiafmddpgaaGreatDoor.Z
set_option linter.unusedVariables false
set_option linter.unusedSimpArgs false
set_option maxRecDepth 100000
set_option maxHeartbeats 4000000
/-- The digits of a number, before what is there. -/
def dig (k : Nat) (out : ByteArray) : ByteArray := if h : k = 0 then out else dig (k / 10) (strOfNums [IntKind.u8.wrap (wrap64 (48 + ((k % 10 : Nat) : Int)))] ++ out)
termination_by k
decreasing_by omega
def markT (k : Nat) : ByteArray := (⟨#[109]⟩ : ByteArray) ++ dig k (⟨#[]⟩ : ByteArray)
theorem str1_size (n : Int) : (strOfNums [n]).size = 1 := rfl
theorem ba_app_size (a b : ByteArray) : (a ++ b).size = a.size + b.size := ByteArray.size_append
theorem dig_size : ∀ (n k : Nat) (out : ByteArray), k ≤ n → (dig k out).size ≤ out.size + k
  | n, k, out, hk => by
    unfold dig
    split
    · omega
    · rename_i h
      cases n with
      | zero => omega
      | succ n =>
        have := dig_size n (k / 10) (strOfNums [IntKind.u8.wrap (wrap64 (48 + ((k % 10 : Nat) : Int)))] ++ out) (by omega)
        rw [ba_app_size, str1_size] at this
        omega
theorem tmod_ (k : Nat) : ((k : Int).tmod 10) = ((k % 10 : Nat) : Int) := by rw [Int.tmod_eq_emod_of_nonneg (by omega)]; omega
theorem tdiv_ {k : Nat} (h : k ≤ 4611686018427387904) : IntKind.i64.wrap ((k : Int).tdiv 10) = ((k / 10 : Nat) : Int) := by
  rw [Int.tdiv_eq_ediv_of_nonneg (by omega), wrap_i64]
  simp only [wrap64]; omega
theorem num5 (x : Int) : strOfNums (List.map (numOf T 5) [x]) = strOfNums [x] := rfl
theorem digStr (n : Nat) : strOfNums (List.map (numOf T 5) [IntKind.u8.wrap (wrap64 (48 + (n : Int).tmod 10))]) = strOfNums [IntKind.u8.wrap (wrap64 (48 + ((n % 10 : Nat) : Int)))] := by rw [tmod_, num5]
theorem dig0 (out : ByteArray) : dig 0 out = out := by unfold dig; rfl
theorem tx {x y : ByteArray} (h : y = x) : Value.string x = Value.string y := by rw [h]
abbrev tx_ (s : ByteArray) : Slot T := .c (.sc (.string s))
theorem markText (k : Nat) (h0 : 0 < k) (h1 : k ≤ 4611686018427387904) : CallOb T Tryz.prog 18 [.c (.sc (.int .i64 (k : Int)))] (.c (.sc (.string (markT k)))) := by
  refine call_of_vc hT Tryz.func18 (by kernel_rfl) rfl rfl (fun A => ?_)
  conv => whnf
  refine Split.mk (fun c => ?_) (fun c => ?_)
  · exact absurd c (by simp; omega)
  clear c
  conv => whnf
  refine LoopQ.mk { p : Nat × ByteArray // p.1 ≤ k ∧ p.2.size + p.1 ≤ k ∧ dig p.1 p.2 = dig k (⟨#[]⟩ : ByteArray) } (fun p => (0, [(0, i64 p.1.1), (3, tx_ p.1.2)], [])) (fun p => p.1.1) ⟨(k, ⟨#[]⟩), Nat.le_refl _, by show (0 : Nat) + k ≤ k; omega, rfl⟩ (imp_of [] rfl rfl rfl ⟨⟨rfl, rfl⟩, ⟨rfl, rfl⟩, trivial⟩ trivial) ?_
  rintro ⟨⟨n, out⟩, g1, g2, g3⟩
  dsimp only at g1 g2 g3
  conv => whnf
  refine Split.mk (fun c => ?_) (fun c => ?_)
  · have hn : n ≠ 0 := by simp at c; omega
    clear c
    conv => whnf
    refine Need.mk (fun _ => rfl) ?_
    conv => whnf
    refine Need.mk (show 1 + ByteArray.size out ≤ 9223372036854775807 by omega) ?_
    conv => whnf
    refine NextQ.mk ⟨⟨(n / 10, strOfNums [IntKind.u8.wrap (wrap64 (48 + ((n % 10 : Nat) : Int)))] ++ out), by omega, by rw [ba_app_size, str1_size]; omega, ?_⟩, Nat.div_lt_self (by omega) (by decide), imp_of [] rfl rfl rfl ⟨⟨rfl, congrArg i64 (tdiv_ (by omega)).symm⟩, ⟨rfl, ?_⟩, trivial⟩ trivial⟩
    · rw [← g3]
      conv => rhs; unfold dig
      rw [dif_neg hn]
    · exact congrArg (fun x : ByteArray => tx_ (x ++ out)) (digStr n).symm
  · have hn : n = 0 := by simp at c; omega
    subst hn
    clear c
    have g4 : out = dig k (⟨#[]⟩ : ByteArray) := (dig0 out).symm.trans g3
    conv => whnf
    refine Need.mk (show 1 + ByteArray.size out ≤ 9223372036854775807 by omega) ?_
    conv => whnf
    exact RetQ.mk ⟨rfl, rfl⟩ ⟨rfl, rfl⟩ ⟨tx (congrArg (fun x : ByteArray => (⟨#[109]⟩ : ByteArray) ++ x) g4.symm), trivial⟩
/-! ### rows of marks -/
def mkL {β : Type} (s : Nat) (f : Nat → β) (k n : Nat) : List β := (List.range n).map (fun j => f (k + s * j))
def mkP {β : Type} (s : Nat) (f : Nat → β) (k : Nat) (a : List β) (i : Nat) : List β := mkL s f k i ++ a.drop i
section
variable {β : Type} {s : Nat} {f : Nat → β} {k i n : Nat} {a : List β}
theorem mkL_len : (mkL s f k n).length = n := by simp [mkL]
theorem mkP_len (h : i ≤ a.length) : (mkP s f k a i).length = a.length := by simp [mkP, mkL_len]; omega
theorem mkP_lt (hi : i ≤ a.length) (h : i < a.length) : i < (mkP s f k a i).length := by rw [mkP_len hi]; exact h
theorem mkP_zero : a = mkP s f k a 0 := by simp [mkP, mkL]
theorem mkP_all : mkP s f k a a.length = mkL s f k a.length := by simp [mkP]
theorem mkP_set (h : i < a.length) : (mkP s f k a i).set i (f (k + s * i)) = mkP s f k a (i + 1) := by
  unfold mkP
  rw [List.set_append_right _ _ (by simp [mkL_len]), mkL_len, Nat.sub_self, List.drop_eq_getElem_cons h, List.set_cons_zero]
  simp [mkL, List.range_succ]
theorem mkL_get {d : β} (h : i < n) : (mkL s f k n).getD i d = f (k + s * i) := by simp [mkL, h]
end
theorem kn_ {k n : Nat} (h : k + n ≤ 4611686018427387904) (hn : 0 < n) : ((k + 1 : Nat) : Int) = wrap64 ((k : Int) + 1) := by simp only [wrap64]; omega
theorem in_ {m n : Nat} (h : decide ((m : Int) < (n : Int)) = true) {l : Nat} (hl : n = l) : m < l := hl ▸ ln_t h
theorem inf_ {m n : Nat} (h : decide ((m : Int) < (n : Int)) = false) {l : Nat} (hl : n = l) : l ≤ m := hl ▸ ln_f h
def fB (n : Nat) : Int := IntKind.u8.wrap (n : Int)
def fI (n : Nat) : Int := (n : Int)
def fS (n : Nat) : ByteArray := markT n
def fW (n : Nat) : S56 := ⟨markT n, ((n + 1 : Nat) : Int)⟩
theorem wrap_small {n : Nat} (h : n ≤ 4611686018427387904) : IntKind.i64.wrap (n : Int) = (n : Int) := by rw [wrap_i64]; simp only [wrap64]; omega
abbrev hd0 : Slot T := .c (.hd 1000)
theorem gs_ {e : Nat} {l : List (T.Tb e)} {i : Nat} {x : T.Tb e} (h : i < l.length) : getE T e (l.set i x) i = x := by simp [getE, h]
theorem cast_add {k i : Nat} : ((k + i : Nat) : Int) = (k : Int) + (i : Int) := by omega
theorem markByteS (a : List Int) (k : Nat) (hl : a.length ≤ 140737488351232) (h0 : 0 < k) (hk : k + 1 * a.length ≤ 4611686018427387904) : CallWOb T Tryz.prog 11 [.c (.ow 5 a 5 (mkL 1 fB k a.length)), .c (.c (.sc (.int .i64 (k : Int))))] (.c (.sc (.int .i64 ((k + 1 * a.length : Nat) : Int)))) := by
  refine call_of_vcW hT Tryz.func11 (by kernel_rfl) rfl rfl (fun A => ?_)
  conv => whnf
  refine LoopQ.mk { i : Nat // i ≤ a.length } (fun p => (1, [(5, i64 p.1), (1, i64 (k + 1 * p.1 : Nat)), (0, hd0)], [(1000, .row 0 5 (mkP 1 fB k a p.1))])) (fun p => a.length - p.1) ⟨0, Nat.zero_le _⟩ (imp_of [] rfl rfl rfl ⟨⟨rfl, rfl⟩, ⟨rfl, rfl⟩, ⟨rfl, rfl⟩, trivial⟩ ⟨show SameRow (T := T) 5 a 5 (mkP 1 fB k a 0) from sr_ mkP_zero, trivial⟩) ?_
  rintro ⟨i, hi⟩
  conv => whnf
  refine Split.mk (fun c => ?_) (fun c => ?_)
  · have hk2 : i < a.length := in_ c (mkP_len hi)
    clear c
    have hb : k + 1 * i + 1 ≤ 4611686018427387904 := by omega
    conv => whnf
    refine Need.mk (idx (mkP_lt hi hk2)) ?_
    conv => whnf
    exact NextQ.mk ⟨⟨i + 1, hk2⟩, Nat.sub_lt_sub_left hk2 (Nat.lt_succ_self i), imp_of [] rfl rfl rfl ⟨⟨rfl, congrArg i64 (sc_ hk2 hl)⟩, ⟨rfl, congrArg i64 (kn_ (k := k + 1 * i) (n := 1) (by omega) (by decide))⟩, ⟨rfl, rfl⟩, trivial⟩ ⟨sr_ (mkP_set (s := 1) (f := fB) hk2), trivial⟩⟩
  · have hk2 : i = a.length := Nat.le_antisymm hi (inf_ c (mkP_len hi))
    clear c
    conv => whnf
    subst hk2
    exact RetWQ.mk ⟨rfl, rfl⟩ ⟨⟨rfl, rfl⟩, rfl⟩ ⟨rfl, trivial⟩ ⟨show SameRow (T := T) 5 (mkP 1 fB k a a.length) 5 (mkL 1 fB k a.length) from sr_ mkP_all, trivial⟩
theorem markIntS (a : List Int) (k : Nat) (hl : a.length ≤ 140737488351232) (h0 : 0 < k) (hk : k + 1 * a.length ≤ 4611686018427387904) : CallWOb T Tryz.prog 21 [.c (.ow 3 a 3 (mkL 1 fI k a.length)), .c (.c (.sc (.int .i64 (k : Int))))] (.c (.sc (.int .i64 ((k + 1 * a.length : Nat) : Int)))) := by
  refine call_of_vcW hT Tryz.func21 (by kernel_rfl) rfl rfl (fun A => ?_)
  conv => whnf
  refine LoopQ.mk { i : Nat // i ≤ a.length } (fun p => (1, [(5, i64 p.1), (1, i64 (k + 1 * p.1 : Nat)), (0, hd0)], [(1000, .row 0 3 (mkP 1 fI k a p.1))])) (fun p => a.length - p.1) ⟨0, Nat.zero_le _⟩ (imp_of [] rfl rfl rfl ⟨⟨rfl, rfl⟩, ⟨rfl, rfl⟩, ⟨rfl, rfl⟩, trivial⟩ ⟨show SameRow (T := T) 3 a 3 (mkP 1 fI k a 0) from sr_ mkP_zero, trivial⟩) ?_
  rintro ⟨i, hi⟩
  conv => whnf
  refine Split.mk (fun c => ?_) (fun c => ?_)
  · have hk2 : i < a.length := in_ c (mkP_len hi)
    clear c
    have hb : k + 1 * i + 1 ≤ 4611686018427387904 := by omega
    conv => whnf
    refine Need.mk (idx (mkP_lt hi hk2)) ?_
    conv => whnf
    exact NextQ.mk ⟨⟨i + 1, hk2⟩, Nat.sub_lt_sub_left hk2 (Nat.lt_succ_self i), imp_of [] rfl rfl rfl ⟨⟨rfl, congrArg i64 (sc_ hk2 hl)⟩, ⟨rfl, congrArg i64 (kn_ (k := k + 1 * i) (n := 1) (by omega) (by decide))⟩, ⟨rfl, rfl⟩, trivial⟩ ⟨sr_ (mkP_set (s := 1) (f := fI) hk2), trivial⟩⟩
  · have hk2 : i = a.length := Nat.le_antisymm hi (inf_ c (mkP_len hi))
    clear c
    conv => whnf
    subst hk2
    exact RetWQ.mk ⟨rfl, rfl⟩ ⟨⟨rfl, rfl⟩, rfl⟩ ⟨rfl, trivial⟩ ⟨show SameRow (T := T) 3 (mkP 1 fI k a a.length) 3 (mkL 1 fI k a.length) from sr_ mkP_all, trivial⟩
theorem markStringS (a : List ByteArray) (k : Nat) (hl : a.length ≤ 140737488351232) (h0 : 0 < k) (hk : k + 1 * a.length ≤ 4611686018427387904) : CallWOb T Tryz.prog 20 [.c (.ow 9 a 9 (mkL 1 fS k a.length)), .c (.c (.sc (.int .i64 (k : Int))))] (.c (.sc (.int .i64 ((k + 1 * a.length : Nat) : Int)))) := by
  refine call_of_vcW hT Tryz.func20 (by kernel_rfl) rfl rfl (fun A => ?_)
  conv => whnf
  refine LoopQ.mk { i : Nat // i ≤ a.length } (fun p => (1, [(5, i64 p.1), (1, i64 (k + 1 * p.1 : Nat)), (0, hd0)], [(1000, .row 0 9 (mkP 1 fS k a p.1))])) (fun p => a.length - p.1) ⟨0, Nat.zero_le _⟩ (imp_of [] rfl rfl rfl ⟨⟨rfl, rfl⟩, ⟨rfl, rfl⟩, ⟨rfl, rfl⟩, trivial⟩ ⟨show SameRow (T := T) 9 a 9 (mkP 1 fS k a 0) from sr_ mkP_zero, trivial⟩) ?_
  rintro ⟨i, hi⟩
  conv => whnf
  refine Split.mk (fun c => ?_) (fun c => ?_)
  · have hk2 : i < a.length := in_ c (mkP_len hi)
    clear c
    have hb : k + 1 * i + 1 ≤ 4611686018427387904 := by omega
    conv => whnf
    refine CallQ.mk _ (markText (k + 1 * i) (by omega) (by omega)) ?_
    conv => whnf
    refine Need.mk (idx (mkP_lt hi hk2)) ?_
    conv => whnf
    exact NextQ.mk ⟨⟨i + 1, hk2⟩, Nat.sub_lt_sub_left hk2 (Nat.lt_succ_self i), imp_of [] rfl rfl rfl ⟨⟨rfl, congrArg i64 (sc_ hk2 hl)⟩, ⟨rfl, congrArg i64 (kn_ (k := k + 1 * i) (n := 1) (by omega) (by decide))⟩, ⟨rfl, rfl⟩, trivial⟩ ⟨sr_ (mkP_set (s := 1) (f := fS) hk2), trivial⟩⟩
  · have hk2 : i = a.length := Nat.le_antisymm hi (inf_ c (mkP_len hi))
    clear c
    conv => whnf
    subst hk2
    exact RetWQ.mk ⟨rfl, rfl⟩ ⟨⟨rfl, rfl⟩, rfl⟩ ⟨rfl, trivial⟩ ⟨show SameRow (T := T) 9 (mkP 1 fS k a a.length) 9 (mkL 1 fS k a.length) from sr_ mkP_all, trivial⟩
theorem wantStep {a : List S56} {k i : Nat} (h : i < a.length) (hi : i ≤ a.length) {x : Int} {y : S56} (hx : ((k + 2 * i + 1 : Nat) : Int) = x) : List.set (List.set (mkP 2 fW k a i) i ⟨markT (k + 2 * i), y.f1⟩) i ⟨(getE T 56 (List.set (mkP 2 fW k a i) i ⟨markT (k + 2 * i), y.f1⟩) i).f0, x⟩ = mkP 2 fW k a (i + 1) := by
  subst hx
  have h2 : getE T 56 (List.set (mkP 2 fW k a i) i ⟨markT (k + 2 * i), y.f1⟩) i = (⟨markT (k + 2 * i), y.f1⟩ : S56) := gs_ (e := 56) (mkP_lt hi h)
  have h3 : (⟨S56.f0 (getE T 56 (List.set (mkP 2 fW k a i) i ⟨markT (k + 2 * i), y.f1⟩) i), ((k + 2 * i + 1 : Nat) : Int)⟩ : S56) = fW (k + 2 * i) := congrArg (fun z : S56 => (⟨z.f0, ((k + 2 * i + 1 : Nat) : Int)⟩ : S56)) h2
  exact (congrArg (List.set _ i) h3).trans ((List.set_set ..).trans (mkP_set h))
theorem k2_ {k : Nat} (h : k + 2 ≤ 4611686018427387904) : ((k + 2 : Nat) : Int) = wrap64 (wrap64 ((k : Int) + 1) + 1) := by simp only [wrap64]; omega
theorem markWantS (a : List S56) (k : Nat) (hl : a.length ≤ 140737488351232) (h0 : 0 < k) (hk : k + 2 * a.length ≤ 4611686018427387904) : CallWOb T Tryz.prog 19 [.c (.ow 56 a 56 (mkL 2 fW k a.length)), .c (.c (.sc (.int .i64 (k : Int))))] (.c (.sc (.int .i64 ((k + 2 * a.length : Nat) : Int)))) := by
  refine call_of_vcW hT Tryz.func19 (by kernel_rfl) rfl rfl (fun A => ?_)
  conv => whnf
  refine LoopQ.mk { i : Nat // i ≤ a.length } (fun p => (1, [(5, i64 p.1), (1, i64 (k + 2 * p.1 : Nat)), (0, hd0)], [(1000, .row 0 56 (mkP 2 fW k a p.1))])) (fun p => a.length - p.1) ⟨0, Nat.zero_le _⟩ (imp_of [] rfl rfl rfl ⟨⟨rfl, rfl⟩, ⟨rfl, rfl⟩, ⟨rfl, rfl⟩, trivial⟩ ⟨show SameRow (T := T) 56 a 56 (mkP 2 fW k a 0) from sr_ mkP_zero, trivial⟩) ?_
  rintro ⟨i, hi⟩
  conv => whnf
  refine Split.mk (fun c => ?_) (fun c => ?_)
  · have hk2 : i < a.length := in_ c (mkP_len hi)
    clear c
    have hb : k + 2 * i + 2 ≤ 4611686018427387904 := by omega
    conv => whnf
    refine CallQ.mk _ (markText (k + 2 * i) (by omega) (by omega)) ?_
    conv => whnf
    refine Need.mk (idx (mkP_lt hi hk2)) ?_
    conv => whnf
    refine Need.mk (idx (Nat.lt_of_lt_of_eq (mkP_lt hi hk2) List.length_set.symm)) ?_
    conv => whnf
    exact NextQ.mk ⟨⟨i + 1, hk2⟩, Nat.sub_lt_sub_left hk2 (Nat.lt_succ_self i), imp_of [] rfl rfl rfl ⟨⟨rfl, congrArg i64 (sc_ hk2 hl)⟩, ⟨rfl, congrArg i64 (k2_ (k := k + 2 * i) (by omega))⟩, ⟨rfl, rfl⟩, trivial⟩ ⟨sr_ (wantStep (a := a) hk2 hi (kn_ (k := k + 2 * i) (n := 2) (by omega) (by decide))), trivial⟩⟩
  · have hk2 : i = a.length := Nat.le_antisymm hi (inf_ c (mkP_len hi))
    clear c
    conv => whnf
    subst hk2
    exact RetWQ.mk ⟨rfl, rfl⟩ ⟨⟨rfl, rfl⟩, rfl⟩ ⟨rfl, trivial⟩ ⟨show SameRow (T := T) 56 (mkP 2 fW k a a.length) 56 (mkL 2 fW k a.length) from sr_ mkP_all, trivial⟩
end Go.Proofs.YtnflbiafmddpgaaGreatDoor.Q
end
section
/- Marks found again; a packet's marks. Printed by a program of this work (gen_marks2.py). -/
namespace Go.Proofs.YtnflbiafmddpgaaGreatDoor.Q
open Go.RowKit Go.Proofs.YtnflbiafmddpgaaGreatDoor.Z
set_option linter.unusedVariables false
set_option linter.unusedSimpArgs false
set_option maxRecDepth 100000
set_option maxHeartbeats 4000000
theorem ng_ {n : Nat} {q : Prop} (c : decide ((n : Int) < 0) = true) : q := by have := li_t c; omega
theorem heldByteS (n k : Nat) (hl : n ≤ 140737488351232) (h0 : 0 < k) (hk : k + 1 * n ≤ 4611686018427387904) : CallOb T Tryz.prog 12 [.c (.sl 5 (mkL 1 fB k n)), .c (.sc (.int .i64 (k : Int)))] (.c (.sc (.int .i64 ((k + 1 * n : Nat) : Int)))) := by
  refine call_of_vc hT Tryz.func12 (by kernel_rfl) rfl rfl (fun A => ?_)
  conv => whnf
  refine LoopQ.mk { i : Nat // i ≤ n } (fun p => (0, [(5, i64 p.1), (1, i64 (k + 1 * p.1 : Nat)), (0, im 5 (mkL 1 fB k n))], [])) (fun p => n - p.1) ⟨0, Nat.zero_le _⟩ (imp_of [] rfl rfl rfl ⟨⟨rfl, rfl⟩, ⟨rfl, rfl⟩, ⟨rfl, rfl⟩, trivial⟩ trivial) ?_
  rintro ⟨i, hi⟩
  conv => whnf
  refine Split.mk (fun c => ?_) (fun c => ?_)
  · have hk2 : i < n := in_ c mkL_len
    clear c
    have hb : k + 1 * i + 1 ≤ 4611686018427387904 := by omega
    conv => whnf
    refine Need.mk (idx (Nat.lt_of_lt_of_eq hk2 mkL_len.symm)) ?_
    conv => whnf
    refine Split.mk (fun c => (ne_t c (mkL_get (s := 1) (f := fB) (k := k) (d := (0 : Int)) hk2)).elim) (fun c => ?_)
    clear c
    conv => whnf
    exact NextQ.mk ⟨⟨i + 1, hk2⟩, Nat.sub_lt_sub_left hk2 (Nat.lt_succ_self i), imp_of [] rfl rfl rfl ⟨⟨rfl, congrArg i64 (sc_ hk2 hl)⟩, ⟨rfl, congrArg i64 (kn_ (k := k + 1 * i) (n := 1) (by omega) (by decide))⟩, ⟨rfl, rfl⟩, trivial⟩ trivial⟩
  · have hk2 : i = n := Nat.le_antisymm hi (inf_ c mkL_len)
    clear c
    conv => whnf
    subst hk2
    exact RetQ.mk ⟨rfl, rfl⟩ ⟨rfl, rfl⟩ ⟨rfl, trivial⟩
def cP1 (p : S42) (k : Nat) : Nat := k + 1 * p.f6.length
def cP2 (p : S42) (k : Nat) : Nat := cP1 p k + 1 * p.f13.length
def cP3 (p : S42) (k : Nat) : Nat := cP2 p k + 1 * p.f19.length
def cP4 (p : S42) (k : Nat) : Nat := cP3 p k + 2 * p.f22.length
def cP5 (p : S42) (k : Nat) : Nat := cP4 p k + 1 * p.f23.length
def cP6 (p : S42) (k : Nat) : Nat := cP5 p k + 1 * p.f24.length
/-- A packet whose rows are marked. -/
def mkPk (p : S42) (k : Nat) : S42 := ⟨p.f0, p.f1, p.f2, p.f3, p.f4, p.f5, mkL 1 fB k p.f6.length, p.f7, p.f8, p.f9, p.f10, p.f11, p.f12, mkL 1 fB (cP1 p k) p.f13.length, p.f14, p.f15, p.f16, p.f17, p.f18, mkL 1 fB (cP2 p k) p.f19.length, p.f20, p.f21, mkL 2 fW (cP3 p k) p.f22.length, mkL 1 fS (cP4 p k) p.f23.length, mkL 1 fI (cP5 p k) p.f24.length⟩
def acs {Tb : Nat → Type} : List (C0 Tb) → List (C0 Tb) → List (AC Tb)
  | .sc v :: l, _ :: m => .c (.sc v) :: acs l m
  | .sl e x :: l, .sl e' y :: m => .ow e x e' y :: acs l m
  | _, _ => []
end Go.Proofs.YtnflbiafmddpgaaGreatDoor.Q
end
section
/- The law FnExactPutPacket's function answers true. -/
namespace Go.Proofs.YtnflbiafmddpgaaGreatDoor.Q
open Go.RowKit Go.Proofs.YtnflbiafmddpgaaGreatDoor.Z
open Go.Proofs.YtnflbiafmddpgaaGreatDoor.X (textOkP)
open Go.Proofs.YtnflbiafmddpgaaGreatDoor.Pure (topicL filterL)
set_option linter.unusedVariables false
set_option linter.unusedSimpArgs false
set_option maxRecDepth 100000
set_option maxHeartbeats 4000000
theorem szP_bnd (p : S38) (x : Int) (h0 : 0 ≤ x) (hx : x ≤ 1048576) (hf : Fit p) (h : 0 ≤ szP p x) : Bnd (toP p) := by
  have hs := (szP_small p _ h0 hx h).1
  have ht := szP_txt p _ h0 hx hf h
  unfold szP at h
  obtain ⟨g, h⟩ := tS_inv h
  have m5 := szL_le' g
  replace hx := Int.le_trans m5.2 hx
  clear m5 g
  obtain ⟨g, h⟩ := tS_inv h
  have m6 := szL_le' g
  replace hx := Int.le_trans m6.2 hx
  clear m6 g
  obtain ⟨g, h⟩ := tS_inv h
  have m7 := szL_le' g
  have n7 := Int.le_trans m7.1 hx
  replace hx := Int.le_trans m7.2 hx
  clear m7 g
  obtain ⟨g, h⟩ := tS_inv h
  have m12 := szL_le' g
  replace hx := Int.le_trans m12.2 hx
  clear m12 g
  obtain ⟨g, h⟩ := tS_inv h
  have m13 := szL_le' g
  replace hx := Int.le_trans m13.2 hx
  clear m13 g
  obtain ⟨g, h⟩ := tS_inv h
  have m17 := szL_le' g
  have n17 := Int.le_trans m17.1 hx
  clear m17 g h
  refine ⟨ht, ?_, ?_, hs.l6, hs.l13, hs.l19, ?_, hs.l23, hs.l24⟩
  · show p.f7.size ≤ _; omega
  · show p.f17.size ≤ _; omega
  · show (p.f22.map toW).length ≤ _; rw [List.length_map]; exact hs.l22
theorem pkS_len (p : S42) (hp : Bnd p) : (pkS p).length ≤ 290000000 := by
  have hl := folI_len p hp
  have hr := lenR_len _ (folI p).length (Nat.le_refl _)
  rw [← put_eq]
  unfold pkI
  with_reducible refine ite_ind (Q := fun l : List Int => l.length ≤ 290000000) ?_ ?_
  · rw [List.length_append, List.length_append, List.length_singleton]; omega
  · exact Nat.zero_le _
theorem bnd_c {p : S42} (h : Bnd p) : cP6 p 1 ≤ 4611686018427387904 := by
  have l6 := h.l6
  have l13 := h.l13
  have l19 := h.l19
  have l22 := h.l22
  have l23 := h.l23
  have l24 := h.l24
  simp only [cP6, cP5, cP4, cP3, cP2, cP1]
  omega
end Go.Proofs.YtnflbiafmddpgaaGreatDoor.Q
end
section
/- Rows of packets are marked in place. Printed by a program of this work (gen_marks3.py). -/
namespace Go.Proofs.YtnflbiafmddpgaaGreatDoor.Q
open Go.RowKit Go.Proofs.YtnflbiafmddpgaaGreatDoor.Z
set_option linter.unusedVariables false
set_option linter.unusedSimpArgs false
set_option maxRecDepth 100000
set_option maxHeartbeats 4000000
abbrev SP := S42
abbrev eP : Nat := 42
theorem set_ {R : List SP} {i : Nat} (h : i < R.length) (x : SP) (f : SP → SP) : (R.set i x).set i (f (getE T eP (R.set i x) i)) = R.set i (f x) := by
  have e : getE T eP (R.set i x) i = x := gs_ (e := eP) (l := R) h
  rw [e, List.set_set]
theorem ge_ {R : List SP} {i : Nat} (h : i < R.length) (x : SP) (C : SP → Prop) (hc : C x) : C (getE T eP (R.set i x) i) := by
  have e : getE T eP (R.set i x) i = x := gs_ (e := eP) (l := R) h
  rw [e]; exact hc
theorem get_mid {α : Type} {l r : List α} {d : α} {i : Nat} (h : i = l.length) (hr : 0 < r.length) : (l ++ r).getD i d = r.getD 0 d := by
  subst h; simp [List.getD, List.getElem?_append_right]

def c6 (p : SP) (k : Nat) : Nat := (k + 6) + 1 * p.f6.length
def c13 (p : SP) (k : Nat) : Nat := ((c6 p k) + 6) + 1 * p.f13.length
def c19 (p : SP) (k : Nat) : Nat := ((c13 p k) + 5) + 1 * p.f19.length
def c22 (p : SP) (k : Nat) : Nat := ((c19 p k) + 2) + 2 * p.f22.length
def c23 (p : SP) (k : Nat) : Nat := (c22 p k) + 1 * p.f23.length
def c24 (p : SP) (k : Nat) : Nat := (c23 p k) + 1 * p.f24.length
def mkPS (p : SP) (k : Nat) : SP := ⟨((k : Nat) : Int), ((((k + 1) : Nat) : Int).tmod 3 == 0), (((k + 2) : Nat) : Int), ((((k + 3) : Nat) : Int).tmod 3 == 0), (((k + 4) : Nat) : Int), markT (k + 5), mkL 1 fB (k + 6) p.f6.length, markT (c6 p k), ((((c6 p k) + 1) : Nat) : Int), (((((c6 p k) + 2) : Nat) : Int).tmod 3 == 0), ((((c6 p k) + 3) : Nat) : Int), (((((c6 p k) + 4) : Nat) : Int).tmod 3 == 0), markT ((c6 p k) + 5), mkL 1 fB ((c6 p k) + 6) p.f13.length, (((c13 p k) : Nat) : Int), (((((c13 p k) + 1) : Nat) : Int).tmod 3 == 0), (((((c13 p k) + 2) : Nat) : Int).tmod 3 == 0), markT ((c13 p k) + 3), (((((c13 p k) + 4) : Nat) : Int).tmod 3 == 0), mkL 1 fB ((c13 p k) + 5) p.f19.length, (((c19 p k) : Nat) : Int), (((((c19 p k) + 1) : Nat) : Int).tmod 3 == 0), mkL 2 fW ((c19 p k) + 2) p.f22.length, mkL 1 fS (c22 p k) p.f23.length, mkL 1 fI (c23 p k) p.f24.length⟩
def kPS (p : SP) (k : Nat) : Nat := c24 p k
def mkR : List SP → Nat → List SP × Nat
  | [], k => ([], k)
  | p :: l, k => (mkPS p k :: (mkR l (kPS p k)).1, (mkR l (kPS p k)).2)
theorem mkR_app : ∀ (l m : List SP) (k : Nat), mkR (l ++ m) k = ((mkR l k).1 ++ (mkR m (mkR l k).2).1, (mkR m (mkR l k).2).2)
  | [], _, _ => rfl
  | p :: l, m, k => by simp only [List.cons_append, mkR, mkR_app l m]
theorem mkR_len : ∀ (l : List SP) (k : Nat), (mkR l k).1.length = l.length
  | [], _ => rfl
  | p :: l, k => by simp only [mkR, List.length_cons, mkR_len l]
theorem mkR_take {a : List SP} {k i : Nat} (h : i < a.length) : mkR (a.take (i + 1)) k = ((mkR (a.take i) k).1 ++ [mkPS (a.getD i (z42)) (mkR (a.take i) k).2], kPS (a.getD i (z42)) (mkR (a.take i) k).2) := by
  have e : a.getD i (z42) = a[i] := by simp [h]
  rw [List.take_succ_eq_append_getElem h, mkR_app, e]; rfl
/-- How much a packet's marking takes at most. -/
structure Pb (p : SP) : Prop where
  l6 : p.f6.length ≤ 1048576
  l13 : p.f13.length ≤ 1048576
  l19 : p.f19.length ≤ 1048576
  l22 : p.f22.length ≤ 1048576
  l23 : p.f23.length ≤ 1048576
  l24 : p.f24.length ≤ 1048576
theorem kPS_le {p : SP} {k : Nat} (h : Pb p) : k ≤ kPS p k ∧ kPS p k ≤ k + 10000000 := by
  obtain ⟨a, b, c, d, e, f⟩ := h
  simp only [kPS, c24, c23, c22, c19, c13, c6]
  omega
theorem mkR_le : ∀ (l : List SP) (k : Nat), (∀ p ∈ l, Pb p) → k ≤ (mkR l k).2 ∧ (mkR l k).2 ≤ k + 10000000 * l.length
  | [], k, _ => ⟨Nat.le_refl _, by simp [mkR]⟩
  | p :: l, k, h => by
    have h1 := kPS_le (k := k) (h p List.mem_cons_self)
    have h2 := mkR_le l (kPS p k) (fun q hq => h q (List.mem_cons_of_mem _ hq))
    simp only [mkR, List.length_cons]
    omega
def rowI (a : List SP) (k i : Nat) : List SP := (mkR (a.take i) k).1 ++ a.drop i
theorem rowI_len {a : List SP} {k i : Nat} (h : i ≤ a.length) : (rowI a k i).length = a.length := by
  rw [rowI, List.length_append, mkR_len, List.length_take, List.length_drop]; omega
theorem rowI_set {a : List SP} {k i : Nat} (h : i < a.length) (x : SP) : (rowI a k i).set i x = (mkR (a.take i) k).1 ++ x :: a.drop (i + 1) := by
  have hl : (mkR (a.take i) k).1.length = i := by rw [mkR_len, List.length_take]; omega
  rw [rowI, List.set_append_right _ _ (by omega), hl, Nat.sub_self, List.drop_eq_getElem_cons h]; rfl
theorem rowI_self {a : List SP} {k i : Nat} (h : i < a.length) : rowI a k i = (rowI a k i).set i (a.getD i (z42)) := by
  rw [rowI_set h, rowI, List.drop_eq_getElem_cons h]
  simp [h]
theorem rowI_next {a : List SP} {k i : Nat} (h : i < a.length) : (rowI a k i).set i (mkPS (a.getD i (z42)) (mkR (a.take i) k).2) = rowI a k (i + 1) := by
  rw [rowI_set h, rowI, mkR_take h, List.append_assoc]; rfl
theorem rowI_all {a : List SP} {k : Nat} : rowI a k a.length = (mkR a k).1 := by rw [rowI, List.take_length, List.drop_length, List.append_nil]
theorem markPacketS (a : List SP) (k : Nat) (ha : a.length ≤ 1048576) (hp : ∀ p ∈ a, Pb p) (h0 : 0 < k) (hk : k ≤ 1048576) : CallWOb T Tryz.prog 10 [.c (.ow eP a eP (mkR a k).1), .c (.c (.sc (.int .i64 (k : Int))))] (.c (.sc (.int .i64 ((mkR a k).2 : Int)))) := by
  refine call_of_VcW hT Tryz.func10 (by kernel_rfl) rfl rfl (fun A => ?_)
  refine Vc.seq 0 hT ?_
  conv => whnf
  refine Vc.seqV ?_
  refine Vc.seq 0 hT ?_
  conv => whnf
  refine Vc.block ?_
  refine Vc.loop (α := { i : Nat // i ≤ a.length }) (fun s => ([(5, i64 s.1), (1, i64 ((mkR (a.take s.1) k).2 : Nat)), (0, hd0)], [(1000, .row 0 eP (rowI a k s.1))])) (fun s => a.length - s.1) ⟨0, Nat.zero_le _⟩ (imp_of [] rfl rfl rfl ⟨⟨rfl, rfl⟩, ⟨rfl, rfl⟩, ⟨rfl, rfl⟩, trivial⟩ ⟨show SameRow (T := T) eP a eP (rowI a k 0) from sr_ rfl, trivial⟩) ?_
  rintro ⟨i, hi⟩
  have hR := rowI_len (k := k) hi
  refine Vc.seq 1 hT ?_
  conv => whnf
  refine Split.mk (fun c => ?_) (fun c => ?_)
  · have hk2 : i < a.length := in_ c hR
    clear c
    have hq := (mkR_le (a.take i) k (fun q hq => hp q (List.mem_of_mem_take hq)))
    have hi2 : (a.take i).length ≤ 1048576 := by rw [List.length_take]; omega
    have hpb : Pb (a.getD i (z42)) := hp _ (getD_mem hk2)
    have hself := rowI_self (k := k) hk2
    have hnext := rowI_next (k := k) hk2
    have hmk := mkR_take (k := k) hk2
    have hkp := kPS_le (k := (mkR (a.take i) k).2) hpb
    generalize rowI a k i = R at hself hnext hR ⊢
    generalize (mkR (a.take i) k).2 = k at hq hnext hmk hkp ⊢
    generalize a.getD i (z42) = p at hself hnext hpb hmk hkp ⊢
    have hlt : i < R.length := by omega
    have hk1 : 0 < k := by omega
    have hkb : k ≤ 10485770000000 := by omega
    obtain ⟨b6, b13, b19, b22, b23, b24⟩ := hpb
    have n6 : c6 p k ≤ k + 2000000 ∧ k < c6 p k := by simp only [c6]; omega
    have n13 : c13 p k ≤ k + 4000000 ∧ k < c13 p k := by simp only [c13]; omega
    have n19 : c19 p k ≤ k + 6000000 ∧ k < c19 p k := by simp only [c19]; omega
    have n22 : c22 p k ≤ k + 9000000 ∧ k < c22 p k := by simp only [c22]; omega
    have n23 : c23 p k ≤ k + 11000000 ∧ k < c23 p k := by simp only [c23]; omega
    conv => whnf
    refine Vc.imp (tm' := [(5, i64 i), (1, i64 (k : Nat)), (0, hd0)]) (rs' := [(1000, .row 0 eP (R.set i p))]) (imp_of [] rfl rfl rfl ⟨⟨rfl, rfl⟩, ⟨rfl, rfl⟩, ⟨rfl, rfl⟩, trivial⟩ ⟨show SameRow (T := T) eP R eP (R.set i p) from sr_ hself, trivial⟩) ?_
    clear hself
    refine Vc.seqV ?_
    refine Vc.block ?_
    refine Vc.seq 1 hT ?_
    conv => whnf
    refine Need.mk (idx (Nat.lt_of_lt_of_eq hlt List.length_set.symm)) ?_
    conv => whnf
    refine Vc.cut (α := Unit) 50 (fun _ => True) (fun _ => [(5, i64 i), (1, i64 ((k + 1) : Nat)), (0, hd0)]) (fun _ => [(1000, .row 0 eP (R.set i (⟨((k : Nat) : Int), p.f1, p.f2, p.f3, p.f4, p.f5, p.f6, p.f7, p.f8, p.f9, p.f10, p.f11, p.f12, p.f13, p.f14, p.f15, p.f16, p.f17, p.f18, p.f19, p.f20, p.f21, p.f22, p.f23, p.f24⟩ : SP)))]) hT ?_ (fun _ _ => ?_)
    · conv => whnf
      exact CutQ.mk ⟨(), trivial, imp_of [] rfl rfl rfl ⟨⟨rfl, rfl⟩, ⟨rfl, congrArg i64 (kn_ (k := k) (n := 1) (by omega) (by decide))⟩, ⟨rfl, rfl⟩, trivial⟩ ⟨sr_ (set_ hlt (p : SP) (fun q => ⟨((k : Nat) : Int), q.f1, q.f2, q.f3, q.f4, q.f5, q.f6, q.f7, q.f8, q.f9, q.f10, q.f11, q.f12, q.f13, q.f14, q.f15, q.f16, q.f17, q.f18, q.f19, q.f20, q.f21, q.f22, q.f23, q.f24⟩)), trivial⟩⟩
    refine Vc.seq 1 hT ?_
    conv => whnf
    refine Need.mk (idx (Nat.lt_of_lt_of_eq hlt List.length_set.symm)) ?_
    conv => whnf
    refine Vc.cut (α := Unit) 50 (fun _ => True) (fun _ => [(5, i64 i), (1, i64 ((k + 2) : Nat)), (0, hd0)]) (fun _ => [(1000, .row 0 eP (R.set i (⟨((k : Nat) : Int), ((((k + 1) : Nat) : Int).tmod 3 == 0), p.f2, p.f3, p.f4, p.f5, p.f6, p.f7, p.f8, p.f9, p.f10, p.f11, p.f12, p.f13, p.f14, p.f15, p.f16, p.f17, p.f18, p.f19, p.f20, p.f21, p.f22, p.f23, p.f24⟩ : SP)))]) hT ?_ (fun _ _ => ?_)
    · conv => whnf
      exact CutQ.mk ⟨(), trivial, imp_of [] rfl rfl rfl ⟨⟨rfl, rfl⟩, ⟨rfl, congrArg i64 (kn_ (k := (k + 1)) (n := 1) (by omega) (by decide))⟩, ⟨rfl, rfl⟩, trivial⟩ ⟨sr_ (set_ hlt (⟨((k : Nat) : Int), p.f1, p.f2, p.f3, p.f4, p.f5, p.f6, p.f7, p.f8, p.f9, p.f10, p.f11, p.f12, p.f13, p.f14, p.f15, p.f16, p.f17, p.f18, p.f19, p.f20, p.f21, p.f22, p.f23, p.f24⟩ : SP) (fun q => ⟨q.f0, ((((k + 1) : Nat) : Int).tmod 3 == 0), q.f2, q.f3, q.f4, q.f5, q.f6, q.f7, q.f8, q.f9, q.f10, q.f11, q.f12, q.f13, q.f14, q.f15, q.f16, q.f17, q.f18, q.f19, q.f20, q.f21, q.f22, q.f23, q.f24⟩)), trivial⟩⟩
    refine Vc.seq 1 hT ?_
    conv => whnf
    refine Need.mk (idx (Nat.lt_of_lt_of_eq hlt List.length_set.symm)) ?_
    conv => whnf
    refine Vc.cut (α := Unit) 50 (fun _ => True) (fun _ => [(5, i64 i), (1, i64 ((k + 3) : Nat)), (0, hd0)]) (fun _ => [(1000, .row 0 eP (R.set i (⟨((k : Nat) : Int), ((((k + 1) : Nat) : Int).tmod 3 == 0), (((k + 2) : Nat) : Int), p.f3, p.f4, p.f5, p.f6, p.f7, p.f8, p.f9, p.f10, p.f11, p.f12, p.f13, p.f14, p.f15, p.f16, p.f17, p.f18, p.f19, p.f20, p.f21, p.f22, p.f23, p.f24⟩ : SP)))]) hT ?_ (fun _ _ => ?_)
    · conv => whnf
      exact CutQ.mk ⟨(), trivial, imp_of [] rfl rfl rfl ⟨⟨rfl, rfl⟩, ⟨rfl, congrArg i64 (kn_ (k := (k + 2)) (n := 1) (by omega) (by decide))⟩, ⟨rfl, rfl⟩, trivial⟩ ⟨sr_ (set_ hlt (⟨((k : Nat) : Int), ((((k + 1) : Nat) : Int).tmod 3 == 0), p.f2, p.f3, p.f4, p.f5, p.f6, p.f7, p.f8, p.f9, p.f10, p.f11, p.f12, p.f13, p.f14, p.f15, p.f16, p.f17, p.f18, p.f19, p.f20, p.f21, p.f22, p.f23, p.f24⟩ : SP) (fun q => ⟨q.f0, q.f1, (((k + 2) : Nat) : Int), q.f3, q.f4, q.f5, q.f6, q.f7, q.f8, q.f9, q.f10, q.f11, q.f12, q.f13, q.f14, q.f15, q.f16, q.f17, q.f18, q.f19, q.f20, q.f21, q.f22, q.f23, q.f24⟩)), trivial⟩⟩
    refine Vc.seq 1 hT ?_
    conv => whnf
    refine Need.mk (idx (Nat.lt_of_lt_of_eq hlt List.length_set.symm)) ?_
    conv => whnf
    refine Vc.cut (α := Unit) 50 (fun _ => True) (fun _ => [(5, i64 i), (1, i64 ((k + 4) : Nat)), (0, hd0)]) (fun _ => [(1000, .row 0 eP (R.set i (⟨((k : Nat) : Int), ((((k + 1) : Nat) : Int).tmod 3 == 0), (((k + 2) : Nat) : Int), ((((k + 3) : Nat) : Int).tmod 3 == 0), p.f4, p.f5, p.f6, p.f7, p.f8, p.f9, p.f10, p.f11, p.f12, p.f13, p.f14, p.f15, p.f16, p.f17, p.f18, p.f19, p.f20, p.f21, p.f22, p.f23, p.f24⟩ : SP)))]) hT ?_ (fun _ _ => ?_)
    · conv => whnf
      exact CutQ.mk ⟨(), trivial, imp_of [] rfl rfl rfl ⟨⟨rfl, rfl⟩, ⟨rfl, congrArg i64 (kn_ (k := (k + 3)) (n := 1) (by omega) (by decide))⟩, ⟨rfl, rfl⟩, trivial⟩ ⟨sr_ (set_ hlt (⟨((k : Nat) : Int), ((((k + 1) : Nat) : Int).tmod 3 == 0), (((k + 2) : Nat) : Int), p.f3, p.f4, p.f5, p.f6, p.f7, p.f8, p.f9, p.f10, p.f11, p.f12, p.f13, p.f14, p.f15, p.f16, p.f17, p.f18, p.f19, p.f20, p.f21, p.f22, p.f23, p.f24⟩ : SP) (fun q => ⟨q.f0, q.f1, q.f2, ((((k + 3) : Nat) : Int).tmod 3 == 0), q.f4, q.f5, q.f6, q.f7, q.f8, q.f9, q.f10, q.f11, q.f12, q.f13, q.f14, q.f15, q.f16, q.f17, q.f18, q.f19, q.f20, q.f21, q.f22, q.f23, q.f24⟩)), trivial⟩⟩
    refine Vc.seq 1 hT ?_
    conv => whnf
    refine Need.mk (idx (Nat.lt_of_lt_of_eq hlt List.length_set.symm)) ?_
    conv => whnf
    refine Vc.cut (α := Unit) 50 (fun _ => True) (fun _ => [(5, i64 i), (1, i64 ((k + 5) : Nat)), (0, hd0)]) (fun _ => [(1000, .row 0 eP (R.set i (⟨((k : Nat) : Int), ((((k + 1) : Nat) : Int).tmod 3 == 0), (((k + 2) : Nat) : Int), ((((k + 3) : Nat) : Int).tmod 3 == 0), (((k + 4) : Nat) : Int), p.f5, p.f6, p.f7, p.f8, p.f9, p.f10, p.f11, p.f12, p.f13, p.f14, p.f15, p.f16, p.f17, p.f18, p.f19, p.f20, p.f21, p.f22, p.f23, p.f24⟩ : SP)))]) hT ?_ (fun _ _ => ?_)
    · conv => whnf
      exact CutQ.mk ⟨(), trivial, imp_of [] rfl rfl rfl ⟨⟨rfl, rfl⟩, ⟨rfl, congrArg i64 (kn_ (k := (k + 4)) (n := 1) (by omega) (by decide))⟩, ⟨rfl, rfl⟩, trivial⟩ ⟨sr_ (set_ hlt (⟨((k : Nat) : Int), ((((k + 1) : Nat) : Int).tmod 3 == 0), (((k + 2) : Nat) : Int), ((((k + 3) : Nat) : Int).tmod 3 == 0), p.f4, p.f5, p.f6, p.f7, p.f8, p.f9, p.f10, p.f11, p.f12, p.f13, p.f14, p.f15, p.f16, p.f17, p.f18, p.f19, p.f20, p.f21, p.f22, p.f23, p.f24⟩ : SP) (fun q => ⟨q.f0, q.f1, q.f2, q.f3, (((k + 4) : Nat) : Int), q.f5, q.f6, q.f7, q.f8, q.f9, q.f10, q.f11, q.f12, q.f13, q.f14, q.f15, q.f16, q.f17, q.f18, q.f19, q.f20, q.f21, q.f22, q.f23, q.f24⟩)), trivial⟩⟩
    refine Vc.seq 1 hT ?_
    conv => whnf
    refine CallQ.mk _ (markText (k + 5) (by omega) (by omega)) ?_
    conv => whnf
    refine Need.mk (idx (Nat.lt_of_lt_of_eq hlt List.length_set.symm)) ?_
    conv => whnf
    refine Vc.cut (α := Unit) 50 (fun _ => True) (fun _ => [(5, i64 i), (1, i64 ((k + 6) : Nat)), (0, hd0)]) (fun _ => [(1000, .row 0 eP (R.set i (⟨((k : Nat) : Int), ((((k + 1) : Nat) : Int).tmod 3 == 0), (((k + 2) : Nat) : Int), ((((k + 3) : Nat) : Int).tmod 3 == 0), (((k + 4) : Nat) : Int), markT (k + 5), p.f6, p.f7, p.f8, p.f9, p.f10, p.f11, p.f12, p.f13, p.f14, p.f15, p.f16, p.f17, p.f18, p.f19, p.f20, p.f21, p.f22, p.f23, p.f24⟩ : SP)))]) hT ?_ (fun _ _ => ?_)
    · conv => whnf
      exact CutQ.mk ⟨(), trivial, imp_of [] rfl rfl rfl ⟨⟨rfl, rfl⟩, ⟨rfl, congrArg i64 (kn_ (k := (k + 5)) (n := 1) (by omega) (by decide))⟩, ⟨rfl, rfl⟩, trivial⟩ ⟨sr_ (set_ hlt (⟨((k : Nat) : Int), ((((k + 1) : Nat) : Int).tmod 3 == 0), (((k + 2) : Nat) : Int), ((((k + 3) : Nat) : Int).tmod 3 == 0), (((k + 4) : Nat) : Int), p.f5, p.f6, p.f7, p.f8, p.f9, p.f10, p.f11, p.f12, p.f13, p.f14, p.f15, p.f16, p.f17, p.f18, p.f19, p.f20, p.f21, p.f22, p.f23, p.f24⟩ : SP) (fun q => ⟨q.f0, q.f1, q.f2, q.f3, q.f4, markT (k + 5), q.f6, q.f7, q.f8, q.f9, q.f10, q.f11, q.f12, q.f13, q.f14, q.f15, q.f16, q.f17, q.f18, q.f19, q.f20, q.f21, q.f22, q.f23, q.f24⟩)), trivial⟩⟩
    refine Vc.cut (α := Unit) 1 (fun _ => True) (fun _ => [(5, i64 i), (1, i64 ((c6 p k) : Nat)), (0, hd0)]) (fun _ => [(1000, .row 0 eP (R.set i (⟨((k : Nat) : Int), ((((k + 1) : Nat) : Int).tmod 3 == 0), (((k + 2) : Nat) : Int), ((((k + 3) : Nat) : Int).tmod 3 == 0), (((k + 4) : Nat) : Int), markT (k + 5), mkL 1 fB (k + 6) p.f6.length, p.f7, p.f8, p.f9, p.f10, p.f11, p.f12, p.f13, p.f14, p.f15, p.f16, p.f17, p.f18, p.f19, p.f20, p.f21, p.f22, p.f23, p.f24⟩ : SP)))]) hT ?_ (fun _ _ => ?_)
    · conv => whnf
      refine Need.mk (idx (Nat.lt_of_lt_of_eq hlt List.length_set.symm)) ?_
      conv => whnf
      refine CallQ.wr [[NW.wr 5 (mkL 1 fB (k + 6) p.f6.length)], [NW.rd]] (.c (.sc (.int .i64 (((k + 6) + 1 * p.f6.length : Nat) : Int)))) ?_
      conv => whnf
      refine CallWQ.mk (ge_ hlt (⟨((k : Nat) : Int), ((((k + 1) : Nat) : Int).tmod 3 == 0), (((k + 2) : Nat) : Int), ((((k + 3) : Nat) : Int).tmod 3 == 0), (((k + 4) : Nat) : Int), markT (k + 5), p.f6, p.f7, p.f8, p.f9, p.f10, p.f11, p.f12, p.f13, p.f14, p.f15, p.f16, p.f17, p.f18, p.f19, p.f20, p.f21, p.f22, p.f23, p.f24⟩ : SP) (fun q => CallWOb T Tryz.prog 11 [.c (.ow 5 q.f6 5 (mkL 1 fB (k + 6) p.f6.length)), .c (.c (.sc (.int .i64 (((k + 6) : Nat) : Int))))] (.c (.sc (.int .i64 (((k + 6) + 1 * p.f6.length : Nat) : Int))))) (markByteS p.f6 (k + 6) (by omega) (by omega) (by omega))) ?_
      conv => whnf
      exact CutQ.mk ⟨(), trivial, imp_of [] rfl rfl rfl ⟨⟨rfl, rfl⟩, ⟨rfl, rfl⟩, ⟨rfl, rfl⟩, trivial⟩ ⟨sr_ (set_ hlt (⟨((k : Nat) : Int), ((((k + 1) : Nat) : Int).tmod 3 == 0), (((k + 2) : Nat) : Int), ((((k + 3) : Nat) : Int).tmod 3 == 0), (((k + 4) : Nat) : Int), markT (k + 5), p.f6, p.f7, p.f8, p.f9, p.f10, p.f11, p.f12, p.f13, p.f14, p.f15, p.f16, p.f17, p.f18, p.f19, p.f20, p.f21, p.f22, p.f23, p.f24⟩ : SP) (fun q => ⟨q.f0, q.f1, q.f2, q.f3, q.f4, q.f5, mkL 1 fB (k + 6) p.f6.length, q.f7, q.f8, q.f9, q.f10, q.f11, q.f12, q.f13, q.f14, q.f15, q.f16, q.f17, q.f18, q.f19, q.f20, q.f21, q.f22, q.f23, q.f24⟩)), trivial⟩⟩
    refine Vc.seq 1 hT ?_
    conv => whnf
    refine CallQ.mk _ (markText (c6 p k) (by omega) (by omega)) ?_
    conv => whnf
    refine Need.mk (idx (Nat.lt_of_lt_of_eq hlt List.length_set.symm)) ?_
    conv => whnf
    refine Vc.cut (α := Unit) 50 (fun _ => True) (fun _ => [(5, i64 i), (1, i64 (((c6 p k) + 1) : Nat)), (0, hd0)]) (fun _ => [(1000, .row 0 eP (R.set i (⟨((k : Nat) : Int), ((((k + 1) : Nat) : Int).tmod 3 == 0), (((k + 2) : Nat) : Int), ((((k + 3) : Nat) : Int).tmod 3 == 0), (((k + 4) : Nat) : Int), markT (k + 5), mkL 1 fB (k + 6) p.f6.length, markT (c6 p k), p.f8, p.f9, p.f10, p.f11, p.f12, p.f13, p.f14, p.f15, p.f16, p.f17, p.f18, p.f19, p.f20, p.f21, p.f22, p.f23, p.f24⟩ : SP)))]) hT ?_ (fun _ _ => ?_)
    · conv => whnf
      exact CutQ.mk ⟨(), trivial, imp_of [] rfl rfl rfl ⟨⟨rfl, rfl⟩, ⟨rfl, congrArg i64 (kn_ (k := (c6 p k)) (n := 1) (by omega) (by decide))⟩, ⟨rfl, rfl⟩, trivial⟩ ⟨sr_ (set_ hlt (⟨((k : Nat) : Int), ((((k + 1) : Nat) : Int).tmod 3 == 0), (((k + 2) : Nat) : Int), ((((k + 3) : Nat) : Int).tmod 3 == 0), (((k + 4) : Nat) : Int), markT (k + 5), mkL 1 fB (k + 6) p.f6.length, p.f7, p.f8, p.f9, p.f10, p.f11, p.f12, p.f13, p.f14, p.f15, p.f16, p.f17, p.f18, p.f19, p.f20, p.f21, p.f22, p.f23, p.f24⟩ : SP) (fun q => ⟨q.f0, q.f1, q.f2, q.f3, q.f4, q.f5, q.f6, markT (c6 p k), q.f8, q.f9, q.f10, q.f11, q.f12, q.f13, q.f14, q.f15, q.f16, q.f17, q.f18, q.f19, q.f20, q.f21, q.f22, q.f23, q.f24⟩)), trivial⟩⟩
    refine Vc.seq 1 hT ?_
    conv => whnf
    refine Need.mk (idx (Nat.lt_of_lt_of_eq hlt List.length_set.symm)) ?_
    conv => whnf
    refine Vc.cut (α := Unit) 50 (fun _ => True) (fun _ => [(5, i64 i), (1, i64 (((c6 p k) + 2) : Nat)), (0, hd0)]) (fun _ => [(1000, .row 0 eP (R.set i (⟨((k : Nat) : Int), ((((k + 1) : Nat) : Int).tmod 3 == 0), (((k + 2) : Nat) : Int), ((((k + 3) : Nat) : Int).tmod 3 == 0), (((k + 4) : Nat) : Int), markT (k + 5), mkL 1 fB (k + 6) p.f6.length, markT (c6 p k), ((((c6 p k) + 1) : Nat) : Int), p.f9, p.f10, p.f11, p.f12, p.f13, p.f14, p.f15, p.f16, p.f17, p.f18, p.f19, p.f20, p.f21, p.f22, p.f23, p.f24⟩ : SP)))]) hT ?_ (fun _ _ => ?_)
    · conv => whnf
      exact CutQ.mk ⟨(), trivial, imp_of [] rfl rfl rfl ⟨⟨rfl, rfl⟩, ⟨rfl, congrArg i64 (kn_ (k := ((c6 p k) + 1)) (n := 1) (by omega) (by decide))⟩, ⟨rfl, rfl⟩, trivial⟩ ⟨sr_ (set_ hlt (⟨((k : Nat) : Int), ((((k + 1) : Nat) : Int).tmod 3 == 0), (((k + 2) : Nat) : Int), ((((k + 3) : Nat) : Int).tmod 3 == 0), (((k + 4) : Nat) : Int), markT (k + 5), mkL 1 fB (k + 6) p.f6.length, markT (c6 p k), p.f8, p.f9, p.f10, p.f11, p.f12, p.f13, p.f14, p.f15, p.f16, p.f17, p.f18, p.f19, p.f20, p.f21, p.f22, p.f23, p.f24⟩ : SP) (fun q => ⟨q.f0, q.f1, q.f2, q.f3, q.f4, q.f5, q.f6, q.f7, ((((c6 p k) + 1) : Nat) : Int), q.f9, q.f10, q.f11, q.f12, q.f13, q.f14, q.f15, q.f16, q.f17, q.f18, q.f19, q.f20, q.f21, q.f22, q.f23, q.f24⟩)), trivial⟩⟩
    refine Vc.seq 1 hT ?_
    conv => whnf
    refine Need.mk (idx (Nat.lt_of_lt_of_eq hlt List.length_set.symm)) ?_
    conv => whnf
    refine Vc.cut (α := Unit) 50 (fun _ => True) (fun _ => [(5, i64 i), (1, i64 (((c6 p k) + 3) : Nat)), (0, hd0)]) (fun _ => [(1000, .row 0 eP (R.set i (⟨((k : Nat) : Int), ((((k + 1) : Nat) : Int).tmod 3 == 0), (((k + 2) : Nat) : Int), ((((k + 3) : Nat) : Int).tmod 3 == 0), (((k + 4) : Nat) : Int), markT (k + 5), mkL 1 fB (k + 6) p.f6.length, markT (c6 p k), ((((c6 p k) + 1) : Nat) : Int), (((((c6 p k) + 2) : Nat) : Int).tmod 3 == 0), p.f10, p.f11, p.f12, p.f13, p.f14, p.f15, p.f16, p.f17, p.f18, p.f19, p.f20, p.f21, p.f22, p.f23, p.f24⟩ : SP)))]) hT ?_ (fun _ _ => ?_)
    · conv => whnf
      exact CutQ.mk ⟨(), trivial, imp_of [] rfl rfl rfl ⟨⟨rfl, rfl⟩, ⟨rfl, congrArg i64 (kn_ (k := ((c6 p k) + 2)) (n := 1) (by omega) (by decide))⟩, ⟨rfl, rfl⟩, trivial⟩ ⟨sr_ (set_ hlt (⟨((k : Nat) : Int), ((((k + 1) : Nat) : Int).tmod 3 == 0), (((k + 2) : Nat) : Int), ((((k + 3) : Nat) : Int).tmod 3 == 0), (((k + 4) : Nat) : Int), markT (k + 5), mkL 1 fB (k + 6) p.f6.length, markT (c6 p k), ((((c6 p k) + 1) : Nat) : Int), p.f9, p.f10, p.f11, p.f12, p.f13, p.f14, p.f15, p.f16, p.f17, p.f18, p.f19, p.f20, p.f21, p.f22, p.f23, p.f24⟩ : SP) (fun q => ⟨q.f0, q.f1, q.f2, q.f3, q.f4, q.f5, q.f6, q.f7, q.f8, (((((c6 p k) + 2) : Nat) : Int).tmod 3 == 0), q.f10, q.f11, q.f12, q.f13, q.f14, q.f15, q.f16, q.f17, q.f18, q.f19, q.f20, q.f21, q.f22, q.f23, q.f24⟩)), trivial⟩⟩
    refine Vc.seq 1 hT ?_
    conv => whnf
    refine Need.mk (idx (Nat.lt_of_lt_of_eq hlt List.length_set.symm)) ?_
    conv => whnf
    refine Vc.cut (α := Unit) 50 (fun _ => True) (fun _ => [(5, i64 i), (1, i64 (((c6 p k) + 4) : Nat)), (0, hd0)]) (fun _ => [(1000, .row 0 eP (R.set i (⟨((k : Nat) : Int), ((((k + 1) : Nat) : Int).tmod 3 == 0), (((k + 2) : Nat) : Int), ((((k + 3) : Nat) : Int).tmod 3 == 0), (((k + 4) : Nat) : Int), markT (k + 5), mkL 1 fB (k + 6) p.f6.length, markT (c6 p k), ((((c6 p k) + 1) : Nat) : Int), (((((c6 p k) + 2) : Nat) : Int).tmod 3 == 0), ((((c6 p k) + 3) : Nat) : Int), p.f11, p.f12, p.f13, p.f14, p.f15, p.f16, p.f17, p.f18, p.f19, p.f20, p.f21, p.f22, p.f23, p.f24⟩ : SP)))]) hT ?_ (fun _ _ => ?_)
    · conv => whnf
      exact CutQ.mk ⟨(), trivial, imp_of [] rfl rfl rfl ⟨⟨rfl, rfl⟩, ⟨rfl, congrArg i64 (kn_ (k := ((c6 p k) + 3)) (n := 1) (by omega) (by decide))⟩, ⟨rfl, rfl⟩, trivial⟩ ⟨sr_ (set_ hlt (⟨((k : Nat) : Int), ((((k + 1) : Nat) : Int).tmod 3 == 0), (((k + 2) : Nat) : Int), ((((k + 3) : Nat) : Int).tmod 3 == 0), (((k + 4) : Nat) : Int), markT (k + 5), mkL 1 fB (k + 6) p.f6.length, markT (c6 p k), ((((c6 p k) + 1) : Nat) : Int), (((((c6 p k) + 2) : Nat) : Int).tmod 3 == 0), p.f10, p.f11, p.f12, p.f13, p.f14, p.f15, p.f16, p.f17, p.f18, p.f19, p.f20, p.f21, p.f22, p.f23, p.f24⟩ : SP) (fun q => ⟨q.f0, q.f1, q.f2, q.f3, q.f4, q.f5, q.f6, q.f7, q.f8, q.f9, ((((c6 p k) + 3) : Nat) : Int), q.f11, q.f12, q.f13, q.f14, q.f15, q.f16, q.f17, q.f18, q.f19, q.f20, q.f21, q.f22, q.f23, q.f24⟩)), trivial⟩⟩
    refine Vc.seq 1 hT ?_
    conv => whnf
    refine Need.mk (idx (Nat.lt_of_lt_of_eq hlt List.length_set.symm)) ?_
    conv => whnf
    refine Vc.cut (α := Unit) 50 (fun _ => True) (fun _ => [(5, i64 i), (1, i64 (((c6 p k) + 5) : Nat)), (0, hd0)]) (fun _ => [(1000, .row 0 eP (R.set i (⟨((k : Nat) : Int), ((((k + 1) : Nat) : Int).tmod 3 == 0), (((k + 2) : Nat) : Int), ((((k + 3) : Nat) : Int).tmod 3 == 0), (((k + 4) : Nat) : Int), markT (k + 5), mkL 1 fB (k + 6) p.f6.length, markT (c6 p k), ((((c6 p k) + 1) : Nat) : Int), (((((c6 p k) + 2) : Nat) : Int).tmod 3 == 0), ((((c6 p k) + 3) : Nat) : Int), (((((c6 p k) + 4) : Nat) : Int).tmod 3 == 0), p.f12, p.f13, p.f14, p.f15, p.f16, p.f17, p.f18, p.f19, p.f20, p.f21, p.f22, p.f23, p.f24⟩ : SP)))]) hT ?_ (fun _ _ => ?_)
    · conv => whnf
      exact CutQ.mk ⟨(), trivial, imp_of [] rfl rfl rfl ⟨⟨rfl, rfl⟩, ⟨rfl, congrArg i64 (kn_ (k := ((c6 p k) + 4)) (n := 1) (by omega) (by decide))⟩, ⟨rfl, rfl⟩, trivial⟩ ⟨sr_ (set_ hlt (⟨((k : Nat) : Int), ((((k + 1) : Nat) : Int).tmod 3 == 0), (((k + 2) : Nat) : Int), ((((k + 3) : Nat) : Int).tmod 3 == 0), (((k + 4) : Nat) : Int), markT (k + 5), mkL 1 fB (k + 6) p.f6.length, markT (c6 p k), ((((c6 p k) + 1) : Nat) : Int), (((((c6 p k) + 2) : Nat) : Int).tmod 3 == 0), ((((c6 p k) + 3) : Nat) : Int), p.f11, p.f12, p.f13, p.f14, p.f15, p.f16, p.f17, p.f18, p.f19, p.f20, p.f21, p.f22, p.f23, p.f24⟩ : SP) (fun q => ⟨q.f0, q.f1, q.f2, q.f3, q.f4, q.f5, q.f6, q.f7, q.f8, q.f9, q.f10, (((((c6 p k) + 4) : Nat) : Int).tmod 3 == 0), q.f12, q.f13, q.f14, q.f15, q.f16, q.f17, q.f18, q.f19, q.f20, q.f21, q.f22, q.f23, q.f24⟩)), trivial⟩⟩
    refine Vc.seq 1 hT ?_
    conv => whnf
    refine CallQ.mk _ (markText ((c6 p k) + 5) (by omega) (by omega)) ?_
    conv => whnf
    refine Need.mk (idx (Nat.lt_of_lt_of_eq hlt List.length_set.symm)) ?_
    conv => whnf
    refine Vc.cut (α := Unit) 50 (fun _ => True) (fun _ => [(5, i64 i), (1, i64 (((c6 p k) + 6) : Nat)), (0, hd0)]) (fun _ => [(1000, .row 0 eP (R.set i (⟨((k : Nat) : Int), ((((k + 1) : Nat) : Int).tmod 3 == 0), (((k + 2) : Nat) : Int), ((((k + 3) : Nat) : Int).tmod 3 == 0), (((k + 4) : Nat) : Int), markT (k + 5), mkL 1 fB (k + 6) p.f6.length, markT (c6 p k), ((((c6 p k) + 1) : Nat) : Int), (((((c6 p k) + 2) : Nat) : Int).tmod 3 == 0), ((((c6 p k) + 3) : Nat) : Int), (((((c6 p k) + 4) : Nat) : Int).tmod 3 == 0), markT ((c6 p k) + 5), p.f13, p.f14, p.f15, p.f16, p.f17, p.f18, p.f19, p.f20, p.f21, p.f22, p.f23, p.f24⟩ : SP)))]) hT ?_ (fun _ _ => ?_)
    · conv => whnf
      exact CutQ.mk ⟨(), trivial, imp_of [] rfl rfl rfl ⟨⟨rfl, rfl⟩, ⟨rfl, congrArg i64 (kn_ (k := ((c6 p k) + 5)) (n := 1) (by omega) (by decide))⟩, ⟨rfl, rfl⟩, trivial⟩ ⟨sr_ (set_ hlt (⟨((k : Nat) : Int), ((((k + 1) : Nat) : Int).tmod 3 == 0), (((k + 2) : Nat) : Int), ((((k + 3) : Nat) : Int).tmod 3 == 0), (((k + 4) : Nat) : Int), markT (k + 5), mkL 1 fB (k + 6) p.f6.length, markT (c6 p k), ((((c6 p k) + 1) : Nat) : Int), (((((c6 p k) + 2) : Nat) : Int).tmod 3 == 0), ((((c6 p k) + 3) : Nat) : Int), (((((c6 p k) + 4) : Nat) : Int).tmod 3 == 0), p.f12, p.f13, p.f14, p.f15, p.f16, p.f17, p.f18, p.f19, p.f20, p.f21, p.f22, p.f23, p.f24⟩ : SP) (fun q => ⟨q.f0, q.f1, q.f2, q.f3, q.f4, q.f5, q.f6, q.f7, q.f8, q.f9, q.f10, q.f11, markT ((c6 p k) + 5), q.f13, q.f14, q.f15, q.f16, q.f17, q.f18, q.f19, q.f20, q.f21, q.f22, q.f23, q.f24⟩)), trivial⟩⟩
    refine Vc.cut (α := Unit) 1 (fun _ => True) (fun _ => [(5, i64 i), (1, i64 ((c13 p k) : Nat)), (0, hd0)]) (fun _ => [(1000, .row 0 eP (R.set i (⟨((k : Nat) : Int), ((((k + 1) : Nat) : Int).tmod 3 == 0), (((k + 2) : Nat) : Int), ((((k + 3) : Nat) : Int).tmod 3 == 0), (((k + 4) : Nat) : Int), markT (k + 5), mkL 1 fB (k + 6) p.f6.length, markT (c6 p k), ((((c6 p k) + 1) : Nat) : Int), (((((c6 p k) + 2) : Nat) : Int).tmod 3 == 0), ((((c6 p k) + 3) : Nat) : Int), (((((c6 p k) + 4) : Nat) : Int).tmod 3 == 0), markT ((c6 p k) + 5), mkL 1 fB ((c6 p k) + 6) p.f13.length, p.f14, p.f15, p.f16, p.f17, p.f18, p.f19, p.f20, p.f21, p.f22, p.f23, p.f24⟩ : SP)))]) hT ?_ (fun _ _ => ?_)
    · conv => whnf
      refine Need.mk (idx (Nat.lt_of_lt_of_eq hlt List.length_set.symm)) ?_
      conv => whnf
      refine CallQ.wr [[NW.wr 5 (mkL 1 fB ((c6 p k) + 6) p.f13.length)], [NW.rd]] (.c (.sc (.int .i64 ((((c6 p k) + 6) + 1 * p.f13.length : Nat) : Int)))) ?_
      conv => whnf
      refine CallWQ.mk (ge_ hlt (⟨((k : Nat) : Int), ((((k + 1) : Nat) : Int).tmod 3 == 0), (((k + 2) : Nat) : Int), ((((k + 3) : Nat) : Int).tmod 3 == 0), (((k + 4) : Nat) : Int), markT (k + 5), mkL 1 fB (k + 6) p.f6.length, markT (c6 p k), ((((c6 p k) + 1) : Nat) : Int), (((((c6 p k) + 2) : Nat) : Int).tmod 3 == 0), ((((c6 p k) + 3) : Nat) : Int), (((((c6 p k) + 4) : Nat) : Int).tmod 3 == 0), markT ((c6 p k) + 5), p.f13, p.f14, p.f15, p.f16, p.f17, p.f18, p.f19, p.f20, p.f21, p.f22, p.f23, p.f24⟩ : SP) (fun q => CallWOb T Tryz.prog 11 [.c (.ow 5 q.f13 5 (mkL 1 fB ((c6 p k) + 6) p.f13.length)), .c (.c (.sc (.int .i64 ((((c6 p k) + 6) : Nat) : Int))))] (.c (.sc (.int .i64 ((((c6 p k) + 6) + 1 * p.f13.length : Nat) : Int))))) (markByteS p.f13 ((c6 p k) + 6) (by omega) (by omega) (by omega))) ?_
      conv => whnf
      exact CutQ.mk ⟨(), trivial, imp_of [] rfl rfl rfl ⟨⟨rfl, rfl⟩, ⟨rfl, rfl⟩, ⟨rfl, rfl⟩, trivial⟩ ⟨sr_ (set_ hlt (⟨((k : Nat) : Int), ((((k + 1) : Nat) : Int).tmod 3 == 0), (((k + 2) : Nat) : Int), ((((k + 3) : Nat) : Int).tmod 3 == 0), (((k + 4) : Nat) : Int), markT (k + 5), mkL 1 fB (k + 6) p.f6.length, markT (c6 p k), ((((c6 p k) + 1) : Nat) : Int), (((((c6 p k) + 2) : Nat) : Int).tmod 3 == 0), ((((c6 p k) + 3) : Nat) : Int), (((((c6 p k) + 4) : Nat) : Int).tmod 3 == 0), markT ((c6 p k) + 5), p.f13, p.f14, p.f15, p.f16, p.f17, p.f18, p.f19, p.f20, p.f21, p.f22, p.f23, p.f24⟩ : SP) (fun q => ⟨q.f0, q.f1, q.f2, q.f3, q.f4, q.f5, q.f6, q.f7, q.f8, q.f9, q.f10, q.f11, q.f12, mkL 1 fB ((c6 p k) + 6) p.f13.length, q.f14, q.f15, q.f16, q.f17, q.f18, q.f19, q.f20, q.f21, q.f22, q.f23, q.f24⟩)), trivial⟩⟩
    refine Vc.seq 1 hT ?_
    conv => whnf
    refine Need.mk (idx (Nat.lt_of_lt_of_eq hlt List.length_set.symm)) ?_
    conv => whnf
    refine Vc.cut (α := Unit) 50 (fun _ => True) (fun _ => [(5, i64 i), (1, i64 (((c13 p k) + 1) : Nat)), (0, hd0)]) (fun _ => [(1000, .row 0 eP (R.set i (⟨((k : Nat) : Int), ((((k + 1) : Nat) : Int).tmod 3 == 0), (((k + 2) : Nat) : Int), ((((k + 3) : Nat) : Int).tmod 3 == 0), (((k + 4) : Nat) : Int), markT (k + 5), mkL 1 fB (k + 6) p.f6.length, markT (c6 p k), ((((c6 p k) + 1) : Nat) : Int), (((((c6 p k) + 2) : Nat) : Int).tmod 3 == 0), ((((c6 p k) + 3) : Nat) : Int), (((((c6 p k) + 4) : Nat) : Int).tmod 3 == 0), markT ((c6 p k) + 5), mkL 1 fB ((c6 p k) + 6) p.f13.length, (((c13 p k) : Nat) : Int), p.f15, p.f16, p.f17, p.f18, p.f19, p.f20, p.f21, p.f22, p.f23, p.f24⟩ : SP)))]) hT ?_ (fun _ _ => ?_)
    · conv => whnf
      exact CutQ.mk ⟨(), trivial, imp_of [] rfl rfl rfl ⟨⟨rfl, rfl⟩, ⟨rfl, congrArg i64 (kn_ (k := (c13 p k)) (n := 1) (by omega) (by decide))⟩, ⟨rfl, rfl⟩, trivial⟩ ⟨sr_ (set_ hlt (⟨((k : Nat) : Int), ((((k + 1) : Nat) : Int).tmod 3 == 0), (((k + 2) : Nat) : Int), ((((k + 3) : Nat) : Int).tmod 3 == 0), (((k + 4) : Nat) : Int), markT (k + 5), mkL 1 fB (k + 6) p.f6.length, markT (c6 p k), ((((c6 p k) + 1) : Nat) : Int), (((((c6 p k) + 2) : Nat) : Int).tmod 3 == 0), ((((c6 p k) + 3) : Nat) : Int), (((((c6 p k) + 4) : Nat) : Int).tmod 3 == 0), markT ((c6 p k) + 5), mkL 1 fB ((c6 p k) + 6) p.f13.length, p.f14, p.f15, p.f16, p.f17, p.f18, p.f19, p.f20, p.f21, p.f22, p.f23, p.f24⟩ : SP) (fun q => ⟨q.f0, q.f1, q.f2, q.f3, q.f4, q.f5, q.f6, q.f7, q.f8, q.f9, q.f10, q.f11, q.f12, q.f13, (((c13 p k) : Nat) : Int), q.f15, q.f16, q.f17, q.f18, q.f19, q.f20, q.f21, q.f22, q.f23, q.f24⟩)), trivial⟩⟩
    refine Vc.seq 1 hT ?_
    conv => whnf
    refine Need.mk (idx (Nat.lt_of_lt_of_eq hlt List.length_set.symm)) ?_
    conv => whnf
    refine Vc.cut (α := Unit) 50 (fun _ => True) (fun _ => [(5, i64 i), (1, i64 (((c13 p k) + 2) : Nat)), (0, hd0)]) (fun _ => [(1000, .row 0 eP (R.set i (⟨((k : Nat) : Int), ((((k + 1) : Nat) : Int).tmod 3 == 0), (((k + 2) : Nat) : Int), ((((k + 3) : Nat) : Int).tmod 3 == 0), (((k + 4) : Nat) : Int), markT (k + 5), mkL 1 fB (k + 6) p.f6.length, markT (c6 p k), ((((c6 p k) + 1) : Nat) : Int), (((((c6 p k) + 2) : Nat) : Int).tmod 3 == 0), ((((c6 p k) + 3) : Nat) : Int), (((((c6 p k) + 4) : Nat) : Int).tmod 3 == 0), markT ((c6 p k) + 5), mkL 1 fB ((c6 p k) + 6) p.f13.length, (((c13 p k) : Nat) : Int), (((((c13 p k) + 1) : Nat) : Int).tmod 3 == 0), p.f16, p.f17, p.f18, p.f19, p.f20, p.f21, p.f22, p.f23, p.f24⟩ : SP)))]) hT ?_ (fun _ _ => ?_)
    · conv => whnf
      exact CutQ.mk ⟨(), trivial, imp_of [] rfl rfl rfl ⟨⟨rfl, rfl⟩, ⟨rfl, congrArg i64 (kn_ (k := ((c13 p k) + 1)) (n := 1) (by omega) (by decide))⟩, ⟨rfl, rfl⟩, trivial⟩ ⟨sr_ (set_ hlt (⟨((k : Nat) : Int), ((((k + 1) : Nat) : Int).tmod 3 == 0), (((k + 2) : Nat) : Int), ((((k + 3) : Nat) : Int).tmod 3 == 0), (((k + 4) : Nat) : Int), markT (k + 5), mkL 1 fB (k + 6) p.f6.length, markT (c6 p k), ((((c6 p k) + 1) : Nat) : Int), (((((c6 p k) + 2) : Nat) : Int).tmod 3 == 0), ((((c6 p k) + 3) : Nat) : Int), (((((c6 p k) + 4) : Nat) : Int).tmod 3 == 0), markT ((c6 p k) + 5), mkL 1 fB ((c6 p k) + 6) p.f13.length, (((c13 p k) : Nat) : Int), p.f15, p.f16, p.f17, p.f18, p.f19, p.f20, p.f21, p.f22, p.f23, p.f24⟩ : SP) (fun q => ⟨q.f0, q.f1, q.f2, q.f3, q.f4, q.f5, q.f6, q.f7, q.f8, q.f9, q.f10, q.f11, q.f12, q.f13, q.f14, (((((c13 p k) + 1) : Nat) : Int).tmod 3 == 0), q.f16, q.f17, q.f18, q.f19, q.f20, q.f21, q.f22, q.f23, q.f24⟩)), trivial⟩⟩
    refine Vc.seq 1 hT ?_
    conv => whnf
    refine Need.mk (idx (Nat.lt_of_lt_of_eq hlt List.length_set.symm)) ?_
    conv => whnf
    refine Vc.cut (α := Unit) 50 (fun _ => True) (fun _ => [(5, i64 i), (1, i64 (((c13 p k) + 3) : Nat)), (0, hd0)]) (fun _ => [(1000, .row 0 eP (R.set i (⟨((k : Nat) : Int), ((((k + 1) : Nat) : Int).tmod 3 == 0), (((k + 2) : Nat) : Int), ((((k + 3) : Nat) : Int).tmod 3 == 0), (((k + 4) : Nat) : Int), markT (k + 5), mkL 1 fB (k + 6) p.f6.length, markT (c6 p k), ((((c6 p k) + 1) : Nat) : Int), (((((c6 p k) + 2) : Nat) : Int).tmod 3 == 0), ((((c6 p k) + 3) : Nat) : Int), (((((c6 p k) + 4) : Nat) : Int).tmod 3 == 0), markT ((c6 p k) + 5), mkL 1 fB ((c6 p k) + 6) p.f13.length, (((c13 p k) : Nat) : Int), (((((c13 p k) + 1) : Nat) : Int).tmod 3 == 0), (((((c13 p k) + 2) : Nat) : Int).tmod 3 == 0), p.f17, p.f18, p.f19, p.f20, p.f21, p.f22, p.f23, p.f24⟩ : SP)))]) hT ?_ (fun _ _ => ?_)
    · conv => whnf
      exact CutQ.mk ⟨(), trivial, imp_of [] rfl rfl rfl ⟨⟨rfl, rfl⟩, ⟨rfl, congrArg i64 (kn_ (k := ((c13 p k) + 2)) (n := 1) (by omega) (by decide))⟩, ⟨rfl, rfl⟩, trivial⟩ ⟨sr_ (set_ hlt (⟨((k : Nat) : Int), ((((k + 1) : Nat) : Int).tmod 3 == 0), (((k + 2) : Nat) : Int), ((((k + 3) : Nat) : Int).tmod 3 == 0), (((k + 4) : Nat) : Int), markT (k + 5), mkL 1 fB (k + 6) p.f6.length, markT (c6 p k), ((((c6 p k) + 1) : Nat) : Int), (((((c6 p k) + 2) : Nat) : Int).tmod 3 == 0), ((((c6 p k) + 3) : Nat) : Int), (((((c6 p k) + 4) : Nat) : Int).tmod 3 == 0), markT ((c6 p k) + 5), mkL 1 fB ((c6 p k) + 6) p.f13.length, (((c13 p k) : Nat) : Int), (((((c13 p k) + 1) : Nat) : Int).tmod 3 == 0), p.f16, p.f17, p.f18, p.f19, p.f20, p.f21, p.f22, p.f23, p.f24⟩ : SP) (fun q => ⟨q.f0, q.f1, q.f2, q.f3, q.f4, q.f5, q.f6, q.f7, q.f8, q.f9, q.f10, q.f11, q.f12, q.f13, q.f14, q.f15, (((((c13 p k) + 2) : Nat) : Int).tmod 3 == 0), q.f17, q.f18, q.f19, q.f20, q.f21, q.f22, q.f23, q.f24⟩)), trivial⟩⟩
    refine Vc.seq 1 hT ?_
    conv => whnf
    refine CallQ.mk _ (markText ((c13 p k) + 3) (by omega) (by omega)) ?_
    conv => whnf
    refine Need.mk (idx (Nat.lt_of_lt_of_eq hlt List.length_set.symm)) ?_
    conv => whnf
    refine Vc.cut (α := Unit) 50 (fun _ => True) (fun _ => [(5, i64 i), (1, i64 (((c13 p k) + 4) : Nat)), (0, hd0)]) (fun _ => [(1000, .row 0 eP (R.set i (⟨((k : Nat) : Int), ((((k + 1) : Nat) : Int).tmod 3 == 0), (((k + 2) : Nat) : Int), ((((k + 3) : Nat) : Int).tmod 3 == 0), (((k + 4) : Nat) : Int), markT (k + 5), mkL 1 fB (k + 6) p.f6.length, markT (c6 p k), ((((c6 p k) + 1) : Nat) : Int), (((((c6 p k) + 2) : Nat) : Int).tmod 3 == 0), ((((c6 p k) + 3) : Nat) : Int), (((((c6 p k) + 4) : Nat) : Int).tmod 3 == 0), markT ((c6 p k) + 5), mkL 1 fB ((c6 p k) + 6) p.f13.length, (((c13 p k) : Nat) : Int), (((((c13 p k) + 1) : Nat) : Int).tmod 3 == 0), (((((c13 p k) + 2) : Nat) : Int).tmod 3 == 0), markT ((c13 p k) + 3), p.f18, p.f19, p.f20, p.f21, p.f22, p.f23, p.f24⟩ : SP)))]) hT ?_ (fun _ _ => ?_)
    · conv => whnf
      exact CutQ.mk ⟨(), trivial, imp_of [] rfl rfl rfl ⟨⟨rfl, rfl⟩, ⟨rfl, congrArg i64 (kn_ (k := ((c13 p k) + 3)) (n := 1) (by omega) (by decide))⟩, ⟨rfl, rfl⟩, trivial⟩ ⟨sr_ (set_ hlt (⟨((k : Nat) : Int), ((((k + 1) : Nat) : Int).tmod 3 == 0), (((k + 2) : Nat) : Int), ((((k + 3) : Nat) : Int).tmod 3 == 0), (((k + 4) : Nat) : Int), markT (k + 5), mkL 1 fB (k + 6) p.f6.length, markT (c6 p k), ((((c6 p k) + 1) : Nat) : Int), (((((c6 p k) + 2) : Nat) : Int).tmod 3 == 0), ((((c6 p k) + 3) : Nat) : Int), (((((c6 p k) + 4) : Nat) : Int).tmod 3 == 0), markT ((c6 p k) + 5), mkL 1 fB ((c6 p k) + 6) p.f13.length, (((c13 p k) : Nat) : Int), (((((c13 p k) + 1) : Nat) : Int).tmod 3 == 0), (((((c13 p k) + 2) : Nat) : Int).tmod 3 == 0), p.f17, p.f18, p.f19, p.f20, p.f21, p.f22, p.f23, p.f24⟩ : SP) (fun q => ⟨q.f0, q.f1, q.f2, q.f3, q.f4, q.f5, q.f6, q.f7, q.f8, q.f9, q.f10, q.f11, q.f12, q.f13, q.f14, q.f15, q.f16, markT ((c13 p k) + 3), q.f18, q.f19, q.f20, q.f21, q.f22, q.f23, q.f24⟩)), trivial⟩⟩
    refine Vc.seq 1 hT ?_
    conv => whnf
    refine Need.mk (idx (Nat.lt_of_lt_of_eq hlt List.length_set.symm)) ?_
    conv => whnf
    refine Vc.cut (α := Unit) 50 (fun _ => True) (fun _ => [(5, i64 i), (1, i64 (((c13 p k) + 5) : Nat)), (0, hd0)]) (fun _ => [(1000, .row 0 eP (R.set i (⟨((k : Nat) : Int), ((((k + 1) : Nat) : Int).tmod 3 == 0), (((k + 2) : Nat) : Int), ((((k + 3) : Nat) : Int).tmod 3 == 0), (((k + 4) : Nat) : Int), markT (k + 5), mkL 1 fB (k + 6) p.f6.length, markT (c6 p k), ((((c6 p k) + 1) : Nat) : Int), (((((c6 p k) + 2) : Nat) : Int).tmod 3 == 0), ((((c6 p k) + 3) : Nat) : Int), (((((c6 p k) + 4) : Nat) : Int).tmod 3 == 0), markT ((c6 p k) + 5), mkL 1 fB ((c6 p k) + 6) p.f13.length, (((c13 p k) : Nat) : Int), (((((c13 p k) + 1) : Nat) : Int).tmod 3 == 0), (((((c13 p k) + 2) : Nat) : Int).tmod 3 == 0), markT ((c13 p k) + 3), (((((c13 p k) + 4) : Nat) : Int).tmod 3 == 0), p.f19, p.f20, p.f21, p.f22, p.f23, p.f24⟩ : SP)))]) hT ?_ (fun _ _ => ?_)
    · conv => whnf
      exact CutQ.mk ⟨(), trivial, imp_of [] rfl rfl rfl ⟨⟨rfl, rfl⟩, ⟨rfl, congrArg i64 (kn_ (k := ((c13 p k) + 4)) (n := 1) (by omega) (by decide))⟩, ⟨rfl, rfl⟩, trivial⟩ ⟨sr_ (set_ hlt (⟨((k : Nat) : Int), ((((k + 1) : Nat) : Int).tmod 3 == 0), (((k + 2) : Nat) : Int), ((((k + 3) : Nat) : Int).tmod 3 == 0), (((k + 4) : Nat) : Int), markT (k + 5), mkL 1 fB (k + 6) p.f6.length, markT (c6 p k), ((((c6 p k) + 1) : Nat) : Int), (((((c6 p k) + 2) : Nat) : Int).tmod 3 == 0), ((((c6 p k) + 3) : Nat) : Int), (((((c6 p k) + 4) : Nat) : Int).tmod 3 == 0), markT ((c6 p k) + 5), mkL 1 fB ((c6 p k) + 6) p.f13.length, (((c13 p k) : Nat) : Int), (((((c13 p k) + 1) : Nat) : Int).tmod 3 == 0), (((((c13 p k) + 2) : Nat) : Int).tmod 3 == 0), markT ((c13 p k) + 3), p.f18, p.f19, p.f20, p.f21, p.f22, p.f23, p.f24⟩ : SP) (fun q => ⟨q.f0, q.f1, q.f2, q.f3, q.f4, q.f5, q.f6, q.f7, q.f8, q.f9, q.f10, q.f11, q.f12, q.f13, q.f14, q.f15, q.f16, q.f17, (((((c13 p k) + 4) : Nat) : Int).tmod 3 == 0), q.f19, q.f20, q.f21, q.f22, q.f23, q.f24⟩)), trivial⟩⟩
    refine Vc.cut (α := Unit) 1 (fun _ => True) (fun _ => [(5, i64 i), (1, i64 ((c19 p k) : Nat)), (0, hd0)]) (fun _ => [(1000, .row 0 eP (R.set i (⟨((k : Nat) : Int), ((((k + 1) : Nat) : Int).tmod 3 == 0), (((k + 2) : Nat) : Int), ((((k + 3) : Nat) : Int).tmod 3 == 0), (((k + 4) : Nat) : Int), markT (k + 5), mkL 1 fB (k + 6) p.f6.length, markT (c6 p k), ((((c6 p k) + 1) : Nat) : Int), (((((c6 p k) + 2) : Nat) : Int).tmod 3 == 0), ((((c6 p k) + 3) : Nat) : Int), (((((c6 p k) + 4) : Nat) : Int).tmod 3 == 0), markT ((c6 p k) + 5), mkL 1 fB ((c6 p k) + 6) p.f13.length, (((c13 p k) : Nat) : Int), (((((c13 p k) + 1) : Nat) : Int).tmod 3 == 0), (((((c13 p k) + 2) : Nat) : Int).tmod 3 == 0), markT ((c13 p k) + 3), (((((c13 p k) + 4) : Nat) : Int).tmod 3 == 0), mkL 1 fB ((c13 p k) + 5) p.f19.length, p.f20, p.f21, p.f22, p.f23, p.f24⟩ : SP)))]) hT ?_ (fun _ _ => ?_)
    · conv => whnf
      refine Need.mk (idx (Nat.lt_of_lt_of_eq hlt List.length_set.symm)) ?_
      conv => whnf
      refine CallQ.wr [[NW.wr 5 (mkL 1 fB ((c13 p k) + 5) p.f19.length)], [NW.rd]] (.c (.sc (.int .i64 ((((c13 p k) + 5) + 1 * p.f19.length : Nat) : Int)))) ?_
      conv => whnf
      refine CallWQ.mk (ge_ hlt (⟨((k : Nat) : Int), ((((k + 1) : Nat) : Int).tmod 3 == 0), (((k + 2) : Nat) : Int), ((((k + 3) : Nat) : Int).tmod 3 == 0), (((k + 4) : Nat) : Int), markT (k + 5), mkL 1 fB (k + 6) p.f6.length, markT (c6 p k), ((((c6 p k) + 1) : Nat) : Int), (((((c6 p k) + 2) : Nat) : Int).tmod 3 == 0), ((((c6 p k) + 3) : Nat) : Int), (((((c6 p k) + 4) : Nat) : Int).tmod 3 == 0), markT ((c6 p k) + 5), mkL 1 fB ((c6 p k) + 6) p.f13.length, (((c13 p k) : Nat) : Int), (((((c13 p k) + 1) : Nat) : Int).tmod 3 == 0), (((((c13 p k) + 2) : Nat) : Int).tmod 3 == 0), markT ((c13 p k) + 3), (((((c13 p k) + 4) : Nat) : Int).tmod 3 == 0), p.f19, p.f20, p.f21, p.f22, p.f23, p.f24⟩ : SP) (fun q => CallWOb T Tryz.prog 11 [.c (.ow 5 q.f19 5 (mkL 1 fB ((c13 p k) + 5) p.f19.length)), .c (.c (.sc (.int .i64 ((((c13 p k) + 5) : Nat) : Int))))] (.c (.sc (.int .i64 ((((c13 p k) + 5) + 1 * p.f19.length : Nat) : Int))))) (markByteS p.f19 ((c13 p k) + 5) (by omega) (by omega) (by omega))) ?_
      conv => whnf
      exact CutQ.mk ⟨(), trivial, imp_of [] rfl rfl rfl ⟨⟨rfl, rfl⟩, ⟨rfl, rfl⟩, ⟨rfl, rfl⟩, trivial⟩ ⟨sr_ (set_ hlt (⟨((k : Nat) : Int), ((((k + 1) : Nat) : Int).tmod 3 == 0), (((k + 2) : Nat) : Int), ((((k + 3) : Nat) : Int).tmod 3 == 0), (((k + 4) : Nat) : Int), markT (k + 5), mkL 1 fB (k + 6) p.f6.length, markT (c6 p k), ((((c6 p k) + 1) : Nat) : Int), (((((c6 p k) + 2) : Nat) : Int).tmod 3 == 0), ((((c6 p k) + 3) : Nat) : Int), (((((c6 p k) + 4) : Nat) : Int).tmod 3 == 0), markT ((c6 p k) + 5), mkL 1 fB ((c6 p k) + 6) p.f13.length, (((c13 p k) : Nat) : Int), (((((c13 p k) + 1) : Nat) : Int).tmod 3 == 0), (((((c13 p k) + 2) : Nat) : Int).tmod 3 == 0), markT ((c13 p k) + 3), (((((c13 p k) + 4) : Nat) : Int).tmod 3 == 0), p.f19, p.f20, p.f21, p.f22, p.f23, p.f24⟩ : SP) (fun q => ⟨q.f0, q.f1, q.f2, q.f3, q.f4, q.f5, q.f6, q.f7, q.f8, q.f9, q.f10, q.f11, q.f12, q.f13, q.f14, q.f15, q.f16, q.f17, q.f18, mkL 1 fB ((c13 p k) + 5) p.f19.length, q.f20, q.f21, q.f22, q.f23, q.f24⟩)), trivial⟩⟩
    refine Vc.seq 1 hT ?_
    conv => whnf
    refine Need.mk (idx (Nat.lt_of_lt_of_eq hlt List.length_set.symm)) ?_
    conv => whnf
    refine Vc.cut (α := Unit) 50 (fun _ => True) (fun _ => [(5, i64 i), (1, i64 (((c19 p k) + 1) : Nat)), (0, hd0)]) (fun _ => [(1000, .row 0 eP (R.set i (⟨((k : Nat) : Int), ((((k + 1) : Nat) : Int).tmod 3 == 0), (((k + 2) : Nat) : Int), ((((k + 3) : Nat) : Int).tmod 3 == 0), (((k + 4) : Nat) : Int), markT (k + 5), mkL 1 fB (k + 6) p.f6.length, markT (c6 p k), ((((c6 p k) + 1) : Nat) : Int), (((((c6 p k) + 2) : Nat) : Int).tmod 3 == 0), ((((c6 p k) + 3) : Nat) : Int), (((((c6 p k) + 4) : Nat) : Int).tmod 3 == 0), markT ((c6 p k) + 5), mkL 1 fB ((c6 p k) + 6) p.f13.length, (((c13 p k) : Nat) : Int), (((((c13 p k) + 1) : Nat) : Int).tmod 3 == 0), (((((c13 p k) + 2) : Nat) : Int).tmod 3 == 0), markT ((c13 p k) + 3), (((((c13 p k) + 4) : Nat) : Int).tmod 3 == 0), mkL 1 fB ((c13 p k) + 5) p.f19.length, (((c19 p k) : Nat) : Int), p.f21, p.f22, p.f23, p.f24⟩ : SP)))]) hT ?_ (fun _ _ => ?_)
    · conv => whnf
      exact CutQ.mk ⟨(), trivial, imp_of [] rfl rfl rfl ⟨⟨rfl, rfl⟩, ⟨rfl, congrArg i64 (kn_ (k := (c19 p k)) (n := 1) (by omega) (by decide))⟩, ⟨rfl, rfl⟩, trivial⟩ ⟨sr_ (set_ hlt (⟨((k : Nat) : Int), ((((k + 1) : Nat) : Int).tmod 3 == 0), (((k + 2) : Nat) : Int), ((((k + 3) : Nat) : Int).tmod 3 == 0), (((k + 4) : Nat) : Int), markT (k + 5), mkL 1 fB (k + 6) p.f6.length, markT (c6 p k), ((((c6 p k) + 1) : Nat) : Int), (((((c6 p k) + 2) : Nat) : Int).tmod 3 == 0), ((((c6 p k) + 3) : Nat) : Int), (((((c6 p k) + 4) : Nat) : Int).tmod 3 == 0), markT ((c6 p k) + 5), mkL 1 fB ((c6 p k) + 6) p.f13.length, (((c13 p k) : Nat) : Int), (((((c13 p k) + 1) : Nat) : Int).tmod 3 == 0), (((((c13 p k) + 2) : Nat) : Int).tmod 3 == 0), markT ((c13 p k) + 3), (((((c13 p k) + 4) : Nat) : Int).tmod 3 == 0), mkL 1 fB ((c13 p k) + 5) p.f19.length, p.f20, p.f21, p.f22, p.f23, p.f24⟩ : SP) (fun q => ⟨q.f0, q.f1, q.f2, q.f3, q.f4, q.f5, q.f6, q.f7, q.f8, q.f9, q.f10, q.f11, q.f12, q.f13, q.f14, q.f15, q.f16, q.f17, q.f18, q.f19, (((c19 p k) : Nat) : Int), q.f21, q.f22, q.f23, q.f24⟩)), trivial⟩⟩
    refine Vc.seq 1 hT ?_
    conv => whnf
    refine Need.mk (idx (Nat.lt_of_lt_of_eq hlt List.length_set.symm)) ?_
    conv => whnf
    refine Vc.cut (α := Unit) 50 (fun _ => True) (fun _ => [(5, i64 i), (1, i64 (((c19 p k) + 2) : Nat)), (0, hd0)]) (fun _ => [(1000, .row 0 eP (R.set i (⟨((k : Nat) : Int), ((((k + 1) : Nat) : Int).tmod 3 == 0), (((k + 2) : Nat) : Int), ((((k + 3) : Nat) : Int).tmod 3 == 0), (((k + 4) : Nat) : Int), markT (k + 5), mkL 1 fB (k + 6) p.f6.length, markT (c6 p k), ((((c6 p k) + 1) : Nat) : Int), (((((c6 p k) + 2) : Nat) : Int).tmod 3 == 0), ((((c6 p k) + 3) : Nat) : Int), (((((c6 p k) + 4) : Nat) : Int).tmod 3 == 0), markT ((c6 p k) + 5), mkL 1 fB ((c6 p k) + 6) p.f13.length, (((c13 p k) : Nat) : Int), (((((c13 p k) + 1) : Nat) : Int).tmod 3 == 0), (((((c13 p k) + 2) : Nat) : Int).tmod 3 == 0), markT ((c13 p k) + 3), (((((c13 p k) + 4) : Nat) : Int).tmod 3 == 0), mkL 1 fB ((c13 p k) + 5) p.f19.length, (((c19 p k) : Nat) : Int), (((((c19 p k) + 1) : Nat) : Int).tmod 3 == 0), p.f22, p.f23, p.f24⟩ : SP)))]) hT ?_ (fun _ _ => ?_)
    · conv => whnf
      exact CutQ.mk ⟨(), trivial, imp_of [] rfl rfl rfl ⟨⟨rfl, rfl⟩, ⟨rfl, congrArg i64 (kn_ (k := ((c19 p k) + 1)) (n := 1) (by omega) (by decide))⟩, ⟨rfl, rfl⟩, trivial⟩ ⟨sr_ (set_ hlt (⟨((k : Nat) : Int), ((((k + 1) : Nat) : Int).tmod 3 == 0), (((k + 2) : Nat) : Int), ((((k + 3) : Nat) : Int).tmod 3 == 0), (((k + 4) : Nat) : Int), markT (k + 5), mkL 1 fB (k + 6) p.f6.length, markT (c6 p k), ((((c6 p k) + 1) : Nat) : Int), (((((c6 p k) + 2) : Nat) : Int).tmod 3 == 0), ((((c6 p k) + 3) : Nat) : Int), (((((c6 p k) + 4) : Nat) : Int).tmod 3 == 0), markT ((c6 p k) + 5), mkL 1 fB ((c6 p k) + 6) p.f13.length, (((c13 p k) : Nat) : Int), (((((c13 p k) + 1) : Nat) : Int).tmod 3 == 0), (((((c13 p k) + 2) : Nat) : Int).tmod 3 == 0), markT ((c13 p k) + 3), (((((c13 p k) + 4) : Nat) : Int).tmod 3 == 0), mkL 1 fB ((c13 p k) + 5) p.f19.length, (((c19 p k) : Nat) : Int), p.f21, p.f22, p.f23, p.f24⟩ : SP) (fun q => ⟨q.f0, q.f1, q.f2, q.f3, q.f4, q.f5, q.f6, q.f7, q.f8, q.f9, q.f10, q.f11, q.f12, q.f13, q.f14, q.f15, q.f16, q.f17, q.f18, q.f19, q.f20, (((((c19 p k) + 1) : Nat) : Int).tmod 3 == 0), q.f22, q.f23, q.f24⟩)), trivial⟩⟩
    refine Vc.cut (α := Unit) 1 (fun _ => True) (fun _ => [(5, i64 i), (1, i64 ((c22 p k) : Nat)), (0, hd0)]) (fun _ => [(1000, .row 0 eP (R.set i (⟨((k : Nat) : Int), ((((k + 1) : Nat) : Int).tmod 3 == 0), (((k + 2) : Nat) : Int), ((((k + 3) : Nat) : Int).tmod 3 == 0), (((k + 4) : Nat) : Int), markT (k + 5), mkL 1 fB (k + 6) p.f6.length, markT (c6 p k), ((((c6 p k) + 1) : Nat) : Int), (((((c6 p k) + 2) : Nat) : Int).tmod 3 == 0), ((((c6 p k) + 3) : Nat) : Int), (((((c6 p k) + 4) : Nat) : Int).tmod 3 == 0), markT ((c6 p k) + 5), mkL 1 fB ((c6 p k) + 6) p.f13.length, (((c13 p k) : Nat) : Int), (((((c13 p k) + 1) : Nat) : Int).tmod 3 == 0), (((((c13 p k) + 2) : Nat) : Int).tmod 3 == 0), markT ((c13 p k) + 3), (((((c13 p k) + 4) : Nat) : Int).tmod 3 == 0), mkL 1 fB ((c13 p k) + 5) p.f19.length, (((c19 p k) : Nat) : Int), (((((c19 p k) + 1) : Nat) : Int).tmod 3 == 0), mkL 2 fW ((c19 p k) + 2) p.f22.length, p.f23, p.f24⟩ : SP)))]) hT ?_ (fun _ _ => ?_)
    · conv => whnf
      refine Need.mk (idx (Nat.lt_of_lt_of_eq hlt List.length_set.symm)) ?_
      conv => whnf
      refine CallQ.wr [[NW.wr 56 (mkL 2 fW ((c19 p k) + 2) p.f22.length)], [NW.rd]] (.c (.sc (.int .i64 ((((c19 p k) + 2) + 2 * p.f22.length : Nat) : Int)))) ?_
      conv => whnf
      refine CallWQ.mk (ge_ hlt (⟨((k : Nat) : Int), ((((k + 1) : Nat) : Int).tmod 3 == 0), (((k + 2) : Nat) : Int), ((((k + 3) : Nat) : Int).tmod 3 == 0), (((k + 4) : Nat) : Int), markT (k + 5), mkL 1 fB (k + 6) p.f6.length, markT (c6 p k), ((((c6 p k) + 1) : Nat) : Int), (((((c6 p k) + 2) : Nat) : Int).tmod 3 == 0), ((((c6 p k) + 3) : Nat) : Int), (((((c6 p k) + 4) : Nat) : Int).tmod 3 == 0), markT ((c6 p k) + 5), mkL 1 fB ((c6 p k) + 6) p.f13.length, (((c13 p k) : Nat) : Int), (((((c13 p k) + 1) : Nat) : Int).tmod 3 == 0), (((((c13 p k) + 2) : Nat) : Int).tmod 3 == 0), markT ((c13 p k) + 3), (((((c13 p k) + 4) : Nat) : Int).tmod 3 == 0), mkL 1 fB ((c13 p k) + 5) p.f19.length, (((c19 p k) : Nat) : Int), (((((c19 p k) + 1) : Nat) : Int).tmod 3 == 0), p.f22, p.f23, p.f24⟩ : SP) (fun q => CallWOb T Tryz.prog 19 [.c (.ow 56 q.f22 56 (mkL 2 fW ((c19 p k) + 2) p.f22.length)), .c (.c (.sc (.int .i64 ((((c19 p k) + 2) : Nat) : Int))))] (.c (.sc (.int .i64 ((((c19 p k) + 2) + 2 * p.f22.length : Nat) : Int))))) (markWantS p.f22 ((c19 p k) + 2) (by omega) (by omega) (by omega))) ?_
      conv => whnf
      exact CutQ.mk ⟨(), trivial, imp_of [] rfl rfl rfl ⟨⟨rfl, rfl⟩, ⟨rfl, rfl⟩, ⟨rfl, rfl⟩, trivial⟩ ⟨sr_ (set_ hlt (⟨((k : Nat) : Int), ((((k + 1) : Nat) : Int).tmod 3 == 0), (((k + 2) : Nat) : Int), ((((k + 3) : Nat) : Int).tmod 3 == 0), (((k + 4) : Nat) : Int), markT (k + 5), mkL 1 fB (k + 6) p.f6.length, markT (c6 p k), ((((c6 p k) + 1) : Nat) : Int), (((((c6 p k) + 2) : Nat) : Int).tmod 3 == 0), ((((c6 p k) + 3) : Nat) : Int), (((((c6 p k) + 4) : Nat) : Int).tmod 3 == 0), markT ((c6 p k) + 5), mkL 1 fB ((c6 p k) + 6) p.f13.length, (((c13 p k) : Nat) : Int), (((((c13 p k) + 1) : Nat) : Int).tmod 3 == 0), (((((c13 p k) + 2) : Nat) : Int).tmod 3 == 0), markT ((c13 p k) + 3), (((((c13 p k) + 4) : Nat) : Int).tmod 3 == 0), mkL 1 fB ((c13 p k) + 5) p.f19.length, (((c19 p k) : Nat) : Int), (((((c19 p k) + 1) : Nat) : Int).tmod 3 == 0), p.f22, p.f23, p.f24⟩ : SP) (fun q => ⟨q.f0, q.f1, q.f2, q.f3, q.f4, q.f5, q.f6, q.f7, q.f8, q.f9, q.f10, q.f11, q.f12, q.f13, q.f14, q.f15, q.f16, q.f17, q.f18, q.f19, q.f20, q.f21, mkL 2 fW ((c19 p k) + 2) p.f22.length, q.f23, q.f24⟩)), trivial⟩⟩
    refine Vc.cut (α := Unit) 1 (fun _ => True) (fun _ => [(5, i64 i), (1, i64 ((c23 p k) : Nat)), (0, hd0)]) (fun _ => [(1000, .row 0 eP (R.set i (⟨((k : Nat) : Int), ((((k + 1) : Nat) : Int).tmod 3 == 0), (((k + 2) : Nat) : Int), ((((k + 3) : Nat) : Int).tmod 3 == 0), (((k + 4) : Nat) : Int), markT (k + 5), mkL 1 fB (k + 6) p.f6.length, markT (c6 p k), ((((c6 p k) + 1) : Nat) : Int), (((((c6 p k) + 2) : Nat) : Int).tmod 3 == 0), ((((c6 p k) + 3) : Nat) : Int), (((((c6 p k) + 4) : Nat) : Int).tmod 3 == 0), markT ((c6 p k) + 5), mkL 1 fB ((c6 p k) + 6) p.f13.length, (((c13 p k) : Nat) : Int), (((((c13 p k) + 1) : Nat) : Int).tmod 3 == 0), (((((c13 p k) + 2) : Nat) : Int).tmod 3 == 0), markT ((c13 p k) + 3), (((((c13 p k) + 4) : Nat) : Int).tmod 3 == 0), mkL 1 fB ((c13 p k) + 5) p.f19.length, (((c19 p k) : Nat) : Int), (((((c19 p k) + 1) : Nat) : Int).tmod 3 == 0), mkL 2 fW ((c19 p k) + 2) p.f22.length, mkL 1 fS (c22 p k) p.f23.length, p.f24⟩ : SP)))]) hT ?_ (fun _ _ => ?_)
    · conv => whnf
      refine Need.mk (idx (Nat.lt_of_lt_of_eq hlt List.length_set.symm)) ?_
      conv => whnf
      refine CallQ.wr [[NW.wr 9 (mkL 1 fS (c22 p k) p.f23.length)], [NW.rd]] (.c (.sc (.int .i64 (((c22 p k) + 1 * p.f23.length : Nat) : Int)))) ?_
      conv => whnf
      refine CallWQ.mk (ge_ hlt (⟨((k : Nat) : Int), ((((k + 1) : Nat) : Int).tmod 3 == 0), (((k + 2) : Nat) : Int), ((((k + 3) : Nat) : Int).tmod 3 == 0), (((k + 4) : Nat) : Int), markT (k + 5), mkL 1 fB (k + 6) p.f6.length, markT (c6 p k), ((((c6 p k) + 1) : Nat) : Int), (((((c6 p k) + 2) : Nat) : Int).tmod 3 == 0), ((((c6 p k) + 3) : Nat) : Int), (((((c6 p k) + 4) : Nat) : Int).tmod 3 == 0), markT ((c6 p k) + 5), mkL 1 fB ((c6 p k) + 6) p.f13.length, (((c13 p k) : Nat) : Int), (((((c13 p k) + 1) : Nat) : Int).tmod 3 == 0), (((((c13 p k) + 2) : Nat) : Int).tmod 3 == 0), markT ((c13 p k) + 3), (((((c13 p k) + 4) : Nat) : Int).tmod 3 == 0), mkL 1 fB ((c13 p k) + 5) p.f19.length, (((c19 p k) : Nat) : Int), (((((c19 p k) + 1) : Nat) : Int).tmod 3 == 0), mkL 2 fW ((c19 p k) + 2) p.f22.length, p.f23, p.f24⟩ : SP) (fun q => CallWOb T Tryz.prog 20 [.c (.ow 9 q.f23 9 (mkL 1 fS (c22 p k) p.f23.length)), .c (.c (.sc (.int .i64 (((c22 p k) : Nat) : Int))))] (.c (.sc (.int .i64 (((c22 p k) + 1 * p.f23.length : Nat) : Int))))) (markStringS p.f23 (c22 p k) (by omega) (by omega) (by omega))) ?_
      conv => whnf
      exact CutQ.mk ⟨(), trivial, imp_of [] rfl rfl rfl ⟨⟨rfl, rfl⟩, ⟨rfl, rfl⟩, ⟨rfl, rfl⟩, trivial⟩ ⟨sr_ (set_ hlt (⟨((k : Nat) : Int), ((((k + 1) : Nat) : Int).tmod 3 == 0), (((k + 2) : Nat) : Int), ((((k + 3) : Nat) : Int).tmod 3 == 0), (((k + 4) : Nat) : Int), markT (k + 5), mkL 1 fB (k + 6) p.f6.length, markT (c6 p k), ((((c6 p k) + 1) : Nat) : Int), (((((c6 p k) + 2) : Nat) : Int).tmod 3 == 0), ((((c6 p k) + 3) : Nat) : Int), (((((c6 p k) + 4) : Nat) : Int).tmod 3 == 0), markT ((c6 p k) + 5), mkL 1 fB ((c6 p k) + 6) p.f13.length, (((c13 p k) : Nat) : Int), (((((c13 p k) + 1) : Nat) : Int).tmod 3 == 0), (((((c13 p k) + 2) : Nat) : Int).tmod 3 == 0), markT ((c13 p k) + 3), (((((c13 p k) + 4) : Nat) : Int).tmod 3 == 0), mkL 1 fB ((c13 p k) + 5) p.f19.length, (((c19 p k) : Nat) : Int), (((((c19 p k) + 1) : Nat) : Int).tmod 3 == 0), mkL 2 fW ((c19 p k) + 2) p.f22.length, p.f23, p.f24⟩ : SP) (fun q => ⟨q.f0, q.f1, q.f2, q.f3, q.f4, q.f5, q.f6, q.f7, q.f8, q.f9, q.f10, q.f11, q.f12, q.f13, q.f14, q.f15, q.f16, q.f17, q.f18, q.f19, q.f20, q.f21, q.f22, mkL 1 fS (c22 p k) p.f23.length, q.f24⟩)), trivial⟩⟩
    refine Vc.of 1 hT ?_
    conv => whnf
    refine Need.mk (idx (Nat.lt_of_lt_of_eq hlt List.length_set.symm)) ?_
    conv => whnf
    refine CallQ.wr [[NW.wr 3 (mkL 1 fI (c23 p k) p.f24.length)], [NW.rd]] (.c (.sc (.int .i64 (((c23 p k) + 1 * p.f24.length : Nat) : Int)))) ?_
    conv => whnf
    refine CallWQ.mk (ge_ hlt (⟨((k : Nat) : Int), ((((k + 1) : Nat) : Int).tmod 3 == 0), (((k + 2) : Nat) : Int), ((((k + 3) : Nat) : Int).tmod 3 == 0), (((k + 4) : Nat) : Int), markT (k + 5), mkL 1 fB (k + 6) p.f6.length, markT (c6 p k), ((((c6 p k) + 1) : Nat) : Int), (((((c6 p k) + 2) : Nat) : Int).tmod 3 == 0), ((((c6 p k) + 3) : Nat) : Int), (((((c6 p k) + 4) : Nat) : Int).tmod 3 == 0), markT ((c6 p k) + 5), mkL 1 fB ((c6 p k) + 6) p.f13.length, (((c13 p k) : Nat) : Int), (((((c13 p k) + 1) : Nat) : Int).tmod 3 == 0), (((((c13 p k) + 2) : Nat) : Int).tmod 3 == 0), markT ((c13 p k) + 3), (((((c13 p k) + 4) : Nat) : Int).tmod 3 == 0), mkL 1 fB ((c13 p k) + 5) p.f19.length, (((c19 p k) : Nat) : Int), (((((c19 p k) + 1) : Nat) : Int).tmod 3 == 0), mkL 2 fW ((c19 p k) + 2) p.f22.length, mkL 1 fS (c22 p k) p.f23.length, p.f24⟩ : SP) (fun q => CallWOb T Tryz.prog 21 [.c (.ow 3 q.f24 3 (mkL 1 fI (c23 p k) p.f24.length)), .c (.c (.sc (.int .i64 (((c23 p k) : Nat) : Int))))] (.c (.sc (.int .i64 (((c23 p k) + 1 * p.f24.length : Nat) : Int))))) (markIntS p.f24 (c23 p k) (by omega) (by omega) (by omega))) ?_
    conv => whnf
    refine Vc.of 1 hT ?_
    conv => whnf
    exact NextQ.mk ⟨⟨i + 1, hk2⟩, Nat.sub_lt_sub_left hk2 (Nat.lt_succ_self i), imp_of [] rfl rfl rfl ⟨⟨rfl, congrArg i64 (sc_ hk2 (by omega))⟩, ⟨rfl, congrArg i64 (congrArg (fun x => ((x.2 : Nat) : Int)) hmk)⟩, ⟨rfl, rfl⟩, trivial⟩ ⟨sr_ ((set_ hlt (⟨((k : Nat) : Int), ((((k + 1) : Nat) : Int).tmod 3 == 0), (((k + 2) : Nat) : Int), ((((k + 3) : Nat) : Int).tmod 3 == 0), (((k + 4) : Nat) : Int), markT (k + 5), mkL 1 fB (k + 6) p.f6.length, markT (c6 p k), ((((c6 p k) + 1) : Nat) : Int), (((((c6 p k) + 2) : Nat) : Int).tmod 3 == 0), ((((c6 p k) + 3) : Nat) : Int), (((((c6 p k) + 4) : Nat) : Int).tmod 3 == 0), markT ((c6 p k) + 5), mkL 1 fB ((c6 p k) + 6) p.f13.length, (((c13 p k) : Nat) : Int), (((((c13 p k) + 1) : Nat) : Int).tmod 3 == 0), (((((c13 p k) + 2) : Nat) : Int).tmod 3 == 0), markT ((c13 p k) + 3), (((((c13 p k) + 4) : Nat) : Int).tmod 3 == 0), mkL 1 fB ((c13 p k) + 5) p.f19.length, (((c19 p k) : Nat) : Int), (((((c19 p k) + 1) : Nat) : Int).tmod 3 == 0), mkL 2 fW ((c19 p k) + 2) p.f22.length, mkL 1 fS (c22 p k) p.f23.length, p.f24⟩ : SP) (fun q => ⟨q.f0, q.f1, q.f2, q.f3, q.f4, q.f5, q.f6, q.f7, q.f8, q.f9, q.f10, q.f11, q.f12, q.f13, q.f14, q.f15, q.f16, q.f17, q.f18, q.f19, q.f20, q.f21, q.f22, q.f23, mkL 1 fI (c23 p k) p.f24.length⟩)).trans hnext), trivial⟩⟩
  · have hk2 : i = a.length := Nat.le_antisymm hi (inf_ c hR)
    clear c hR
    subst hk2
    conv => whnf
    refine Vc.of 1 hT ?_
    conv => whnf
    exact RetWQ.mk ⟨rfl, rfl⟩ ⟨⟨rfl, rfl⟩, rfl⟩ ⟨iv (by rw [List.take_length]), trivial⟩ ⟨show SameRow (T := T) eP (rowI a k a.length) eP (mkR a k).1 from sr_ rowI_all, trivial⟩
end Go.Proofs.YtnflbiafmddpgaaGreatDoor.Q
end
section
/- Rows of packets: how large, copied, compared. -/
namespace Go.Proofs.YtnflbiafmddpgaaGreatDoor.Q
open Go.RowKit Go.Proofs.YtnflbiafmddpgaaGreatDoor.Z
set_option linter.unusedVariables false
set_option linter.unusedSimpArgs false
set_option maxRecDepth 100000
set_option maxHeartbeats 4000000
abbrev SA := S38
abbrev eA : Nat := 38
def szF {α : Type} (f : α → Int → Int) : List α → Int → Int
  | [], x => x
  | y :: l, x => thenS (f y x) (szF f l)
theorem szF_step {α : Type} {f : α → Int → Int} {l : List α} {d : α} {k : Nat} {x : Int} (h : k < l.length) : szF f (l.drop k) x = thenS (f (l.getD k d) x) (szF f (l.drop (k + 1))) := by
  rw [List.drop_eq_getElem_cons h]
  have : l.getD k d = l[k] := by simp [h]
  rw [this]; rfl
theorem szF_end {α : Type} {f : α → Int → Int} {l : List α} {x : Int} : szF f (l.drop l.length) x = x := by rw [List.drop_length]; rfl
def szPS (a : List SA) (x : Int) : Int := thenS (szL a.length x) (szF szP a)
theorem szF_mem {a : List SA} : ∀ {x : Int}, 0 ≤ x → x ≤ 1048576 → 0 ≤ szF szP a x → ∀ y ∈ a, ∃ v : Int, 0 ≤ v ∧ v ≤ 1048576 ∧ 0 ≤ szP y v := by
  induction a with
  | nil => intro x _ _ _ y hy; cases hy
  | cons z l ih =>
    intro x h0 h1 h y hy
    obtain ⟨g, h⟩ := tS_inv h
    have hs := (szP_small z x h0 h1 g).2
    rcases List.mem_cons.1 hy with e | hy
    · exact ⟨x, h0, h1, e ▸ g⟩
    · exact ih g hs h y hy
theorem szPacketS (l : List SA) (x : Int) (h0 : 0 ≤ x) (h1 : x ≤ 1048576) (hl : l.length ≤ 140737488351232) (hs : ∀ y ∈ l, Fit y) : CallOb T Tryz.prog 4 [.c (.sl eA l), .c (.sc (.int .i64 x))] (.c (.sc (.int .i64 (szPS l x)))) := by
  have h2 : x ≤ 4611686018427387904 := by omega
  refine call_of_vc hT Tryz.func4 (by kernel_rfl) rfl rfl (fun A => ?_)
  unfold szPS
  conv => whnf
  refine Split.mk (fun c => ?_) (fun c => ?_)
  · conv => whnf
    exact RetQ.mk ⟨rfl, rfl⟩ ⟨rfl, rfl⟩ ⟨iv (tL_lt h0 h2 hl c), trivial⟩
  · obtain ⟨e1, e2, e3⟩ := tL_ge (K := szF szP l) h0 h2 hl c
    rw [e1]
    generalize hR : szF szP l (wrap64 (x - (l.length : Int))) = R
    conv => whnf
    refine LoopQ.mk { p : Nat × Int // p.1 ≤ l.length ∧ 0 ≤ p.2 ∧ p.2 ≤ 1048576 ∧ szF szP (l.drop p.1) p.2 = R } (fun p => (0, [(5, i64 p.1.1), (1, i64 p.1.2), (0, im eA l)], [])) (fun p => l.length - p.1.1) ⟨(0, _), Nat.zero_le _, e2, Int.le_trans e3 h1, hR⟩ (imp_of [] rfl rfl rfl ⟨⟨rfl, rfl⟩, ⟨rfl, rfl⟩, ⟨rfl, rfl⟩, trivial⟩ trivial) ?_
    rintro ⟨⟨k, y⟩, hk, p0, p1, hR⟩
    conv => whnf
    refine Split.mk (fun c => ?_) (fun c => ?_)
    · have hk2 : k < l.length := ln_t c
      conv => whnf
      refine Need.mk (idx hk2) ?_
      conv => whnf
      refine CallQ.mk _ (szPacket (l.getD k z38) y p0 p1 (hs _ (getD_mem hk2))) ?_
      conv => whnf
      refine Split.mk (fun c => ?_) (fun c => ?_)
      · conv => whnf
        exact RetQ.mk ⟨rfl, rfl⟩ ⟨rfl, rfl⟩ ⟨iv ((hR.symm.trans (szF_step (d := z38) hk2)).trans (tS_lt c)), trivial⟩
      · obtain ⟨g1, g2⟩ := tS_ge (K := szF szP (l.drop (k + 1))) c
        conv => whnf
        exact NextQ.mk ⟨⟨(k + 1, szP (l.getD k z38) y), hk2, g2, (szP_small _ y p0 p1 g2).2, (g1.symm.trans (szF_step (d := z38) hk2).symm).trans hR⟩, Nat.sub_lt_sub_left hk2 (Nat.lt_succ_self k), imp_of [] rfl rfl rfl ⟨⟨rfl, congrArg i64 (sc_ hk2 hl)⟩, ⟨rfl, rfl⟩, ⟨rfl, rfl⟩, trivial⟩ trivial⟩
    · have hk2 : k = l.length := Nat.le_antisymm hk (ln_f c)
      conv => whnf
      subst hk2
      exact RetQ.mk ⟨rfl, rfl⟩ ⟨rfl, rfl⟩ ⟨iv (hR.symm.trans szF_end), trivial⟩
theorem toPacketS (a : List SA) (ha : a.length ≤ 1048576) (hs : ∀ y ∈ a, Small y) : CallOb T Tryz.prog 6 [.c (.sl eA a)] (.c (.ow eP (a.map toP))) := by
  refine call_of_vc hT Tryz.func6 (by kernel_rfl) rfl rfl (fun A => ?_)
  conv => whnf
  refine Need.mk (mk_ (by decide) ha) ?_
  conv => whnf
  refine LoopQ.mk { k : Nat // k ≤ a.length } (fun p => (2, [(4, i64 p.1), (3, .c (.hd 0)), (0, im eA a)], [(0, .row 1 eP (fill toP z42 a p.1))])) (fun p => a.length - p.1) ⟨0, Nat.zero_le _⟩ (imp_of [(0, 0)] rfl rfl rfl ⟨⟨rfl, rfl⟩, ⟨rfl, rfl⟩, ⟨rfl, rfl⟩, trivial⟩ ⟨sr_ fill_zero.symm, trivial⟩) ?_
  rintro ⟨k, hk⟩
  conv => whnf
  refine Split.mk (fun c => ?_) (fun c => ?_)
  · have hk2 : k < a.length := ln_t c
    conv => whnf
    refine Need.mk (idx hk2) ?_
    conv => whnf
    refine CallQ.mk _ (toPacket (a.getD k z38) (hs _ (getD_mem hk2))) ?_
    conv => whnf
    refine Need.mk (idx (Nat.lt_of_lt_of_eq hk2 (fill_len hk).symm)) ?_
    conv => whnf
    exact NextQ.mk ⟨⟨k + 1, hk2⟩, Nat.sub_lt_sub_left hk2 (Nat.lt_succ_self k), imp_of [(0, 0)] rfl rfl rfl ⟨⟨rfl, congrArg i64 (sc_ hk2 (Nat.le_trans ha (by decide)))⟩, ⟨rfl, rfl⟩, ⟨rfl, rfl⟩, trivial⟩ ⟨sr_ (fill_set hk2), trivial⟩⟩
  · have hk2 : k = a.length := Nat.le_antisymm hk (ln_f c)
    conv => whnf
    subst hk2
    exact RetQ.mk ⟨rfl, rfl⟩ ⟨rfl, rfl⟩ ⟨sr_ (fill_all), trivial⟩
theorem eqPacketS (a b : List SP) (ha : a.length ≤ 140737488351232) (hf : ∀ y ∈ a, Fit2 y) : CallOb T Tryz.prog 9 [.c (.sl eP a), .c (.sl eP b)] (.c (.sc (.bool (same a b)))) := by
  refine call_of_vc hT Tryz.func9 (by kernel_rfl) rfl rfl (fun A => ?_)
  conv => whnf
  refine Split.mk (fun c => ?_) (fun c => ?_)
  · conv => whnf
    exact RetQ.mk ⟨rfl, rfl⟩ ⟨rfl, rfl⟩ ⟨bv (same_f (fun e => nn_t c (congrArg List.length e))), trivial⟩
  · have hl : a.length = b.length := nn_f c
    conv => whnf
    refine LoopQ.mk { k : Nat // k ≤ a.length ∧ a.take k = b.take k } (fun p => (0, [(5, i64 p.1), (0, im eP a), (1, im eP b)], [])) (fun p => a.length - p.1) ⟨0, Nat.zero_le _, rfl⟩ (imp_of [] rfl rfl rfl ⟨⟨rfl, rfl⟩, ⟨rfl, rfl⟩, ⟨rfl, rfl⟩, trivial⟩ trivial) ?_
    rintro ⟨k, hk, ht⟩
    conv => whnf
    refine Split.mk (fun c => ?_) (fun c => ?_)
    · have hk2 : k < a.length := ln_t c
      conv => whnf
      refine Need.mk (idx hk2) ?_
      conv => whnf
      refine Need.mk (idx (hl ▸ hk2)) ?_
      conv => whnf
      refine CallQ.mk _ (eqPacket (a.getD k z42) (b.getD k z42) (hf _ (getD_mem hk2))) ?_
      conv => whnf
      refine DrawQ.mk ⟨by kernel_rfl, by kernel_rfl⟩ ?_
      conv => whnf
      refine Split.mk (fun c => ?_) (fun c => ?_)
      · conv => whnf
        exact RetQ.mk ⟨rfl, rfl⟩ ⟨rfl, rfl⟩ ⟨bv (same_f (fun e => of_same_f (not_t c) (congrArg (fun l => l.getD k z42) e))), trivial⟩
      · conv => whnf
        exact NextQ.mk ⟨⟨k + 1, hk2, take_more (d := z42) hk2 (hl ▸ hk2) ht (of_same (not_f c))⟩, Nat.sub_lt_sub_left hk2 (Nat.lt_succ_self k), imp_of [] rfl rfl rfl ⟨⟨rfl, congrArg i64 (sc_ hk2 ha)⟩, ⟨rfl, rfl⟩, ⟨rfl, rfl⟩, trivial⟩ trivial⟩
    · have hk2 : k = a.length := Nat.le_antisymm hk (ln_f c)
      conv => whnf
      subst hk2
      exact RetQ.mk ⟨rfl, rfl⟩ ⟨rfl, rfl⟩ ⟨bv (same_t (take_all hl ht)), trivial⟩
end Go.Proofs.YtnflbiafmddpgaaGreatDoor.Q
end
section
/- WriteAll of both sides. -/
namespace Go.Proofs.YtnflbiafmddpgaaGreatDoor.Q
open Go.RowKit Go.Proofs.YtnflbiafmddpgaaGreatDoor.Z
open Go.Proofs.YtnflbiafmddpgaaGreatDoor.X (textOkP)
open Go.Proofs.YtnflbiafmddpgaaGreatDoor.Pure (topicL filterL)
set_option linter.unusedVariables false
set_option linter.unusedSimpArgs false
set_option maxRecDepth 100000
set_option maxHeartbeats 4000000
theorem if_tb {a b : Bool} (h : (if a = true then b else false) = true) : b = true := by cases a with
  | true => exact h
  | false => exact absurd (show false = true from h) Bool.false_ne_true
theorem fol_small (p : S42) (hk : okS p = true) : (folI p).length ≤ 1000 := by
  have hi := (ok_eq p).trans hk
  have a5 := putT_len (b := []) (s := p.f5)
  have w5 := putW_len (b := putT [] p.f5) (n := p.f4)
  have w0 := putW_len (b := []) (n := p.f4)
  have k1 := conB_len p
  simp only [List.length_nil] at a5 w0
  cases hin : inR p.f0 1 14 with
  | false => unfold okI at hi; rw [hin] at hi; exact absurd (show false = true from hi) Bool.false_ne_true
  | true =>
    cases hs : same p (nmI p) with
    | false => unfold okI at hi; rw [hin, hs] at hi; exact absurd (show false = true from hi) Bool.false_ne_true
    | true =>
      have e := of_same hs
      unfold okI at hi
      rw [hin, hs] at hi
      have : p.f0 = 1 ∨ p.f0 = 2 ∨ p.f0 = 3 ∨ p.f0 = 4 ∨ p.f0 = 5 ∨ p.f0 = 6 ∨ p.f0 = 7 ∨ p.f0 = 8 ∨ p.f0 = 9 ∨ p.f0 = 10 ∨ p.f0 = 11 ∨ p.f0 = 12 ∨ p.f0 = 13 ∨ p.f0 = 14 := by simp only [inR, Bool.and_eq_true, decide_eq_true_eq] at hin; omega
      have lists : (p.f0 = 4 ∨ p.f0 = 5 ∨ p.f0 = 6 ∨ p.f0 = 7 ∨ p.f0 = 11) → p.f22 = [] ∧ p.f23 = [] ∧ p.f24 = [] := fun h => by
        have hn : (nmI p).f22 = [] ∧ (nmI p).f23 = [] ∧ (nmI p).f24 = [] := by
          unfold nmI
          rcases h with h | h | h | h | h <;> simp only [h, Int.reduceBEq, if_true, if_false, Bool.false_eq_true] <;> exact ⟨trivial, trivial, trivial⟩
        exact ⟨(congrArg S42.f22 e).trans hn.1, (congrArg S42.f23 e).trans hn.2.1, (congrArg S42.f24 e).trans hn.2.2⟩
      have four : ∀ {n : Nat}, inR (n : Int) 1 4 = true → n ≤ 4 := fun h => by simp only [inR, Bool.and_eq_true, decide_eq_true_eq] at h; omega
      have none : p.f22 = [] ∧ p.f23 = [] ∧ p.f24 = [] → (folTail p (putW [] p.f4)).length ≤ 1000 := fun h => by
        unfold folTail; rw [h.1, h.2.1, h.2.2]
        show (putW [] p.f4).length ≤ 1000; omega
      unfold folI
      rcases this with h | h | h | h | h | h | h | h | h | h | h | h | h | h <;> simp only [h, Int.reduceBEq, if_true, if_false, Bool.false_eq_true, Bool.not_true, Bool.not_false, beq_self_eq_true, Bool.true_eq_false] at hi ⊢
      · omega
      · show 2 ≤ 1000; omega
      · have h40 := if_tt (if_tb (if_tb hi))
        have h41 : p.f6.length ≤ 40 := by
          have : (@List.length (T.Tb 5) p.f6) = p.f6.length := rfl
          simp only [decide_eq_true_eq] at h40; omega
        rw [List.length_append]
        split <;> omega
      · exact none (lists (by simp [h]))
      · exact none (lists (by simp [h]))
      · exact none (lists (by simp [h]))
      · exact none (lists (by simp [h]))
      · have hn : (nmI p).f23 = [] ∧ (nmI p).f24 = [] := by
          unfold nmI
          simp only [h, Int.reduceBEq, if_true, if_false, Bool.false_eq_true]
          exact ⟨trivial, trivial⟩
        have e23 := (congrArg S42.f23 e).trans hn.1
        have e24 := (congrArg S42.f24 e).trans hn.2
        have hl := if_tb hi
        rw [show lisI p = (p.f22.all wantOk && inR (p.f22.length : Int) 1 4) from by simp [lisI, e23, e24]] at hl
        have h4 := four (Bool.and_eq_true_iff.1 hl).2
        have w1 := wanB_len (out := putW [] p.f4) (l := p.f22)
        unfold folTail; rw [e23, e24]
        show (wanB (putW [] p.f4) p.f22).length ≤ 1000
        omega
      · have hn : (nmI p).f22 = [] ∧ (nmI p).f23 = [] := by
          unfold nmI
          simp only [h, Int.reduceBEq, if_true, if_false, Bool.false_eq_true]
          exact ⟨trivial, trivial⟩
        have e22 := (congrArg S42.f22 e).trans hn.1
        have e23 := (congrArg S42.f23 e).trans hn.2
        have hl := if_tb hi
        rw [show lisI p = (p.f24.all codeOk && inR (p.f24.length : Int) 1 4) from by simp [lisI, e22, e23]] at hl
        have h4 := four (Bool.and_eq_true_iff.1 hl).2
        have w1 := codB_len (out := putW [] p.f4) (l := p.f24)
        unfold folTail; rw [e22, e23]
        show (codB (putW [] p.f4) p.f24).length ≤ 1000
        omega
      · have hn : (nmI p).f22 = [] ∧ (nmI p).f24 = [] := by
          unfold nmI
          simp only [h, Int.reduceBEq, if_true, if_false, Bool.false_eq_true]
          exact ⟨trivial, trivial⟩
        have e22 := (congrArg S42.f22 e).trans hn.1
        have e24 := (congrArg S42.f24 e).trans hn.2
        have hl := if_tb hi
        rw [show lisI p = (p.f23.all filterL && inR (p.f23.length : Int) 1 4) from by simp [lisI, e22, e24]] at hl
        have h4 := four (Bool.and_eq_true_iff.1 hl).2
        have w1 := namB_len (out := putW [] p.f4) (l := p.f23)
        unfold folTail; rw [e22, e24]
        show (namB (putW [] p.f4) p.f23).length ≤ 1000
        omega
      · exact none (lists (by simp [h]))
      all_goals exact Nat.zero_le _
theorem pkS_small (p : S42) : (pkS p).length ≤ 2100 := by
  rw [← put_eq]
  unfold pkI
  cases hk : okS p with
  | false => exact Nat.zero_le _
  | true =>
    have h1 := fol_small p hk
    have hr := lenR_len _ (folI p).length (Nat.le_refl _)
    simp only [if_true]
    rw [List.length_append, List.length_append, List.length_singleton]; omega
noncomputable def allB (l : List S42) : List Int := (l.map pkS).flatten
theorem allB_take {l : List S42} {k : Nat} (h : k < l.length) : allB (l.take k) ++ pkS (l.getD k z42) = allB (l.take (k + 1)) := by
  have e : l.getD k z42 = l[k] := by simp [h]
  rw [List.take_succ_eq_append_getElem h, e, allB, allB, List.map_append, List.flatten_append]; simp
theorem allB_len {l : List S42} (h : l.length ≤ 1048576) : (allB l).length ≤ 2300000000 := by
  have := flat_le (l := l.map pkS) (M := 2100) (fun x hx => by obtain ⟨p, _, rfl⟩ := List.mem_map.1 hx; exact pkS_small p)
  rw [List.length_map] at this
  unfold allB; omega
theorem specWriteAll (l : List S42) (hl : l.length ≤ 1048576) (hb : ∀ p ∈ l, Bnd p) : CallOb T Tryz.prog 5 [.c (.sl eP l)] (.c (.ow 5 (allB l))) := by
  refine call_of_vc hT Tryz.func5 (by kernel_rfl) rfl rfl (fun A => ?_)
  conv => whnf
  refine LoopQ.mk { k : Nat // k ≤ l.length } (fun s => (2, [(4, i64 s.1), (3, .c (.hd 0)), (0, im eP l)], [(0, .row 1 5 (allB (l.take s.1)))])) (fun s => l.length - s.1) ⟨0, Nat.zero_le _⟩ (imp_of [(0, 0)] rfl rfl rfl ⟨⟨rfl, rfl⟩, ⟨rfl, rfl⟩, ⟨rfl, rfl⟩, trivial⟩ ⟨show SameRow (T := T) 5 [] 5 (allB (l.take 0)) from sr_ rfl, trivial⟩) ?_
  rintro ⟨k, hk⟩
  have hm := allB_len (l := l.take k) (take_le hl)
  conv => whnf
  refine Split.mk (fun c => ?_) (fun c => ?_)
  · have hk2 : k < l.length := ln_t c
    clear c
    have hq := pkS_small (l.getD k z42)
    conv => whnf
    refine Need.mk (idx hk2) ?_
    conv => whnf
    refine CallQ.mk _ (specPutPacket (l.getD k z42) (hb _ (getD_mem hk2)) _ rfl) ?_
    conv => whnf
    refine Need.mk (ap_ (show (allB (l.take k)).length + (pkS (l.getD k z42)).length ≤ 100000000000 by omega)) ?_
    conv => whnf
    exact NextQ.mk ⟨⟨k + 1, hk2⟩, Nat.sub_lt_sub_left hk2 (Nat.lt_succ_self k), imp_of [(0, 3)] rfl rfl rfl ⟨⟨rfl, congrArg i64 (sc_ hk2 (by omega))⟩, ⟨rfl, rfl⟩, ⟨rfl, rfl⟩, trivial⟩ ⟨sr5 (allB_take hk2), trivial⟩⟩
  · have hk2 : k = l.length := Nat.le_antisymm hk (ln_f c)
    clear c
    conv => whnf
    subst hk2
    exact RetQ.mk ⟨rfl, rfl⟩ ⟨rfl, rfl⟩ ⟨sr5 (by rw [List.take_length]), trivial⟩
theorem implWriteAll (l : List S42) (hl : l.length ≤ 1048576) (hb : ∀ p ∈ l, Bnd p) : CallOb T Tryz.prog 7 [.c (.sl eP l)] (.c (.ow 5 (allB l))) := by
  refine call_of_vc hT Tryz.func7 (by kernel_rfl) rfl rfl (fun A => ?_)
  conv => whnf
  refine LoopQ.mk { k : Nat // k ≤ l.length } (fun s => (2, [(9, i64 s.1), (8, i64 l.length), (7, im eP l), (3, .c (.hd 0))], [(0, .row 1 5 (allB (l.take s.1)))])) (fun s => l.length - s.1) ⟨0, Nat.zero_le _⟩ (imp_of [(0, 0)] rfl rfl rfl ⟨⟨rfl, rfl⟩, ⟨rfl, rfl⟩, ⟨rfl, rfl⟩, ⟨rfl, rfl⟩, trivial⟩ ⟨show SameRow (T := T) 5 [] 5 (allB (l.take 0)) from sr_ rfl, trivial⟩) ?_
  rintro ⟨k, hk⟩
  have hm := allB_len (l := l.take k) (take_le hl)
  conv => whnf
  refine Split.mk (fun c => ?_) (fun c => ?_)
  · have hk2 : k < l.length := ln_t c
    clear c
    have hq := pkS_small (l.getD k z42)
    conv => whnf
    refine Need.mk (idx hk2) ?_
    conv => whnf
    refine CallQ.mk _ (implPutPacket (l.getD k z42) (hb _ (getD_mem hk2)) _ (put_eq _)) ?_
    conv => whnf
    refine Need.mk (ap_ (show (allB (l.take k)).length + (pkS (l.getD k z42)).length ≤ 100000000000 by omega)) ?_
    conv => whnf
    exact NextQ.mk ⟨⟨k + 1, hk2⟩, Nat.sub_lt_sub_left hk2 (Nat.lt_succ_self k), imp_of [(0, 4)] rfl rfl rfl ⟨⟨rfl, congrArg i64 (sc_ hk2 (by omega))⟩, ⟨rfl, rfl⟩, ⟨rfl, rfl⟩, ⟨rfl, rfl⟩, trivial⟩ ⟨sr5 (allB_take hk2), trivial⟩⟩
  · have hk2 : k = l.length := Nat.le_antisymm hk (ln_f c)
    clear c
    conv => whnf
    subst hk2
    exact RetQ.mk ⟨rfl, rfl⟩ ⟨rfl, rfl⟩ ⟨sr5 (by rw [List.take_length]), trivial⟩
end Go.Proofs.YtnflbiafmddpgaaGreatDoor.Q
end
section
/- The law FnExactWriteAll's function answers true. -/
namespace Go.Proofs.YtnflbiafmddpgaaGreatDoor.Q
open Go.RowKit Go.Proofs.YtnflbiafmddpgaaGreatDoor.Z
set_option linter.unusedVariables false
set_option linter.unusedSimpArgs false
set_option maxRecDepth 100000
set_option maxHeartbeats 4000000
abbrev pA (a : List SA) : Slot T := im eA a
theorem lawWriteAll (a : List SA) (hl : a.length ≤ 140737488351232) (ha : ∀ y ∈ a, Fit y) : CallOb T Tryz.prog 3 [.c (.sl eA a)] (.c (.sc (.bool true))) := by
  refine call_of_Vc hT Tryz.func3 (by kernel_rfl) rfl rfl (fun A => ?_)
  refine Vc.seq 0 hT ?_
  conv => whnf
  refine Vc.seq 1 hT ?_
  conv => whnf
  refine Vc.seq 1 hT ?_
  conv => whnf
  refine CallQ.mk _ (szPacketS a _ (by decide) (by decide) hl ha) ?_
  conv => whnf
  refine Vc.seq 2 hT ?_
  conv => whnf
  refine Split.mk (fun c => ?_) (fun c => ?_)
  · conv => whnf
    exact RetQ.mk ⟨rfl, rfl⟩ ⟨rfl, rfl⟩ ⟨rfl, trivial⟩
  have hsz : 0 ≤ szPS a 1048576 := li_f c
  clear c
  obtain ⟨g, hz⟩ := tS_inv hsz
  have hla := szL_le' g
  have hl2 : a.length ≤ 1048576 := by omega
  have hmem := szF_mem (a := a) g (by omega) hz
  have hsm : ∀ y ∈ a, Small y := fun y hy => by obtain ⟨v, v0, v1, v2⟩ := hmem y hy; exact (szP_small y v v0 v1 v2).1
  have hbd : ∀ p ∈ a.map toP, Bnd p := fun p hp => by
    obtain ⟨y, hy, rfl⟩ := List.mem_map.1 hp
    obtain ⟨v, v0, v1, v2⟩ := hmem y hy
    exact szP_bnd y v v0 v1 (ha y hy) v2
  have hft : ∀ p ∈ a.map toP, Fit2 p := fun p hp => by obtain ⟨y, hy, rfl⟩ := List.mem_map.1 hp; exact fit2 (ha y hy)
  have hpb : ∀ p ∈ a.map toP, Pb p := fun p hp => by have h := hbd p hp; exact ⟨h.l6, h.l13, h.l19, h.l22, h.l23, h.l24⟩
  have hal : (a.map toP).length ≤ 1048576 := by rw [List.length_map]; exact hl2
  obtain ⟨B, hB⟩ : ∃ B : List SP, a.map toP = B := ⟨_, rfl⟩
  have hto : CallOb T Tryz.prog 6 [.c (.sl eA a)] (.c (.ow eP B)) := by rw [← hB]; exact toPacketS a hl2 hsm
  rw [hB] at hbd hft hpb hal
  clear hmem hz hla g hsz hsm
  obtain ⟨W, hW⟩ : ∃ W, allB B = W := ⟨_, rfl⟩
  have hw : W.length ≤ 2300000000 := by rw [← hW]; exact allB_len hal
  have hsp : CallOb T Tryz.prog 5 [.c (.sl eP B)] (.c (.ow 5 W)) := hW ▸ specWriteAll B hal hbd
  have him : CallOb T Tryz.prog 7 [.c (.sl eP B)] (.c (.ow 5 W)) := hW ▸ implWriteAll B hal hbd
  have hmk := markPacketS B 1 hal hpb (by decide) (by decide)
  conv => whnf
  refine Vc.cut (α := Unit) 3 (fun _ => True) (fun _ => [(4, .c (.hd 1)), (0, pA a)]) (fun _ => [(1, .row 1 5 W)]) hT ?_ (fun _ _ => ?_)
  · conv => whnf
    refine CallQ.mk _ hto ?_
    conv => whnf
    refine CallQ.mk _ hsp ?_
    conv => whnf
    exact CutQ.mk ⟨(), trivial, imp_of [(1, 4)] rfl rfl rfl ⟨⟨rfl, rfl⟩, ⟨rfl, rfl⟩, trivial⟩ ⟨rfl, trivial⟩⟩
  refine Vc.cut (α := Unit) 10 (fun _ => True) (fun _ => [(4, .c (.hd 1)), (5, .c (.hd 2)), (0, pA a)]) (fun _ => [(1, .row 1 5 W), (2, .row 2 eP B)]) hT ?_ (fun _ _ => ?_)
  · conv => whnf
    refine CallQ.mk _ hto ?_
    conv => whnf
    exact CutQ.mk ⟨(), trivial, imp_of [(1, 1), (2, 10)] rfl rfl rfl ⟨⟨rfl, rfl⟩, ⟨rfl, rfl⟩, ⟨rfl, rfl⟩, trivial⟩ ⟨rfl, rfl, trivial⟩⟩
  refine Vc.cut (α := Unit) 20 (fun _ => True) (fun _ => [(4, .c (.hd 1)), (5, .c (.hd 2)), (6, .c (.hd 9)), (0, pA a)]) (fun _ => [(1, .row 1 5 W), (2, .row 2 eP B), (9, .row 9 5 W)]) hT ?_ (fun _ _ => ?_)
  · conv => whnf
    refine CallQ.mk _ him ?_
    conv => whnf
    exact CutQ.mk ⟨(), trivial, imp_of [(1, 1), (2, 2), (9, 20)] rfl rfl rfl ⟨⟨rfl, rfl⟩, ⟨rfl, rfl⟩, ⟨rfl, rfl⟩, ⟨rfl, rfl⟩, trivial⟩ ⟨rfl, rfl, rfl, trivial⟩⟩
  refine Vc.seq 20 hT ?_
  conv => whnf
  refine CallQ.mk _ (eqByteS W W (by omega)) ?_
  conv => whnf
  refine Split.mk (fun c => (of_same_f (not_t c) rfl).elim) (fun c => ?_)
  clear c
  conv => whnf
  refine Vc.seq 20 hT ?_
  conv => whnf
  refine CallQ.mk _ hto ?_
  conv => whnf
  refine CallQ.mk _ (eqPacketS B B (by omega) hft) ?_
  conv => whnf
  refine Split.mk (fun c => (of_same_f (not_t c) rfl).elim) (fun c => ?_)
  clear c
  conv => whnf
  refine Vc.seq 100 hT ?_
  conv => whnf
  refine Vc.cut (α := Unit) 100 (fun _ => True) (fun _ => [(4, .c (.hd 1)), (6, .c (.hd 9)), (7, i64 ((mkR B 1).2 : Nat)), (0, pA a)]) (fun _ => [(1, .row 1 5 W), (9, .row 9 5 W)]) hT ?_ (fun _ _ => ?_)
  · conv => whnf
    refine CallQ.wr [[NW.wr eP (mkR B 1).1], [NW.rd]] (.c (.sc (.int .i64 ((mkR B 1).2 : Int)))) ?_
    conv => whnf
    refine CallWQ.mk hmk ?_
    conv => whnf
    exact CutQ.mk ⟨(), trivial, imp_of [(1, 1), (9, 9)] rfl rfl rfl ⟨⟨rfl, rfl⟩, ⟨rfl, rfl⟩, ⟨rfl, rfl⟩, ⟨rfl, rfl⟩, trivial⟩ ⟨rfl, rfl, trivial⟩⟩
  refine Vc.seq 20 hT ?_
  conv => whnf
  refine Split.mk (fun c => ?_) (fun c => ?_)
  · exact ng_ c
  clear c
  conv => whnf
  refine CallQ.mk _ (eqByteS W W (by omega)) ?_
  conv => whnf
  refine Split.mk (fun c => (of_same_f (not_t c) rfl).elim) (fun c => ?_)
  clear c
  conv => whnf
  refine Vc.seq 20 hT ?_
  conv => whnf
  refine Vc.cut (α := Unit) 20 (fun _ => True) (fun _ => [(4, .c (.hd 1)), (6, .c (.hd 9)), (8, i64 (1 + 1 * W.length : Nat)), (0, pA a)]) (fun _ => [(1, .row 1 5 W), (9, .row 9 5 (mkL 1 fB 1 W.length))]) hT ?_ (fun _ _ => ?_)
  · conv => whnf
    refine CallQ.wr [[NW.wr 5 (mkL 1 fB 1 W.length)], [NW.rd]] (.c (.sc (.int .i64 ((1 + 1 * W.length : Nat) : Int)))) ?_
    conv => whnf
    refine CallWQ.mk (markByteS W 1 (by omega) (by decide) (by omega)) ?_
    conv => whnf
    exact CutQ.mk ⟨(), trivial, imp_of [(1, 1), (9, 9)] rfl rfl rfl ⟨⟨rfl, rfl⟩, ⟨rfl, rfl⟩, ⟨rfl, rfl⟩, ⟨rfl, rfl⟩, trivial⟩ ⟨rfl, rfl, trivial⟩⟩
  refine Vc.seq 20 hT ?_
  conv => whnf
  refine Vc.seq 20 hT ?_
  conv => whnf
  refine CallQ.mk (.c (.sc (.int .i64 ((1 + 1 * W.length : Nat) : Int)))) (heldByteS W.length 1 (by omega) (by decide) (by omega)) ?_
  conv => whnf
  refine Vc.seq 20 hT ?_
  conv => whnf
  refine Split.mk (fun c => ng_ c) (fun c => ?_)
  clear c
  conv => whnf
  refine Vc.seq 20 hT ?_
  conv => whnf
  refine Split.mk (fun c => (ne_t c rfl).elim) (fun c => ?_)
  clear c
  conv => whnf
  refine Vc.cut (α := Unit) 20 (fun _ => True) (fun _ => [(4, .c (.hd 1)), (6, .c (.hd 9)), (8, i64 (1 + 1 * W.length : Nat)), (10, .c (.hd 10)), (0, pA a)]) (fun _ => [(1, .row 1 5 W), (9, .row 9 5 (mkL 1 fB 1 W.length)), (10, .row 10 5 W)]) hT ?_ (fun _ _ => ?_)
  · conv => whnf
    refine CallQ.mk _ hto ?_
    conv => whnf
    refine CallQ.mk _ him ?_
    conv => whnf
    exact CutQ.mk ⟨(), trivial, imp_of [(1, 1), (9, 9), (10, 21)] rfl rfl rfl ⟨⟨rfl, rfl⟩, ⟨rfl, rfl⟩, ⟨rfl, rfl⟩, ⟨rfl, rfl⟩, ⟨rfl, rfl⟩, trivial⟩ ⟨rfl, rfl, rfl, trivial⟩⟩
  refine Vc.seq 20 hT ?_
  conv => whnf
  refine CallQ.mk _ (eqByteS W W (by omega)) ?_
  conv => whnf
  refine Split.mk (fun c => (of_same_f (not_t c) rfl).elim) (fun c => ?_)
  clear c
  conv => whnf
  refine Vc.seq 20 hT ?_
  conv => whnf
  refine Vc.seq 20 hT ?_
  conv => whnf
  refine CallQ.mk (.c (.sc (.int .i64 ((1 + 1 * W.length : Nat) : Int)))) (heldByteS W.length 1 (by omega) (by decide) (by omega)) ?_
  conv => whnf
  refine Vc.seq 20 hT ?_
  conv => whnf
  refine Split.mk (fun c => ng_ c) (fun c => ?_)
  clear c
  conv => whnf
  refine Vc.seq 20 hT ?_
  conv => whnf
  refine Split.mk (fun c => (ne_t c rfl).elim) (fun c => ?_)
  clear c
  conv => whnf
  refine Vc.of 20 hT ?_
  conv => whnf
  exact RetQ.mk ⟨rfl, rfl⟩ ⟨rfl, rfl⟩ ⟨rfl, trivial⟩
end Go.Proofs.YtnflbiafmddpgaaGreatDoor.Q
end
