/- The path calculus, part 18: a code's condition told by hand at its joints. -/
import Derived.Test.YtnflbiafmddpgaaZ17
namespace Go.Proofs.Ytnflbiafmddpgaa.Z
open Go.RowKit
set_option linter.unusedVariables false
section
variable {T : Tys} {P : Program} {n : Nat} {A : Nat → Prop} {K : Exit → Nat → List (Nat × Slot T) → List (Nat × Res T) → Prop} {nx : Nat} {tm tm' : List (Nat × Slot T)} {rs rs' : List (Nat × Res T)} {c d : Code}
/-- What vcC is good for. -/
structure Vc (P : Program) (n : Nat) (A : Nat → Prop) (c : Code) (K : Exit → Nat → List (Nat × Slot T) → List (Nat × Res T) → Prop) (tm : List (Nat × Slot T)) (rs : List (Nat × Res T)) : Prop where
  run : ∀ (W0 : World) (a : Act) (w : World) (Q : Exit → Act → World → Prop), Sim W0 (⟨tm, rs, n, A⟩ : St T) a w → (∀ e nx' tm' rs' a' w', K e nx' tm' rs' → Sim W0 (⟨tm', rs', n, A⟩ : St T) a' w' → Q e a' w') → c.wp P Q a w
theorem Vc.of (nx : Nat) (hT : T.ok P) (h : vcC P n A c K nx tm rs) : Vc P n A c K tm rs := ⟨fun W0 a w Q hS hQ => vc_sound hT c K nx tm rs h a w Q hS hQ⟩
/-- What comes next is told apart. -/
theorem Vc.seq (nx : Nat) (hT : T.ok P) (h : vcC P n A c (fun e nx tm rs => match e with
    | .normal => Vc P n A d K tm rs
    | e => K e nx tm rs) nx tm rs) : Vc P n A (.seq c d) K tm rs := ⟨fun W0 a w Q hS hQ =>
  wp_seq (vc_sound hT c _ nx tm rs h a w _ hS (fun e nx' tm' rs' a' w' hK hS' => by
    cases e <;> first | exact hQ _ _ _ _ _ _ hK hS' | exact hK.run W0 a' w' Q hS' hQ))⟩
theorem Vc.imp (hi : Imp (⟨tm, rs, n, A⟩ : St T) ⟨tm', rs', n, A⟩) (h : Vc P n A c K tm' rs') : Vc P n A c K tm rs := ⟨fun W0 a w Q hS hQ => h.run W0 a w Q (hi _ _ _ hS) hQ⟩
structure CutQ (p : Prop) : Prop where
  p : p
/-- The ways meet: what comes next is told once, of states of one form. -/
theorem Vc.cut {α : Type} (nx : Nat) (I : α → Prop) (tmF : α → List (Nat × Slot T)) (rsF : α → List (Nat × Res T)) (hT : T.ok P) (h : vcC P n A c (fun e nx tm rs => match e with
    | .normal => CutQ (∃ x, I x ∧ Imp (⟨tm, rs, n, A⟩ : St T) ⟨tmF x, rsF x, n, A⟩)
    | e => K e nx tm rs) nx tm rs) (h2 : ∀ x, I x → Vc P n A d K (tmF x) (rsF x)) : Vc P n A (.seq c d) K tm rs := ⟨fun W0 a w Q hS hQ =>
  wp_seq (vc_sound hT c _ nx tm rs h a w _ hS (fun e nx' tm' rs' a' w' hK hS' => by
    cases e with
    | normal => obtain ⟨⟨x, hx, hi⟩⟩ := hK; exact (h2 x hx).run W0 a' w' Q (hi _ _ _ hS') hQ
    | _ => exact hQ _ _ _ _ _ _ hK hS'))⟩
end
section
variable {T : Tys} {P : Program} {W0 : World}
theorem call_of_Vc (hT : T.ok P) {f : FuncId} {fn : Func} {c : Code} {args : List (Arg T.Tb)} {res : RS T.Tb} (hf : P.funcs[f]? = some fn) (hname : (fn.name == "runtime.NumGoroutine") = false) (hb : fn.body = some c) (hn : Nat.ble args.length fn.ntmps = true)
    (h : ∀ A, Vc P fn.ntmps A c (retK T fn.ntmps A fn.results.toList res) (initTm 0 args) []) : CallOb T P f args res := by
  refine ⟨⟨fn, hf, hname, by rw [hb]; rfl⟩, fun w vs S hargs => ?_⟩
  refine calls_of_wp hf hb ((h (fun k => S k ∨ w.heap.size ≤ k)).run _ _ w _ (init_sim hargs hn) (fun e nx' tm' rs' a' w' hK hS' => ?_))
  have hd : a'.defers = [] := by obtain ⟨env, F, h⟩ := hS'; exact h.defers
  have main : RetOk (⟨tm', rs', fn.ntmps, fun k => S k ∨ w.heap.size ≤ k⟩ : St T) fn.results.toList res → a'.defers = [] ∧ ∃ v, (results fn a'.tmps).run P w' = .ok v w' ∧ ∃ v' G, Ending.returned v = .returned v' ∧ Below w.heap.size w w' ∧ (∀ i k, G i k → w.heap.size ≤ k ∧ k < w'.heap.size) ∧ (∀ i j k, G i k → G j k → i = j) ∧
      ∃ fv, FlatV res v' fv ∧ ResCells w' (fun k => S k ∧ k < w.heap.size ∨ w.heap.size ≤ k ∧ ∀ i, ¬ G i k) G 0 res.flat fv := fun hr => by
    obtain ⟨v, h1, G, h2, h3, h4, h5⟩ := ret_ok (vs := vs) hT rfl hS' hr
    exact ⟨hd, v, h1, v, G, rfl, h2, h3, h4, h5⟩
  cases e <;> first | exact main hK | exact hK.elim
/-! Words. -/
theorem tf_ {p : Prop} (h : true = false) : p := by cases h
theorem ft_ {p : Prop} (h : false = true) : p := by cases h
end
end Go.Proofs.Ytnflbiafmddpgaa.Z
