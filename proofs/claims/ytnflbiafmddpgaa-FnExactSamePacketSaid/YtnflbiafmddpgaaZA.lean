/- The path calculus, part A: rows made; an element of an own row written. -/
import Derived.Test.YtnflbiafmddpgaaZ13
namespace Go.Proofs.Ytnflbiafmddpgaa.Z
open Go.RowKit
set_option linter.unusedVariables false
set_option linter.unusedSimpArgs false
section
variable {T : Tys} {P : Program} {W0 : World} {σ σ' σ1 : St T} {a : Act} {w w1 : World} {env env1 : Nat → Value} {F F1 : Nat → Nat → Prop} {o : Oper} {tch chg : List Nat}
/-! ### make -/
def zeroC {Tb : Nat → Type} : List (C0 Tb) → List Value → List (C0 Tb)
  | .sl e _ :: r, .slice none 0 0 :: vs => .sl e [] :: zeroC r vs
  | .sc _ :: r, v :: vs => .sc v :: zeroC r vs
  | _, _ => []
def zeroE (T : Tys) (e : Nat) (z : List Value) : Option (T.Tb e) := T.mkE e (zeroC (T.cells e (T.df e)) z)
theorem zeroC_get : ∀ {cs : List (C0 T.Tb)} {vs : List Value} {q : Nat} {x : C0 T.Tb}, (zeroC cs vs)[q]? = some x → ∃ v, vs[q]? = some v ∧ (x = .sc v ∨ ∃ e, x = .sl e [] ∧ v = .slice none 0 0)
  | [], vs, q, x, h => by simp [zeroC] at h
  | .sc u :: r, [], q, x, h => by simp [zeroC] at h
  | .sc u :: r, v :: vs, 0, x, h => by simp [zeroC] at h; exact ⟨v, rfl, .inl h.symm⟩
  | .sc u :: r, v :: vs, q + 1, x, h => by simp [zeroC] at h; simpa using zeroC_get h
  | .sl e l :: r, [], q, x, h => by simp [zeroC] at h
  | .sl e l :: r, v :: vs, q, x, h => by
    unfold zeroC at h
    split at h
    · rename_i h1 h2
      cases h1; cases h2
      cases q with
      | zero => simp at h; exact ⟨_, rfl, .inr ⟨_, h.symm, rfl⟩⟩
      | succ q => simpa using zeroC_get (by simpa using h)
    · rename_i h1 h2; cases h1
    · simp at h
def stMake (σ : St T) (nx : Nat) (dst : Option Nat) (t : Nat) (x y : Operand) : LOut T :=
  match T.ti t with
  | some ti => match ti.kind with
    | .slice e => match T.ti e with
      | some i => match T.el e with
        | true => match zeroE T e i.zero with
          | some z => match sv (evS σ x) with
            | some (.int _ l) => match sv (evS σ y) with
              | some (.int _ c) => match dstOk σ dst with
                | true => match σ.fresh nx with
                  | true => .done ⟨.c (.hd nx), [(nx, .row nx e (List.replicate l.toNat z))], [nx], 1, [nx]⟩ (some (0 ≤ l ∧ l ≤ c ∧ (i.bytes : Int) * c ≤ 281474976710656 ∧ c ≤ 9223372036854775807))
                  | false => .stuck
                | false => .stuck
              | _ => .stuck
            | _ => .stuck
          | none => .stuck
        | false => .stuck
      | none => .stuck
    | _ => .stuck
  | none => .stuck
theorem made_get {z : Array Value} {c s j q : Nat} (hz : z.size = s) (hq : q < s) (hj : j < c) : (madeCells z (c * s))[j * s + q]? = z[q]? := by
  have h1 : j * s + q < c * s := by
    have : (j + 1) * s ≤ c * s := Nat.mul_le_mul_right s hj
    rw [Nat.succ_mul] at this; omega
  have h2 : (j * s + q) % z.size = q := by rw [hz, Nat.mul_comm, Nat.mul_add_mod]; exact Nat.mod_eq_of_lt hq
  simp [madeCells, h1, h2]
  have : q < z.size := by omega
  simp [this]
theorem made_ow {e : Nat} {i : TI} {z : T.Tb e} {zv : Value} (hi : T.ti e = some i) (hel : T.el e = true) (hz : zeroE T e i.zero = some z) (hzv : zv.cells = i.zero.toArray) (hzl : i.zero.length = i.size) (h0 : allOne i.zero = true ∨ True) {l c : Nat} (hlc : l ≤ c) (hm : c ≤ maxLen) (w : World) :
    Ow T.sz (w.alloc (.cells (madeCells zv.cells (c * i.size)) e)) (fun k => k = w.heap.size) (.sl e ((List.replicate l z).map (T.enc e))) (.slice (some ⟨w.heap.size, 0, none⟩) l c) := by
  have hcs := T.mk_eq e _ z hz
  have hsz : T.sz e = i.size := sz_of hi
  have hlen := T.len e z i hel hi
  have hzs : zv.cells.size = i.size := by rw [hzv]; simpa using hzl
  have key : ∀ (j : Nat) (l' : List V) (q : Nat) (x : V), ((List.replicate l z).map (T.enc e))[j]? = some l' → l'[q]? = some x → ∃ v, i.zero[q]? = some v ∧ j < l ∧ q < i.size ∧ Ow T.sz (w.alloc (.cells (madeCells zv.cells (c * i.size)) e)) (fun _ => False) x v := by
    intro j l' q x hj hq
    simp only [List.getElem?_map, List.getElem?_replicate] at hj
    split at hj
    · rename_i hjl
      simp at hj
      subst hj
      rw [T.enc_eq, List.getElem?_map] at hq
      obtain ⟨c0, h1, h2⟩ := Option.map_eq_some_iff.1 hq
      have h3 : q < i.size := by rw [← hlen]; exact (List.getElem?_eq_some_iff.1 h1).1
      have h1' := h1
      rw [hcs] at h1'
      obtain ⟨v, h4, h5⟩ := zeroC_get h1'
      refine ⟨v, h4, hjl, h3, ?_⟩
      rcases h5 with rfl | ⟨e', rfl, rfl⟩
      · subst h2
        exact .sc _ v (T.one e z (.sc v) (List.mem_of_getElem? h1))
      · subst h2
        exact .nil _ e'
    · cases hj
  have hl2 : l = ((List.replicate l z).map (T.enc e)).length := by simp
  have := Ow.sl (sz := T.sz) (w := w.alloc (.cells (madeCells zv.cells (c * i.size)) e)) (fun k => k = w.heap.size) e ((List.replicate l z).map (T.enc e)) w.heap.size c (madeCells zv.cells (c * i.size)) (fun j q => i.zero[q]?.getD undef) (fun _ _ _ => False) (heap_new w _) rfl (by simpa using hlc) hm (by rw [size_madeCells, hsz])
    (fun j l' hj => by
      simp only [List.getElem?_map, List.getElem?_replicate] at hj
      split at hj
      · simp at hj; subst hj; rw [T.enc_eq, List.length_map, hlen, hsz]
      · cases hj)
    (fun j l' q x hj hq => by
      obtain ⟨v, h1, h2, h3, _⟩ := key j l' q x hj hq
      rw [hsz, made_get hzs h3 (by omega), hzv]
      simp [h1])
    (fun j l' q x hj hq => by
      obtain ⟨v, h1, h2, h3, h4⟩ := key j l' q x hj hq
      rw [h1]; exact h4)
    (fun j q k h => h.elim) (fun j q j' q' k h => h.elim)
  rw [← hl2] at this
  exact this
theorem exec_make {t : Nat} {x y : Operand} (ho : o.op = .makeSlice t x y) {v : Value} {w' : World} (h : (Instr.makeSlice t (a.eval x) (a.eval y)).run P w = .ok v w') : (execOp a.eval o).run P w = .ok (.value v) w' := by
  unfold execOp; rw [ho]; simp only [Sem.run_bind, h]; rfl
theorem stMake_ok (hT : T.ok P) {nx t : Nat} {x y : Operand} {U : Upd T} {ob : Option Prop} (ho : o.op = .makeSlice t x y) (h : stMake σ nx o.dst t x y = .done U ob) (hob : obOk ob) : LStep P W0 o σ U := by
  unfold stMake at h
  cases hi : T.ti t with
  | none => rw [hi] at h; cases h
  | some ti =>
    rw [hi] at h
    dsimp only at h
    split at h
    · rename_i e hk
      cases he : T.ti e with
      | none => rw [he] at h; cases h
      | some i =>
        rw [he] at h
        dsimp only at h
        cases hel : T.el e <;> rw [hel] at h <;> dsimp only at h
        · cases h
        cases hz : zeroE T e i.zero with
        | none => rw [hz] at h; cases h
        | some z =>
          rw [hz] at h
          dsimp only at h
          split at h
          · rename_i k1 l hl
            split at h
            · rename_i k2 c hc
              cases hd : dstOk σ o.dst <;> rw [hd] at h <;> dsimp only at h
              · cases h
              cases hf : σ.fresh nx <;> rw [hf] at h <;> cases h
              intro σ' a w K Q hA ⟨env, F, hS⟩ hK
              obtain ⟨inf, h1, h2, h3, ⟨zv, h4, h4'⟩, h5, h6, h7, h8⟩ := hT t ti hi
              obtain ⟨inf', g1, g2, g3, ⟨zv', g4, g4'⟩, g5, _⟩ := hT e i he
              rw [hk] at h8
              have hob : 0 ≤ l ∧ l ≤ c ∧ (i.bytes : Int) * c ≤ 281474976710656 ∧ c ≤ 9223372036854775807 := hob
              have e1 := sv_rel (ev_rel hS hA (x := x) (by simp [ho, Op.operands])) hl
              have e2 := sv_rel (ev_rel hS hA (x := y) (by simp [ho, Op.operands])) hc
              have hrun := run_make (P := P) w t e inf' zv' h8.1 g1 g4 k1 k2 l c hob.1 hob.2.1 (by rw [g3]; exact hob.2.2.1) hob.2.2.2
              obtain ⟨hu, hn⟩ := hA.new (by simp) hf
              refine upon_value_ (exec_make ho (by rw [e1, e2]; exact hrun)) (hK _ _ ?_)
              refine hS.fresh hu hn (Grew.alloc w _) (u := .slice (some ⟨w.heap.size, 0, none⟩) l.toNat c.toNat) (G := fun k => k = w.heap.size) (fun k hk => by subst hk; rw [size_new]; omega) ?_ ?_ (fun d hd' => by rw [hA.n]; exact dstOk_spec hd d hd')
              · intro σ1 env1 F1 calm henv hG hoth hv
                have := made_ow (T := T) he hel hz g4' g5 (.inr trivial) (l := l.toNat) (c := c.toNat) (by omega) (by have := hob.2.2.2; simp only [maxLen]; omega) w
                rw [← g2] at this
                show Ow _ _ _ _ (env1 nx)
                rw [henv]
                exact this.mono (fun k hk => (hG k).2 hk)
              · intro σ1 env1 F1 calm henv hoth hv hres
                exact ⟨henv.symm, rfl⟩
            · cases h
          · cases h
    · cases h
end
end Go.Proofs.Ytnflbiafmddpgaa.Z
