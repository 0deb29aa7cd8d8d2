/- The path calculus, part D: conversions: numbers, a row of bytes to a text. -/
import Derived.Test.YtnflbiafmddpgaaZC
import Derived.Laws.BytesString
import Derived.Laws.BytesArg
namespace Go.Proofs.Ytnflbiafmddpgaa.Z
open Go.RowKit
set_option linter.unusedVariables false
set_option linter.unusedSimpArgs false
section
variable {T : Tys} {P : Program} {W0 : World} {σ σ' σ1 : St T} {a : Act} {w w1 : World} {env env1 : Nat → Value} {F F1 : Nat → Nat → Prop} {o : Oper} {tch chg : List Nat}
/-- The number that an element of bytes is. -/
def numOf (T : Tys) (e : Nat) (y : T.Tb e) : Int := match T.cells e y with
  | [.sc (.int .u8 n)] => n
  | _ => 0
def AllNum (T : Tys) (e : Nat) : Prop := ∀ y : T.Tb e, T.cells e y = [.sc (.int .u8 (numOf T e y))]
def stConv (σ : St T) (dst : Option Nat) (ts td : Nat) (x : Operand) : LOut T :=
  match T.ti ts with
  | some si => match T.ti td with
    | some di => match dstOk σ dst with
      | true => match di.kind with
        | .num k => match si.kind with
          | .num _ => match sv (evS σ x) with
            | some (.int _ n) => .done ⟨.c (.sc (.int k (k.wrap n))), [], [], 0, []⟩ none
            | _ => .stuck
          | _ => .stuck
        | .text => match si.kind with
          | .text => match sv (evS σ x) with
            | some (.string b) => .done ⟨.c (.sc (.string b)), [], [], 0, []⟩ none
            | _ => .stuck
          | .slice e => match T.ti e with
            | some ei => match ei.kind with
              | .num .u8 => match rdS σ (evS σ x) with
                | some ⟨p, e', l⟩ => match Nat.beq e' e with
                  | true => .done ⟨.c (.sc (.string (strOfNums (l.map (numOf T e'))))), [], pRefs p, 0, []⟩ (some (AllNum T e'))
                  | false => .stuck
                | none => .stuck
              | _ => .stuck
            | none => .stuck
          | _ => .stuck
        | _ => .stuck
      | false => .stuck
    | none => .stuck
  | none => .stuck
theorem exec_convert {ts td : Nat} {x : Operand} (ho : o.op = .convert ts td x) {v : Value} (h : (convert ts td (a.eval x)).run P w = .ok v w) : (execOp a.eval o).run P w = .ok (.value v) w := by
  unfold execOp; rw [ho]; simp only [Sem.run_bind, h]; rfl
theorem rd_string {e : Nat} {ei : TI} {P' : Nat → Prop} {l : List (T.Tb e)} {v : Value} {ts td : Nat} (hei : T.ti e = some ei) (hsz : ei.size = 1) (hn : AllNum T e) (hs : P.underlying ts = some (.slice e)) (he : P.underlying e = some (.int .u8)) (hd : P.underlying td = some .string) (h : Rd T.sz w P' (.sl e (l.map (T.enc e))) v) :
    (convert ts td v).run P w = .ok (.string (strOfNums (l.map (numOf T e)))) w := by
  generalize hx : l.map (T.enc e) = xs at h
  cases h with
  | nil e A c =>
    have : l = [] := by simpa using hx
    subst this
    have h0 : strOfNums ([] : List Int) = ByteArray.empty := rfl
    simp only [List.map_nil]
    rw [h0, run_convert_bytes_string w ts td e A 0 c hs he hd]
    cases A with
    | none => simp [Conv.bytesToString]
    | some ad => simpa using run_bytesToString (P := P) w ad 0 c [] (by simpa using run_loadCells_list (P := P) w ad [] (fun j v hj => by simp at hj))
  | sl e xs ad c f hc hp hlt hss hcell hr =>
    subst hx
    have hl : (loadCells ad l.length).run P w = .ok ((l.map (numOf T e)).map (Value.int .u8)).toArray w := by
      have := run_loadCells_list (P := P) w ad ((l.map (numOf T e)).map (Value.int .u8)) (fun j v hj => by
        simp only [List.map_map, List.getElem?_map] at hj
        obtain ⟨y, hy, hv⟩ := Option.map_eq_some_iff.1 hj
        have h1 : (l.map (T.enc e))[j]? = some (T.enc e y) := by simp [hy]
        have h2 : T.enc e y = [.sc (.int .u8 (numOf T e y))] := by rw [T.enc_eq, hn y]; rfl
        have h3 := hcell j _ 0 (.sc (.int .u8 (numOf T e y))) h1 (by rw [h2]; rfl)
        have h4 := hr j _ 0 (.sc (.int .u8 (numOf T e y))) h1 (by rw [h2]; rfl)
        have h5 : T.sz e = 1 := by rw [sz_of hei, hsz]
        rw [h5] at h3
        simp only [Nat.mul_one, Nat.add_zero] at h3
        rw [h3]
        generalize f j 0 = u at h4
        cases h4
        exact congrArg some hv)
      simpa using this
    rw [run_convert_bytes_string w ts td e _ _ c hs he hd, List.length_map, run_bytesToString w ad l.length c _ hl, foldl_push_bytes]
    simp [strOfNums, ByteArray.empty, ByteArray.emptyWithCapacity]
    rfl
theorem stConv_ok (hT : T.ok P) {ts td : Nat} {x : Operand} {U : Upd T} {ob : Option Prop} (ho : o.op = .convert ts td x) (h : stConv σ o.dst ts td x = .done U ob) (hob : obOk ob) : LStep P W0 o σ U := by
  unfold stConv at h
  cases hsi : T.ti ts with
  | none => rw [hsi] at h; cases h
  | some si =>
    rw [hsi] at h
    dsimp only at h
    cases hdi : T.ti td with
    | none => rw [hdi] at h; cases h
    | some di =>
      rw [hdi] at h
      dsimp only at h
      cases hd : dstOk σ o.dst <;> rw [hd] at h <;> dsimp only at h
      · cases h
      obtain ⟨sinf, s1, s2, s3, s4, s5, s6, s7, s8⟩ := hT ts si hsi
      obtain ⟨dinf, d1, d2, d3, d4, d5, d6, d7, d8⟩ := hT td di hdi
      split at h
      · rename_i k hk
        rw [hk] at d8
        split at h
        · rename_i k' hk'
          rw [hk'] at s8
          split at h
          · rename_i k'' n hn
            cases h
            refine quiet_step (dstOk_spec hd) (fun σ' a w env F hA hS => ⟨.int k (k.wrap n), exec_convert ho ?_, ⟨rfl, rfl⟩⟩)
            have e1 := sv_rel (ev_rel hS hA (x := x) (by simp [ho, Op.operands])) hn
            simp [convert, run_underlying s8.1, run_underlying d8.1, e1, Conv.intToInt]
          · cases h
        · cases h
      · rename_i hk
        rw [hk] at d8
        split at h
        · rename_i hk'
          rw [hk'] at s8
          split at h
          · rename_i b hn
            cases h
            refine quiet_step (dstOk_spec hd) (fun σ' a w env F hA hS => ⟨.string b, exec_convert ho ?_, ⟨rfl, rfl⟩⟩)
            have e1 := sv_rel (ev_rel hS hA (x := x) (by simp [ho, Op.operands])) hn
            simp [convert, run_underlying s8.1, run_underlying d8.1, e1]
          · cases h
        · rename_i e hk'
          rw [hk'] at s8
          cases hei : T.ti e with
          | none => rw [hei] at h; cases h
          | some ei =>
            rw [hei] at h
            dsimp only at h
            split at h
            · rename_i hek
              cases hr : rdS σ (evS σ x) with
              | none => rw [hr] at h; cases h
              | some pel =>
                obtain ⟨p, e', l⟩ := pel
                rw [hr] at h
                dsimp only at h
                cases hb : Nat.beq e' e <;> rw [hb] at h <;> cases h
                have hee := Nat.eq_of_beq_eq_true hb
                subst hee
                obtain ⟨einf, g1, g2, g3, g4, g5, g6, g7, g8⟩ := hT e' ei hei
                rw [hek] at g8
                refine quiet_step (dstOk_spec hd) (fun σ' a w env F hA hS => ⟨_, exec_convert ho ?_, ⟨rfl, rfl⟩⟩)
                have e1 := ev_rel hS hA (x := x) (by simp [ho, Op.operands])
                obtain ⟨h9, h10⟩ := rdS_rel hS hA e1 hr (fun _ h => h)
                exact rd_string hei g8.2 hob s8.1 g8.1 d8.1 h10
            · cases h
        · cases h
      · cases h
end
end Go.Proofs.Ytnflbiafmddpgaa.Z
