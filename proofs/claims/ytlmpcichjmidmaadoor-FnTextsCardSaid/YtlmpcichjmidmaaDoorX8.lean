/- Contracts of functions that the print does not take for a conversion of a text to bytes: spec.CountRunes, impl.PutText. Conditions: the tables as laid (Tabs) where TextOk is asked; each function's own '.f' is 'none' where its contract says nothing. -/
import Derived.Test.YtlmpcichjmidmaaDoorProg
import Derived.Test.YtlmpcichjmidmaaDoorPx0
import Derived.Test.YtlmpcichjmidmaaDoorPx7
import Derived.Test.YtlmpcichjmidmaaDoorX1
import Derived.Test.YtlmpcichjmidmaaDoorX5
import Derived.Test.YtlmpcichjmidmaaDoorX70
import Derived.Lib.ConvBytes
import Derived.Laws.AppendOwn
import Derived.Deep.LoopGhost
import Derived.Deep.DeepMust
namespace Go.Proofs.YtlmpcichjmidmaaDoor.X
open Go.RowKit Go.Proofs.YtlmpcichjmidmaaDoor.P Go.Proofs.YtlmpcichjmidmaaDoorW.PrintWords Go.Proofs.YtlmpcichjmidmaaDoorW.PrintLast Go.Proofs.YtlmpcichjmidmaaDoorW.PrintMore
set_option linter.unusedVariables false
set_option linter.unusedSimpArgs false
def impl_PutText.f (k : Nat) (l0 : List Int) (a1 : ByteArray) : Option (List Int) := (impl_TextOk.f a1).bind fun t => if t = true then ((impl_PutWord.f k l0 (a1.size : Int)).bind fun t2 => impl_joined.f k [t2, bytesOf a1]) else impl_joined.f k [l0]
theorem impl_PutText.mono : ∀ l0 a1 k, LeO (impl_PutText.f k l0 a1) (impl_PutText.f (k + 1) l0 a1) := by
  intro l0 a1 k
  unfold impl_PutText.f
  exact LeO.bind (LeO.refl _) (fun t => LeO.ite (LeO.bind (impl_PutWord.mono _ _ k) (fun t2 => impl_joined.mono _ k)) (impl_joined.mono _ k))
theorem cell_new (W : World) (cs : Array Value) (e : TypeId) (j : Nat) : (W.alloc (.cells cs e)).cell? ⟨W.heap.size, j, none⟩ = cs[j]? := by
  unfold World.cell?
  simp only [heap_alloc_new]
  rfl
/-- A row of one, of two slices that read. -/
theorem rows1 {W : World} {e : TypeId} {A : Option Addr} {c : Nat} {l : List Int} (h : Kd.C (Kd.int .u8) W A l.length l) (hc : l.length ≤ c) :
    Kd.C (Kd.slice 5 (Kd.int .u8)) (W.alloc (.cells #[.slice A l.length c] e)) (some ⟨W.heap.size, 0, none⟩) 1 [l] := by
  refine ⟨rfl, by omega, fun _ => ⟨_, rfl, fun j p hp => ?_⟩⟩
  have hj : j = 0 := by
    have := (List.getElem?_eq_some_iff.1 hp).1
    simp at this
    omega
  subst hj
  simp only [List.getElem?_cons_zero, Option.some.injEq] at hp
  subst hp
  refine ⟨[.slice A l.length c], rfl, ⟨A, c, rfl, hc, Kd.C_below h ((Below.refl _ _).alloc (Nat.le_refl _) _)⟩, fun i u hu => ?_⟩
  have hi : i = 0 := by
    have := (List.getElem?_eq_some_iff.1 hu).1
    simp at this
    omega
  subst hi
  simp only [List.getElem?_cons_zero, Option.some.injEq] at hu
  subst hu
  have hz : (⟨W.heap.size, 0, none⟩ : Addr).add (0 * (Kd.slice 5 (Kd.int .u8)).sz + 0) = ⟨W.heap.size, 0, none⟩ := by rw [Nat.zero_mul]; rfl
  rw [hz, cell_new]
  rfl
theorem rows2 {W : World} {e : TypeId} {A B : Option Addr} {c d : Nat} {l m : List Int} (h : Kd.C (Kd.int .u8) W A l.length l) (hc : l.length ≤ c) (h' : Kd.C (Kd.int .u8) W B m.length m) (hd : m.length ≤ d) :
    Kd.C (Kd.slice 5 (Kd.int .u8)) (W.alloc (.cells #[.slice A l.length c, .slice B m.length d] e)) (some ⟨W.heap.size, 0, none⟩) 2 [l, m] := by
  have hb : Below W.heap.size W (W.alloc (.cells #[.slice A l.length c, .slice B m.length d] e)) := (Below.refl _ _).alloc (Nat.le_refl _) _
  refine ⟨rfl, by omega, fun _ => ⟨_, rfl, fun j p hp => ?_⟩⟩
  have hj := (List.getElem?_eq_some_iff.1 hp).1
  simp only [List.length_cons, List.length_nil] at hj
  have hs : (Kd.slice 5 (Kd.int .u8)).sz = 1 := rfl
  have one : ∀ (v : Value) (i : Nat) (u : Value), [v][i]? = some u → i = 0 ∧ u = v := by
    intro v i u hu
    have := (List.getElem?_eq_some_iff.1 hu).1
    have hi : i = 0 := by simp at this; omega
    subst hi
    simp at hu
    exact ⟨rfl, hu.symm⟩
  match j, hj with
  | 0, _ =>
    simp only [List.getElem?_cons_zero, Option.some.injEq] at hp
    subst hp
    refine ⟨[.slice A l.length c], rfl, ⟨A, c, rfl, hc, Kd.C_below h hb⟩, fun i u hu => ?_⟩
    obtain ⟨rfl, rfl⟩ := one _ _ _ hu
    rw [hs, add_plain, cell_new]
    rfl
  | 1, _ =>
    simp only [List.getElem?_cons_succ, List.getElem?_cons_zero, Option.some.injEq] at hp
    subst hp
    refine ⟨[.slice B m.length d], rfl, ⟨B, d, rfl, hd, Kd.C_below h' hb⟩, fun i u hu => ?_⟩
    obtain ⟨rfl, rfl⟩ := one _ _ _ hu
    rw [hs, add_plain, cell_new]
    rfl
set_option maxHeartbeats 4000000 in
set_option maxRecDepth 1000000 in
theorem impl_PutText.calls (k : Nat) (A0 : Option Addr) (c0 : Nat) (l0 : List Int) (a1 : ByteArray) (r : List Int) (w : World) (hr0 : Kd.C (Kd.int .u8) w A0 l0.length l0) (hc0 : l0.length ≤ c0) (hT : Tabs w) (h : impl_PutText.f k l0 a1 = some r) :
    Calls Tryd.prog 21 #[.slice A0 l0.length c0, .string a1] w fun e w' => ∃ v0_ : Value, e = .returned (v0_) ∧ Kd.R (Kd.int .u8) 5 w' w.heap.size (fun _ => True) v0_ r ∧ Below w.heap.size w w' := by
  unfold impl_PutText.f at h
  obtain ⟨t, ht, h⟩ := Option.bind_eq_some_iff.mp h
  have KT := Aside0.mk (impl_TextOk.calls a1 t w hT ht)
  clear hT
  cases t with
  | false =>
    simp only [Bool.false_eq_true, if_false] at h
    have HR := Aside0.mk hr0
    have HC := Aside0.mk hc0
    have H := Aside0.mk h
    clear h ht hr0 hc0
    go_enter Tryd.func21, Tryd.ntmps21
    go_wp2_with (go_at_call 13; refine KT.out.mono ?_; rintro e w1 ⟨rfl, hb⟩; have HB := Aside0.mk hb; clear hb)
    refine (impl_joined.calls k _ 1 [l0] r _ (rows1 (Kd.C_below HR.out HB.out) HC.out) (Nat.le_refl _) H.out).mono ?_
    rintro e w2 ⟨v, rfl, hR, hb2⟩
    have HB2 := Aside0.mk hb2
    have HR2 := Aside0.mk hR
    clear hb2 hR
    go_wp2
    go_ret
    have hb3 := (HB.out.alloc HB.out.size (.cells #[.slice A0 l0.length c0] 23))
    refine ⟨_, rfl, Kd.R_lower HR2.out (below_size hb3), below_step hb3 HB2.out⟩
  | true =>
    simp only [if_true] at h
    have hs : a1.size < 9223372036854775807 := by
      unfold impl_TextOk.f at ht
      by_cases q : a1.size < 9223372036854775807
      · exact q
      · rw [if_neg q] at ht
        cases ht
    obtain ⟨t2, hA, h⟩ := Option.bind_eq_some_iff.mp h
    have hF : Kd.F (Kd.int .u8) w (fun _ => True) A0 l0.length l0 := fun W' hW => Kd.Heap.C (Kd.heap_int .u8) (fun k hk => hW k trivial hk) hr0
    have HF := Aside0.mk hF
    have HC0 := Aside0.mk hc0
    have HA := Aside0.mk hA
    have HS := Aside0.mk hs
    have H := Aside0.mk h
    have hcv := fun W : World => Lib.run_convert_string_bytes (P := Tryd.prog) W 9 23 5 a1 Tryd.underlying9 Tryd.underlying23 Tryd.underlying5
    clear h ht hr0 hc0 hA hF hs
    go_enter Tryd.func21, Tryd.ntmps21
    go_wp2_with (go_at_call 13; refine KT.out.mono ?_; rintro e w1 ⟨rfl, hb⟩; have HB := Aside0.mk hb; clear hb)
    refine (impl_PutWord.calls k (fun _ => True) A0 c0 l0 (a1.size : Int) t2 _ (Kd.V_mk HC0.out (Kd.F_below HF.out HB.out)) HA.out).mono ?_
    rintro e w2 ⟨v2, rfl, hR2, hb2⟩
    obtain ⟨A2, c2, rfl, hl2, hC2⟩ := Kd.R_reads hR2
    have HB2 := Aside0.mk (below_step HB.out hb2)
    have HC2 := Aside0.mk hC2
    have HL2 := Aside0.mk hl2
    clear hb2 hR2 hC2 hl2
    go_wp2_with fail
    have hb3 := bytes_below w2 5 a1
    have hq := rows2 (e := 23) (Kd.C_below HC2.out hb3) HL2.out (bytes_readsC w2 5 a1 (by have := HS.out; omega)) (by rw [bytesOf_length]; exact grown_room w2 a1.size 5)
    rw [bytesOf_length] at hq
    refine (impl_joined.calls k _ 2 [t2, bytesOf a1] r _ hq (Nat.le_refl _) H.out).mono ?_
    rintro e w3 ⟨v, rfl, hR, hb4⟩
    have HB4 := Aside0.mk hb4
    have HR4 := Aside0.mk hR
    have HB3 := Aside0.mk (below_step HB2.out hb3)
    clear hb4 hR hq hb3
    go_wp2
    go_ret
    have hb5 := HB3.out.alloc HB3.out.size (.cells #[.slice A2 t2.length c2, .slice (some ⟨w2.heap.size, 0, none⟩) a1.size (grownCap w2 a1.size 0 5)] 23)
    exact ⟨_, rfl, Kd.R_lower HR4.out (below_size hb5), below_step hb5 HB4.out⟩
end Go.Proofs.YtlmpcichjmidmaaDoor.X
