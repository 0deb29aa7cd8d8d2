/- Boxes that are written whole; slices.EqualFunc over what is kept; impl.SameRoot; the law FnExactSameRoot's walk: what each Go function answers is what the plain function answers. -/
import Derived.Laws.Cover1
import Derived.Test.YtggokdobijhdhaaDoorL5
import Derived.Test.YtggokdobijhdhaaDoorPx0
import Derived.Test.YtggokdobijhdhaaDoorPx30
import Derived.Test.YtggokdobijhdhaaDoorS
import Derived.Test.YtggokdobijhdhaaDoorL5
import Derived.Test.YtggokdobijhdhaaDoorS
namespace Go.Proofs.YtggokdobijhdhaaDoor.P
open Go.RowKit Go.Proofs.YtggokdobijhdhaaDoor.X Go.Proofs.YtggokdobijhdhaaDoorW.PrintWords Go.Proofs.YtggokdobijhdhaaDoorW.PrintLast Go.Proofs.YtggokdobijhdhaaDoorW.PrintMore
set_option linter.unusedVariables false
set_option linter.unusedSimpArgs false
/-- slices.EqualFunc over what is kept, by impl.sameKept. -/
def keptEq : List S77 → List S77 → Option Bool
  | x :: r, y :: q => (impl_sameKept.f x.f0 x.f1 x.f2 y.f0 y.f1 y.f2).bind fun b => if b = true then keptEq r q else some false
  | _, _ => some true
def slices_EqualFunc.f (l0 l1 : List S77) : Option Bool := if l0.length = l1.length then keptEq l0 l1 else some false
set_option maxHeartbeats 8000000 in
set_option maxRecDepth 100000 in
theorem slices_EqualFunc.calls (A0 : Option Addr) (c0 : Nat) (l0 : List S77) (A1 : Option Addr) (c1 : Nat) (l1 : List S77) (r : Bool) (w : World) (hr0 : Kd.C k77 w A0 l0.length l0) (hc0 : l0.length ≤ c0) (hr1 : Kd.C k77 w A1 l1.length l1) (hc1 : l1.length ≤ c1) (h : slices_EqualFunc.f l0 l1 = some r) :
    Calls Tryd.prog 49 #[.slice A0 l0.length c0, .slice A1 l1.length c1, .func (.func 50) #[] #[]] w fun e w' => e = .returned (.bool r) ∧ Below w.heap.size w w' := by
  have hu1 := Tryd.underlying77
  have hm : l0.length ≤ 9223372036854775807 := Kd.C_max hr0
  have HR0 := Aside0.mk hr0
  have HR1 := Aside0.mk hr1
  have HM := Aside0.mk hm
  clear hr0 hr1 hm
  unfold slices_EqualFunc.f at h
  by_cases c1_ : l0.length = l1.length
  · rw [if_pos c1_] at h
    have c1b : ((l0.length : Int) != (l1.length : Int)) = false := by rw [c1_]; simp
    have H0 := Aside0.mk h
    have HE := Aside0.mk c1_
    clear h c1_
    go_enter Tryd.func49, Tryd.ntmps49
    go_wp2
    go_loopg [7, 8, 9, 17] l0.length (fun gg v7 v8 v9 v17 wr => ∃ i : Nat, v17 = .int .i64 i ∧ l0.length - i ≤ gg ∧ Aside0 (i ≤ l0.length) ∧ Aside0 (keptEq (l0.drop i) (l1.drop i) = some r) ∧ Aside0 (Below w.heap.size w wr))
    case atStart => exact ⟨0, rfl, by omega, ⟨Nat.zero_le _⟩, H0, ⟨Below.refl _ _⟩⟩
    case round =>
      clear H0
      obtain ⟨i, rfl, hg, HI, HA, HB⟩ := hrel
      by_cases hlt : i < l0.length
      · have hlt1 : i < l1.length := by have := HE.out; omega
        have hz : (i : Int) < (l0.length : Int) := by omega
        have hzb : decide ((i : Int) < (l0.length : Int)) = true := decide_eq_true hz
        have hz1 : (i : Int) < (l1.length : Int) := by omega
        have hz0 : (0 : Int) ≤ (i : Int) := by omega
        have hA := HA.out
        rw [List.drop_eq_getElem_cons hlt, List.drop_eq_getElem_cons hlt1, keptEq] at hA
        obtain ⟨b, hb, hA2⟩ := Option.bind_eq_some_iff.mp hA
        clear hA
        obtain ⟨ad0, Aa, ca, e0, hx0, hx1, hx2, hl1, hi1⟩ := at_T77 (Kd.C_below HR0.out HB.out) (i : Int) hz0 hz
        obtain ⟨ad1, Ab, cb, e1, hy0, hy1, hy2, hl2, hi2⟩ := at_T77 (Kd.C_below HR1.out HB.out) (i : Int) hz0 hz1
        have ex : rd_T77 l0 (i : Int) = l0[i] := by simp [rd_T77, hlt]
        have ey : rd_T77 l1 (i : Int) = l1[i] := by simp [rd_T77, hlt1]
        rw [ex] at hx0 hx1 hx2 hl1 hi1
        rw [ey] at hy0 hy1 hy2 hl2 hi2
        generalize l0[i] = x at hx0 hx1 hx2 hl1 hi1 hb
        generalize l1[i] = y at hy0 hy1 hy2 hl2 hi2 hb
        subst e0
        subst e1
        simp only [Int.toNat_natCast] at hx0 hx1 hx2 hy0 hy1 hy2
        have HX := Aside0.mk hi1
        have HY := Aside0.mk hi2
        have LX := Aside0.mk hl1
        have LY := Aside0.mk hl2
        have HS := Aside0.mk hb
        have HT2 := Aside0.mk hA2
        have HLT := Aside0.mk hlt
        clear hi1 hi2 hl1 hl2 hb hA2 ex ey hlt hlt1
        cases b with
        | true =>
          go_wp2_with (first | ((with_reducible refine gate_dst (N := 8) rfl ?_); refine box_event ?hg (N := 8) ?hd (cs := #[.string (⟨#[]⟩ : ByteArray), .slice none 0 0, .int .i64 0]) (t := 77) ?hr ?_; (case hd => rfl); (case hg => rfl); (case hr => first | (go_simp; done) | (go_simp; rfl)); intro g8 hg w8 hx hb; have GR := Aside0.mk hb; have B8 := Aside0.mk hx; have G8 := Aside0.mk (Nat.le_of_eq hg.symm); clear hx hb hg) | ((with_reducible refine gate_store (t := 77) (p := 8) rfl ?_); refine box_store rfl rfl _ _ _ rfl [.string x.f0, .slice Aa x.f1.length ca, .int .i64 x.f2] ?ha ?hx (by kernel_rfl) ?h1 (by simp [Value.cells]) B8.out rfl ?_; (case ha => rfl); (case hx => rfl); (case h1 => (intro q hq; simp only [List.mem_cons, List.not_mem_nil, or_false] at hq; rcases hq with rfl | rfl | rfl <;> rfl)); intro w9 hs hg; replace B8 := Aside0.mk hs; replace GR := Aside0.mk (below_far GR.out hg G8.out); replace hy0 := cl_ GR hy0; replace hy1 := cl_ GR hy1; replace hy2 := cl_ GR hy2; clear hs hg) | ((with_reducible refine gate_dst (N := 9) rfl ?_); refine box_event ?hg (N := 9) ?hd (cs := #[.string (⟨#[]⟩ : ByteArray), .slice none 0 0, .int .i64 0]) (t := 77) ?hr ?_; (case hd => rfl); (case hg => rfl); (case hr => first | (go_simp; done) | (go_simp; rfl)); intro g9 hg w10 hx hb; have G9 := Aside0.mk (Nat.le_trans GR.out.size (Nat.le_of_eq hg.symm)); have N9 := Aside0.mk (fun e => by have := blk_lt B8.out; have := hg; omega : g8 ≠ g9); replace B8 := Aside0.mk (blk_below B8.out hb); replace GR := Aside0.mk (below_step GR.out hb); have B9 := Aside0.mk hx; clear hx hb hg) | ((with_reducible refine gate_store (t := 77) (p := 9) rfl ?_); refine box_store rfl rfl _ _ _ rfl [.string y.f0, .slice Ab y.f1.length cb, .int .i64 y.f2] ?ha ?hx (by kernel_rfl) ?h1 (by simp [Value.cells]) B9.out rfl ?_; (case ha => rfl); (case hx => rfl); (case h1 => (intro q hq; simp only [List.mem_cons, List.not_mem_nil, or_false] at hq; rcases hq with rfl | rfl | rfl <;> rfl)); intro w11 hs hg; replace B8 := Aside0.mk (blk_grown B8.out hg (fun e => N9.out (by injection e))); replace B9 := Aside0.mk hs; replace GR := Aside0.mk (below_far GR.out hg G9.out); have h80 := bc_ B8 0; have h81 := bc_ B8 1; have h82 := bc_ B8 2; have h90 := bc_ B9 0; have h91 := bc_ B9 1; have h92 := bc_ B9 2; clear hs hg) | (go_at_call 50; refine (impl_sameKept.calls x.f0 _ _ x.f1 x.f2 y.f0 _ _ y.f1 y.f2 true _ ?s1 ?s2 ?s3 ?s4 HS.out).mono ?_; (case s1 => exact Kd.C_below HX.out GR.out); (case s2 => exact LX.out); (case s3 => exact Kd.C_below HY.out GR.out); (case s4 => exact LY.out); rintro e w12 ⟨rfl, hb⟩; replace GR := Aside0.mk (below_step GR.out hb); clear hb h80 h81 h82 h90 h91 h92))
          go_roundg (l0.length - (i + 1))
          case measure => have := HLT.out; omega
          case rel =>
            have h2 : keptEq (l0.drop (i + 1)) (l1.drop (i + 1)) = some r := by simpa using HT2.out
            exact ⟨i + 1, by (have := HM.out; have := HLT.out; congr 1; unfold wrap64; omega), by omega, ⟨HLT.out⟩, ⟨h2⟩, ⟨below_step HB.out GR.out⟩⟩
        | false =>
          have h2 : some false = some r := by simpa using HT2.out
          obtain rfl := Option.some.inj h2
          clear h2 HT2
          go_wp2_with (first | ((with_reducible refine gate_dst (N := 8) rfl ?_); refine box_event ?hg (N := 8) ?hd (cs := #[.string (⟨#[]⟩ : ByteArray), .slice none 0 0, .int .i64 0]) (t := 77) ?hr ?_; (case hd => rfl); (case hg => rfl); (case hr => first | (go_simp; done) | (go_simp; rfl)); intro g8 hg w8 hx hb; have GR := Aside0.mk hb; have B8 := Aside0.mk hx; have G8 := Aside0.mk (Nat.le_of_eq hg.symm); clear hx hb hg) | ((with_reducible refine gate_store (t := 77) (p := 8) rfl ?_); refine box_store rfl rfl _ _ _ rfl [.string x.f0, .slice Aa x.f1.length ca, .int .i64 x.f2] ?ha ?hx (by kernel_rfl) ?h1 (by simp [Value.cells]) B8.out rfl ?_; (case ha => rfl); (case hx => rfl); (case h1 => (intro q hq; simp only [List.mem_cons, List.not_mem_nil, or_false] at hq; rcases hq with rfl | rfl | rfl <;> rfl)); intro w9 hs hg; replace B8 := Aside0.mk hs; replace GR := Aside0.mk (below_far GR.out hg G8.out); replace hy0 := cl_ GR hy0; replace hy1 := cl_ GR hy1; replace hy2 := cl_ GR hy2; clear hs hg) | ((with_reducible refine gate_dst (N := 9) rfl ?_); refine box_event ?hg (N := 9) ?hd (cs := #[.string (⟨#[]⟩ : ByteArray), .slice none 0 0, .int .i64 0]) (t := 77) ?hr ?_; (case hd => rfl); (case hg => rfl); (case hr => first | (go_simp; done) | (go_simp; rfl)); intro g9 hg w10 hx hb; have G9 := Aside0.mk (Nat.le_trans GR.out.size (Nat.le_of_eq hg.symm)); have N9 := Aside0.mk (fun e => by have := blk_lt B8.out; have := hg; omega : g8 ≠ g9); replace B8 := Aside0.mk (blk_below B8.out hb); replace GR := Aside0.mk (below_step GR.out hb); have B9 := Aside0.mk hx; clear hx hb hg) | ((with_reducible refine gate_store (t := 77) (p := 9) rfl ?_); refine box_store rfl rfl _ _ _ rfl [.string y.f0, .slice Ab y.f1.length cb, .int .i64 y.f2] ?ha ?hx (by kernel_rfl) ?h1 (by simp [Value.cells]) B9.out rfl ?_; (case ha => rfl); (case hx => rfl); (case h1 => (intro q hq; simp only [List.mem_cons, List.not_mem_nil, or_false] at hq; rcases hq with rfl | rfl | rfl <;> rfl)); intro w11 hs hg; replace B8 := Aside0.mk (blk_grown B8.out hg (fun e => N9.out (by injection e))); replace B9 := Aside0.mk hs; replace GR := Aside0.mk (below_far GR.out hg G9.out); have h80 := bc_ B8 0; have h81 := bc_ B8 1; have h82 := bc_ B8 2; have h90 := bc_ B9 0; have h91 := bc_ B9 1; have h92 := bc_ B9 2; clear hs hg) | (go_at_call 50; refine (impl_sameKept.calls x.f0 _ _ x.f1 x.f2 y.f0 _ _ y.f1 y.f2 false _ ?s1 ?s2 ?s3 ?s4 HS.out).mono ?_; (case s1 => exact Kd.C_below HX.out GR.out); (case s2 => exact LX.out); (case s3 => exact Kd.C_below HY.out GR.out); (case s4 => exact LY.out); rintro e w12 ⟨rfl, hb⟩; replace GR := Aside0.mk (below_step GR.out hb); clear hb h80 h81 h82 h90 h91 h92))
          go_ret
          exact ⟨by first | rfl | (simp; done), below_step HB.out GR.out⟩
      · have hzb : decide ((i : Int) < (l0.length : Int)) = false := decide_eq_false (by omega)
        have hzc : decide (i < l0.length) = false := decide_eq_false (by omega)
        have hA := HA.out
        rw [List.drop_of_length_le (by omega), keptEq] at hA
        · obtain rfl := Option.some.inj hA
          clear hA hlt HA
          go_wp2
          go_ret
          exact ⟨by first | rfl | (simp; done), HB.out⟩
        · intro x r y q e
          cases e
  · rw [if_neg c1_] at h
    obtain rfl := Option.some.inj h
    have c1b : ((l0.length : Int) != (l1.length : Int)) = true := by (rw [bne_iff_ne]; omega)
    clear h c1_
    go_enter Tryd.func49, Tryd.ntmps49
    go_wp2
    go_ret
    exact ⟨by first | rfl | (simp; done), Below.refl _ _⟩
end Go.Proofs.YtggokdobijhdhaaDoor.P
