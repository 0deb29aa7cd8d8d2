/- Boxes that are written whole; slices.EqualFunc over what is kept; impl.SameRoot; the law FnExactSameRoot's walk: what each Go function answers is what the plain function answers. -/
import Derived.Laws.Cover1
import Derived.Test.YtggokdobijhdhaaDoorL5
import Derived.Test.YtggokdobijhdhaaDoorL6
import Derived.Test.YtggokdobijhdhaaDoorPx0
import Derived.Test.YtggokdobijhdhaaDoorPx22
import Derived.Test.YtggokdobijhdhaaDoorPx30
import Derived.Test.YtggokdobijhdhaaDoorS
import Derived.Test.YtggokdobijhdhaaDoorX1
import Derived.Test.YtggokdobijhdhaaDoorL5
import Derived.Test.YtggokdobijhdhaaDoorL6
import Derived.Test.YtggokdobijhdhaaDoorS
import Derived.Test.YtggokdobijhdhaaDoorX1
namespace Go.Proofs.YtggokdobijhdhaaDoor.P
open Go.RowKit Go.Proofs.YtggokdobijhdhaaDoor.X Go.Proofs.YtggokdobijhdhaaDoorW.PrintWords Go.Proofs.YtggokdobijhdhaaDoorW.PrintLast Go.Proofs.YtggokdobijhdhaaDoorW.PrintMore
set_option linter.unusedVariables false
set_option linter.unusedSimpArgs false
def impl_SameRoot.f (k : Nat) (v0 : Int) (ns0 : List ByteArray) (ks0 : List S33) (ss0 : List S86) (kp0 : List S77) (v1 : Int) (ns1 : List ByteArray) (ks1 : List S33) (ss1 : List S86) (kp1 : List S77) : Option Bool :=
  if v0 = v1 then ((impl_Entries.f k ns0 ks0 ss0).bind fun e0 => (impl_Entries.f k ns1 ks1 ss1).bind fun e1 => (impl_Entry.f k e0 e1).bind fun b => if b = true then slices_EqualFunc.f kp0 kp1 else some false) else some false
set_option maxHeartbeats 8000000 in
set_option maxRecDepth 100000 in
theorem impl_SameRoot.calls (k : Nat) (v0 : Int) (A01 : Option Addr) (c01 : Nat) (ns0 : List ByteArray) (A02 : Option Addr) (c02 : Nat) (ks0 : List S33) (A03 : Option Addr) (c03 : Nat) (ss0 : List S86) (A04 : Option Addr) (c04 : Nat) (kp0 : List S77) (v1 : Int) (A11 : Option Addr) (c11 : Nat) (ns1 : List ByteArray) (A12 : Option Addr) (c12 : Nat) (ks1 : List S33) (A13 : Option Addr) (c13 : Nat) (ss1 : List S86) (A14 : Option Addr) (c14 : Nat) (kp1 : List S77) (r : Bool) (w : World) (hr01 : Kd.C Kd.string w A01 ns0.length ns0) (hc01 : ns0.length ≤ c01) (hr02 : Kd.C k33 w A02 ks0.length ks0) (hc02 : ks0.length ≤ c02) (hr03 : Kd.C k86 w A03 ss0.length ss0) (hc03 : ss0.length ≤ c03) (hr04 : Kd.C k77 w A04 kp0.length kp0) (hc04 : kp0.length ≤ c04) (hr11 : Kd.C Kd.string w A11 ns1.length ns1) (hc11 : ns1.length ≤ c11) (hr12 : Kd.C k33 w A12 ks1.length ks1) (hc12 : ks1.length ≤ c12) (hr13 : Kd.C k86 w A13 ss1.length ss1) (hc13 : ss1.length ≤ c13) (hr14 : Kd.C k77 w A14 kp1.length kp1) (hc14 : kp1.length ≤ c14) (hT : Tabs w) (h : impl_SameRoot.f k v0 ns0 ks0 ss0 kp0 v1 ns1 ks1 ss1 kp1 = some r) :
    Calls Tryd.prog 21 #[.agg #[.int .i64 v0, .slice A01 ns0.length c01, .slice A02 ks0.length c02, .slice A03 ss0.length c03, .slice A04 kp0.length c04], .agg #[.int .i64 v1, .slice A11 ns1.length c11, .slice A12 ks1.length c12, .slice A13 ss1.length c13, .slice A14 kp1.length c14]] w fun e w' => e = .returned (.bool r) ∧ Below w.heap.size w w' := by
  have hu1 := Tryd.underlying47
  have hu2 := Tryd.underlying33
  have HR01 := Aside0.mk hr01
  have HC01 := Aside0.mk hc01
  have HR02 := Aside0.mk hr02
  have HC02 := Aside0.mk hc02
  have HR03 := Aside0.mk hr03
  have HC03 := Aside0.mk hc03
  have HR04 := Aside0.mk hr04
  have HC04 := Aside0.mk hc04
  have HR11 := Aside0.mk hr11
  have HC11 := Aside0.mk hc11
  have HR12 := Aside0.mk hr12
  have HC12 := Aside0.mk hc12
  have HR13 := Aside0.mk hr13
  have HC13 := Aside0.mk hc13
  have HR14 := Aside0.mk hr14
  have HC14 := Aside0.mk hc14
  have HT := Aside0.mk hT
  have HB := Aside0.mk (Below.refl w.heap.size w)
  clear hr01 hc01 hr02 hc02 hr03 hc03 hr04 hc04 hr11 hc11 hr12 hc12 hr13 hc13 hr14 hc14 hT
  unfold impl_SameRoot.f at h
  by_cases c1 : v0 = v1
  rotate_left
  · rw [if_neg c1] at h
    obtain rfl := Option.some.inj h
    have c1b : (v0 == v1) = false := beq_eq_false_iff_ne.2 c1
    have c1c : decide (v0 = v1) = false := decide_eq_false c1
    clear c1 h
    go_enter Tryd.func21, Tryd.ntmps21
    go_upto_region 1 with (first | ((with_reducible refine gate_dst (N := 2) rfl ?_); refine box_event ?hg (N := 2) ?hd (cs := #[.int .i64 v0, .slice A01 ns0.length c01, .slice A02 ks0.length c02, .slice A03 ss0.length c03, .slice A04 kp0.length c04]) (t := 47) ?hr ?_; (case hd => rfl); (case hg => rfl); (case hr => first | (go_simp; done) | (go_simp; rfl)); intro ga hg w1 hx hb; have BA := Aside0.mk hx; replace HB := bw_ hb; clear hx hb hg) | ((with_reducible refine gate_dst (N := 3) rfl ?_); refine box_event ?hg (N := 3) ?hd (cs := #[.int .i64 v1, .slice A11 ns1.length c11, .slice A12 ks1.length c12, .slice A13 ss1.length c13, .slice A14 kp1.length c14]) (t := 47) ?hr ?_; (case hd => rfl); (case hg => rfl); (case hr => first | (go_simp; done) | (go_simp; rfl)); intro gb hg w2 hx hb; replace BA := kb_ BA hb; have BB := Aside0.mk hx; replace HB := bw_ hb; clear hx hb hg))
    replace HB := Aside0.mk (below_drew1 HB.out)
    replace BA := Aside0.mk (blk_drew BA.out)
    replace BB := Aside0.mk (blk_drew BB.out)
    refine qs_ (S := fun w' => w'.cell? ⟨ga, 0, none⟩ = some (.int .i64 v0) ∧ w'.cell? ⟨ga, 1, none⟩ = some (.slice A01 ns0.length c01) ∧ w'.cell? ⟨ga, 2, none⟩ = some (.slice A02 ks0.length c02) ∧ w'.cell? ⟨ga, 3, none⟩ = some (.slice A03 ss0.length c03) ∧ w'.cell? ⟨ga, 4, none⟩ = some (.slice A04 kp0.length c04) ∧ w'.cell? ⟨gb, 0, none⟩ = some (.int .i64 v1) ∧ w'.cell? ⟨gb, 1, none⟩ = some (.slice A11 ns1.length c11) ∧ w'.cell? ⟨gb, 2, none⟩ = some (.slice A12 ks1.length c12) ∧ w'.cell? ⟨gb, 3, none⟩ = some (.slice A13 ss1.length c13) ∧ w'.cell? ⟨gb, 4, none⟩ = some (.slice A14 kp1.length c14)) ⟨bc_ BA 0, bc_ BA 1, bc_ BA 2, bc_ BA 3, bc_ BA 4, bc_ BB 0, bc_ BB 1, bc_ BB 2, bc_ BB 3, bc_ BB 4⟩ (fun hHeld => ?_)
    generalize World.drew _ = wd at HB BA BB hHeld ⊢
    refine qp_ 0 ?_
    refine qp_ 2 ?_
    refine qt_ hHeld 1 ?_
    refine qt_ hHeld 3 ?_
    refine qp_ 4 ?_
    refine qp_ 5 ?_
    refine qu_ 6 ?_
    refine qu_ 7 ?_
    refine qu_ 8 ?_
    refine qu_ 9 ?_
    refine qu_ 10 ?_
    refine qu_ 11 ?_
    refine qu_ 12 ?_
    refine qp_ 13 ?_
    refine qp_ 14 ?_
    refine qu_ 15 ?_
    refine qu_ 16 ?_
    refine qu_ 17 ?_
    refine qu_ 18 ?_
    refine qu_ 19 ?_
    refine qp_ 20 ?_
    refine qp_ 21 ?_
    refine done_ (by kernel_rfl) ?_
    go_wp2
    go_ret
    exact ⟨by first | rfl | (simp; done), HB.out⟩
  rw [if_pos c1] at h
  have c1b : (v0 == v1) = true := beq_iff_eq.2 c1
  have c1c : decide (v0 = v1) = true := decide_eq_true c1
  clear c1
  obtain ⟨e0, A1_, h1⟩ := Option.bind_eq_some_iff.mp h
  obtain ⟨e1, A2_, h2⟩ := Option.bind_eq_some_iff.mp h1
  obtain ⟨b, A3_, h3⟩ := Option.bind_eq_some_iff.mp h2
  have A1 := Aside0.mk A1_
  have A2 := Aside0.mk A2_
  have A3 := Aside0.mk A3_
  have H4_ := Aside0.mk h3
  clear h h1 h2 h3 A1_ A2_ A3_
  cases b with
  | false =>
    have h4 : some false = some r := by simpa using H4_.out
    obtain rfl := Option.some.inj h4
    clear h4 H4_
    go_enter Tryd.func21, Tryd.ntmps21
    go_upto_region 1 with (first | ((with_reducible refine gate_dst (N := 2) rfl ?_); refine box_event ?hg (N := 2) ?hd (cs := #[.int .i64 v0, .slice A01 ns0.length c01, .slice A02 ks0.length c02, .slice A03 ss0.length c03, .slice A04 kp0.length c04]) (t := 47) ?hr ?_; (case hd => rfl); (case hg => rfl); (case hr => first | (go_simp; done) | (go_simp; rfl)); intro ga hg w1 hx hb; have BA := Aside0.mk hx; replace HB := bw_ hb; clear hx hb hg) | ((with_reducible refine gate_dst (N := 3) rfl ?_); refine box_event ?hg (N := 3) ?hd (cs := #[.int .i64 v1, .slice A11 ns1.length c11, .slice A12 ks1.length c12, .slice A13 ss1.length c13, .slice A14 kp1.length c14]) (t := 47) ?hr ?_; (case hd => rfl); (case hg => rfl); (case hr => first | (go_simp; done) | (go_simp; rfl)); intro gb hg w2 hx hb; replace BA := kb_ BA hb; have BB := Aside0.mk hx; replace HB := bw_ hb; clear hx hb hg))
    replace HB := Aside0.mk (below_drew1 HB.out)
    replace BA := Aside0.mk (blk_drew BA.out)
    replace BB := Aside0.mk (blk_drew BB.out)
    refine qs_ (S := fun w' => w'.cell? ⟨ga, 0, none⟩ = some (.int .i64 v0) ∧ w'.cell? ⟨ga, 1, none⟩ = some (.slice A01 ns0.length c01) ∧ w'.cell? ⟨ga, 2, none⟩ = some (.slice A02 ks0.length c02) ∧ w'.cell? ⟨ga, 3, none⟩ = some (.slice A03 ss0.length c03) ∧ w'.cell? ⟨ga, 4, none⟩ = some (.slice A04 kp0.length c04) ∧ w'.cell? ⟨gb, 0, none⟩ = some (.int .i64 v1) ∧ w'.cell? ⟨gb, 1, none⟩ = some (.slice A11 ns1.length c11) ∧ w'.cell? ⟨gb, 2, none⟩ = some (.slice A12 ks1.length c12) ∧ w'.cell? ⟨gb, 3, none⟩ = some (.slice A13 ss1.length c13) ∧ w'.cell? ⟨gb, 4, none⟩ = some (.slice A14 kp1.length c14)) ⟨bc_ BA 0, bc_ BA 1, bc_ BA 2, bc_ BA 3, bc_ BA 4, bc_ BB 0, bc_ BB 1, bc_ BB 2, bc_ BB 3, bc_ BB 4⟩ (fun hHeld => ?_)
    generalize World.drew _ = wd at HB BA BB hHeld ⊢
    refine qp_ 0 ?_
    refine qp_ 2 ?_
    refine qt_ hHeld 1 ?_
    refine qt_ hHeld 3 ?_
    refine qp_ 4 ?_
    refine qp_ 5 ?_
    refine qp_ 6 ?_
    refine qp_ 9 ?_
    refine qt_ hHeld 7 ?_
    refine qt_ hHeld 10 ?_
    refine qo_ 8 (fun K hK => ?_)
    refine goes_ Tryd.func9 (by kernel_rfl) rfl #[.agg #[.slice A01 ns0.length c01, .slice A02 ks0.length c02, .slice A03 ss0.length c03]] (by rfl) rfl rfl ar_ ?_
    refine (impl_Entries.calls k _ _ ns0 _ _ ks0 _ _ ss0 e0 _ (Kd.C_below HR01.out HB.out) HC01.out (Kd.C_below HR02.out HB.out) HC02.out (Kd.C_below HR03.out HB.out) HC03.out (Tabs.below HT.out HB.out) A1.out).mono ?_
    rintro e wn0 ⟨v, rfl, hs, hb⟩
    refine ⟨_, rfl, ?_⟩
    replace HB := bw_ hb
    replace BA := kb_ BA hb
    replace BB := kb_ BB hb
    obtain ⟨Ae0, ce0, rfl⟩ := Kd.R_slice hs
    have HE0 := Aside0.mk hs
    clear hb hs
    refine hK.out _ _ ⟨bc_ BA 0, bc_ BA 1, bc_ BA 2, bc_ BA 3, bc_ BA 4, bc_ BB 0, bc_ BB 1, bc_ BB 2, bc_ BB 3, bc_ BB 4⟩ (fun hHeld => ?_)
    clear hK K
    refine nm_ 13 ?_
    refine qo_ 11 (fun K hK => ?_)
    refine goes_ Tryd.func9 (by kernel_rfl) rfl #[.agg #[.slice A11 ns1.length c11, .slice A12 ks1.length c12, .slice A13 ss1.length c13]] (by rfl) rfl rfl ar_ ?_
    refine (impl_Entries.calls k _ _ ns1 _ _ ks1 _ _ ss1 e1 _ (Kd.C_below HR11.out HB.out) HC11.out (Kd.C_below HR12.out HB.out) HC12.out (Kd.C_below HR13.out HB.out) HC13.out (Tabs.below HT.out HB.out) A2.out).mono ?_
    rintro e wn1 ⟨v, rfl, hs, hb⟩
    refine ⟨_, rfl, ?_⟩
    replace HB := bw_ hb
    replace BA := kb_ BA hb
    replace BB := kb_ BB hb
    replace HE0 := bR_ HE0 hb
    obtain ⟨Ae1, ce1, rfl⟩ := Kd.R_slice hs
    have HE1 := Aside0.mk hs
    clear hb hs
    refine hK.out _ _ ⟨bc_ BA 0, bc_ BA 1, bc_ BA 2, bc_ BA 3, bc_ BA 4, bc_ BB 0, bc_ BB 1, bc_ BB 2, bc_ BB 3, bc_ BB 4⟩ (fun hHeld => ?_)
    clear hK K
    refine nm_ 16 ?_
    refine qo_ 12 (fun K hK => ?_)
    refine goes_ Tryd.func48 (by kernel_rfl) rfl #[.slice Ae0 e0.length ce0, .slice Ae1 e1.length ce1] (by rfl) rfl rfl ar_ ?_
    refine (impl_Entry.calls k _ _ e0 _ _ e1 false _ (cR_ HE0) (Kd.R_reads' HE0.out).2.1 (cR_ HE1) (Kd.R_reads' HE1.out).2.1 A3.out).mono ?_
    rintro e wn2 ⟨rfl, hd⟩
    refine ⟨_, rfl, ?_⟩
    have hb := Drawn0.below hd
    replace HB := bw_ hb
    replace BA := kb_ BA hb
    replace BB := kb_ BB hb
    clear hb hd
    refine hK.out _ _ ⟨bc_ BA 0, bc_ BA 1, bc_ BA 2, bc_ BA 3, bc_ BA 4, bc_ BB 0, bc_ BB 1, bc_ BB 2, bc_ BB 3, bc_ BB 4⟩ (fun hHeld => ?_)
    clear hK K
    refine nm_ 17 ?_
    refine qp_ 13 ?_
    refine qp_ 14 ?_
    refine qu_ 15 ?_
    refine qu_ 16 ?_
    refine qu_ 17 ?_
    refine qu_ 18 ?_
    refine qu_ 19 ?_
    refine qp_ 20 ?_
    refine qp_ 21 ?_
    refine done_ (by kernel_rfl) ?_
    go_wp2
    go_ret
    exact ⟨by first | rfl | (simp; done), HB.out⟩
  | true =>
    have H4 := Aside0.mk (show slices_EqualFunc.f kp0 kp1 = some r by simpa using H4_.out)
    clear H4_
    go_enter Tryd.func21, Tryd.ntmps21
    go_upto_region 1 with (first | ((with_reducible refine gate_dst (N := 2) rfl ?_); refine box_event ?hg (N := 2) ?hd (cs := #[.int .i64 v0, .slice A01 ns0.length c01, .slice A02 ks0.length c02, .slice A03 ss0.length c03, .slice A04 kp0.length c04]) (t := 47) ?hr ?_; (case hd => rfl); (case hg => rfl); (case hr => first | (go_simp; done) | (go_simp; rfl)); intro ga hg w1 hx hb; have BA := Aside0.mk hx; replace HB := bw_ hb; clear hx hb hg) | ((with_reducible refine gate_dst (N := 3) rfl ?_); refine box_event ?hg (N := 3) ?hd (cs := #[.int .i64 v1, .slice A11 ns1.length c11, .slice A12 ks1.length c12, .slice A13 ss1.length c13, .slice A14 kp1.length c14]) (t := 47) ?hr ?_; (case hd => rfl); (case hg => rfl); (case hr => first | (go_simp; done) | (go_simp; rfl)); intro gb hg w2 hx hb; replace BA := kb_ BA hb; have BB := Aside0.mk hx; replace HB := bw_ hb; clear hx hb hg))
    replace HB := Aside0.mk (below_drew1 HB.out)
    replace BA := Aside0.mk (blk_drew BA.out)
    replace BB := Aside0.mk (blk_drew BB.out)
    refine qs_ (S := fun w' => w'.cell? ⟨ga, 0, none⟩ = some (.int .i64 v0) ∧ w'.cell? ⟨ga, 1, none⟩ = some (.slice A01 ns0.length c01) ∧ w'.cell? ⟨ga, 2, none⟩ = some (.slice A02 ks0.length c02) ∧ w'.cell? ⟨ga, 3, none⟩ = some (.slice A03 ss0.length c03) ∧ w'.cell? ⟨ga, 4, none⟩ = some (.slice A04 kp0.length c04) ∧ w'.cell? ⟨gb, 0, none⟩ = some (.int .i64 v1) ∧ w'.cell? ⟨gb, 1, none⟩ = some (.slice A11 ns1.length c11) ∧ w'.cell? ⟨gb, 2, none⟩ = some (.slice A12 ks1.length c12) ∧ w'.cell? ⟨gb, 3, none⟩ = some (.slice A13 ss1.length c13) ∧ w'.cell? ⟨gb, 4, none⟩ = some (.slice A14 kp1.length c14)) ⟨bc_ BA 0, bc_ BA 1, bc_ BA 2, bc_ BA 3, bc_ BA 4, bc_ BB 0, bc_ BB 1, bc_ BB 2, bc_ BB 3, bc_ BB 4⟩ (fun hHeld => ?_)
    generalize World.drew _ = wd at HB BA BB hHeld ⊢
    refine qp_ 0 ?_
    refine qp_ 2 ?_
    refine qt_ hHeld 1 ?_
    refine qt_ hHeld 3 ?_
    refine qp_ 4 ?_
    refine qp_ 5 ?_
    refine qp_ 6 ?_
    refine qp_ 9 ?_
    refine qt_ hHeld 7 ?_
    refine qt_ hHeld 10 ?_
    refine qo_ 8 (fun K hK => ?_)
    refine goes_ Tryd.func9 (by kernel_rfl) rfl #[.agg #[.slice A01 ns0.length c01, .slice A02 ks0.length c02, .slice A03 ss0.length c03]] (by rfl) rfl rfl ar_ ?_
    refine (impl_Entries.calls k _ _ ns0 _ _ ks0 _ _ ss0 e0 _ (Kd.C_below HR01.out HB.out) HC01.out (Kd.C_below HR02.out HB.out) HC02.out (Kd.C_below HR03.out HB.out) HC03.out (Tabs.below HT.out HB.out) A1.out).mono ?_
    rintro e wn0 ⟨v, rfl, hs, hb⟩
    refine ⟨_, rfl, ?_⟩
    replace HB := bw_ hb
    replace BA := kb_ BA hb
    replace BB := kb_ BB hb
    obtain ⟨Ae0, ce0, rfl⟩ := Kd.R_slice hs
    have HE0 := Aside0.mk hs
    clear hb hs
    refine hK.out _ _ ⟨bc_ BA 0, bc_ BA 1, bc_ BA 2, bc_ BA 3, bc_ BA 4, bc_ BB 0, bc_ BB 1, bc_ BB 2, bc_ BB 3, bc_ BB 4⟩ (fun hHeld => ?_)
    clear hK K
    refine nm_ 13 ?_
    refine qo_ 11 (fun K hK => ?_)
    refine goes_ Tryd.func9 (by kernel_rfl) rfl #[.agg #[.slice A11 ns1.length c11, .slice A12 ks1.length c12, .slice A13 ss1.length c13]] (by rfl) rfl rfl ar_ ?_
    refine (impl_Entries.calls k _ _ ns1 _ _ ks1 _ _ ss1 e1 _ (Kd.C_below HR11.out HB.out) HC11.out (Kd.C_below HR12.out HB.out) HC12.out (Kd.C_below HR13.out HB.out) HC13.out (Tabs.below HT.out HB.out) A2.out).mono ?_
    rintro e wn1 ⟨v, rfl, hs, hb⟩
    refine ⟨_, rfl, ?_⟩
    replace HB := bw_ hb
    replace BA := kb_ BA hb
    replace BB := kb_ BB hb
    replace HE0 := bR_ HE0 hb
    obtain ⟨Ae1, ce1, rfl⟩ := Kd.R_slice hs
    have HE1 := Aside0.mk hs
    clear hb hs
    refine hK.out _ _ ⟨bc_ BA 0, bc_ BA 1, bc_ BA 2, bc_ BA 3, bc_ BA 4, bc_ BB 0, bc_ BB 1, bc_ BB 2, bc_ BB 3, bc_ BB 4⟩ (fun hHeld => ?_)
    clear hK K
    refine nm_ 16 ?_
    refine qo_ 12 (fun K hK => ?_)
    refine goes_ Tryd.func48 (by kernel_rfl) rfl #[.slice Ae0 e0.length ce0, .slice Ae1 e1.length ce1] (by rfl) rfl rfl ar_ ?_
    refine (impl_Entry.calls k _ _ e0 _ _ e1 true _ (cR_ HE0) (Kd.R_reads' HE0.out).2.1 (cR_ HE1) (Kd.R_reads' HE1.out).2.1 A3.out).mono ?_
    rintro e wn2 ⟨rfl, hd⟩
    refine ⟨_, rfl, ?_⟩
    have hb := Drawn0.below hd
    replace HB := bw_ hb
    replace BA := kb_ BA hb
    replace BB := kb_ BB hb
    clear hb hd
    refine hK.out _ _ ⟨bc_ BA 0, bc_ BA 1, bc_ BA 2, bc_ BA 3, bc_ BA 4, bc_ BB 0, bc_ BB 1, bc_ BB 2, bc_ BB 3, bc_ BB 4⟩ (fun hHeld => ?_)
    clear hK K
    refine nm_ 17 ?_
    refine qp_ 13 ?_
    refine qp_ 14 ?_
    refine qp_ 15 ?_
    refine qp_ 17 ?_
    refine qt_ hHeld 16 ?_
    refine qt_ hHeld 18 ?_
    refine qo_ 19 (fun K hK => ?_)
    refine goes_ Tryd.func49 (by kernel_rfl) rfl #[.slice A04 kp0.length c04, .slice A14 kp1.length c14, .func (.func 50) #[] #[]] (by rfl) rfl rfl ar_ ?_
    refine (slices_EqualFunc.calls _ _ kp0 _ _ kp1 r _ (Kd.C_below HR04.out HB.out) HC04.out (Kd.C_below HR14.out HB.out) HC14.out H4.out).mono ?_
    rintro e wn3 ⟨rfl, hb⟩
    refine ⟨_, rfl, ?_⟩
    replace HB := bw_ hb
    replace BA := kb_ BA hb
    replace BB := kb_ BB hb
    clear hb
    refine hK.out _ _ ⟨bc_ BA 0, bc_ BA 1, bc_ BA 2, bc_ BA 3, bc_ BA 4, bc_ BB 0, bc_ BB 1, bc_ BB 2, bc_ BB 3, bc_ BB 4⟩ (fun hHeld => ?_)
    clear hK K
    refine nm_ 24 ?_
    refine qp_ 20 ?_
    refine qp_ 21 ?_
    refine done_ (by kernel_rfl) ?_
    go_wp2
    go_ret
    exact ⟨by first | rfl | (simp; done), HB.out⟩
end Go.Proofs.YtggokdobijhdhaaDoor.P
