-- Printed by a program over the kit's print.py (mp.sh), several laws in one namespace.
import Derived.Test.YtpigbffaacilfaaDoorPx0
import Derived.Test.YtpigbffaacilfaaDoorS
import Derived.Test.YtpigbffaacilfaaDoorPx10
import Derived.Test.YtpigbffaacilfaaDoorPx20
namespace Go.Proofs.YtpigbffaacilfaaDoor.P
open Go.RowKit Go.Proofs.YtpigbffaacilfaaDoor.X Go.Proofs.YtpigbffaacilfaaDoorW.PrintWords Go.Proofs.YtpigbffaacilfaaDoorW.PrintLast Go.Proofs.YtpigbffaacilfaaDoorW.PrintMore
attribute [local go_sem] max2_int min2_int max_two min_two max_three min_three max_four min_four   -- for this text's walks alone
set_option linter.unusedVariables false
set_option linter.unusedSimpArgs false

def impl_KeptFor.l0 : Nat → ByteArray → List (S41) → List (S41) → Int → Int → Option ((List (S41)))
  | 0, _, _, _, _, _ => none
  | k + 1, x1, x5, x9, x10, x11 => if x11 < x10 then (if 0 ≤ x11 then (if x11 < (x9.length : Int) then ((impl_Match.f k x1 ((rd_T41 x9 x11).f0)).bind fun t511 => (if t511 = true then (if x5.length < 2932031007402 then (impl_KeptFor.l0 k x1 (x5 ++ [(⟨(rd_T41 x9 x11).f0, (rd_T41 x9 x11).f1, (rd_T41 x9 x11).f2⟩ : S41)]) x9 x10 (wrap64 (x11 + 1))) else (none)) else (impl_KeptFor.l0 k x1 x5 x9 x10 (wrap64 (x11 + 1))))) else (none)) else (none)) else ((impl_copyKept.f k x5).bind fun t515 => (some t515))
def impl_KeptFor.f (k : Nat) (l0 : List (S41)) (a1 : ByteArray) : Option ((List (S41))) := impl_KeptFor.l0 k a1 (([] : List (S41))) l0 (l0.length : Int) 0
theorem impl_KeptFor.mono_l : ∀ k, (∀ y0 y1 y2 y3 y4, LeO (impl_KeptFor.l0 k y0 y1 y2 y3 y4) (impl_KeptFor.l0 (k + 1) y0 y1 y2 y3 y4))
  | 0 => fun _ _ _ _ _ r h => by simp [impl_KeptFor.l0] at h
  | k + 1 => by
    have ih0 := impl_KeptFor.mono_l k
    · intro y0 y1 y2 y3 y4
      unfold impl_KeptFor.l0
      repeat' first
      | (with_reducible exact ih0 _ _ _ _ _)
      | (with_reducible exact impl_Match.mono _ _ _)
      | (with_reducible exact impl_copyKept.mono _ _)
      | (with_reducible exact LeO.refl _)
      | (with_reducible exact LeO.none _)
      | (with_reducible refine LeO.ite ?_ ?_)
      | (with_reducible refine LeO.bind ?_ (fun _ => ?_))
      | exact ih0 _ _ _ _ _
      | exact impl_Match.mono _ _ _
      | exact impl_copyKept.mono _ _
      | exact LeO.none _
      | refine LeO.ite ?_ ?_
      | refine LeO.bind ?_ (fun _ => ?_)
theorem impl_KeptFor.mono : ∀ a0 a1 k, LeO (impl_KeptFor.f k a0 a1) (impl_KeptFor.f (k + 1) a0 a1) := by
  intro a0 a1 k
  have ih0 := impl_KeptFor.mono_l k
  unfold impl_KeptFor.f
  repeat' first
      | (with_reducible exact ih0 _ _ _ _ _)
      | (with_reducible exact impl_Match.mono _ _ _)
      | (with_reducible exact impl_copyKept.mono _ _)
      | (with_reducible exact LeO.refl _)
      | (with_reducible exact LeO.none _)
      | (with_reducible refine LeO.ite ?_ ?_)
      | (with_reducible refine LeO.bind ?_ (fun _ => ?_))
      | exact ih0 _ _ _ _ _
      | exact impl_Match.mono _ _ _
      | exact impl_copyKept.mono _ _
      | exact LeO.none _
      | refine LeO.ite ?_ ?_
      | refine LeO.bind ?_ (fun _ => ?_)
set_option maxHeartbeats 8000000 in
set_option maxRecDepth 100000 in
theorem impl_KeptFor.callsS (k : Nat) (P0_ : Nat → Prop) (A0 : Option Addr) (c0 : Nat) (l0 : List (S41)) (a1 : ByteArray) (r : List (S41)) (w : World) (hs0 : Kd.V k41 41 w w.heap.size (fun k_ => P0_ k_) (.slice A0 l0.length c0) l0) (hT : Tabs w) (h : impl_KeptFor.f k l0 a1 = some r) :
    Calls Tryd.prog 20 #[.slice A0 l0.length c0, .string a1] w fun e w' => ∃ v0_ : Value, e = .returned (v0_) ∧ Kd.S k41 41 w' w.heap.size (fun _ => True) v0_ r ∧ Below w.heap.size w w' := by
  have hu41 := Tryd.underlying41
  have HT := Aside0.mk hT
  clear hT
  have HO0 := Aside0.mk (show Kd.V k41 41 w w.heap.size (fun k_ => (P0_ k_ ∨ w.heap.size ≤ k_)) (.slice A0 l0.length c0) l0 from Kd.V_mono hs0 (fun k_ hk => .inl hk))
  have HB := Aside0.mk (Below.refl w.heap.size w)
  have H : (impl_KeptFor.l0 k a1 (([] : List (S41))) l0 (l0.length : Int) 0) = some r := h
  clear h
  obtain ⟨y506, hy506⟩ : ∃ y_ : List (S41), y_ = (([] : List (S41))) := ⟨_, rfl⟩
  (first | (with_reducible replace H := ys_ hy506 H; (try dsimp only at H)) | rw [← hy506] at H | skip)
  have Ny506 := Aside0.mk hy506
  clear hy506
  have H' := Aside0.mk H
  clear H
  go_enter Tryd.func20, Tryd.ntmps20
  go_wp2_with (first | ((with_reducible refine gate_dst (N := 8) rfl ?_); refine Kd.N_lit k41 _ 41 ?hg (N' := 8) ?hd (xs := ([] : List (S41))) (inner := []) (ok := (fun k_ => (P0_ k_ ∨ w.heap.size ≤ k_))) (okp := (fun k_ => (P0_ k_ ∨ w.heap.size ≤ k_))) ?hr ?hp (fun _ hk => hk) ((show ∀ k_, w.heap.size ≤ k_ → (fun k_ => (P0_ k_ ∨ w.heap.size ≤ k_)) k_ from fun k_ hk => (.inr (Nat.le_trans (below_size be_) hk))) _ (Nat.le_refl _)) (Below.refl _ _) (Nat.le_refl _) (by simp) ?_; (case hd => rfl); (case hg => rfl); (case hr => first | (go_simp; done) | (go_simp; rfl)); (case hp => exact (Reps.none _ _)); intro v507 w3 ho4 hb hg_ hnew_; clear hg_ hnew_; (first | rw [← Ny506.out] at ho4 | (simp only [Int.reduceToNat] at ho4; rw [← Ny506.out] at ho4)); replace HO0 := eV_ HO0 (Kd.N_base ho4) hb; have HO508 := Aside0.mk (Kd.N_lower ho4 (below_size be_)); replace HB := bw_ hb; clear hb ho4))
  go_loopg [5, 11] k (fun kq v5 v11 w' => ∃ (x5_1 : List (S41)) (x11_1 : Int), v11 = .int .i64 x11_1 ∧ Aside0 (impl_KeptFor.l0 kq a1 x5_1 l0 (l0.length : Int) x11_1 = some r) ∧ Aside0 (kq ≤ k) ∧ Aside0 (Kd.N k41 41 w' w.heap.size (fun k_ => (P0_ k_ ∨ w.heap.size ≤ k_)) v5 x5_1) ∧ Aside0 (Kd.V k41 41 w' w.heap.size (fun k_ => (P0_ k_ ∨ w.heap.size ≤ k_) ∧ some k_ ≠ (v5 : Value).ownBlock) (.slice A0 l0.length c0) l0) ∧ Aside0 (Below w.heap.size w w'))
  case atStart => exact ⟨(y506), (0), rs_, H', ⟨Nat.le_refl _⟩, ⟨lN_ HO508.out⟩, ⟨lV_ HO0.out⟩, ⟨be_⟩⟩
  case round =>
    clear H'
    try clear c2
    try clear p2
    obtain ⟨x5_1, x11_1, rfl, HA, HK1, HO_5, HO_9, HB⟩ := hrel
    cases gk with
    | zero => exact absurd HA.out (by simp [impl_KeptFor.l0])
    | succ k1 =>
      have H := HA.out
      clear HA
      simp only [impl_KeptFor.l0] at H
      by_cases c5 : x11_1 < (l0.length : Int)
      · rw [if_pos c5] at H
        have c5b0 : decide (x11_1 < (l0.length : Int)) = true := decide_eq_true c5
        clear c5
        by_cases c6 : 0 ≤ x11_1
        · rw [if_pos c6] at H
          have c6b0 : decide (0 ≤ x11_1) = true := decide_eq_true c6
          clear c6
          by_cases c7 : x11_1 < (l0.length : Int)
          · rw [if_pos c7] at H
            have c7b0 : decide (x11_1 < (l0.length : Int)) = true := decide_eq_true c7
            clear c7
            replace H := bo_ H
            obtain ⟨t511, A8, H⟩ := H
            (try dsimp only at H)
            by_cases c9 : t511 = true
            · subst c9
              replace H := bt_ H
              by_cases c10 : x5_1.length < 2932031007402
              · rw [if_pos c10] at H
                have LMc10 := Aside0.mk c10
                clear c10
                obtain ⟨y512, hy512⟩ : ∃ y_ : List (S41), y_ = (x5_1 ++ [(⟨(rd_T41 l0 x11_1).f0, (rd_T41 l0 x11_1).f1, (rd_T41 l0 x11_1).f2⟩ : S41)]) := ⟨_, rfl⟩
                (first | (with_reducible replace H := ys_ hy512 H; (try dsimp only at H)) | rw [← hy512] at H | skip)
                have Ny512 := Aside0.mk hy512
                clear hy512
                have H' := Aside0.mk H
                clear H
                have p509 : 0 ≤ (x11_1 : Int) := dt_
                have q509 : x11_1 < (l0.length : Int) := dt_
                obtain ⟨ad509, A509_1, c509_1, e509, hx509_0, hx509_1, hx509_2, hl509_1, hi509_1⟩ := at_T41 (Kd.V_reads' HO_9.out).2.2 x11_1 p509 q509
                cases e509
                obtain ⟨ce509, hce509, hMe509, hcc509⟩ := Kd.V_get HO_9.out z41 x11_1 p509 (by first | exact q509 | exact dt_ | (have e_ := (Kd.V_reads' HO_9.out).1; omega))
                obtain ⟨ua509_1, uc509_1, rfl, ul509_1, ge509_1⟩ := k41_openF hMe509
                have hv509_1 := hcc509 1 _ rfl
                rw [add_field _ _ 1 (by omega)] at hv509_1
                replace hv509_1 := Option.some.inj (hv509_1.symm.trans hx509_1)
                injection hv509_1 with hva_ hvn_ hvc_
                rw [hva_] at ge509_1
                rw [hvc_] at ul509_1
                have HL509_1 := Aside0.mk (show Kd.V (Kd.int .u8) 5 _ w.heap.size _ _ ((rd_T41 l0 x11_1).f1) from Kd.V_mk ul509_1 ge509_1)
                clear hva_ hvn_ hvc_ ge509_1 ul509_1 hcc509 hce509
                have HR509_1 := Aside0.mk hi509_1
                have HC509_1 := Aside0.mk hl509_1
                clear hi509_1 hl509_1
                replace p509 := eq_true p509
                replace q509 := eq_true q509
                go_wp2_with (first | ((with_reducible refine gate_dst (N := 7) rfl ?_); refine box_event ?hg (N := 7) ?hd (cs := #[.string (⟨#[]⟩ : ByteArray), .slice none 0 0, .int .i64 0]) (t := 41) ?hr ?_; (case hd => rfl); (case hg => rfl); (case hr => first | (go_simp; done) | (go_simp; rfl)); intro gb510 hg w11 hbox hb; replace HO_5 := Aside0.mk (Kd.N_below (Kd.N_elderB (lN_ HO_5.out) gb510 (Nat.le_of_eq hg.symm)) hb); replace HO_9 := Aside0.mk (Kd.V_below (Kd.V_elderB (lV_ HO_9.out) gb510 (Nat.le_of_eq hg.symm)) hb); replace HL509_1 := Aside0.mk (Kd.V_below (Kd.V_elderB (lV_ HL509_1.out) gb510 (Nat.le_of_eq hg.symm)) hb); replace HR509_1 := Aside0.mk (Kd.C_below (by repeat (first | (with_reducible exact HR509_1.out) | (with_reducible refine Kd.C_alloc ?_ _) | (with_reducible refine Kd.C_drewN ?_ _) | (with_reducible refine Kd.C_drew ?_) | exact HR509_1.out)) hb); have BK510 := Aside0.mk (hbox); have GW510 := Aside0.mk ((sz_ : w.heap.size ≤ gb510)); have GE510 := Aside0.mk ((sz_ : w.heap.size ≤ gb510)); replace HB := bw_ hb; clear hb hbox hg; have hcz12_0 : w11.cell? ⟨gb510, 0, none⟩ = some (.string (⟨#[]⟩ : ByteArray)) := bc_ BK510 0; have hcz12_1 : w11.cell? ⟨gb510, 1, none⟩ = some (.slice none 0 0) := bc_ BK510 1; have hcz12_2 : w11.cell? ⟨gb510, 2, none⟩ = some (.int .i64 0) := bc_ BK510 2; have hfz12_0 := blk_frozen BK510.out 0; have hfz12_1 := blk_frozen BK510.out 1; have hfz12_2 := blk_frozen BK510.out 2) | ((with_reducible refine gate_callee (f := 45) rfl ?_); refine ca_ 18 Tryd.func45 #[.string a1, .string ((rd_T41 l0 x11_1).f0)] ?_; (with_reducible refine (impl_Match.calls k1 a1 ((rd_T41 l0 x11_1).f0) true _ ?side1 A8.out).mono ?_); (case side1 => exact Tabs.below HT.out be_); rintro e w13 ⟨rfl, hb⟩; refine ⟨_, rfl, ?_⟩; replace HO_5 := Aside0.mk (Kd.N_below (lN_ ((Kd.N_mono (Kd.N_far (p := ⟨gb510, 2, none⟩) (Kd.N_far (p := ⟨gb510, 1, none⟩) (Kd.N_far (p := ⟨gb510, 0, none⟩) (Kd.N_mono HO_5.out (fun k_ hk => (⟨hk, hk.2⟩ : _ ∧ k_ ≠ gb510))) (fun _ hk => hk.2) (.string ((rd_T41 l0 x11_1).f0))) (fun _ hk => hk.2) (.slice A509_1 ((rd_T41 l0 x11_1).f1).length c509_1)) (fun _ hk => hk.2) (.int .i64 ((rd_T41 l0 x11_1).f2))) (fun _ h_ => h_.1)))) hb); replace HO_9 := Aside0.mk (Kd.V_below (lV_ ((Kd.V_mono (Kd.V_far (p := ⟨gb510, 2, none⟩) (Kd.V_far (p := ⟨gb510, 1, none⟩) (Kd.V_far (p := ⟨gb510, 0, none⟩) (Kd.V_mono HO_9.out (fun k_ hk => (⟨hk, hk.2⟩ : _ ∧ k_ ≠ gb510))) (fun _ hk => hk.2) (.string ((rd_T41 l0 x11_1).f0))) (fun _ hk => hk.2) (.slice A509_1 ((rd_T41 l0 x11_1).f1).length c509_1)) (fun _ hk => hk.2) (.int .i64 ((rd_T41 l0 x11_1).f2))) (fun _ h_ => h_.1)))) hb); replace HR509_1 := Aside0.mk (Kd.C_below ((Kd.V_reads' (lV_ ((Kd.V_mono (Kd.V_far (p := ⟨gb510, 2, none⟩) (Kd.V_far (p := ⟨gb510, 1, none⟩) (Kd.V_far (p := ⟨gb510, 0, none⟩) (Kd.V_mono HL509_1.out (fun k_ hk => (⟨hk, hk.2⟩ : _ ∧ k_ ≠ gb510))) (fun _ hk => hk.2) (.string ((rd_T41 l0 x11_1).f0))) (fun _ hk => hk.2) (.slice A509_1 ((rd_T41 l0 x11_1).f1).length c509_1)) (fun _ hk => hk.2) (.int .i64 ((rd_T41 l0 x11_1).f2))) (fun _ h_ => h_.1))))).2.2) hb); replace HL509_1 := Aside0.mk (Kd.V_below (lV_ ((Kd.V_mono (Kd.V_far (p := ⟨gb510, 2, none⟩) (Kd.V_far (p := ⟨gb510, 1, none⟩) (Kd.V_far (p := ⟨gb510, 0, none⟩) (Kd.V_mono HL509_1.out (fun k_ hk => (⟨hk, hk.2⟩ : _ ∧ k_ ≠ gb510))) (fun _ hk => hk.2) (.string ((rd_T41 l0 x11_1).f0))) (fun _ hk => hk.2) (.slice A509_1 ((rd_T41 l0 x11_1).f1).length c509_1)) (fun _ hk => hk.2) (.int .i64 ((rd_T41 l0 x11_1).f2))) (fun _ h_ => h_.1)))) hb); replace HB := bw_ hb; replace BK510 := Aside0.mk (blk_below (g := gb510) (o := .cells #[.string ((rd_T41 l0 x11_1).f0), .slice A509_1 ((rd_T41 l0 x11_1).f1).length c509_1, .int .i64 ((rd_T41 l0 x11_1).f2)] 41 (0, 0)) (by (with_reducible repeat (first | refine blk_drewN ?_ _ | refine blk_drew ?_ | refine blk_alloc ?_ _)); refine blk_put (cs := #[.string ((rd_T41 l0 x11_1).f0), .slice A509_1 ((rd_T41 l0 x11_1).f1).length c509_1, .int .i64 0]) ?_ 2 _ rfl; (with_reducible repeat (first | refine blk_drewN ?_ _ | refine blk_drew ?_ | refine blk_alloc ?_ _)); refine blk_put (cs := #[.string ((rd_T41 l0 x11_1).f0), .slice none 0 0, .int .i64 0]) ?_ 1 _ rfl; (with_reducible repeat (first | refine blk_drewN ?_ _ | refine blk_drew ?_ | refine blk_alloc ?_ _)); refine blk_put (cs := #[.string (⟨#[]⟩ : ByteArray), .slice none 0 0, .int .i64 0]) ?_ 0 _ rfl; (with_reducible repeat (first | refine blk_drewN ?_ _ | refine blk_drew ?_ | refine blk_alloc ?_ _)); exact BK510.out) hb); clear hb; have hcz14_0 : w13.cell? ⟨gb510, 0, none⟩ = some (.string ((rd_T41 l0 x11_1).f0)) := bc_ BK510 0; have hcz14_1 : w13.cell? ⟨gb510, 1, none⟩ = some (.slice A509_1 ((rd_T41 l0 x11_1).f1).length c509_1) := bc_ BK510 1; have hcz14_2 : w13.cell? ⟨gb510, 2, none⟩ = some (.int .i64 ((rd_T41 l0 x11_1).f2)) := bc_ BK510 2; have hfz14_0 := blk_frozen BK510.out 0; have hfz14_1 := blk_frozen BK510.out 1; have hfz14_2 := blk_frozen BK510.out 2) | ((with_reducible refine gate_builtin (b := .append) (xs := #[.tmp 19, .tmp 21]) rfl ?_); at_builtin; refine Kd.N_append k41 (w0 := w) w.heap.size rfl (.tmp 19) (.tmp 21) 25 41 (.agg #[(.string ⟨#[]⟩), (.slice none 0 0), (.int .i64 0)]) 48 rfl Tryd.underlying25 info41 rfl (by decide) (by omega) u5 x5_1 (⟨(rd_T41 l0 x11_1).f0, (rd_T41 l0 x11_1).f1, (rd_T41 l0 x11_1).f2⟩ : S41) [.string ((rd_T41 l0 x11_1).f0), .slice A509_1 ((rd_T41 l0 x11_1).f1).length c509_1, .int .i64 ((rd_T41 l0 x11_1).f2)] (fun k_ => (P0_ k_ ∨ w.heap.size ≤ k_) ∧ k_ ≠ gb510) (fun k_ => ((fun k_ => (P0_ k_ ∨ w.heap.size ≤ k_) ∧ k_ ≠ gb510)) k_ ∧ some k_ ≠ (u5 : Value).ownBlock) rfl rfl ?aP (fun _ hk => hk) ?aF ?aO ?aB ?aS ?aL ?_; (case aP => exact (k41_mkF _ _ (⟨(rd_T41 l0 x11_1).f0, (rd_T41 l0 x11_1).f1, (rd_T41 l0 x11_1).f2⟩ : S41) (Kd.V_reads' (Kd.V_mono (ok' := (fun k_ => ((fun k_ => (P0_ k_ ∨ w.heap.size ≤ k_) ∧ k_ ≠ gb510)) k_ ∧ some k_ ≠ (u5 : Value).ownBlock)) (HL509_1.out) (fun k_ hk => ⟨⟨hk.1.1, hk.2⟩, hk.1.2⟩))).2.1 (Kd.V_F (Kd.V_mono (ok' := (fun k_ => ((fun k_ => (P0_ k_ ∨ w.heap.size ≤ k_) ∧ k_ ≠ gb510)) k_ ∧ some k_ ≠ (u5 : Value).ownBlock)) (HL509_1.out) (fun k_ hk => ⟨⟨hk.1.1, hk.2⟩, hk.1.2⟩))))); (case aB => exact be_); (case aF => exact (fun k_ hk => ⟨(.inr (Nat.le_trans (below_size be_) hk)), Kd.freshB (g := gb510) (o := .cells #[.string ((rd_T41 l0 x11_1).f0), .slice A509_1 ((rd_T41 l0 x11_1).f1).length c509_1, .int .i64 ((rd_T41 l0 x11_1).f2)] 41 (0, 0)) bk_ k_ hk⟩)); (case aO => exact (lN_ HO_5.out)); (case aS => exact (below_size be_)); (case aL => have := LMc10.out; omega); intro v513 w15 ho hb hg hat; rw [← Ny512.out] at ho; replace HO_9 := Aside0.mk (Kd.V_afterv (ok := (fun k_ => (P0_ k_ ∨ w.heap.size ≤ k_) ∧ k_ ≠ gb510)) (lV_ (Kd.V_mono HO_9.out (fun _ hk => ⟨⟨hk.1.1, hk.2⟩, hk.1.2⟩))) hg hat); replace HL509_1 := Aside0.mk (Kd.V_afterv (ok := (fun k_ => (P0_ k_ ∨ w.heap.size ≤ k_) ∧ k_ ≠ gb510)) (lV_ (Kd.V_mono HL509_1.out (fun _ hk => ⟨⟨hk.1.1, hk.2⟩, hk.1.2⟩))) hg hat); replace BK510 := Aside0.mk (blk_grown (g := gb510) (o := .cells #[.string ((rd_T41 l0 x11_1).f0), .slice A509_1 ((rd_T41 l0 x11_1).f1).length c509_1, .int .i64 ((rd_T41 l0 x11_1).f2)] 41 (0, 0)) bk_ hg (Kd.N_away HO_5.out (fun _ hk => hk.2))); replace HB := Aside0.mk (hb); have HO514 := Aside0.mk (ho); clear HO_5 ho hb hg hat))
                go_roundg k1
                case measure => have := HK1.out; omega
                case rel => exact ⟨(y512), (wrap64 (x11_1 + 1)), rs_, H', ⟨by have := HK1.out; omega⟩, ⟨lN_ (Kd.N_mono HO514.out (fun _ hk => hk.1))⟩, ⟨lV_ (Kd.V_mono HO_9.out (fun _ hk => ⟨hk.1.1, hk.2⟩))⟩, ⟨be_⟩⟩
              · rw [if_neg c10] at H
                exact absurd H (by simp)
            · replace c9 := Bool.eq_false_iff.mpr c9
              subst c9
              replace H := bf_ H
              have H' := Aside0.mk H
              clear H
              have p509 : 0 ≤ (x11_1 : Int) := dt_
              have q509 : x11_1 < (l0.length : Int) := dt_
              obtain ⟨ad509, A509_1, c509_1, e509, hx509_0, hx509_1, hx509_2, hl509_1, hi509_1⟩ := at_T41 (Kd.V_reads' HO_9.out).2.2 x11_1 p509 q509
              cases e509
              obtain ⟨ce509, hce509, hMe509, hcc509⟩ := Kd.V_get HO_9.out z41 x11_1 p509 (by first | exact q509 | exact dt_ | (have e_ := (Kd.V_reads' HO_9.out).1; omega))
              obtain ⟨ua509_1, uc509_1, rfl, ul509_1, ge509_1⟩ := k41_openF hMe509
              have hv509_1 := hcc509 1 _ rfl
              rw [add_field _ _ 1 (by omega)] at hv509_1
              replace hv509_1 := Option.some.inj (hv509_1.symm.trans hx509_1)
              injection hv509_1 with hva_ hvn_ hvc_
              rw [hva_] at ge509_1
              rw [hvc_] at ul509_1
              have HL509_1 := Aside0.mk (show Kd.V (Kd.int .u8) 5 _ w.heap.size _ _ ((rd_T41 l0 x11_1).f1) from Kd.V_mk ul509_1 ge509_1)
              clear hva_ hvn_ hvc_ ge509_1 ul509_1 hcc509 hce509
              have HR509_1 := Aside0.mk hi509_1
              have HC509_1 := Aside0.mk hl509_1
              clear hi509_1 hl509_1
              replace p509 := eq_true p509
              replace q509 := eq_true q509
              go_wp2_with (first | ((with_reducible refine gate_dst (N := 7) rfl ?_); refine box_event ?hg (N := 7) ?hd (cs := #[.string (⟨#[]⟩ : ByteArray), .slice none 0 0, .int .i64 0]) (t := 41) ?hr ?_; (case hd => rfl); (case hg => rfl); (case hr => first | (go_simp; done) | (go_simp; rfl)); intro gb510 hg w16 hbox hb; replace HO_5 := Aside0.mk (Kd.N_below (Kd.N_elderB (lN_ HO_5.out) gb510 (Nat.le_of_eq hg.symm)) hb); replace HO_9 := Aside0.mk (Kd.V_below (Kd.V_elderB (lV_ HO_9.out) gb510 (Nat.le_of_eq hg.symm)) hb); replace HL509_1 := Aside0.mk (Kd.V_below (Kd.V_elderB (lV_ HL509_1.out) gb510 (Nat.le_of_eq hg.symm)) hb); replace HR509_1 := Aside0.mk (Kd.C_below (by repeat (first | (with_reducible exact HR509_1.out) | (with_reducible refine Kd.C_alloc ?_ _) | (with_reducible refine Kd.C_drewN ?_ _) | (with_reducible refine Kd.C_drew ?_) | exact HR509_1.out)) hb); have BK510 := Aside0.mk (hbox); have GW510 := Aside0.mk ((sz_ : w.heap.size ≤ gb510)); have GE510 := Aside0.mk ((sz_ : w.heap.size ≤ gb510)); replace HB := bw_ hb; clear hb hbox hg; have hcz17_0 : w16.cell? ⟨gb510, 0, none⟩ = some (.string (⟨#[]⟩ : ByteArray)) := bc_ BK510 0; have hcz17_1 : w16.cell? ⟨gb510, 1, none⟩ = some (.slice none 0 0) := bc_ BK510 1; have hcz17_2 : w16.cell? ⟨gb510, 2, none⟩ = some (.int .i64 0) := bc_ BK510 2; have hfz17_0 := blk_frozen BK510.out 0; have hfz17_1 := blk_frozen BK510.out 1; have hfz17_2 := blk_frozen BK510.out 2) | ((with_reducible refine gate_callee (f := 45) rfl ?_); refine ca_ 18 Tryd.func45 #[.string a1, .string ((rd_T41 l0 x11_1).f0)] ?_; (with_reducible refine (impl_Match.calls k1 a1 ((rd_T41 l0 x11_1).f0) false _ ?side1 A8.out).mono ?_); (case side1 => exact Tabs.below HT.out be_); rintro e w18 ⟨rfl, hb⟩; refine ⟨_, rfl, ?_⟩; replace HO_5 := Aside0.mk (Kd.N_below (lN_ ((Kd.N_mono (Kd.N_far (p := ⟨gb510, 2, none⟩) (Kd.N_far (p := ⟨gb510, 1, none⟩) (Kd.N_far (p := ⟨gb510, 0, none⟩) (Kd.N_mono HO_5.out (fun k_ hk => (⟨hk, hk.2⟩ : _ ∧ k_ ≠ gb510))) (fun _ hk => hk.2) (.string ((rd_T41 l0 x11_1).f0))) (fun _ hk => hk.2) (.slice A509_1 ((rd_T41 l0 x11_1).f1).length c509_1)) (fun _ hk => hk.2) (.int .i64 ((rd_T41 l0 x11_1).f2))) (fun _ h_ => h_.1)))) hb); replace HO_9 := Aside0.mk (Kd.V_below (lV_ ((Kd.V_mono (Kd.V_far (p := ⟨gb510, 2, none⟩) (Kd.V_far (p := ⟨gb510, 1, none⟩) (Kd.V_far (p := ⟨gb510, 0, none⟩) (Kd.V_mono HO_9.out (fun k_ hk => (⟨hk, hk.2⟩ : _ ∧ k_ ≠ gb510))) (fun _ hk => hk.2) (.string ((rd_T41 l0 x11_1).f0))) (fun _ hk => hk.2) (.slice A509_1 ((rd_T41 l0 x11_1).f1).length c509_1)) (fun _ hk => hk.2) (.int .i64 ((rd_T41 l0 x11_1).f2))) (fun _ h_ => h_.1)))) hb); replace HR509_1 := Aside0.mk (Kd.C_below ((Kd.V_reads' (lV_ ((Kd.V_mono (Kd.V_far (p := ⟨gb510, 2, none⟩) (Kd.V_far (p := ⟨gb510, 1, none⟩) (Kd.V_far (p := ⟨gb510, 0, none⟩) (Kd.V_mono HL509_1.out (fun k_ hk => (⟨hk, hk.2⟩ : _ ∧ k_ ≠ gb510))) (fun _ hk => hk.2) (.string ((rd_T41 l0 x11_1).f0))) (fun _ hk => hk.2) (.slice A509_1 ((rd_T41 l0 x11_1).f1).length c509_1)) (fun _ hk => hk.2) (.int .i64 ((rd_T41 l0 x11_1).f2))) (fun _ h_ => h_.1))))).2.2) hb); replace HL509_1 := Aside0.mk (Kd.V_below (lV_ ((Kd.V_mono (Kd.V_far (p := ⟨gb510, 2, none⟩) (Kd.V_far (p := ⟨gb510, 1, none⟩) (Kd.V_far (p := ⟨gb510, 0, none⟩) (Kd.V_mono HL509_1.out (fun k_ hk => (⟨hk, hk.2⟩ : _ ∧ k_ ≠ gb510))) (fun _ hk => hk.2) (.string ((rd_T41 l0 x11_1).f0))) (fun _ hk => hk.2) (.slice A509_1 ((rd_T41 l0 x11_1).f1).length c509_1)) (fun _ hk => hk.2) (.int .i64 ((rd_T41 l0 x11_1).f2))) (fun _ h_ => h_.1)))) hb); replace HB := bw_ hb; replace BK510 := Aside0.mk (blk_below (g := gb510) (o := .cells #[.string ((rd_T41 l0 x11_1).f0), .slice A509_1 ((rd_T41 l0 x11_1).f1).length c509_1, .int .i64 ((rd_T41 l0 x11_1).f2)] 41 (0, 0)) (by (with_reducible repeat (first | refine blk_drewN ?_ _ | refine blk_drew ?_ | refine blk_alloc ?_ _)); refine blk_put (cs := #[.string ((rd_T41 l0 x11_1).f0), .slice A509_1 ((rd_T41 l0 x11_1).f1).length c509_1, .int .i64 0]) ?_ 2 _ rfl; (with_reducible repeat (first | refine blk_drewN ?_ _ | refine blk_drew ?_ | refine blk_alloc ?_ _)); refine blk_put (cs := #[.string ((rd_T41 l0 x11_1).f0), .slice none 0 0, .int .i64 0]) ?_ 1 _ rfl; (with_reducible repeat (first | refine blk_drewN ?_ _ | refine blk_drew ?_ | refine blk_alloc ?_ _)); refine blk_put (cs := #[.string (⟨#[]⟩ : ByteArray), .slice none 0 0, .int .i64 0]) ?_ 0 _ rfl; (with_reducible repeat (first | refine blk_drewN ?_ _ | refine blk_drew ?_ | refine blk_alloc ?_ _)); exact BK510.out) hb); clear hb))
              go_roundg k1
              case measure => have := HK1.out; omega
              case rel => exact ⟨(x5_1), (wrap64 (x11_1 + 1)), rs_, H', ⟨by have := HK1.out; omega⟩, ⟨lN_ (Kd.N_mono HO_5.out (fun _ hk => hk.1))⟩, ⟨lV_ (Kd.V_mono HO_9.out (fun _ hk => ⟨hk.1.1, hk.1.2⟩))⟩, ⟨be_⟩⟩
          · rw [if_neg c7] at H
            exact absurd H (by simp)
        · rw [if_neg c6] at H
          exact absurd H (by simp)
      · rw [if_neg c5] at H
        have c5b0 : decide (x11_1 < (l0.length : Int)) = false := decide_eq_false c5
        clear c5
        replace H := bo_ H
        obtain ⟨t515, A19, H⟩ := H
        (try dsimp only at H)
        obtain rfl := Option.some.inj H
        obtain ⟨Ao20, co20, eo20⟩ := Kd.N_slice HO_5.out
        subst eo20
        go_wp2_with (first | ((with_reducible refine gate_callee (f := 29) rfl ?_); refine ca_ 25 Tryd.func29 #[.slice Ao20 x5_1.length co20] ?_; (with_reducible refine (impl_copyKept.callsS k1 (fun k_ => (P0_ k_ ∨ w.heap.size ≤ k_)) _ _ x5_1 t515 _ ?side1 A19.out).mono ?_); (case side1 => exact Kd.N_V (HO_5.out)); rintro e w21 ⟨v516, rfl, ho0, hb⟩; refine ⟨_, rfl, ?_⟩; replace HO_5 := eN_ HO_5 (Kd.S_base ho0) hb; replace HO_9 := eV_ HO_9 (Kd.S_base ho0) hb; have HO517 := Aside0.mk (Kd.S_lower ho0 (below_size be_)); replace HB := bw_ hb; clear hb ho0))
        go_ret
        exact ⟨_, er_, lS_ HO517.out, be_⟩
theorem impl_KeptFor.calls (k : Nat) (P0_ : Nat → Prop) (A0 : Option Addr) (c0 : Nat) (l0 : List (S41)) (a1 : ByteArray) (r : List (S41)) (w : World) (hs0 : Kd.V k41 41 w w.heap.size (fun k_ => P0_ k_) (.slice A0 l0.length c0) l0) (hT : Tabs w) (h : impl_KeptFor.f k l0 a1 = some r) :
    Calls Tryd.prog 20 #[.slice A0 l0.length c0, .string a1] w fun e w' => ∃ v0_ : Value, e = .returned (v0_) ∧ Kd.N k41 41 w' w.heap.size (fun k_ => (P0_ k_ ∨ w.heap.size ≤ k_)) v0_ r ∧ Below w.heap.size w w' := by
  refine (impl_KeptFor.callsS k P0_ A0 c0 l0 a1 r w hs0 hT h).mono ?_
  rintro e w' ⟨v, he, hs, hb⟩
  exact ⟨v, he, Kd.N_mono (Kd.S_N (Kd.S_bound hs)) (fun k_ hk => .inr hk.2.1), hb⟩

end Go.Proofs.YtpigbffaacilfaaDoor.P
