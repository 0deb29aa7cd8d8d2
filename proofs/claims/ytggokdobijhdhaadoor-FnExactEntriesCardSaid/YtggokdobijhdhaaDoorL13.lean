/- laws_toNode and laws_toNodeS call each other: told by mutual recursion on the rounds, and walked by induction on them, out of two printed halves (a program of this work, mutual.py). -/
import Derived.Test.YtggokdobijhdhaaDoorPx0
import Derived.Test.YtggokdobijhdhaaDoorS
import Derived.Test.YtggokdobijhdhaaDoorPx12
import Derived.Test.YtggokdobijhdhaaDoorM2
import Derived.Test.YtggokdobijhdhaaDoorL12
namespace Go.Proofs.YtggokdobijhdhaaDoor.P
open Go.RowKit Go.Proofs.YtggokdobijhdhaaDoor.X Go.Proofs.YtggokdobijhdhaaDoor.X Go.Proofs.YtggokdobijhdhaaDoor.P Go.Proofs.YtggokdobijhdhaaDoorW.PrintWords Go.Proofs.YtggokdobijhdhaaDoorW.PrintLast Go.Proofs.YtggokdobijhdhaaDoorW.PrintMore
set_option maxHeartbeats 8000000
set_option maxRecDepth 100000
set_option linter.unusedVariables false
set_option linter.unusedSimpArgs false
abbrev laws_toNodeS.CT (k : Nat) : Prop := ∀ (A0 : Option Addr) (c0 : Nat) (l0 : List (S26)) (r : List (S33)) (w : World) (hr0 : Kd.C k26 w A0 l0.length l0) (hc0 : l0.length ≤ c0) (h : laws_toNodeS.f k l0 = some r), Calls Tryd.prog 28 #[.slice A0 l0.length c0] w fun e w' => ∃ v0_ : Value, e = .returned (v0_) ∧ Kd.S kT 33 w' w.heap.size (fun _ => True) v0_ r ∧ Below w.heap.size w w'
abbrev laws_toNode.CT (k : Nat) : Prop := ∀ (A0_0 : Option Addr) (c0_0 : Nat) (l0_0 : List ByteArray) (A0_1 : Option Addr) (c0_1 : Nat) (l0_1 : List (S26)) (A0_2 : Option Addr) (c0_2 : Nat) (l0_2 : List (S83)) (r1 : List ByteArray) (r2 : List (S33)) (r3 : List (S86)) (w : World) (hr0_0 : Kd.C Kd.string w A0_0 l0_0.length l0_0) (hc0_0 : l0_0.length ≤ c0_0) (hr0_1 : Kd.C k26 w A0_1 l0_1.length l0_1) (hc0_1 : l0_1.length ≤ c0_1) (hr0_2 : Kd.C k83 w A0_2 l0_2.length l0_2) (hc0_2 : l0_2.length ≤ c0_2) (h : laws_toNode.f k l0_0 l0_1 l0_2 = some (r1, r2, r3)), Calls Tryd.prog 8 #[.agg #[.slice A0_0 l0_0.length c0_0, .slice A0_1 l0_1.length c0_1, .slice A0_2 l0_2.length c0_2]] w fun e w' => ∃ v0_ v1_ v2_ : Value, e = .returned (.agg #[v0_, v1_, v2_]) ∧ Kd.R Kd.string 9 w' w.heap.size (fun _ => True) v0_ r1 ∧ Kd.S kT 33 w' w.heap.size (fun k_ => some k_ ≠ (v0_ : Value).ownBlock ∧ some k_ ≠ (v2_ : Value).ownBlock) v1_ r2 ∧ Kd.R k86 86 w' w.heap.size (fun _ => True) v2_ r3 ∧ Below w.heap.size w w'
theorem laws_toNodeS.stepT (k : Nat) (IH : ∀ j, j < k → laws_toNode.CT j) (A0 : Option Addr) (c0 : Nat) (l0 : List (S26)) (r : List (S33)) (w : World) (hr0 : Kd.C k26 w A0 l0.length l0) (hc0 : l0.length ≤ c0) (h : (if 0 ≤ (l0.length : Int) then (if ((l0.length : Int) : Int).toNat ≤ 3909374676536 then (laws_toNodeS.l0 k l0 (List.replicate ((l0.length : Int) : Int).toNat z33) 0) else (none)) else (none)) = some r) :
  Calls Tryd.prog 28 #[.slice A0 l0.length c0] w fun e w' => ∃ v0_ : Value, e = .returned (v0_) ∧ Kd.S kT 33 w' w.heap.size (fun _ => True) v0_ r ∧ Below w.heap.size w w' := by
 have huz1 := Tryd.underlying26
 have huz2 := Tryd.underlying33
 have HRz1 := Aside0.mk hr0
 have HCz1 := Aside0.mk hc0
 clear hr0 hc0
 have HB := Aside0.mk (Below.refl w.heap.size w)
 have H : (if 0 ≤ (l0.length : Int) then (if ((l0.length : Int) : Int).toNat ≤ 3909374676536 then (laws_toNodeS.l0 k l0 (List.replicate ((l0.length : Int) : Int).toNat z33) 0) else (none)) else (none)) = some r := h
 clear h
 by_cases cz1 : 0 ≤ (l0.length : Int)
 ·rw [if_pos cz1] at H
  have cz2 := eq_true cz1
  have cz3 : decide (0 ≤ (l0.length : Int)) = true := decide_eq_true cz1
  clear cz1
  by_cases cz4 : ((l0.length : Int) : Int).toNat ≤ 3909374676536
  ·rw [if_pos cz4] at H
   have cz5 := eq_true cz4
   have cz6 : decide (((l0.length : Int) : Int).toNat ≤ 3909374676536) = true := decide_eq_true cz4
   clear cz4
   obtain ⟨yz1, hyz1⟩ : ∃ y_ : List (S33), y_ = (List.replicate ((l0.length : Int) : Int).toNat z33) := ⟨_, rfl⟩
   (first | (with_reducible replace H := ys_ hyz1 H; (try dsimp only at H)) | rw [← hyz1] at H | skip)
   have Nyz1 := Aside0.mk hyz1
   clear hyz1
   have H' := Aside0.mk H
   clear H
   go_enter Tryd.func28, Tryd.ntmps28
   go_wp2_with (first | ((with_reducible refine gate_dst (N := 7) rfl ?_); refine Kd.S_make kT _ 33 rfl (N := 7) rfl 30 _ _ rfl (l0.length : Int) rfl rfl Tryd.underlying30 (.agg #[(.slice none 0 0), (.slice none 0 0), (.slice none 0 0)]) 72 info33 rfl (by decide) (by omega) z33 (ok := fun _ => True) (okp := fun _ => True) (kT_zero _ _ _) (fun _ hk => hk) trivial (dt_) (Nat.le_trans (Nat.mul_le_mul_right _ (dt_ : (l0.length : Int).toNat ≤ 3909374676536)) (by omega)) (Below.refl _ _) (Nat.le_refl _) ?_; intro vz1 wz1 hoz1 hb hg_ hnew_; clear hg_ hnew_; (first | rw [← Nyz1.out] at hoz1 | (simp only [Int.reduceToNat] at hoz1; rw [← Nyz1.out] at hoz1)); have HOz1 := Aside0.mk (Kd.S_lower hoz1 (below_size be_)); replace HB := bw_ hb; clear hb hoz1))
   go_loopg [4] k (fun kq v4 w' => ∃ (x3_1 : List (S33)) (x4_1 : Int), v4 = .int .i64 x4_1 ∧ Aside0 (laws_toNodeS.l0 kq l0 x3_1 x4_1 = some r) ∧ Aside0 (kq ≤ k) ∧ Aside0 (Kd.S kT 33 w' w.heap.size (fun _ => True) vz1 x3_1) ∧ Aside0 (Below w.heap.size w w'))
   case atStart => exact ⟨(yz1), (0), rs_, H', ⟨Nat.le_refl _⟩, ⟨lS_ HOz1.out⟩, ⟨be_⟩⟩
   case round =>
    clear H'
    obtain ⟨xz1, xz2, rfl, HA, HKz1, HO_3, HB⟩ := hrel
    cases gk with
    | zero => exact absurd HA.out (by simp [laws_toNodeS.l0])
    | succ kz1 =>
     have H := HA.out
     clear HA
     simp only [laws_toNodeS.l0] at H
     by_cases cz7 : xz2 < (l0.length : Int)
     ·rw [if_pos cz7] at H
      have cz8 : decide (xz2 < (l0.length : Int)) = true := decide_eq_true cz7
      clear cz7
      by_cases cz9 : 0 ≤ xz2
      ·rw [if_pos cz9] at H
       have cz10 : decide (0 ≤ xz2) = true := decide_eq_true cz9
       clear cz9
       replace H := bo_ H
       obtain ⟨⟨tz1, tz2, tz3⟩, Az2, H⟩ := H
       (try dsimp only at H)
       by_cases cz11 : xz2 < (xz1.length : Int)
       ·rw [if_pos cz11] at H
        have cz12 : decide (xz2 < (xz1.length : Int)) = true := decide_eq_true cz11
        clear cz11
        obtain ⟨yz2, hyz2⟩ : ∃ y_ : List (S33), y_ = (xz1.set (xz2 : Int).toNat (⟨tz1, tz2, tz3⟩ : S33)) := ⟨_, rfl⟩
        (first | (with_reducible replace H := ys_ hyz2 H; (try dsimp only at H)) | rw [← hyz2] at H | skip)
        have Nyz2 := Aside0.mk hyz2
        clear hyz2
        have H' := Aside0.mk H
        clear H
        obtain ⟨pz1, qz1, adz1, Az3, cz13, Az4, cz14, Az5, cz15, ez1, hxz1, hxz2, hxz3, hlz1, hiz1, hlz2, hiz2, hlz3, hiz3⟩ := aa_ (at_T26 HRz1.out xz2)
        cases ez1
        replace hxz1 := cl_ HB hxz1
        replace hxz2 := cl_ HB hxz2
        replace hxz3 := cl_ HB hxz3
        have HRz2 := Aside0.mk hiz1
        have HCz2 := Aside0.mk hlz1
        clear hiz1 hlz1
        have HRz3 := Aside0.mk hiz2
        have HCz3 := Aside0.mk hlz2
        clear hiz2 hlz2
        have HRz4 := Aside0.mk hiz3
        have HCz4 := Aside0.mk hlz3
        clear hiz3 hlz3
        have p2_ : 0 ≤ xz2 := of_decide_eq_true cz10
        have q2_ : xz2 < (xz1.length : Int) := of_decide_eq_true cz12
        obtain ⟨go_, co_, rfl, gb_, gl_, -⟩ := Kd.S_form HO_3.out (by omega)
        have GB_ := Aside0.mk gb_
        have P2_ := Aside0.mk p2_
        have Q2_ := Aside0.mk q2_
        replace p2_ := eq_true p2_
        replace q2_ := eq_true q2_
        clear gb_ gl_
        go_wp2_with (first | ((with_reducible refine gate_callee (f := 8) rfl ?_); refine ca_ 20 Tryd.func8 #[.agg #[.slice Az3 ((rd_T26 l0 xz2).f0).length cz13, .slice Az4 ((rd_T26 l0 xz2).f1).length cz14, .slice Az5 ((rd_T26 l0 xz2).f2).length cz15]] ?_; (with_reducible refine (IH kz1 (by first | exact Nat.lt_of_succ_le HKz1.out | (have := HKz1.out; omega)) _ _ ((rd_T26 l0 xz2).f0) _ _ ((rd_T26 l0 xz2).f1) _ _ ((rd_T26 l0 xz2).f2) tz1 tz2 tz3 _ ?side1 ?side2 ?side3 ?side4 ?side5 ?side6 Az2.out).mono ?_); (case side1 => exact Kd.C_below HRz2.out be_); (case side2 => exact HCz2.out); (case side3 => exact Kd.C_below HRz3.out be_); (case side4 => exact HCz3.out); (case side5 => exact Kd.C_below HRz4.out be_); (case side6 => exact HCz4.out); rintro e wz2 ⟨vz2, vz3, vz4, rfl, hoz2, hoz3, hoz4, hb⟩; refine ⟨_, rfl, ?_⟩; obtain ⟨oki_, c_, hH_, hM_⟩ := toT_prep HO_3.out hb (below_size HB.out) hoz2 hoz3 hoz4 xz2 P2_.out Q2_.out; have HH_ := Aside0.mk hH_; have HM_ := Aside0.mk hM_; obtain ⟨B0_, d0_, rfl⟩ := Kd.R_slice hoz2; obtain ⟨B1_, d1_, rfl⟩ := Kd.S_slice hoz3; obtain ⟨B2_, d2_, rfl⟩ := Kd.R_slice hoz4; have XM_ := Aside0.mk (Below.refl wz2.heap.size wz2); replace HB := bw_ hb; clear HO_3 hb hoz2 hoz3 hoz4 hH_ hM_) | ((with_reducible refine gate_store (t := 33) (p := 21) rfl ?_); have ho_ : ∀ q ∈ ([.slice B0_ tz1.length d0_, .slice B1_ tz2.length d1_, .slice B2_ tz3.length d2_] : List Value), q.oneCell' = true := (by intro q hq; simp only [List.mem_cons, List.not_mem_nil, or_false] at hq; rcases hq with rfl | rfl | rfl <;> rfl); refine Kd.H_store (o' := xz2.toNat * 3) kT w.heap.size rfl rfl 33 (.tmp 21) (.tmp 20) rfl 33 xz2 0 xz1 ⟨tz1, tz2, tz3⟩ (.agg #[.slice B0_ tz1.length d0_, .slice B1_ tz2.length d1_, .slice B2_ tz3.length d2_]) [.slice B0_ tz1.length d0_, .slice B1_ tz2.length d1_, .slice B2_ tz3.length d2_] c_ (fun _ => True) (fun k => oki_ k ∨ wr.heap.size ≤ k) (fun k => wr.heap.size ≤ k) rfl (by show _ = xz2.toNat * 3 + 0; omega) rfl rfl (by kernel_rfl) ho_ HH_.out P2_.out Q2_.out (show 0 + 3 ≤ 3 by decide) HM_.out (fun _ hk => Or.inr hk) HB.out ?_; clear ho_; intro wz3 hS_ hB_ hg_; have HO_3 := Aside0.mk hS_; rw [← Nyz2.out] at hS_; replace HO_3 := Aside0.mk hS_; replace HB := Aside0.mk hB_; clear HH_ HM_ hS_ hB_ hg_))
        go_roundg kz1
        case measure => have := HKz1.out; omega
        case rel => exact ⟨(yz2), (wrap64 (xz2 + 1)), rs_, H', ⟨by have := HKz1.out; omega⟩, ⟨lS_ HO_3.out⟩, ⟨be_⟩⟩
       ·rw [if_neg cz11] at H
        exact absurd H (by simp)
      ·rw [if_neg cz9] at H
       exact absurd H (by simp)
     ·rw [if_neg cz7] at H
      have cz8 : decide (xz2 < (l0.length : Int)) = false := decide_eq_false cz7
      clear cz7
      obtain rfl := Option.some.inj H
      go_wp2
      go_ret
      exact ⟨_, er_, lS_ HO_3.out, be_⟩
  ·rw [if_neg cz4] at H
   exact absurd H (by simp)
 ·rw [if_neg cz1] at H
  exact absurd H (by simp)

theorem laws_toNode.stepT (k : Nat) (IH : laws_toNodeS.CT k) (A0_0 : Option Addr) (c0_0 : Nat) (l0_0 : List ByteArray) (A0_1 : Option Addr) (c0_1 : Nat) (l0_1 : List (S26)) (A0_2 : Option Addr) (c0_2 : Nat) (l0_2 : List (S83)) (r1 : List ByteArray) (r2 : List (S33)) (r3 : List (S86)) (w : World) (hr0_0 : Kd.C Kd.string w A0_0 l0_0.length l0_0) (hc0_0 : l0_0.length ≤ c0_0) (hr0_1 : Kd.C k26 w A0_1 l0_1.length l0_1) (hc0_1 : l0_1.length ≤ c0_1) (hr0_2 : Kd.C k83 w A0_2 l0_2.length l0_2) (hc0_2 : l0_2.length ≤ c0_2) (h : ((laws_toStringS.f k l0_0).bind fun t253 => ((laws_toNodeS.f k l0_1).bind fun t256 => ((laws_toSubS.f k l0_2).bind fun t259 => (some (t253, t256, t259))))) = some (r1, r2, r3)) :
  Calls Tryd.prog 8 #[.agg #[.slice A0_0 l0_0.length c0_0, .slice A0_1 l0_1.length c0_1, .slice A0_2 l0_2.length c0_2]] w fun e w' => ∃ v0_ v1_ v2_ : Value, e = .returned (.agg #[v0_, v1_, v2_]) ∧ Kd.R Kd.string 9 w' w.heap.size (fun _ => True) v0_ r1 ∧ Kd.S kT 33 w' w.heap.size (fun k_ => some k_ ≠ (v0_ : Value).ownBlock ∧ some k_ ≠ (v2_ : Value).ownBlock) v1_ r2 ∧ Kd.R k86 86 w' w.heap.size (fun _ => True) v2_ r3 ∧ Below w.heap.size w w' := by
 have huz1 := Tryd.underlying26
 have huz2 := Tryd.underlying33
 have HRz1 := Aside0.mk hr0_0
 have HCz1 := Aside0.mk hc0_0
 clear hr0_0 hc0_0
 have HRz2 := Aside0.mk hr0_1
 have HCz2 := Aside0.mk hc0_1
 clear hr0_1 hc0_1
 have HRz3 := Aside0.mk hr0_2
 have HCz3 := Aside0.mk hc0_2
 clear hr0_2 hc0_2
 have HB := Aside0.mk (Below.refl w.heap.size w)
 have H : ((laws_toStringS.f k l0_0).bind fun t253 => ((laws_toNodeS.f k l0_1).bind fun t256 => ((laws_toSubS.f k l0_2).bind fun t259 => (some (t253, t256, t259))))) = some (r1, r2, r3) := h
 clear h
 replace H := bo_ H
 obtain ⟨tz1, Az2, H⟩ := H
 (try dsimp only at H)
 replace H := bo_ H
 obtain ⟨tz2, Az4, H⟩ := H
 (try dsimp only at H)
 replace H := bo_ H
 obtain ⟨tz3, Az6, H⟩ := H
 (try dsimp only at H)
 simp only [Option.some.injEq, Prod.mk.injEq] at H
 obtain ⟨rfl, rfl, rfl⟩ := H
 go_enter Tryd.func8, Tryd.ntmps8
 go_wp2_with (first | ((with_reducible refine gate_dst (N := 1) rfl ?_); refine box_event ?hg (N := 1) ?hd (cs := #[.slice A0_0 l0_0.length c0_0, .slice A0_1 l0_1.length c0_1, .slice A0_2 l0_2.length c0_2]) (t := 26) ?hr ?_; (case hd => rfl); (case hg => rfl); (case hr => first | (go_simp; done) | (go_simp; rfl)); intro gbz1 hg wz1 hbox hb; have BKz1 := Aside0.mk (hbox); have GWz1 := Aside0.mk ((sz_ : w.heap.size ≤ gbz1)); have GEz1 := Aside0.mk ((sz_ : w.heap.size ≤ gbz1)); replace HB := bw_ hb; clear hb hbox hg) | ((with_reducible refine gate_dst (N := 2) rfl ?_); refine box_event ?hg (N := 2) ?hd (cs := #[.slice none 0 0, .slice none 0 0, .slice none 0 0]) (t := 33) ?hr ?_; (case hd => rfl); (case hg => rfl); (case hr => first | (go_simp; done) | (go_simp; rfl)); intro gbz2 hg wz2 hbox hb; have BKz2 := Aside0.mk (hbox); have GWz2 := Aside0.mk ((sz_ : w.heap.size ≤ gbz2)); have GEz2 := Aside0.mk ((sz_ : w.heap.size ≤ gbz2)); replace HB := bw_ hb; have NBz1 := Aside0.mk ((by rw [hg]; exact Nat.ne_of_lt (blk_lt (g := gbz1) (o := .cells #[.slice A0_0 l0_0.length c0_0, .slice A0_1 l0_1.length c0_1, .slice A0_2 l0_2.length c0_2] 26 (0, 0)) bk_) : gbz1 ≠ gbz2)); have NBz2 := Aside0.mk ((by rw [hg]; exact Nat.ne_of_gt (blk_lt (g := gbz1) (o := .cells #[.slice A0_0 l0_0.length c0_0, .slice A0_1 l0_1.length c0_1, .slice A0_2 l0_2.length c0_2] 26 (0, 0)) bk_) : gbz2 ≠ gbz1)); replace BKz1 := kb_ BKz1 hb; clear hb hbox hg) | ((with_reducible refine gate_dst (N := 3) rfl ?_); refine box_event ?hg (N := 3) ?hd (cs := #[.slice none 0 0, .slice none 0 0, .slice none 0 0]) (t := 33) ?hr ?_; (case hd => rfl); (case hg => rfl); (case hr => first | (go_simp; done) | (go_simp; rfl)); intro gbz3 hg wz3 hbox hb; have nz1 := Aside0.mk (blk_below (g := gbz1) (o := .cells #[.slice A0_0 l0_0.length c0_0, .slice A0_1 l0_1.length c0_1, .slice A0_2 l0_2.length c0_2] 26 (0, 0)) bk_ hb); have nz2 := Aside0.mk (blk_below (g := gbz2) (o := .cells #[.slice none 0 0, .slice none 0 0, .slice none 0 0] 33 (0, 0)) bk_ hb); have nz3 := bw_ hb; have nz4 := Aside0.mk (hbox); have nz5 := Aside0.mk ((sz_ : w.heap.size ≤ gbz3)); have nz6 := Aside0.mk ((sz_ : w.heap.size ≤ gbz3)); have nz7 := Aside0.mk ((by rw [hg]; exact Nat.ne_of_lt (blk_lt (g := gbz1) (o := .cells #[.slice A0_0 l0_0.length c0_0, .slice A0_1 l0_1.length c0_1, .slice A0_2 l0_2.length c0_2] 26 (0, 0)) bk_) : gbz1 ≠ gbz3)); have nz8 := Aside0.mk ((by rw [hg]; exact Nat.ne_of_gt (blk_lt (g := gbz1) (o := .cells #[.slice A0_0 l0_0.length c0_0, .slice A0_1 l0_1.length c0_1, .slice A0_2 l0_2.length c0_2] 26 (0, 0)) bk_) : gbz3 ≠ gbz1)); have nz9 := Aside0.mk ((by rw [hg]; exact Nat.ne_of_lt (blk_lt (g := gbz2) (o := .cells #[.slice none 0 0, .slice none 0 0, .slice none 0 0] 33 (0, 0)) bk_) : gbz2 ≠ gbz3)); have nz10 := Aside0.mk ((by rw [hg]; exact Nat.ne_of_gt (blk_lt (g := gbz2) (o := .cells #[.slice none 0 0, .slice none 0 0, .slice none 0 0] 33 (0, 0)) bk_) : gbz3 ≠ gbz2)); clear BKz1 BKz2 HB; have BKz1 := nz1; have BKz2 := nz2; have HB := nz3; have BKz3 := nz4; have GWz3 := nz5; have GEz3 := nz6; have NBz3 := nz7; have NBz4 := nz8; have NBz5 := nz9; have NBz6 := nz10; clear nz1 nz2 nz3 nz4 nz5 nz6 nz7 nz8 nz9 nz10 hb hbox hg; have hnbz1 := NBz1.out; have hncz1 := NBz2.out; have hnbz2 := NBz3.out; have hncz2 := NBz4.out; have hczz1 : wz3.cell? ⟨gbz1, 0, none⟩ = some (.slice A0_0 l0_0.length c0_0) := bc_ BKz1 0; have hczz2 : wz3.cell? ⟨gbz1, 1, none⟩ = some (.slice A0_1 l0_1.length c0_1) := bc_ BKz1 1; have hczz3 : wz3.cell? ⟨gbz1, 2, none⟩ = some (.slice A0_2 l0_2.length c0_2) := bc_ BKz1 2; have hfzz1 := blk_frozen BKz1.out 0; have hfzz2 := blk_frozen BKz1.out 1; have hfzz3 := blk_frozen BKz1.out 2) | ((with_reducible refine gate_callee (f := 27) rfl ?_); refine ca_ 6 Tryd.func27 #[.slice A0_0 l0_0.length c0_0] ?_; (with_reducible refine (laws_toStringS.calls k _ _ l0_0 tz1 _ ?side1 ?side2 Az2.out).mono ?_); (case side1 => exact Kd.C_below HRz1.out be_); (case side2 => exact HCz1.out); rintro e wz4 ⟨vz1, rfl, hoz1, hb⟩; refine ⟨_, rfl, ?_⟩; have nz1 := Aside0.mk (Kd.R_lower hoz1 (below_size be_)); have nz2 := Aside0.mk (blk_below (g := gbz1) (o := .cells #[.slice A0_0 l0_0.length c0_0, .slice A0_1 l0_1.length c0_1, .slice A0_2 l0_2.length c0_2] 26 (0, 0)) bk_ hb); have nz3 := Aside0.mk (blk_below (g := gbz2) (o := .cells #[.slice none 0 0, .slice none 0 0, .slice none 0 0] 33 (0, 0)) bk_ hb); have nz4 := Aside0.mk (blk_below (g := gbz3) (o := .cells #[.slice none 0 0, .slice none 0 0, .slice none 0 0] 33 (0, 0)) bk_ hb); have nz5 := bw_ hb; clear BKz1 BKz2 BKz3 HB; have HOz1 := nz1; have BKz1 := nz2; have BKz2 := nz3; have BKz3 := nz4; have HB := nz5; clear nz1 nz2 nz3 nz4 nz5 hb hoz1; obtain ⟨Aoz1, coz1, eoz1⟩ := Kd.R_slice HOz1.out; subst eoz1; have hnbz3 := NBz6.out; have hncz3 := NBz5.out; have hczz4 : wz4.cell? ⟨gbz3, 0, none⟩ = some (.slice none 0 0) := bc_ BKz3 0; have hczz5 : wz4.cell? ⟨gbz3, 1, none⟩ = some (.slice none 0 0) := bc_ BKz3 1; have hczz6 : wz4.cell? ⟨gbz3, 2, none⟩ = some (.slice none 0 0) := bc_ BKz3 2; have hfzz4 := blk_frozen BKz3.out 0; have hfzz5 := blk_frozen BKz3.out 1; have hfzz6 := blk_frozen BKz3.out 2; have hczz7 : wz4.cell? ⟨gbz1, 0, none⟩ = some (.slice A0_0 l0_0.length c0_0) := bc_ BKz1 0; have hczz8 : wz4.cell? ⟨gbz1, 1, none⟩ = some (.slice A0_1 l0_1.length c0_1) := bc_ BKz1 1; have hczz9 : wz4.cell? ⟨gbz1, 2, none⟩ = some (.slice A0_2 l0_2.length c0_2) := bc_ BKz1 2; have hfzz7 := blk_frozen BKz1.out 0; have hfzz8 := blk_frozen BKz1.out 1; have hfzz9 := blk_frozen BKz1.out 2) | ((with_reducible refine gate_callee (f := 28) rfl ?_); refine ca_ 10 Tryd.func28 #[.slice A0_1 l0_1.length c0_1] ?_; (with_reducible refine (IH _ _ l0_1 tz2 _ ?side1 ?side2 Az4.out).mono ?_); (case side1 => exact Kd.C_below HRz2.out be_); (case side2 => exact HCz2.out); rintro e wz5 ⟨vz2, rfl, hoz1, hb⟩; refine ⟨_, rfl, ?_⟩; have HOz2 := Aside0.mk (Kd.S_lower (Kd.S_newB (Kd.S_newB (Kd.S_new' hoz1 (Kd.R_lt (lR_ ((Kd.R_mono (Kd.R_far (p := ⟨gbz3, 0, none⟩) (Kd.R_types HOz1.out BKz3.out (by decide)) (fun _ hk => hk.2) (.slice Aoz1 tz1.length coz1)) (fun _ h_ => h_.1)))))) (g := gbz2) (o := .cells #[.slice none 0 0, .slice none 0 0, .slice none 0 0] 33 (0, 0)) (by (with_reducible repeat (first | refine blk_drewN ?_ _ | refine blk_drew ?_ | refine blk_alloc ?_ _)); refine blk_far ?_ NBz5.out _; (with_reducible repeat (first | refine blk_drewN ?_ _ | refine blk_drew ?_ | refine blk_alloc ?_ _)); exact BKz2.out)) (g := gbz3) (o := .cells #[.slice Aoz1 tz1.length coz1, .slice none 0 0, .slice none 0 0] 33 (0, 0)) (by (with_reducible repeat (first | refine blk_drewN ?_ _ | refine blk_drew ?_ | refine blk_alloc ?_ _)); refine blk_put (cs := #[.slice none 0 0, .slice none 0 0, .slice none 0 0]) ?_ 0 _ rfl; (with_reducible repeat (first | refine blk_drewN ?_ _ | refine blk_drew ?_ | refine blk_alloc ?_ _)); exact BKz3.out)) (below_size be_)); replace HOz1 := Aside0.mk (Kd.R_below (lR_ ((Kd.R_mono (Kd.R_far (p := ⟨gbz3, 0, none⟩) (Kd.R_types HOz1.out BKz3.out (by decide)) (fun _ hk => hk.2) (.slice Aoz1 tz1.length coz1)) (fun _ h_ => h_.1)))) hb); replace HB := bw_ hb; replace BKz1 := Aside0.mk (blk_below (g := gbz1) (o := .cells #[.slice A0_0 l0_0.length c0_0, .slice A0_1 l0_1.length c0_1, .slice A0_2 l0_2.length c0_2] 26 (0, 0)) (by (with_reducible repeat (first | refine blk_drewN ?_ _ | refine blk_drew ?_ | refine blk_alloc ?_ _)); refine blk_far ?_ NBz3.out _; (with_reducible repeat (first | refine blk_drewN ?_ _ | refine blk_drew ?_ | refine blk_alloc ?_ _)); exact BKz1.out) hb); replace BKz2 := Aside0.mk (blk_below (g := gbz2) (o := .cells #[.slice none 0 0, .slice none 0 0, .slice none 0 0] 33 (0, 0)) (by (with_reducible repeat (first | refine blk_drewN ?_ _ | refine blk_drew ?_ | refine blk_alloc ?_ _)); refine blk_far ?_ NBz5.out _; (with_reducible repeat (first | refine blk_drewN ?_ _ | refine blk_drew ?_ | refine blk_alloc ?_ _)); exact BKz2.out) hb); replace BKz3 := Aside0.mk (blk_below (g := gbz3) (o := .cells #[.slice Aoz1 tz1.length coz1, .slice none 0 0, .slice none 0 0] 33 (0, 0)) (by (with_reducible repeat (first | refine blk_drewN ?_ _ | refine blk_drew ?_ | refine blk_alloc ?_ _)); refine blk_put (cs := #[.slice none 0 0, .slice none 0 0, .slice none 0 0]) ?_ 0 _ rfl; (with_reducible repeat (first | refine blk_drewN ?_ _ | refine blk_drew ?_ | refine blk_alloc ?_ _)); exact BKz3.out) hb); clear hb hoz1; obtain ⟨Aoz2, coz2, eoz2⟩ := Kd.S_slice HOz2.out; subst eoz2; have hczz10 : wz5.cell? ⟨gbz3, 0, none⟩ = some (.slice Aoz1 tz1.length coz1) := bc_ BKz3 0; have hczz11 : wz5.cell? ⟨gbz3, 1, none⟩ = some (.slice none 0 0) := bc_ BKz3 1; have hczz12 : wz5.cell? ⟨gbz3, 2, none⟩ = some (.slice none 0 0) := bc_ BKz3 2; have hfzz10 := blk_frozen BKz3.out 0; have hfzz11 := blk_frozen BKz3.out 1; have hfzz12 := blk_frozen BKz3.out 2; have hczz13 : wz5.cell? ⟨gbz1, 0, none⟩ = some (.slice A0_0 l0_0.length c0_0) := bc_ BKz1 0; have hczz14 : wz5.cell? ⟨gbz1, 1, none⟩ = some (.slice A0_1 l0_1.length c0_1) := bc_ BKz1 1; have hczz15 : wz5.cell? ⟨gbz1, 2, none⟩ = some (.slice A0_2 l0_2.length c0_2) := bc_ BKz1 2; have hfzz13 := blk_frozen BKz1.out 0; have hfzz14 := blk_frozen BKz1.out 1; have hfzz15 := blk_frozen BKz1.out 2) | ((with_reducible refine gate_callee (f := 29) rfl ?_); refine ca_ 14 Tryd.func29 #[.slice A0_2 l0_2.length c0_2] ?_; (with_reducible refine (laws_toSubS.calls k _ _ l0_2 tz3 _ ?side1 ?side2 Az6.out).mono ?_); (case side1 => exact Kd.C_below HRz3.out be_); (case side2 => exact HCz3.out); rintro e wz6 ⟨vz3, rfl, hoz1, hb⟩; refine ⟨_, rfl, ?_⟩; replace HOz1 := Aside0.mk (Kd.R_below (lR_ ((Kd.R_mono (Kd.R_far (p := ⟨gbz3, 1, none⟩) (Kd.R_types HOz1.out BKz3.out (by decide)) (fun _ hk => hk.2) (.slice Aoz2 tz2.length coz2)) (fun _ h_ => h_.1)))) hb); replace HOz2 := Aside0.mk (Kd.S_elder' (lS_ ((Kd.S_mono (Kd.S_far (p := ⟨gbz3, 1, none⟩) (Kd.S_mono HOz2.out (fun k_ hk => (⟨hk, hk.2⟩ : _ ∧ k_ ≠ gbz3))) (fun _ hk => hk.2) (.slice Aoz2 tz2.length coz2)) (fun _ h_ => h_.1)))) (Kd.R_base hoz1) hb); have HOz3 := Aside0.mk (Kd.R_lower hoz1 (below_size be_)); replace HB := bw_ hb; replace BKz1 := Aside0.mk (blk_below (g := gbz1) (o := .cells #[.slice A0_0 l0_0.length c0_0, .slice A0_1 l0_1.length c0_1, .slice A0_2 l0_2.length c0_2] 26 (0, 0)) (by (with_reducible repeat (first | refine blk_drewN ?_ _ | refine blk_drew ?_ | refine blk_alloc ?_ _)); refine blk_far ?_ NBz3.out _; (with_reducible repeat (first | refine blk_drewN ?_ _ | refine blk_drew ?_ | refine blk_alloc ?_ _)); exact BKz1.out) hb); replace BKz2 := Aside0.mk (blk_below (g := gbz2) (o := .cells #[.slice none 0 0, .slice none 0 0, .slice none 0 0] 33 (0, 0)) (by (with_reducible repeat (first | refine blk_drewN ?_ _ | refine blk_drew ?_ | refine blk_alloc ?_ _)); refine blk_far ?_ NBz5.out _; (with_reducible repeat (first | refine blk_drewN ?_ _ | refine blk_drew ?_ | refine blk_alloc ?_ _)); exact BKz2.out) hb); replace BKz3 := Aside0.mk (blk_below (g := gbz3) (o := .cells #[.slice Aoz1 tz1.length coz1, .slice Aoz2 tz2.length coz2, .slice none 0 0] 33 (0, 0)) (by (with_reducible repeat (first | refine blk_drewN ?_ _ | refine blk_drew ?_ | refine blk_alloc ?_ _)); refine blk_put (cs := #[.slice Aoz1 tz1.length coz1, .slice none 0 0, .slice none 0 0]) ?_ 1 _ rfl; (with_reducible repeat (first | refine blk_drewN ?_ _ | refine blk_drew ?_ | refine blk_alloc ?_ _)); exact BKz3.out) hb); clear hb hoz1; obtain ⟨Aoz3, coz3, eoz3⟩ := Kd.R_slice HOz3.out; subst eoz3; have hczz16 : wz6.cell? ⟨gbz3, 0, none⟩ = some (.slice Aoz1 tz1.length coz1) := bc_ BKz3 0; have hczz17 : wz6.cell? ⟨gbz3, 1, none⟩ = some (.slice Aoz2 tz2.length coz2) := bc_ BKz3 1; have hczz18 : wz6.cell? ⟨gbz3, 2, none⟩ = some (.slice none 0 0) := bc_ BKz3 2; have hfzz16 := blk_frozen BKz3.out 0; have hfzz17 := blk_frozen BKz3.out 1; have hfzz18 := blk_frozen BKz3.out 2; have hczz19 : wz6.cell? ⟨gbz2, 0, none⟩ = some (.slice none 0 0) := bc_ BKz2 0; have hczz20 : wz6.cell? ⟨gbz2, 1, none⟩ = some (.slice none 0 0) := bc_ BKz2 1; have hczz21 : wz6.cell? ⟨gbz2, 2, none⟩ = some (.slice none 0 0) := bc_ BKz2 2; have hfzz19 := blk_frozen BKz2.out 0; have hfzz20 := blk_frozen BKz2.out 1; have hfzz21 := blk_frozen BKz2.out 2))
 refine bodyPost_ret (results_cell_row rfl _ _ gbz2 33 #[.slice Aoz1 tz1.length coz1, .slice Aoz2 tz2.length coz2, .slice Aoz3 tz3.length coz3] (0, 0) _ rfl (by (with_reducible repeat (first | refine blk_drewN ?_ _ | refine blk_drew ?_ | refine blk_alloc ?_ _)); refine blk_put (cs := #[.slice Aoz1 tz1.length coz1, .slice Aoz2 tz2.length coz2, .slice none 0 0]) ?_ 2 _ rfl; (with_reducible repeat (first | refine blk_drewN ?_ _ | refine blk_drew ?_ | refine blk_alloc ?_ _)); refine blk_put (cs := #[.slice Aoz1 tz1.length coz1, .slice none 0 0, .slice none 0 0]) ?_ 1 _ rfl; (with_reducible repeat (first | refine blk_drewN ?_ _ | refine blk_drew ?_ | refine blk_alloc ?_ _)); refine blk_put (cs := #[.slice none 0 0, .slice none 0 0, .slice none 0 0]) ?_ 0 _ rfl; (with_reducible repeat (first | refine blk_drewN ?_ _ | refine blk_drew ?_ | refine blk_alloc ?_ _)); refine blk_far ?_ NBz5.out _; (with_reducible repeat (first | refine blk_drewN ?_ _ | refine blk_drew ?_ | refine blk_alloc ?_ _)); exact BKz2.out) Tryd.underlying33 rfl (by kernel_rfl)) rfl ?_
 exact ⟨_, _, _, er_, lR_ (Kd.R_mono (Kd.R_far (p := ⟨gbz2, 2, none⟩) (Kd.R_far (p := ⟨gbz2, 1, none⟩) (Kd.R_far (p := ⟨gbz2, 0, none⟩) (Kd.R_far (p := ⟨gbz3, 2, none⟩) (Kd.R_types (Kd.R_types HOz1.out BKz3.out (by decide)) BKz2.out (by decide)) (fun _ hk => hk.1.2) (.slice Aoz3 tz3.length coz3)) (fun _ hk => hk.2) (.slice Aoz1 tz1.length coz1)) (fun _ hk => hk.2) (.slice Aoz2 tz2.length coz2)) (fun _ hk => hk.2) (.slice Aoz3 tz3.length coz3)) (fun _ hk => trivial)), lS_ (Kd.S_mono (Kd.S_far (p := ⟨gbz2, 2, none⟩) (Kd.S_far (p := ⟨gbz2, 1, none⟩) (Kd.S_far (p := ⟨gbz2, 0, none⟩) (Kd.S_far (p := ⟨gbz3, 2, none⟩) (Kd.S_mono (Kd.S_mono HOz2.out (fun k_ hk => (⟨hk, hk.1.2⟩ : _ ∧ k_ ≠ gbz3))) (fun k_ hk => (⟨hk, hk.1.1.1.2⟩ : _ ∧ k_ ≠ gbz2))) (fun _ hk => hk.1.2) (.slice Aoz3 tz3.length coz3)) (fun _ hk => hk.2) (.slice Aoz1 tz1.length coz1)) (fun _ hk => hk.2) (.slice Aoz2 tz2.length coz2)) (fun _ hk => hk.2) (.slice Aoz3 tz3.length coz3)) (fun _ hk => ⟨hk.1.1.1.1.1.2, hk.1.1.2⟩)), lR_ (Kd.R_mono (Kd.R_far (p := ⟨gbz2, 2, none⟩) (Kd.R_far (p := ⟨gbz2, 1, none⟩) (Kd.R_far (p := ⟨gbz2, 0, none⟩) (Kd.R_far (p := ⟨gbz3, 2, none⟩) (Kd.R_types (Kd.R_types HOz3.out BKz3.out (by decide)) BKz2.out (by decide)) (fun _ hk => hk.1.2) (.slice Aoz3 tz3.length coz3)) (fun _ hk => hk.2) (.slice Aoz1 tz1.length coz1)) (fun _ hk => hk.2) (.slice Aoz2 tz2.length coz2)) (fun _ hk => hk.2) (.slice Aoz3 tz3.length coz3)) (fun _ hk => trivial)), be_⟩

theorem laws_toNode.bothT : ∀ n k, k ≤ n → laws_toNode.CT k ∧ laws_toNodeS.CT k := by
 intro n
 induction n with
 | zero =>
  intro k hk
  obtain rfl : k = 0 := by omega
  exact ⟨(by intro A0_0 c0_0 l0_0 A0_1 c0_1 l0_1 A0_2 c0_2 l0_2 r1 r2 r3 w hr0_0 hc0_0 hr0_1 hc0_1 hr0_2 hc0_2 h; simp [laws_toNode.f] at h), (by intro A0 c0 l0 r w hr0 hc0 h; simp [laws_toNodeS.f] at h)⟩
 | succ n ih =>
  intro k hk
  cases k with
  | zero => exact ⟨(by intro A0_0 c0_0 l0_0 A0_1 c0_1 l0_1 A0_2 c0_2 l0_2 r1 r2 r3 w hr0_0 hc0_0 hr0_1 hc0_1 hr0_2 hc0_2 h; simp [laws_toNode.f] at h), (by intro A0 c0 l0 r w hr0 hc0 h; simp [laws_toNodeS.f] at h)⟩
  | succ j =>
   refine ⟨?_, ?_⟩
   ·intro A0_0 c0_0 l0_0 A0_1 c0_1 l0_1 A0_2 c0_2 l0_2 r1 r2 r3 w hr0_0 hc0_0 hr0_1 hc0_1 hr0_2 hc0_2 h
    rw [laws_toNode.f_succ] at h
    exact laws_toNode.stepT j (ih j (by omega)).2 A0_0 c0_0 l0_0 A0_1 c0_1 l0_1 A0_2 c0_2 l0_2 r1 r2 r3 w hr0_0 hc0_0 hr0_1 hc0_1 hr0_2 hc0_2 h
   ·intro A0 c0 l0 r w hr0 hc0 h
    rw [laws_toNodeS.f_succ] at h
    exact laws_toNodeS.stepT j (fun i hi => (ih i (by omega)).1) A0 c0 l0 r w hr0 hc0 h
theorem laws_toNode.apart (k : Nat) (A0_0 : Option Addr) (c0_0 : Nat) (l0_0 : List ByteArray) (A0_1 : Option Addr) (c0_1 : Nat) (l0_1 : List (S26)) (A0_2 : Option Addr) (c0_2 : Nat) (l0_2 : List (S83)) (r1 : List ByteArray) (r2 : List (S33)) (r3 : List (S86)) (w : World) (hr0_0 : Kd.C Kd.string w A0_0 l0_0.length l0_0) (hc0_0 : l0_0.length ≤ c0_0) (hr0_1 : Kd.C k26 w A0_1 l0_1.length l0_1) (hc0_1 : l0_1.length ≤ c0_1) (hr0_2 : Kd.C k83 w A0_2 l0_2.length l0_2) (hc0_2 : l0_2.length ≤ c0_2) (h : laws_toNode.f k l0_0 l0_1 l0_2 = some (r1, r2, r3)) :
  Calls Tryd.prog 8 #[.agg #[.slice A0_0 l0_0.length c0_0, .slice A0_1 l0_1.length c0_1, .slice A0_2 l0_2.length c0_2]] w fun e w' => ∃ v0_ v1_ v2_ : Value, e = .returned (.agg #[v0_, v1_, v2_]) ∧ Kd.R Kd.string 9 w' w.heap.size (fun _ => True) v0_ r1 ∧ Kd.S kT 33 w' w.heap.size (fun k_ => some k_ ≠ (v0_ : Value).ownBlock ∧ some k_ ≠ (v2_ : Value).ownBlock) v1_ r2 ∧ Kd.R k86 86 w' w.heap.size (fun _ => True) v2_ r3 ∧ Below w.heap.size w w' := (laws_toNode.bothT k k (Nat.le_refl _)).1 A0_0 c0_0 l0_0 A0_1 c0_1 l0_1 A0_2 c0_2 l0_2 r1 r2 r3 w hr0_0 hc0_0 hr0_1 hc0_1 hr0_2 hc0_2 h
end Go.Proofs.YtggokdobijhdhaaDoor.P
