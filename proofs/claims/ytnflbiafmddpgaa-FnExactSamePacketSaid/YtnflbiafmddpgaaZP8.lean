/- Functions that the law FnExactSamePacket reaches: what each answers, by the path calculus. Printed by a program of this work (gen_same.py). -/
import Derived.Test.YtnflbiafmddpgaaZP7
namespace Go.Proofs.Ytnflbiafmddpgaa.P
open Go.RowKit Go.Proofs.Ytnflbiafmddpgaa.Z
set_option linter.unusedVariables false
set_option maxRecDepth 100000
set_option maxHeartbeats 4000000

/-- A struct whose rows are owned: its cells, its rows. -/
def hdC : Nat → List (C0 T.Tb) → List (Cell T)
  | _, [] => []
  | r, .sc v :: l => .sc v :: hdC r l
  | r, .sl _ _ :: l => .hd r :: hdC (r + 1) l
abbrev rw_ (r e : Nat) (l : List (T.Tb e)) : Nat × Res T := (r, .row r e l)
abbrev rowsP (r : Nat) (p : S32) : List (Nat × Res T) := [rw_ r 5 p.f6, rw_ (r + 1) 5 p.f13, rw_ (r + 2) 5 p.f19, rw_ (r + 3) 40 p.f22, rw_ (r + 4) 9 p.f23, rw_ (r + 5) 3 p.f24]
abbrev hbx (r : Nat) (p : S32) : Res T := .bx 32 (hdC r (T.cells 32 p))
abbrev bxl (p : S27) : Res T := .bx 27 ((T.cells 27 p).map (toCell none))
theorem lawSame (a b : S27) (ha : Fit a) (hb : Fit b) : CallOb T Try.prog 3 [.ag (T.cells 27 a), .ag (T.cells 27 b)] (.c (.sc (.bool true))) := by
  refine call_of_Vc hT Try.func3 (by kernel_rfl) rfl rfl (fun A => ?_)
  refine Vc.seq 0 hT ?_
  conv => whnf
  refine Vc.seq 2 hT ?_
  conv => whnf
  refine Vc.seq 2 hT ?_
  conv => whnf
  refine CallQ.mk _ (szPacket a _ (by decide) (by decide) ha) ?_
  conv => whnf
  refine Vc.seq 3 hT ?_
  conv => whnf
  refine Split.mk (fun c => ?_) (fun c => ?_)
  · conv => whnf
    exact RetQ.mk ⟨rfl, rfl⟩ ⟨rfl, rfl⟩ ⟨rfl, trivial⟩
  obtain ⟨sa, h1⟩ := szP_small a _ (by decide) (by decide) (li_f c)
  have h0 := li_f c
  clear c
  conv => whnf
  refine Vc.seq 4 hT ?_
  conv => whnf
  refine CallQ.mk _ (szPacket b _ h0 h1 hb) ?_
  conv => whnf
  refine Vc.seq 5 hT ?_
  conv => whnf
  refine Split.mk (fun c => ?_) (fun c => ?_)
  · conv => whnf
    exact RetQ.mk ⟨rfl, rfl⟩ ⟨rfl, rfl⟩ ⟨rfl, trivial⟩
  obtain ⟨sb, h2⟩ := szP_small b _ h0 h1 (li_f c)
  clear c
  conv => whnf
  refine Vc.cut (α := Unit) 6 (fun _ => True) (fun _ => [(6, bo (same (toP a) (toP b))), (2, .c (.px 0 0)), (3, .c (.px 1 0))]) (fun _ => [(0, bxl a), (1, bxl b)]) hT ?_ (fun _ _ => ?_)
  · conv => whnf
    refine CallQ.mk _ (toPacket a sa) ?_
    conv => whnf
    refine CallQ.mk _ (toPacket b sb) ?_
    conv => whnf
    refine CallQ.mk _ (specSame (toP a) (toP b) (fit2 ha) (fit2 hb)) ?_
    conv => whnf
    refine DrawQ.mk ⟨by kernel_rfl, by kernel_rfl⟩ ?_
    conv => whnf
    exact CutQ.mk ⟨(), trivial, imp_of [(0, 0), (1, 1)] rfl rfl rfl ⟨⟨rfl, rfl⟩, ⟨rfl, rfl⟩, ⟨rfl, rfl⟩, trivial⟩ ⟨⟨rfl, rfl⟩, ⟨rfl, rfl⟩, trivial⟩⟩
  refine Vc.cut (α := Unit) 10 (fun _ => True) (fun _ => [(6, bo (same (toP a) (toP b))), (7, .c (.px 2 0)), (2, .c (.px 0 0)), (3, .c (.px 1 0))]) (fun _ => ((0, bxl a) :: (1, bxl b) :: (2, hbx 3 (toP a)) :: rowsP 3 (toP a))) hT ?_ (fun _ _ => ?_)
  · conv => whnf
    refine CallQ.mk _ (toPacket a sa) ?_
    conv => whnf
    exact CutQ.mk ⟨(), trivial, imp_of [(0, 0), (1, 1), (2, 35), (3, 16), (4, 23), (5, 29), (6, 32), (7, 33), (8, 34)] rfl rfl rfl ⟨⟨rfl, rfl⟩, ⟨rfl, rfl⟩, ⟨rfl, rfl⟩, ⟨rfl, rfl⟩, trivial⟩ ⟨⟨rfl, rfl⟩, ⟨rfl, rfl⟩, ⟨rfl, rfl⟩, rfl, rfl, rfl, rfl, rfl, rfl, trivial⟩⟩
  refine Vc.cut (α := Unit) 20 (fun _ => True) (fun _ => [(6, bo (same (toP a) (toP b))), (7, .c (.px 2 0)), (8, .c (.px 9 0)), (2, .c (.px 0 0)), (3, .c (.px 1 0))]) (fun _ => ((0, bxl a) :: (1, bxl b) :: (2, hbx 3 (toP a)) :: (9, hbx 10 (toP b)) :: (rowsP 3 (toP a) ++ rowsP 10 (toP b)))) hT ?_ (fun _ _ => ?_)
  · conv => whnf
    refine CallQ.mk _ (toPacket b sb) ?_
    conv => whnf
    exact CutQ.mk ⟨(), trivial, imp_of [(0, 0), (1, 1), (2, 2), (9, 45), (3, 3), (4, 4), (5, 5), (6, 6), (7, 7), (8, 8), (10, 26), (11, 33), (12, 39), (13, 42), (14, 43), (15, 44)] rfl rfl rfl ⟨⟨rfl, rfl⟩, ⟨rfl, rfl⟩, ⟨rfl, rfl⟩, ⟨rfl, rfl⟩, ⟨rfl, rfl⟩, trivial⟩ ⟨⟨rfl, rfl⟩, ⟨rfl, rfl⟩, ⟨rfl, rfl⟩, ⟨rfl, rfl⟩, rfl, rfl, rfl, rfl, rfl, rfl, rfl, rfl, rfl, rfl, rfl, rfl, trivial⟩⟩
  refine Vc.seq 20 hT ?_
  conv => whnf
  refine CallQ.mk _ (implSame (toP a) (toP b) (fit2 ha) (fit2 hb)) ?_
  conv => whnf
  refine Vc.seq 21 hT ?_
  conv => whnf
  refine Need.mk (by kernel_rfl) ?_
  conv => whnf
  refine Split.mk (fun c => (bx_t c rfl).elim) (fun c => ?_)
  clear c
  conv => whnf
  refine Vc.cut (α := Unit) 22 (fun _ => True) (fun _ => [(8, .c (.px 9 0)), (2, .c (.px 0 0)), (3, .c (.px 1 0))]) (fun _ => ((0, bxl a) :: (1, bxl b) :: (9, hbx 10 (toP b)) :: rowsP 10 (toP b))) hT ?_ (fun _ _ => ?_)
  · conv => whnf
    refine CallQ.mk _ (toPacket a sa) ?_
    conv => whnf
    refine CallQ.mk _ (eqPacket (toP a) (toP a) (fit2 ha)) ?_
    conv => whnf
    refine DrawQ.mk ⟨by kernel_rfl, by kernel_rfl⟩ ?_
    conv => whnf
    refine Split.mk (fun c => (of_same_f (not_t c) rfl).elim) (fun c => ?_)
    clear c
    conv => whnf
    exact CutQ.mk ⟨(), trivial, imp_of [(0, 0), (1, 1), (9, 9), (10, 10), (11, 11), (12, 12), (13, 13), (14, 14), (15, 15)] rfl rfl rfl ⟨⟨rfl, rfl⟩, ⟨rfl, rfl⟩, ⟨rfl, rfl⟩, trivial⟩ ⟨⟨rfl, rfl⟩, ⟨rfl, rfl⟩, ⟨rfl, rfl⟩, rfl, rfl, rfl, rfl, rfl, rfl, trivial⟩⟩
  refine Vc.seq 20 hT ?_
  conv => whnf
  refine CallQ.mk _ (toPacket b sb) ?_
  conv => whnf
  refine CallQ.mk _ (eqPacket (toP b) (toP b) (fit2 hb)) ?_
  conv => whnf
  refine DrawQ.mk ⟨by kernel_rfl, by kernel_rfl⟩ ?_
  conv => whnf
  refine Split.mk (fun c => (of_same_f (not_t c) rfl).elim) (fun c => ?_)
  clear c
  conv => whnf
  refine Vc.of 90 hT ?_
  conv => whnf
  exact RetQ.mk ⟨rfl, rfl⟩ ⟨rfl, rfl⟩ ⟨rfl, trivial⟩
end Go.Proofs.Ytnflbiafmddpgaa.P
