/- A TIED CARD. Proved: the law FnExactRootSub answers true at every input that its row speaks of, and leaves its arguments as they were; no condition beside the row's own. Laid out by a program of this work, in the form of the kit's printed rows. -/
import Derived.Test.YtcnfgfomholheaaGreatDoorRows
import Derived.Test.YtcnfgfomholheaaGreatDoorCards
import Derived.Test.YtcnfgfomholheaaGreatDoorTie
import Derived.Test.YtcnfgfomholheaaGreatDoorLaid
import Derived.SevenTiedAt
import Derived.WalkKit
import Derived.ProofKit
import Derived.OpenShut
import Derived.ChangeOld
import Derived.Below
import Derived.Carry
import Derived.SizedLaws
import Derived.Test.YtcnfgfomholheaaGreatDoorLiftFnExactRootSub
import Derived.Test.YtcnfgfomholheaaGreatDoorFactFnExactRootSub
namespace Go.Proofs.YtcnfgfomholheaaGreatDoor.fnExactRootSub
open Go.ChangeShapes Go.WideShapes Go.ChangeAt Go.RowKit
set_option linter.unusedVariables false
set_option maxHeartbeats 0
theorem over:Rows.fnExactRootSubRow.holds Tryz.pinned (OpenSpec.ofChange Rows.fnExactRootSubSpec):=
 OpenClaim.holds_of_cond 10 Tryz.f10 rfl rfl rfl rfl rfl rfl rfl ⟨rfl,rfl,rfl,rfl,rfl⟩ rfl rfl rfl rfl rfl (by as_aux_lemma=>kernel_rfl) Tryz.func10 closed
  (of_decide_eq_true (by as_aux_lemma=>kernel_rfl)) (by unfold Func.isWrapper;first | (rw [if_pos (by decide+kernel)];kernel_rfl) | (rw [if_neg (by decide+kernel)];exact⟨rfl,rfl⟩))
  (fun os started H enc _ F0=>by rw [OpenClaim.pre_eq_preRow];exact lifted os started H enc F0)
theorem proved:Rows.FnExactRootSubCardSaid:=
 Claim7.holds_tied_plain_at .later [] [.data, .pinned] true (true, "673b0d85f216fdc5e13a61dd2f59d84d6401209a2163e660de76d8526451744c") false
  over (fun _ h=>by cases h) (by as_aux_lemma=>kernel_rfl) (fun _ h=>by cases h) fnExactRootSub_row_tie rfl ⟨rfl,rfl⟩ (by as_aux_lemma=>kernel_rfl) rfl
  (fun f fn hf hfn=>by
   obtain rfl:f=10:=Option.some.inj ((show Tryz.prog.funcNamed "loop.example/g00480/laws.FnExactRootSub" =some 10 by kernel_rfl).symm.trans hf) |>.symm
   obtain rfl:fn=Tryz.f10:=(Option.some.inj (Tryz.func10.symm.trans hfn)).symm
   exact⟨by kernel_rfl,fun j t ht=>by
    rw [Tryz.params10] at ht
    rcases j with _ | ⟨_ | ⟨_ | ⟨_ | j⟩⟩⟩
    ·obtain rfl:t=52:=by simpa using ht.symm
     exact(show Tryz.prog.wantsStandIn 52=false by kernel_rfl)
    ·obtain rfl:t=9:=by simpa using ht.symm
     exact(show Tryz.prog.wantsStandIn 9=false by kernel_rfl)
    ·obtain rfl:t=3:=by simpa using ht.symm
     exact(show Tryz.prog.wantsStandIn 3=false by kernel_rfl)
    ·obtain rfl:t=74:=by simpa using ht.symm
     exact(show Tryz.prog.wantsStandIn 74=false by kernel_rfl)
    ·simp at ht⟩)
  (by as_aux_lemma=>kernel_rfl)
#print axioms proved
end Go.Proofs.YtcnfgfomholheaaGreatDoor.fnExactRootSub
namespace Go.Proofs.YtcnfgfomholheaaGreatDoor
theorem fnExactRootSub_holds:Rows.FnExactRootSubCardSaid:=fnExactRootSub.proved
end Go.Proofs.YtcnfgfomholheaaGreatDoor
