/- A TIED CARD. Proved: the law FnExactKeptWanted answers true at every input that its row speaks of, and leaves its arguments as they were; no condition beside the row's own. Laid out by a program of this work, in the form of the kit's printed rows. -/
import Derived.Test.YtcnfgfomholheaaGreatDoorRows
import Derived.Test.YtcnfgfomholheaaGreatDoorCards
import Derived.Test.YtcnfgfomholheaaGreatDoorTie
import Derived.Test.YtcnfgfomholheaaGreatDoorLaid
import Derived.SevenTiedAt
import Derived.WalkKit
import Derived.ProofKit
import Derived.OpenShut
import Derived.ChangeOld
import Derived.Below
import Derived.Carry
import Derived.SizedLaws
import Derived.Test.YtcnfgfomholheaaGreatDoorLiftFnExactKeptWanted
import Derived.Test.YtcnfgfomholheaaGreatDoorFactFnExactKeptWanted
namespace Go.Proofs.YtcnfgfomholheaaGreatDoor.fnExactKeptWanted
open Go.ChangeShapes Go.WideShapes Go.ChangeAt Go.RowKit
set_option linter.unusedVariables false
set_option maxHeartbeats 0
theorem over:Rows.fnExactKeptWantedRow.holds Tryz.pinned (OpenSpec.ofChange Rows.fnExactKeptWantedSpec):=
 OpenClaim.holds_of_cond 11 Tryz.f11 rfl rfl rfl rfl rfl rfl rfl ⟨rfl,rfl,rfl,rfl,rfl⟩ rfl rfl rfl rfl rfl (by as_aux_lemma=>kernel_rfl) Tryz.func11 closed
  (of_decide_eq_true (by as_aux_lemma=>kernel_rfl)) (by unfold Func.isWrapper;first | (rw [if_pos (by decide+kernel)];kernel_rfl) | (rw [if_neg (by decide+kernel)];exact⟨rfl,rfl⟩))
  (fun os started H enc _ F0=>by rw [OpenClaim.pre_eq_preRow];exact lifted os started H enc F0)
theorem proved:Rows.FnExactKeptWantedCardSaid:=
 Claim7.holds_tied_plain_at .later [] [.data, .pinned] true (true, "673b0d85f216fdc5e13a61dd2f59d84d6401209a2163e660de76d8526451744c") false
  over (fun _ h=>by cases h) (by as_aux_lemma=>kernel_rfl) (fun _ h=>by cases h) fnExactKeptWanted_row_tie rfl ⟨rfl,rfl⟩ (by as_aux_lemma=>kernel_rfl) rfl
  (fun f fn hf hfn=>by
   obtain rfl:f=11:=Option.some.inj ((show Tryz.prog.funcNamed "loop.example/g00480/laws.FnExactKeptWanted" =some 11 by kernel_rfl).symm.trans hf) |>.symm
   obtain rfl:fn=Tryz.f11:=(Option.some.inj (Tryz.func11.symm.trans hfn)).symm
   exact⟨by kernel_rfl,fun j t ht=>by
    rw [Tryz.params11] at ht
    rcases j with _ | ⟨_ | ⟨_ | j⟩⟩
    ·obtain rfl:t=52:=by simpa using ht.symm
     exact(show Tryz.prog.wantsStandIn 52=false by kernel_rfl)
    ·obtain rfl:t=74:=by simpa using ht.symm
     exact(show Tryz.prog.wantsStandIn 74=false by kernel_rfl)
    ·obtain rfl:t=76:=by simpa using ht.symm
     exact(show Tryz.prog.wantsStandIn 76=false by kernel_rfl)
    ·simp at ht⟩)
  (by as_aux_lemma=>kernel_rfl)
#print axioms proved
end Go.Proofs.YtcnfgfomholheaaGreatDoor.fnExactKeptWanted
namespace Go.Proofs.YtcnfgfomholheaaGreatDoor
theorem fnExactKeptWanted_holds:Rows.FnExactKeptWantedCardSaid:=fnExactKeptWanted.proved
end Go.Proofs.YtcnfgfomholheaaGreatDoor
