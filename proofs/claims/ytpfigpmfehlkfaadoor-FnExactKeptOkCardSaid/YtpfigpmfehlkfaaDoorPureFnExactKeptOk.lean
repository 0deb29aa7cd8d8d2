/- The law FnExactKeptOk answers true of all lists of what is kept. -/
import Derived.Test.YtpfigpmfehlkfaaDoorK
import Derived.Test.YtpfigpmfehlkfaaDoorH1
import Derived.Test.YtpfigpmfehlkfaaDoorH2
import Derived.Test.YtpfigpmfehlkfaaDoorK
import Derived.Test.YtpfigpmfehlkfaaDoorPx0
import Derived.Test.YtpfigpmfehlkfaaDoorPx9
import Derived.Test.YtpfigpmfehlkfaaDoorRkFnExactKeptOk
import Derived.Test.YtpfigpmfehlkfaaDoorH1
import Derived.Test.YtpfigpmfehlkfaaDoorH2
import Derived.Test.YtpfigpmfehlkfaaDoorK
import Derived.Test.YtpfigpmfehlkfaaDoorRkFnExactKeptOk
import Derived.Test.YtpfigpmfehlkfaaDoorRkFnExactKeptOk
namespace Go.Proofs.YtpfigpmfehlkfaaDoor.Pure
open Go.RowKit Go.Proofs.YtpfigpmfehlkfaaDoor.X Go.Proofs.YtpfigpmfehlkfaaDoor.P Go.Proofs.YtpfigpmfehlkfaaDoorW.PrintWords Go.Proofs.YtpfigpmfehlkfaaDoorW.PrintLast Go.Proofs.YtpfigpmfehlkfaaDoor.K
set_option linter.unusedVariables false
theorem FnExactKeptOk : laws_FnExactKeptOk.Pure := by
  intro l hl
  refine Ev.rounds ?_
  unfold laws_FnExactKeptOk.f
  obtain ⟨r, hr, hq, _⟩ := szKeptS_ev l 1048576 (by omega) (by omega) hl.1 (fun x hx => ⟨(hl.2 x hx).1, (hl.2 x hx).2.1.1⟩)
  refine Ev.bind hr (ev_ite (fun _ => Ev.now _) (fun hn => ?_))
  obtain ⟨hlen, hsz⟩ := hq hn
  have ht := toKeptS_ev l (by omega) (fun x hx => by have := (hsz x hx).2; omega)
  have hm : (l.map tk).length ≤ 1048576 := by rw [List.length_map]; omega
  have hs : ∀ x ∈ l.map tk, x.f0.size ≤ 1048576 ∧ x.f1.length ≤ 1048576 := by
    intro x hx
    obtain ⟨y, hy, rfl⟩ := List.mem_map.1 hx
    have := hsz y hy
    exact ⟨by show y.f0.size ≤ _; omega, by show y.f1.length ≤ _; omega⟩
  have h1 := specKeptOk_ev (l.map tk) (by omega) (fun x hx => by have := (hs x hx).1; omega)
  have h2 := implKeptOk_ev (l.map tk) (by omega) (fun x hx => by have := (hs x hx).1; omega)
  exact Ev.bind ht (Ev.bind h1 (Ev.bind ht (Ev.bind h2 (ev_neg (by simp) (Ev.bind ht (Ev.bind (eqKeptS_ev _ hm (fun x hx => (hs x hx).2)) (ev_pos rfl (Ev.now _))))))))
end Go.Proofs.YtpfigpmfehlkfaaDoor.Pure
