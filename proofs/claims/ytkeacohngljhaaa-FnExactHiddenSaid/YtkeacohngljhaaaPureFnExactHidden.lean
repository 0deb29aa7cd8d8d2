/- The law FnExactHidden answers true of every text: it has no condition but the length that a text may have. -/
import Derived.Test.YtkeacohngljhaaaK
import Derived.Test.YtkeacohngljhaaaPx0
import Derived.Test.YtkeacohngljhaaaPx1
namespace Go.Proofs.Ytkeacohngljhaaa.Pure
open Go.RowKit Go.Proofs.Ytkeacohngljhaaa.P Go.Proofs.YtkeacohngljhaaaW.PrintWords Go.Proofs.YtkeacohngljhaaaW.PrintLast Go.Proofs.Ytkeacohngljhaaa.K
theorem toList_cut1 (s : ByteArray) (h : 0 < s.size) : (s.extract 0 1).toList = [s[0]] := by
  rw [ByteArray.toList_eq]
  have h' : 0 < s.data.size := h
  apply List.ext_getElem
  · simp only [ByteArray.data_extract, Array.toList_extract, List.length_cons, List.length_nil]
    simp
    omega
  · intro i h1 h2
    simp only [List.length_cons, List.length_nil] at h2
    obtain rfl : i = 0 := by omega
    simp only [ByteArray.data_extract, Array.getElem_toList, Array.getElem_extract]
    rfl
theorem implHidden_eq (s : ByteArray) : impl_Hidden.f s = some (decide (0 < s.size) && (bt s 0 == 36)) := by
  unfold impl_Hidden.f strings_HasPrefix.f stringslite_HasPrefix.f
  have e1 : ((⟨#[36]⟩ : ByteArray).size : Int) = 1 := rfl
  have e2 : (⟨#[36]⟩ : ByteArray).toList = [36] := by rw [ByteArray.toList_eq]
  by_cases h : 0 < s.size
  · rw [if_pos (by rw [e1]; omega), if_pos (by rw [e1]; omega), if_pos (by rw [e1]; omega), e1, e2]
    simp only [Option.bind_some]
    have h1 : ((1 : Int)).toNat = 1 := rfl
    rw [h1, toList_cut1 s h]
    have hb : bt s 0 = ((s[0]).toNat : Int) := by
      have := bt_at s 0 h
      simpa using this.symm
    rw [hb]
    congr 1
    simp only [h, decide_true, Bool.true_and]
    rw [Bool.eq_iff_iff]
    simp only [beq_iff_eq, List.cons.injEq, and_true]
    constructor
    · intro e; rw [e]; rfl
    · intro e
      have : (s[0]).toNat = 36 := by omega
      exact UInt8.toNat_inj.1 this
  · rw [if_neg (by rw [e1]; omega)]
    simp [h]
theorem specHidden_eq (s : ByteArray) : spec_Hidden.f s = some (decide (0 < s.size) && (bt s 0 == 36)) := by
  unfold spec_Hidden.f
  by_cases h : 0 < s.size
  · rw [if_pos (by omega), if_pos (by omega)]; simp [h]
  · rw [if_neg (by omega)]; simp [h]
theorem FnExactHidden : laws_FnExactHidden.Pure := by
  intro s hs
  unfold laws_FnExactHidden.f
  by_cases h : (s.size : Int) > 1048576
  · rw [if_pos h]
  · rw [if_neg h, implHidden_eq, specHidden_eq]
    simp
end Go.Proofs.Ytkeacohngljhaaa.Pure
