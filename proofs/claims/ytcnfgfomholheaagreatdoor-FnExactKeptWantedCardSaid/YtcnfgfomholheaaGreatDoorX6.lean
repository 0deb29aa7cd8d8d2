/- Contracts of functions that the print does not take, in the form in which the print takes its callees: utf8.DecodeRune, utf8.RuneCountInString, strings.Split, impl.TextOk. Conditions: the package-level tables as laid (Tabs); each function's own '.f' is 'none' where its contract says nothing. -/
import Derived.Test.YtcnfgfomholheaaGreatDoorProg
import Derived.Test.YtcnfgfomholheaaGreatDoorSh
import Derived.Test.YtcnfgfomholheaaGreatDoorX1
import Derived.Test.YtcnfgfomholheaaGreatDoorWd
import Derived.Laws.RangeString
import Derived.Laws.RangeAny
import Derived.LoopTactic
import Derived.Deep.DeepMust
namespace Go.Proofs.YtcnfgfomholheaaGreatDoor.X
open Go.RowKit Go.Proofs.YtcnfgfomholheaaGreatDoorW.PrintWords Go.Proofs.YtcnfgfomholheaaGreatDoorW.PrintLast Go.Proofs.YtcnfgfomholheaaGreatDoorW.PrintMore
set_option linter.unusedVariables false
set_option linter.unusedSimpArgs false
def pieces (s sep:ByteArray):List ByteArray:=Lib.splitB sep 0 (Lib.countB s sep) s
def strings_Split.f (a0:ByteArray) (a1:ByteArray):Option (List ByteArray):=if a0.size<4294967281∧a1.size=1 then some (pieces a0 a1) else none
theorem strings_Split.calls (a0:ByteArray) (a1:ByteArray) (r:List ByteArray) (w:World) (hT:Tabs w) (h:strings_Split.f a0 a1=some r):
  Calls Tryz.prog 175 #[.string a0, .string a1] w fun e w'=>∃DY:Value,e= .returned (DY)∧Kd.R Kd.string 9 w' w.heap.size (fun _=>True) DY r∧Below w.heap.size w w':=by
 unfold strings_Split.f at h
 by_cases hs:a0.size<4294967281∧a1.size=1
 ·rw [if_pos hs] at h
  simp only [Option.some.injEq] at h
  subst h
  obtain⟨_,m,hm⟩:=hT
  refine(Tryz.strings_Split a0 a1 m w hs.1 hm (by omega)).mono ?_
  rintro e w' ⟨rfl,rfl⟩
  refine⟨_,rfl,?_,(Below.refl _ _).alloc (Nat.le_refl _) _⟩
  have hl:(pieces a0 a1).length=Lib.countB a0 a1+1:=Lib.splitB_all a1 (by omega) 0 _ a0 rfl
  have hc:=Lib.countB_le a1 (by omega) a0.size a0 (Nat.le_refl _)
  have hL:=iw.lit (e:=9) w w.heap.size (Kd.QE (enc:=Value.string) (pieces a0 a1)) (Nat.le_refl _) (by rw [hl];omega)
  rw [hl] at hL
  exact⟨fun _ _=>trivial,hL⟩
 ·rw [if_neg hs] at h
  cases h
end Go.Proofs.YtcnfgfomholheaaGreatDoor.X
