/- Contracts of strings.IndexRune, strings.IndexAny, strings.ContainsAny over the two wild signs, for texts of any bytes. Conditions: the text is shorter than 4294967281 bytes. -/
import Derived.Test.YtcnfgfomholheaaGreatDoorProg
import Derived.Test.YtcnfgfomholheaaGreatDoorSh
import Derived.Test.YtcnfgfomholheaaGreatDoorWd
import Derived.Laws.RangeAny
import Derived.Laws.Runes
import Derived.Scope
import Derived.Shelf.Strings.IndexAnyAll
namespace Go.Proofs.YtcnfgfomholheaaGreatDoor.X
open Go.RowKit Go.Shelf Go.Lib Go.Proofs Go.Proofs.YtcnfgfomholheaaGreatDoorW.PrintWords
set_option linter.unusedVariables false
set_option linter.unusedSimpArgs false
def strings_Join.f (l:List ByteArray) (a1:ByteArray):Option ByteArray:=
 if l.length≤140737488355328∧(Lib.join (l.map (·.data.toList)) a1.data.toList).length≤140737488355328 then some ⟨(Lib.join (l.map (·.data.toList)) a1.data.toList).toArray⟩ else none
theorem strings_Join.calls (A0:Option Addr) (c0:Nat) (l0:List ByteArray) (a1:ByteArray) (r:ByteArray) (w:World) (hr0:Kd.C Kd.string w A0 l0.length l0) (hc0:l0.length≤c0) (h:strings_Join.f l0 a1=some r):
  Calls Tryz.prog 216 #[.slice A0 l0.length c0, .string a1] w fun e w'=>e= .returned (.string r)∧Below w.heap.size w w':=by
 unfold strings_Join.f at h
 by_cases hs:l0.length≤140737488355328∧(Lib.join (l0.map (·.data.toList)) a1.data.toList).length≤140737488355328
 ·rw [if_pos hs] at h
  simp only [Option.some.injEq] at h
  subst h
  by_cases h0:l0.length=0
  ·obtain rfl:=List.length_eq_zero_iff.1 h0
   refine(Tryz.strings_Join_none A0 c0 a1 w).mono ?_
   rintro e w' ⟨rfl,rfl⟩
   exact⟨rfl,Below.refl _ _⟩
  ·obtain⟨ad,rfl,hx⟩:=Kd.aV hr0 0 (by omega) (by omega)
   obtain⟨b,off,sp⟩:=ad
   have hsp:sp=none:=by
    cases sp with
    | none=>rfl
    | some z=>
      have:w.cell? (⟨b,off,some z⟩:Addr)=none:=by
       unfold World.cell?
       split
       ·rfl
       ·rfl
      rw [show(⟨b,off,some z⟩:Addr).add (0:Int).toNat=⟨b,off,some z⟩ from rfl,this] at hx
      cases hx
   subst hsp
   have hb:b<w.heap.size:=World.block_lt_of_cell? w _ hx
   refine Tryz.strings_Join b off c0 l0 a1 w ?_ hb hs.1 hc0 hs.2
   intro j x hj
   have hjl:j<l0.length:=by
    rcases Nat.lt_or_ge j l0.length with h | h
    ·exact h
    ·rw [List.getElem?_eq_none h] at hj;cases hj
   obtain⟨ad,e,hy⟩:=Kd.aV hr0 (j:Int) (by omega) (by omega)
   injection e with e
   subst e
   have e1:(⟨b,off,none⟩:Addr).add ((j:Int)).toNat=⟨b,off+j,none⟩:=by
    unfold Addr.add
    by_cases h:(j:Int).toNat=0
    ·rw [if_pos h]
     have:j=0:=by omega
     subst this
     rfl
    ·rw [if_neg h]
     simp
   rw [e1] at hy
   rw [hy]
   unfold aT
   rw [List.getD_eq_getElem?_getD]
   have:((j:Int)).toNat=j:=by omega
   rw [this,hj]
   rfl
 ·rw [if_neg hs] at h
  cases h
end Go.Proofs.YtcnfgfomholheaaGreatDoor.X
