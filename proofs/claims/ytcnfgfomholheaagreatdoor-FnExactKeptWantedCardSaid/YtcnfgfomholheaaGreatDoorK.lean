/- Plain lemmas used in all proofs of this seat: 'in enough rounds' (Ev), numbers that do not wrap, loops that copy, compare and mark; no program in sight. -/
import Derived.Test.YtcnfgfomholheaaGreatDoorWd
namespace Go.Proofs.YtcnfgfomholheaaGreatDoor.K
open Go.RowKit Go.Proofs.YtcnfgfomholheaaGreatDoorW.PrintWords Go.Proofs.YtcnfgfomholheaaGreatDoorW.PrintLast Go.Proofs.YtcnfgfomholheaaGreatDoorW.PrintMore
set_option linter.unusedVariables false
set_option linter.unusedSimpArgs false
theorem bg {α:Type} {c:Prop} [Decidable c] {f g:Nat→Option α} {r:α} (h:c) (k:Ev f r):Ev (fun n=>if c then f n else g n) r:=by
 simpa only [if_pos h] using k
theorem cu {α:Type} {c:Prop} [Decidable c] {f g:Nat→Option α} {r:α} (h:¬c) (k:Ev g r):Ev (fun n=>if c then f n else g n) r:=by
 simpa only [if_neg h] using k
theorem jX {α:Type} {c:Prop} [Decidable c] {f g:Nat→Option α} {r:α} (h:c→Ev f r) (k:¬c→Ev g r):Ev (fun n=>if c then f n else g n) r:=by
 by_cases e:c
 ·exact bg e (h e)
 ·exact cu e (k e)
theorem wo {α β:Type} {o:Option α} {a:α} {f:Nat→α→Option β} {r:β} (h:o=some a) (k:Ev (fun n=>f n a) r):Ev (fun n=>o.bind (f n)) r:=by
 subst h;exact k
theorem dJ {α:Type} {a r:α} (h:a=r):Ev (fun _=>some a) r:=by subst h;exact Ev.now _
theorem lN {α:Type} {g:Nat→Option α} {r s:α} (h:Ev g r) (e:r=s):Ev g s:=e▸h
theorem rZ {x:Int} (h0: -9223372036854775808≤x) (h1:x≤9223372036854775807):wrap64 x=x:=by unfold wrap64;omega
theorem BN {i n:Nat} (h:i<n) (hn:n≤4611686018427387904):wrap64 ((i:Int)+1)=((i+1:Nat):Int):=by
 rw [rZ (by omega) (by omega)];omega
theorem BO (n:Int) (h₀:0≤n) (h₁:n<2 ^ 63):IntKind.i64.wrap n=n:=by
 rw [IntKind.wrap_i64]
 have h2:n<9223372036854775808:=h₁
 omega
theorem Ym {α:Type} {l:List α} {z:α} {i:Nat} (h:i<l.length):l.getD ((i:Int)).toNat z=l[i]:=by
 simp [List.getD_eq_getElem?_getD,h]
def marks {α:Type} (m:Int→α) (c:Int) (n:Nat):List α:=(List.range n).map fun(j:Nat)=>m (c+(j:Int))
def Bytes (l:List Int):Prop:=∀x∈l,0≤x∧x≤255
theorem NU {l:List Int} (hb:Bytes l) (i:Int):0≤rd l i∧rd l i≤255:=by
 unfold rd
 rw [List.getD_eq_getElem?_getD]
 by_cases h:i.toNat<l.length
 ·rw [List.getElem?_eq_getElem h]
  exact hb _ (List.getElem_mem h)
 ·rw [List.getElem?_eq_none (by omega)]
  simp
end Go.Proofs.YtcnfgfomholheaaGreatDoor.K
