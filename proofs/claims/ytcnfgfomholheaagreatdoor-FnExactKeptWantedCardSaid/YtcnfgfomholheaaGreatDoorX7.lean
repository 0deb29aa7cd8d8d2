/- Contracts of functions that the print does not take for a conversion of a text to bytes: spec.CountRunes, impl.PutText. Conditions: the tables as laid (Tabs) where TextOk is asked; each function's own '.f' is 'none' where its contract says nothing. -/
import Derived.Test.YtcnfgfomholheaaGreatDoorProg
import Derived.Test.YtcnfgfomholheaaGreatDoorPx0
import Derived.Test.YtcnfgfomholheaaGreatDoorPx4
import Derived.Test.YtcnfgfomholheaaGreatDoorX1
import Derived.Lib.ConvBytes
import Derived.Laws.AppendOwn
import Derived.Deep.LoopGhost
import Derived.Deep.DeepMust
namespace Go.Proofs.YtcnfgfomholheaaGreatDoor.X
open Go.RowKit Go.Proofs.YtcnfgfomholheaaGreatDoor.P Go.Proofs.YtcnfgfomholheaaGreatDoorW.PrintWords Go.Proofs.YtcnfgfomholheaaGreatDoorW.PrintLast Go.Proofs.YtcnfgfomholheaaGreatDoorW.PrintMore
set_option linter.unusedVariables false
set_option linter.unusedSimpArgs false
theorem Qv (s:ByteArray) (j:Nat) (hj:j<s.size):(bytesOf s).getD j 0=((s.data.toList.getD j 0).toNat:Int):=by
 have h:j<s.data.toList.length:=by rw [Array.length_toList];exact hj
 simp only [bytesOf,List.getD_eq_getElem?_getD,List.getElem?_map,List.getElem?_eq_getElem h,Option.map_some,Option.getD_some]
theorem E5 (w:World) (e:TypeId) (s:ByteArray):Below w.heap.size w (Lib.bytesWorld w e s):=
 ⟨rfl,rfl,rfl,by rw [Lib.bytesWorld_size];omega,fun i hi=>Lib.bytesWorld_at_old w e s i hi⟩
theorem Qw (w:World) (e:TypeId) (s:ByteArray) (hs:s.size≤9223372036854775807):Kd.C (Kd.int .u8) (Lib.bytesWorld w e s) (some ⟨w.heap.size,0,none⟩) (bytesOf s).length (bytesOf s):=by
 refine⟨rfl,by rw [bytesOf_length];exact hs,fun _=>⟨_,rfl,fun j p hp=>⟨[.int .u8 p],rfl,rfl,fun i u hu=>?_⟩⟩⟩
 have hj:j<(bytesOf s).length:=(List.getElem?_eq_some_iff.1 hp).1
 rw [bytesOf_length] at hj
 have hi:i=0:=by
  have:=(List.getElem?_eq_some_iff.1 hu).1
  simp at this
  omega
 subst hi
 simp only [List.getElem?_cons_zero,Option.some.injEq] at hu
 subst hu
 have hc:=Lib.bytesWorld_cell w e s j hj
 have hg:=Qv s j hj
 rw [List.getD_eq_getElem?_getD,hp] at hg
 simp only [Option.getD_some] at hg
 rw [hg]
 have:(Kd.int .u8).sz=1:=rfl
 rw [this,Nat.mul_one,Nat.add_zero,add_plain]
 exact hc
theorem Vy (w:World) (n:Nat) (e:TypeId):n≤grownCap w n 0 e:=by
 exact grownCap_ge w n 0 e
def aZ.l0:Nat→List Int→Int→Int→Option Int
 | 0,_,_,_=>none
 | k+1,b,n,i=>if i<(b.length:Int) then ((au.f k b i).bind fun t=>(if t.2.2=true then (if t.1=0 then some (-1) else aZ.l0 k b (wrap64 (n+1)) t.2.1) else some (-1))) else some n
def aZ.f (k:Nat) (a0:ByteArray):Option Int:=if (a0.size:Int)>60 then some (-1) else aZ.l0 k (bytesOf a0) 0 0
theorem aZ.Ec:∀k,(∀y0 y1 y2,dD (aZ.l0 k y0 y1 y2) (aZ.l0 (k+1) y0 y1 y2))
 | 0=>fun _ _ _ r h=>by simp [aZ.l0] at h
 | k+1=>fun y0 y1 y2=>by
   have xA:=aZ.Ec k
   unfold aZ.l0
   refine dD.ite (dD.bind (au.mono _ _ k) (fun t=>dD.ite (dD.ite (dD.refl _) (xA _ _ _)) (dD.refl _))) (dD.refl _)
theorem aZ.mono:∀a0 k,dD (aZ.f k a0) (aZ.f (k+1) a0):=by
 intro a0 k
 unfold aZ.f
 exact dD.ite (dD.refl _) (aZ.Ec k _ _ _)
set_option maxHeartbeats 4000000 in
set_option maxRecDepth 1000000 in
theorem aZ.calls (k:Nat) (a0:ByteArray) (r:Int) (w:World) (h:aZ.f k a0=some r):
  Calls Tryz.prog 208 #[.string a0] w fun e w'=>e= .returned (.int .i64 r)∧Below w.heap.size w w':=by
 unfold aZ.f at h
 by_cases h60:(a0.size:Int)>60
 ·rw [if_pos h60] at h
  simp only [Option.some.injEq] at h
  subst h
  have ae9:(60:Int)<(a0.size:Int):=h60
  clear h60
  go_enter Tryz.func208,Tryz.ntmps208
  go_wp2
  go_ret
  exact⟨rfl,Below.refl _ _⟩
 ·rw [if_neg h60] at h
  have hs:a0.size≤60:=by omega
  have ae9:¬((60:Int)<(a0.size:Int)):=h60
  have H:=Aside0.mk h
  have hcv:=fun W:World=>Lib.run_convert_string_bytes (P:=Tryz.prog) W 9 68 5 a0 Tryz.underlying9 Tryz.underlying68 Tryz.underlying5
  have hC:=Aside0.mk (Qw w 5 a0 (by omega))
  have hB:=Aside0.mk (E5 w 5 a0)
  have hN:=Aside0.mk (bytesOf_length a0)
  have hG:=Aside0.mk (Vy w a0.size 5)
  clear h h60
  generalize bytesOf a0=L at H hC hN
  go_enter Tryz.func208,Tryz.ntmps208
  go_wp2
  go_loopg [4,5] k (fun kq v4 v5 w'=>∃(n i:Int),v4= .int .i64 n∧v5= .int .i64 i∧Aside0 (aZ.l0 kq L n i=some r)∧Aside0 (Kd.C (Kd.int .u8) w' (some ⟨w.heap.size,0,none⟩) L.length L)∧Aside0 (Below w.heap.size w w'))
  case atStart=>exact⟨0,0,rfl,rfl,H,hC,hB⟩
  case round=>
   clear H hC hB hcv
   obtain⟨n,i,rfl,rfl,HA,HC,HB⟩:=hrel
   cases gk with
   | zero=>exact absurd HA.out (by simp [aZ.l0])
   | succ k1=>
     have H:=HA.out
     clear HA
     simp only [aZ.l0] at H
     have hl:=hN.out
     rw [hl] at H
     by_cases hi:i<(a0.size:Int)
     ·rw [if_pos hi] at H
      obtain⟨⟨t1,t2,t3⟩,hA,H⟩:=Option.bind_eq_some_iff.mp H
      have hK:=au.calls k1 (some ⟨w.heap.size,0,none⟩) (grownCap w a0.size 0 5) L i t1 t2 t3 wr HC.out (by rw [hl];exact hG.out) hA
      rw [hl] at hK
      have HK:=Aside0.mk hK
      clear hK hA hl
      simp only at H
      cases t3 with
      | false=>
        simp only [Bool.false_eq_true,if_false,Option.some.injEq] at H
        subst H
        go_wp2_with (go_at_call 226;refine HK.out.mono ?_;rintro e w' ⟨rfl,⟨nd,rfl⟩⟩)
        go_ret
        exact⟨rfl,ah HB.out _⟩
      | true=>
        simp only [if_true] at H
        by_cases hz:t1=0
        ·rw [if_pos hz] at H
         simp only [Option.some.injEq] at H
         subst H
         have hz':(t1==0)=true:=beq_iff_eq.2 hz
         clear hz
         go_wp2_with (go_at_call 226;refine HK.out.mono ?_;rintro e w' ⟨rfl,⟨nd,rfl⟩⟩)
         go_ret
         exact⟨rfl,ah HB.out _⟩
        ·rw [if_neg hz] at H
         have hz':(t1==0)=false:=beq_eq_false_iff_ne.2 hz
         have H':=Aside0.mk H
         clear hz H
         go_wp2_with (go_at_call 226;refine HK.out.mono ?_;rintro e w' ⟨rfl,⟨nd,rfl⟩⟩)
         go_roundg k1
         case measure=>omega
         case rel=>exact⟨_,_,rfl,rfl,H',⟨Kd.vO HC.out _⟩,⟨ah HB.out _⟩⟩
     ·rw [if_neg hi] at H
      simp only [Option.some.injEq] at H
      subst H
      clear hl
      go_wp2
      go_ret
      exact⟨rfl,HB.out⟩
end Go.Proofs.YtcnfgfomholheaaGreatDoor.X
