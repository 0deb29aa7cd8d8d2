/- The path calculus: this seat's types: elements, their cells, sizes and zero values. Printed by a program of this work (tab.py). -/
import Derived.Test.YtcnfgfomholheaaGreatDoorZc
import Derived.Test.YtcnfgfomholheaaGreatDoorProg
import Derived.Test.YtcnfgfomholheaaGreatDoorX1
namespace Go.Proofs.YtcnfgfomholheaaGreatDoor.Q
open Go.Proofs.YtcnfgfomholheaaGreatDoor.Z
set_option linter.unusedVariables false
structure yI where
 f0:ByteArray
 f1:Int
 f2:Int
def z41:yI:=⟨(⟨#[]⟩:ByteArray),0,0⟩
structure vH where
 f0:List ByteArray
 f1:List vH
 f2:List yI
def z26:vH:=⟨[],[],[]⟩
structure tX where
 f0:ByteArray
 f1:List Int
 f2:Int
def acZ:tX:=⟨(⟨#[]⟩:ByteArray),[],0⟩
structure DT where
 f0:ByteArray
 f1:Int
def ac0:DT:=⟨(⟨#[]⟩:ByteArray),0⟩
structure FN where
 f0:ByteArray
 f1:Int
 f2:Int
def z44:FN:=⟨(⟨#[]⟩:ByteArray),0,0⟩
structure Bh where
 f0:List ByteArray
 f1:List Bh
 f2:List FN
def z31:Bh:=⟨[],[],[]⟩
structure AB where
 f0:ByteArray
 f1:List Int
 f2:Int
def ZB:AB:=⟨(⟨#[]⟩:ByteArray),[],0⟩
structure DU where
 f0:ByteArray
 f1:Int
def ac1:DU:=⟨(⟨#[]⟩:ByteArray),0⟩
structure Jm where
 f0:ByteArray
 f1:ByteArray
 f2:Int
 f3:Int
def z96:Jm:=⟨(⟨#[]⟩:ByteArray),(⟨#[]⟩:ByteArray),0,0⟩
def Tb (e:Nat):Type:=match e with
 | 3=>Int
 | 5=>Int
 | 9=>ByteArray
 | 41=>yI
 | 26=>vH
 | 186=>tX
 | 142=>DT
 | 44=>FN
 | 31=>Bh
 | 121=>AB
 | 113=>DU
 | 96=>Jm
 | 199=>Int
 | 68=>List Int
 | _=>Unit
def aeK (e:Nat):Tb e:=by
 unfold Tb
 split
 ·exact(0:Int)
 ·exact(0:Int)
 ·exact(ByteArray.empty:ByteArray)
 ·exact(z41:yI)
 ·exact(z26:vH)
 ·exact(acZ:tX)
 ·exact(ac0:DT)
 ·exact(z44:FN)
 ·exact(z31:Bh)
 ·exact(ZB:AB)
 ·exact(ac1:DU)
 ·exact(z96:Jm)
 ·exact(0:Int)
 ·exact([]:List Int)
 ·exact()
def dfl (e:Nat):Tb e:=match e with
 | 3=>(0:Int)
 | 5=>(0:Int)
 | 9=>(ByteArray.empty:ByteArray)
 | 41=>(z41:yI)
 | 26=>(z26:vH)
 | 186=>(acZ:tX)
 | 142=>(ac0:DT)
 | 44=>(z44:FN)
 | 31=>(z31:Bh)
 | 121=>(ZB:AB)
 | 113=>(ac1:DU)
 | 96=>(z96:Jm)
 | 199=>(0:Int)
 | 68=>([]:List Int)
 | e=>aeK e
def enc3 (x:Int):List V:=[.sc (.int .i64 x)]
def QO (x:Int):List V:=[.sc (.int .u8 x)]
def KW (x:ByteArray):List V:=[.sc (.string x)]
def N8 (x:yI):List V:=[.sc (.string x.f0), .sc (.int .i64 x.f1), .sc (.int .i64 x.f2)]
def JA:vH→List V
 | ⟨a0,a1,a2⟩=>[.sl 9 (a0.map KW), .sl 26 (a1.map JA), .sl 41 (a2.map N8)]
theorem ZO (x:vH):JA x=[.sl 9 (x.f0.map KW), .sl 26 (x.f1.map JA), .sl 41 (x.f2.map N8)]:=by cases x;simp only [JA]
def Yq (x:tX):List V:=[.sc (.string x.f0), .sl 5 (x.f1.map QO), .sc (.int .i64 x.f2)]
def Yr (x:DT):List V:=[.sc (.string x.f0), .sc (.int .i64 x.f1)]
def N9 (x:FN):List V:=[.sc (.string x.f0), .sc (.int .i64 x.f1), .sc (.int .i64 x.f2)]
def JB:Bh→List V
 | ⟨a0,a1,a2⟩=>[.sl 9 (a0.map KW), .sl 31 (a1.map JB), .sl 44 (a2.map N9)]
theorem ZP (x:Bh):JB x=[.sl 9 (x.f0.map KW), .sl 31 (x.f1.map JB), .sl 44 (x.f2.map N9)]:=by cases x;simp only [JB]
def Yt (x:AB):List V:=[.sc (.string x.f0), .sl 5 (x.f1.map QO), .sc (.int .i64 x.f2)]
def Yu (x:DU):List V:=[.sc (.string x.f0), .sc (.int .i64 x.f1)]
def aan (x:Jm):List V:=[.sc (.string x.f0), .sc (.string x.f1), .sc (.int .i64 x.f2), .sc (.int .i64 x.f3)]
def Yv (x:Int):List V:=[.sc (.int .u64 x)]
def aao (x:List Int):List V:=[.sl 5 (x.map QO)]
def DV (e:Nat) (x:Tb e):List (C0 Tb):=match e,x with
 | 3,(x:Int)=>[.sc (.int .i64 x)]
 | 5,(x:Int)=>[.sc (.int .u8 x)]
 | 9,(x:ByteArray)=>[.sc (.string x)]
 | 41,(x:yI)=>[.sc (.string x.f0), .sc (.int .i64 x.f1), .sc (.int .i64 x.f2)]
 | 26,(x:vH)=>[.sl 9 x.f0, .sl 26 x.f1, .sl 41 x.f2]
 | 186,(x:tX)=>[.sc (.string x.f0), .sl 5 x.f1, .sc (.int .i64 x.f2)]
 | 142,(x:DT)=>[.sc (.string x.f0), .sc (.int .i64 x.f1)]
 | 44,(x:FN)=>[.sc (.string x.f0), .sc (.int .i64 x.f1), .sc (.int .i64 x.f2)]
 | 31,(x:Bh)=>[.sl 9 x.f0, .sl 31 x.f1, .sl 44 x.f2]
 | 121,(x:AB)=>[.sc (.string x.f0), .sl 5 x.f1, .sc (.int .i64 x.f2)]
 | 113,(x:DU)=>[.sc (.string x.f0), .sc (.int .i64 x.f1)]
 | 96,(x:Jm)=>[.sc (.string x.f0), .sc (.string x.f1), .sc (.int .i64 x.f2), .sc (.int .i64 x.f3)]
 | 199,(x:Int)=>[.sc (.int .u64 x)]
 | 68,(x:List Int)=>[.sl 5 x]
 | _,_=>[]
def ac2 (e:Nat) (x:Tb e):List V:=match e,x with
 | 3,(x:Int)=>enc3 x
 | 5,(x:Int)=>QO x
 | 9,(x:ByteArray)=>KW x
 | 41,(x:yI)=>N8 x
 | 26,(x:vH)=>JA x
 | 186,(x:tX)=>Yq x
 | 142,(x:DT)=>Yr x
 | 44,(x:FN)=>N9 x
 | 31,(x:Bh)=>JB x
 | 121,(x:AB)=>Yt x
 | 113,(x:DU)=>Yu x
 | 96,(x:Jm)=>aan x
 | 199,(x:Int)=>Yv x
 | 68,(x:List Int)=>aao x
 | _,_=>[]
def ZQ (e:Nat) (cs:List (C0 Tb)):Option (Tb e):=match e,cs with
 | 3,[.sc (.int .i64 x)]=>some x
 | 5,[.sc (.int .u8 x)]=>some x
 | 9,[.sc (.string x)]=>some x
 | 41,[.sc (.string a0), .sc (.int .i64 a1), .sc (.int .i64 a2)]=>some (⟨a0,a1,a2⟩:yI)
 | 26,[.sl 9 a0, .sl 26 a1, .sl 41 a2]=>some (⟨a0,a1,a2⟩:vH)
 | 186,[.sc (.string a0), .sl 5 a1, .sc (.int .i64 a2)]=>some (⟨a0,a1,a2⟩:tX)
 | 142,[.sc (.string a0), .sc (.int .i64 a1)]=>some (⟨a0,a1⟩:DT)
 | 44,[.sc (.string a0), .sc (.int .i64 a1), .sc (.int .i64 a2)]=>some (⟨a0,a1,a2⟩:FN)
 | 31,[.sl 9 a0, .sl 31 a1, .sl 44 a2]=>some (⟨a0,a1,a2⟩:Bh)
 | 121,[.sc (.string a0), .sl 5 a1, .sc (.int .i64 a2)]=>some (⟨a0,a1,a2⟩:AB)
 | 113,[.sc (.string a0), .sc (.int .i64 a1)]=>some (⟨a0,a1⟩:DU)
 | 96,[.sc (.string a0), .sc (.string a1), .sc (.int .i64 a2), .sc (.int .i64 a3)]=>some (⟨a0,a1,a2,a3⟩:Jm)
 | 199,[.sc (.int .u64 x)]=>some x
 | 68,[.sl 5 x]=>some x
 | _,_=>none
theorem abt (e:Nat) (cs:List (C0 Tb)) (x:Tb e) (h:ZQ e cs=some x):DV e x=cs:=by
 unfold ZQ at h
 split at h<;>first | (cases h;rfl) | cases h
abbrev mkT (e:Nat) (cs:List (C0 Tb)):Option (Tb e):=ZQ e cs
theorem ac3 (e:Nat) (cs:List (C0 Tb)) (x:Tb e) (h:mkT e cs=some x):DV e x=cs:=abt e cs x h
def elT (e:Nat):Bool:=match e with
 | 3=>true
 | 5=>true
 | 9=>true
 | 41=>true
 | 26=>true
 | 186=>true
 | 142=>true
 | 44=>true
 | 31=>true
 | 121=>true
 | 113=>true
 | 96=>true
 | 199=>true
 | 68=>true
 | _=>false
def tiL:List (Nat × Option TI):=[(2,some ⟨1,8,[.int .i64 0], .num .i64⟩),
 (3,some ⟨1,8,[.int .i64 0], .num .i64⟩),
 (4,some ⟨1,1,[.bool false], .one⟩),
 (5,some ⟨1,1,[.int .u8 0], .num .u8⟩),
 (9,some ⟨1,16,[.string ⟨#[]⟩], .text⟩),
 (21,some ⟨1,4,[.int .i32 0], .num .i32⟩),
 (22,some ⟨1,24,[.slice none 0 0], .slice 9⟩),
 (23,some ⟨1,24,[.slice none 0 0], .slice 26⟩),
 (24,some ⟨1,24,[.slice none 0 0], .slice 41⟩),
 (26,some ⟨3,72,[.slice none 0 0, .slice none 0 0, .slice none 0 0], .str [(0,1),(1,1),(2,1)]⟩),
 (28,some ⟨1,24,[.slice none 0 0], .slice 31⟩),
 (29,some ⟨1,24,[.slice none 0 0], .slice 44⟩),
 (31,some ⟨3,72,[.slice none 0 0, .slice none 0 0, .slice none 0 0], .str [(0,1),(1,1),(2,1)]⟩),
 (41,some ⟨3,32,[.string ⟨#[]⟩, .int .i64 0, .int .i64 0], .str [(0,1),(1,1),(2,1)]⟩),
 (44,some ⟨3,32,[.string ⟨#[]⟩, .int .i64 0, .int .i64 0], .str [(0,1),(1,1),(2,1)]⟩),
 (50,some ⟨1,24,[.slice none 0 0], .slice 186⟩),
 (52,some ⟨5,104,[.int .i64 0, .slice none 0 0, .slice none 0 0, .slice none 0 0, .slice none 0 0], .str [(0,1),(1,3),(4,1)]⟩),
 (54,some ⟨1,24,[.slice none 0 0], .slice 121⟩),
 (56,some ⟨5,104,[.int .i64 0, .slice none 0 0, .slice none 0 0, .slice none 0 0, .slice none 0 0], .str [(0,1),(1,3),(4,1)]⟩),
 (68,some ⟨1,24,[.slice none 0 0], .slice 5⟩),
 (74,some ⟨1,24,[.slice none 0 0], .slice 142⟩),
 (76,some ⟨1,24,[.slice none 0 0], .slice 3⟩),
 (79,some ⟨1,24,[.slice none 0 0], .slice 113⟩),
 (93,some ⟨1,24,[.slice none 0 0], .slice 96⟩),
 (96,some ⟨4,48,[.string ⟨#[]⟩, .string ⟨#[]⟩, .int .i64 0, .int .i64 0], .str [(0,1),(1,1),(2,1),(3,1)]⟩),
 (113,some ⟨2,24,[.string ⟨#[]⟩, .int .i64 0], .str [(0,1),(1,1)]⟩),
 (121,some ⟨3,48,[.string ⟨#[]⟩, .slice none 0 0, .int .i64 0], .str [(0,1),(1,1),(2,1)]⟩),
 (142,some ⟨2,24,[.string ⟨#[]⟩, .int .i64 0], .str [(0,1),(1,1)]⟩),
 (186,some ⟨3,48,[.string ⟨#[]⟩, .slice none 0 0, .int .i64 0], .str [(0,1),(1,1),(2,1)]⟩),
 (189,some ⟨3,40,[.slice none 0 0, .int .i64 0, .int .i64 0], .str [(0,1),(1,1),(2,1)]⟩),
 (197,some ⟨1,24,[.slice none 0 0], .slice 68⟩),
 (199,some ⟨1,8,[.int .u64 0], .num .u64⟩)]
def tiT (t:Nat):Option TI:=lk none tiL t
theorem ty2:fD Tryz.prog 2 ⟨1,8,[.int .i64 0], .num .i64⟩:=Dc (by kernel_rfl) (by kernel_rfl) rfl (by decide)
theorem ty3:fD Tryz.prog 3 ⟨1,8,[.int .i64 0], .num .i64⟩:=Dc (by kernel_rfl) (by kernel_rfl) rfl (by decide)
theorem ty4:fD Tryz.prog 4 ⟨1,1,[.bool false], .one⟩:=ace (by kernel_rfl) (by kernel_rfl) rfl (by decide)
theorem ty5:fD Tryz.prog 5 ⟨1,1,[.int .u8 0], .num .u8⟩:=Dc (by kernel_rfl) (by kernel_rfl) rfl (by decide)
theorem ty9:fD Tryz.prog 9 ⟨1,16,[.string ⟨#[]⟩], .text⟩:=aa8 (by kernel_rfl) (by kernel_rfl) rfl (by decide)
theorem aeL:fD Tryz.prog 21 ⟨1,4,[.int .i32 0], .num .i32⟩:=Dc (by kernel_rfl) (by kernel_rfl) rfl (by decide)
theorem aeM:fD Tryz.prog 22 ⟨1,24,[.slice none 0 0], .slice 9⟩:=jG (by kernel_rfl) (by kernel_rfl) rfl (by decide)
theorem aeN:fD Tryz.prog 23 ⟨1,24,[.slice none 0 0], .slice 26⟩:=jG (by kernel_rfl) (by kernel_rfl) rfl (by decide)
theorem aeO:fD Tryz.prog 24 ⟨1,24,[.slice none 0 0], .slice 41⟩:=jG (by kernel_rfl) (by kernel_rfl) rfl (by decide)
theorem aeP:fD Tryz.prog 26 ⟨3,72,[.slice none 0 0, .slice none 0 0, .slice none 0 0], .str [(0,1),(1,1),(2,1)]⟩:=mJ (by kernel_rfl) (by kernel_rfl) rfl (by decide) (by decide) (by kernel_rfl)
theorem aeQ:fD Tryz.prog 28 ⟨1,24,[.slice none 0 0], .slice 31⟩:=jG (by kernel_rfl) (by kernel_rfl) rfl (by decide)
theorem aeR:fD Tryz.prog 29 ⟨1,24,[.slice none 0 0], .slice 44⟩:=jG (by kernel_rfl) (by kernel_rfl) rfl (by decide)
theorem aeS:fD Tryz.prog 31 ⟨3,72,[.slice none 0 0, .slice none 0 0, .slice none 0 0], .str [(0,1),(1,1),(2,1)]⟩:=mJ (by kernel_rfl) (by kernel_rfl) rfl (by decide) (by decide) (by kernel_rfl)
theorem aeT:fD Tryz.prog 41 ⟨3,32,[.string ⟨#[]⟩, .int .i64 0, .int .i64 0], .str [(0,1),(1,1),(2,1)]⟩:=mJ (by kernel_rfl) (by kernel_rfl) rfl (by decide) (by decide) (by kernel_rfl)
theorem aeU:fD Tryz.prog 44 ⟨3,32,[.string ⟨#[]⟩, .int .i64 0, .int .i64 0], .str [(0,1),(1,1),(2,1)]⟩:=mJ (by kernel_rfl) (by kernel_rfl) rfl (by decide) (by decide) (by kernel_rfl)
theorem aeV:fD Tryz.prog 50 ⟨1,24,[.slice none 0 0], .slice 186⟩:=jG (by kernel_rfl) (by kernel_rfl) rfl (by decide)
theorem aeW:fD Tryz.prog 52 ⟨5,104,[.int .i64 0, .slice none 0 0, .slice none 0 0, .slice none 0 0, .slice none 0 0], .str [(0,1),(1,3),(4,1)]⟩:=mJ (by kernel_rfl) (by kernel_rfl) rfl (by decide) (by decide) (by kernel_rfl)
theorem aeX:fD Tryz.prog 54 ⟨1,24,[.slice none 0 0], .slice 121⟩:=jG (by kernel_rfl) (by kernel_rfl) rfl (by decide)
theorem aeY:fD Tryz.prog 56 ⟨5,104,[.int .i64 0, .slice none 0 0, .slice none 0 0, .slice none 0 0, .slice none 0 0], .str [(0,1),(1,3),(4,1)]⟩:=mJ (by kernel_rfl) (by kernel_rfl) rfl (by decide) (by decide) (by kernel_rfl)
theorem aeZ:fD Tryz.prog 68 ⟨1,24,[.slice none 0 0], .slice 5⟩:=jG (by kernel_rfl) (by kernel_rfl) rfl (by decide)
theorem ae0:fD Tryz.prog 74 ⟨1,24,[.slice none 0 0], .slice 142⟩:=jG (by kernel_rfl) (by kernel_rfl) rfl (by decide)
theorem ae1:fD Tryz.prog 76 ⟨1,24,[.slice none 0 0], .slice 3⟩:=jG (by kernel_rfl) (by kernel_rfl) rfl (by decide)
theorem ae2:fD Tryz.prog 79 ⟨1,24,[.slice none 0 0], .slice 113⟩:=jG (by kernel_rfl) (by kernel_rfl) rfl (by decide)
theorem ae3:fD Tryz.prog 93 ⟨1,24,[.slice none 0 0], .slice 96⟩:=jG (by kernel_rfl) (by kernel_rfl) rfl (by decide)
theorem ae4:fD Tryz.prog 96 ⟨4,48,[.string ⟨#[]⟩, .string ⟨#[]⟩, .int .i64 0, .int .i64 0], .str [(0,1),(1,1),(2,1),(3,1)]⟩:=mJ (by kernel_rfl) (by kernel_rfl) rfl (by decide) (by decide) (by kernel_rfl)
theorem adP:fD Tryz.prog 113 ⟨2,24,[.string ⟨#[]⟩, .int .i64 0], .str [(0,1),(1,1)]⟩:=mJ (by kernel_rfl) (by kernel_rfl) rfl (by decide) (by decide) (by kernel_rfl)
theorem adQ:fD Tryz.prog 121 ⟨3,48,[.string ⟨#[]⟩, .slice none 0 0, .int .i64 0], .str [(0,1),(1,1),(2,1)]⟩:=mJ (by kernel_rfl) (by kernel_rfl) rfl (by decide) (by decide) (by kernel_rfl)
theorem adR:fD Tryz.prog 142 ⟨2,24,[.string ⟨#[]⟩, .int .i64 0], .str [(0,1),(1,1)]⟩:=mJ (by kernel_rfl) (by kernel_rfl) rfl (by decide) (by decide) (by kernel_rfl)
theorem adS:fD Tryz.prog 186 ⟨3,48,[.string ⟨#[]⟩, .slice none 0 0, .int .i64 0], .str [(0,1),(1,1),(2,1)]⟩:=mJ (by kernel_rfl) (by kernel_rfl) rfl (by decide) (by decide) (by kernel_rfl)
theorem adT:fD Tryz.prog 189 ⟨3,40,[.slice none 0 0, .int .i64 0, .int .i64 0], .str [(0,1),(1,1),(2,1)]⟩:=mJ (by kernel_rfl) (by kernel_rfl) rfl (by decide) (by decide) (by kernel_rfl)
theorem adU:fD Tryz.prog 197 ⟨1,24,[.slice none 0 0], .slice 68⟩:=jG (by kernel_rfl) (by kernel_rfl) rfl (by decide)
theorem adV:fD Tryz.prog 199 ⟨1,8,[.int .u64 0], .num .u64⟩:=Dc (by kernel_rfl) (by kernel_rfl) rfl (by decide)
def T:dS where
 J:=Go.Proofs.YtcnfgfomholheaaGreatDoor.X.Tabs
 jk:=fun b h=>Go.Proofs.YtcnfgfomholheaaGreatDoor.X.Tabs.below h b
 Tb:=Tb
 df:=dfl
 cells:=DV
 xE:=mkT
 enc:=ac2
 el:=elT
 ti:=tiT
 gu:=by
  intro e x
  unfold ac2 DV
  split
  ·exact((rfl:enc3 _=_)).trans rfl
  ·exact((rfl:QO _=_)).trans rfl
  ·exact((rfl:KW _=_)).trans rfl
  ·exact((rfl:N8 _=_)).trans rfl
  ·exact(ZO _).trans rfl
  ·exact((rfl:Yq _=_)).trans rfl
  ·exact((rfl:Yr _=_)).trans rfl
  ·exact((rfl:N9 _=_)).trans rfl
  ·exact(ZP _).trans rfl
  ·exact((rfl:Yt _=_)).trans rfl
  ·exact((rfl:Yu _=_)).trans rfl
  ·exact((rfl:aan _=_)).trans rfl
  ·exact((rfl:Yv _=_)).trans rfl
  ·exact((rfl:aao _=_)).trans rfl
  ·rfl
 mk_eq:=ac3
 one:=by
  intro e x c h
  unfold DV at h
  split at h<;>simp only [List.mem_cons,List.not_mem_nil,or_false] at h<;>first | (rcases h with rfl | rfl | rfl | rfl<;>rfl) | (subst h;rfl) | cases h
 len:=by
  intro e x i he h
  unfold elT at he
  split at he
  ·exact congrArg TI.size (Option.some.inj (show some _=some i from h))
  ·exact congrArg TI.size (Option.some.inj (show some _=some i from h))
  ·exact congrArg TI.size (Option.some.inj (show some _=some i from h))
  ·exact congrArg TI.size (Option.some.inj (show some _=some i from h))
  ·exact congrArg TI.size (Option.some.inj (show some _=some i from h))
  ·exact congrArg TI.size (Option.some.inj (show some _=some i from h))
  ·exact congrArg TI.size (Option.some.inj (show some _=some i from h))
  ·exact congrArg TI.size (Option.some.inj (show some _=some i from h))
  ·exact congrArg TI.size (Option.some.inj (show some _=some i from h))
  ·exact congrArg TI.size (Option.some.inj (show some _=some i from h))
  ·exact congrArg TI.size (Option.some.inj (show some _=some i from h))
  ·exact congrArg TI.size (Option.some.inj (show some _=some i from h))
  ·exact congrArg TI.size (Option.some.inj (show some _=some i from h))
  ·exact congrArg TI.size (Option.some.inj (show some _=some i from h))
  ·cases he
theorem ae5:∀p∈tiL,∀i,p.2=some i→fD Tryz.prog p.1 i:=by
 intro p hp
 simp only [tiL,List.mem_cons,List.not_mem_nil,or_false] at hp
 rcases hp with rfl | rfl | rfl | rfl | rfl | rfl | rfl | rfl | rfl | rfl | rfl | rfl | rfl | rfl | rfl | rfl | rfl | rfl | rfl | rfl | rfl | rfl | rfl | rfl | rfl | rfl | rfl | rfl | rfl | rfl | rfl | rfl
 ·intro i h;cases h;exact ty2
 ·intro i h;cases h;exact ty3
 ·intro i h;cases h;exact ty4
 ·intro i h;cases h;exact ty5
 ·intro i h;cases h;exact ty9
 ·intro i h;cases h;exact aeL
 ·intro i h;cases h;exact aeM
 ·intro i h;cases h;exact aeN
 ·intro i h;cases h;exact aeO
 ·intro i h;cases h;exact aeP
 ·intro i h;cases h;exact aeQ
 ·intro i h;cases h;exact aeR
 ·intro i h;cases h;exact aeS
 ·intro i h;cases h;exact aeT
 ·intro i h;cases h;exact aeU
 ·intro i h;cases h;exact aeV
 ·intro i h;cases h;exact aeW
 ·intro i h;cases h;exact aeX
 ·intro i h;cases h;exact aeY
 ·intro i h;cases h;exact aeZ
 ·intro i h;cases h;exact ae0
 ·intro i h;cases h;exact ae1
 ·intro i h;cases h;exact ae2
 ·intro i h;cases h;exact ae3
 ·intro i h;cases h;exact ae4
 ·intro i h;cases h;exact adP
 ·intro i h;cases h;exact adQ
 ·intro i h;cases h;exact adR
 ·intro i h;cases h;exact adS
 ·intro i h;cases h;exact adT
 ·intro i h;cases h;exact adU
 ·intro i h;cases h;exact adV
theorem QS {α:Type} {t:Nat} {i:α}:∀{l:List (Nat × Option α)},lk none l t=some i→∃p∈l,p.1=t∧p.2=some i
 | [],h=>by cases h
 | (k,x)::l,h=>by
   unfold lk at h
   cases hb:Nat.beq k t<;>rw [hb] at h
   ·obtain⟨p,h1,h2⟩:=QS h;exact⟨p,List.mem_cons_of_mem _ h1,h2⟩
   ·exact⟨_,List.mem_cons_self,Nat.eq_of_beq_eq_true hb,h⟩
theorem hT:T.ok Tryz.prog:=by
 intro t i h
 obtain⟨p,h1,h2,h3⟩:=QS (show lk none tiL t=some i from h)
 subst h2
 exact ae5 p h1 i h3
end Go.Proofs.YtcnfgfomholheaaGreatDoor.Q
