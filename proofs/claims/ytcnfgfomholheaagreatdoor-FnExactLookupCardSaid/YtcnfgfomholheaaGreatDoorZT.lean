/- The path calculus: this seat's types: elements, their cells, sizes and zero values. Printed by a program of this work (tab.py). -/
import Derived.Test.YtcnfgfomholheaaGreatDoorZc
import Derived.Test.YtcnfgfomholheaaGreatDoorProg
import Derived.Test.YtcnfgfomholheaaGreatDoorX1
namespace Go.Proofs.YtcnfgfomholheaaGreatDoor.Q
open Go.Proofs.YtcnfgfomholheaaGreatDoor.Z
set_option linter.unusedVariables false
structure xY where
 f0:ByteArray
 f1:Int
 f2:Int
def z41:xY:=⟨(⟨#[]⟩:ByteArray),0,0⟩
structure wH where
 f0:List ByteArray
 f1:List wH
 f2:List xY
def z26:wH:=⟨[],[],[]⟩
structure Bh where
 f0:ByteArray
 f1:List Int
 f2:Int
def abL:Bh:=⟨(⟨#[]⟩:ByteArray),[],0⟩
structure Bj where
 f0:ByteArray
 f1:Int
def abM:Bj:=⟨(⟨#[]⟩:ByteArray),0⟩
structure ED where
 f0:ByteArray
 f1:Int
 f2:Int
def z44:ED:=⟨(⟨#[]⟩:ByteArray),0,0⟩
structure Af where
 f0:List ByteArray
 f1:List Af
 f2:List ED
def z31:Af:=⟨[],[],[]⟩
structure Bl where
 f0:ByteArray
 f1:List Int
 f2:Int
def abN:Bl:=⟨(⟨#[]⟩:ByteArray),[],0⟩
structure Bo where
 f0:ByteArray
 f1:Int
def abO:Bo:=⟨(⟨#[]⟩:ByteArray),0⟩
structure G5 where
 f0:ByteArray
 f1:ByteArray
 f2:Int
 f3:Int
def z96:G5:=⟨(⟨#[]⟩:ByteArray),(⟨#[]⟩:ByteArray),0,0⟩
def Tb (e:Nat):Type:=match e with
 | 3=>Int
 | 5=>Int
 | 9=>ByteArray
 | 41=>xY
 | 26=>wH
 | 186=>Bh
 | 142=>Bj
 | 44=>ED
 | 31=>Af
 | 121=>Bl
 | 113=>Bo
 | 96=>G5
 | 199=>Int
 | 68=>List Int
 | _=>Unit
def ad3 (e:Nat):Tb e:=by
 unfold Tb
 split
 ·exact(0:Int)
 ·exact(0:Int)
 ·exact(ByteArray.empty:ByteArray)
 ·exact(z41:xY)
 ·exact(z26:wH)
 ·exact(abL:Bh)
 ·exact(abM:Bj)
 ·exact(z44:ED)
 ·exact(z31:Af)
 ·exact(abN:Bl)
 ·exact(abO:Bo)
 ·exact(z96:G5)
 ·exact(0:Int)
 ·exact([]:List Int)
 ·exact()
def dfl (e:Nat):Tb e:=match e with
 | 3=>(0:Int)
 | 5=>(0:Int)
 | 9=>(ByteArray.empty:ByteArray)
 | 41=>(z41:xY)
 | 26=>(z26:wH)
 | 186=>(abL:Bh)
 | 142=>(abM:Bj)
 | 44=>(z44:ED)
 | 31=>(z31:Af)
 | 121=>(abN:Bl)
 | 113=>(abO:Bo)
 | 96=>(z96:G5)
 | 199=>(0:Int)
 | 68=>([]:List Int)
 | e=>ad3 e
def enc3 (x:Int):List V:=[.sc (.int .i64 x)]
def Oz (x:Int):List V:=[.sc (.int .u8 x)]
def JA (x:ByteArray):List V:=[.sc (.string x)]
def MZ (x:xY):List V:=[.sc (.string x.f0), .sc (.int .i64 x.f1), .sc (.int .i64 x.f2)]
def Hz:wH→List V
 | ⟨a0,a1,a2⟩=>[.sl 9 (a0.map JA), .sl 26 (a1.map Hz), .sl 41 (a2.map MZ)]
theorem YQ (x:wH):Hz x=[.sl 9 (x.f0.map JA), .sl 26 (x.f1.map Hz), .sl 41 (x.f2.map MZ)]:=by cases x;simp only [Hz]
def Xc (x:Bh):List V:=[.sc (.string x.f0), .sl 5 (x.f1.map Oz), .sc (.int .i64 x.f2)]
def Xd (x:Bj):List V:=[.sc (.string x.f0), .sc (.int .i64 x.f1)]
def Na (x:ED):List V:=[.sc (.string x.f0), .sc (.int .i64 x.f1), .sc (.int .i64 x.f2)]
def HY:Af→List V
 | ⟨a0,a1,a2⟩=>[.sl 9 (a0.map JA), .sl 31 (a1.map HY), .sl 44 (a2.map Na)]
theorem YR (x:Af):HY x=[.sl 9 (x.f0.map JA), .sl 31 (x.f1.map HY), .sl 44 (x.f2.map Na)]:=by cases x;simp only [HY]
def Xe (x:Bl):List V:=[.sc (.string x.f0), .sl 5 (x.f1.map Oz), .sc (.int .i64 x.f2)]
def Xf (x:Bo):List V:=[.sc (.string x.f0), .sc (.int .i64 x.f1)]
def ZQ (x:G5):List V:=[.sc (.string x.f0), .sc (.string x.f1), .sc (.int .i64 x.f2), .sc (.int .i64 x.f3)]
def Xg (x:Int):List V:=[.sc (.int .u64 x)]
def ZR (x:List Int):List V:=[.sl 5 (x.map Oz)]
def Bq (e:Nat) (x:Tb e):List (C0 Tb):=match e,x with
 | 3,(x:Int)=>[.sc (.int .i64 x)]
 | 5,(x:Int)=>[.sc (.int .u8 x)]
 | 9,(x:ByteArray)=>[.sc (.string x)]
 | 41,(x:xY)=>[.sc (.string x.f0), .sc (.int .i64 x.f1), .sc (.int .i64 x.f2)]
 | 26,(x:wH)=>[.sl 9 x.f0, .sl 26 x.f1, .sl 41 x.f2]
 | 186,(x:Bh)=>[.sc (.string x.f0), .sl 5 x.f1, .sc (.int .i64 x.f2)]
 | 142,(x:Bj)=>[.sc (.string x.f0), .sc (.int .i64 x.f1)]
 | 44,(x:ED)=>[.sc (.string x.f0), .sc (.int .i64 x.f1), .sc (.int .i64 x.f2)]
 | 31,(x:Af)=>[.sl 9 x.f0, .sl 31 x.f1, .sl 44 x.f2]
 | 121,(x:Bl)=>[.sc (.string x.f0), .sl 5 x.f1, .sc (.int .i64 x.f2)]
 | 113,(x:Bo)=>[.sc (.string x.f0), .sc (.int .i64 x.f1)]
 | 96,(x:G5)=>[.sc (.string x.f0), .sc (.string x.f1), .sc (.int .i64 x.f2), .sc (.int .i64 x.f3)]
 | 199,(x:Int)=>[.sc (.int .u64 x)]
 | 68,(x:List Int)=>[.sl 5 x]
 | _,_=>[]
def abP (e:Nat) (x:Tb e):List V:=match e,x with
 | 3,(x:Int)=>enc3 x
 | 5,(x:Int)=>Oz x
 | 9,(x:ByteArray)=>JA x
 | 41,(x:xY)=>MZ x
 | 26,(x:wH)=>Hz x
 | 186,(x:Bh)=>Xc x
 | 142,(x:Bj)=>Xd x
 | 44,(x:ED)=>Na x
 | 31,(x:Af)=>HY x
 | 121,(x:Bl)=>Xe x
 | 113,(x:Bo)=>Xf x
 | 96,(x:G5)=>ZQ x
 | 199,(x:Int)=>Xg x
 | 68,(x:List Int)=>ZR x
 | _,_=>[]
def YS (e:Nat) (cs:List (C0 Tb)):Option (Tb e):=match e,cs with
 | 3,[.sc (.int .i64 x)]=>some x
 | 5,[.sc (.int .u8 x)]=>some x
 | 9,[.sc (.string x)]=>some x
 | 41,[.sc (.string a0), .sc (.int .i64 a1), .sc (.int .i64 a2)]=>some (⟨a0,a1,a2⟩:xY)
 | 26,[.sl 9 a0, .sl 26 a1, .sl 41 a2]=>some (⟨a0,a1,a2⟩:wH)
 | 186,[.sc (.string a0), .sl 5 a1, .sc (.int .i64 a2)]=>some (⟨a0,a1,a2⟩:Bh)
 | 142,[.sc (.string a0), .sc (.int .i64 a1)]=>some (⟨a0,a1⟩:Bj)
 | 44,[.sc (.string a0), .sc (.int .i64 a1), .sc (.int .i64 a2)]=>some (⟨a0,a1,a2⟩:ED)
 | 31,[.sl 9 a0, .sl 31 a1, .sl 44 a2]=>some (⟨a0,a1,a2⟩:Af)
 | 121,[.sc (.string a0), .sl 5 a1, .sc (.int .i64 a2)]=>some (⟨a0,a1,a2⟩:Bl)
 | 113,[.sc (.string a0), .sc (.int .i64 a1)]=>some (⟨a0,a1⟩:Bo)
 | 96,[.sc (.string a0), .sc (.string a1), .sc (.int .i64 a2), .sc (.int .i64 a3)]=>some (⟨a0,a1,a2,a3⟩:G5)
 | 199,[.sc (.int .u64 x)]=>some x
 | 68,[.sl 5 x]=>some x
 | _,_=>none
theorem aaF (e:Nat) (cs:List (C0 Tb)) (x:Tb e) (h:YS e cs=some x):Bq e x=cs:=by
 unfold YS at h
 split at h<;>first | (cases h;rfl) | cases h
abbrev mkT (e:Nat) (cs:List (C0 Tb)):Option (Tb e):=YS e cs
theorem abQ (e:Nat) (cs:List (C0 Tb)) (x:Tb e) (h:mkT e cs=some x):Bq e x=cs:=aaF e cs x h
def elT (e:Nat):Bool:=match e with
 | 3=>true
 | 5=>true
 | 9=>true
 | 41=>true
 | 26=>true
 | 186=>true
 | 142=>true
 | 44=>true
 | 31=>true
 | 121=>true
 | 113=>true
 | 96=>true
 | 199=>true
 | 68=>true
 | _=>false
def ZT:List (Nat × Option TI):=[(2,some ⟨1,8,[.int .i64 0], .num .i64⟩),
 (3,some ⟨1,8,[.int .i64 0], .num .i64⟩),
 (4,some ⟨1,1,[.bool false], .one⟩),
 (5,some ⟨1,1,[.int .u8 0], .num .u8⟩),
 (9,some ⟨1,16,[.string ⟨#[]⟩], .text⟩),
 (21,some ⟨1,4,[.int .i32 0], .num .i32⟩),
 (22,some ⟨1,24,[.slice none 0 0], .slice 9⟩),
 (23,some ⟨1,24,[.slice none 0 0], .slice 26⟩),
 (24,some ⟨1,24,[.slice none 0 0], .slice 41⟩),
 (26,some ⟨3,72,[.slice none 0 0, .slice none 0 0, .slice none 0 0], .str [(0,1),(1,1),(2,1)]⟩),
 (28,some ⟨1,24,[.slice none 0 0], .slice 31⟩),
 (29,some ⟨1,24,[.slice none 0 0], .slice 44⟩),
 (31,some ⟨3,72,[.slice none 0 0, .slice none 0 0, .slice none 0 0], .str [(0,1),(1,1),(2,1)]⟩),
 (41,some ⟨3,32,[.string ⟨#[]⟩, .int .i64 0, .int .i64 0], .str [(0,1),(1,1),(2,1)]⟩),
 (44,some ⟨3,32,[.string ⟨#[]⟩, .int .i64 0, .int .i64 0], .str [(0,1),(1,1),(2,1)]⟩),
 (50,some ⟨1,24,[.slice none 0 0], .slice 186⟩),
 (52,some ⟨5,104,[.int .i64 0, .slice none 0 0, .slice none 0 0, .slice none 0 0, .slice none 0 0], .str [(0,1),(1,3),(4,1)]⟩),
 (54,some ⟨1,24,[.slice none 0 0], .slice 121⟩),
 (56,some ⟨5,104,[.int .i64 0, .slice none 0 0, .slice none 0 0, .slice none 0 0, .slice none 0 0], .str [(0,1),(1,3),(4,1)]⟩),
 (68,some ⟨1,24,[.slice none 0 0], .slice 5⟩),
 (74,some ⟨1,24,[.slice none 0 0], .slice 142⟩),
 (76,some ⟨1,24,[.slice none 0 0], .slice 3⟩),
 (79,some ⟨1,24,[.slice none 0 0], .slice 113⟩),
 (93,some ⟨1,24,[.slice none 0 0], .slice 96⟩),
 (96,some ⟨4,48,[.string ⟨#[]⟩, .string ⟨#[]⟩, .int .i64 0, .int .i64 0], .str [(0,1),(1,1),(2,1),(3,1)]⟩),
 (113,some ⟨2,24,[.string ⟨#[]⟩, .int .i64 0], .str [(0,1),(1,1)]⟩),
 (121,some ⟨3,48,[.string ⟨#[]⟩, .slice none 0 0, .int .i64 0], .str [(0,1),(1,1),(2,1)]⟩),
 (142,some ⟨2,24,[.string ⟨#[]⟩, .int .i64 0], .str [(0,1),(1,1)]⟩),
 (186,some ⟨3,48,[.string ⟨#[]⟩, .slice none 0 0, .int .i64 0], .str [(0,1),(1,1),(2,1)]⟩),
 (189,some ⟨3,40,[.slice none 0 0, .int .i64 0, .int .i64 0], .str [(0,1),(1,1),(2,1)]⟩),
 (197,some ⟨1,24,[.slice none 0 0], .slice 68⟩),
 (199,some ⟨1,8,[.int .u64 0], .num .u64⟩)]
def tiT (t:Nat):Option TI:=lk none ZT t
theorem ty2:fA Tryz.prog 2 ⟨1,8,[.int .i64 0], .num .i64⟩:=Bv (by kernel_rfl) (by kernel_rfl) rfl (by decide)
theorem ty3:fA Tryz.prog 3 ⟨1,8,[.int .i64 0], .num .i64⟩:=Bv (by kernel_rfl) (by kernel_rfl) rfl (by decide)
theorem ty4:fA Tryz.prog 4 ⟨1,1,[.bool false], .one⟩:=abR (by kernel_rfl) (by kernel_rfl) rfl (by decide)
theorem ty5:fA Tryz.prog 5 ⟨1,1,[.int .u8 0], .num .u8⟩:=Bv (by kernel_rfl) (by kernel_rfl) rfl (by decide)
theorem ty9:fA Tryz.prog 9 ⟨1,16,[.string ⟨#[]⟩], .text⟩:=aaG (by kernel_rfl) (by kernel_rfl) rfl (by decide)
theorem ad4:fA Tryz.prog 21 ⟨1,4,[.int .i32 0], .num .i32⟩:=Bv (by kernel_rfl) (by kernel_rfl) rfl (by decide)
theorem ad5:fA Tryz.prog 22 ⟨1,24,[.slice none 0 0], .slice 9⟩:=jC (by kernel_rfl) (by kernel_rfl) rfl (by decide)
theorem ad6:fA Tryz.prog 23 ⟨1,24,[.slice none 0 0], .slice 26⟩:=jC (by kernel_rfl) (by kernel_rfl) rfl (by decide)
theorem ad7:fA Tryz.prog 24 ⟨1,24,[.slice none 0 0], .slice 41⟩:=jC (by kernel_rfl) (by kernel_rfl) rfl (by decide)
theorem ad8:fA Tryz.prog 26 ⟨3,72,[.slice none 0 0, .slice none 0 0, .slice none 0 0], .str [(0,1),(1,1),(2,1)]⟩:=mY (by kernel_rfl) (by kernel_rfl) rfl (by decide) (by decide) (by kernel_rfl)
theorem ad9:fA Tryz.prog 28 ⟨1,24,[.slice none 0 0], .slice 31⟩:=jC (by kernel_rfl) (by kernel_rfl) rfl (by decide)
theorem aea:fA Tryz.prog 29 ⟨1,24,[.slice none 0 0], .slice 44⟩:=jC (by kernel_rfl) (by kernel_rfl) rfl (by decide)
theorem aeb:fA Tryz.prog 31 ⟨3,72,[.slice none 0 0, .slice none 0 0, .slice none 0 0], .str [(0,1),(1,1),(2,1)]⟩:=mY (by kernel_rfl) (by kernel_rfl) rfl (by decide) (by decide) (by kernel_rfl)
theorem aec:fA Tryz.prog 41 ⟨3,32,[.string ⟨#[]⟩, .int .i64 0, .int .i64 0], .str [(0,1),(1,1),(2,1)]⟩:=mY (by kernel_rfl) (by kernel_rfl) rfl (by decide) (by decide) (by kernel_rfl)
theorem aed:fA Tryz.prog 44 ⟨3,32,[.string ⟨#[]⟩, .int .i64 0, .int .i64 0], .str [(0,1),(1,1),(2,1)]⟩:=mY (by kernel_rfl) (by kernel_rfl) rfl (by decide) (by decide) (by kernel_rfl)
theorem aee:fA Tryz.prog 50 ⟨1,24,[.slice none 0 0], .slice 186⟩:=jC (by kernel_rfl) (by kernel_rfl) rfl (by decide)
theorem aef:fA Tryz.prog 52 ⟨5,104,[.int .i64 0, .slice none 0 0, .slice none 0 0, .slice none 0 0, .slice none 0 0], .str [(0,1),(1,3),(4,1)]⟩:=mY (by kernel_rfl) (by kernel_rfl) rfl (by decide) (by decide) (by kernel_rfl)
theorem aeg:fA Tryz.prog 54 ⟨1,24,[.slice none 0 0], .slice 121⟩:=jC (by kernel_rfl) (by kernel_rfl) rfl (by decide)
theorem aeh:fA Tryz.prog 56 ⟨5,104,[.int .i64 0, .slice none 0 0, .slice none 0 0, .slice none 0 0, .slice none 0 0], .str [(0,1),(1,3),(4,1)]⟩:=mY (by kernel_rfl) (by kernel_rfl) rfl (by decide) (by decide) (by kernel_rfl)
theorem aei:fA Tryz.prog 68 ⟨1,24,[.slice none 0 0], .slice 5⟩:=jC (by kernel_rfl) (by kernel_rfl) rfl (by decide)
theorem aej:fA Tryz.prog 74 ⟨1,24,[.slice none 0 0], .slice 142⟩:=jC (by kernel_rfl) (by kernel_rfl) rfl (by decide)
theorem aek:fA Tryz.prog 76 ⟨1,24,[.slice none 0 0], .slice 3⟩:=jC (by kernel_rfl) (by kernel_rfl) rfl (by decide)
theorem ael:fA Tryz.prog 79 ⟨1,24,[.slice none 0 0], .slice 113⟩:=jC (by kernel_rfl) (by kernel_rfl) rfl (by decide)
theorem aem:fA Tryz.prog 93 ⟨1,24,[.slice none 0 0], .slice 96⟩:=jC (by kernel_rfl) (by kernel_rfl) rfl (by decide)
theorem aen:fA Tryz.prog 96 ⟨4,48,[.string ⟨#[]⟩, .string ⟨#[]⟩, .int .i64 0, .int .i64 0], .str [(0,1),(1,1),(2,1),(3,1)]⟩:=mY (by kernel_rfl) (by kernel_rfl) rfl (by decide) (by decide) (by kernel_rfl)
theorem ac5:fA Tryz.prog 113 ⟨2,24,[.string ⟨#[]⟩, .int .i64 0], .str [(0,1),(1,1)]⟩:=mY (by kernel_rfl) (by kernel_rfl) rfl (by decide) (by decide) (by kernel_rfl)
theorem ac6:fA Tryz.prog 121 ⟨3,48,[.string ⟨#[]⟩, .slice none 0 0, .int .i64 0], .str [(0,1),(1,1),(2,1)]⟩:=mY (by kernel_rfl) (by kernel_rfl) rfl (by decide) (by decide) (by kernel_rfl)
theorem ac7:fA Tryz.prog 142 ⟨2,24,[.string ⟨#[]⟩, .int .i64 0], .str [(0,1),(1,1)]⟩:=mY (by kernel_rfl) (by kernel_rfl) rfl (by decide) (by decide) (by kernel_rfl)
theorem ac8:fA Tryz.prog 186 ⟨3,48,[.string ⟨#[]⟩, .slice none 0 0, .int .i64 0], .str [(0,1),(1,1),(2,1)]⟩:=mY (by kernel_rfl) (by kernel_rfl) rfl (by decide) (by decide) (by kernel_rfl)
theorem ac9:fA Tryz.prog 189 ⟨3,40,[.slice none 0 0, .int .i64 0, .int .i64 0], .str [(0,1),(1,1),(2,1)]⟩:=mY (by kernel_rfl) (by kernel_rfl) rfl (by decide) (by decide) (by kernel_rfl)
theorem ada:fA Tryz.prog 197 ⟨1,24,[.slice none 0 0], .slice 68⟩:=jC (by kernel_rfl) (by kernel_rfl) rfl (by decide)
theorem adb:fA Tryz.prog 199 ⟨1,8,[.int .u64 0], .num .u64⟩:=Bv (by kernel_rfl) (by kernel_rfl) rfl (by decide)
def T:dQ where
 J:=Go.Proofs.YtcnfgfomholheaaGreatDoor.X.Tabs
 jk:=fun b h=>Go.Proofs.YtcnfgfomholheaaGreatDoor.X.Tabs.below h b
 Tb:=Tb
 df:=dfl
 cells:=Bq
 wM:=mkT
 enc:=abP
 el:=elT
 ti:=tiT
 fZ:=by
  intro e x
  unfold abP Bq
  split
  ·exact((rfl:enc3 _=_)).trans rfl
  ·exact((rfl:Oz _=_)).trans rfl
  ·exact((rfl:JA _=_)).trans rfl
  ·exact((rfl:MZ _=_)).trans rfl
  ·exact(YQ _).trans rfl
  ·exact((rfl:Xc _=_)).trans rfl
  ·exact((rfl:Xd _=_)).trans rfl
  ·exact((rfl:Na _=_)).trans rfl
  ·exact(YR _).trans rfl
  ·exact((rfl:Xe _=_)).trans rfl
  ·exact((rfl:Xf _=_)).trans rfl
  ·exact((rfl:ZQ _=_)).trans rfl
  ·exact((rfl:Xg _=_)).trans rfl
  ·exact((rfl:ZR _=_)).trans rfl
  ·rfl
 mk_eq:=abQ
 one:=by
  intro e x c h
  unfold Bq at h
  split at h<;>simp only [List.mem_cons,List.not_mem_nil,or_false] at h<;>first | (rcases h with rfl | rfl | rfl | rfl<;>rfl) | (subst h;rfl) | cases h
 len:=by
  intro e x i he h
  unfold elT at he
  split at he
  ·exact congrArg TI.size (Option.some.inj (show some _=some i from h))
  ·exact congrArg TI.size (Option.some.inj (show some _=some i from h))
  ·exact congrArg TI.size (Option.some.inj (show some _=some i from h))
  ·exact congrArg TI.size (Option.some.inj (show some _=some i from h))
  ·exact congrArg TI.size (Option.some.inj (show some _=some i from h))
  ·exact congrArg TI.size (Option.some.inj (show some _=some i from h))
  ·exact congrArg TI.size (Option.some.inj (show some _=some i from h))
  ·exact congrArg TI.size (Option.some.inj (show some _=some i from h))
  ·exact congrArg TI.size (Option.some.inj (show some _=some i from h))
  ·exact congrArg TI.size (Option.some.inj (show some _=some i from h))
  ·exact congrArg TI.size (Option.some.inj (show some _=some i from h))
  ·exact congrArg TI.size (Option.some.inj (show some _=some i from h))
  ·exact congrArg TI.size (Option.some.inj (show some _=some i from h))
  ·exact congrArg TI.size (Option.some.inj (show some _=some i from h))
  ·cases he
theorem aeo:∀p∈ZT,∀i,p.2=some i→fA Tryz.prog p.1 i:=by
 intro p hp
 simp only [ZT,List.mem_cons,List.not_mem_nil,or_false] at hp
 rcases hp with rfl | rfl | rfl | rfl | rfl | rfl | rfl | rfl | rfl | rfl | rfl | rfl | rfl | rfl | rfl | rfl | rfl | rfl | rfl | rfl | rfl | rfl | rfl | rfl | rfl | rfl | rfl | rfl | rfl | rfl | rfl | rfl
 ·intro i h;cases h;exact ty2
 ·intro i h;cases h;exact ty3
 ·intro i h;cases h;exact ty4
 ·intro i h;cases h;exact ty5
 ·intro i h;cases h;exact ty9
 ·intro i h;cases h;exact ad4
 ·intro i h;cases h;exact ad5
 ·intro i h;cases h;exact ad6
 ·intro i h;cases h;exact ad7
 ·intro i h;cases h;exact ad8
 ·intro i h;cases h;exact ad9
 ·intro i h;cases h;exact aea
 ·intro i h;cases h;exact aeb
 ·intro i h;cases h;exact aec
 ·intro i h;cases h;exact aed
 ·intro i h;cases h;exact aee
 ·intro i h;cases h;exact aef
 ·intro i h;cases h;exact aeg
 ·intro i h;cases h;exact aeh
 ·intro i h;cases h;exact aei
 ·intro i h;cases h;exact aej
 ·intro i h;cases h;exact aek
 ·intro i h;cases h;exact ael
 ·intro i h;cases h;exact aem
 ·intro i h;cases h;exact aen
 ·intro i h;cases h;exact ac5
 ·intro i h;cases h;exact ac6
 ·intro i h;cases h;exact ac7
 ·intro i h;cases h;exact ac8
 ·intro i h;cases h;exact ac9
 ·intro i h;cases h;exact ada
 ·intro i h;cases h;exact adb
theorem OA {α:Type} {t:Nat} {i:α}:∀{l:List (Nat × Option α)},lk none l t=some i→∃p∈l,p.1=t∧p.2=some i
 | [],h=>by cases h
 | (k,x)::l,h=>by
   unfold lk at h
   cases hb:Nat.beq k t<;>rw [hb] at h
   ·obtain⟨p,h1,h2⟩:=OA h;exact⟨p,List.mem_cons_of_mem _ h1,h2⟩
   ·exact⟨_,List.mem_cons_self,Nat.eq_of_beq_eq_true hb,h⟩
theorem hT:T.ok Tryz.prog:=by
 intro t i h
 obtain⟨p,h1,h2,h3⟩:=OA (show lk none ZT t=some i from h)
 subst h2
 exact aeo p h1 i h3
end Go.Proofs.YtcnfgfomholheaaGreatDoor.Q
