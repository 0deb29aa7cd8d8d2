/- The path calculus: this seat's types: elements, their cells, sizes and zero values. Printed by a program of this work (tab.py). -/
import Derived.Test.YtcnfgfomholheaaGreatDoorZc
import Derived.Test.YtcnfgfomholheaaGreatDoorProg
import Derived.Test.YtcnfgfomholheaaGreatDoorX1
namespace Go.Proofs.YtcnfgfomholheaaGreatDoor.Q
open Go.Proofs.YtcnfgfomholheaaGreatDoor.Z
set_option linter.unusedVariables false
structure zF where
 f0:ByteArray
 f1:Int
 f2:Int
def z41:zF:=⟨(⟨#[]⟩:ByteArray),0,0⟩
structure wV where
 f0:List ByteArray
 f1:List wV
 f2:List zF
def z26:wV:=⟨[],[],[]⟩
structure vJ where
 f0:ByteArray
 f1:List Int
 f2:Int
def aeD:vJ:=⟨(⟨#[]⟩:ByteArray),[],0⟩
structure vI where
 f0:ByteArray
 f1:Int
def aeE:vI:=⟨(⟨#[]⟩:ByteArray),0⟩
structure GY where
 f0:ByteArray
 f1:Int
 f2:Int
def z44:GY:=⟨(⟨#[]⟩:ByteArray),0,0⟩
structure Dj where
 f0:List ByteArray
 f1:List Dj
 f2:List GY
def z31:Dj:=⟨[],[],[]⟩
structure CO where
 f0:ByteArray
 f1:List Int
 f2:Int
def aa7:CO:=⟨(⟨#[]⟩:ByteArray),[],0⟩
structure oz where
 f0:ByteArray
 f1:Int
def aa6:oz:=⟨(⟨#[]⟩:ByteArray),0⟩
structure Ko where
 f0:ByteArray
 f1:ByteArray
 f2:Int
 f3:Int
def z96:Ko:=⟨(⟨#[]⟩:ByteArray),(⟨#[]⟩:ByteArray),0,0⟩
def Tb (e:Nat):Type:=match e with
 | 3=>Int
 | 5=>Int
 | 9=>ByteArray
 | 41=>zF
 | 26=>wV
 | 186=>vJ
 | 142=>vI
 | 44=>GY
 | 31=>Dj
 | 121=>CO
 | 113=>oz
 | 96=>Ko
 | 199=>Int
 | 68=>List Int
 | _=>Unit
def agl (e:Nat):Tb e:=by
 unfold Tb
 split
 ·exact(0:Int)
 ·exact(0:Int)
 ·exact(ByteArray.empty:ByteArray)
 ·exact(z41:zF)
 ·exact(z26:wV)
 ·exact(aeD:vJ)
 ·exact(aeE:vI)
 ·exact(z44:GY)
 ·exact(z31:Dj)
 ·exact(aa7:CO)
 ·exact(aa6:oz)
 ·exact(z96:Ko)
 ·exact(0:Int)
 ·exact([]:List Int)
 ·exact()
def dfl (e:Nat):Tb e:=match e with
 | 3=>(0:Int)
 | 5=>(0:Int)
 | 9=>(ByteArray.empty:ByteArray)
 | 41=>(z41:zF)
 | 26=>(z26:wV)
 | 186=>(aeD:vJ)
 | 142=>(aeE:vI)
 | 44=>(z44:GY)
 | 31=>(z31:Dj)
 | 121=>(aa7:CO)
 | 113=>(aa6:oz)
 | 96=>(z96:Ko)
 | 199=>(0:Int)
 | 68=>([]:List Int)
 | e=>agl e
def enc3 (x:Int):List V:=[.sc (.int .i64 x)]
def SQ (x:Int):List V:=[.sc (.int .u8 x)]
def MS (x:ByteArray):List V:=[.sc (.string x)]
def PE (x:zF):List V:=[.sc (.string x.f0), .sc (.int .i64 x.f1), .sc (.int .i64 x.f2)]
def KE:wV→List V
 | ⟨a0,a1,a2⟩=>[.sl 9 (a0.map MS), .sl 26 (a1.map KE), .sl 41 (a2.map PE)]
theorem abn (x:wV):KE x=[.sl 9 (x.f0.map MS), .sl 26 (x.f1.map KE), .sl 41 (x.f2.map PE)]:=by cases x;simp only [KE]
def ZM (x:vJ):List V:=[.sc (.string x.f0), .sl 5 (x.f1.map SQ), .sc (.int .i64 x.f2)]
def ZN (x:vI):List V:=[.sc (.string x.f0), .sc (.int .i64 x.f1)]
def PG (x:GY):List V:=[.sc (.string x.f0), .sc (.int .i64 x.f1), .sc (.int .i64 x.f2)]
def KF:Dj→List V
 | ⟨a0,a1,a2⟩=>[.sl 9 (a0.map MS), .sl 31 (a1.map KF), .sl 44 (a2.map PG)]
theorem abo (x:Dj):KF x=[.sl 9 (x.f0.map MS), .sl 31 (x.f1.map KF), .sl 44 (x.f2.map PG)]:=by cases x;simp only [KF]
def ZO (x:CO):List V:=[.sc (.string x.f0), .sl 5 (x.f1.map SQ), .sc (.int .i64 x.f2)]
def ZP (x:oz):List V:=[.sc (.string x.f0), .sc (.int .i64 x.f1)]
def abU (x:Ko):List V:=[.sc (.string x.f0), .sc (.string x.f1), .sc (.int .i64 x.f2), .sc (.int .i64 x.f3)]
def ZQ (x:Int):List V:=[.sc (.int .u64 x)]
def abV (x:List Int):List V:=[.sl 5 (x.map SQ)]
def EU (e:Nat) (x:Tb e):List (C0 Tb):=match e,x with
 | 3,(x:Int)=>[.sc (.int .i64 x)]
 | 5,(x:Int)=>[.sc (.int .u8 x)]
 | 9,(x:ByteArray)=>[.sc (.string x)]
 | 41,(x:zF)=>[.sc (.string x.f0), .sc (.int .i64 x.f1), .sc (.int .i64 x.f2)]
 | 26,(x:wV)=>[.sl 9 x.f0, .sl 26 x.f1, .sl 41 x.f2]
 | 186,(x:vJ)=>[.sc (.string x.f0), .sl 5 x.f1, .sc (.int .i64 x.f2)]
 | 142,(x:vI)=>[.sc (.string x.f0), .sc (.int .i64 x.f1)]
 | 44,(x:GY)=>[.sc (.string x.f0), .sc (.int .i64 x.f1), .sc (.int .i64 x.f2)]
 | 31,(x:Dj)=>[.sl 9 x.f0, .sl 31 x.f1, .sl 44 x.f2]
 | 121,(x:CO)=>[.sc (.string x.f0), .sl 5 x.f1, .sc (.int .i64 x.f2)]
 | 113,(x:oz)=>[.sc (.string x.f0), .sc (.int .i64 x.f1)]
 | 96,(x:Ko)=>[.sc (.string x.f0), .sc (.string x.f1), .sc (.int .i64 x.f2), .sc (.int .i64 x.f3)]
 | 199,(x:Int)=>[.sc (.int .u64 x)]
 | 68,(x:List Int)=>[.sl 5 x]
 | _,_=>[]
def aeF (e:Nat) (x:Tb e):List V:=match e,x with
 | 3,(x:Int)=>enc3 x
 | 5,(x:Int)=>SQ x
 | 9,(x:ByteArray)=>MS x
 | 41,(x:zF)=>PE x
 | 26,(x:wV)=>KE x
 | 186,(x:vJ)=>ZM x
 | 142,(x:vI)=>ZN x
 | 44,(x:GY)=>PG x
 | 31,(x:Dj)=>KF x
 | 121,(x:CO)=>ZO x
 | 113,(x:oz)=>ZP x
 | 96,(x:Ko)=>abU x
 | 199,(x:Int)=>ZQ x
 | 68,(x:List Int)=>abV x
 | _,_=>[]
def abp (e:Nat) (cs:List (C0 Tb)):Option (Tb e):=match e,cs with
 | 3,[.sc (.int .i64 x)]=>some x
 | 5,[.sc (.int .u8 x)]=>some x
 | 9,[.sc (.string x)]=>some x
 | 41,[.sc (.string a0), .sc (.int .i64 a1), .sc (.int .i64 a2)]=>some (⟨a0,a1,a2⟩:zF)
 | 26,[.sl 9 a0, .sl 26 a1, .sl 41 a2]=>some (⟨a0,a1,a2⟩:wV)
 | 186,[.sc (.string a0), .sl 5 a1, .sc (.int .i64 a2)]=>some (⟨a0,a1,a2⟩:vJ)
 | 142,[.sc (.string a0), .sc (.int .i64 a1)]=>some (⟨a0,a1⟩:vI)
 | 44,[.sc (.string a0), .sc (.int .i64 a1), .sc (.int .i64 a2)]=>some (⟨a0,a1,a2⟩:GY)
 | 31,[.sl 9 a0, .sl 31 a1, .sl 44 a2]=>some (⟨a0,a1,a2⟩:Dj)
 | 121,[.sc (.string a0), .sl 5 a1, .sc (.int .i64 a2)]=>some (⟨a0,a1,a2⟩:CO)
 | 113,[.sc (.string a0), .sc (.int .i64 a1)]=>some (⟨a0,a1⟩:oz)
 | 96,[.sc (.string a0), .sc (.string a1), .sc (.int .i64 a2), .sc (.int .i64 a3)]=>some (⟨a0,a1,a2,a3⟩:Ko)
 | 199,[.sc (.int .u64 x)]=>some x
 | 68,[.sl 5 x]=>some x
 | _,_=>none
theorem adb (e:Nat) (cs:List (C0 Tb)) (x:Tb e) (h:abp e cs=some x):EU e x=cs:=by
 unfold abp at h
 split at h<;>first | (cases h;rfl) | cases h
abbrev mkT (e:Nat) (cs:List (C0 Tb)):Option (Tb e):=abp e cs
theorem aeG (e:Nat) (cs:List (C0 Tb)) (x:Tb e) (h:mkT e cs=some x):EU e x=cs:=adb e cs x h
def elT (e:Nat):Bool:=match e with
 | 3=>true
 | 5=>true
 | 9=>true
 | 41=>true
 | 26=>true
 | 186=>true
 | 142=>true
 | 44=>true
 | 31=>true
 | 121=>true
 | 113=>true
 | 96=>true
 | 199=>true
 | 68=>true
 | _=>false
def tiL:List (Nat × Option TI):=[(2,some ⟨1,8,[.int .i64 0], .num .i64⟩),
 (3,some ⟨1,8,[.int .i64 0], .num .i64⟩),
 (4,some ⟨1,1,[.bool false], .one⟩),
 (5,some ⟨1,1,[.int .u8 0], .num .u8⟩),
 (9,some ⟨1,16,[.string ⟨#[]⟩], .text⟩),
 (21,some ⟨1,4,[.int .i32 0], .num .i32⟩),
 (22,some ⟨1,24,[.slice none 0 0], .slice 9⟩),
 (23,some ⟨1,24,[.slice none 0 0], .slice 26⟩),
 (24,some ⟨1,24,[.slice none 0 0], .slice 41⟩),
 (26,some ⟨3,72,[.slice none 0 0, .slice none 0 0, .slice none 0 0], .str [(0,1),(1,1),(2,1)]⟩),
 (28,some ⟨1,24,[.slice none 0 0], .slice 31⟩),
 (29,some ⟨1,24,[.slice none 0 0], .slice 44⟩),
 (31,some ⟨3,72,[.slice none 0 0, .slice none 0 0, .slice none 0 0], .str [(0,1),(1,1),(2,1)]⟩),
 (41,some ⟨3,32,[.string ⟨#[]⟩, .int .i64 0, .int .i64 0], .str [(0,1),(1,1),(2,1)]⟩),
 (44,some ⟨3,32,[.string ⟨#[]⟩, .int .i64 0, .int .i64 0], .str [(0,1),(1,1),(2,1)]⟩),
 (50,some ⟨1,24,[.slice none 0 0], .slice 186⟩),
 (52,some ⟨5,104,[.int .i64 0, .slice none 0 0, .slice none 0 0, .slice none 0 0, .slice none 0 0], .str [(0,1),(1,3),(4,1)]⟩),
 (54,some ⟨1,24,[.slice none 0 0], .slice 121⟩),
 (56,some ⟨5,104,[.int .i64 0, .slice none 0 0, .slice none 0 0, .slice none 0 0, .slice none 0 0], .str [(0,1),(1,3),(4,1)]⟩),
 (68,some ⟨1,24,[.slice none 0 0], .slice 5⟩),
 (74,some ⟨1,24,[.slice none 0 0], .slice 142⟩),
 (76,some ⟨1,24,[.slice none 0 0], .slice 3⟩),
 (79,some ⟨1,24,[.slice none 0 0], .slice 113⟩),
 (93,some ⟨1,24,[.slice none 0 0], .slice 96⟩),
 (96,some ⟨4,48,[.string ⟨#[]⟩, .string ⟨#[]⟩, .int .i64 0, .int .i64 0], .str [(0,1),(1,1),(2,1),(3,1)]⟩),
 (113,some ⟨2,24,[.string ⟨#[]⟩, .int .i64 0], .str [(0,1),(1,1)]⟩),
 (121,some ⟨3,48,[.string ⟨#[]⟩, .slice none 0 0, .int .i64 0], .str [(0,1),(1,1),(2,1)]⟩),
 (142,some ⟨2,24,[.string ⟨#[]⟩, .int .i64 0], .str [(0,1),(1,1)]⟩),
 (186,some ⟨3,48,[.string ⟨#[]⟩, .slice none 0 0, .int .i64 0], .str [(0,1),(1,1),(2,1)]⟩),
 (189,some ⟨3,40,[.slice none 0 0, .int .i64 0, .int .i64 0], .str [(0,1),(1,1),(2,1)]⟩),
 (197,some ⟨1,24,[.slice none 0 0], .slice 68⟩),
 (199,some ⟨1,8,[.int .u64 0], .num .u64⟩)]
def tiT (t:Nat):Option TI:=lk none tiL t
theorem ty2:fK Tryz.prog 2 ⟨1,8,[.int .i64 0], .num .i64⟩:=Eo (by kernel_rfl) (by kernel_rfl) rfl (by decide)
theorem ty3:fK Tryz.prog 3 ⟨1,8,[.int .i64 0], .num .i64⟩:=Eo (by kernel_rfl) (by kernel_rfl) rfl (by decide)
theorem ty4:fK Tryz.prog 4 ⟨1,1,[.bool false], .one⟩:=adU (by kernel_rfl) (by kernel_rfl) rfl (by decide)
theorem ty5:fK Tryz.prog 5 ⟨1,1,[.int .u8 0], .num .u8⟩:=Eo (by kernel_rfl) (by kernel_rfl) rfl (by decide)
theorem ty9:fK Tryz.prog 9 ⟨1,16,[.string ⟨#[]⟩], .text⟩:=acU (by kernel_rfl) (by kernel_rfl) rfl (by decide)
theorem agm:fK Tryz.prog 21 ⟨1,4,[.int .i32 0], .num .i32⟩:=Eo (by kernel_rfl) (by kernel_rfl) rfl (by decide)
theorem agn:fK Tryz.prog 22 ⟨1,24,[.slice none 0 0], .slice 9⟩:=jY (by kernel_rfl) (by kernel_rfl) rfl (by decide)
theorem agp:fK Tryz.prog 23 ⟨1,24,[.slice none 0 0], .slice 26⟩:=jY (by kernel_rfl) (by kernel_rfl) rfl (by decide)
theorem agq:fK Tryz.prog 24 ⟨1,24,[.slice none 0 0], .slice 41⟩:=jY (by kernel_rfl) (by kernel_rfl) rfl (by decide)
theorem agr:fK Tryz.prog 26 ⟨3,72,[.slice none 0 0, .slice none 0 0, .slice none 0 0], .str [(0,1),(1,1),(2,1)]⟩:=nU (by kernel_rfl) (by kernel_rfl) rfl (by decide) (by decide) (by kernel_rfl)
theorem ags:fK Tryz.prog 28 ⟨1,24,[.slice none 0 0], .slice 31⟩:=jY (by kernel_rfl) (by kernel_rfl) rfl (by decide)
theorem agt:fK Tryz.prog 29 ⟨1,24,[.slice none 0 0], .slice 44⟩:=jY (by kernel_rfl) (by kernel_rfl) rfl (by decide)
theorem agu:fK Tryz.prog 31 ⟨3,72,[.slice none 0 0, .slice none 0 0, .slice none 0 0], .str [(0,1),(1,1),(2,1)]⟩:=nU (by kernel_rfl) (by kernel_rfl) rfl (by decide) (by decide) (by kernel_rfl)
theorem agv:fK Tryz.prog 41 ⟨3,32,[.string ⟨#[]⟩, .int .i64 0, .int .i64 0], .str [(0,1),(1,1),(2,1)]⟩:=nU (by kernel_rfl) (by kernel_rfl) rfl (by decide) (by decide) (by kernel_rfl)
theorem agw:fK Tryz.prog 44 ⟨3,32,[.string ⟨#[]⟩, .int .i64 0, .int .i64 0], .str [(0,1),(1,1),(2,1)]⟩:=nU (by kernel_rfl) (by kernel_rfl) rfl (by decide) (by decide) (by kernel_rfl)
theorem agx:fK Tryz.prog 50 ⟨1,24,[.slice none 0 0], .slice 186⟩:=jY (by kernel_rfl) (by kernel_rfl) rfl (by decide)
theorem agy:fK Tryz.prog 52 ⟨5,104,[.int .i64 0, .slice none 0 0, .slice none 0 0, .slice none 0 0, .slice none 0 0], .str [(0,1),(1,3),(4,1)]⟩:=nU (by kernel_rfl) (by kernel_rfl) rfl (by decide) (by decide) (by kernel_rfl)
theorem agz:fK Tryz.prog 54 ⟨1,24,[.slice none 0 0], .slice 121⟩:=jY (by kernel_rfl) (by kernel_rfl) rfl (by decide)
theorem agA:fK Tryz.prog 56 ⟨5,104,[.int .i64 0, .slice none 0 0, .slice none 0 0, .slice none 0 0, .slice none 0 0], .str [(0,1),(1,3),(4,1)]⟩:=nU (by kernel_rfl) (by kernel_rfl) rfl (by decide) (by decide) (by kernel_rfl)
theorem agB:fK Tryz.prog 68 ⟨1,24,[.slice none 0 0], .slice 5⟩:=jY (by kernel_rfl) (by kernel_rfl) rfl (by decide)
theorem agC:fK Tryz.prog 74 ⟨1,24,[.slice none 0 0], .slice 142⟩:=jY (by kernel_rfl) (by kernel_rfl) rfl (by decide)
theorem agD:fK Tryz.prog 76 ⟨1,24,[.slice none 0 0], .slice 3⟩:=jY (by kernel_rfl) (by kernel_rfl) rfl (by decide)
theorem agE:fK Tryz.prog 79 ⟨1,24,[.slice none 0 0], .slice 113⟩:=jY (by kernel_rfl) (by kernel_rfl) rfl (by decide)
theorem agF:fK Tryz.prog 93 ⟨1,24,[.slice none 0 0], .slice 96⟩:=jY (by kernel_rfl) (by kernel_rfl) rfl (by decide)
theorem agG:fK Tryz.prog 96 ⟨4,48,[.string ⟨#[]⟩, .string ⟨#[]⟩, .int .i64 0, .int .i64 0], .str [(0,1),(1,1),(2,1),(3,1)]⟩:=nU (by kernel_rfl) (by kernel_rfl) rfl (by decide) (by decide) (by kernel_rfl)
theorem afp:fK Tryz.prog 113 ⟨2,24,[.string ⟨#[]⟩, .int .i64 0], .str [(0,1),(1,1)]⟩:=nU (by kernel_rfl) (by kernel_rfl) rfl (by decide) (by decide) (by kernel_rfl)
theorem afq:fK Tryz.prog 121 ⟨3,48,[.string ⟨#[]⟩, .slice none 0 0, .int .i64 0], .str [(0,1),(1,1),(2,1)]⟩:=nU (by kernel_rfl) (by kernel_rfl) rfl (by decide) (by decide) (by kernel_rfl)
theorem afr:fK Tryz.prog 142 ⟨2,24,[.string ⟨#[]⟩, .int .i64 0], .str [(0,1),(1,1)]⟩:=nU (by kernel_rfl) (by kernel_rfl) rfl (by decide) (by decide) (by kernel_rfl)
theorem afs:fK Tryz.prog 186 ⟨3,48,[.string ⟨#[]⟩, .slice none 0 0, .int .i64 0], .str [(0,1),(1,1),(2,1)]⟩:=nU (by kernel_rfl) (by kernel_rfl) rfl (by decide) (by decide) (by kernel_rfl)
theorem aft:fK Tryz.prog 189 ⟨3,40,[.slice none 0 0, .int .i64 0, .int .i64 0], .str [(0,1),(1,1),(2,1)]⟩:=nU (by kernel_rfl) (by kernel_rfl) rfl (by decide) (by decide) (by kernel_rfl)
theorem afu:fK Tryz.prog 197 ⟨1,24,[.slice none 0 0], .slice 68⟩:=jY (by kernel_rfl) (by kernel_rfl) rfl (by decide)
theorem afv:fK Tryz.prog 199 ⟨1,8,[.int .u64 0], .num .u64⟩:=Eo (by kernel_rfl) (by kernel_rfl) rfl (by decide)
def T:dV where
 J:=Go.Proofs.YtcnfgfomholheaaGreatDoor.X.Tabs
 jk:=fun b h=>Go.Proofs.YtcnfgfomholheaaGreatDoor.X.Tabs.below h b
 Tb:=Tb
 df:=dfl
 cells:=EU
 yN:=mkT
 enc:=aeF
 el:=elT
 ti:=tiT
 gZ:=by
  intro e x
  unfold aeF EU
  split
  ·exact((rfl:enc3 _=_)).trans rfl
  ·exact((rfl:SQ _=_)).trans rfl
  ·exact((rfl:MS _=_)).trans rfl
  ·exact((rfl:PE _=_)).trans rfl
  ·exact(abn _).trans rfl
  ·exact((rfl:ZM _=_)).trans rfl
  ·exact((rfl:ZN _=_)).trans rfl
  ·exact((rfl:PG _=_)).trans rfl
  ·exact(abo _).trans rfl
  ·exact((rfl:ZO _=_)).trans rfl
  ·exact((rfl:ZP _=_)).trans rfl
  ·exact((rfl:abU _=_)).trans rfl
  ·exact((rfl:ZQ _=_)).trans rfl
  ·exact((rfl:abV _=_)).trans rfl
  ·rfl
 mk_eq:=aeG
 one:=by
  intro e x c h
  unfold EU at h
  split at h<;>simp only [List.mem_cons,List.not_mem_nil,or_false] at h<;>first | (rcases h with rfl | rfl | rfl | rfl<;>rfl) | (subst h;rfl) | cases h
 len:=by
  intro e x i he h
  unfold elT at he
  split at he
  ·exact congrArg TI.size (Option.some.inj (show some _=some i from h))
  ·exact congrArg TI.size (Option.some.inj (show some _=some i from h))
  ·exact congrArg TI.size (Option.some.inj (show some _=some i from h))
  ·exact congrArg TI.size (Option.some.inj (show some _=some i from h))
  ·exact congrArg TI.size (Option.some.inj (show some _=some i from h))
  ·exact congrArg TI.size (Option.some.inj (show some _=some i from h))
  ·exact congrArg TI.size (Option.some.inj (show some _=some i from h))
  ·exact congrArg TI.size (Option.some.inj (show some _=some i from h))
  ·exact congrArg TI.size (Option.some.inj (show some _=some i from h))
  ·exact congrArg TI.size (Option.some.inj (show some _=some i from h))
  ·exact congrArg TI.size (Option.some.inj (show some _=some i from h))
  ·exact congrArg TI.size (Option.some.inj (show some _=some i from h))
  ·exact congrArg TI.size (Option.some.inj (show some _=some i from h))
  ·exact congrArg TI.size (Option.some.inj (show some _=some i from h))
  ·cases he
theorem agH:∀p∈tiL,∀i,p.2=some i→fK Tryz.prog p.1 i:=by
 intro p hp
 simp only [tiL,List.mem_cons,List.not_mem_nil,or_false] at hp
 rcases hp with rfl | rfl | rfl | rfl | rfl | rfl | rfl | rfl | rfl | rfl | rfl | rfl | rfl | rfl | rfl | rfl | rfl | rfl | rfl | rfl | rfl | rfl | rfl | rfl | rfl | rfl | rfl | rfl | rfl | rfl | rfl | rfl
 ·intro i h;cases h;exact ty2
 ·intro i h;cases h;exact ty3
 ·intro i h;cases h;exact ty4
 ·intro i h;cases h;exact ty5
 ·intro i h;cases h;exact ty9
 ·intro i h;cases h;exact agm
 ·intro i h;cases h;exact agn
 ·intro i h;cases h;exact agp
 ·intro i h;cases h;exact agq
 ·intro i h;cases h;exact agr
 ·intro i h;cases h;exact ags
 ·intro i h;cases h;exact agt
 ·intro i h;cases h;exact agu
 ·intro i h;cases h;exact agv
 ·intro i h;cases h;exact agw
 ·intro i h;cases h;exact agx
 ·intro i h;cases h;exact agy
 ·intro i h;cases h;exact agz
 ·intro i h;cases h;exact agA
 ·intro i h;cases h;exact agB
 ·intro i h;cases h;exact agC
 ·intro i h;cases h;exact agD
 ·intro i h;cases h;exact agE
 ·intro i h;cases h;exact agF
 ·intro i h;cases h;exact agG
 ·intro i h;cases h;exact afp
 ·intro i h;cases h;exact afq
 ·intro i h;cases h;exact afr
 ·intro i h;cases h;exact afs
 ·intro i h;cases h;exact aft
 ·intro i h;cases h;exact afu
 ·intro i h;cases h;exact afv
theorem SV {α:Type} {t:Nat} {i:α}:∀{l:List (Nat × Option α)},lk none l t=some i→∃p∈l,p.1=t∧p.2=some i
 | [],h=>by cases h
 | (k,x)::l,h=>by
   unfold lk at h
   cases hb:Nat.beq k t<;>rw [hb] at h
   ·obtain⟨p,h1,h2⟩:=SV h;exact⟨p,List.mem_cons_of_mem _ h1,h2⟩
   ·exact⟨_,List.mem_cons_self,Nat.eq_of_beq_eq_true hb,h⟩
theorem hT:T.ok Tryz.prog:=by
 intro t i h
 obtain⟨p,h1,h2,h3⟩:=SV (show lk none tiL t=some i from h)
 subst h2
 exact agH p h1 i h3
end Go.Proofs.YtcnfgfomholheaaGreatDoor.Q
