/- The path calculus: this seat's types: elements, their cells, sizes and zero values. Printed by a program of this work (tab.py). -/
import Derived.Test.YtcnfgfomholheaaGreatDoorZc
import Derived.Test.YtcnfgfomholheaaGreatDoorProg
import Derived.Test.YtcnfgfomholheaaGreatDoorX1
namespace Go.Proofs.YtcnfgfomholheaaGreatDoor.Q
open Go.Proofs.YtcnfgfomholheaaGreatDoor.Z
set_option linter.unusedVariables false
structure wL where
 f0:ByteArray
 f1:Int
 f2:Int
def z41:wL:=⟨(⟨#[]⟩:ByteArray),0,0⟩
structure uU where
 f0:List ByteArray
 f1:List uU
 f2:List wL
def z26:uU:=⟨[],[],[]⟩
structure zT where
 f0:ByteArray
 f1:List Int
 f2:Int
def aak:zT:=⟨(⟨#[]⟩:ByteArray),[],0⟩
structure zU where
 f0:ByteArray
 f1:Int
def aal:zU:=⟨(⟨#[]⟩:ByteArray),0⟩
structure DF where
 f0:ByteArray
 f1:Int
 f2:Int
def z44:DF:=⟨(⟨#[]⟩:ByteArray),0,0⟩
structure yZ where
 f0:List ByteArray
 f1:List yZ
 f2:List DF
def z31:yZ:=⟨[],[],[]⟩
structure zV where
 f0:ByteArray
 f1:List Int
 f2:Int
def aam:zV:=⟨(⟨#[]⟩:ByteArray),[],0⟩
structure zW where
 f0:ByteArray
 f1:Int
def aan:zW:=⟨(⟨#[]⟩:ByteArray),0⟩
structure Fh where
 f0:ByteArray
 f1:ByteArray
 f2:Int
 f3:Int
def z96:Fh:=⟨(⟨#[]⟩:ByteArray),(⟨#[]⟩:ByteArray),0,0⟩
def Tb (e:Nat):Type:=match e with
 | 3=>Int
 | 5=>Int
 | 9=>ByteArray
 | 41=>wL
 | 26=>uU
 | 186=>zT
 | 142=>zU
 | 44=>DF
 | 31=>yZ
 | 121=>zV
 | 113=>zW
 | 96=>Fh
 | 199=>Int
 | _=>Unit
def acG (e:Nat):Tb e:=by
 unfold Tb
 split
 ·exact(0:Int)
 ·exact(0:Int)
 ·exact(ByteArray.empty:ByteArray)
 ·exact(z41:wL)
 ·exact(z26:uU)
 ·exact(aak:zT)
 ·exact(aal:zU)
 ·exact(z44:DF)
 ·exact(z31:yZ)
 ·exact(aam:zV)
 ·exact(aan:zW)
 ·exact(z96:Fh)
 ·exact(0:Int)
 ·exact()
def dfl (e:Nat):Tb e:=match e with
 | 3=>(0:Int)
 | 5=>(0:Int)
 | 9=>(ByteArray.empty:ByteArray)
 | 41=>(z41:wL)
 | 26=>(z26:uU)
 | 186=>(aak:zT)
 | 142=>(aal:zU)
 | 44=>(z44:DF)
 | 31=>(z31:yZ)
 | 121=>(aam:zV)
 | 113=>(aan:zW)
 | 96=>(z96:Fh)
 | 199=>(0:Int)
 | e=>acG e
def enc3 (x:Int):List V:=[.sc (.int .i64 x)]
def RH (x:Int):List V:=[.sc (.int .u8 x)]
def Io (x:ByteArray):List V:=[.sc (.string x)]
def KQ (x:wL):List V:=[.sc (.string x.f0), .sc (.int .i64 x.f1), .sc (.int .i64 x.f2)]
def FU:uU→List V
 | ⟨a0,a1,a2⟩=>[.sl 9 (a0.map Io), .sl 26 (a1.map FU), .sl 41 (a2.map KQ)]
theorem Xg (x:uU):FU x=[.sl 9 (x.f0.map Io), .sl 26 (x.f1.map FU), .sl 41 (x.f2.map KQ)]:=by cases x;simp only [FU]
def Vm (x:zT):List V:=[.sc (.string x.f0), .sl 5 (x.f1.map RH), .sc (.int .i64 x.f2)]
def Vo (x:zU):List V:=[.sc (.string x.f0), .sc (.int .i64 x.f1)]
def KR (x:DF):List V:=[.sc (.string x.f0), .sc (.int .i64 x.f1), .sc (.int .i64 x.f2)]
def FV:yZ→List V
 | ⟨a0,a1,a2⟩=>[.sl 9 (a0.map Io), .sl 31 (a1.map FV), .sl 44 (a2.map KR)]
theorem Xh (x:yZ):FV x=[.sl 9 (x.f0.map Io), .sl 31 (x.f1.map FV), .sl 44 (x.f2.map KR)]:=by cases x;simp only [FV]
def Vp (x:zV):List V:=[.sc (.string x.f0), .sl 5 (x.f1.map RH), .sc (.int .i64 x.f2)]
def Vq (x:zW):List V:=[.sc (.string x.f0), .sc (.int .i64 x.f1)]
def Yl (x:Fh):List V:=[.sc (.string x.f0), .sc (.string x.f1), .sc (.int .i64 x.f2), .sc (.int .i64 x.f3)]
def Vr (x:Int):List V:=[.sc (.int .u64 x)]
def zX (e:Nat) (x:Tb e):List (C0 Tb):=match e,x with
 | 3,(x:Int)=>[.sc (.int .i64 x)]
 | 5,(x:Int)=>[.sc (.int .u8 x)]
 | 9,(x:ByteArray)=>[.sc (.string x)]
 | 41,(x:wL)=>[.sc (.string x.f0), .sc (.int .i64 x.f1), .sc (.int .i64 x.f2)]
 | 26,(x:uU)=>[.sl 9 x.f0, .sl 26 x.f1, .sl 41 x.f2]
 | 186,(x:zT)=>[.sc (.string x.f0), .sl 5 x.f1, .sc (.int .i64 x.f2)]
 | 142,(x:zU)=>[.sc (.string x.f0), .sc (.int .i64 x.f1)]
 | 44,(x:DF)=>[.sc (.string x.f0), .sc (.int .i64 x.f1), .sc (.int .i64 x.f2)]
 | 31,(x:yZ)=>[.sl 9 x.f0, .sl 31 x.f1, .sl 44 x.f2]
 | 121,(x:zV)=>[.sc (.string x.f0), .sl 5 x.f1, .sc (.int .i64 x.f2)]
 | 113,(x:zW)=>[.sc (.string x.f0), .sc (.int .i64 x.f1)]
 | 96,(x:Fh)=>[.sc (.string x.f0), .sc (.string x.f1), .sc (.int .i64 x.f2), .sc (.int .i64 x.f3)]
 | 199,(x:Int)=>[.sc (.int .u64 x)]
 | _,_=>[]
def aao (e:Nat) (x:Tb e):List V:=match e,x with
 | 3,(x:Int)=>enc3 x
 | 5,(x:Int)=>RH x
 | 9,(x:ByteArray)=>Io x
 | 41,(x:wL)=>KQ x
 | 26,(x:uU)=>FU x
 | 186,(x:zT)=>Vm x
 | 142,(x:zU)=>Vo x
 | 44,(x:DF)=>KR x
 | 31,(x:yZ)=>FV x
 | 121,(x:zV)=>Vp x
 | 113,(x:zW)=>Vq x
 | 96,(x:Fh)=>Yl x
 | 199,(x:Int)=>Vr x
 | _,_=>[]
def Xi (e:Nat) (cs:List (C0 Tb)):Option (Tb e):=match e,cs with
 | 3,[.sc (.int .i64 x)]=>some x
 | 5,[.sc (.int .u8 x)]=>some x
 | 9,[.sc (.string x)]=>some x
 | 41,[.sc (.string a0), .sc (.int .i64 a1), .sc (.int .i64 a2)]=>some (⟨a0,a1,a2⟩:wL)
 | 26,[.sl 9 a0, .sl 26 a1, .sl 41 a2]=>some (⟨a0,a1,a2⟩:uU)
 | 186,[.sc (.string a0), .sl 5 a1, .sc (.int .i64 a2)]=>some (⟨a0,a1,a2⟩:zT)
 | 142,[.sc (.string a0), .sc (.int .i64 a1)]=>some (⟨a0,a1⟩:zU)
 | 44,[.sc (.string a0), .sc (.int .i64 a1), .sc (.int .i64 a2)]=>some (⟨a0,a1,a2⟩:DF)
 | 31,[.sl 9 a0, .sl 31 a1, .sl 44 a2]=>some (⟨a0,a1,a2⟩:yZ)
 | 121,[.sc (.string a0), .sl 5 a1, .sc (.int .i64 a2)]=>some (⟨a0,a1,a2⟩:zV)
 | 113,[.sc (.string a0), .sc (.int .i64 a1)]=>some (⟨a0,a1⟩:zW)
 | 96,[.sc (.string a0), .sc (.string a1), .sc (.int .i64 a2), .sc (.int .i64 a3)]=>some (⟨a0,a1,a2,a3⟩:Fh)
 | 199,[.sc (.int .u64 x)]=>some x
 | _,_=>none
theorem Za (e:Nat) (cs:List (C0 Tb)) (x:Tb e) (h:Xi e cs=some x):zX e x=cs:=by
 unfold Xi at h
 split at h<;>first | (cases h;rfl) | cases h
abbrev mkT (e:Nat) (cs:List (C0 Tb)):Option (Tb e):=Xi e cs
theorem aap (e:Nat) (cs:List (C0 Tb)) (x:Tb e) (h:mkT e cs=some x):zX e x=cs:=Za e cs x h
def elT (e:Nat):Bool:=match e with
 | 3=>true
 | 5=>true
 | 9=>true
 | 41=>true
 | 26=>true
 | 186=>true
 | 142=>true
 | 44=>true
 | 31=>true
 | 121=>true
 | 113=>true
 | 96=>true
 | 199=>true
 | _=>false
def Ym:List (Nat × Option TI):=[(2,some ⟨1,8,[.int .i64 0], .num .i64⟩),
 (3,some ⟨1,8,[.int .i64 0], .num .i64⟩),
 (4,some ⟨1,1,[.bool false], .one⟩),
 (5,some ⟨1,1,[.int .u8 0], .num .u8⟩),
 (9,some ⟨1,16,[.string ⟨#[]⟩], .text⟩),
 (21,some ⟨1,4,[.int .i32 0], .num .i32⟩),
 (22,some ⟨1,24,[.slice none 0 0], .slice 9⟩),
 (23,some ⟨1,24,[.slice none 0 0], .slice 26⟩),
 (24,some ⟨1,24,[.slice none 0 0], .slice 41⟩),
 (26,some ⟨3,72,[.slice none 0 0, .slice none 0 0, .slice none 0 0], .str [(0,1),(1,1),(2,1)]⟩),
 (28,some ⟨1,24,[.slice none 0 0], .slice 31⟩),
 (29,some ⟨1,24,[.slice none 0 0], .slice 44⟩),
 (31,some ⟨3,72,[.slice none 0 0, .slice none 0 0, .slice none 0 0], .str [(0,1),(1,1),(2,1)]⟩),
 (41,some ⟨3,32,[.string ⟨#[]⟩, .int .i64 0, .int .i64 0], .str [(0,1),(1,1),(2,1)]⟩),
 (44,some ⟨3,32,[.string ⟨#[]⟩, .int .i64 0, .int .i64 0], .str [(0,1),(1,1),(2,1)]⟩),
 (50,some ⟨1,24,[.slice none 0 0], .slice 186⟩),
 (52,some ⟨5,104,[.int .i64 0, .slice none 0 0, .slice none 0 0, .slice none 0 0, .slice none 0 0], .str [(0,1),(1,3),(4,1)]⟩),
 (54,some ⟨1,24,[.slice none 0 0], .slice 121⟩),
 (56,some ⟨5,104,[.int .i64 0, .slice none 0 0, .slice none 0 0, .slice none 0 0, .slice none 0 0], .str [(0,1),(1,3),(4,1)]⟩),
 (68,some ⟨1,24,[.slice none 0 0], .slice 5⟩),
 (74,some ⟨1,24,[.slice none 0 0], .slice 142⟩),
 (76,some ⟨1,24,[.slice none 0 0], .slice 3⟩),
 (79,some ⟨1,24,[.slice none 0 0], .slice 113⟩),
 (93,some ⟨1,24,[.slice none 0 0], .slice 96⟩),
 (96,some ⟨4,48,[.string ⟨#[]⟩, .string ⟨#[]⟩, .int .i64 0, .int .i64 0], .str [(0,1),(1,1),(2,1),(3,1)]⟩),
 (113,some ⟨2,24,[.string ⟨#[]⟩, .int .i64 0], .str [(0,1),(1,1)]⟩),
 (121,some ⟨3,48,[.string ⟨#[]⟩, .slice none 0 0, .int .i64 0], .str [(0,1),(1,1),(2,1)]⟩),
 (142,some ⟨2,24,[.string ⟨#[]⟩, .int .i64 0], .str [(0,1),(1,1)]⟩),
 (186,some ⟨3,48,[.string ⟨#[]⟩, .slice none 0 0, .int .i64 0], .str [(0,1),(1,1),(2,1)]⟩),
 (189,some ⟨3,40,[.slice none 0 0, .int .i64 0, .int .i64 0], .str [(0,1),(1,1),(2,1)]⟩),
 (199,some ⟨1,8,[.int .u64 0], .num .u64⟩)]
def tiT (t:Nat):Option TI:=lk none Ym t
theorem ty2:eP Tryz.prog 2 ⟨1,8,[.int .i64 0], .num .i64⟩:=zY (by kernel_rfl) (by kernel_rfl) rfl (by decide)
theorem ty3:eP Tryz.prog 3 ⟨1,8,[.int .i64 0], .num .i64⟩:=zY (by kernel_rfl) (by kernel_rfl) rfl (by decide)
theorem ty4:eP Tryz.prog 4 ⟨1,1,[.bool false], .one⟩:=aaq (by kernel_rfl) (by kernel_rfl) rfl (by decide)
theorem ty5:eP Tryz.prog 5 ⟨1,1,[.int .u8 0], .num .u8⟩:=zY (by kernel_rfl) (by kernel_rfl) rfl (by decide)
theorem ty9:eP Tryz.prog 9 ⟨1,16,[.string ⟨#[]⟩], .text⟩:=Zb (by kernel_rfl) (by kernel_rfl) rfl (by decide)
theorem acH:eP Tryz.prog 21 ⟨1,4,[.int .i32 0], .num .i32⟩:=zY (by kernel_rfl) (by kernel_rfl) rfl (by decide)
theorem acI:eP Tryz.prog 22 ⟨1,24,[.slice none 0 0], .slice 9⟩:=jD (by kernel_rfl) (by kernel_rfl) rfl (by decide)
theorem acJ:eP Tryz.prog 23 ⟨1,24,[.slice none 0 0], .slice 26⟩:=jD (by kernel_rfl) (by kernel_rfl) rfl (by decide)
theorem acK:eP Tryz.prog 24 ⟨1,24,[.slice none 0 0], .slice 41⟩:=jD (by kernel_rfl) (by kernel_rfl) rfl (by decide)
theorem acL:eP Tryz.prog 26 ⟨3,72,[.slice none 0 0, .slice none 0 0, .slice none 0 0], .str [(0,1),(1,1),(2,1)]⟩:=lQ (by kernel_rfl) (by kernel_rfl) rfl (by decide) (by decide) (by kernel_rfl)
theorem acM:eP Tryz.prog 28 ⟨1,24,[.slice none 0 0], .slice 31⟩:=jD (by kernel_rfl) (by kernel_rfl) rfl (by decide)
theorem acN:eP Tryz.prog 29 ⟨1,24,[.slice none 0 0], .slice 44⟩:=jD (by kernel_rfl) (by kernel_rfl) rfl (by decide)
theorem acO:eP Tryz.prog 31 ⟨3,72,[.slice none 0 0, .slice none 0 0, .slice none 0 0], .str [(0,1),(1,1),(2,1)]⟩:=lQ (by kernel_rfl) (by kernel_rfl) rfl (by decide) (by decide) (by kernel_rfl)
theorem acP:eP Tryz.prog 41 ⟨3,32,[.string ⟨#[]⟩, .int .i64 0, .int .i64 0], .str [(0,1),(1,1),(2,1)]⟩:=lQ (by kernel_rfl) (by kernel_rfl) rfl (by decide) (by decide) (by kernel_rfl)
theorem acQ:eP Tryz.prog 44 ⟨3,32,[.string ⟨#[]⟩, .int .i64 0, .int .i64 0], .str [(0,1),(1,1),(2,1)]⟩:=lQ (by kernel_rfl) (by kernel_rfl) rfl (by decide) (by decide) (by kernel_rfl)
theorem acR:eP Tryz.prog 50 ⟨1,24,[.slice none 0 0], .slice 186⟩:=jD (by kernel_rfl) (by kernel_rfl) rfl (by decide)
theorem acS:eP Tryz.prog 52 ⟨5,104,[.int .i64 0, .slice none 0 0, .slice none 0 0, .slice none 0 0, .slice none 0 0], .str [(0,1),(1,3),(4,1)]⟩:=lQ (by kernel_rfl) (by kernel_rfl) rfl (by decide) (by decide) (by kernel_rfl)
theorem acT:eP Tryz.prog 54 ⟨1,24,[.slice none 0 0], .slice 121⟩:=jD (by kernel_rfl) (by kernel_rfl) rfl (by decide)
theorem acU:eP Tryz.prog 56 ⟨5,104,[.int .i64 0, .slice none 0 0, .slice none 0 0, .slice none 0 0, .slice none 0 0], .str [(0,1),(1,3),(4,1)]⟩:=lQ (by kernel_rfl) (by kernel_rfl) rfl (by decide) (by decide) (by kernel_rfl)
theorem acV:eP Tryz.prog 68 ⟨1,24,[.slice none 0 0], .slice 5⟩:=jD (by kernel_rfl) (by kernel_rfl) rfl (by decide)
theorem acW:eP Tryz.prog 74 ⟨1,24,[.slice none 0 0], .slice 142⟩:=jD (by kernel_rfl) (by kernel_rfl) rfl (by decide)
theorem acX:eP Tryz.prog 76 ⟨1,24,[.slice none 0 0], .slice 3⟩:=jD (by kernel_rfl) (by kernel_rfl) rfl (by decide)
theorem acY:eP Tryz.prog 79 ⟨1,24,[.slice none 0 0], .slice 113⟩:=jD (by kernel_rfl) (by kernel_rfl) rfl (by decide)
theorem acZ:eP Tryz.prog 93 ⟨1,24,[.slice none 0 0], .slice 96⟩:=jD (by kernel_rfl) (by kernel_rfl) rfl (by decide)
theorem ac0:eP Tryz.prog 96 ⟨4,48,[.string ⟨#[]⟩, .string ⟨#[]⟩, .int .i64 0, .int .i64 0], .str [(0,1),(1,1),(2,1),(3,1)]⟩:=lQ (by kernel_rfl) (by kernel_rfl) rfl (by decide) (by decide) (by kernel_rfl)
theorem abI:eP Tryz.prog 113 ⟨2,24,[.string ⟨#[]⟩, .int .i64 0], .str [(0,1),(1,1)]⟩:=lQ (by kernel_rfl) (by kernel_rfl) rfl (by decide) (by decide) (by kernel_rfl)
theorem abJ:eP Tryz.prog 121 ⟨3,48,[.string ⟨#[]⟩, .slice none 0 0, .int .i64 0], .str [(0,1),(1,1),(2,1)]⟩:=lQ (by kernel_rfl) (by kernel_rfl) rfl (by decide) (by decide) (by kernel_rfl)
theorem abK:eP Tryz.prog 142 ⟨2,24,[.string ⟨#[]⟩, .int .i64 0], .str [(0,1),(1,1)]⟩:=lQ (by kernel_rfl) (by kernel_rfl) rfl (by decide) (by decide) (by kernel_rfl)
theorem abL:eP Tryz.prog 186 ⟨3,48,[.string ⟨#[]⟩, .slice none 0 0, .int .i64 0], .str [(0,1),(1,1),(2,1)]⟩:=lQ (by kernel_rfl) (by kernel_rfl) rfl (by decide) (by decide) (by kernel_rfl)
theorem abM:eP Tryz.prog 189 ⟨3,40,[.slice none 0 0, .int .i64 0, .int .i64 0], .str [(0,1),(1,1),(2,1)]⟩:=lQ (by kernel_rfl) (by kernel_rfl) rfl (by decide) (by decide) (by kernel_rfl)
theorem abN:eP Tryz.prog 199 ⟨1,8,[.int .u64 0], .num .u64⟩:=zY (by kernel_rfl) (by kernel_rfl) rfl (by decide)
def T:dN where
 J:=Go.Proofs.YtcnfgfomholheaaGreatDoor.X.Tabs
 jk:=fun b h=>Go.Proofs.YtcnfgfomholheaaGreatDoor.X.Tabs.below h b
 Tb:=Tb
 df:=dfl
 cells:=zX
 uX:=mkT
 enc:=aao
 el:=elT
 ti:=tiT
 fF:=by
  intro e x
  unfold aao zX
  split
  ·exact((rfl:enc3 _=_)).trans rfl
  ·exact((rfl:RH _=_)).trans rfl
  ·exact((rfl:Io _=_)).trans rfl
  ·exact((rfl:KQ _=_)).trans rfl
  ·exact(Xg _).trans rfl
  ·exact((rfl:Vm _=_)).trans rfl
  ·exact((rfl:Vo _=_)).trans rfl
  ·exact((rfl:KR _=_)).trans rfl
  ·exact(Xh _).trans rfl
  ·exact((rfl:Vp _=_)).trans rfl
  ·exact((rfl:Vq _=_)).trans rfl
  ·exact((rfl:Yl _=_)).trans rfl
  ·exact((rfl:Vr _=_)).trans rfl
  ·rfl
 mk_eq:=aap
 one:=by
  intro e x c h
  unfold zX at h
  split at h<;>simp only [List.mem_cons,List.not_mem_nil,or_false] at h<;>first | (rcases h with rfl | rfl | rfl | rfl<;>rfl) | (subst h;rfl) | cases h
 len:=by
  intro e x i he h
  unfold elT at he
  split at he
  ·exact congrArg TI.size (Option.some.inj (show some _=some i from h))
  ·exact congrArg TI.size (Option.some.inj (show some _=some i from h))
  ·exact congrArg TI.size (Option.some.inj (show some _=some i from h))
  ·exact congrArg TI.size (Option.some.inj (show some _=some i from h))
  ·exact congrArg TI.size (Option.some.inj (show some _=some i from h))
  ·exact congrArg TI.size (Option.some.inj (show some _=some i from h))
  ·exact congrArg TI.size (Option.some.inj (show some _=some i from h))
  ·exact congrArg TI.size (Option.some.inj (show some _=some i from h))
  ·exact congrArg TI.size (Option.some.inj (show some _=some i from h))
  ·exact congrArg TI.size (Option.some.inj (show some _=some i from h))
  ·exact congrArg TI.size (Option.some.inj (show some _=some i from h))
  ·exact congrArg TI.size (Option.some.inj (show some _=some i from h))
  ·exact congrArg TI.size (Option.some.inj (show some _=some i from h))
  ·cases he
theorem ac1:∀p∈Ym,∀i,p.2=some i→eP Tryz.prog p.1 i:=by
 intro p hp
 simp only [Ym,List.mem_cons,List.not_mem_nil,or_false] at hp
 rcases hp with rfl | rfl | rfl | rfl | rfl | rfl | rfl | rfl | rfl | rfl | rfl | rfl | rfl | rfl | rfl | rfl | rfl | rfl | rfl | rfl | rfl | rfl | rfl | rfl | rfl | rfl | rfl | rfl | rfl | rfl | rfl
 ·intro i h;cases h;exact ty2
 ·intro i h;cases h;exact ty3
 ·intro i h;cases h;exact ty4
 ·intro i h;cases h;exact ty5
 ·intro i h;cases h;exact ty9
 ·intro i h;cases h;exact acH
 ·intro i h;cases h;exact acI
 ·intro i h;cases h;exact acJ
 ·intro i h;cases h;exact acK
 ·intro i h;cases h;exact acL
 ·intro i h;cases h;exact acM
 ·intro i h;cases h;exact acN
 ·intro i h;cases h;exact acO
 ·intro i h;cases h;exact acP
 ·intro i h;cases h;exact acQ
 ·intro i h;cases h;exact acR
 ·intro i h;cases h;exact acS
 ·intro i h;cases h;exact acT
 ·intro i h;cases h;exact acU
 ·intro i h;cases h;exact acV
 ·intro i h;cases h;exact acW
 ·intro i h;cases h;exact acX
 ·intro i h;cases h;exact acY
 ·intro i h;cases h;exact acZ
 ·intro i h;cases h;exact ac0
 ·intro i h;cases h;exact abI
 ·intro i h;cases h;exact abJ
 ·intro i h;cases h;exact abK
 ·intro i h;cases h;exact abL
 ·intro i h;cases h;exact abM
 ·intro i h;cases h;exact abN
theorem MQ {α:Type} {t:Nat} {i:α}:∀{l:List (Nat × Option α)},lk none l t=some i→∃p∈l,p.1=t∧p.2=some i
 | [],h=>by cases h
 | (k,x)::l,h=>by
   unfold lk at h
   cases hb:Nat.beq k t<;>rw [hb] at h
   ·obtain⟨p,h1,h2⟩:=MQ h;exact⟨p,List.mem_cons_of_mem _ h1,h2⟩
   ·exact⟨_,List.mem_cons_self,Nat.eq_of_beq_eq_true hb,h⟩
theorem hT:T.ok Tryz.prog:=by
 intro t i h
 obtain⟨p,h1,h2,h3⟩:=MQ (show lk none Ym t=some i from h)
 subst h2
 exact ac1 p h1 i h3
end Go.Proofs.YtcnfgfomholheaaGreatDoor.Q
