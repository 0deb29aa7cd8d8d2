/- The path calculus: this seat's types: elements, their cells, sizes and zero values. Printed by a program of this work (tab.py). -/
import Derived.Test.YtcnfgfomholheaaGreatDoorZc
import Derived.Test.YtcnfgfomholheaaGreatDoorProg
import Derived.Test.YtcnfgfomholheaaGreatDoorX1
namespace Go.Proofs.YtcnfgfomholheaaGreatDoor.Q
open Go.Proofs.YtcnfgfomholheaaGreatDoor.Z
set_option linter.unusedVariables false
structure xZ where
 f0:ByteArray
 f1:Int
 f2:Int
def z41:xZ:=⟨(⟨#[]⟩:ByteArray),0,0⟩
structure uV where
 f0:List ByteArray
 f1:List uV
 f2:List xZ
def z26:uV:=⟨[],[],[]⟩
structure sV where
 f0:ByteArray
 f1:List Int
 f2:Int
def acr:sV:=⟨(⟨#[]⟩:ByteArray),[],0⟩
structure Dk where
 f0:ByteArray
 f1:Int
def acu:Dk:=⟨(⟨#[]⟩:ByteArray),0⟩
structure ES where
 f0:ByteArray
 f1:Int
 f2:Int
def z44:ES:=⟨(⟨#[]⟩:ByteArray),0,0⟩
structure Am where
 f0:List ByteArray
 f1:List Am
 f2:List ES
def z31:Am:=⟨[],[],[]⟩
structure zT where
 f0:ByteArray
 f1:List Int
 f2:Int
def YO:zT:=⟨(⟨#[]⟩:ByteArray),[],0⟩
structure Dl where
 f0:ByteArray
 f1:Int
def acv:Dl:=⟨(⟨#[]⟩:ByteArray),0⟩
structure IE where
 f0:ByteArray
 f1:ByteArray
 f2:Int
 f3:Int
def z96:IE:=⟨(⟨#[]⟩:ByteArray),(⟨#[]⟩:ByteArray),0,0⟩
def Tb (e:Nat):Type:=match e with
 | 3=>Int
 | 5=>Int
 | 9=>ByteArray
 | 41=>xZ
 | 26=>uV
 | 186=>sV
 | 142=>Dk
 | 44=>ES
 | 31=>Am
 | 121=>zT
 | 113=>Dl
 | 96=>IE
 | 199=>Int
 | 68=>List Int
 | _=>Unit
def aeb (e:Nat):Tb e:=by
 unfold Tb
 split
 ·exact(0:Int)
 ·exact(0:Int)
 ·exact(ByteArray.empty:ByteArray)
 ·exact(z41:xZ)
 ·exact(z26:uV)
 ·exact(acr:sV)
 ·exact(acu:Dk)
 ·exact(z44:ES)
 ·exact(z31:Am)
 ·exact(YO:zT)
 ·exact(acv:Dl)
 ·exact(z96:IE)
 ·exact(0:Int)
 ·exact([]:List Int)
 ·exact()
def dfl (e:Nat):Tb e:=match e with
 | 3=>(0:Int)
 | 5=>(0:Int)
 | 9=>(ByteArray.empty:ByteArray)
 | 41=>(z41:xZ)
 | 26=>(z26:uV)
 | 186=>(acr:sV)
 | 142=>(acu:Dk)
 | 44=>(z44:ES)
 | 31=>(z31:Am)
 | 121=>(YO:zT)
 | 113=>(acv:Dl)
 | 96=>(z96:IE)
 | 199=>(0:Int)
 | 68=>([]:List Int)
 | e=>aeb e
def enc3 (x:Int):List V:=[.sc (.int .i64 x)]
def P5 (x:Int):List V:=[.sc (.int .u8 x)]
def J8 (x:ByteArray):List V:=[.sc (.string x)]
def MV (x:xZ):List V:=[.sc (.string x.f0), .sc (.int .i64 x.f1), .sc (.int .i64 x.f2)]
def I4:uV→List V
 | ⟨a0,a1,a2⟩=>[.sl 9 (a0.map J8), .sl 26 (a1.map I4), .sl 41 (a2.map MV)]
theorem Y2 (x:uV):I4 x=[.sl 9 (x.f0.map J8), .sl 26 (x.f1.map I4), .sl 41 (x.f2.map MV)]:=by cases x;simp only [I4]
def Xz (x:sV):List V:=[.sc (.string x.f0), .sl 5 (x.f1.map P5), .sc (.int .i64 x.f2)]
def XA (x:Dk):List V:=[.sc (.string x.f0), .sc (.int .i64 x.f1)]
def MW (x:ES):List V:=[.sc (.string x.f0), .sc (.int .i64 x.f1), .sc (.int .i64 x.f2)]
def I5:Am→List V
 | ⟨a0,a1,a2⟩=>[.sl 9 (a0.map J8), .sl 31 (a1.map I5), .sl 44 (a2.map MW)]
theorem Y3 (x:Am):I5 x=[.sl 9 (x.f0.map J8), .sl 31 (x.f1.map I5), .sl 44 (x.f2.map MW)]:=by cases x;simp only [I5]
def XB (x:zT):List V:=[.sc (.string x.f0), .sl 5 (x.f1.map P5), .sc (.int .i64 x.f2)]
def XC (x:Dl):List V:=[.sc (.string x.f0), .sc (.int .i64 x.f1)]
def ZN (x:IE):List V:=[.sc (.string x.f0), .sc (.string x.f1), .sc (.int .i64 x.f2), .sc (.int .i64 x.f3)]
def XD (x:Int):List V:=[.sc (.int .u64 x)]
def ZO (x:List Int):List V:=[.sl 5 (x.map P5)]
def Dn (e:Nat) (x:Tb e):List (C0 Tb):=match e,x with
 | 3,(x:Int)=>[.sc (.int .i64 x)]
 | 5,(x:Int)=>[.sc (.int .u8 x)]
 | 9,(x:ByteArray)=>[.sc (.string x)]
 | 41,(x:xZ)=>[.sc (.string x.f0), .sc (.int .i64 x.f1), .sc (.int .i64 x.f2)]
 | 26,(x:uV)=>[.sl 9 x.f0, .sl 26 x.f1, .sl 41 x.f2]
 | 186,(x:sV)=>[.sc (.string x.f0), .sl 5 x.f1, .sc (.int .i64 x.f2)]
 | 142,(x:Dk)=>[.sc (.string x.f0), .sc (.int .i64 x.f1)]
 | 44,(x:ES)=>[.sc (.string x.f0), .sc (.int .i64 x.f1), .sc (.int .i64 x.f2)]
 | 31,(x:Am)=>[.sl 9 x.f0, .sl 31 x.f1, .sl 44 x.f2]
 | 121,(x:zT)=>[.sc (.string x.f0), .sl 5 x.f1, .sc (.int .i64 x.f2)]
 | 113,(x:Dl)=>[.sc (.string x.f0), .sc (.int .i64 x.f1)]
 | 96,(x:IE)=>[.sc (.string x.f0), .sc (.string x.f1), .sc (.int .i64 x.f2), .sc (.int .i64 x.f3)]
 | 199,(x:Int)=>[.sc (.int .u64 x)]
 | 68,(x:List Int)=>[.sl 5 x]
 | _,_=>[]
def acw (e:Nat) (x:Tb e):List V:=match e,x with
 | 3,(x:Int)=>enc3 x
 | 5,(x:Int)=>P5 x
 | 9,(x:ByteArray)=>J8 x
 | 41,(x:xZ)=>MV x
 | 26,(x:uV)=>I4 x
 | 186,(x:sV)=>Xz x
 | 142,(x:Dk)=>XA x
 | 44,(x:ES)=>MW x
 | 31,(x:Am)=>I5 x
 | 121,(x:zT)=>XB x
 | 113,(x:Dl)=>XC x
 | 96,(x:IE)=>ZN x
 | 199,(x:Int)=>XD x
 | 68,(x:List Int)=>ZO x
 | _,_=>[]
def Y4 (e:Nat) (cs:List (C0 Tb)):Option (Tb e):=match e,cs with
 | 3,[.sc (.int .i64 x)]=>some x
 | 5,[.sc (.int .u8 x)]=>some x
 | 9,[.sc (.string x)]=>some x
 | 41,[.sc (.string a0), .sc (.int .i64 a1), .sc (.int .i64 a2)]=>some (⟨a0,a1,a2⟩:xZ)
 | 26,[.sl 9 a0, .sl 26 a1, .sl 41 a2]=>some (⟨a0,a1,a2⟩:uV)
 | 186,[.sc (.string a0), .sl 5 a1, .sc (.int .i64 a2)]=>some (⟨a0,a1,a2⟩:sV)
 | 142,[.sc (.string a0), .sc (.int .i64 a1)]=>some (⟨a0,a1⟩:Dk)
 | 44,[.sc (.string a0), .sc (.int .i64 a1), .sc (.int .i64 a2)]=>some (⟨a0,a1,a2⟩:ES)
 | 31,[.sl 9 a0, .sl 31 a1, .sl 44 a2]=>some (⟨a0,a1,a2⟩:Am)
 | 121,[.sc (.string a0), .sl 5 a1, .sc (.int .i64 a2)]=>some (⟨a0,a1,a2⟩:zT)
 | 113,[.sc (.string a0), .sc (.int .i64 a1)]=>some (⟨a0,a1⟩:Dl)
 | 96,[.sc (.string a0), .sc (.string a1), .sc (.int .i64 a2), .sc (.int .i64 a3)]=>some (⟨a0,a1,a2,a3⟩:IE)
 | 199,[.sc (.int .u64 x)]=>some x
 | 68,[.sl 5 x]=>some x
 | _,_=>none
theorem aaW (e:Nat) (cs:List (C0 Tb)) (x:Tb e) (h:Y4 e cs=some x):Dn e x=cs:=by
 unfold Y4 at h
 split at h<;>first | (cases h;rfl) | cases h
abbrev mkT (e:Nat) (cs:List (C0 Tb)):Option (Tb e):=Y4 e cs
theorem acy (e:Nat) (cs:List (C0 Tb)) (x:Tb e) (h:mkT e cs=some x):Dn e x=cs:=aaW e cs x h
def elT (e:Nat):Bool:=match e with
 | 3=>true
 | 5=>true
 | 9=>true
 | 41=>true
 | 26=>true
 | 186=>true
 | 142=>true
 | 44=>true
 | 31=>true
 | 121=>true
 | 113=>true
 | 96=>true
 | 199=>true
 | 68=>true
 | _=>false
def ZP:List (Nat × Option TI):=[(2,some ⟨1,8,[.int .i64 0], .num .i64⟩),
 (3,some ⟨1,8,[.int .i64 0], .num .i64⟩),
 (4,some ⟨1,1,[.bool false], .one⟩),
 (5,some ⟨1,1,[.int .u8 0], .num .u8⟩),
 (9,some ⟨1,16,[.string ⟨#[]⟩], .text⟩),
 (21,some ⟨1,4,[.int .i32 0], .num .i32⟩),
 (22,some ⟨1,24,[.slice none 0 0], .slice 9⟩),
 (23,some ⟨1,24,[.slice none 0 0], .slice 26⟩),
 (24,some ⟨1,24,[.slice none 0 0], .slice 41⟩),
 (26,some ⟨3,72,[.slice none 0 0, .slice none 0 0, .slice none 0 0], .str [(0,1),(1,1),(2,1)]⟩),
 (28,some ⟨1,24,[.slice none 0 0], .slice 31⟩),
 (29,some ⟨1,24,[.slice none 0 0], .slice 44⟩),
 (31,some ⟨3,72,[.slice none 0 0, .slice none 0 0, .slice none 0 0], .str [(0,1),(1,1),(2,1)]⟩),
 (41,some ⟨3,32,[.string ⟨#[]⟩, .int .i64 0, .int .i64 0], .str [(0,1),(1,1),(2,1)]⟩),
 (44,some ⟨3,32,[.string ⟨#[]⟩, .int .i64 0, .int .i64 0], .str [(0,1),(1,1),(2,1)]⟩),
 (50,some ⟨1,24,[.slice none 0 0], .slice 186⟩),
 (52,some ⟨5,104,[.int .i64 0, .slice none 0 0, .slice none 0 0, .slice none 0 0, .slice none 0 0], .str [(0,1),(1,3),(4,1)]⟩),
 (54,some ⟨1,24,[.slice none 0 0], .slice 121⟩),
 (56,some ⟨5,104,[.int .i64 0, .slice none 0 0, .slice none 0 0, .slice none 0 0, .slice none 0 0], .str [(0,1),(1,3),(4,1)]⟩),
 (68,some ⟨1,24,[.slice none 0 0], .slice 5⟩),
 (74,some ⟨1,24,[.slice none 0 0], .slice 142⟩),
 (76,some ⟨1,24,[.slice none 0 0], .slice 3⟩),
 (79,some ⟨1,24,[.slice none 0 0], .slice 113⟩),
 (93,some ⟨1,24,[.slice none 0 0], .slice 96⟩),
 (96,some ⟨4,48,[.string ⟨#[]⟩, .string ⟨#[]⟩, .int .i64 0, .int .i64 0], .str [(0,1),(1,1),(2,1),(3,1)]⟩),
 (113,some ⟨2,24,[.string ⟨#[]⟩, .int .i64 0], .str [(0,1),(1,1)]⟩),
 (121,some ⟨3,48,[.string ⟨#[]⟩, .slice none 0 0, .int .i64 0], .str [(0,1),(1,1),(2,1)]⟩),
 (142,some ⟨2,24,[.string ⟨#[]⟩, .int .i64 0], .str [(0,1),(1,1)]⟩),
 (186,some ⟨3,48,[.string ⟨#[]⟩, .slice none 0 0, .int .i64 0], .str [(0,1),(1,1),(2,1)]⟩),
 (189,some ⟨3,40,[.slice none 0 0, .int .i64 0, .int .i64 0], .str [(0,1),(1,1),(2,1)]⟩),
 (197,some ⟨1,24,[.slice none 0 0], .slice 68⟩),
 (199,some ⟨1,8,[.int .u64 0], .num .u64⟩)]
def tiT (t:Nat):Option TI:=lk none ZP t
theorem ty2:fD Tryz.prog 2 ⟨1,8,[.int .i64 0], .num .i64⟩:=BX (by kernel_rfl) (by kernel_rfl) rfl (by decide)
theorem ty3:fD Tryz.prog 3 ⟨1,8,[.int .i64 0], .num .i64⟩:=BX (by kernel_rfl) (by kernel_rfl) rfl (by decide)
theorem ty4:fD Tryz.prog 4 ⟨1,1,[.bool false], .one⟩:=abD (by kernel_rfl) (by kernel_rfl) rfl (by decide)
theorem ty5:fD Tryz.prog 5 ⟨1,1,[.int .u8 0], .num .u8⟩:=BX (by kernel_rfl) (by kernel_rfl) rfl (by decide)
theorem ty9:fD Tryz.prog 9 ⟨1,16,[.string ⟨#[]⟩], .text⟩:=aaH (by kernel_rfl) (by kernel_rfl) rfl (by decide)
theorem aec:fD Tryz.prog 21 ⟨1,4,[.int .i32 0], .num .i32⟩:=BX (by kernel_rfl) (by kernel_rfl) rfl (by decide)
theorem aed:fD Tryz.prog 22 ⟨1,24,[.slice none 0 0], .slice 9⟩:=jr (by kernel_rfl) (by kernel_rfl) rfl (by decide)
theorem aee:fD Tryz.prog 23 ⟨1,24,[.slice none 0 0], .slice 26⟩:=jr (by kernel_rfl) (by kernel_rfl) rfl (by decide)
theorem aef:fD Tryz.prog 24 ⟨1,24,[.slice none 0 0], .slice 41⟩:=jr (by kernel_rfl) (by kernel_rfl) rfl (by decide)
theorem aeg:fD Tryz.prog 26 ⟨3,72,[.slice none 0 0, .slice none 0 0, .slice none 0 0], .str [(0,1),(1,1),(2,1)]⟩:=l9 (by kernel_rfl) (by kernel_rfl) rfl (by decide) (by decide) (by kernel_rfl)
theorem aeh:fD Tryz.prog 28 ⟨1,24,[.slice none 0 0], .slice 31⟩:=jr (by kernel_rfl) (by kernel_rfl) rfl (by decide)
theorem aei:fD Tryz.prog 29 ⟨1,24,[.slice none 0 0], .slice 44⟩:=jr (by kernel_rfl) (by kernel_rfl) rfl (by decide)
theorem aej:fD Tryz.prog 31 ⟨3,72,[.slice none 0 0, .slice none 0 0, .slice none 0 0], .str [(0,1),(1,1),(2,1)]⟩:=l9 (by kernel_rfl) (by kernel_rfl) rfl (by decide) (by decide) (by kernel_rfl)
theorem aek:fD Tryz.prog 41 ⟨3,32,[.string ⟨#[]⟩, .int .i64 0, .int .i64 0], .str [(0,1),(1,1),(2,1)]⟩:=l9 (by kernel_rfl) (by kernel_rfl) rfl (by decide) (by decide) (by kernel_rfl)
theorem ael:fD Tryz.prog 44 ⟨3,32,[.string ⟨#[]⟩, .int .i64 0, .int .i64 0], .str [(0,1),(1,1),(2,1)]⟩:=l9 (by kernel_rfl) (by kernel_rfl) rfl (by decide) (by decide) (by kernel_rfl)
theorem aem:fD Tryz.prog 50 ⟨1,24,[.slice none 0 0], .slice 186⟩:=jr (by kernel_rfl) (by kernel_rfl) rfl (by decide)
theorem aen:fD Tryz.prog 52 ⟨5,104,[.int .i64 0, .slice none 0 0, .slice none 0 0, .slice none 0 0, .slice none 0 0], .str [(0,1),(1,3),(4,1)]⟩:=l9 (by kernel_rfl) (by kernel_rfl) rfl (by decide) (by decide) (by kernel_rfl)
theorem aeo:fD Tryz.prog 54 ⟨1,24,[.slice none 0 0], .slice 121⟩:=jr (by kernel_rfl) (by kernel_rfl) rfl (by decide)
theorem aep:fD Tryz.prog 56 ⟨5,104,[.int .i64 0, .slice none 0 0, .slice none 0 0, .slice none 0 0, .slice none 0 0], .str [(0,1),(1,3),(4,1)]⟩:=l9 (by kernel_rfl) (by kernel_rfl) rfl (by decide) (by decide) (by kernel_rfl)
theorem aer:fD Tryz.prog 68 ⟨1,24,[.slice none 0 0], .slice 5⟩:=jr (by kernel_rfl) (by kernel_rfl) rfl (by decide)
theorem aes:fD Tryz.prog 74 ⟨1,24,[.slice none 0 0], .slice 142⟩:=jr (by kernel_rfl) (by kernel_rfl) rfl (by decide)
theorem aeu:fD Tryz.prog 76 ⟨1,24,[.slice none 0 0], .slice 3⟩:=jr (by kernel_rfl) (by kernel_rfl) rfl (by decide)
theorem aev:fD Tryz.prog 79 ⟨1,24,[.slice none 0 0], .slice 113⟩:=jr (by kernel_rfl) (by kernel_rfl) rfl (by decide)
theorem aew:fD Tryz.prog 93 ⟨1,24,[.slice none 0 0], .slice 96⟩:=jr (by kernel_rfl) (by kernel_rfl) rfl (by decide)
theorem aex:fD Tryz.prog 96 ⟨4,48,[.string ⟨#[]⟩, .string ⟨#[]⟩, .int .i64 0, .int .i64 0], .str [(0,1),(1,1),(2,1),(3,1)]⟩:=l9 (by kernel_rfl) (by kernel_rfl) rfl (by decide) (by decide) (by kernel_rfl)
theorem adh:fD Tryz.prog 113 ⟨2,24,[.string ⟨#[]⟩, .int .i64 0], .str [(0,1),(1,1)]⟩:=l9 (by kernel_rfl) (by kernel_rfl) rfl (by decide) (by decide) (by kernel_rfl)
theorem adi:fD Tryz.prog 121 ⟨3,48,[.string ⟨#[]⟩, .slice none 0 0, .int .i64 0], .str [(0,1),(1,1),(2,1)]⟩:=l9 (by kernel_rfl) (by kernel_rfl) rfl (by decide) (by decide) (by kernel_rfl)
theorem adk:fD Tryz.prog 142 ⟨2,24,[.string ⟨#[]⟩, .int .i64 0], .str [(0,1),(1,1)]⟩:=l9 (by kernel_rfl) (by kernel_rfl) rfl (by decide) (by decide) (by kernel_rfl)
theorem adl:fD Tryz.prog 186 ⟨3,48,[.string ⟨#[]⟩, .slice none 0 0, .int .i64 0], .str [(0,1),(1,1),(2,1)]⟩:=l9 (by kernel_rfl) (by kernel_rfl) rfl (by decide) (by decide) (by kernel_rfl)
theorem adn:fD Tryz.prog 189 ⟨3,40,[.slice none 0 0, .int .i64 0, .int .i64 0], .str [(0,1),(1,1),(2,1)]⟩:=l9 (by kernel_rfl) (by kernel_rfl) rfl (by decide) (by decide) (by kernel_rfl)
theorem ado:fD Tryz.prog 197 ⟨1,24,[.slice none 0 0], .slice 68⟩:=jr (by kernel_rfl) (by kernel_rfl) rfl (by decide)
theorem adp:fD Tryz.prog 199 ⟨1,8,[.int .u64 0], .num .u64⟩:=BX (by kernel_rfl) (by kernel_rfl) rfl (by decide)
def T:dQ where
 J:=Go.Proofs.YtcnfgfomholheaaGreatDoor.X.Tabs
 jk:=fun b h=>Go.Proofs.YtcnfgfomholheaaGreatDoor.X.Tabs.below h b
 Tb:=Tb
 df:=dfl
 cells:=Dn
 wR:=mkT
 enc:=acw
 el:=elT
 ti:=tiT
 fQ:=by
  intro e x
  unfold acw Dn
  split
  ·exact((rfl:enc3 _=_)).trans rfl
  ·exact((rfl:P5 _=_)).trans rfl
  ·exact((rfl:J8 _=_)).trans rfl
  ·exact((rfl:MV _=_)).trans rfl
  ·exact(Y2 _).trans rfl
  ·exact((rfl:Xz _=_)).trans rfl
  ·exact((rfl:XA _=_)).trans rfl
  ·exact((rfl:MW _=_)).trans rfl
  ·exact(Y3 _).trans rfl
  ·exact((rfl:XB _=_)).trans rfl
  ·exact((rfl:XC _=_)).trans rfl
  ·exact((rfl:ZN _=_)).trans rfl
  ·exact((rfl:XD _=_)).trans rfl
  ·exact((rfl:ZO _=_)).trans rfl
  ·rfl
 mk_eq:=acy
 one:=by
  intro e x c h
  unfold Dn at h
  split at h<;>simp only [List.mem_cons,List.not_mem_nil,or_false] at h<;>first | (rcases h with rfl | rfl | rfl | rfl<;>rfl) | (subst h;rfl) | cases h
 len:=by
  intro e x i he h
  unfold elT at he
  split at he
  ·exact congrArg TI.size (Option.some.inj (show some _=some i from h))
  ·exact congrArg TI.size (Option.some.inj (show some _=some i from h))
  ·exact congrArg TI.size (Option.some.inj (show some _=some i from h))
  ·exact congrArg TI.size (Option.some.inj (show some _=some i from h))
  ·exact congrArg TI.size (Option.some.inj (show some _=some i from h))
  ·exact congrArg TI.size (Option.some.inj (show some _=some i from h))
  ·exact congrArg TI.size (Option.some.inj (show some _=some i from h))
  ·exact congrArg TI.size (Option.some.inj (show some _=some i from h))
  ·exact congrArg TI.size (Option.some.inj (show some _=some i from h))
  ·exact congrArg TI.size (Option.some.inj (show some _=some i from h))
  ·exact congrArg TI.size (Option.some.inj (show some _=some i from h))
  ·exact congrArg TI.size (Option.some.inj (show some _=some i from h))
  ·exact congrArg TI.size (Option.some.inj (show some _=some i from h))
  ·exact congrArg TI.size (Option.some.inj (show some _=some i from h))
  ·cases he
theorem aey:∀p∈ZP,∀i,p.2=some i→fD Tryz.prog p.1 i:=by
 intro p hp
 simp only [ZP,List.mem_cons,List.not_mem_nil,or_false] at hp
 rcases hp with rfl | rfl | rfl | rfl | rfl | rfl | rfl | rfl | rfl | rfl | rfl | rfl | rfl | rfl | rfl | rfl | rfl | rfl | rfl | rfl | rfl | rfl | rfl | rfl | rfl | rfl | rfl | rfl | rfl | rfl | rfl | rfl
 ·intro i h;cases h;exact ty2
 ·intro i h;cases h;exact ty3
 ·intro i h;cases h;exact ty4
 ·intro i h;cases h;exact ty5
 ·intro i h;cases h;exact ty9
 ·intro i h;cases h;exact aec
 ·intro i h;cases h;exact aed
 ·intro i h;cases h;exact aee
 ·intro i h;cases h;exact aef
 ·intro i h;cases h;exact aeg
 ·intro i h;cases h;exact aeh
 ·intro i h;cases h;exact aei
 ·intro i h;cases h;exact aej
 ·intro i h;cases h;exact aek
 ·intro i h;cases h;exact ael
 ·intro i h;cases h;exact aem
 ·intro i h;cases h;exact aen
 ·intro i h;cases h;exact aeo
 ·intro i h;cases h;exact aep
 ·intro i h;cases h;exact aer
 ·intro i h;cases h;exact aes
 ·intro i h;cases h;exact aeu
 ·intro i h;cases h;exact aev
 ·intro i h;cases h;exact aew
 ·intro i h;cases h;exact aex
 ·intro i h;cases h;exact adh
 ·intro i h;cases h;exact adi
 ·intro i h;cases h;exact adk
 ·intro i h;cases h;exact adl
 ·intro i h;cases h;exact adn
 ·intro i h;cases h;exact ado
 ·intro i h;cases h;exact adp
theorem P6 {α:Type} {t:Nat} {i:α}:∀{l:List (Nat × Option α)},lk none l t=some i→∃p∈l,p.1=t∧p.2=some i
 | [],h=>by cases h
 | (k,x)::l,h=>by
   unfold lk at h
   cases hb:Nat.beq k t<;>rw [hb] at h
   ·obtain⟨p,h1,h2⟩:=P6 h;exact⟨p,List.mem_cons_of_mem _ h1,h2⟩
   ·exact⟨_,List.mem_cons_self,Nat.eq_of_beq_eq_true hb,h⟩
theorem hT:T.ok Tryz.prog:=by
 intro t i h
 obtain⟨p,h1,h2,h3⟩:=P6 (show lk none ZP t=some i from h)
 subst h2
 exact aey p h1 i h3
end Go.Proofs.YtcnfgfomholheaaGreatDoor.Q
