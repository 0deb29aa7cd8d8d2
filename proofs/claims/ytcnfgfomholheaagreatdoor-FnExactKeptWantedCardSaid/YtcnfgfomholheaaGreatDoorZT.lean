/- The path calculus: this seat's types: elements, their cells, sizes and zero values. Printed by a program of this work (tab.py). -/
import Derived.Test.YtcnfgfomholheaaGreatDoorZc
import Derived.Test.YtcnfgfomholheaaGreatDoorProg
import Derived.Test.YtcnfgfomholheaaGreatDoorX1
namespace Go.Proofs.YtcnfgfomholheaaGreatDoor.Q
open Go.Proofs.YtcnfgfomholheaaGreatDoor.Z
set_option linter.unusedVariables false
structure yT where
 f0:ByteArray
 f1:Int
 f2:Int
def z41:yT:=⟨(⟨#[]⟩:ByteArray),0,0⟩
structure wC where
 f0:List ByteArray
 f1:List wC
 f2:List yT
def z26:wC:=⟨[],[],[]⟩
structure uI where
 f0:ByteArray
 f1:List Int
 f2:Int
def acN:uI:=⟨(⟨#[]⟩:ByteArray),[],0⟩
structure uH where
 f0:ByteArray
 f1:Int
def acO:uH:=⟨(⟨#[]⟩:ByteArray),0⟩
structure FB where
 f0:ByteArray
 f1:Int
 f2:Int
def z44:FB:=⟨(⟨#[]⟩:ByteArray),0,0⟩
structure BJ where
 f0:List ByteArray
 f1:List BJ
 f2:List FB
def z31:BJ:=⟨[],[],[]⟩
structure AQ where
 f0:ByteArray
 f1:List Int
 f2:Int
def Zg:AQ:=⟨(⟨#[]⟩:ByteArray),[],0⟩
structure nR where
 f0:ByteArray
 f1:Int
def Zf:nR:=⟨(⟨#[]⟩:ByteArray),0⟩
structure Jj where
 f0:ByteArray
 f1:ByteArray
 f2:Int
 f3:Int
def z96:Jj:=⟨(⟨#[]⟩:ByteArray),(⟨#[]⟩:ByteArray),0,0⟩
def Tb (e:Nat):Type:=match e with
 | 3=>Int
 | 5=>Int
 | 9=>ByteArray
 | 41=>yT
 | 26=>wC
 | 186=>uI
 | 142=>uH
 | 44=>FB
 | 31=>BJ
 | 121=>AQ
 | 113=>nR
 | 96=>Jj
 | 199=>Int
 | 68=>List Int
 | _=>Unit
def aew (e:Nat):Tb e:=by
 unfold Tb
 split
 ·exact(0:Int)
 ·exact(0:Int)
 ·exact(ByteArray.empty:ByteArray)
 ·exact(z41:yT)
 ·exact(z26:wC)
 ·exact(acN:uI)
 ·exact(acO:uH)
 ·exact(z44:FB)
 ·exact(z31:BJ)
 ·exact(Zg:AQ)
 ·exact(Zf:nR)
 ·exact(z96:Jj)
 ·exact(0:Int)
 ·exact([]:List Int)
 ·exact()
def dfl (e:Nat):Tb e:=match e with
 | 3=>(0:Int)
 | 5=>(0:Int)
 | 9=>(ByteArray.empty:ByteArray)
 | 41=>(z41:yT)
 | 26=>(z26:wC)
 | 186=>(acN:uI)
 | 142=>(acO:uH)
 | 44=>(z44:FB)
 | 31=>(z31:BJ)
 | 121=>(Zg:AQ)
 | 113=>(Zf:nR)
 | 96=>(z96:Jj)
 | 199=>(0:Int)
 | 68=>([]:List Int)
 | e=>aew e
def enc3 (x:Int):List V:=[.sc (.int .i64 x)]
def Qg (x:Int):List V:=[.sc (.int .u8 x)]
def KO (x:ByteArray):List V:=[.sc (.string x)]
def NK (x:yT):List V:=[.sc (.string x.f0), .sc (.int .i64 x.f1), .sc (.int .i64 x.f2)]
def Jy:wC→List V
 | ⟨a0,a1,a2⟩=>[.sl 9 (a0.map KO), .sl 26 (a1.map Jy), .sl 41 (a2.map NK)]
theorem Zu (x:wC):Jy x=[.sl 9 (x.f0.map KO), .sl 26 (x.f1.map Jy), .sl 41 (x.f2.map NK)]:=by cases x;simp only [Jy]
def XZ (x:uI):List V:=[.sc (.string x.f0), .sl 5 (x.f1.map Qg), .sc (.int .i64 x.f2)]
def X0 (x:uH):List V:=[.sc (.string x.f0), .sc (.int .i64 x.f1)]
def NM (x:FB):List V:=[.sc (.string x.f0), .sc (.int .i64 x.f1), .sc (.int .i64 x.f2)]
def Jz:BJ→List V
 | ⟨a0,a1,a2⟩=>[.sl 9 (a0.map KO), .sl 31 (a1.map Jz), .sl 44 (a2.map NM)]
theorem Zv (x:BJ):Jz x=[.sl 9 (x.f0.map KO), .sl 31 (x.f1.map Jz), .sl 44 (x.f2.map NM)]:=by cases x;simp only [Jz]
def X3 (x:AQ):List V:=[.sc (.string x.f0), .sl 5 (x.f1.map Qg), .sc (.int .i64 x.f2)]
def X4 (x:nR):List V:=[.sc (.string x.f0), .sc (.int .i64 x.f1)]
def aaf (x:Jj):List V:=[.sc (.string x.f0), .sc (.string x.f1), .sc (.int .i64 x.f2), .sc (.int .i64 x.f3)]
def X5 (x:Int):List V:=[.sc (.int .u64 x)]
def aag (x:List Int):List V:=[.sl 5 (x.map Qg)]
def D5 (e:Nat) (x:Tb e):List (C0 Tb):=match e,x with
 | 3,(x:Int)=>[.sc (.int .i64 x)]
 | 5,(x:Int)=>[.sc (.int .u8 x)]
 | 9,(x:ByteArray)=>[.sc (.string x)]
 | 41,(x:yT)=>[.sc (.string x.f0), .sc (.int .i64 x.f1), .sc (.int .i64 x.f2)]
 | 26,(x:wC)=>[.sl 9 x.f0, .sl 26 x.f1, .sl 41 x.f2]
 | 186,(x:uI)=>[.sc (.string x.f0), .sl 5 x.f1, .sc (.int .i64 x.f2)]
 | 142,(x:uH)=>[.sc (.string x.f0), .sc (.int .i64 x.f1)]
 | 44,(x:FB)=>[.sc (.string x.f0), .sc (.int .i64 x.f1), .sc (.int .i64 x.f2)]
 | 31,(x:BJ)=>[.sl 9 x.f0, .sl 31 x.f1, .sl 44 x.f2]
 | 121,(x:AQ)=>[.sc (.string x.f0), .sl 5 x.f1, .sc (.int .i64 x.f2)]
 | 113,(x:nR)=>[.sc (.string x.f0), .sc (.int .i64 x.f1)]
 | 96,(x:Jj)=>[.sc (.string x.f0), .sc (.string x.f1), .sc (.int .i64 x.f2), .sc (.int .i64 x.f3)]
 | 199,(x:Int)=>[.sc (.int .u64 x)]
 | 68,(x:List Int)=>[.sl 5 x]
 | _,_=>[]
def acP (e:Nat) (x:Tb e):List V:=match e,x with
 | 3,(x:Int)=>enc3 x
 | 5,(x:Int)=>Qg x
 | 9,(x:ByteArray)=>KO x
 | 41,(x:yT)=>NK x
 | 26,(x:wC)=>Jy x
 | 186,(x:uI)=>XZ x
 | 142,(x:uH)=>X0 x
 | 44,(x:FB)=>NM x
 | 31,(x:BJ)=>Jz x
 | 121,(x:AQ)=>X3 x
 | 113,(x:nR)=>X4 x
 | 96,(x:Jj)=>aaf x
 | 199,(x:Int)=>X5 x
 | 68,(x:List Int)=>aag x
 | _,_=>[]
def Zw (e:Nat) (cs:List (C0 Tb)):Option (Tb e):=match e,cs with
 | 3,[.sc (.int .i64 x)]=>some x
 | 5,[.sc (.int .u8 x)]=>some x
 | 9,[.sc (.string x)]=>some x
 | 41,[.sc (.string a0), .sc (.int .i64 a1), .sc (.int .i64 a2)]=>some (⟨a0,a1,a2⟩:yT)
 | 26,[.sl 9 a0, .sl 26 a1, .sl 41 a2]=>some (⟨a0,a1,a2⟩:wC)
 | 186,[.sc (.string a0), .sl 5 a1, .sc (.int .i64 a2)]=>some (⟨a0,a1,a2⟩:uI)
 | 142,[.sc (.string a0), .sc (.int .i64 a1)]=>some (⟨a0,a1⟩:uH)
 | 44,[.sc (.string a0), .sc (.int .i64 a1), .sc (.int .i64 a2)]=>some (⟨a0,a1,a2⟩:FB)
 | 31,[.sl 9 a0, .sl 31 a1, .sl 44 a2]=>some (⟨a0,a1,a2⟩:BJ)
 | 121,[.sc (.string a0), .sl 5 a1, .sc (.int .i64 a2)]=>some (⟨a0,a1,a2⟩:AQ)
 | 113,[.sc (.string a0), .sc (.int .i64 a1)]=>some (⟨a0,a1⟩:nR)
 | 96,[.sc (.string a0), .sc (.string a1), .sc (.int .i64 a2), .sc (.int .i64 a3)]=>some (⟨a0,a1,a2,a3⟩:Jj)
 | 199,[.sc (.int .u64 x)]=>some x
 | 68,[.sl 5 x]=>some x
 | _,_=>none
theorem abb (e:Nat) (cs:List (C0 Tb)) (x:Tb e) (h:Zw e cs=some x):D5 e x=cs:=by
 unfold Zw at h
 split at h<;>first | (cases h;rfl) | cases h
abbrev mkT (e:Nat) (cs:List (C0 Tb)):Option (Tb e):=Zw e cs
theorem acQ (e:Nat) (cs:List (C0 Tb)) (x:Tb e) (h:mkT e cs=some x):D5 e x=cs:=abb e cs x h
def elT (e:Nat):Bool:=match e with
 | 3=>true
 | 5=>true
 | 9=>true
 | 41=>true
 | 26=>true
 | 186=>true
 | 142=>true
 | 44=>true
 | 31=>true
 | 121=>true
 | 113=>true
 | 96=>true
 | 199=>true
 | 68=>true
 | _=>false
def tiL:List (Nat × Option TI):=[(2,some ⟨1,8,[.int .i64 0], .num .i64⟩),
 (3,some ⟨1,8,[.int .i64 0], .num .i64⟩),
 (4,some ⟨1,1,[.bool false], .one⟩),
 (5,some ⟨1,1,[.int .u8 0], .num .u8⟩),
 (9,some ⟨1,16,[.string ⟨#[]⟩], .text⟩),
 (21,some ⟨1,4,[.int .i32 0], .num .i32⟩),
 (22,some ⟨1,24,[.slice none 0 0], .slice 9⟩),
 (23,some ⟨1,24,[.slice none 0 0], .slice 26⟩),
 (24,some ⟨1,24,[.slice none 0 0], .slice 41⟩),
 (26,some ⟨3,72,[.slice none 0 0, .slice none 0 0, .slice none 0 0], .str [(0,1),(1,1),(2,1)]⟩),
 (28,some ⟨1,24,[.slice none 0 0], .slice 31⟩),
 (29,some ⟨1,24,[.slice none 0 0], .slice 44⟩),
 (31,some ⟨3,72,[.slice none 0 0, .slice none 0 0, .slice none 0 0], .str [(0,1),(1,1),(2,1)]⟩),
 (41,some ⟨3,32,[.string ⟨#[]⟩, .int .i64 0, .int .i64 0], .str [(0,1),(1,1),(2,1)]⟩),
 (44,some ⟨3,32,[.string ⟨#[]⟩, .int .i64 0, .int .i64 0], .str [(0,1),(1,1),(2,1)]⟩),
 (50,some ⟨1,24,[.slice none 0 0], .slice 186⟩),
 (52,some ⟨5,104,[.int .i64 0, .slice none 0 0, .slice none 0 0, .slice none 0 0, .slice none 0 0], .str [(0,1),(1,3),(4,1)]⟩),
 (54,some ⟨1,24,[.slice none 0 0], .slice 121⟩),
 (56,some ⟨5,104,[.int .i64 0, .slice none 0 0, .slice none 0 0, .slice none 0 0, .slice none 0 0], .str [(0,1),(1,3),(4,1)]⟩),
 (68,some ⟨1,24,[.slice none 0 0], .slice 5⟩),
 (74,some ⟨1,24,[.slice none 0 0], .slice 142⟩),
 (76,some ⟨1,24,[.slice none 0 0], .slice 3⟩),
 (79,some ⟨1,24,[.slice none 0 0], .slice 113⟩),
 (93,some ⟨1,24,[.slice none 0 0], .slice 96⟩),
 (96,some ⟨4,48,[.string ⟨#[]⟩, .string ⟨#[]⟩, .int .i64 0, .int .i64 0], .str [(0,1),(1,1),(2,1),(3,1)]⟩),
 (113,some ⟨2,24,[.string ⟨#[]⟩, .int .i64 0], .str [(0,1),(1,1)]⟩),
 (121,some ⟨3,48,[.string ⟨#[]⟩, .slice none 0 0, .int .i64 0], .str [(0,1),(1,1),(2,1)]⟩),
 (142,some ⟨2,24,[.string ⟨#[]⟩, .int .i64 0], .str [(0,1),(1,1)]⟩),
 (186,some ⟨3,48,[.string ⟨#[]⟩, .slice none 0 0, .int .i64 0], .str [(0,1),(1,1),(2,1)]⟩),
 (189,some ⟨3,40,[.slice none 0 0, .int .i64 0, .int .i64 0], .str [(0,1),(1,1),(2,1)]⟩),
 (197,some ⟨1,24,[.slice none 0 0], .slice 68⟩),
 (199,some ⟨1,8,[.int .u64 0], .num .u64⟩)]
def tiT (t:Nat):Option TI:=lk none tiL t
theorem ty2:fM Tryz.prog 2 ⟨1,8,[.int .i64 0], .num .i64⟩:=Dk (by kernel_rfl) (by kernel_rfl) rfl (by decide)
theorem ty3:fM Tryz.prog 3 ⟨1,8,[.int .i64 0], .num .i64⟩:=Dk (by kernel_rfl) (by kernel_rfl) rfl (by decide)
theorem ty4:fM Tryz.prog 4 ⟨1,1,[.bool false], .one⟩:=abU (by kernel_rfl) (by kernel_rfl) rfl (by decide)
theorem ty5:fM Tryz.prog 5 ⟨1,1,[.int .u8 0], .num .u8⟩:=Dk (by kernel_rfl) (by kernel_rfl) rfl (by decide)
theorem ty9:fM Tryz.prog 9 ⟨1,16,[.string ⟨#[]⟩], .text⟩:=aaS (by kernel_rfl) (by kernel_rfl) rfl (by decide)
theorem aex:fM Tryz.prog 21 ⟨1,4,[.int .i32 0], .num .i32⟩:=Dk (by kernel_rfl) (by kernel_rfl) rfl (by decide)
theorem aey:fM Tryz.prog 22 ⟨1,24,[.slice none 0 0], .slice 9⟩:=jL (by kernel_rfl) (by kernel_rfl) rfl (by decide)
theorem aez:fM Tryz.prog 23 ⟨1,24,[.slice none 0 0], .slice 26⟩:=jL (by kernel_rfl) (by kernel_rfl) rfl (by decide)
theorem aeA:fM Tryz.prog 24 ⟨1,24,[.slice none 0 0], .slice 41⟩:=jL (by kernel_rfl) (by kernel_rfl) rfl (by decide)
theorem aeB:fM Tryz.prog 26 ⟨3,72,[.slice none 0 0, .slice none 0 0, .slice none 0 0], .str [(0,1),(1,1),(2,1)]⟩:=nH (by kernel_rfl) (by kernel_rfl) rfl (by decide) (by decide) (by kernel_rfl)
theorem aeC:fM Tryz.prog 28 ⟨1,24,[.slice none 0 0], .slice 31⟩:=jL (by kernel_rfl) (by kernel_rfl) rfl (by decide)
theorem aeD:fM Tryz.prog 29 ⟨1,24,[.slice none 0 0], .slice 44⟩:=jL (by kernel_rfl) (by kernel_rfl) rfl (by decide)
theorem aeE:fM Tryz.prog 31 ⟨3,72,[.slice none 0 0, .slice none 0 0, .slice none 0 0], .str [(0,1),(1,1),(2,1)]⟩:=nH (by kernel_rfl) (by kernel_rfl) rfl (by decide) (by decide) (by kernel_rfl)
theorem aeF:fM Tryz.prog 41 ⟨3,32,[.string ⟨#[]⟩, .int .i64 0, .int .i64 0], .str [(0,1),(1,1),(2,1)]⟩:=nH (by kernel_rfl) (by kernel_rfl) rfl (by decide) (by decide) (by kernel_rfl)
theorem aeG:fM Tryz.prog 44 ⟨3,32,[.string ⟨#[]⟩, .int .i64 0, .int .i64 0], .str [(0,1),(1,1),(2,1)]⟩:=nH (by kernel_rfl) (by kernel_rfl) rfl (by decide) (by decide) (by kernel_rfl)
theorem aeH:fM Tryz.prog 50 ⟨1,24,[.slice none 0 0], .slice 186⟩:=jL (by kernel_rfl) (by kernel_rfl) rfl (by decide)
theorem aeI:fM Tryz.prog 52 ⟨5,104,[.int .i64 0, .slice none 0 0, .slice none 0 0, .slice none 0 0, .slice none 0 0], .str [(0,1),(1,3),(4,1)]⟩:=nH (by kernel_rfl) (by kernel_rfl) rfl (by decide) (by decide) (by kernel_rfl)
theorem aeJ:fM Tryz.prog 54 ⟨1,24,[.slice none 0 0], .slice 121⟩:=jL (by kernel_rfl) (by kernel_rfl) rfl (by decide)
theorem aeK:fM Tryz.prog 56 ⟨5,104,[.int .i64 0, .slice none 0 0, .slice none 0 0, .slice none 0 0, .slice none 0 0], .str [(0,1),(1,3),(4,1)]⟩:=nH (by kernel_rfl) (by kernel_rfl) rfl (by decide) (by decide) (by kernel_rfl)
theorem aeL:fM Tryz.prog 68 ⟨1,24,[.slice none 0 0], .slice 5⟩:=jL (by kernel_rfl) (by kernel_rfl) rfl (by decide)
theorem aeM:fM Tryz.prog 74 ⟨1,24,[.slice none 0 0], .slice 142⟩:=jL (by kernel_rfl) (by kernel_rfl) rfl (by decide)
theorem aeN:fM Tryz.prog 76 ⟨1,24,[.slice none 0 0], .slice 3⟩:=jL (by kernel_rfl) (by kernel_rfl) rfl (by decide)
theorem aeO:fM Tryz.prog 79 ⟨1,24,[.slice none 0 0], .slice 113⟩:=jL (by kernel_rfl) (by kernel_rfl) rfl (by decide)
theorem aeP:fM Tryz.prog 93 ⟨1,24,[.slice none 0 0], .slice 96⟩:=jL (by kernel_rfl) (by kernel_rfl) rfl (by decide)
theorem aeQ:fM Tryz.prog 96 ⟨4,48,[.string ⟨#[]⟩, .string ⟨#[]⟩, .int .i64 0, .int .i64 0], .str [(0,1),(1,1),(2,1),(3,1)]⟩:=nH (by kernel_rfl) (by kernel_rfl) rfl (by decide) (by decide) (by kernel_rfl)
theorem adw:fM Tryz.prog 113 ⟨2,24,[.string ⟨#[]⟩, .int .i64 0], .str [(0,1),(1,1)]⟩:=nH (by kernel_rfl) (by kernel_rfl) rfl (by decide) (by decide) (by kernel_rfl)
theorem adx:fM Tryz.prog 121 ⟨3,48,[.string ⟨#[]⟩, .slice none 0 0, .int .i64 0], .str [(0,1),(1,1),(2,1)]⟩:=nH (by kernel_rfl) (by kernel_rfl) rfl (by decide) (by decide) (by kernel_rfl)
theorem ady:fM Tryz.prog 142 ⟨2,24,[.string ⟨#[]⟩, .int .i64 0], .str [(0,1),(1,1)]⟩:=nH (by kernel_rfl) (by kernel_rfl) rfl (by decide) (by decide) (by kernel_rfl)
theorem adz:fM Tryz.prog 186 ⟨3,48,[.string ⟨#[]⟩, .slice none 0 0, .int .i64 0], .str [(0,1),(1,1),(2,1)]⟩:=nH (by kernel_rfl) (by kernel_rfl) rfl (by decide) (by decide) (by kernel_rfl)
theorem adA:fM Tryz.prog 189 ⟨3,40,[.slice none 0 0, .int .i64 0, .int .i64 0], .str [(0,1),(1,1),(2,1)]⟩:=nH (by kernel_rfl) (by kernel_rfl) rfl (by decide) (by decide) (by kernel_rfl)
theorem adB:fM Tryz.prog 197 ⟨1,24,[.slice none 0 0], .slice 68⟩:=jL (by kernel_rfl) (by kernel_rfl) rfl (by decide)
theorem adC:fM Tryz.prog 199 ⟨1,8,[.int .u64 0], .num .u64⟩:=Dk (by kernel_rfl) (by kernel_rfl) rfl (by decide)
def T:dX where
 J:=Go.Proofs.YtcnfgfomholheaaGreatDoor.X.Tabs
 jk:=fun b h=>Go.Proofs.YtcnfgfomholheaaGreatDoor.X.Tabs.below h b
 Tb:=Tb
 df:=dfl
 cells:=D5
 xO:=mkT
 enc:=acP
 el:=elT
 ti:=tiT
 gG:=by
  intro e x
  unfold acP D5
  split
  ·exact((rfl:enc3 _=_)).trans rfl
  ·exact((rfl:Qg _=_)).trans rfl
  ·exact((rfl:KO _=_)).trans rfl
  ·exact((rfl:NK _=_)).trans rfl
  ·exact(Zu _).trans rfl
  ·exact((rfl:XZ _=_)).trans rfl
  ·exact((rfl:X0 _=_)).trans rfl
  ·exact((rfl:NM _=_)).trans rfl
  ·exact(Zv _).trans rfl
  ·exact((rfl:X3 _=_)).trans rfl
  ·exact((rfl:X4 _=_)).trans rfl
  ·exact((rfl:aaf _=_)).trans rfl
  ·exact((rfl:X5 _=_)).trans rfl
  ·exact((rfl:aag _=_)).trans rfl
  ·rfl
 mk_eq:=acQ
 one:=by
  intro e x c h
  unfold D5 at h
  split at h<;>simp only [List.mem_cons,List.not_mem_nil,or_false] at h<;>first | (rcases h with rfl | rfl | rfl | rfl<;>rfl) | (subst h;rfl) | cases h
 len:=by
  intro e x i he h
  unfold elT at he
  split at he
  ·exact congrArg TI.size (Option.some.inj (show some _=some i from h))
  ·exact congrArg TI.size (Option.some.inj (show some _=some i from h))
  ·exact congrArg TI.size (Option.some.inj (show some _=some i from h))
  ·exact congrArg TI.size (Option.some.inj (show some _=some i from h))
  ·exact congrArg TI.size (Option.some.inj (show some _=some i from h))
  ·exact congrArg TI.size (Option.some.inj (show some _=some i from h))
  ·exact congrArg TI.size (Option.some.inj (show some _=some i from h))
  ·exact congrArg TI.size (Option.some.inj (show some _=some i from h))
  ·exact congrArg TI.size (Option.some.inj (show some _=some i from h))
  ·exact congrArg TI.size (Option.some.inj (show some _=some i from h))
  ·exact congrArg TI.size (Option.some.inj (show some _=some i from h))
  ·exact congrArg TI.size (Option.some.inj (show some _=some i from h))
  ·exact congrArg TI.size (Option.some.inj (show some _=some i from h))
  ·exact congrArg TI.size (Option.some.inj (show some _=some i from h))
  ·cases he
theorem aeR:∀p∈tiL,∀i,p.2=some i→fM Tryz.prog p.1 i:=by
 intro p hp
 simp only [tiL,List.mem_cons,List.not_mem_nil,or_false] at hp
 rcases hp with rfl | rfl | rfl | rfl | rfl | rfl | rfl | rfl | rfl | rfl | rfl | rfl | rfl | rfl | rfl | rfl | rfl | rfl | rfl | rfl | rfl | rfl | rfl | rfl | rfl | rfl | rfl | rfl | rfl | rfl | rfl | rfl
 ·intro i h;cases h;exact ty2
 ·intro i h;cases h;exact ty3
 ·intro i h;cases h;exact ty4
 ·intro i h;cases h;exact ty5
 ·intro i h;cases h;exact ty9
 ·intro i h;cases h;exact aex
 ·intro i h;cases h;exact aey
 ·intro i h;cases h;exact aez
 ·intro i h;cases h;exact aeA
 ·intro i h;cases h;exact aeB
 ·intro i h;cases h;exact aeC
 ·intro i h;cases h;exact aeD
 ·intro i h;cases h;exact aeE
 ·intro i h;cases h;exact aeF
 ·intro i h;cases h;exact aeG
 ·intro i h;cases h;exact aeH
 ·intro i h;cases h;exact aeI
 ·intro i h;cases h;exact aeJ
 ·intro i h;cases h;exact aeK
 ·intro i h;cases h;exact aeL
 ·intro i h;cases h;exact aeM
 ·intro i h;cases h;exact aeN
 ·intro i h;cases h;exact aeO
 ·intro i h;cases h;exact aeP
 ·intro i h;cases h;exact aeQ
 ·intro i h;cases h;exact adw
 ·intro i h;cases h;exact adx
 ·intro i h;cases h;exact ady
 ·intro i h;cases h;exact adz
 ·intro i h;cases h;exact adA
 ·intro i h;cases h;exact adB
 ·intro i h;cases h;exact adC
theorem Qh {α:Type} {t:Nat} {i:α}:∀{l:List (Nat × Option α)},lk none l t=some i→∃p∈l,p.1=t∧p.2=some i
 | [],h=>by cases h
 | (k,x)::l,h=>by
   unfold lk at h
   cases hb:Nat.beq k t<;>rw [hb] at h
   ·obtain⟨p,h1,h2⟩:=Qh h;exact⟨p,List.mem_cons_of_mem _ h1,h2⟩
   ·exact⟨_,List.mem_cons_self,Nat.eq_of_beq_eq_true hb,h⟩
theorem hT:T.ok Tryz.prog:=by
 intro t i h
 obtain⟨p,h1,h2,h3⟩:=Qh (show lk none tiL t=some i from h)
 subst h2
 exact aeR p h1 i h3
end Go.Proofs.YtcnfgfomholheaaGreatDoor.Q
