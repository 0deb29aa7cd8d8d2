/- The path calculus: this seat's types: elements, their cells, sizes and zero values. Printed by a program of this work (tab.py). -/
import Derived.Test.YtcnfgfomholheaaGreatDoorZc
import Derived.Test.YtcnfgfomholheaaGreatDoorProg
import Derived.Test.YtcnfgfomholheaaGreatDoorX1
namespace Go.Proofs.YtcnfgfomholheaaGreatDoor.Q
open Go.Proofs.YtcnfgfomholheaaGreatDoor.Z
set_option linter.unusedVariables false
structure yK where
 f0:ByteArray
 f1:Int
 f2:Int
def z41:yK:=⟨(⟨#[]⟩:ByteArray),0,0⟩
structure vJ where
 f0:List ByteArray
 f1:List vJ
 f2:List yK
def z26:vJ:=⟨[],[],[]⟩
structure tV where
 f0:ByteArray
 f1:List Int
 f2:Int
def acS:tV:=⟨(⟨#[]⟩:ByteArray),[],0⟩
structure DK where
 f0:ByteArray
 f1:Int
def acT:DK:=⟨(⟨#[]⟩:ByteArray),0⟩
structure Fv where
 f0:ByteArray
 f1:Int
 f2:Int
def z44:Fv:=⟨(⟨#[]⟩:ByteArray),0,0⟩
structure Bc where
 f0:List ByteArray
 f1:List Bc
 f2:List Fv
def z31:Bc:=⟨[],[],[]⟩
structure Au where
 f0:ByteArray
 f1:List Int
 f2:Int
def Zm:Au:=⟨(⟨#[]⟩:ByteArray),[],0⟩
structure DL where
 f0:ByteArray
 f1:Int
def acU:DL:=⟨(⟨#[]⟩:ByteArray),0⟩
structure I9 where
 f0:ByteArray
 f1:ByteArray
 f2:Int
 f3:Int
def z96:I9:=⟨(⟨#[]⟩:ByteArray),(⟨#[]⟩:ByteArray),0,0⟩
def Tb (e:Nat):Type:=match e with
 | 3=>Int
 | 5=>Int
 | 9=>ByteArray
 | 41=>yK
 | 26=>vJ
 | 186=>tV
 | 142=>DK
 | 44=>Fv
 | 31=>Bc
 | 121=>Au
 | 113=>DL
 | 96=>I9
 | 199=>Int
 | 68=>List Int
 | _=>Unit
def aeB (e:Nat):Tb e:=by
 unfold Tb
 split
 ·exact(0:Int)
 ·exact(0:Int)
 ·exact(ByteArray.empty:ByteArray)
 ·exact(z41:yK)
 ·exact(z26:vJ)
 ·exact(acS:tV)
 ·exact(acT:DK)
 ·exact(z44:Fv)
 ·exact(z31:Bc)
 ·exact(Zm:Au)
 ·exact(acU:DL)
 ·exact(z96:I9)
 ·exact(0:Int)
 ·exact([]:List Int)
 ·exact()
def dfl (e:Nat):Tb e:=match e with
 | 3=>(0:Int)
 | 5=>(0:Int)
 | 9=>(ByteArray.empty:ByteArray)
 | 41=>(z41:yK)
 | 26=>(z26:vJ)
 | 186=>(acS:tV)
 | 142=>(acT:DK)
 | 44=>(z44:Fv)
 | 31=>(z31:Bc)
 | 121=>(Zm:Au)
 | 113=>(acU:DL)
 | 96=>(z96:I9)
 | 199=>(0:Int)
 | 68=>([]:List Int)
 | e=>aeB e
def enc3 (x:Int):List V:=[.sc (.int .i64 x)]
def Qu (x:Int):List V:=[.sc (.int .u8 x)]
def KE (x:ByteArray):List V:=[.sc (.string x)]
def NM (x:yK):List V:=[.sc (.string x.f0), .sc (.int .i64 x.f1), .sc (.int .i64 x.f2)]
def Jl:vJ→List V
 | ⟨a0,a1,a2⟩=>[.sl 9 (a0.map KE), .sl 26 (a1.map Jl), .sl 41 (a2.map NM)]
theorem Zz (x:vJ):Jl x=[.sl 9 (x.f0.map KE), .sl 26 (x.f1.map Jl), .sl 41 (x.f2.map NM)]:=by cases x;simp only [Jl]
def X9 (x:tV):List V:=[.sc (.string x.f0), .sl 5 (x.f1.map Qu), .sc (.int .i64 x.f2)]
def Ya (x:DK):List V:=[.sc (.string x.f0), .sc (.int .i64 x.f1)]
def NP (x:Fv):List V:=[.sc (.string x.f0), .sc (.int .i64 x.f1), .sc (.int .i64 x.f2)]
def Jm:Bc→List V
 | ⟨a0,a1,a2⟩=>[.sl 9 (a0.map KE), .sl 31 (a1.map Jm), .sl 44 (a2.map NP)]
theorem ZA (x:Bc):Jm x=[.sl 9 (x.f0.map KE), .sl 31 (x.f1.map Jm), .sl 44 (x.f2.map NP)]:=by cases x;simp only [Jm]
def Yb (x:Au):List V:=[.sc (.string x.f0), .sl 5 (x.f1.map Qu), .sc (.int .i64 x.f2)]
def Yc (x:DL):List V:=[.sc (.string x.f0), .sc (.int .i64 x.f1)]
def aaf (x:I9):List V:=[.sc (.string x.f0), .sc (.string x.f1), .sc (.int .i64 x.f2), .sc (.int .i64 x.f3)]
def Yd (x:Int):List V:=[.sc (.int .u64 x)]
def aag (x:List Int):List V:=[.sl 5 (x.map Qu)]
def DN (e:Nat) (x:Tb e):List (C0 Tb):=match e,x with
 | 3,(x:Int)=>[.sc (.int .i64 x)]
 | 5,(x:Int)=>[.sc (.int .u8 x)]
 | 9,(x:ByteArray)=>[.sc (.string x)]
 | 41,(x:yK)=>[.sc (.string x.f0), .sc (.int .i64 x.f1), .sc (.int .i64 x.f2)]
 | 26,(x:vJ)=>[.sl 9 x.f0, .sl 26 x.f1, .sl 41 x.f2]
 | 186,(x:tV)=>[.sc (.string x.f0), .sl 5 x.f1, .sc (.int .i64 x.f2)]
 | 142,(x:DK)=>[.sc (.string x.f0), .sc (.int .i64 x.f1)]
 | 44,(x:Fv)=>[.sc (.string x.f0), .sc (.int .i64 x.f1), .sc (.int .i64 x.f2)]
 | 31,(x:Bc)=>[.sl 9 x.f0, .sl 31 x.f1, .sl 44 x.f2]
 | 121,(x:Au)=>[.sc (.string x.f0), .sl 5 x.f1, .sc (.int .i64 x.f2)]
 | 113,(x:DL)=>[.sc (.string x.f0), .sc (.int .i64 x.f1)]
 | 96,(x:I9)=>[.sc (.string x.f0), .sc (.string x.f1), .sc (.int .i64 x.f2), .sc (.int .i64 x.f3)]
 | 199,(x:Int)=>[.sc (.int .u64 x)]
 | 68,(x:List Int)=>[.sl 5 x]
 | _,_=>[]
def acV (e:Nat) (x:Tb e):List V:=match e,x with
 | 3,(x:Int)=>enc3 x
 | 5,(x:Int)=>Qu x
 | 9,(x:ByteArray)=>KE x
 | 41,(x:yK)=>NM x
 | 26,(x:vJ)=>Jl x
 | 186,(x:tV)=>X9 x
 | 142,(x:DK)=>Ya x
 | 44,(x:Fv)=>NP x
 | 31,(x:Bc)=>Jm x
 | 121,(x:Au)=>Yb x
 | 113,(x:DL)=>Yc x
 | 96,(x:I9)=>aaf x
 | 199,(x:Int)=>Yd x
 | 68,(x:List Int)=>aag x
 | _,_=>[]
def ZB (e:Nat) (cs:List (C0 Tb)):Option (Tb e):=match e,cs with
 | 3,[.sc (.int .i64 x)]=>some x
 | 5,[.sc (.int .u8 x)]=>some x
 | 9,[.sc (.string x)]=>some x
 | 41,[.sc (.string a0), .sc (.int .i64 a1), .sc (.int .i64 a2)]=>some (⟨a0,a1,a2⟩:yK)
 | 26,[.sl 9 a0, .sl 26 a1, .sl 41 a2]=>some (⟨a0,a1,a2⟩:vJ)
 | 186,[.sc (.string a0), .sl 5 a1, .sc (.int .i64 a2)]=>some (⟨a0,a1,a2⟩:tV)
 | 142,[.sc (.string a0), .sc (.int .i64 a1)]=>some (⟨a0,a1⟩:DK)
 | 44,[.sc (.string a0), .sc (.int .i64 a1), .sc (.int .i64 a2)]=>some (⟨a0,a1,a2⟩:Fv)
 | 31,[.sl 9 a0, .sl 31 a1, .sl 44 a2]=>some (⟨a0,a1,a2⟩:Bc)
 | 121,[.sc (.string a0), .sl 5 a1, .sc (.int .i64 a2)]=>some (⟨a0,a1,a2⟩:Au)
 | 113,[.sc (.string a0), .sc (.int .i64 a1)]=>some (⟨a0,a1⟩:DL)
 | 96,[.sc (.string a0), .sc (.string a1), .sc (.int .i64 a2), .sc (.int .i64 a3)]=>some (⟨a0,a1,a2,a3⟩:I9)
 | 199,[.sc (.int .u64 x)]=>some x
 | 68,[.sl 5 x]=>some x
 | _,_=>none
theorem abk (e:Nat) (cs:List (C0 Tb)) (x:Tb e) (h:ZB e cs=some x):DN e x=cs:=by
 unfold ZB at h
 split at h<;>first | (cases h;rfl) | cases h
abbrev mkT (e:Nat) (cs:List (C0 Tb)):Option (Tb e):=ZB e cs
theorem acW (e:Nat) (cs:List (C0 Tb)) (x:Tb e) (h:mkT e cs=some x):DN e x=cs:=abk e cs x h
def elT (e:Nat):Bool:=match e with
 | 3=>true
 | 5=>true
 | 9=>true
 | 41=>true
 | 26=>true
 | 186=>true
 | 142=>true
 | 44=>true
 | 31=>true
 | 121=>true
 | 113=>true
 | 96=>true
 | 199=>true
 | 68=>true
 | _=>false
def tiL:List (Nat × Option TI):=[(2,some ⟨1,8,[.int .i64 0], .num .i64⟩),
 (3,some ⟨1,8,[.int .i64 0], .num .i64⟩),
 (4,some ⟨1,1,[.bool false], .one⟩),
 (5,some ⟨1,1,[.int .u8 0], .num .u8⟩),
 (9,some ⟨1,16,[.string ⟨#[]⟩], .text⟩),
 (21,some ⟨1,4,[.int .i32 0], .num .i32⟩),
 (22,some ⟨1,24,[.slice none 0 0], .slice 9⟩),
 (23,some ⟨1,24,[.slice none 0 0], .slice 26⟩),
 (24,some ⟨1,24,[.slice none 0 0], .slice 41⟩),
 (26,some ⟨3,72,[.slice none 0 0, .slice none 0 0, .slice none 0 0], .str [(0,1),(1,1),(2,1)]⟩),
 (28,some ⟨1,24,[.slice none 0 0], .slice 31⟩),
 (29,some ⟨1,24,[.slice none 0 0], .slice 44⟩),
 (31,some ⟨3,72,[.slice none 0 0, .slice none 0 0, .slice none 0 0], .str [(0,1),(1,1),(2,1)]⟩),
 (41,some ⟨3,32,[.string ⟨#[]⟩, .int .i64 0, .int .i64 0], .str [(0,1),(1,1),(2,1)]⟩),
 (44,some ⟨3,32,[.string ⟨#[]⟩, .int .i64 0, .int .i64 0], .str [(0,1),(1,1),(2,1)]⟩),
 (50,some ⟨1,24,[.slice none 0 0], .slice 186⟩),
 (52,some ⟨5,104,[.int .i64 0, .slice none 0 0, .slice none 0 0, .slice none 0 0, .slice none 0 0], .str [(0,1),(1,3),(4,1)]⟩),
 (54,some ⟨1,24,[.slice none 0 0], .slice 121⟩),
 (56,some ⟨5,104,[.int .i64 0, .slice none 0 0, .slice none 0 0, .slice none 0 0, .slice none 0 0], .str [(0,1),(1,3),(4,1)]⟩),
 (68,some ⟨1,24,[.slice none 0 0], .slice 5⟩),
 (74,some ⟨1,24,[.slice none 0 0], .slice 142⟩),
 (76,some ⟨1,24,[.slice none 0 0], .slice 3⟩),
 (79,some ⟨1,24,[.slice none 0 0], .slice 113⟩),
 (93,some ⟨1,24,[.slice none 0 0], .slice 96⟩),
 (96,some ⟨4,48,[.string ⟨#[]⟩, .string ⟨#[]⟩, .int .i64 0, .int .i64 0], .str [(0,1),(1,1),(2,1),(3,1)]⟩),
 (113,some ⟨2,24,[.string ⟨#[]⟩, .int .i64 0], .str [(0,1),(1,1)]⟩),
 (121,some ⟨3,48,[.string ⟨#[]⟩, .slice none 0 0, .int .i64 0], .str [(0,1),(1,1),(2,1)]⟩),
 (142,some ⟨2,24,[.string ⟨#[]⟩, .int .i64 0], .str [(0,1),(1,1)]⟩),
 (186,some ⟨3,48,[.string ⟨#[]⟩, .slice none 0 0, .int .i64 0], .str [(0,1),(1,1),(2,1)]⟩),
 (189,some ⟨3,40,[.slice none 0 0, .int .i64 0, .int .i64 0], .str [(0,1),(1,1),(2,1)]⟩),
 (197,some ⟨1,24,[.slice none 0 0], .slice 68⟩),
 (199,some ⟨1,8,[.int .u64 0], .num .u64⟩)]
def tiT (t:Nat):Option TI:=lk none tiL t
theorem ty2:fE Tryz.prog 2 ⟨1,8,[.int .i64 0], .num .i64⟩:=CY (by kernel_rfl) (by kernel_rfl) rfl (by decide)
theorem ty3:fE Tryz.prog 3 ⟨1,8,[.int .i64 0], .num .i64⟩:=CY (by kernel_rfl) (by kernel_rfl) rfl (by decide)
theorem ty4:fE Tryz.prog 4 ⟨1,1,[.bool false], .one⟩:=ab5 (by kernel_rfl) (by kernel_rfl) rfl (by decide)
theorem ty5:fE Tryz.prog 5 ⟨1,1,[.int .u8 0], .num .u8⟩:=CY (by kernel_rfl) (by kernel_rfl) rfl (by decide)
theorem ty9:fE Tryz.prog 9 ⟨1,16,[.string ⟨#[]⟩], .text⟩:=aa0 (by kernel_rfl) (by kernel_rfl) rfl (by decide)
theorem aeC:fE Tryz.prog 21 ⟨1,4,[.int .i32 0], .num .i32⟩:=CY (by kernel_rfl) (by kernel_rfl) rfl (by decide)
theorem aeD:fE Tryz.prog 22 ⟨1,24,[.slice none 0 0], .slice 9⟩:=jJ (by kernel_rfl) (by kernel_rfl) rfl (by decide)
theorem aeE:fE Tryz.prog 23 ⟨1,24,[.slice none 0 0], .slice 26⟩:=jJ (by kernel_rfl) (by kernel_rfl) rfl (by decide)
theorem aeF:fE Tryz.prog 24 ⟨1,24,[.slice none 0 0], .slice 41⟩:=jJ (by kernel_rfl) (by kernel_rfl) rfl (by decide)
theorem aeG:fE Tryz.prog 26 ⟨3,72,[.slice none 0 0, .slice none 0 0, .slice none 0 0], .str [(0,1),(1,1),(2,1)]⟩:=mJ (by kernel_rfl) (by kernel_rfl) rfl (by decide) (by decide) (by kernel_rfl)
theorem aeH:fE Tryz.prog 28 ⟨1,24,[.slice none 0 0], .slice 31⟩:=jJ (by kernel_rfl) (by kernel_rfl) rfl (by decide)
theorem aeI:fE Tryz.prog 29 ⟨1,24,[.slice none 0 0], .slice 44⟩:=jJ (by kernel_rfl) (by kernel_rfl) rfl (by decide)
theorem aeJ:fE Tryz.prog 31 ⟨3,72,[.slice none 0 0, .slice none 0 0, .slice none 0 0], .str [(0,1),(1,1),(2,1)]⟩:=mJ (by kernel_rfl) (by kernel_rfl) rfl (by decide) (by decide) (by kernel_rfl)
theorem aeK:fE Tryz.prog 41 ⟨3,32,[.string ⟨#[]⟩, .int .i64 0, .int .i64 0], .str [(0,1),(1,1),(2,1)]⟩:=mJ (by kernel_rfl) (by kernel_rfl) rfl (by decide) (by decide) (by kernel_rfl)
theorem aeL:fE Tryz.prog 44 ⟨3,32,[.string ⟨#[]⟩, .int .i64 0, .int .i64 0], .str [(0,1),(1,1),(2,1)]⟩:=mJ (by kernel_rfl) (by kernel_rfl) rfl (by decide) (by decide) (by kernel_rfl)
theorem aeM:fE Tryz.prog 50 ⟨1,24,[.slice none 0 0], .slice 186⟩:=jJ (by kernel_rfl) (by kernel_rfl) rfl (by decide)
theorem aeN:fE Tryz.prog 52 ⟨5,104,[.int .i64 0, .slice none 0 0, .slice none 0 0, .slice none 0 0, .slice none 0 0], .str [(0,1),(1,3),(4,1)]⟩:=mJ (by kernel_rfl) (by kernel_rfl) rfl (by decide) (by decide) (by kernel_rfl)
theorem aeO:fE Tryz.prog 54 ⟨1,24,[.slice none 0 0], .slice 121⟩:=jJ (by kernel_rfl) (by kernel_rfl) rfl (by decide)
theorem aeP:fE Tryz.prog 56 ⟨5,104,[.int .i64 0, .slice none 0 0, .slice none 0 0, .slice none 0 0, .slice none 0 0], .str [(0,1),(1,3),(4,1)]⟩:=mJ (by kernel_rfl) (by kernel_rfl) rfl (by decide) (by decide) (by kernel_rfl)
theorem aeQ:fE Tryz.prog 68 ⟨1,24,[.slice none 0 0], .slice 5⟩:=jJ (by kernel_rfl) (by kernel_rfl) rfl (by decide)
theorem aeR:fE Tryz.prog 74 ⟨1,24,[.slice none 0 0], .slice 142⟩:=jJ (by kernel_rfl) (by kernel_rfl) rfl (by decide)
theorem aeS:fE Tryz.prog 76 ⟨1,24,[.slice none 0 0], .slice 3⟩:=jJ (by kernel_rfl) (by kernel_rfl) rfl (by decide)
theorem aeT:fE Tryz.prog 79 ⟨1,24,[.slice none 0 0], .slice 113⟩:=jJ (by kernel_rfl) (by kernel_rfl) rfl (by decide)
theorem aeU:fE Tryz.prog 93 ⟨1,24,[.slice none 0 0], .slice 96⟩:=jJ (by kernel_rfl) (by kernel_rfl) rfl (by decide)
theorem aeV:fE Tryz.prog 96 ⟨4,48,[.string ⟨#[]⟩, .string ⟨#[]⟩, .int .i64 0, .int .i64 0], .str [(0,1),(1,1),(2,1),(3,1)]⟩:=mJ (by kernel_rfl) (by kernel_rfl) rfl (by decide) (by decide) (by kernel_rfl)
theorem adH:fE Tryz.prog 113 ⟨2,24,[.string ⟨#[]⟩, .int .i64 0], .str [(0,1),(1,1)]⟩:=mJ (by kernel_rfl) (by kernel_rfl) rfl (by decide) (by decide) (by kernel_rfl)
theorem adI:fE Tryz.prog 121 ⟨3,48,[.string ⟨#[]⟩, .slice none 0 0, .int .i64 0], .str [(0,1),(1,1),(2,1)]⟩:=mJ (by kernel_rfl) (by kernel_rfl) rfl (by decide) (by decide) (by kernel_rfl)
theorem adJ:fE Tryz.prog 142 ⟨2,24,[.string ⟨#[]⟩, .int .i64 0], .str [(0,1),(1,1)]⟩:=mJ (by kernel_rfl) (by kernel_rfl) rfl (by decide) (by decide) (by kernel_rfl)
theorem adK:fE Tryz.prog 186 ⟨3,48,[.string ⟨#[]⟩, .slice none 0 0, .int .i64 0], .str [(0,1),(1,1),(2,1)]⟩:=mJ (by kernel_rfl) (by kernel_rfl) rfl (by decide) (by decide) (by kernel_rfl)
theorem adL:fE Tryz.prog 189 ⟨3,40,[.slice none 0 0, .int .i64 0, .int .i64 0], .str [(0,1),(1,1),(2,1)]⟩:=mJ (by kernel_rfl) (by kernel_rfl) rfl (by decide) (by decide) (by kernel_rfl)
theorem adM:fE Tryz.prog 197 ⟨1,24,[.slice none 0 0], .slice 68⟩:=jJ (by kernel_rfl) (by kernel_rfl) rfl (by decide)
theorem adN:fE Tryz.prog 199 ⟨1,8,[.int .u64 0], .num .u64⟩:=CY (by kernel_rfl) (by kernel_rfl) rfl (by decide)
def T:dU where
 J:=Go.Proofs.YtcnfgfomholheaaGreatDoor.X.Tabs
 jk:=fun b h=>Go.Proofs.YtcnfgfomholheaaGreatDoor.X.Tabs.below h b
 Tb:=Tb
 df:=dfl
 cells:=DN
 xG:=mkT
 enc:=acV
 el:=elT
 ti:=tiT
 gq:=by
  intro e x
  unfold acV DN
  split
  ·exact((rfl:enc3 _=_)).trans rfl
  ·exact((rfl:Qu _=_)).trans rfl
  ·exact((rfl:KE _=_)).trans rfl
  ·exact((rfl:NM _=_)).trans rfl
  ·exact(Zz _).trans rfl
  ·exact((rfl:X9 _=_)).trans rfl
  ·exact((rfl:Ya _=_)).trans rfl
  ·exact((rfl:NP _=_)).trans rfl
  ·exact(ZA _).trans rfl
  ·exact((rfl:Yb _=_)).trans rfl
  ·exact((rfl:Yc _=_)).trans rfl
  ·exact((rfl:aaf _=_)).trans rfl
  ·exact((rfl:Yd _=_)).trans rfl
  ·exact((rfl:aag _=_)).trans rfl
  ·rfl
 mk_eq:=acW
 one:=by
  intro e x c h
  unfold DN at h
  split at h<;>simp only [List.mem_cons,List.not_mem_nil,or_false] at h<;>first | (rcases h with rfl | rfl | rfl | rfl<;>rfl) | (subst h;rfl) | cases h
 len:=by
  intro e x i he h
  unfold elT at he
  split at he
  ·exact congrArg TI.size (Option.some.inj (show some _=some i from h))
  ·exact congrArg TI.size (Option.some.inj (show some _=some i from h))
  ·exact congrArg TI.size (Option.some.inj (show some _=some i from h))
  ·exact congrArg TI.size (Option.some.inj (show some _=some i from h))
  ·exact congrArg TI.size (Option.some.inj (show some _=some i from h))
  ·exact congrArg TI.size (Option.some.inj (show some _=some i from h))
  ·exact congrArg TI.size (Option.some.inj (show some _=some i from h))
  ·exact congrArg TI.size (Option.some.inj (show some _=some i from h))
  ·exact congrArg TI.size (Option.some.inj (show some _=some i from h))
  ·exact congrArg TI.size (Option.some.inj (show some _=some i from h))
  ·exact congrArg TI.size (Option.some.inj (show some _=some i from h))
  ·exact congrArg TI.size (Option.some.inj (show some _=some i from h))
  ·exact congrArg TI.size (Option.some.inj (show some _=some i from h))
  ·exact congrArg TI.size (Option.some.inj (show some _=some i from h))
  ·cases he
theorem aeW:∀p∈tiL,∀i,p.2=some i→fE Tryz.prog p.1 i:=by
 intro p hp
 simp only [tiL,List.mem_cons,List.not_mem_nil,or_false] at hp
 rcases hp with rfl | rfl | rfl | rfl | rfl | rfl | rfl | rfl | rfl | rfl | rfl | rfl | rfl | rfl | rfl | rfl | rfl | rfl | rfl | rfl | rfl | rfl | rfl | rfl | rfl | rfl | rfl | rfl | rfl | rfl | rfl | rfl
 ·intro i h;cases h;exact ty2
 ·intro i h;cases h;exact ty3
 ·intro i h;cases h;exact ty4
 ·intro i h;cases h;exact ty5
 ·intro i h;cases h;exact ty9
 ·intro i h;cases h;exact aeC
 ·intro i h;cases h;exact aeD
 ·intro i h;cases h;exact aeE
 ·intro i h;cases h;exact aeF
 ·intro i h;cases h;exact aeG
 ·intro i h;cases h;exact aeH
 ·intro i h;cases h;exact aeI
 ·intro i h;cases h;exact aeJ
 ·intro i h;cases h;exact aeK
 ·intro i h;cases h;exact aeL
 ·intro i h;cases h;exact aeM
 ·intro i h;cases h;exact aeN
 ·intro i h;cases h;exact aeO
 ·intro i h;cases h;exact aeP
 ·intro i h;cases h;exact aeQ
 ·intro i h;cases h;exact aeR
 ·intro i h;cases h;exact aeS
 ·intro i h;cases h;exact aeT
 ·intro i h;cases h;exact aeU
 ·intro i h;cases h;exact aeV
 ·intro i h;cases h;exact adH
 ·intro i h;cases h;exact adI
 ·intro i h;cases h;exact adJ
 ·intro i h;cases h;exact adK
 ·intro i h;cases h;exact adL
 ·intro i h;cases h;exact adM
 ·intro i h;cases h;exact adN
theorem Qv {α:Type} {t:Nat} {i:α}:∀{l:List (Nat × Option α)},lk none l t=some i→∃p∈l,p.1=t∧p.2=some i
 | [],h=>by cases h
 | (k,x)::l,h=>by
   unfold lk at h
   cases hb:Nat.beq k t<;>rw [hb] at h
   ·obtain⟨p,h1,h2⟩:=Qv h;exact⟨p,List.mem_cons_of_mem _ h1,h2⟩
   ·exact⟨_,List.mem_cons_self,Nat.eq_of_beq_eq_true hb,h⟩
theorem hT:T.ok Tryz.prog:=by
 intro t i h
 obtain⟨p,h1,h2,h3⟩:=Qv (show lk none tiL t=some i from h)
 subst h2
 exact aeW p h1 i h3
end Go.Proofs.YtcnfgfomholheaaGreatDoor.Q
