/- The path calculus: this seat's types: elements, their cells, sizes and zero values. Printed by a program of this work (tab.py). -/
import Derived.Test.YtcnfgfomholheaaGreatDoorZc
import Derived.Test.YtcnfgfomholheaaGreatDoorProg
import Derived.Test.YtcnfgfomholheaaGreatDoorX1
namespace Go.Proofs.YtcnfgfomholheaaGreatDoor.Q
open Go.Proofs.YtcnfgfomholheaaGreatDoor.Z
set_option linter.unusedVariables false
structure wU where
 f0:ByteArray
 f1:Int
 f2:Int
def z41:wU:=⟨(⟨#[]⟩:ByteArray),0,0⟩
structure vw where
 f0:List ByteArray
 f1:List vw
 f2:List wU
def z26:vw:=⟨[],[],[]⟩
structure zZ where
 f0:ByteArray
 f1:List Int
 f2:Int
def aa1:zZ:=⟨(⟨#[]⟩:ByteArray),[],0⟩
structure Aa where
 f0:ByteArray
 f1:Int
def aa2:Aa:=⟨(⟨#[]⟩:ByteArray),0⟩
structure DU where
 f0:ByteArray
 f1:Int
 f2:Int
def z44:DU:=⟨(⟨#[]⟩:ByteArray),0,0⟩
structure zq where
 f0:List ByteArray
 f1:List zq
 f2:List DU
def z31:zq:=⟨[],[],[]⟩
structure Ac where
 f0:ByteArray
 f1:List Int
 f2:Int
def aa3:Ac:=⟨(⟨#[]⟩:ByteArray),[],0⟩
structure Ad where
 f0:ByteArray
 f1:Int
def aa4:Ad:=⟨(⟨#[]⟩:ByteArray),0⟩
structure JX where
 f0:ByteArray
 f1:ByteArray
 f2:Int
 f3:Int
def z96:JX:=⟨(⟨#[]⟩:ByteArray),(⟨#[]⟩:ByteArray),0,0⟩
def Tb (e:Nat):Type:=match e with
 | 3=>Int
 | 5=>Int
 | 9=>ByteArray
 | 41=>wU
 | 26=>vw
 | 186=>zZ
 | 142=>Aa
 | 44=>DU
 | 31=>zq
 | 121=>Ac
 | 113=>Ad
 | 96=>JX
 | 199=>Int
 | _=>Unit
def adh (e:Nat):Tb e:=by
 unfold Tb
 split
 ·exact(0:Int)
 ·exact(0:Int)
 ·exact(ByteArray.empty:ByteArray)
 ·exact(z41:wU)
 ·exact(z26:vw)
 ·exact(aa1:zZ)
 ·exact(aa2:Aa)
 ·exact(z44:DU)
 ·exact(z31:zq)
 ·exact(aa3:Ac)
 ·exact(aa4:Ad)
 ·exact(z96:JX)
 ·exact(0:Int)
 ·exact()
def dfl (e:Nat):Tb e:=match e with
 | 3=>(0:Int)
 | 5=>(0:Int)
 | 9=>(ByteArray.empty:ByteArray)
 | 41=>(z41:wU)
 | 26=>(z26:vw)
 | 186=>(aa1:zZ)
 | 142=>(aa2:Aa)
 | 44=>(z44:DU)
 | 31=>(z31:zq)
 | 121=>(aa3:Ac)
 | 113=>(aa4:Ad)
 | 96=>(z96:JX)
 | 199=>(0:Int)
 | e=>adh e
def enc3 (x:Int):List V:=[.sc (.int .i64 x)]
def SL (x:Int):List V:=[.sc (.int .u8 x)]
def IE (x:ByteArray):List V:=[.sc (.string x)]
def LK (x:wU):List V:=[.sc (.string x.f0), .sc (.int .i64 x.f1), .sc (.int .i64 x.f2)]
def F6:vw→List V
 | ⟨a0,a1,a2⟩=>[.sl 9 (a0.map IE), .sl 26 (a1.map F6), .sl 41 (a2.map LK)]
theorem XR (x:vw):F6 x=[.sl 9 (x.f0.map IE), .sl 26 (x.f1.map F6), .sl 41 (x.f2.map LK)]:=by cases x;simp only [F6]
def VP (x:zZ):List V:=[.sc (.string x.f0), .sl 5 (x.f1.map SL), .sc (.int .i64 x.f2)]
def VQ (x:Aa):List V:=[.sc (.string x.f0), .sc (.int .i64 x.f1)]
def LM (x:DU):List V:=[.sc (.string x.f0), .sc (.int .i64 x.f1), .sc (.int .i64 x.f2)]
def F7:zq→List V
 | ⟨a0,a1,a2⟩=>[.sl 9 (a0.map IE), .sl 31 (a1.map F7), .sl 44 (a2.map LM)]
theorem XT (x:zq):F7 x=[.sl 9 (x.f0.map IE), .sl 31 (x.f1.map F7), .sl 44 (x.f2.map LM)]:=by cases x;simp only [F7]
def VR (x:Ac):List V:=[.sc (.string x.f0), .sl 5 (x.f1.map SL), .sc (.int .i64 x.f2)]
def VT (x:Ad):List V:=[.sc (.string x.f0), .sc (.int .i64 x.f1)]
def YW (x:JX):List V:=[.sc (.string x.f0), .sc (.string x.f1), .sc (.int .i64 x.f2), .sc (.int .i64 x.f3)]
def VU (x:Int):List V:=[.sc (.int .u64 x)]
def Ae (e:Nat) (x:Tb e):List (C0 Tb):=match e,x with
 | 3,(x:Int)=>[.sc (.int .i64 x)]
 | 5,(x:Int)=>[.sc (.int .u8 x)]
 | 9,(x:ByteArray)=>[.sc (.string x)]
 | 41,(x:wU)=>[.sc (.string x.f0), .sc (.int .i64 x.f1), .sc (.int .i64 x.f2)]
 | 26,(x:vw)=>[.sl 9 x.f0, .sl 26 x.f1, .sl 41 x.f2]
 | 186,(x:zZ)=>[.sc (.string x.f0), .sl 5 x.f1, .sc (.int .i64 x.f2)]
 | 142,(x:Aa)=>[.sc (.string x.f0), .sc (.int .i64 x.f1)]
 | 44,(x:DU)=>[.sc (.string x.f0), .sc (.int .i64 x.f1), .sc (.int .i64 x.f2)]
 | 31,(x:zq)=>[.sl 9 x.f0, .sl 31 x.f1, .sl 44 x.f2]
 | 121,(x:Ac)=>[.sc (.string x.f0), .sl 5 x.f1, .sc (.int .i64 x.f2)]
 | 113,(x:Ad)=>[.sc (.string x.f0), .sc (.int .i64 x.f1)]
 | 96,(x:JX)=>[.sc (.string x.f0), .sc (.string x.f1), .sc (.int .i64 x.f2), .sc (.int .i64 x.f3)]
 | 199,(x:Int)=>[.sc (.int .u64 x)]
 | _,_=>[]
def aa5 (e:Nat) (x:Tb e):List V:=match e,x with
 | 3,(x:Int)=>enc3 x
 | 5,(x:Int)=>SL x
 | 9,(x:ByteArray)=>IE x
 | 41,(x:wU)=>LK x
 | 26,(x:vw)=>F6 x
 | 186,(x:zZ)=>VP x
 | 142,(x:Aa)=>VQ x
 | 44,(x:DU)=>LM x
 | 31,(x:zq)=>F7 x
 | 121,(x:Ac)=>VR x
 | 113,(x:Ad)=>VT x
 | 96,(x:JX)=>YW x
 | 199,(x:Int)=>VU x
 | _,_=>[]
def XU (e:Nat) (cs:List (C0 Tb)):Option (Tb e):=match e,cs with
 | 3,[.sc (.int .i64 x)]=>some x
 | 5,[.sc (.int .u8 x)]=>some x
 | 9,[.sc (.string x)]=>some x
 | 41,[.sc (.string a0), .sc (.int .i64 a1), .sc (.int .i64 a2)]=>some (⟨a0,a1,a2⟩:wU)
 | 26,[.sl 9 a0, .sl 26 a1, .sl 41 a2]=>some (⟨a0,a1,a2⟩:vw)
 | 186,[.sc (.string a0), .sl 5 a1, .sc (.int .i64 a2)]=>some (⟨a0,a1,a2⟩:zZ)
 | 142,[.sc (.string a0), .sc (.int .i64 a1)]=>some (⟨a0,a1⟩:Aa)
 | 44,[.sc (.string a0), .sc (.int .i64 a1), .sc (.int .i64 a2)]=>some (⟨a0,a1,a2⟩:DU)
 | 31,[.sl 9 a0, .sl 31 a1, .sl 44 a2]=>some (⟨a0,a1,a2⟩:zq)
 | 121,[.sc (.string a0), .sl 5 a1, .sc (.int .i64 a2)]=>some (⟨a0,a1,a2⟩:Ac)
 | 113,[.sc (.string a0), .sc (.int .i64 a1)]=>some (⟨a0,a1⟩:Ad)
 | 96,[.sc (.string a0), .sc (.string a1), .sc (.int .i64 a2), .sc (.int .i64 a3)]=>some (⟨a0,a1,a2,a3⟩:JX)
 | 199,[.sc (.int .u64 x)]=>some x
 | _,_=>none
theorem ZR (e:Nat) (cs:List (C0 Tb)) (x:Tb e) (h:XU e cs=some x):Ae e x=cs:=by
 unfold XU at h
 split at h<;>first | (cases h;rfl) | cases h
abbrev mkT (e:Nat) (cs:List (C0 Tb)):Option (Tb e):=XU e cs
theorem aa6 (e:Nat) (cs:List (C0 Tb)) (x:Tb e) (h:mkT e cs=some x):Ae e x=cs:=ZR e cs x h
def elT (e:Nat):Bool:=match e with
 | 3=>true
 | 5=>true
 | 9=>true
 | 41=>true
 | 26=>true
 | 186=>true
 | 142=>true
 | 44=>true
 | 31=>true
 | 121=>true
 | 113=>true
 | 96=>true
 | 199=>true
 | _=>false
def YX:List (Nat × Option TI):=[(2,some ⟨1,8,[.int .i64 0], .num .i64⟩),
 (3,some ⟨1,8,[.int .i64 0], .num .i64⟩),
 (4,some ⟨1,1,[.bool false], .one⟩),
 (5,some ⟨1,1,[.int .u8 0], .num .u8⟩),
 (9,some ⟨1,16,[.string ⟨#[]⟩], .text⟩),
 (21,some ⟨1,4,[.int .i32 0], .num .i32⟩),
 (22,some ⟨1,24,[.slice none 0 0], .slice 9⟩),
 (23,some ⟨1,24,[.slice none 0 0], .slice 26⟩),
 (24,some ⟨1,24,[.slice none 0 0], .slice 41⟩),
 (26,some ⟨3,72,[.slice none 0 0, .slice none 0 0, .slice none 0 0], .str [(0,1),(1,1),(2,1)]⟩),
 (28,some ⟨1,24,[.slice none 0 0], .slice 31⟩),
 (29,some ⟨1,24,[.slice none 0 0], .slice 44⟩),
 (31,some ⟨3,72,[.slice none 0 0, .slice none 0 0, .slice none 0 0], .str [(0,1),(1,1),(2,1)]⟩),
 (41,some ⟨3,32,[.string ⟨#[]⟩, .int .i64 0, .int .i64 0], .str [(0,1),(1,1),(2,1)]⟩),
 (44,some ⟨3,32,[.string ⟨#[]⟩, .int .i64 0, .int .i64 0], .str [(0,1),(1,1),(2,1)]⟩),
 (50,some ⟨1,24,[.slice none 0 0], .slice 186⟩),
 (52,some ⟨5,104,[.int .i64 0, .slice none 0 0, .slice none 0 0, .slice none 0 0, .slice none 0 0], .str [(0,1),(1,3),(4,1)]⟩),
 (54,some ⟨1,24,[.slice none 0 0], .slice 121⟩),
 (56,some ⟨5,104,[.int .i64 0, .slice none 0 0, .slice none 0 0, .slice none 0 0, .slice none 0 0], .str [(0,1),(1,3),(4,1)]⟩),
 (68,some ⟨1,24,[.slice none 0 0], .slice 5⟩),
 (74,some ⟨1,24,[.slice none 0 0], .slice 142⟩),
 (76,some ⟨1,24,[.slice none 0 0], .slice 3⟩),
 (79,some ⟨1,24,[.slice none 0 0], .slice 113⟩),
 (93,some ⟨1,24,[.slice none 0 0], .slice 96⟩),
 (96,some ⟨4,48,[.string ⟨#[]⟩, .string ⟨#[]⟩, .int .i64 0, .int .i64 0], .str [(0,1),(1,1),(2,1),(3,1)]⟩),
 (113,some ⟨2,24,[.string ⟨#[]⟩, .int .i64 0], .str [(0,1),(1,1)]⟩),
 (121,some ⟨3,48,[.string ⟨#[]⟩, .slice none 0 0, .int .i64 0], .str [(0,1),(1,1),(2,1)]⟩),
 (142,some ⟨2,24,[.string ⟨#[]⟩, .int .i64 0], .str [(0,1),(1,1)]⟩),
 (186,some ⟨3,48,[.string ⟨#[]⟩, .slice none 0 0, .int .i64 0], .str [(0,1),(1,1),(2,1)]⟩),
 (189,some ⟨3,40,[.slice none 0 0, .int .i64 0, .int .i64 0], .str [(0,1),(1,1),(2,1)]⟩),
 (199,some ⟨1,8,[.int .u64 0], .num .u64⟩)]
def tiT (t:Nat):Option TI:=lk none YX t
theorem ty2:eG Tryz.prog 2 ⟨1,8,[.int .i64 0], .num .i64⟩:=Af (by kernel_rfl) (by kernel_rfl) rfl (by decide)
theorem ty3:eG Tryz.prog 3 ⟨1,8,[.int .i64 0], .num .i64⟩:=Af (by kernel_rfl) (by kernel_rfl) rfl (by decide)
theorem ty4:eG Tryz.prog 4 ⟨1,1,[.bool false], .one⟩:=aa7 (by kernel_rfl) (by kernel_rfl) rfl (by decide)
theorem ty5:eG Tryz.prog 5 ⟨1,1,[.int .u8 0], .num .u8⟩:=Af (by kernel_rfl) (by kernel_rfl) rfl (by decide)
theorem ty9:eG Tryz.prog 9 ⟨1,16,[.string ⟨#[]⟩], .text⟩:=ZT (by kernel_rfl) (by kernel_rfl) rfl (by decide)
theorem adi:eG Tryz.prog 21 ⟨1,4,[.int .i32 0], .num .i32⟩:=Af (by kernel_rfl) (by kernel_rfl) rfl (by decide)
theorem adk:eG Tryz.prog 22 ⟨1,24,[.slice none 0 0], .slice 9⟩:=jB (by kernel_rfl) (by kernel_rfl) rfl (by decide)
theorem adl:eG Tryz.prog 23 ⟨1,24,[.slice none 0 0], .slice 26⟩:=jB (by kernel_rfl) (by kernel_rfl) rfl (by decide)
theorem adn:eG Tryz.prog 24 ⟨1,24,[.slice none 0 0], .slice 41⟩:=jB (by kernel_rfl) (by kernel_rfl) rfl (by decide)
theorem ado:eG Tryz.prog 26 ⟨3,72,[.slice none 0 0, .slice none 0 0, .slice none 0 0], .str [(0,1),(1,1),(2,1)]⟩:=lX (by kernel_rfl) (by kernel_rfl) rfl (by decide) (by decide) (by kernel_rfl)
theorem adp:eG Tryz.prog 28 ⟨1,24,[.slice none 0 0], .slice 31⟩:=jB (by kernel_rfl) (by kernel_rfl) rfl (by decide)
theorem adq:eG Tryz.prog 29 ⟨1,24,[.slice none 0 0], .slice 44⟩:=jB (by kernel_rfl) (by kernel_rfl) rfl (by decide)
theorem adr:eG Tryz.prog 31 ⟨3,72,[.slice none 0 0, .slice none 0 0, .slice none 0 0], .str [(0,1),(1,1),(2,1)]⟩:=lX (by kernel_rfl) (by kernel_rfl) rfl (by decide) (by decide) (by kernel_rfl)
theorem ads:eG Tryz.prog 41 ⟨3,32,[.string ⟨#[]⟩, .int .i64 0, .int .i64 0], .str [(0,1),(1,1),(2,1)]⟩:=lX (by kernel_rfl) (by kernel_rfl) rfl (by decide) (by decide) (by kernel_rfl)
theorem adt:eG Tryz.prog 44 ⟨3,32,[.string ⟨#[]⟩, .int .i64 0, .int .i64 0], .str [(0,1),(1,1),(2,1)]⟩:=lX (by kernel_rfl) (by kernel_rfl) rfl (by decide) (by decide) (by kernel_rfl)
theorem adu:eG Tryz.prog 50 ⟨1,24,[.slice none 0 0], .slice 186⟩:=jB (by kernel_rfl) (by kernel_rfl) rfl (by decide)
theorem adv:eG Tryz.prog 52 ⟨5,104,[.int .i64 0, .slice none 0 0, .slice none 0 0, .slice none 0 0, .slice none 0 0], .str [(0,1),(1,3),(4,1)]⟩:=lX (by kernel_rfl) (by kernel_rfl) rfl (by decide) (by decide) (by kernel_rfl)
theorem adw:eG Tryz.prog 54 ⟨1,24,[.slice none 0 0], .slice 121⟩:=jB (by kernel_rfl) (by kernel_rfl) rfl (by decide)
theorem adx:eG Tryz.prog 56 ⟨5,104,[.int .i64 0, .slice none 0 0, .slice none 0 0, .slice none 0 0, .slice none 0 0], .str [(0,1),(1,3),(4,1)]⟩:=lX (by kernel_rfl) (by kernel_rfl) rfl (by decide) (by decide) (by kernel_rfl)
theorem ady:eG Tryz.prog 68 ⟨1,24,[.slice none 0 0], .slice 5⟩:=jB (by kernel_rfl) (by kernel_rfl) rfl (by decide)
theorem adz:eG Tryz.prog 74 ⟨1,24,[.slice none 0 0], .slice 142⟩:=jB (by kernel_rfl) (by kernel_rfl) rfl (by decide)
theorem adA:eG Tryz.prog 76 ⟨1,24,[.slice none 0 0], .slice 3⟩:=jB (by kernel_rfl) (by kernel_rfl) rfl (by decide)
theorem adB:eG Tryz.prog 79 ⟨1,24,[.slice none 0 0], .slice 113⟩:=jB (by kernel_rfl) (by kernel_rfl) rfl (by decide)
theorem adC:eG Tryz.prog 93 ⟨1,24,[.slice none 0 0], .slice 96⟩:=jB (by kernel_rfl) (by kernel_rfl) rfl (by decide)
theorem adD:eG Tryz.prog 96 ⟨4,48,[.string ⟨#[]⟩, .string ⟨#[]⟩, .int .i64 0, .int .i64 0], .str [(0,1),(1,1),(2,1),(3,1)]⟩:=lX (by kernel_rfl) (by kernel_rfl) rfl (by decide) (by decide) (by kernel_rfl)
theorem acn:eG Tryz.prog 113 ⟨2,24,[.string ⟨#[]⟩, .int .i64 0], .str [(0,1),(1,1)]⟩:=lX (by kernel_rfl) (by kernel_rfl) rfl (by decide) (by decide) (by kernel_rfl)
theorem aco:eG Tryz.prog 121 ⟨3,48,[.string ⟨#[]⟩, .slice none 0 0, .int .i64 0], .str [(0,1),(1,1),(2,1)]⟩:=lX (by kernel_rfl) (by kernel_rfl) rfl (by decide) (by decide) (by kernel_rfl)
theorem acp:eG Tryz.prog 142 ⟨2,24,[.string ⟨#[]⟩, .int .i64 0], .str [(0,1),(1,1)]⟩:=lX (by kernel_rfl) (by kernel_rfl) rfl (by decide) (by decide) (by kernel_rfl)
theorem acr:eG Tryz.prog 186 ⟨3,48,[.string ⟨#[]⟩, .slice none 0 0, .int .i64 0], .str [(0,1),(1,1),(2,1)]⟩:=lX (by kernel_rfl) (by kernel_rfl) rfl (by decide) (by decide) (by kernel_rfl)
theorem acu:eG Tryz.prog 189 ⟨3,40,[.slice none 0 0, .int .i64 0, .int .i64 0], .str [(0,1),(1,1),(2,1)]⟩:=lX (by kernel_rfl) (by kernel_rfl) rfl (by decide) (by decide) (by kernel_rfl)
theorem acv:eG Tryz.prog 199 ⟨1,8,[.int .u64 0], .num .u64⟩:=Af (by kernel_rfl) (by kernel_rfl) rfl (by decide)
def T:dN where
 J:=Go.Proofs.YtcnfgfomholheaaGreatDoor.X.Tabs
 jk:=fun b h=>Go.Proofs.YtcnfgfomholheaaGreatDoor.X.Tabs.below h b
 Tb:=Tb
 df:=dfl
 cells:=Ae
 vC:=mkT
 enc:=aa5
 el:=elT
 ti:=tiT
 fF:=by
  intro e x
  unfold aa5 Ae
  split
  ·exact((rfl:enc3 _=_)).trans rfl
  ·exact((rfl:SL _=_)).trans rfl
  ·exact((rfl:IE _=_)).trans rfl
  ·exact((rfl:LK _=_)).trans rfl
  ·exact(XR _).trans rfl
  ·exact((rfl:VP _=_)).trans rfl
  ·exact((rfl:VQ _=_)).trans rfl
  ·exact((rfl:LM _=_)).trans rfl
  ·exact(XT _).trans rfl
  ·exact((rfl:VR _=_)).trans rfl
  ·exact((rfl:VT _=_)).trans rfl
  ·exact((rfl:YW _=_)).trans rfl
  ·exact((rfl:VU _=_)).trans rfl
  ·rfl
 mk_eq:=aa6
 one:=by
  intro e x c h
  unfold Ae at h
  split at h<;>simp only [List.mem_cons,List.not_mem_nil,or_false] at h<;>first | (rcases h with rfl | rfl | rfl | rfl<;>rfl) | (subst h;rfl) | cases h
 len:=by
  intro e x i he h
  unfold elT at he
  split at he
  ·exact congrArg TI.size (Option.some.inj (show some _=some i from h))
  ·exact congrArg TI.size (Option.some.inj (show some _=some i from h))
  ·exact congrArg TI.size (Option.some.inj (show some _=some i from h))
  ·exact congrArg TI.size (Option.some.inj (show some _=some i from h))
  ·exact congrArg TI.size (Option.some.inj (show some _=some i from h))
  ·exact congrArg TI.size (Option.some.inj (show some _=some i from h))
  ·exact congrArg TI.size (Option.some.inj (show some _=some i from h))
  ·exact congrArg TI.size (Option.some.inj (show some _=some i from h))
  ·exact congrArg TI.size (Option.some.inj (show some _=some i from h))
  ·exact congrArg TI.size (Option.some.inj (show some _=some i from h))
  ·exact congrArg TI.size (Option.some.inj (show some _=some i from h))
  ·exact congrArg TI.size (Option.some.inj (show some _=some i from h))
  ·exact congrArg TI.size (Option.some.inj (show some _=some i from h))
  ·cases he
theorem adE:∀p∈YX,∀i,p.2=some i→eG Tryz.prog p.1 i:=by
 intro p hp
 simp only [YX,List.mem_cons,List.not_mem_nil,or_false] at hp
 rcases hp with rfl | rfl | rfl | rfl | rfl | rfl | rfl | rfl | rfl | rfl | rfl | rfl | rfl | rfl | rfl | rfl | rfl | rfl | rfl | rfl | rfl | rfl | rfl | rfl | rfl | rfl | rfl | rfl | rfl | rfl | rfl
 ·intro i h;cases h;exact ty2
 ·intro i h;cases h;exact ty3
 ·intro i h;cases h;exact ty4
 ·intro i h;cases h;exact ty5
 ·intro i h;cases h;exact ty9
 ·intro i h;cases h;exact adi
 ·intro i h;cases h;exact adk
 ·intro i h;cases h;exact adl
 ·intro i h;cases h;exact adn
 ·intro i h;cases h;exact ado
 ·intro i h;cases h;exact adp
 ·intro i h;cases h;exact adq
 ·intro i h;cases h;exact adr
 ·intro i h;cases h;exact ads
 ·intro i h;cases h;exact adt
 ·intro i h;cases h;exact adu
 ·intro i h;cases h;exact adv
 ·intro i h;cases h;exact adw
 ·intro i h;cases h;exact adx
 ·intro i h;cases h;exact ady
 ·intro i h;cases h;exact adz
 ·intro i h;cases h;exact adA
 ·intro i h;cases h;exact adB
 ·intro i h;cases h;exact adC
 ·intro i h;cases h;exact adD
 ·intro i h;cases h;exact acn
 ·intro i h;cases h;exact aco
 ·intro i h;cases h;exact acp
 ·intro i h;cases h;exact acr
 ·intro i h;cases h;exact acu
 ·intro i h;cases h;exact acv
theorem NG {α:Type} {t:Nat} {i:α}:∀{l:List (Nat × Option α)},lk none l t=some i→∃p∈l,p.1=t∧p.2=some i
 | [],h=>by cases h
 | (k,x)::l,h=>by
   unfold lk at h
   cases hb:Nat.beq k t<;>rw [hb] at h
   ·obtain⟨p,h1,h2⟩:=NG h;exact⟨p,List.mem_cons_of_mem _ h1,h2⟩
   ·exact⟨_,List.mem_cons_self,Nat.eq_of_beq_eq_true hb,h⟩
theorem hT:T.ok Tryz.prog:=by
 intro t i h
 obtain⟨p,h1,h2,h3⟩:=NG (show lk none YX t=some i from h)
 subst h2
 exact adE p h1 i h3
end Go.Proofs.YtcnfgfomholheaaGreatDoor.Q
