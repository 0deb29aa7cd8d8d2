/- The path calculus: this seat's types: elements, their cells, sizes and zero values. Printed by a program of this work (tab.py). -/
import Derived.Test.YtcnfgfomholheaaGreatDoorZc
import Derived.Test.YtcnfgfomholheaaGreatDoorProg
import Derived.Test.YtcnfgfomholheaaGreatDoorX1
namespace Go.Proofs.YtcnfgfomholheaaGreatDoor.Q
open Go.Proofs.YtcnfgfomholheaaGreatDoor.Z
set_option linter.unusedVariables false
structure S41 where
  f0 : ByteArray
  f1 : Int
  f2 : Int
def z41 : S41 := ⟨(⟨#[]⟩ : ByteArray), 0, 0⟩
structure S26 where
  f0 : List ByteArray
  f1 : List S26
  f2 : List S41
def z26 : S26 := ⟨[], [], []⟩
structure S186 where
  f0 : ByteArray
  f1 : List Int
  f2 : Int
def z186 : S186 := ⟨(⟨#[]⟩ : ByteArray), [], 0⟩
structure S142 where
  f0 : ByteArray
  f1 : Int
def z142 : S142 := ⟨(⟨#[]⟩ : ByteArray), 0⟩
structure S44 where
  f0 : ByteArray
  f1 : Int
  f2 : Int
def z44 : S44 := ⟨(⟨#[]⟩ : ByteArray), 0, 0⟩
structure S31 where
  f0 : List ByteArray
  f1 : List S31
  f2 : List S44
def z31 : S31 := ⟨[], [], []⟩
structure S121 where
  f0 : ByteArray
  f1 : List Int
  f2 : Int
def z121 : S121 := ⟨(⟨#[]⟩ : ByteArray), [], 0⟩
structure S113 where
  f0 : ByteArray
  f1 : Int
def z113 : S113 := ⟨(⟨#[]⟩ : ByteArray), 0⟩
structure S96 where
  f0 : ByteArray
  f1 : ByteArray
  f2 : Int
  f3 : Int
def z96 : S96 := ⟨(⟨#[]⟩ : ByteArray), (⟨#[]⟩ : ByteArray), 0, 0⟩
def Tb (e : Nat) : Type := match e with
  | 3 => Int
  | 5 => Int
  | 9 => ByteArray
  | 41 => S41
  | 26 => S26
  | 186 => S186
  | 142 => S142
  | 44 => S44
  | 31 => S31
  | 121 => S121
  | 113 => S113
  | 96 => S96
  | 199 => Int
  | _ => Unit
def dflx (e : Nat) : Tb e := by
  unfold Tb
  split
  · exact (0 : Int)
  · exact (0 : Int)
  · exact (ByteArray.empty : ByteArray)
  · exact (z41 : S41)
  · exact (z26 : S26)
  · exact (z186 : S186)
  · exact (z142 : S142)
  · exact (z44 : S44)
  · exact (z31 : S31)
  · exact (z121 : S121)
  · exact (z113 : S113)
  · exact (z96 : S96)
  · exact (0 : Int)
  · exact ()
def dfl (e : Nat) : Tb e := match e with
  | 3 => (0 : Int)
  | 5 => (0 : Int)
  | 9 => (ByteArray.empty : ByteArray)
  | 41 => (z41 : S41)
  | 26 => (z26 : S26)
  | 186 => (z186 : S186)
  | 142 => (z142 : S142)
  | 44 => (z44 : S44)
  | 31 => (z31 : S31)
  | 121 => (z121 : S121)
  | 113 => (z113 : S113)
  | 96 => (z96 : S96)
  | 199 => (0 : Int)
  | e => dflx e
def enc3 (x : Int) : List V := [.sc (.int .i64 x)]
def enc5 (x : Int) : List V := [.sc (.int .u8 x)]
def enc9 (x : ByteArray) : List V := [.sc (.string x)]
def enc41 (x : S41) : List V := [.sc (.string x.f0), .sc (.int .i64 x.f1), .sc (.int .i64 x.f2)]
def enc26 : S26 → List V
  | ⟨a0, a1, a2⟩ => [.sl 9 (a0.map enc9), .sl 26 (a1.map enc26), .sl 41 (a2.map enc41)]
theorem enc26_eq (x : S26) : enc26 x = [.sl 9 (x.f0.map enc9), .sl 26 (x.f1.map enc26), .sl 41 (x.f2.map enc41)] := by cases x; simp only [enc26]
def enc186 (x : S186) : List V := [.sc (.string x.f0), .sl 5 (x.f1.map enc5), .sc (.int .i64 x.f2)]
def enc142 (x : S142) : List V := [.sc (.string x.f0), .sc (.int .i64 x.f1)]
def enc44 (x : S44) : List V := [.sc (.string x.f0), .sc (.int .i64 x.f1), .sc (.int .i64 x.f2)]
def enc31 : S31 → List V
  | ⟨a0, a1, a2⟩ => [.sl 9 (a0.map enc9), .sl 31 (a1.map enc31), .sl 44 (a2.map enc44)]
theorem enc31_eq (x : S31) : enc31 x = [.sl 9 (x.f0.map enc9), .sl 31 (x.f1.map enc31), .sl 44 (x.f2.map enc44)] := by cases x; simp only [enc31]
def enc121 (x : S121) : List V := [.sc (.string x.f0), .sl 5 (x.f1.map enc5), .sc (.int .i64 x.f2)]
def enc113 (x : S113) : List V := [.sc (.string x.f0), .sc (.int .i64 x.f1)]
def enc96 (x : S96) : List V := [.sc (.string x.f0), .sc (.string x.f1), .sc (.int .i64 x.f2), .sc (.int .i64 x.f3)]
def enc199 (x : Int) : List V := [.sc (.int .u64 x)]
def cellsT (e : Nat) (x : Tb e) : List (C0 Tb) := match e, x with
  | 3, (x : Int) => [.sc (.int .i64 x)]
  | 5, (x : Int) => [.sc (.int .u8 x)]
  | 9, (x : ByteArray) => [.sc (.string x)]
  | 41, (x : S41) => [.sc (.string x.f0), .sc (.int .i64 x.f1), .sc (.int .i64 x.f2)]
  | 26, (x : S26) => [.sl 9 x.f0, .sl 26 x.f1, .sl 41 x.f2]
  | 186, (x : S186) => [.sc (.string x.f0), .sl 5 x.f1, .sc (.int .i64 x.f2)]
  | 142, (x : S142) => [.sc (.string x.f0), .sc (.int .i64 x.f1)]
  | 44, (x : S44) => [.sc (.string x.f0), .sc (.int .i64 x.f1), .sc (.int .i64 x.f2)]
  | 31, (x : S31) => [.sl 9 x.f0, .sl 31 x.f1, .sl 44 x.f2]
  | 121, (x : S121) => [.sc (.string x.f0), .sl 5 x.f1, .sc (.int .i64 x.f2)]
  | 113, (x : S113) => [.sc (.string x.f0), .sc (.int .i64 x.f1)]
  | 96, (x : S96) => [.sc (.string x.f0), .sc (.string x.f1), .sc (.int .i64 x.f2), .sc (.int .i64 x.f3)]
  | 199, (x : Int) => [.sc (.int .u64 x)]
  | _, _ => []
def encT (e : Nat) (x : Tb e) : List V := match e, x with
  | 3, (x : Int) => enc3 x
  | 5, (x : Int) => enc5 x
  | 9, (x : ByteArray) => enc9 x
  | 41, (x : S41) => enc41 x
  | 26, (x : S26) => enc26 x
  | 186, (x : S186) => enc186 x
  | 142, (x : S142) => enc142 x
  | 44, (x : S44) => enc44 x
  | 31, (x : S31) => enc31 x
  | 121, (x : S121) => enc121 x
  | 113, (x : S113) => enc113 x
  | 96, (x : S96) => enc96 x
  | 199, (x : Int) => enc199 x
  | _, _ => []
def mkT0 (e : Nat) (cs : List (C0 Tb)) : Option (Tb e) := match e, cs with
  | 3, [.sc (.int .i64 x)] => some x
  | 5, [.sc (.int .u8 x)] => some x
  | 9, [.sc (.string x)] => some x
  | 41, [.sc (.string a0), .sc (.int .i64 a1), .sc (.int .i64 a2)] => some (⟨a0, a1, a2⟩ : S41)
  | 26, [.sl 9 a0, .sl 26 a1, .sl 41 a2] => some (⟨a0, a1, a2⟩ : S26)
  | 186, [.sc (.string a0), .sl 5 a1, .sc (.int .i64 a2)] => some (⟨a0, a1, a2⟩ : S186)
  | 142, [.sc (.string a0), .sc (.int .i64 a1)] => some (⟨a0, a1⟩ : S142)
  | 44, [.sc (.string a0), .sc (.int .i64 a1), .sc (.int .i64 a2)] => some (⟨a0, a1, a2⟩ : S44)
  | 31, [.sl 9 a0, .sl 31 a1, .sl 44 a2] => some (⟨a0, a1, a2⟩ : S31)
  | 121, [.sc (.string a0), .sl 5 a1, .sc (.int .i64 a2)] => some (⟨a0, a1, a2⟩ : S121)
  | 113, [.sc (.string a0), .sc (.int .i64 a1)] => some (⟨a0, a1⟩ : S113)
  | 96, [.sc (.string a0), .sc (.string a1), .sc (.int .i64 a2), .sc (.int .i64 a3)] => some (⟨a0, a1, a2, a3⟩ : S96)
  | 199, [.sc (.int .u64 x)] => some x
  | _, _ => none
theorem mkT0_eq (e : Nat) (cs : List (C0 Tb)) (x : Tb e) (h : mkT0 e cs = some x) : cellsT e x = cs := by
  unfold mkT0 at h
  split at h <;> first | (cases h; rfl) | cases h
abbrev mkT (e : Nat) (cs : List (C0 Tb)) : Option (Tb e) := mkT0 e cs
theorem mkT_eq (e : Nat) (cs : List (C0 Tb)) (x : Tb e) (h : mkT e cs = some x) : cellsT e x = cs := mkT0_eq e cs x h
def elT (e : Nat) : Bool := match e with
  | 3 => true
  | 5 => true
  | 9 => true
  | 41 => true
  | 26 => true
  | 186 => true
  | 142 => true
  | 44 => true
  | 31 => true
  | 121 => true
  | 113 => true
  | 96 => true
  | 199 => true
  | _ => false
def tiL : List (Nat × Option TI) := [(2, some ⟨1, 8, [.int .i64 0], .num .i64⟩),
  (3, some ⟨1, 8, [.int .i64 0], .num .i64⟩),
  (4, some ⟨1, 1, [.bool false], .one⟩),
  (5, some ⟨1, 1, [.int .u8 0], .num .u8⟩),
  (9, some ⟨1, 16, [.string ⟨#[]⟩], .text⟩),
  (21, some ⟨1, 4, [.int .i32 0], .num .i32⟩),
  (22, some ⟨1, 24, [.slice none 0 0], .slice 9⟩),
  (23, some ⟨1, 24, [.slice none 0 0], .slice 26⟩),
  (24, some ⟨1, 24, [.slice none 0 0], .slice 41⟩),
  (26, some ⟨3, 72, [.slice none 0 0, .slice none 0 0, .slice none 0 0], .str [(0, 1), (1, 1), (2, 1)]⟩),
  (28, some ⟨1, 24, [.slice none 0 0], .slice 31⟩),
  (29, some ⟨1, 24, [.slice none 0 0], .slice 44⟩),
  (31, some ⟨3, 72, [.slice none 0 0, .slice none 0 0, .slice none 0 0], .str [(0, 1), (1, 1), (2, 1)]⟩),
  (41, some ⟨3, 32, [.string ⟨#[]⟩, .int .i64 0, .int .i64 0], .str [(0, 1), (1, 1), (2, 1)]⟩),
  (44, some ⟨3, 32, [.string ⟨#[]⟩, .int .i64 0, .int .i64 0], .str [(0, 1), (1, 1), (2, 1)]⟩),
  (50, some ⟨1, 24, [.slice none 0 0], .slice 186⟩),
  (52, some ⟨5, 104, [.int .i64 0, .slice none 0 0, .slice none 0 0, .slice none 0 0, .slice none 0 0], .str [(0, 1), (1, 3), (4, 1)]⟩),
  (54, some ⟨1, 24, [.slice none 0 0], .slice 121⟩),
  (56, some ⟨5, 104, [.int .i64 0, .slice none 0 0, .slice none 0 0, .slice none 0 0, .slice none 0 0], .str [(0, 1), (1, 3), (4, 1)]⟩),
  (68, some ⟨1, 24, [.slice none 0 0], .slice 5⟩),
  (74, some ⟨1, 24, [.slice none 0 0], .slice 142⟩),
  (76, some ⟨1, 24, [.slice none 0 0], .slice 3⟩),
  (79, some ⟨1, 24, [.slice none 0 0], .slice 113⟩),
  (93, some ⟨1, 24, [.slice none 0 0], .slice 96⟩),
  (96, some ⟨4, 48, [.string ⟨#[]⟩, .string ⟨#[]⟩, .int .i64 0, .int .i64 0], .str [(0, 1), (1, 1), (2, 1), (3, 1)]⟩),
  (113, some ⟨2, 24, [.string ⟨#[]⟩, .int .i64 0], .str [(0, 1), (1, 1)]⟩),
  (121, some ⟨3, 48, [.string ⟨#[]⟩, .slice none 0 0, .int .i64 0], .str [(0, 1), (1, 1), (2, 1)]⟩),
  (142, some ⟨2, 24, [.string ⟨#[]⟩, .int .i64 0], .str [(0, 1), (1, 1)]⟩),
  (186, some ⟨3, 48, [.string ⟨#[]⟩, .slice none 0 0, .int .i64 0], .str [(0, 1), (1, 1), (2, 1)]⟩),
  (189, some ⟨3, 40, [.slice none 0 0, .int .i64 0, .int .i64 0], .str [(0, 1), (1, 1), (2, 1)]⟩),
  (199, some ⟨1, 8, [.int .u64 0], .num .u64⟩)]
def tiT (t : Nat) : Option TI := lk none tiL t
theorem ty2 : TyOk Tryz.prog 2 ⟨1, 8, [.int .i64 0], .num .i64⟩ := ty_num (by kernel_rfl) (by kernel_rfl) rfl (by decide)
theorem ty3 : TyOk Tryz.prog 3 ⟨1, 8, [.int .i64 0], .num .i64⟩ := ty_num (by kernel_rfl) (by kernel_rfl) rfl (by decide)
theorem ty4 : TyOk Tryz.prog 4 ⟨1, 1, [.bool false], .one⟩ := ty_one (by kernel_rfl) (by kernel_rfl) rfl (by decide)
theorem ty5 : TyOk Tryz.prog 5 ⟨1, 1, [.int .u8 0], .num .u8⟩ := ty_num (by kernel_rfl) (by kernel_rfl) rfl (by decide)
theorem ty9 : TyOk Tryz.prog 9 ⟨1, 16, [.string ⟨#[]⟩], .text⟩ := ty_text (by kernel_rfl) (by kernel_rfl) rfl (by decide)
theorem ty21 : TyOk Tryz.prog 21 ⟨1, 4, [.int .i32 0], .num .i32⟩ := ty_num (by kernel_rfl) (by kernel_rfl) rfl (by decide)
theorem ty22 : TyOk Tryz.prog 22 ⟨1, 24, [.slice none 0 0], .slice 9⟩ := ty_slice (by kernel_rfl) (by kernel_rfl) rfl (by decide)
theorem ty23 : TyOk Tryz.prog 23 ⟨1, 24, [.slice none 0 0], .slice 26⟩ := ty_slice (by kernel_rfl) (by kernel_rfl) rfl (by decide)
theorem ty24 : TyOk Tryz.prog 24 ⟨1, 24, [.slice none 0 0], .slice 41⟩ := ty_slice (by kernel_rfl) (by kernel_rfl) rfl (by decide)
theorem ty26 : TyOk Tryz.prog 26 ⟨3, 72, [.slice none 0 0, .slice none 0 0, .slice none 0 0], .str [(0, 1), (1, 1), (2, 1)]⟩ := ty_str (by kernel_rfl) (by kernel_rfl) rfl (by decide) (by decide) (by kernel_rfl)
theorem ty28 : TyOk Tryz.prog 28 ⟨1, 24, [.slice none 0 0], .slice 31⟩ := ty_slice (by kernel_rfl) (by kernel_rfl) rfl (by decide)
theorem ty29 : TyOk Tryz.prog 29 ⟨1, 24, [.slice none 0 0], .slice 44⟩ := ty_slice (by kernel_rfl) (by kernel_rfl) rfl (by decide)
theorem ty31 : TyOk Tryz.prog 31 ⟨3, 72, [.slice none 0 0, .slice none 0 0, .slice none 0 0], .str [(0, 1), (1, 1), (2, 1)]⟩ := ty_str (by kernel_rfl) (by kernel_rfl) rfl (by decide) (by decide) (by kernel_rfl)
theorem ty41 : TyOk Tryz.prog 41 ⟨3, 32, [.string ⟨#[]⟩, .int .i64 0, .int .i64 0], .str [(0, 1), (1, 1), (2, 1)]⟩ := ty_str (by kernel_rfl) (by kernel_rfl) rfl (by decide) (by decide) (by kernel_rfl)
theorem ty44 : TyOk Tryz.prog 44 ⟨3, 32, [.string ⟨#[]⟩, .int .i64 0, .int .i64 0], .str [(0, 1), (1, 1), (2, 1)]⟩ := ty_str (by kernel_rfl) (by kernel_rfl) rfl (by decide) (by decide) (by kernel_rfl)
theorem ty50 : TyOk Tryz.prog 50 ⟨1, 24, [.slice none 0 0], .slice 186⟩ := ty_slice (by kernel_rfl) (by kernel_rfl) rfl (by decide)
theorem ty52 : TyOk Tryz.prog 52 ⟨5, 104, [.int .i64 0, .slice none 0 0, .slice none 0 0, .slice none 0 0, .slice none 0 0], .str [(0, 1), (1, 3), (4, 1)]⟩ := ty_str (by kernel_rfl) (by kernel_rfl) rfl (by decide) (by decide) (by kernel_rfl)
theorem ty54 : TyOk Tryz.prog 54 ⟨1, 24, [.slice none 0 0], .slice 121⟩ := ty_slice (by kernel_rfl) (by kernel_rfl) rfl (by decide)
theorem ty56 : TyOk Tryz.prog 56 ⟨5, 104, [.int .i64 0, .slice none 0 0, .slice none 0 0, .slice none 0 0, .slice none 0 0], .str [(0, 1), (1, 3), (4, 1)]⟩ := ty_str (by kernel_rfl) (by kernel_rfl) rfl (by decide) (by decide) (by kernel_rfl)
theorem ty68 : TyOk Tryz.prog 68 ⟨1, 24, [.slice none 0 0], .slice 5⟩ := ty_slice (by kernel_rfl) (by kernel_rfl) rfl (by decide)
theorem ty74 : TyOk Tryz.prog 74 ⟨1, 24, [.slice none 0 0], .slice 142⟩ := ty_slice (by kernel_rfl) (by kernel_rfl) rfl (by decide)
theorem ty76 : TyOk Tryz.prog 76 ⟨1, 24, [.slice none 0 0], .slice 3⟩ := ty_slice (by kernel_rfl) (by kernel_rfl) rfl (by decide)
theorem ty79 : TyOk Tryz.prog 79 ⟨1, 24, [.slice none 0 0], .slice 113⟩ := ty_slice (by kernel_rfl) (by kernel_rfl) rfl (by decide)
theorem ty93 : TyOk Tryz.prog 93 ⟨1, 24, [.slice none 0 0], .slice 96⟩ := ty_slice (by kernel_rfl) (by kernel_rfl) rfl (by decide)
theorem ty96 : TyOk Tryz.prog 96 ⟨4, 48, [.string ⟨#[]⟩, .string ⟨#[]⟩, .int .i64 0, .int .i64 0], .str [(0, 1), (1, 1), (2, 1), (3, 1)]⟩ := ty_str (by kernel_rfl) (by kernel_rfl) rfl (by decide) (by decide) (by kernel_rfl)
theorem ty113 : TyOk Tryz.prog 113 ⟨2, 24, [.string ⟨#[]⟩, .int .i64 0], .str [(0, 1), (1, 1)]⟩ := ty_str (by kernel_rfl) (by kernel_rfl) rfl (by decide) (by decide) (by kernel_rfl)
theorem ty121 : TyOk Tryz.prog 121 ⟨3, 48, [.string ⟨#[]⟩, .slice none 0 0, .int .i64 0], .str [(0, 1), (1, 1), (2, 1)]⟩ := ty_str (by kernel_rfl) (by kernel_rfl) rfl (by decide) (by decide) (by kernel_rfl)
theorem ty142 : TyOk Tryz.prog 142 ⟨2, 24, [.string ⟨#[]⟩, .int .i64 0], .str [(0, 1), (1, 1)]⟩ := ty_str (by kernel_rfl) (by kernel_rfl) rfl (by decide) (by decide) (by kernel_rfl)
theorem ty186 : TyOk Tryz.prog 186 ⟨3, 48, [.string ⟨#[]⟩, .slice none 0 0, .int .i64 0], .str [(0, 1), (1, 1), (2, 1)]⟩ := ty_str (by kernel_rfl) (by kernel_rfl) rfl (by decide) (by decide) (by kernel_rfl)
theorem ty189 : TyOk Tryz.prog 189 ⟨3, 40, [.slice none 0 0, .int .i64 0, .int .i64 0], .str [(0, 1), (1, 1), (2, 1)]⟩ := ty_str (by kernel_rfl) (by kernel_rfl) rfl (by decide) (by decide) (by kernel_rfl)
theorem ty199 : TyOk Tryz.prog 199 ⟨1, 8, [.int .u64 0], .num .u64⟩ := ty_num (by kernel_rfl) (by kernel_rfl) rfl (by decide)
def T : Tys where
  J := Go.Proofs.YtcnfgfomholheaaGreatDoor.X.Tabs
  jk := fun b h => Go.Proofs.YtcnfgfomholheaaGreatDoor.X.Tabs.below h b
  Tb := Tb
  df := dfl
  cells := cellsT
  mkE := mkT
  enc := encT
  el := elT
  ti := tiT
  enc_eq := by
    intro e x
    unfold encT cellsT
    split
    · exact ((rfl : enc3 _ = _)).trans rfl
    · exact ((rfl : enc5 _ = _)).trans rfl
    · exact ((rfl : enc9 _ = _)).trans rfl
    · exact ((rfl : enc41 _ = _)).trans rfl
    · exact (enc26_eq _).trans rfl
    · exact ((rfl : enc186 _ = _)).trans rfl
    · exact ((rfl : enc142 _ = _)).trans rfl
    · exact ((rfl : enc44 _ = _)).trans rfl
    · exact (enc31_eq _).trans rfl
    · exact ((rfl : enc121 _ = _)).trans rfl
    · exact ((rfl : enc113 _ = _)).trans rfl
    · exact ((rfl : enc96 _ = _)).trans rfl
    · exact ((rfl : enc199 _ = _)).trans rfl
    · rfl
  mk_eq := mkT_eq
  one := by
    intro e x c h
    unfold cellsT at h
    split at h <;> simp only [List.mem_cons, List.not_mem_nil, or_false] at h <;> first | (rcases h with rfl | rfl | rfl | rfl <;> rfl) | (subst h; rfl) | cases h
  len := by
    intro e x i he h
    unfold elT at he
    split at he
    · exact congrArg TI.size (Option.some.inj (show some _ = some i from h))
    · exact congrArg TI.size (Option.some.inj (show some _ = some i from h))
    · exact congrArg TI.size (Option.some.inj (show some _ = some i from h))
    · exact congrArg TI.size (Option.some.inj (show some _ = some i from h))
    · exact congrArg TI.size (Option.some.inj (show some _ = some i from h))
    · exact congrArg TI.size (Option.some.inj (show some _ = some i from h))
    · exact congrArg TI.size (Option.some.inj (show some _ = some i from h))
    · exact congrArg TI.size (Option.some.inj (show some _ = some i from h))
    · exact congrArg TI.size (Option.some.inj (show some _ = some i from h))
    · exact congrArg TI.size (Option.some.inj (show some _ = some i from h))
    · exact congrArg TI.size (Option.some.inj (show some _ = some i from h))
    · exact congrArg TI.size (Option.some.inj (show some _ = some i from h))
    · exact congrArg TI.size (Option.some.inj (show some _ = some i from h))
    · cases he
theorem tiOk : ∀ p ∈ tiL, ∀ i, p.2 = some i → TyOk Tryz.prog p.1 i := by
  intro p hp
  simp only [tiL, List.mem_cons, List.not_mem_nil, or_false] at hp
  rcases hp with rfl | rfl | rfl | rfl | rfl | rfl | rfl | rfl | rfl | rfl | rfl | rfl | rfl | rfl | rfl | rfl | rfl | rfl | rfl | rfl | rfl | rfl | rfl | rfl | rfl | rfl | rfl | rfl | rfl | rfl | rfl
  · intro i h; cases h; exact ty2
  · intro i h; cases h; exact ty3
  · intro i h; cases h; exact ty4
  · intro i h; cases h; exact ty5
  · intro i h; cases h; exact ty9
  · intro i h; cases h; exact ty21
  · intro i h; cases h; exact ty22
  · intro i h; cases h; exact ty23
  · intro i h; cases h; exact ty24
  · intro i h; cases h; exact ty26
  · intro i h; cases h; exact ty28
  · intro i h; cases h; exact ty29
  · intro i h; cases h; exact ty31
  · intro i h; cases h; exact ty41
  · intro i h; cases h; exact ty44
  · intro i h; cases h; exact ty50
  · intro i h; cases h; exact ty52
  · intro i h; cases h; exact ty54
  · intro i h; cases h; exact ty56
  · intro i h; cases h; exact ty68
  · intro i h; cases h; exact ty74
  · intro i h; cases h; exact ty76
  · intro i h; cases h; exact ty79
  · intro i h; cases h; exact ty93
  · intro i h; cases h; exact ty96
  · intro i h; cases h; exact ty113
  · intro i h; cases h; exact ty121
  · intro i h; cases h; exact ty142
  · intro i h; cases h; exact ty186
  · intro i h; cases h; exact ty189
  · intro i h; cases h; exact ty199
theorem look_mem {α : Type} {t : Nat} {i : α} : ∀ {l : List (Nat × Option α)}, lk none l t = some i → ∃ p ∈ l, p.1 = t ∧ p.2 = some i
  | [], h => by cases h
  | (k, x) :: l, h => by
    unfold lk at h
    cases hb : Nat.beq k t <;> rw [hb] at h
    · obtain ⟨p, h1, h2⟩ := look_mem h; exact ⟨p, List.mem_cons_of_mem _ h1, h2⟩
    · exact ⟨_, List.mem_cons_self, Nat.eq_of_beq_eq_true hb, h⟩
theorem hT : T.ok Tryz.prog := by
  intro t i h
  obtain ⟨p, h1, h2, h3⟩ := look_mem (show lk none tiL t = some i from h)
  subst h2
  exact tiOk p h1 i h3
end Go.Proofs.YtcnfgfomholheaaGreatDoor.Q
