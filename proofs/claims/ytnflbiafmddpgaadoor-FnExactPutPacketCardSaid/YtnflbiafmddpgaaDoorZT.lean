/- The path calculus: this seat's types: elements, their cells, sizes and zero values. Printed by a program of this work (tab.py). -/
import Derived.Test.YtnflbiafmddpgaaDoorZc
import Derived.Test.YtnflbiafmddpgaaDoorProg
import Derived.Test.YtnflbiafmddpgaaDoorX1
namespace Go.Proofs.YtnflbiafmddpgaaDoor.Q
open Go.Proofs.YtnflbiafmddpgaaDoor.Z
set_option linter.unusedVariables false
structure S60 where
  f0 : ByteArray
  f1 : Int
def z60 : S60 := ⟨(⟨#[]⟩ : ByteArray), 0⟩
structure S79 where
  f0 : ByteArray
  f1 : Int
def z79 : S79 := ⟨(⟨#[]⟩ : ByteArray), 0⟩
structure S27 where
  f0 : Int
  f1 : Bool
  f2 : Int
  f3 : Bool
  f4 : Int
  f5 : ByteArray
  f6 : List Int
  f7 : ByteArray
  f8 : Int
  f9 : Bool
  f10 : Int
  f11 : Bool
  f12 : ByteArray
  f13 : List Int
  f14 : Int
  f15 : Bool
  f16 : Bool
  f17 : ByteArray
  f18 : Bool
  f19 : List Int
  f20 : Int
  f21 : Bool
  f22 : List S60
  f23 : List ByteArray
  f24 : List Int
def z27 : S27 := ⟨0, false, 0, false, 0, (⟨#[]⟩ : ByteArray), [], (⟨#[]⟩ : ByteArray), 0, false, 0, false, (⟨#[]⟩ : ByteArray), [], 0, false, false, (⟨#[]⟩ : ByteArray), false, [], 0, false, [], [], []⟩
structure S34 where
  f0 : Int
  f1 : Bool
  f2 : Int
  f3 : Bool
  f4 : Int
  f5 : ByteArray
  f6 : List Int
  f7 : ByteArray
  f8 : Int
  f9 : Bool
  f10 : Int
  f11 : Bool
  f12 : ByteArray
  f13 : List Int
  f14 : Int
  f15 : Bool
  f16 : Bool
  f17 : ByteArray
  f18 : Bool
  f19 : List Int
  f20 : Int
  f21 : Bool
  f22 : List S79
  f23 : List ByteArray
  f24 : List Int
def z34 : S34 := ⟨0, false, 0, false, 0, (⟨#[]⟩ : ByteArray), [], (⟨#[]⟩ : ByteArray), 0, false, 0, false, (⟨#[]⟩ : ByteArray), [], 0, false, false, (⟨#[]⟩ : ByteArray), false, [], 0, false, [], [], []⟩
def Tb (e : Nat) : Type := match e with
  | 3 => Int
  | 5 => Int
  | 9 => ByteArray
  | 60 => S60
  | 79 => S79
  | 22 => List Int
  | 27 => S27
  | 34 => S34
  | _ => Unit
def dflx (e : Nat) : Tb e := by
  unfold Tb
  split
  · exact (0 : Int)
  · exact (0 : Int)
  · exact (ByteArray.empty : ByteArray)
  · exact (z60 : S60)
  · exact (z79 : S79)
  · exact ([] : List Int)
  · exact (z27 : S27)
  · exact (z34 : S34)
  · exact ()
def dfl (e : Nat) : Tb e := match e with
  | 3 => (0 : Int)
  | 5 => (0 : Int)
  | 9 => (ByteArray.empty : ByteArray)
  | 60 => (z60 : S60)
  | 79 => (z79 : S79)
  | 22 => ([] : List Int)
  | 27 => (z27 : S27)
  | 34 => (z34 : S34)
  | e => dflx e
def enc3 (x : Int) : List V := [.sc (.int .i64 x)]
def enc5 (x : Int) : List V := [.sc (.int .u8 x)]
def enc9 (x : ByteArray) : List V := [.sc (.string x)]
def enc60 (x : S60) : List V := [.sc (.string x.f0), .sc (.int .i64 x.f1)]
def enc79 (x : S79) : List V := [.sc (.string x.f0), .sc (.int .i64 x.f1)]
def enc22 (x : List Int) : List V := [.sl 5 (x.map enc5)]
def enc27 (x : S27) : List V := [.sc (.int .i64 x.f0), .sc (.bool x.f1), .sc (.int .i64 x.f2), .sc (.bool x.f3), .sc (.int .i64 x.f4), .sc (.string x.f5), .sl 5 (x.f6.map enc5), .sc (.string x.f7), .sc (.int .i64 x.f8), .sc (.bool x.f9), .sc (.int .i64 x.f10), .sc (.bool x.f11), .sc (.string x.f12), .sl 5 (x.f13.map enc5), .sc (.int .i64 x.f14), .sc (.bool x.f15), .sc (.bool x.f16), .sc (.string x.f17), .sc (.bool x.f18), .sl 5 (x.f19.map enc5), .sc (.int .i64 x.f20), .sc (.bool x.f21), .sl 60 (x.f22.map enc60), .sl 9 (x.f23.map enc9), .sl 3 (x.f24.map enc3)]
def enc34 (x : S34) : List V := [.sc (.int .i64 x.f0), .sc (.bool x.f1), .sc (.int .i64 x.f2), .sc (.bool x.f3), .sc (.int .i64 x.f4), .sc (.string x.f5), .sl 5 (x.f6.map enc5), .sc (.string x.f7), .sc (.int .i64 x.f8), .sc (.bool x.f9), .sc (.int .i64 x.f10), .sc (.bool x.f11), .sc (.string x.f12), .sl 5 (x.f13.map enc5), .sc (.int .i64 x.f14), .sc (.bool x.f15), .sc (.bool x.f16), .sc (.string x.f17), .sc (.bool x.f18), .sl 5 (x.f19.map enc5), .sc (.int .i64 x.f20), .sc (.bool x.f21), .sl 79 (x.f22.map enc79), .sl 9 (x.f23.map enc9), .sl 3 (x.f24.map enc3)]
def cellsT (e : Nat) (x : Tb e) : List (C0 Tb) := match e, x with
  | 3, (x : Int) => [.sc (.int .i64 x)]
  | 5, (x : Int) => [.sc (.int .u8 x)]
  | 9, (x : ByteArray) => [.sc (.string x)]
  | 60, (x : S60) => [.sc (.string x.f0), .sc (.int .i64 x.f1)]
  | 79, (x : S79) => [.sc (.string x.f0), .sc (.int .i64 x.f1)]
  | 22, (x : List Int) => [.sl 5 x]
  | 27, (x : S27) => [.sc (.int .i64 x.f0), .sc (.bool x.f1), .sc (.int .i64 x.f2), .sc (.bool x.f3), .sc (.int .i64 x.f4), .sc (.string x.f5), .sl 5 x.f6, .sc (.string x.f7), .sc (.int .i64 x.f8), .sc (.bool x.f9), .sc (.int .i64 x.f10), .sc (.bool x.f11), .sc (.string x.f12), .sl 5 x.f13, .sc (.int .i64 x.f14), .sc (.bool x.f15), .sc (.bool x.f16), .sc (.string x.f17), .sc (.bool x.f18), .sl 5 x.f19, .sc (.int .i64 x.f20), .sc (.bool x.f21), .sl 60 x.f22, .sl 9 x.f23, .sl 3 x.f24]
  | 34, (x : S34) => [.sc (.int .i64 x.f0), .sc (.bool x.f1), .sc (.int .i64 x.f2), .sc (.bool x.f3), .sc (.int .i64 x.f4), .sc (.string x.f5), .sl 5 x.f6, .sc (.string x.f7), .sc (.int .i64 x.f8), .sc (.bool x.f9), .sc (.int .i64 x.f10), .sc (.bool x.f11), .sc (.string x.f12), .sl 5 x.f13, .sc (.int .i64 x.f14), .sc (.bool x.f15), .sc (.bool x.f16), .sc (.string x.f17), .sc (.bool x.f18), .sl 5 x.f19, .sc (.int .i64 x.f20), .sc (.bool x.f21), .sl 79 x.f22, .sl 9 x.f23, .sl 3 x.f24]
  | _, _ => []
def encT (e : Nat) (x : Tb e) : List V := match e, x with
  | 3, (x : Int) => enc3 x
  | 5, (x : Int) => enc5 x
  | 9, (x : ByteArray) => enc9 x
  | 60, (x : S60) => enc60 x
  | 79, (x : S79) => enc79 x
  | 22, (x : List Int) => enc22 x
  | 27, (x : S27) => enc27 x
  | 34, (x : S34) => enc34 x
  | _, _ => []
def mkT (e : Nat) (cs : List (C0 Tb)) : Option (Tb e) := match e, cs with
  | 3, [.sc (.int .i64 x)] => some x
  | 5, [.sc (.int .u8 x)] => some x
  | 9, [.sc (.string x)] => some x
  | 60, [.sc (.string a0), .sc (.int .i64 a1)] => some (⟨a0, a1⟩ : S60)
  | 79, [.sc (.string a0), .sc (.int .i64 a1)] => some (⟨a0, a1⟩ : S79)
  | 22, [.sl 5 x] => some x
  | _, _ => none
def elT (e : Nat) : Bool := match e with
  | 3 => true
  | 5 => true
  | 9 => true
  | 60 => true
  | 79 => true
  | 22 => true
  | _ => false
def tiL : List (Nat × Option TI) := [(2, some ⟨1, 8, [.int .i64 0], .num .i64⟩),
  (3, some ⟨1, 8, [.int .i64 0], .num .i64⟩),
  (4, some ⟨1, 1, [.bool false], .one⟩),
  (5, some ⟨1, 1, [.int .u8 0], .num .u8⟩),
  (9, some ⟨1, 16, [.string ⟨#[]⟩], .text⟩),
  (21, some ⟨1, 4, [.int .i32 0], .num .i32⟩),
  (22, some ⟨1, 24, [.slice none 0 0], .slice 5⟩),
  (23, some ⟨1, 24, [.slice none 0 0], .slice 60⟩),
  (24, some ⟨1, 24, [.slice none 0 0], .slice 9⟩),
  (25, some ⟨1, 24, [.slice none 0 0], .slice 3⟩),
  (27, some ⟨25, 320, [.int .i64 0, .bool false, .int .i64 0, .bool false, .int .i64 0, .string ⟨#[]⟩, .slice none 0 0, .string ⟨#[]⟩, .int .i64 0, .bool false, .int .i64 0, .bool false, .string ⟨#[]⟩, .slice none 0 0, .int .i64 0, .bool false, .bool false, .string ⟨#[]⟩, .bool false, .slice none 0 0, .int .i64 0, .bool false, .slice none 0 0, .slice none 0 0, .slice none 0 0], .str [(0, 1), (1, 1), (2, 1), (3, 1), (4, 1), (5, 1), (6, 1), (7, 1), (8, 1), (9, 1), (10, 1), (11, 1), (12, 1), (13, 1), (14, 1), (15, 1), (16, 1), (17, 1), (18, 1), (19, 1), (20, 1), (21, 1), (22, 1), (23, 1), (24, 1)]⟩),
  (32, some ⟨1, 24, [.slice none 0 0], .slice 79⟩),
  (34, some ⟨25, 320, [.int .i64 0, .bool false, .int .i64 0, .bool false, .int .i64 0, .string ⟨#[]⟩, .slice none 0 0, .string ⟨#[]⟩, .int .i64 0, .bool false, .int .i64 0, .bool false, .string ⟨#[]⟩, .slice none 0 0, .int .i64 0, .bool false, .bool false, .string ⟨#[]⟩, .bool false, .slice none 0 0, .int .i64 0, .bool false, .slice none 0 0, .slice none 0 0, .slice none 0 0], .str [(0, 1), (1, 1), (2, 1), (3, 1), (4, 1), (5, 1), (6, 1), (7, 1), (8, 1), (9, 1), (10, 1), (11, 1), (12, 1), (13, 1), (14, 1), (15, 1), (16, 1), (17, 1), (18, 1), (19, 1), (20, 1), (21, 1), (22, 1), (23, 1), (24, 1)]⟩),
  (60, some ⟨2, 24, [.string ⟨#[]⟩, .int .i64 0], .str [(0, 1), (1, 1)]⟩),
  (79, some ⟨2, 24, [.string ⟨#[]⟩, .int .i64 0], .str [(0, 1), (1, 1)]⟩),
  (86, some ⟨3, 40, [.slice none 0 0, .int .i64 0, .int .i64 0], .str [(0, 1), (1, 1), (2, 1)]⟩),
  (90, some ⟨1, 24, [.slice none 0 0], .slice 22⟩)]
def tiT (t : Nat) : Option TI := lk none tiL t
theorem ty2 : TyOk Tryd.prog 2 ⟨1, 8, [.int .i64 0], .num .i64⟩ := ty_num (by kernel_rfl) (by kernel_rfl) rfl (by decide)
theorem ty3 : TyOk Tryd.prog 3 ⟨1, 8, [.int .i64 0], .num .i64⟩ := ty_num (by kernel_rfl) (by kernel_rfl) rfl (by decide)
theorem ty4 : TyOk Tryd.prog 4 ⟨1, 1, [.bool false], .one⟩ := ty_one (by kernel_rfl) (by kernel_rfl) rfl (by decide)
theorem ty5 : TyOk Tryd.prog 5 ⟨1, 1, [.int .u8 0], .num .u8⟩ := ty_num (by kernel_rfl) (by kernel_rfl) rfl (by decide)
theorem ty9 : TyOk Tryd.prog 9 ⟨1, 16, [.string ⟨#[]⟩], .text⟩ := ty_text (by kernel_rfl) (by kernel_rfl) rfl (by decide)
theorem ty21 : TyOk Tryd.prog 21 ⟨1, 4, [.int .i32 0], .num .i32⟩ := ty_num (by kernel_rfl) (by kernel_rfl) rfl (by decide)
theorem ty22 : TyOk Tryd.prog 22 ⟨1, 24, [.slice none 0 0], .slice 5⟩ := ty_slice (by kernel_rfl) (by kernel_rfl) rfl (by decide)
theorem ty23 : TyOk Tryd.prog 23 ⟨1, 24, [.slice none 0 0], .slice 60⟩ := ty_slice (by kernel_rfl) (by kernel_rfl) rfl (by decide)
theorem ty24 : TyOk Tryd.prog 24 ⟨1, 24, [.slice none 0 0], .slice 9⟩ := ty_slice (by kernel_rfl) (by kernel_rfl) rfl (by decide)
theorem ty25 : TyOk Tryd.prog 25 ⟨1, 24, [.slice none 0 0], .slice 3⟩ := ty_slice (by kernel_rfl) (by kernel_rfl) rfl (by decide)
theorem ty27 : TyOk Tryd.prog 27 ⟨25, 320, [.int .i64 0, .bool false, .int .i64 0, .bool false, .int .i64 0, .string ⟨#[]⟩, .slice none 0 0, .string ⟨#[]⟩, .int .i64 0, .bool false, .int .i64 0, .bool false, .string ⟨#[]⟩, .slice none 0 0, .int .i64 0, .bool false, .bool false, .string ⟨#[]⟩, .bool false, .slice none 0 0, .int .i64 0, .bool false, .slice none 0 0, .slice none 0 0, .slice none 0 0], .str [(0, 1), (1, 1), (2, 1), (3, 1), (4, 1), (5, 1), (6, 1), (7, 1), (8, 1), (9, 1), (10, 1), (11, 1), (12, 1), (13, 1), (14, 1), (15, 1), (16, 1), (17, 1), (18, 1), (19, 1), (20, 1), (21, 1), (22, 1), (23, 1), (24, 1)]⟩ := ty_str (by kernel_rfl) (by kernel_rfl) rfl (by decide) (by decide) (by kernel_rfl)
theorem ty32 : TyOk Tryd.prog 32 ⟨1, 24, [.slice none 0 0], .slice 79⟩ := ty_slice (by kernel_rfl) (by kernel_rfl) rfl (by decide)
theorem ty34 : TyOk Tryd.prog 34 ⟨25, 320, [.int .i64 0, .bool false, .int .i64 0, .bool false, .int .i64 0, .string ⟨#[]⟩, .slice none 0 0, .string ⟨#[]⟩, .int .i64 0, .bool false, .int .i64 0, .bool false, .string ⟨#[]⟩, .slice none 0 0, .int .i64 0, .bool false, .bool false, .string ⟨#[]⟩, .bool false, .slice none 0 0, .int .i64 0, .bool false, .slice none 0 0, .slice none 0 0, .slice none 0 0], .str [(0, 1), (1, 1), (2, 1), (3, 1), (4, 1), (5, 1), (6, 1), (7, 1), (8, 1), (9, 1), (10, 1), (11, 1), (12, 1), (13, 1), (14, 1), (15, 1), (16, 1), (17, 1), (18, 1), (19, 1), (20, 1), (21, 1), (22, 1), (23, 1), (24, 1)]⟩ := ty_str (by kernel_rfl) (by kernel_rfl) rfl (by decide) (by decide) (by kernel_rfl)
theorem ty60 : TyOk Tryd.prog 60 ⟨2, 24, [.string ⟨#[]⟩, .int .i64 0], .str [(0, 1), (1, 1)]⟩ := ty_str (by kernel_rfl) (by kernel_rfl) rfl (by decide) (by decide) (by kernel_rfl)
theorem ty79 : TyOk Tryd.prog 79 ⟨2, 24, [.string ⟨#[]⟩, .int .i64 0], .str [(0, 1), (1, 1)]⟩ := ty_str (by kernel_rfl) (by kernel_rfl) rfl (by decide) (by decide) (by kernel_rfl)
theorem ty86 : TyOk Tryd.prog 86 ⟨3, 40, [.slice none 0 0, .int .i64 0, .int .i64 0], .str [(0, 1), (1, 1), (2, 1)]⟩ := ty_str (by kernel_rfl) (by kernel_rfl) rfl (by decide) (by decide) (by kernel_rfl)
theorem ty90 : TyOk Tryd.prog 90 ⟨1, 24, [.slice none 0 0], .slice 22⟩ := ty_slice (by kernel_rfl) (by kernel_rfl) rfl (by decide)
def T : Tys where
  J := Go.Proofs.YtnflbiafmddpgaaDoor.X.Tabs
  jk := fun b h => Go.Proofs.YtnflbiafmddpgaaDoor.X.Tabs.below h b
  Tb := Tb
  df := dfl
  cells := cellsT
  mkE := mkT
  enc := encT
  el := elT
  ti := tiT
  enc_eq := by
    intro e x
    unfold encT cellsT
    split
    · exact ((rfl : enc3 _ = _)).trans rfl
    · exact ((rfl : enc5 _ = _)).trans rfl
    · exact ((rfl : enc9 _ = _)).trans rfl
    · exact ((rfl : enc60 _ = _)).trans rfl
    · exact ((rfl : enc79 _ = _)).trans rfl
    · exact ((rfl : enc22 _ = _)).trans rfl
    · exact ((rfl : enc27 _ = _)).trans rfl
    · exact ((rfl : enc34 _ = _)).trans rfl
    · rfl
  mk_eq := by
    intro e cs x h
    unfold mkT at h
    split at h <;> first | (cases h; rfl) | cases h
  one := by
    intro e x c h
    unfold cellsT at h
    split at h <;> simp only [List.mem_cons, List.not_mem_nil, or_false] at h <;> first | (rcases h with rfl | rfl | rfl | rfl | rfl | rfl | rfl | rfl | rfl | rfl | rfl | rfl | rfl | rfl | rfl | rfl | rfl | rfl | rfl | rfl | rfl | rfl | rfl | rfl | rfl <;> rfl) | (subst h; rfl) | cases h
  len := by
    intro e x i he h
    unfold elT at he
    split at he
    · exact congrArg TI.size (Option.some.inj (show some _ = some i from h))
    · exact congrArg TI.size (Option.some.inj (show some _ = some i from h))
    · exact congrArg TI.size (Option.some.inj (show some _ = some i from h))
    · exact congrArg TI.size (Option.some.inj (show some _ = some i from h))
    · exact congrArg TI.size (Option.some.inj (show some _ = some i from h))
    · exact congrArg TI.size (Option.some.inj (show some _ = some i from h))
    · cases he
theorem tiOk : ∀ p ∈ tiL, ∀ i, p.2 = some i → TyOk Tryd.prog p.1 i := by
  intro p hp
  simp only [tiL, List.mem_cons, List.not_mem_nil, or_false] at hp
  rcases hp with rfl | rfl | rfl | rfl | rfl | rfl | rfl | rfl | rfl | rfl | rfl | rfl | rfl | rfl | rfl | rfl | rfl
  · intro i h; cases h; exact ty2
  · intro i h; cases h; exact ty3
  · intro i h; cases h; exact ty4
  · intro i h; cases h; exact ty5
  · intro i h; cases h; exact ty9
  · intro i h; cases h; exact ty21
  · intro i h; cases h; exact ty22
  · intro i h; cases h; exact ty23
  · intro i h; cases h; exact ty24
  · intro i h; cases h; exact ty25
  · intro i h; cases h; exact ty27
  · intro i h; cases h; exact ty32
  · intro i h; cases h; exact ty34
  · intro i h; cases h; exact ty60
  · intro i h; cases h; exact ty79
  · intro i h; cases h; exact ty86
  · intro i h; cases h; exact ty90
theorem look_mem {α : Type} {t : Nat} {i : α} : ∀ {l : List (Nat × Option α)}, lk none l t = some i → ∃ p ∈ l, p.1 = t ∧ p.2 = some i
  | [], h => by cases h
  | (k, x) :: l, h => by
    unfold lk at h
    cases hb : Nat.beq k t <;> rw [hb] at h
    · obtain ⟨p, h1, h2⟩ := look_mem h; exact ⟨p, List.mem_cons_of_mem _ h1, h2⟩
    · exact ⟨_, List.mem_cons_self, Nat.eq_of_beq_eq_true hb, h⟩
theorem hT : T.ok Tryd.prog := by
  intro t i h
  obtain ⟨p, h1, h2, h3⟩ := look_mem (show lk none tiL t = some i from h)
  subst h2
  exact tiOk p h1 i h3
end Go.Proofs.YtnflbiafmddpgaaDoor.Q
