/- The path calculus: this seat's types: elements, their cells, sizes and zero values. Printed by a program of this work (tab.py). -/
import Derived.Test.YtnflbiafmddpgaaGreatDoorZc
import Derived.Test.YtnflbiafmddpgaaGreatDoorProg
import Derived.Test.YtnflbiafmddpgaaGreatDoorX1
namespace Go.Proofs.YtnflbiafmddpgaaGreatDoor.Q
open Go.Proofs.YtnflbiafmddpgaaGreatDoor.Z
set_option linter.unusedVariables false
structure S56 where
  f0 : ByteArray
  f1 : Int
def z56 : S56 := ⟨(⟨#[]⟩ : ByteArray), 0⟩
structure S67 where
  f0 : ByteArray
  f1 : Int
def z67 : S67 := ⟨(⟨#[]⟩ : ByteArray), 0⟩
structure S42 where
  f0 : Int
  f1 : Bool
  f2 : Int
  f3 : Bool
  f4 : Int
  f5 : ByteArray
  f6 : List Int
  f7 : ByteArray
  f8 : Int
  f9 : Bool
  f10 : Int
  f11 : Bool
  f12 : ByteArray
  f13 : List Int
  f14 : Int
  f15 : Bool
  f16 : Bool
  f17 : ByteArray
  f18 : Bool
  f19 : List Int
  f20 : Int
  f21 : Bool
  f22 : List S56
  f23 : List ByteArray
  f24 : List Int
def z42 : S42 := ⟨0, false, 0, false, 0, (⟨#[]⟩ : ByteArray), [], (⟨#[]⟩ : ByteArray), 0, false, 0, false, (⟨#[]⟩ : ByteArray), [], 0, false, false, (⟨#[]⟩ : ByteArray), false, [], 0, false, [], [], []⟩
structure S38 where
  f0 : Int
  f1 : Bool
  f2 : Int
  f3 : Bool
  f4 : Int
  f5 : ByteArray
  f6 : List Int
  f7 : ByteArray
  f8 : Int
  f9 : Bool
  f10 : Int
  f11 : Bool
  f12 : ByteArray
  f13 : List Int
  f14 : Int
  f15 : Bool
  f16 : Bool
  f17 : ByteArray
  f18 : Bool
  f19 : List Int
  f20 : Int
  f21 : Bool
  f22 : List S67
  f23 : List ByteArray
  f24 : List Int
def z38 : S38 := ⟨0, false, 0, false, 0, (⟨#[]⟩ : ByteArray), [], (⟨#[]⟩ : ByteArray), 0, false, 0, false, (⟨#[]⟩ : ByteArray), [], 0, false, false, (⟨#[]⟩ : ByteArray), false, [], 0, false, [], [], []⟩
def Tb (e : Nat) : Type := match e with
  | 3 => Int
  | 5 => Int
  | 9 => ByteArray
  | 56 => S56
  | 67 => S67
  | 24 => List Int
  | 42 => S42
  | 38 => S38
  | _ => Unit
def dflx (e : Nat) : Tb e := by
  unfold Tb
  split
  · exact (0 : Int)
  · exact (0 : Int)
  · exact (ByteArray.empty : ByteArray)
  · exact (z56 : S56)
  · exact (z67 : S67)
  · exact ([] : List Int)
  · exact (z42 : S42)
  · exact (z38 : S38)
  · exact ()
def dfl (e : Nat) : Tb e := match e with
  | 3 => (0 : Int)
  | 5 => (0 : Int)
  | 9 => (ByteArray.empty : ByteArray)
  | 56 => (z56 : S56)
  | 67 => (z67 : S67)
  | 24 => ([] : List Int)
  | 42 => (z42 : S42)
  | 38 => (z38 : S38)
  | e => dflx e
def enc3 (x : Int) : List V := [.sc (.int .i64 x)]
def enc5 (x : Int) : List V := [.sc (.int .u8 x)]
def enc9 (x : ByteArray) : List V := [.sc (.string x)]
def enc56 (x : S56) : List V := [.sc (.string x.f0), .sc (.int .i64 x.f1)]
def enc67 (x : S67) : List V := [.sc (.string x.f0), .sc (.int .i64 x.f1)]
def enc24 (x : List Int) : List V := [.sl 5 (x.map enc5)]
def enc42 (x : S42) : List V := [.sc (.int .i64 x.f0), .sc (.bool x.f1), .sc (.int .i64 x.f2), .sc (.bool x.f3), .sc (.int .i64 x.f4), .sc (.string x.f5), .sl 5 (x.f6.map enc5), .sc (.string x.f7), .sc (.int .i64 x.f8), .sc (.bool x.f9), .sc (.int .i64 x.f10), .sc (.bool x.f11), .sc (.string x.f12), .sl 5 (x.f13.map enc5), .sc (.int .i64 x.f14), .sc (.bool x.f15), .sc (.bool x.f16), .sc (.string x.f17), .sc (.bool x.f18), .sl 5 (x.f19.map enc5), .sc (.int .i64 x.f20), .sc (.bool x.f21), .sl 56 (x.f22.map enc56), .sl 9 (x.f23.map enc9), .sl 3 (x.f24.map enc3)]
def enc38 (x : S38) : List V := [.sc (.int .i64 x.f0), .sc (.bool x.f1), .sc (.int .i64 x.f2), .sc (.bool x.f3), .sc (.int .i64 x.f4), .sc (.string x.f5), .sl 5 (x.f6.map enc5), .sc (.string x.f7), .sc (.int .i64 x.f8), .sc (.bool x.f9), .sc (.int .i64 x.f10), .sc (.bool x.f11), .sc (.string x.f12), .sl 5 (x.f13.map enc5), .sc (.int .i64 x.f14), .sc (.bool x.f15), .sc (.bool x.f16), .sc (.string x.f17), .sc (.bool x.f18), .sl 5 (x.f19.map enc5), .sc (.int .i64 x.f20), .sc (.bool x.f21), .sl 67 (x.f22.map enc67), .sl 9 (x.f23.map enc9), .sl 3 (x.f24.map enc3)]
def cellsT (e : Nat) (x : Tb e) : List (C0 Tb) := match e, x with
  | 3, (x : Int) => [.sc (.int .i64 x)]
  | 5, (x : Int) => [.sc (.int .u8 x)]
  | 9, (x : ByteArray) => [.sc (.string x)]
  | 56, (x : S56) => [.sc (.string x.f0), .sc (.int .i64 x.f1)]
  | 67, (x : S67) => [.sc (.string x.f0), .sc (.int .i64 x.f1)]
  | 24, (x : List Int) => [.sl 5 x]
  | 42, (x : S42) => [.sc (.int .i64 x.f0), .sc (.bool x.f1), .sc (.int .i64 x.f2), .sc (.bool x.f3), .sc (.int .i64 x.f4), .sc (.string x.f5), .sl 5 x.f6, .sc (.string x.f7), .sc (.int .i64 x.f8), .sc (.bool x.f9), .sc (.int .i64 x.f10), .sc (.bool x.f11), .sc (.string x.f12), .sl 5 x.f13, .sc (.int .i64 x.f14), .sc (.bool x.f15), .sc (.bool x.f16), .sc (.string x.f17), .sc (.bool x.f18), .sl 5 x.f19, .sc (.int .i64 x.f20), .sc (.bool x.f21), .sl 56 x.f22, .sl 9 x.f23, .sl 3 x.f24]
  | 38, (x : S38) => [.sc (.int .i64 x.f0), .sc (.bool x.f1), .sc (.int .i64 x.f2), .sc (.bool x.f3), .sc (.int .i64 x.f4), .sc (.string x.f5), .sl 5 x.f6, .sc (.string x.f7), .sc (.int .i64 x.f8), .sc (.bool x.f9), .sc (.int .i64 x.f10), .sc (.bool x.f11), .sc (.string x.f12), .sl 5 x.f13, .sc (.int .i64 x.f14), .sc (.bool x.f15), .sc (.bool x.f16), .sc (.string x.f17), .sc (.bool x.f18), .sl 5 x.f19, .sc (.int .i64 x.f20), .sc (.bool x.f21), .sl 67 x.f22, .sl 9 x.f23, .sl 3 x.f24]
  | _, _ => []
def encT (e : Nat) (x : Tb e) : List V := match e, x with
  | 3, (x : Int) => enc3 x
  | 5, (x : Int) => enc5 x
  | 9, (x : ByteArray) => enc9 x
  | 56, (x : S56) => enc56 x
  | 67, (x : S67) => enc67 x
  | 24, (x : List Int) => enc24 x
  | 42, (x : S42) => enc42 x
  | 38, (x : S38) => enc38 x
  | _, _ => []
def mk42_25 (a0 : Int) (a1 : Bool) (a2 : Int) (a3 : Bool) (a4 : Int) (a5 : ByteArray) (a6 : List Int) (a7 : ByteArray) (a8 : Int) (a9 : Bool) (a10 : Int) (a11 : Bool) (a12 : ByteArray) (a13 : List Int) (a14 : Int) (a15 : Bool) (a16 : Bool) (a17 : ByteArray) (a18 : Bool) (a19 : List Int) (a20 : Int) (a21 : Bool) (a22 : List S56) (a23 : List ByteArray) (a24 : List Int) (cs : List (C0 Tb)) : Option S42 := match cs with
  | [] => some ⟨a0, a1, a2, a3, a4, a5, a6, a7, a8, a9, a10, a11, a12, a13, a14, a15, a16, a17, a18, a19, a20, a21, a22, a23, a24⟩
  | _ => none
theorem mk42_25_eq {a0 : Int} {a1 : Bool} {a2 : Int} {a3 : Bool} {a4 : Int} {a5 : ByteArray} {a6 : List Int} {a7 : ByteArray} {a8 : Int} {a9 : Bool} {a10 : Int} {a11 : Bool} {a12 : ByteArray} {a13 : List Int} {a14 : Int} {a15 : Bool} {a16 : Bool} {a17 : ByteArray} {a18 : Bool} {a19 : List Int} {a20 : Int} {a21 : Bool} {a22 : List S56} {a23 : List ByteArray} {a24 : List Int} {cs : List (C0 Tb)} {x : S42} (h : mk42_25 a0 a1 a2 a3 a4 a5 a6 a7 a8 a9 a10 a11 a12 a13 a14 a15 a16 a17 a18 a19 a20 a21 a22 a23 a24 cs = some x) : cellsT 42 x = .sc (.int .i64 a0) :: .sc (.bool a1) :: .sc (.int .i64 a2) :: .sc (.bool a3) :: .sc (.int .i64 a4) :: .sc (.string a5) :: .sl 5 a6 :: .sc (.string a7) :: .sc (.int .i64 a8) :: .sc (.bool a9) :: .sc (.int .i64 a10) :: .sc (.bool a11) :: .sc (.string a12) :: .sl 5 a13 :: .sc (.int .i64 a14) :: .sc (.bool a15) :: .sc (.bool a16) :: .sc (.string a17) :: .sc (.bool a18) :: .sl 5 a19 :: .sc (.int .i64 a20) :: .sc (.bool a21) :: .sl 56 a22 :: .sl 9 a23 :: .sl 3 a24 :: cs := by
  unfold mk42_25 at h
  split at h
  · cases h; rfl
  · cases h
def mk42_24 (a0 : Int) (a1 : Bool) (a2 : Int) (a3 : Bool) (a4 : Int) (a5 : ByteArray) (a6 : List Int) (a7 : ByteArray) (a8 : Int) (a9 : Bool) (a10 : Int) (a11 : Bool) (a12 : ByteArray) (a13 : List Int) (a14 : Int) (a15 : Bool) (a16 : Bool) (a17 : ByteArray) (a18 : Bool) (a19 : List Int) (a20 : Int) (a21 : Bool) (a22 : List S56) (a23 : List ByteArray) (cs : List (C0 Tb)) : Option S42 := match cs with
  | .sl 3 y :: r => mk42_25 a0 a1 a2 a3 a4 a5 a6 a7 a8 a9 a10 a11 a12 a13 a14 a15 a16 a17 a18 a19 a20 a21 a22 a23 y r
  | _ => none
theorem mk42_24_eq {a0 : Int} {a1 : Bool} {a2 : Int} {a3 : Bool} {a4 : Int} {a5 : ByteArray} {a6 : List Int} {a7 : ByteArray} {a8 : Int} {a9 : Bool} {a10 : Int} {a11 : Bool} {a12 : ByteArray} {a13 : List Int} {a14 : Int} {a15 : Bool} {a16 : Bool} {a17 : ByteArray} {a18 : Bool} {a19 : List Int} {a20 : Int} {a21 : Bool} {a22 : List S56} {a23 : List ByteArray} {cs : List (C0 Tb)} {x : S42} (h : mk42_24 a0 a1 a2 a3 a4 a5 a6 a7 a8 a9 a10 a11 a12 a13 a14 a15 a16 a17 a18 a19 a20 a21 a22 a23 cs = some x) : cellsT 42 x = .sc (.int .i64 a0) :: .sc (.bool a1) :: .sc (.int .i64 a2) :: .sc (.bool a3) :: .sc (.int .i64 a4) :: .sc (.string a5) :: .sl 5 a6 :: .sc (.string a7) :: .sc (.int .i64 a8) :: .sc (.bool a9) :: .sc (.int .i64 a10) :: .sc (.bool a11) :: .sc (.string a12) :: .sl 5 a13 :: .sc (.int .i64 a14) :: .sc (.bool a15) :: .sc (.bool a16) :: .sc (.string a17) :: .sc (.bool a18) :: .sl 5 a19 :: .sc (.int .i64 a20) :: .sc (.bool a21) :: .sl 56 a22 :: .sl 9 a23 :: cs := by
  unfold mk42_24 at h
  split at h
  · exact mk42_25_eq h
  · cases h
def mk42_23 (a0 : Int) (a1 : Bool) (a2 : Int) (a3 : Bool) (a4 : Int) (a5 : ByteArray) (a6 : List Int) (a7 : ByteArray) (a8 : Int) (a9 : Bool) (a10 : Int) (a11 : Bool) (a12 : ByteArray) (a13 : List Int) (a14 : Int) (a15 : Bool) (a16 : Bool) (a17 : ByteArray) (a18 : Bool) (a19 : List Int) (a20 : Int) (a21 : Bool) (a22 : List S56) (cs : List (C0 Tb)) : Option S42 := match cs with
  | .sl 9 y :: r => mk42_24 a0 a1 a2 a3 a4 a5 a6 a7 a8 a9 a10 a11 a12 a13 a14 a15 a16 a17 a18 a19 a20 a21 a22 y r
  | _ => none
theorem mk42_23_eq {a0 : Int} {a1 : Bool} {a2 : Int} {a3 : Bool} {a4 : Int} {a5 : ByteArray} {a6 : List Int} {a7 : ByteArray} {a8 : Int} {a9 : Bool} {a10 : Int} {a11 : Bool} {a12 : ByteArray} {a13 : List Int} {a14 : Int} {a15 : Bool} {a16 : Bool} {a17 : ByteArray} {a18 : Bool} {a19 : List Int} {a20 : Int} {a21 : Bool} {a22 : List S56} {cs : List (C0 Tb)} {x : S42} (h : mk42_23 a0 a1 a2 a3 a4 a5 a6 a7 a8 a9 a10 a11 a12 a13 a14 a15 a16 a17 a18 a19 a20 a21 a22 cs = some x) : cellsT 42 x = .sc (.int .i64 a0) :: .sc (.bool a1) :: .sc (.int .i64 a2) :: .sc (.bool a3) :: .sc (.int .i64 a4) :: .sc (.string a5) :: .sl 5 a6 :: .sc (.string a7) :: .sc (.int .i64 a8) :: .sc (.bool a9) :: .sc (.int .i64 a10) :: .sc (.bool a11) :: .sc (.string a12) :: .sl 5 a13 :: .sc (.int .i64 a14) :: .sc (.bool a15) :: .sc (.bool a16) :: .sc (.string a17) :: .sc (.bool a18) :: .sl 5 a19 :: .sc (.int .i64 a20) :: .sc (.bool a21) :: .sl 56 a22 :: cs := by
  unfold mk42_23 at h
  split at h
  · exact mk42_24_eq h
  · cases h
def mk42_22 (a0 : Int) (a1 : Bool) (a2 : Int) (a3 : Bool) (a4 : Int) (a5 : ByteArray) (a6 : List Int) (a7 : ByteArray) (a8 : Int) (a9 : Bool) (a10 : Int) (a11 : Bool) (a12 : ByteArray) (a13 : List Int) (a14 : Int) (a15 : Bool) (a16 : Bool) (a17 : ByteArray) (a18 : Bool) (a19 : List Int) (a20 : Int) (a21 : Bool) (cs : List (C0 Tb)) : Option S42 := match cs with
  | .sl 56 y :: r => mk42_23 a0 a1 a2 a3 a4 a5 a6 a7 a8 a9 a10 a11 a12 a13 a14 a15 a16 a17 a18 a19 a20 a21 y r
  | _ => none
theorem mk42_22_eq {a0 : Int} {a1 : Bool} {a2 : Int} {a3 : Bool} {a4 : Int} {a5 : ByteArray} {a6 : List Int} {a7 : ByteArray} {a8 : Int} {a9 : Bool} {a10 : Int} {a11 : Bool} {a12 : ByteArray} {a13 : List Int} {a14 : Int} {a15 : Bool} {a16 : Bool} {a17 : ByteArray} {a18 : Bool} {a19 : List Int} {a20 : Int} {a21 : Bool} {cs : List (C0 Tb)} {x : S42} (h : mk42_22 a0 a1 a2 a3 a4 a5 a6 a7 a8 a9 a10 a11 a12 a13 a14 a15 a16 a17 a18 a19 a20 a21 cs = some x) : cellsT 42 x = .sc (.int .i64 a0) :: .sc (.bool a1) :: .sc (.int .i64 a2) :: .sc (.bool a3) :: .sc (.int .i64 a4) :: .sc (.string a5) :: .sl 5 a6 :: .sc (.string a7) :: .sc (.int .i64 a8) :: .sc (.bool a9) :: .sc (.int .i64 a10) :: .sc (.bool a11) :: .sc (.string a12) :: .sl 5 a13 :: .sc (.int .i64 a14) :: .sc (.bool a15) :: .sc (.bool a16) :: .sc (.string a17) :: .sc (.bool a18) :: .sl 5 a19 :: .sc (.int .i64 a20) :: .sc (.bool a21) :: cs := by
  unfold mk42_22 at h
  split at h
  · exact mk42_23_eq h
  · cases h
def mk42_21 (a0 : Int) (a1 : Bool) (a2 : Int) (a3 : Bool) (a4 : Int) (a5 : ByteArray) (a6 : List Int) (a7 : ByteArray) (a8 : Int) (a9 : Bool) (a10 : Int) (a11 : Bool) (a12 : ByteArray) (a13 : List Int) (a14 : Int) (a15 : Bool) (a16 : Bool) (a17 : ByteArray) (a18 : Bool) (a19 : List Int) (a20 : Int) (cs : List (C0 Tb)) : Option S42 := match cs with
  | .sc (.bool y) :: r => mk42_22 a0 a1 a2 a3 a4 a5 a6 a7 a8 a9 a10 a11 a12 a13 a14 a15 a16 a17 a18 a19 a20 y r
  | _ => none
theorem mk42_21_eq {a0 : Int} {a1 : Bool} {a2 : Int} {a3 : Bool} {a4 : Int} {a5 : ByteArray} {a6 : List Int} {a7 : ByteArray} {a8 : Int} {a9 : Bool} {a10 : Int} {a11 : Bool} {a12 : ByteArray} {a13 : List Int} {a14 : Int} {a15 : Bool} {a16 : Bool} {a17 : ByteArray} {a18 : Bool} {a19 : List Int} {a20 : Int} {cs : List (C0 Tb)} {x : S42} (h : mk42_21 a0 a1 a2 a3 a4 a5 a6 a7 a8 a9 a10 a11 a12 a13 a14 a15 a16 a17 a18 a19 a20 cs = some x) : cellsT 42 x = .sc (.int .i64 a0) :: .sc (.bool a1) :: .sc (.int .i64 a2) :: .sc (.bool a3) :: .sc (.int .i64 a4) :: .sc (.string a5) :: .sl 5 a6 :: .sc (.string a7) :: .sc (.int .i64 a8) :: .sc (.bool a9) :: .sc (.int .i64 a10) :: .sc (.bool a11) :: .sc (.string a12) :: .sl 5 a13 :: .sc (.int .i64 a14) :: .sc (.bool a15) :: .sc (.bool a16) :: .sc (.string a17) :: .sc (.bool a18) :: .sl 5 a19 :: .sc (.int .i64 a20) :: cs := by
  unfold mk42_21 at h
  split at h
  · exact mk42_22_eq h
  · cases h
def mk42_20 (a0 : Int) (a1 : Bool) (a2 : Int) (a3 : Bool) (a4 : Int) (a5 : ByteArray) (a6 : List Int) (a7 : ByteArray) (a8 : Int) (a9 : Bool) (a10 : Int) (a11 : Bool) (a12 : ByteArray) (a13 : List Int) (a14 : Int) (a15 : Bool) (a16 : Bool) (a17 : ByteArray) (a18 : Bool) (a19 : List Int) (cs : List (C0 Tb)) : Option S42 := match cs with
  | .sc (.int .i64 y) :: r => mk42_21 a0 a1 a2 a3 a4 a5 a6 a7 a8 a9 a10 a11 a12 a13 a14 a15 a16 a17 a18 a19 y r
  | _ => none
theorem mk42_20_eq {a0 : Int} {a1 : Bool} {a2 : Int} {a3 : Bool} {a4 : Int} {a5 : ByteArray} {a6 : List Int} {a7 : ByteArray} {a8 : Int} {a9 : Bool} {a10 : Int} {a11 : Bool} {a12 : ByteArray} {a13 : List Int} {a14 : Int} {a15 : Bool} {a16 : Bool} {a17 : ByteArray} {a18 : Bool} {a19 : List Int} {cs : List (C0 Tb)} {x : S42} (h : mk42_20 a0 a1 a2 a3 a4 a5 a6 a7 a8 a9 a10 a11 a12 a13 a14 a15 a16 a17 a18 a19 cs = some x) : cellsT 42 x = .sc (.int .i64 a0) :: .sc (.bool a1) :: .sc (.int .i64 a2) :: .sc (.bool a3) :: .sc (.int .i64 a4) :: .sc (.string a5) :: .sl 5 a6 :: .sc (.string a7) :: .sc (.int .i64 a8) :: .sc (.bool a9) :: .sc (.int .i64 a10) :: .sc (.bool a11) :: .sc (.string a12) :: .sl 5 a13 :: .sc (.int .i64 a14) :: .sc (.bool a15) :: .sc (.bool a16) :: .sc (.string a17) :: .sc (.bool a18) :: .sl 5 a19 :: cs := by
  unfold mk42_20 at h
  split at h
  · exact mk42_21_eq h
  · cases h
def mk42_19 (a0 : Int) (a1 : Bool) (a2 : Int) (a3 : Bool) (a4 : Int) (a5 : ByteArray) (a6 : List Int) (a7 : ByteArray) (a8 : Int) (a9 : Bool) (a10 : Int) (a11 : Bool) (a12 : ByteArray) (a13 : List Int) (a14 : Int) (a15 : Bool) (a16 : Bool) (a17 : ByteArray) (a18 : Bool) (cs : List (C0 Tb)) : Option S42 := match cs with
  | .sl 5 y :: r => mk42_20 a0 a1 a2 a3 a4 a5 a6 a7 a8 a9 a10 a11 a12 a13 a14 a15 a16 a17 a18 y r
  | _ => none
theorem mk42_19_eq {a0 : Int} {a1 : Bool} {a2 : Int} {a3 : Bool} {a4 : Int} {a5 : ByteArray} {a6 : List Int} {a7 : ByteArray} {a8 : Int} {a9 : Bool} {a10 : Int} {a11 : Bool} {a12 : ByteArray} {a13 : List Int} {a14 : Int} {a15 : Bool} {a16 : Bool} {a17 : ByteArray} {a18 : Bool} {cs : List (C0 Tb)} {x : S42} (h : mk42_19 a0 a1 a2 a3 a4 a5 a6 a7 a8 a9 a10 a11 a12 a13 a14 a15 a16 a17 a18 cs = some x) : cellsT 42 x = .sc (.int .i64 a0) :: .sc (.bool a1) :: .sc (.int .i64 a2) :: .sc (.bool a3) :: .sc (.int .i64 a4) :: .sc (.string a5) :: .sl 5 a6 :: .sc (.string a7) :: .sc (.int .i64 a8) :: .sc (.bool a9) :: .sc (.int .i64 a10) :: .sc (.bool a11) :: .sc (.string a12) :: .sl 5 a13 :: .sc (.int .i64 a14) :: .sc (.bool a15) :: .sc (.bool a16) :: .sc (.string a17) :: .sc (.bool a18) :: cs := by
  unfold mk42_19 at h
  split at h
  · exact mk42_20_eq h
  · cases h
def mk42_18 (a0 : Int) (a1 : Bool) (a2 : Int) (a3 : Bool) (a4 : Int) (a5 : ByteArray) (a6 : List Int) (a7 : ByteArray) (a8 : Int) (a9 : Bool) (a10 : Int) (a11 : Bool) (a12 : ByteArray) (a13 : List Int) (a14 : Int) (a15 : Bool) (a16 : Bool) (a17 : ByteArray) (cs : List (C0 Tb)) : Option S42 := match cs with
  | .sc (.bool y) :: r => mk42_19 a0 a1 a2 a3 a4 a5 a6 a7 a8 a9 a10 a11 a12 a13 a14 a15 a16 a17 y r
  | _ => none
theorem mk42_18_eq {a0 : Int} {a1 : Bool} {a2 : Int} {a3 : Bool} {a4 : Int} {a5 : ByteArray} {a6 : List Int} {a7 : ByteArray} {a8 : Int} {a9 : Bool} {a10 : Int} {a11 : Bool} {a12 : ByteArray} {a13 : List Int} {a14 : Int} {a15 : Bool} {a16 : Bool} {a17 : ByteArray} {cs : List (C0 Tb)} {x : S42} (h : mk42_18 a0 a1 a2 a3 a4 a5 a6 a7 a8 a9 a10 a11 a12 a13 a14 a15 a16 a17 cs = some x) : cellsT 42 x = .sc (.int .i64 a0) :: .sc (.bool a1) :: .sc (.int .i64 a2) :: .sc (.bool a3) :: .sc (.int .i64 a4) :: .sc (.string a5) :: .sl 5 a6 :: .sc (.string a7) :: .sc (.int .i64 a8) :: .sc (.bool a9) :: .sc (.int .i64 a10) :: .sc (.bool a11) :: .sc (.string a12) :: .sl 5 a13 :: .sc (.int .i64 a14) :: .sc (.bool a15) :: .sc (.bool a16) :: .sc (.string a17) :: cs := by
  unfold mk42_18 at h
  split at h
  · exact mk42_19_eq h
  · cases h
def mk42_17 (a0 : Int) (a1 : Bool) (a2 : Int) (a3 : Bool) (a4 : Int) (a5 : ByteArray) (a6 : List Int) (a7 : ByteArray) (a8 : Int) (a9 : Bool) (a10 : Int) (a11 : Bool) (a12 : ByteArray) (a13 : List Int) (a14 : Int) (a15 : Bool) (a16 : Bool) (cs : List (C0 Tb)) : Option S42 := match cs with
  | .sc (.string y) :: r => mk42_18 a0 a1 a2 a3 a4 a5 a6 a7 a8 a9 a10 a11 a12 a13 a14 a15 a16 y r
  | _ => none
theorem mk42_17_eq {a0 : Int} {a1 : Bool} {a2 : Int} {a3 : Bool} {a4 : Int} {a5 : ByteArray} {a6 : List Int} {a7 : ByteArray} {a8 : Int} {a9 : Bool} {a10 : Int} {a11 : Bool} {a12 : ByteArray} {a13 : List Int} {a14 : Int} {a15 : Bool} {a16 : Bool} {cs : List (C0 Tb)} {x : S42} (h : mk42_17 a0 a1 a2 a3 a4 a5 a6 a7 a8 a9 a10 a11 a12 a13 a14 a15 a16 cs = some x) : cellsT 42 x = .sc (.int .i64 a0) :: .sc (.bool a1) :: .sc (.int .i64 a2) :: .sc (.bool a3) :: .sc (.int .i64 a4) :: .sc (.string a5) :: .sl 5 a6 :: .sc (.string a7) :: .sc (.int .i64 a8) :: .sc (.bool a9) :: .sc (.int .i64 a10) :: .sc (.bool a11) :: .sc (.string a12) :: .sl 5 a13 :: .sc (.int .i64 a14) :: .sc (.bool a15) :: .sc (.bool a16) :: cs := by
  unfold mk42_17 at h
  split at h
  · exact mk42_18_eq h
  · cases h
def mk42_16 (a0 : Int) (a1 : Bool) (a2 : Int) (a3 : Bool) (a4 : Int) (a5 : ByteArray) (a6 : List Int) (a7 : ByteArray) (a8 : Int) (a9 : Bool) (a10 : Int) (a11 : Bool) (a12 : ByteArray) (a13 : List Int) (a14 : Int) (a15 : Bool) (cs : List (C0 Tb)) : Option S42 := match cs with
  | .sc (.bool y) :: r => mk42_17 a0 a1 a2 a3 a4 a5 a6 a7 a8 a9 a10 a11 a12 a13 a14 a15 y r
  | _ => none
theorem mk42_16_eq {a0 : Int} {a1 : Bool} {a2 : Int} {a3 : Bool} {a4 : Int} {a5 : ByteArray} {a6 : List Int} {a7 : ByteArray} {a8 : Int} {a9 : Bool} {a10 : Int} {a11 : Bool} {a12 : ByteArray} {a13 : List Int} {a14 : Int} {a15 : Bool} {cs : List (C0 Tb)} {x : S42} (h : mk42_16 a0 a1 a2 a3 a4 a5 a6 a7 a8 a9 a10 a11 a12 a13 a14 a15 cs = some x) : cellsT 42 x = .sc (.int .i64 a0) :: .sc (.bool a1) :: .sc (.int .i64 a2) :: .sc (.bool a3) :: .sc (.int .i64 a4) :: .sc (.string a5) :: .sl 5 a6 :: .sc (.string a7) :: .sc (.int .i64 a8) :: .sc (.bool a9) :: .sc (.int .i64 a10) :: .sc (.bool a11) :: .sc (.string a12) :: .sl 5 a13 :: .sc (.int .i64 a14) :: .sc (.bool a15) :: cs := by
  unfold mk42_16 at h
  split at h
  · exact mk42_17_eq h
  · cases h
def mk42_15 (a0 : Int) (a1 : Bool) (a2 : Int) (a3 : Bool) (a4 : Int) (a5 : ByteArray) (a6 : List Int) (a7 : ByteArray) (a8 : Int) (a9 : Bool) (a10 : Int) (a11 : Bool) (a12 : ByteArray) (a13 : List Int) (a14 : Int) (cs : List (C0 Tb)) : Option S42 := match cs with
  | .sc (.bool y) :: r => mk42_16 a0 a1 a2 a3 a4 a5 a6 a7 a8 a9 a10 a11 a12 a13 a14 y r
  | _ => none
theorem mk42_15_eq {a0 : Int} {a1 : Bool} {a2 : Int} {a3 : Bool} {a4 : Int} {a5 : ByteArray} {a6 : List Int} {a7 : ByteArray} {a8 : Int} {a9 : Bool} {a10 : Int} {a11 : Bool} {a12 : ByteArray} {a13 : List Int} {a14 : Int} {cs : List (C0 Tb)} {x : S42} (h : mk42_15 a0 a1 a2 a3 a4 a5 a6 a7 a8 a9 a10 a11 a12 a13 a14 cs = some x) : cellsT 42 x = .sc (.int .i64 a0) :: .sc (.bool a1) :: .sc (.int .i64 a2) :: .sc (.bool a3) :: .sc (.int .i64 a4) :: .sc (.string a5) :: .sl 5 a6 :: .sc (.string a7) :: .sc (.int .i64 a8) :: .sc (.bool a9) :: .sc (.int .i64 a10) :: .sc (.bool a11) :: .sc (.string a12) :: .sl 5 a13 :: .sc (.int .i64 a14) :: cs := by
  unfold mk42_15 at h
  split at h
  · exact mk42_16_eq h
  · cases h
def mk42_14 (a0 : Int) (a1 : Bool) (a2 : Int) (a3 : Bool) (a4 : Int) (a5 : ByteArray) (a6 : List Int) (a7 : ByteArray) (a8 : Int) (a9 : Bool) (a10 : Int) (a11 : Bool) (a12 : ByteArray) (a13 : List Int) (cs : List (C0 Tb)) : Option S42 := match cs with
  | .sc (.int .i64 y) :: r => mk42_15 a0 a1 a2 a3 a4 a5 a6 a7 a8 a9 a10 a11 a12 a13 y r
  | _ => none
theorem mk42_14_eq {a0 : Int} {a1 : Bool} {a2 : Int} {a3 : Bool} {a4 : Int} {a5 : ByteArray} {a6 : List Int} {a7 : ByteArray} {a8 : Int} {a9 : Bool} {a10 : Int} {a11 : Bool} {a12 : ByteArray} {a13 : List Int} {cs : List (C0 Tb)} {x : S42} (h : mk42_14 a0 a1 a2 a3 a4 a5 a6 a7 a8 a9 a10 a11 a12 a13 cs = some x) : cellsT 42 x = .sc (.int .i64 a0) :: .sc (.bool a1) :: .sc (.int .i64 a2) :: .sc (.bool a3) :: .sc (.int .i64 a4) :: .sc (.string a5) :: .sl 5 a6 :: .sc (.string a7) :: .sc (.int .i64 a8) :: .sc (.bool a9) :: .sc (.int .i64 a10) :: .sc (.bool a11) :: .sc (.string a12) :: .sl 5 a13 :: cs := by
  unfold mk42_14 at h
  split at h
  · exact mk42_15_eq h
  · cases h
def mk42_13 (a0 : Int) (a1 : Bool) (a2 : Int) (a3 : Bool) (a4 : Int) (a5 : ByteArray) (a6 : List Int) (a7 : ByteArray) (a8 : Int) (a9 : Bool) (a10 : Int) (a11 : Bool) (a12 : ByteArray) (cs : List (C0 Tb)) : Option S42 := match cs with
  | .sl 5 y :: r => mk42_14 a0 a1 a2 a3 a4 a5 a6 a7 a8 a9 a10 a11 a12 y r
  | _ => none
theorem mk42_13_eq {a0 : Int} {a1 : Bool} {a2 : Int} {a3 : Bool} {a4 : Int} {a5 : ByteArray} {a6 : List Int} {a7 : ByteArray} {a8 : Int} {a9 : Bool} {a10 : Int} {a11 : Bool} {a12 : ByteArray} {cs : List (C0 Tb)} {x : S42} (h : mk42_13 a0 a1 a2 a3 a4 a5 a6 a7 a8 a9 a10 a11 a12 cs = some x) : cellsT 42 x = .sc (.int .i64 a0) :: .sc (.bool a1) :: .sc (.int .i64 a2) :: .sc (.bool a3) :: .sc (.int .i64 a4) :: .sc (.string a5) :: .sl 5 a6 :: .sc (.string a7) :: .sc (.int .i64 a8) :: .sc (.bool a9) :: .sc (.int .i64 a10) :: .sc (.bool a11) :: .sc (.string a12) :: cs := by
  unfold mk42_13 at h
  split at h
  · exact mk42_14_eq h
  · cases h
def mk42_12 (a0 : Int) (a1 : Bool) (a2 : Int) (a3 : Bool) (a4 : Int) (a5 : ByteArray) (a6 : List Int) (a7 : ByteArray) (a8 : Int) (a9 : Bool) (a10 : Int) (a11 : Bool) (cs : List (C0 Tb)) : Option S42 := match cs with
  | .sc (.string y) :: r => mk42_13 a0 a1 a2 a3 a4 a5 a6 a7 a8 a9 a10 a11 y r
  | _ => none
theorem mk42_12_eq {a0 : Int} {a1 : Bool} {a2 : Int} {a3 : Bool} {a4 : Int} {a5 : ByteArray} {a6 : List Int} {a7 : ByteArray} {a8 : Int} {a9 : Bool} {a10 : Int} {a11 : Bool} {cs : List (C0 Tb)} {x : S42} (h : mk42_12 a0 a1 a2 a3 a4 a5 a6 a7 a8 a9 a10 a11 cs = some x) : cellsT 42 x = .sc (.int .i64 a0) :: .sc (.bool a1) :: .sc (.int .i64 a2) :: .sc (.bool a3) :: .sc (.int .i64 a4) :: .sc (.string a5) :: .sl 5 a6 :: .sc (.string a7) :: .sc (.int .i64 a8) :: .sc (.bool a9) :: .sc (.int .i64 a10) :: .sc (.bool a11) :: cs := by
  unfold mk42_12 at h
  split at h
  · exact mk42_13_eq h
  · cases h
def mk42_11 (a0 : Int) (a1 : Bool) (a2 : Int) (a3 : Bool) (a4 : Int) (a5 : ByteArray) (a6 : List Int) (a7 : ByteArray) (a8 : Int) (a9 : Bool) (a10 : Int) (cs : List (C0 Tb)) : Option S42 := match cs with
  | .sc (.bool y) :: r => mk42_12 a0 a1 a2 a3 a4 a5 a6 a7 a8 a9 a10 y r
  | _ => none
theorem mk42_11_eq {a0 : Int} {a1 : Bool} {a2 : Int} {a3 : Bool} {a4 : Int} {a5 : ByteArray} {a6 : List Int} {a7 : ByteArray} {a8 : Int} {a9 : Bool} {a10 : Int} {cs : List (C0 Tb)} {x : S42} (h : mk42_11 a0 a1 a2 a3 a4 a5 a6 a7 a8 a9 a10 cs = some x) : cellsT 42 x = .sc (.int .i64 a0) :: .sc (.bool a1) :: .sc (.int .i64 a2) :: .sc (.bool a3) :: .sc (.int .i64 a4) :: .sc (.string a5) :: .sl 5 a6 :: .sc (.string a7) :: .sc (.int .i64 a8) :: .sc (.bool a9) :: .sc (.int .i64 a10) :: cs := by
  unfold mk42_11 at h
  split at h
  · exact mk42_12_eq h
  · cases h
def mk42_10 (a0 : Int) (a1 : Bool) (a2 : Int) (a3 : Bool) (a4 : Int) (a5 : ByteArray) (a6 : List Int) (a7 : ByteArray) (a8 : Int) (a9 : Bool) (cs : List (C0 Tb)) : Option S42 := match cs with
  | .sc (.int .i64 y) :: r => mk42_11 a0 a1 a2 a3 a4 a5 a6 a7 a8 a9 y r
  | _ => none
theorem mk42_10_eq {a0 : Int} {a1 : Bool} {a2 : Int} {a3 : Bool} {a4 : Int} {a5 : ByteArray} {a6 : List Int} {a7 : ByteArray} {a8 : Int} {a9 : Bool} {cs : List (C0 Tb)} {x : S42} (h : mk42_10 a0 a1 a2 a3 a4 a5 a6 a7 a8 a9 cs = some x) : cellsT 42 x = .sc (.int .i64 a0) :: .sc (.bool a1) :: .sc (.int .i64 a2) :: .sc (.bool a3) :: .sc (.int .i64 a4) :: .sc (.string a5) :: .sl 5 a6 :: .sc (.string a7) :: .sc (.int .i64 a8) :: .sc (.bool a9) :: cs := by
  unfold mk42_10 at h
  split at h
  · exact mk42_11_eq h
  · cases h
def mk42_9 (a0 : Int) (a1 : Bool) (a2 : Int) (a3 : Bool) (a4 : Int) (a5 : ByteArray) (a6 : List Int) (a7 : ByteArray) (a8 : Int) (cs : List (C0 Tb)) : Option S42 := match cs with
  | .sc (.bool y) :: r => mk42_10 a0 a1 a2 a3 a4 a5 a6 a7 a8 y r
  | _ => none
theorem mk42_9_eq {a0 : Int} {a1 : Bool} {a2 : Int} {a3 : Bool} {a4 : Int} {a5 : ByteArray} {a6 : List Int} {a7 : ByteArray} {a8 : Int} {cs : List (C0 Tb)} {x : S42} (h : mk42_9 a0 a1 a2 a3 a4 a5 a6 a7 a8 cs = some x) : cellsT 42 x = .sc (.int .i64 a0) :: .sc (.bool a1) :: .sc (.int .i64 a2) :: .sc (.bool a3) :: .sc (.int .i64 a4) :: .sc (.string a5) :: .sl 5 a6 :: .sc (.string a7) :: .sc (.int .i64 a8) :: cs := by
  unfold mk42_9 at h
  split at h
  · exact mk42_10_eq h
  · cases h
def mk42_8 (a0 : Int) (a1 : Bool) (a2 : Int) (a3 : Bool) (a4 : Int) (a5 : ByteArray) (a6 : List Int) (a7 : ByteArray) (cs : List (C0 Tb)) : Option S42 := match cs with
  | .sc (.int .i64 y) :: r => mk42_9 a0 a1 a2 a3 a4 a5 a6 a7 y r
  | _ => none
theorem mk42_8_eq {a0 : Int} {a1 : Bool} {a2 : Int} {a3 : Bool} {a4 : Int} {a5 : ByteArray} {a6 : List Int} {a7 : ByteArray} {cs : List (C0 Tb)} {x : S42} (h : mk42_8 a0 a1 a2 a3 a4 a5 a6 a7 cs = some x) : cellsT 42 x = .sc (.int .i64 a0) :: .sc (.bool a1) :: .sc (.int .i64 a2) :: .sc (.bool a3) :: .sc (.int .i64 a4) :: .sc (.string a5) :: .sl 5 a6 :: .sc (.string a7) :: cs := by
  unfold mk42_8 at h
  split at h
  · exact mk42_9_eq h
  · cases h
def mk42_7 (a0 : Int) (a1 : Bool) (a2 : Int) (a3 : Bool) (a4 : Int) (a5 : ByteArray) (a6 : List Int) (cs : List (C0 Tb)) : Option S42 := match cs with
  | .sc (.string y) :: r => mk42_8 a0 a1 a2 a3 a4 a5 a6 y r
  | _ => none
theorem mk42_7_eq {a0 : Int} {a1 : Bool} {a2 : Int} {a3 : Bool} {a4 : Int} {a5 : ByteArray} {a6 : List Int} {cs : List (C0 Tb)} {x : S42} (h : mk42_7 a0 a1 a2 a3 a4 a5 a6 cs = some x) : cellsT 42 x = .sc (.int .i64 a0) :: .sc (.bool a1) :: .sc (.int .i64 a2) :: .sc (.bool a3) :: .sc (.int .i64 a4) :: .sc (.string a5) :: .sl 5 a6 :: cs := by
  unfold mk42_7 at h
  split at h
  · exact mk42_8_eq h
  · cases h
def mk42_6 (a0 : Int) (a1 : Bool) (a2 : Int) (a3 : Bool) (a4 : Int) (a5 : ByteArray) (cs : List (C0 Tb)) : Option S42 := match cs with
  | .sl 5 y :: r => mk42_7 a0 a1 a2 a3 a4 a5 y r
  | _ => none
theorem mk42_6_eq {a0 : Int} {a1 : Bool} {a2 : Int} {a3 : Bool} {a4 : Int} {a5 : ByteArray} {cs : List (C0 Tb)} {x : S42} (h : mk42_6 a0 a1 a2 a3 a4 a5 cs = some x) : cellsT 42 x = .sc (.int .i64 a0) :: .sc (.bool a1) :: .sc (.int .i64 a2) :: .sc (.bool a3) :: .sc (.int .i64 a4) :: .sc (.string a5) :: cs := by
  unfold mk42_6 at h
  split at h
  · exact mk42_7_eq h
  · cases h
def mk42_5 (a0 : Int) (a1 : Bool) (a2 : Int) (a3 : Bool) (a4 : Int) (cs : List (C0 Tb)) : Option S42 := match cs with
  | .sc (.string y) :: r => mk42_6 a0 a1 a2 a3 a4 y r
  | _ => none
theorem mk42_5_eq {a0 : Int} {a1 : Bool} {a2 : Int} {a3 : Bool} {a4 : Int} {cs : List (C0 Tb)} {x : S42} (h : mk42_5 a0 a1 a2 a3 a4 cs = some x) : cellsT 42 x = .sc (.int .i64 a0) :: .sc (.bool a1) :: .sc (.int .i64 a2) :: .sc (.bool a3) :: .sc (.int .i64 a4) :: cs := by
  unfold mk42_5 at h
  split at h
  · exact mk42_6_eq h
  · cases h
def mk42_4 (a0 : Int) (a1 : Bool) (a2 : Int) (a3 : Bool) (cs : List (C0 Tb)) : Option S42 := match cs with
  | .sc (.int .i64 y) :: r => mk42_5 a0 a1 a2 a3 y r
  | _ => none
theorem mk42_4_eq {a0 : Int} {a1 : Bool} {a2 : Int} {a3 : Bool} {cs : List (C0 Tb)} {x : S42} (h : mk42_4 a0 a1 a2 a3 cs = some x) : cellsT 42 x = .sc (.int .i64 a0) :: .sc (.bool a1) :: .sc (.int .i64 a2) :: .sc (.bool a3) :: cs := by
  unfold mk42_4 at h
  split at h
  · exact mk42_5_eq h
  · cases h
def mk42_3 (a0 : Int) (a1 : Bool) (a2 : Int) (cs : List (C0 Tb)) : Option S42 := match cs with
  | .sc (.bool y) :: r => mk42_4 a0 a1 a2 y r
  | _ => none
theorem mk42_3_eq {a0 : Int} {a1 : Bool} {a2 : Int} {cs : List (C0 Tb)} {x : S42} (h : mk42_3 a0 a1 a2 cs = some x) : cellsT 42 x = .sc (.int .i64 a0) :: .sc (.bool a1) :: .sc (.int .i64 a2) :: cs := by
  unfold mk42_3 at h
  split at h
  · exact mk42_4_eq h
  · cases h
def mk42_2 (a0 : Int) (a1 : Bool) (cs : List (C0 Tb)) : Option S42 := match cs with
  | .sc (.int .i64 y) :: r => mk42_3 a0 a1 y r
  | _ => none
theorem mk42_2_eq {a0 : Int} {a1 : Bool} {cs : List (C0 Tb)} {x : S42} (h : mk42_2 a0 a1 cs = some x) : cellsT 42 x = .sc (.int .i64 a0) :: .sc (.bool a1) :: cs := by
  unfold mk42_2 at h
  split at h
  · exact mk42_3_eq h
  · cases h
def mk42_1 (a0 : Int) (cs : List (C0 Tb)) : Option S42 := match cs with
  | .sc (.bool y) :: r => mk42_2 a0 y r
  | _ => none
theorem mk42_1_eq {a0 : Int} {cs : List (C0 Tb)} {x : S42} (h : mk42_1 a0 cs = some x) : cellsT 42 x = .sc (.int .i64 a0) :: cs := by
  unfold mk42_1 at h
  split at h
  · exact mk42_2_eq h
  · cases h
def mk42_0 (cs : List (C0 Tb)) : Option S42 := match cs with
  | .sc (.int .i64 y) :: r => mk42_1 y r
  | _ => none
theorem mk42_0_eq {cs : List (C0 Tb)} {x : S42} (h : mk42_0 cs = some x) : cellsT 42 x = cs := by
  unfold mk42_0 at h
  split at h
  · exact mk42_1_eq h
  · cases h
def mkT0 (e : Nat) (cs : List (C0 Tb)) : Option (Tb e) := match e, cs with
  | 3, [.sc (.int .i64 x)] => some x
  | 5, [.sc (.int .u8 x)] => some x
  | 9, [.sc (.string x)] => some x
  | 56, [.sc (.string a0), .sc (.int .i64 a1)] => some (⟨a0, a1⟩ : S56)
  | 67, [.sc (.string a0), .sc (.int .i64 a1)] => some (⟨a0, a1⟩ : S67)
  | 24, [.sl 5 x] => some x
  | _, _ => none
theorem mkT0_eq (e : Nat) (cs : List (C0 Tb)) (x : Tb e) (h : mkT0 e cs = some x) : cellsT e x = cs := by
  unfold mkT0 at h
  split at h <;> first | (cases h; rfl) | cases h
def mkT42 (e : Nat) (cs : List (C0 Tb)) : Option (Tb e) := if h : e = 42 then (by subst h; exact mk42_0 cs) else mkT0 e cs
theorem mkT42_eq (e : Nat) (cs : List (C0 Tb)) (x : Tb e) (h : mkT42 e cs = some x) : cellsT e x = cs := by
  by_cases h1 : e = 42
  · subst h1; exact mk42_0_eq (cs := cs) (x := x) h
  · unfold mkT42 at h; rw [dif_neg h1] at h; exact mkT0_eq e cs x h
abbrev mkT (e : Nat) (cs : List (C0 Tb)) : Option (Tb e) := mkT42 e cs
theorem mkT_eq (e : Nat) (cs : List (C0 Tb)) (x : Tb e) (h : mkT e cs = some x) : cellsT e x = cs := mkT42_eq e cs x h
def elT (e : Nat) : Bool := match e with
  | 3 => true
  | 5 => true
  | 9 => true
  | 56 => true
  | 67 => true
  | 24 => true
  | 42 => true
  | _ => false
def tiL : List (Nat × Option TI) := [(2, some ⟨1, 8, [.int .i64 0], .num .i64⟩),
  (3, some ⟨1, 8, [.int .i64 0], .num .i64⟩),
  (4, some ⟨1, 1, [.bool false], .one⟩),
  (5, some ⟨1, 1, [.int .u8 0], .num .u8⟩),
  (9, some ⟨1, 16, [.string ⟨#[]⟩], .text⟩),
  (21, some ⟨1, 4, [.int .i32 0], .num .i32⟩),
  (22, some ⟨1, 24, [.slice none 0 0], .slice 38⟩),
  (24, some ⟨1, 24, [.slice none 0 0], .slice 5⟩),
  (26, some ⟨1, 24, [.slice none 0 0], .slice 42⟩),
  (34, some ⟨1, 24, [.slice none 0 0], .slice 67⟩),
  (35, some ⟨1, 24, [.slice none 0 0], .slice 9⟩),
  (36, some ⟨1, 24, [.slice none 0 0], .slice 3⟩),
  (38, some ⟨25, 320, [.int .i64 0, .bool false, .int .i64 0, .bool false, .int .i64 0, .string ⟨#[]⟩, .slice none 0 0, .string ⟨#[]⟩, .int .i64 0, .bool false, .int .i64 0, .bool false, .string ⟨#[]⟩, .slice none 0 0, .int .i64 0, .bool false, .bool false, .string ⟨#[]⟩, .bool false, .slice none 0 0, .int .i64 0, .bool false, .slice none 0 0, .slice none 0 0, .slice none 0 0], .str [(0, 1), (1, 1), (2, 1), (3, 1), (4, 1), (5, 1), (6, 1), (7, 1), (8, 1), (9, 1), (10, 1), (11, 1), (12, 1), (13, 1), (14, 1), (15, 1), (16, 1), (17, 1), (18, 1), (19, 1), (20, 1), (21, 1), (22, 1), (23, 1), (24, 1)]⟩),
  (40, some ⟨1, 24, [.slice none 0 0], .slice 56⟩),
  (42, some ⟨25, 320, [.int .i64 0, .bool false, .int .i64 0, .bool false, .int .i64 0, .string ⟨#[]⟩, .slice none 0 0, .string ⟨#[]⟩, .int .i64 0, .bool false, .int .i64 0, .bool false, .string ⟨#[]⟩, .slice none 0 0, .int .i64 0, .bool false, .bool false, .string ⟨#[]⟩, .bool false, .slice none 0 0, .int .i64 0, .bool false, .slice none 0 0, .slice none 0 0, .slice none 0 0], .str [(0, 1), (1, 1), (2, 1), (3, 1), (4, 1), (5, 1), (6, 1), (7, 1), (8, 1), (9, 1), (10, 1), (11, 1), (12, 1), (13, 1), (14, 1), (15, 1), (16, 1), (17, 1), (18, 1), (19, 1), (20, 1), (21, 1), (22, 1), (23, 1), (24, 1)]⟩),
  (56, some ⟨2, 24, [.string ⟨#[]⟩, .int .i64 0], .str [(0, 1), (1, 1)]⟩),
  (67, some ⟨2, 24, [.string ⟨#[]⟩, .int .i64 0], .str [(0, 1), (1, 1)]⟩),
  (74, some ⟨1, 24, [.slice none 0 0], .slice 24⟩)]
def tiT (t : Nat) : Option TI := lk none tiL t
theorem ty2 : TyOk Tryz.prog 2 ⟨1, 8, [.int .i64 0], .num .i64⟩ := ty_num (by kernel_rfl) (by kernel_rfl) rfl (by decide)
theorem ty3 : TyOk Tryz.prog 3 ⟨1, 8, [.int .i64 0], .num .i64⟩ := ty_num (by kernel_rfl) (by kernel_rfl) rfl (by decide)
theorem ty4 : TyOk Tryz.prog 4 ⟨1, 1, [.bool false], .one⟩ := ty_one (by kernel_rfl) (by kernel_rfl) rfl (by decide)
theorem ty5 : TyOk Tryz.prog 5 ⟨1, 1, [.int .u8 0], .num .u8⟩ := ty_num (by kernel_rfl) (by kernel_rfl) rfl (by decide)
theorem ty9 : TyOk Tryz.prog 9 ⟨1, 16, [.string ⟨#[]⟩], .text⟩ := ty_text (by kernel_rfl) (by kernel_rfl) rfl (by decide)
theorem ty21 : TyOk Tryz.prog 21 ⟨1, 4, [.int .i32 0], .num .i32⟩ := ty_num (by kernel_rfl) (by kernel_rfl) rfl (by decide)
theorem ty22 : TyOk Tryz.prog 22 ⟨1, 24, [.slice none 0 0], .slice 38⟩ := ty_slice (by kernel_rfl) (by kernel_rfl) rfl (by decide)
theorem ty24 : TyOk Tryz.prog 24 ⟨1, 24, [.slice none 0 0], .slice 5⟩ := ty_slice (by kernel_rfl) (by kernel_rfl) rfl (by decide)
theorem ty26 : TyOk Tryz.prog 26 ⟨1, 24, [.slice none 0 0], .slice 42⟩ := ty_slice (by kernel_rfl) (by kernel_rfl) rfl (by decide)
theorem ty34 : TyOk Tryz.prog 34 ⟨1, 24, [.slice none 0 0], .slice 67⟩ := ty_slice (by kernel_rfl) (by kernel_rfl) rfl (by decide)
theorem ty35 : TyOk Tryz.prog 35 ⟨1, 24, [.slice none 0 0], .slice 9⟩ := ty_slice (by kernel_rfl) (by kernel_rfl) rfl (by decide)
theorem ty36 : TyOk Tryz.prog 36 ⟨1, 24, [.slice none 0 0], .slice 3⟩ := ty_slice (by kernel_rfl) (by kernel_rfl) rfl (by decide)
theorem ty38 : TyOk Tryz.prog 38 ⟨25, 320, [.int .i64 0, .bool false, .int .i64 0, .bool false, .int .i64 0, .string ⟨#[]⟩, .slice none 0 0, .string ⟨#[]⟩, .int .i64 0, .bool false, .int .i64 0, .bool false, .string ⟨#[]⟩, .slice none 0 0, .int .i64 0, .bool false, .bool false, .string ⟨#[]⟩, .bool false, .slice none 0 0, .int .i64 0, .bool false, .slice none 0 0, .slice none 0 0, .slice none 0 0], .str [(0, 1), (1, 1), (2, 1), (3, 1), (4, 1), (5, 1), (6, 1), (7, 1), (8, 1), (9, 1), (10, 1), (11, 1), (12, 1), (13, 1), (14, 1), (15, 1), (16, 1), (17, 1), (18, 1), (19, 1), (20, 1), (21, 1), (22, 1), (23, 1), (24, 1)]⟩ := ty_str (by kernel_rfl) (by kernel_rfl) rfl (by decide) (by decide) (by kernel_rfl)
theorem ty40 : TyOk Tryz.prog 40 ⟨1, 24, [.slice none 0 0], .slice 56⟩ := ty_slice (by kernel_rfl) (by kernel_rfl) rfl (by decide)
theorem ty42 : TyOk Tryz.prog 42 ⟨25, 320, [.int .i64 0, .bool false, .int .i64 0, .bool false, .int .i64 0, .string ⟨#[]⟩, .slice none 0 0, .string ⟨#[]⟩, .int .i64 0, .bool false, .int .i64 0, .bool false, .string ⟨#[]⟩, .slice none 0 0, .int .i64 0, .bool false, .bool false, .string ⟨#[]⟩, .bool false, .slice none 0 0, .int .i64 0, .bool false, .slice none 0 0, .slice none 0 0, .slice none 0 0], .str [(0, 1), (1, 1), (2, 1), (3, 1), (4, 1), (5, 1), (6, 1), (7, 1), (8, 1), (9, 1), (10, 1), (11, 1), (12, 1), (13, 1), (14, 1), (15, 1), (16, 1), (17, 1), (18, 1), (19, 1), (20, 1), (21, 1), (22, 1), (23, 1), (24, 1)]⟩ := ty_str (by kernel_rfl) (by kernel_rfl) rfl (by decide) (by decide) (by kernel_rfl)
theorem ty56 : TyOk Tryz.prog 56 ⟨2, 24, [.string ⟨#[]⟩, .int .i64 0], .str [(0, 1), (1, 1)]⟩ := ty_str (by kernel_rfl) (by kernel_rfl) rfl (by decide) (by decide) (by kernel_rfl)
theorem ty67 : TyOk Tryz.prog 67 ⟨2, 24, [.string ⟨#[]⟩, .int .i64 0], .str [(0, 1), (1, 1)]⟩ := ty_str (by kernel_rfl) (by kernel_rfl) rfl (by decide) (by decide) (by kernel_rfl)
theorem ty74 : TyOk Tryz.prog 74 ⟨1, 24, [.slice none 0 0], .slice 24⟩ := ty_slice (by kernel_rfl) (by kernel_rfl) rfl (by decide)
def T : Tys where
  J := Go.Proofs.YtnflbiafmddpgaaGreatDoor.X.Tabs
  jk := fun b h => Go.Proofs.YtnflbiafmddpgaaGreatDoor.X.Tabs.below h b
  Tb := Tb
  df := dfl
  cells := cellsT
  mkE := mkT
  enc := encT
  el := elT
  ti := tiT
  enc_eq := by
    intro e x
    unfold encT cellsT
    split
    · exact ((rfl : enc3 _ = _)).trans rfl
    · exact ((rfl : enc5 _ = _)).trans rfl
    · exact ((rfl : enc9 _ = _)).trans rfl
    · exact ((rfl : enc56 _ = _)).trans rfl
    · exact ((rfl : enc67 _ = _)).trans rfl
    · exact ((rfl : enc24 _ = _)).trans rfl
    · exact ((rfl : enc42 _ = _)).trans rfl
    · exact ((rfl : enc38 _ = _)).trans rfl
    · rfl
  mk_eq := mkT_eq
  one := by
    intro e x c h
    unfold cellsT at h
    split at h <;> simp only [List.mem_cons, List.not_mem_nil, or_false] at h <;> first | (rcases h with rfl | rfl | rfl | rfl | rfl | rfl | rfl | rfl | rfl | rfl | rfl | rfl | rfl | rfl | rfl | rfl | rfl | rfl | rfl | rfl | rfl | rfl | rfl | rfl | rfl <;> rfl) | (subst h; rfl) | cases h
  len := by
    intro e x i he h
    unfold elT at he
    split at he
    · exact congrArg TI.size (Option.some.inj (show some _ = some i from h))
    · exact congrArg TI.size (Option.some.inj (show some _ = some i from h))
    · exact congrArg TI.size (Option.some.inj (show some _ = some i from h))
    · exact congrArg TI.size (Option.some.inj (show some _ = some i from h))
    · exact congrArg TI.size (Option.some.inj (show some _ = some i from h))
    · exact congrArg TI.size (Option.some.inj (show some _ = some i from h))
    · exact congrArg TI.size (Option.some.inj (show some _ = some i from h))
    · cases he
theorem tiOk : ∀ p ∈ tiL, ∀ i, p.2 = some i → TyOk Tryz.prog p.1 i := by
  intro p hp
  simp only [tiL, List.mem_cons, List.not_mem_nil, or_false] at hp
  rcases hp with rfl | rfl | rfl | rfl | rfl | rfl | rfl | rfl | rfl | rfl | rfl | rfl | rfl | rfl | rfl | rfl | rfl | rfl
  · intro i h; cases h; exact ty2
  · intro i h; cases h; exact ty3
  · intro i h; cases h; exact ty4
  · intro i h; cases h; exact ty5
  · intro i h; cases h; exact ty9
  · intro i h; cases h; exact ty21
  · intro i h; cases h; exact ty22
  · intro i h; cases h; exact ty24
  · intro i h; cases h; exact ty26
  · intro i h; cases h; exact ty34
  · intro i h; cases h; exact ty35
  · intro i h; cases h; exact ty36
  · intro i h; cases h; exact ty38
  · intro i h; cases h; exact ty40
  · intro i h; cases h; exact ty42
  · intro i h; cases h; exact ty56
  · intro i h; cases h; exact ty67
  · intro i h; cases h; exact ty74
theorem look_mem {α : Type} {t : Nat} {i : α} : ∀ {l : List (Nat × Option α)}, lk none l t = some i → ∃ p ∈ l, p.1 = t ∧ p.2 = some i
  | [], h => by cases h
  | (k, x) :: l, h => by
    unfold lk at h
    cases hb : Nat.beq k t <;> rw [hb] at h
    · obtain ⟨p, h1, h2⟩ := look_mem h; exact ⟨p, List.mem_cons_of_mem _ h1, h2⟩
    · exact ⟨_, List.mem_cons_self, Nat.eq_of_beq_eq_true hb, h⟩
theorem hT : T.ok Tryz.prog := by
  intro t i h
  obtain ⟨p, h1, h2, h3⟩ := look_mem (show lk none tiL t = some i from h)
  subst h2
  exact tiOk p h1 i h3
end Go.Proofs.YtnflbiafmddpgaaGreatDoor.Q
