-- Printed by a program over the kit's print.py (mp.sh), several laws in one namespace.
import Derived.Test.YtemehnmbmajnfaaDoorPx0
import Derived.Test.YtemehnmbmajnfaaDoorS
import Derived.Test.YtemehnmbmajnfaaDoorPx4
import Derived.Test.YtemehnmbmajnfaaDoorPx5
namespace Go.Proofs.YtemehnmbmajnfaaDoor.P
open Go.RowKit Go.Proofs.YtemehnmbmajnfaaDoor.X Go.Proofs.YtemehnmbmajnfaaDoorW.PrintWords Go.Proofs.YtemehnmbmajnfaaDoorW.PrintLast Go.Proofs.YtemehnmbmajnfaaDoorW.PrintMore
attribute [local go_sem] max2_int min2_int max_two min_two max_three min_three max_four min_four   -- for this text's walks alone
set_option linter.unusedVariables false
set_option linter.unusedSimpArgs false

def spec_l8Ok_bools0_ : Array Bool := bs_ 27 0
def spec_l8Ok_bools1_ : Array Bool := bs_ 27 1
def spec_l8Ok_bools2_ : Array Bool := bs_ 27 5
def spec_l8Ok_bools3_ : Array Bool := bs_ 27 7
def spec_l8Ok_bools4_ : Array Bool := bs_ 27 15
def spec_l8Ok_bools5_ : Array Bool := bs_ 27 31
def spec_l8Ok_bools6_ : Array Bool := bs_ 27 63
def spec_l8Ok_bools7_ : Array Bool := bs_ 27 127
def spec_l8Ok_bools8_ : Array Bool := bs_ 27 255
def spec_l8Ok_bools9_ : Array Bool := bs_ 27 511
def spec_l8Ok_bools10_ : Array Bool := bs_ 27 1023
def spec_l8Ok_bools11_ : Array Bool := bs_ 27 2047
def spec_l8Ok_bools12_ : Array Bool := bs_ 27 4095
def spec_l8Ok_bools13_ : Array Bool := bs_ 27 8191
def spec_l8Ok_bools14_ : Array Bool := bs_ 27 16383
def spec_l8Ok_bools15_ : Array Bool := bs_ 27 32767
def spec_l8Ok_bools16_ : Array Bool := bs_ 27 65535
def spec_l8Ok_bools17_ : Array Bool := bs_ 27 131071
def spec_l8Ok_bools18_ : Array Bool := bs_ 27 262143
def spec_l8Ok_bools19_ : Array Bool := bs_ 27 524287
def spec_l8Ok_bools20_ : Array Bool := bs_ 27 1048575
def spec_l8Ok_bools21_ : Array Bool := bs_ 27 2097151
def spec_l8Ok_bools22_ : Array Bool := bs_ 27 4194303
def spec_l8Ok_bools23_ : Array Bool := bs_ 27 8388607
def spec_l8Ok_bools24_ : Array Bool := bs_ 27 16777215
def spec_l8Ok_bools25_ : Array Bool := bs_ 27 33554431
def spec_l8Ok_bools26_ : Array Bool := bs_ 27 67108863
def spec_l8Ok_bools27_ : Array Bool := bs_ 27 134217727
def spec_l8Ok_bools28_ : Array Bool := bs_ 27 12287
def spec_l8Ok_bools29_ : Array Bool := bs_ 27 28671
def spec_l8Ok_bools30_ : Array Bool := bs_ 27 290815
def spec_l8Ok_bools31_ : Array Bool := bs_ 27 1339391
def spec_l8Ok_bools32_ : Array Bool := bs_ 27 1343487
def spec_l8Ok_bools33_ : Array Bool := bs_ 27 1376255
def spec_l8Ok_bools34_ : Array Bool := bs_ 27 1441791
def spec_l8Ok_bools35_ : Array Bool := bs_ 27 1572863
def spec_l8Ok_bools36_ : Array Bool := bs_ 58 0
def spec_l8Ok_bools37_ : Array Bool := bs_ 58 1
def spec_l8Ok_bools38_ : Array Bool := bs_ 58 5
def spec_l8Ok_bools39_ : Array Bool := bs_ 58 7
def spec_l8Ok_bools40_ : Array Bool := bs_ 58 15
def spec_l8Ok_bools41_ : Array Bool := bs_ 58 31
def spec_l8Ok_bools42_ : Array Bool := bs_ 58 63
def spec_l8Ok_bools43_ : Array Bool := bs_ 58 127
def spec_l8Ok_bools44_ : Array Bool := bs_ 58 255
def spec_l8Ok_bools45_ : Array Bool := bs_ 58 511
def spec_l8Ok_bools46_ : Array Bool := bs_ 58 1023
def spec_l8Ok_bools47_ : Array Bool := bs_ 58 2047
def spec_l8Ok_bools48_ : Array Bool := bs_ 58 4095
def spec_l8Ok_bools49_ : Array Bool := bs_ 58 8191
def spec_l8Ok_bools50_ : Array Bool := bs_ 58 16383
def spec_l8Ok_bools51_ : Array Bool := bs_ 58 32767
def spec_l8Ok_bools52_ : Array Bool := bs_ 58 65535
def spec_l8Ok_bools53_ : Array Bool := bs_ 58 131071
def spec_l8Ok_bools54_ : Array Bool := bs_ 58 262143
def spec_l8Ok_bools55_ : Array Bool := bs_ 58 524287
def spec_l8Ok_bools56_ : Array Bool := bs_ 58 1048575
def spec_l8Ok_bools57_ : Array Bool := bs_ 58 2097151
def spec_l8Ok_bools58_ : Array Bool := bs_ 58 4194303
def spec_l8Ok_bools59_ : Array Bool := bs_ 58 8388607
def spec_l8Ok_bools60_ : Array Bool := bs_ 58 16777215
def spec_l8Ok_bools61_ : Array Bool := bs_ 58 33554431
def spec_l8Ok_bools62_ : Array Bool := bs_ 58 67108863
def spec_l8Ok_bools63_ : Array Bool := bs_ 58 134217727
def spec_l8Ok_bools64_ : Array Bool := bs_ 58 268435455
def spec_l8Ok_bools65_ : Array Bool := bs_ 58 536870911
def spec_l8Ok_bools66_ : Array Bool := bs_ 58 1073741823
def spec_l8Ok_bools67_ : Array Bool := bs_ 58 2147483647
def spec_l8Ok_bools68_ : Array Bool := bs_ 58 4294967295
def spec_l8Ok_bools69_ : Array Bool := bs_ 58 8589934591
def spec_l8Ok_bools70_ : Array Bool := bs_ 58 17179869183
def spec_l8Ok_bools71_ : Array Bool := bs_ 58 34359738367
def spec_l8Ok_bools72_ : Array Bool := bs_ 58 68719476735
def spec_l8Ok_bools73_ : Array Bool := bs_ 58 137438953471
def spec_l8Ok_bools74_ : Array Bool := bs_ 58 274877906943
def spec_l8Ok_bools75_ : Array Bool := bs_ 58 549755813887
def spec_l8Ok_bools76_ : Array Bool := bs_ 58 1099511627775
def spec_l8Ok_bools77_ : Array Bool := bs_ 58 2199023255551
def spec_l8Ok_bools78_ : Array Bool := bs_ 58 4398046511103
def spec_l8Ok_bools79_ : Array Bool := bs_ 58 8796093022207
def spec_l8Ok_bools80_ : Array Bool := bs_ 58 17592186044415
def spec_l8Ok_bools81_ : Array Bool := bs_ 58 35184372088831
def spec_l8Ok_bools82_ : Array Bool := bs_ 58 70368744177663
def spec_l8Ok_bools83_ : Array Bool := bs_ 58 140737488355327
def spec_l8Ok_bools84_ : Array Bool := bs_ 58 281474976710655
def spec_l8Ok_bools85_ : Array Bool := bs_ 58 562949953421311
def spec_l8Ok_bools86_ : Array Bool := bs_ 58 1125899906842623
def spec_l8Ok_bools87_ : Array Bool := bs_ 58 2251799813685247
def spec_l8Ok_bools88_ : Array Bool := bs_ 58 4503599627370495
def spec_l8Ok_bools89_ : Array Bool := bs_ 58 9007199254740991
def spec_l8Ok_bools90_ : Array Bool := bs_ 58 18014398509481983
def spec_l8Ok_bools91_ : Array Bool := bs_ 58 36028797018963967
def spec_l8Ok_bools92_ : Array Bool := bs_ 58 72057594037927935
def spec_l8Ok_bools93_ : Array Bool := bs_ 58 144115188075855871
def spec_l8Ok_bools94_ : Array Bool := bs_ 58 288230376151711743
def spec_l8Ok_bools95_ : Array Bool := bs_ 58 1649267441663
def spec_l8Ok_bools96_ : Array Bool := bs_ 58 13510798882111487
def spec_l8Ok_bools97_ : Array Bool := bs_ 58 31525197391593471
def spec_l8Ok_bools98_ : Array Bool := bs_ 58 12287
def spec_l8Ok_bools99_ : Array Bool := bs_ 58 28671
def spec_l8Ok_bools100_ : Array Bool := bs_ 58 159743
def spec_l8Ok_bools101_ : Array Bool := bs_ 58 684031
def spec_l8Ok_bools102_ : Array Bool := bs_ 58 688127
def spec_l8Ok_bools103_ : Array Bool := bs_ 58 720895
def spec_l8Ok_bools104_ : Array Bool := bs_ 58 786431
/-! ### spec_l8Ok: function 25 -/
mutual
def spec_l8Ok.j0 : Nat → Int → Bool → List ByteArray → List (S32) → List (S81) → Option (Bool)
  | 0, _, _, _, _, _ => none
  | k + 1, x1, x24, x137000, x137001, x137002 => if x24 = true then (some false) else (spec_l8Ok.l0 k x1 0 x137000 x137001 x137002)
def spec_l8Ok.l0 : Nat → Int → Int → List ByteArray → List (S32) → List (S81) → Option (Bool)
  | 0, _, _, _, _, _ => none
  | k + 1, x1, x5, x137000, x137001, x137002 => if x5 < (x137002.length : Int) then (if 0 ≤ x5 then ((spec_l8SubOk.f k ((rd_T81 x137002 x5).f0) ((rd_T81 x137002 x5).f1) ((rd_T81 x137002 x5).f2)).bind fun t138 => (if t138 = true then (if x5 > 0 then (if 0 ≤ (wrap64 (x5 - 1)) then (if (wrap64 (x5 - 1)) < (x137002.length : Int) then (if ((Op.bytesLess (((rd_T81 x137002 (wrap64 (x5 - 1))).f0).toList) (((rd_T81 x137002 x5).f0).toList)) = true) then (spec_l8Ok.l0 k x1 (wrap64 (x5 + 1)) x137000 x137001 x137002) else (some false)) else (none)) else (none)) else (spec_l8Ok.l0 k x1 (wrap64 (x5 + 1)) x137000 x137001 x137002)) else (some false))) else (none)) else (spec_l8Ok.l1 k x1 0 x137000 x137001 x137002)
def spec_l8Ok.l1 : Nat → Int → Int → List ByteArray → List (S32) → List (S81) → Option (Bool)
  | 0, _, _, _, _, _ => none
  | k + 1, x1, x6, x137000, x137001, x137002 => if x6 < (x137000.length : Int) then (if 0 ≤ x6 then (if x6 < (x137001.length : Int) then ((spec_l8Level.f k (rdOf ByteArray.empty x137000 x6)).bind fun t144 => (if t144 = true then (if x6 > 0 then (if 0 ≤ (wrap64 (x6 - 1)) then (if (wrap64 (x6 - 1)) < (x137000.length : Int) then (if ((Op.bytesLess ((rdOf ByteArray.empty x137000 (wrap64 (x6 - 1))).toList) ((rdOf ByteArray.empty x137000 x6).toList)) = true) then (if (((rd_T32 x137001 x6).f0).length : Int) = 0 then (if (((rd_T32 x137001 x6).f2).length : Int) = 0 then (some false) else (if (rdOf ByteArray.empty x137000 x6).toList = ([35] : List UInt8) then (if (((rd_T32 x137001 x6).f0).length : Int) > 0 then (some false) else ((spec_l8Ok.f k ((rd_T32 x137001 x6).f0) ((rd_T32 x137001 x6).f1) ((rd_T32 x137001 x6).f2) (wrap64 (x1 + 1))).bind fun t148 => (if t148 = true then (spec_l8Ok.l1 k x1 (wrap64 (x6 + 1)) x137000 x137001 x137002) else (some false)))) else ((spec_l8Ok.f k ((rd_T32 x137001 x6).f0) ((rd_T32 x137001 x6).f1) ((rd_T32 x137001 x6).f2) (wrap64 (x1 + 1))).bind fun t149 => (if t149 = true then (spec_l8Ok.l1 k x1 (wrap64 (x6 + 1)) x137000 x137001 x137002) else (some false))))) else (if (rdOf ByteArray.empty x137000 x6).toList = ([35] : List UInt8) then (if (((rd_T32 x137001 x6).f0).length : Int) > 0 then (some false) else ((spec_l8Ok.f k ((rd_T32 x137001 x6).f0) ((rd_T32 x137001 x6).f1) ((rd_T32 x137001 x6).f2) (wrap64 (x1 + 1))).bind fun t151 => (if t151 = true then (spec_l8Ok.l1 k x1 (wrap64 (x6 + 1)) x137000 x137001 x137002) else (some false)))) else ((spec_l8Ok.f k ((rd_T32 x137001 x6).f0) ((rd_T32 x137001 x6).f1) ((rd_T32 x137001 x6).f2) (wrap64 (x1 + 1))).bind fun t152 => (if t152 = true then (spec_l8Ok.l1 k x1 (wrap64 (x6 + 1)) x137000 x137001 x137002) else (some false))))) else (some false)) else (none)) else (none)) else (if (((rd_T32 x137001 x6).f0).length : Int) = 0 then (if (((rd_T32 x137001 x6).f2).length : Int) = 0 then (some false) else (if (rdOf ByteArray.empty x137000 x6).toList = ([35] : List UInt8) then (if (((rd_T32 x137001 x6).f0).length : Int) > 0 then (some false) else ((spec_l8Ok.f k ((rd_T32 x137001 x6).f0) ((rd_T32 x137001 x6).f1) ((rd_T32 x137001 x6).f2) (wrap64 (x1 + 1))).bind fun t154 => (if t154 = true then (spec_l8Ok.l1 k x1 (wrap64 (x6 + 1)) x137000 x137001 x137002) else (some false)))) else ((spec_l8Ok.f k ((rd_T32 x137001 x6).f0) ((rd_T32 x137001 x6).f1) ((rd_T32 x137001 x6).f2) (wrap64 (x1 + 1))).bind fun t155 => (if t155 = true then (spec_l8Ok.l1 k x1 (wrap64 (x6 + 1)) x137000 x137001 x137002) else (some false))))) else (if (rdOf ByteArray.empty x137000 x6).toList = ([35] : List UInt8) then (if (((rd_T32 x137001 x6).f0).length : Int) > 0 then (some false) else ((spec_l8Ok.f k ((rd_T32 x137001 x6).f0) ((rd_T32 x137001 x6).f1) ((rd_T32 x137001 x6).f2) (wrap64 (x1 + 1))).bind fun t157 => (if t157 = true then (spec_l8Ok.l1 k x1 (wrap64 (x6 + 1)) x137000 x137001 x137002) else (some false)))) else ((spec_l8Ok.f k ((rd_T32 x137001 x6).f0) ((rd_T32 x137001 x6).f1) ((rd_T32 x137001 x6).f2) (wrap64 (x1 + 1))).bind fun t158 => (if t158 = true then (spec_l8Ok.l1 k x1 (wrap64 (x6 + 1)) x137000 x137001 x137002) else (some false)))))) else (some false))) else (none)) else (none)) else (some true)
def spec_l8Ok.f : Nat → List ByteArray → List (S32) → List (S81) → Int → Option (Bool)
  | 0, _, _, _, _ => none
  | k + 1, l0_0, l0_1, l0_2, a1 => if (l0_0.length : Int) = (l0_1.length : Int) then (if (l0_0.length : Int) > 0 then (spec_l8Ok.j0 k a1 (a1 == 6) l0_0 l0_1 l0_2) else (spec_l8Ok.j0 k a1 false l0_0 l0_1 l0_2)) else (spec_l8Ok.j0 k a1 true l0_0 l0_1 l0_2)
end
theorem spec_l8Ok.mono_l : ∀ k, (∀ y0 y1 y2 y3, LeO (spec_l8Ok.f k y0 y1 y2 y3) (spec_l8Ok.f (k + 1) y0 y1 y2 y3)) ∧ (∀ y0 y1 y2 y3 y4, LeO (spec_l8Ok.j0 k y0 y1 y2 y3 y4) (spec_l8Ok.j0 (k + 1) y0 y1 y2 y3 y4)) ∧ (∀ y0 y1 y2 y3 y4, LeO (spec_l8Ok.l0 k y0 y1 y2 y3 y4) (spec_l8Ok.l0 (k + 1) y0 y1 y2 y3 y4)) ∧ (∀ y0 y1 y2 y3 y4, LeO (spec_l8Ok.l1 k y0 y1 y2 y3 y4) (spec_l8Ok.l1 (k + 1) y0 y1 y2 y3 y4))
  | 0 => ⟨fun _ _ _ _ r h => by simp [spec_l8Ok.f] at h, fun _ _ _ _ _ r h => by simp [spec_l8Ok.j0] at h, fun _ _ _ _ _ r h => by simp [spec_l8Ok.l0] at h, fun _ _ _ _ _ r h => by simp [spec_l8Ok.l1] at h⟩
  | k + 1 => by
    obtain ⟨ih0, ih1, ih2, ih3⟩ := spec_l8Ok.mono_l k
    refine ⟨?_, ?_, ?_, ?_⟩
    · intro y0 y1 y2 y3
      unfold spec_l8Ok.f
      repeat' first
      | (with_reducible exact ih0 _ _ _ _)
      | (with_reducible exact ih1 _ _ _ _ _)
      | (with_reducible exact ih2 _ _ _ _ _)
      | (with_reducible exact ih3 _ _ _ _ _)
      | (with_reducible exact spec_l8Level.mono _ _)
      | (with_reducible exact spec_l8SubOk.mono _ _ _ _)
      | (with_reducible exact LeO.refl _)
      | (with_reducible exact LeO.none _)
      | (with_reducible refine LeO.ite ?_ ?_)
      | (with_reducible refine LeO.bind ?_ (fun _ => ?_))
      | exact ih0 _ _ _ _
      | exact ih1 _ _ _ _ _
      | exact ih2 _ _ _ _ _
      | exact ih3 _ _ _ _ _
      | exact spec_l8Level.mono _ _
      | exact spec_l8SubOk.mono _ _ _ _
      | exact LeO.none _
      | refine LeO.ite ?_ ?_
      | refine LeO.bind ?_ (fun _ => ?_)
    · intro y0 y1 y2 y3 y4
      unfold spec_l8Ok.j0
      repeat' first
      | (with_reducible exact ih0 _ _ _ _)
      | (with_reducible exact ih1 _ _ _ _ _)
      | (with_reducible exact ih2 _ _ _ _ _)
      | (with_reducible exact ih3 _ _ _ _ _)
      | (with_reducible exact spec_l8Level.mono _ _)
      | (with_reducible exact spec_l8SubOk.mono _ _ _ _)
      | (with_reducible exact LeO.refl _)
      | (with_reducible exact LeO.none _)
      | (with_reducible refine LeO.ite ?_ ?_)
      | (with_reducible refine LeO.bind ?_ (fun _ => ?_))
      | exact ih0 _ _ _ _
      | exact ih1 _ _ _ _ _
      | exact ih2 _ _ _ _ _
      | exact ih3 _ _ _ _ _
      | exact spec_l8Level.mono _ _
      | exact spec_l8SubOk.mono _ _ _ _
      | exact LeO.none _
      | refine LeO.ite ?_ ?_
      | refine LeO.bind ?_ (fun _ => ?_)
    · intro y0 y1 y2 y3 y4
      unfold spec_l8Ok.l0
      repeat' first
      | (with_reducible exact ih0 _ _ _ _)
      | (with_reducible exact ih1 _ _ _ _ _)
      | (with_reducible exact ih2 _ _ _ _ _)
      | (with_reducible exact ih3 _ _ _ _ _)
      | (with_reducible exact spec_l8Level.mono _ _)
      | (with_reducible exact spec_l8SubOk.mono _ _ _ _)
      | (with_reducible exact LeO.refl _)
      | (with_reducible exact LeO.none _)
      | (with_reducible refine LeO.ite ?_ ?_)
      | (with_reducible refine LeO.bind ?_ (fun _ => ?_))
      | exact ih0 _ _ _ _
      | exact ih1 _ _ _ _ _
      | exact ih2 _ _ _ _ _
      | exact ih3 _ _ _ _ _
      | exact spec_l8Level.mono _ _
      | exact spec_l8SubOk.mono _ _ _ _
      | exact LeO.none _
      | refine LeO.ite ?_ ?_
      | refine LeO.bind ?_ (fun _ => ?_)
    · intro y0 y1 y2 y3 y4
      unfold spec_l8Ok.l1
      repeat' first
      | (with_reducible exact ih0 _ _ _ _)
      | (with_reducible exact ih1 _ _ _ _ _)
      | (with_reducible exact ih2 _ _ _ _ _)
      | (with_reducible exact ih3 _ _ _ _ _)
      | (with_reducible exact spec_l8Level.mono _ _)
      | (with_reducible exact spec_l8SubOk.mono _ _ _ _)
      | (with_reducible exact LeO.refl _)
      | (with_reducible exact LeO.none _)
      | (with_reducible refine LeO.ite ?_ ?_)
      | (with_reducible refine LeO.bind ?_ (fun _ => ?_))
      | exact ih0 _ _ _ _
      | exact ih1 _ _ _ _ _
      | exact ih2 _ _ _ _ _
      | exact ih3 _ _ _ _ _
      | exact spec_l8Level.mono _ _
      | exact spec_l8SubOk.mono _ _ _ _
      | exact LeO.none _
      | refine LeO.ite ?_ ?_
      | refine LeO.bind ?_ (fun _ => ?_)
theorem spec_l8Ok.mono : ∀ a0 a1 a2 a3 k, LeO (spec_l8Ok.f k a0 a1 a2 a3) (spec_l8Ok.f (k + 1) a0 a1 a2 a3) := by
  intro a0 a1 a2 a3 k
  obtain ⟨ih0, ih1, ih2, ih3⟩ := spec_l8Ok.mono_l k
  exact ih0 a0 a1 a2 a3
def spec_l8Ok.T6 : Bool × List (List Nat × List Nat) := (true, [([], []), ([0], [0]), ([], []), ([1, 2], [1, 2]), ([3], [3]), ([4], [4]), ([5], [5]), ([6, 5], [6]), ([7], [7]), ([8, 7], [7, 8]), ([9, 7, 7], [7, 9]), ([10], [10]), ([11, 10], [10, 11]), ([10], [10]), ([13, 10], [10, 13]), ([12, 14, 10], [10, 12, 14]), ([15, 10], [10, 15]), ([16, 10], [10, 16]), ([10], [10]), ([18, 10], [10, 18]), ([10], [10]), ([19, 20, 10], [10, 19, 20]), ([21, 10], [10, 21]), ([22, 10], [10, 22]), ([17, 23, 10], [10, 17, 23]), ([10, 24, 7], [7, 10, 24]), ([7, 25], [7, 25])])
def spec_l8Ok.B6 : List Nat := [0, 1, 0, 7, 15, 31, 63, 127, 255, 511, 1023, 2047, 4095, 2047, 10239, 32767, 65535, 131071, 2047, 264191, 2047, 1837055, 3934207, 8128511, 16777215, 33554431, 67108863]
theorem spec_l8Ok.tab6 : rtab .any (opsOf Tryd.f25 6) = spec_l8Ok.T6 := by kernel_rfl
theorem spec_l8Ok.bits6 : waitsOk spec_l8Ok.T6.2 spec_l8Ok.B6 = true := by kernel_rfl
def spec_l8Ok.T12 : Bool × List (List Nat × List Nat) := (true, [([], []), ([0], [0]), ([], []), ([1, 2], [1, 2]), ([3], [3]), ([4], [4]), ([5], [5]), ([6, 5], [6]), ([7], [7]), ([8, 7], [7, 8]), ([9, 7, 7], [7, 9]), ([10], [10]), ([11, 10], [10, 11]), ([10], [10]), ([13, 10], [10, 13]), ([12, 14, 10], [10, 12, 14]), ([15, 10], [10, 15]), ([10], [10]), ([17, 10], [10, 17]), ([10], [10]), ([18, 19, 10], [10, 18, 19]), ([20, 10], [10, 20]), ([16, 21, 10], [10, 16, 21]), ([10, 22, 7], [7, 10, 22]), ([7, 23], [7, 23]), ([24, 10], [24]), ([25], [25]), ([26, 25], [25, 26]), ([27, 25], [25, 27]), ([28, 25], [25, 28]), ([29, 25, 25], [25, 29]), ([30], [30]), ([31, 30], [30, 31]), ([32, 30], [30, 32]), ([33, 30], [30, 33]), ([30, 34, 25], [25, 30, 34]), ([25, 35], [25, 35]), ([36, 30], [36]), ([37], [37]), ([38, 37], [37, 38]), ([37], [37]), ([39, 40, 37], [37, 39, 40]), ([41, 37], [37, 41]), ([42, 37], [37, 42]), ([43, 37, 37], [37, 43]), ([44], [44]), ([45, 44], [44, 45]), ([46, 44], [44, 46]), ([47, 44], [44, 47]), ([44, 48, 37], [37, 44, 48]), ([37, 49], [37, 49]), ([50, 44], [50]), ([51], [51]), ([51], [51]), ([53, 51], [51, 53]), ([52, 54, 51, 51], [51, 52, 54]), ([55, 51], [51, 55]), ([51, 56], [51, 56])])
def spec_l8Ok.B12 : List Nat := [0, 1, 0, 7, 15, 31, 63, 127, 255, 511, 1023, 2047, 4095, 2047, 10239, 32767, 65535, 2047, 133119, 2047, 919551, 1968127, 4194303, 8388607, 16777215, 33554431, 67108863, 134217727, 268435455, 536870911, 1073741823, 2147483647, 4294967295, 8589934591, 17179869183, 34359738367, 68719476735, 137438953471, 274877906943, 549755813887, 274877906943, 2199023255551, 4398046511103, 8796093022207, 17592186044415, 35184372088831, 70368744177663, 140737488355327, 281474976710655, 562949953421311, 1125899906842623, 2251799813685247, 4503599627370495, 4503599627370495, 13510798882111487, 36028797018963967, 72057594037927935, 144115188075855871]
theorem spec_l8Ok.tab12 : rtab .any (opsOf Tryd.f25 12) = spec_l8Ok.T12 := by kernel_rfl
theorem spec_l8Ok.bits12 : waitsOk spec_l8Ok.T12.2 spec_l8Ok.B12 = true := by kernel_rfl
theorem spec_l8Ok_z5 {p : Prop} (h : p := by
  with_reducible refine (ih kz2 (by have := HJz1.out; have := HKz1.out; have := HKz2.out; omega) _ _ ((rd_T32 lz2 xz3).f0) _ _ ((rd_T32 lz2 xz3).f1) _ _ ((rd_T32 lz2 xz3).f2) (wrap64 (az1 + 1)) false _ ?side1 ?side2 ?side3 ?side4 ?side5 ?side6 Az10.out).mono ?_
  (case side1 => exact Kd.C_below HRz4.out be_)
  (case side2 => exact HCz5.out)
  (case side3 => exact Kd.C_below HRz5.out be_)
  (case side4 => exact HCz6.out)
  (case side5 => exact Kd.C_below HRz6.out be_)
  (case side6 => exact HCz7.out)
  rintro e wz6 ⟨rfl, hb⟩
  refine ⟨_, rfl, ?_⟩
  have nz1 := Aside0.mk (blk_below (g := gbz1) (o := .cells #[.slice (some adz2) lz1.length cz1, .slice (some adz1) lz2.length cz2, .slice Az3 lz3.length cz3] 32 (0, 0)) bk_ hb)
  have nz2 := Aside0.mk (blk_below (g := gbz2) (o := .cells #[.slice Az6 ((rd_T32 lz2 xz3).f0).length cz11, .slice Az7 ((rd_T32 lz2 xz3).f1).length cz12, .slice Az8 ((rd_T32 lz2 xz3).f2).length cz13] 32 (0, 0)) bk_ hb)
  have nz3 := Aside0.mk (below_step be_ hb)
  clear BKz1
  clear BKz2
  clear HB
  have BKz1 := nz1
  have BKz2 := nz2
  have HB := nz3
  clear nz1 nz2 nz3
  (try clear hb)
  (try clear hb2)
  (try clear hk)
  (try clear hi)
  refine hK.out _ _ ⟨(blk_cell BKz1.out 0).trans rfl, (blk_cell BKz1.out 1).trans rfl, (blk_cell BKz1.out 2).trans rfl, (blk_cell BKz2.out 0).trans rfl, (blk_cell BKz2.out 1).trans rfl, (blk_cell BKz2.out 2).trans rfl, ((HB.out.cell (World.block_lt_of_cell? w _ hwz1)).trans hwz1), ((HB.out.cell (World.block_lt_of_cell? w _ hwz2)).trans hwz2)⟩ (fun hHeld => ?_)
  clear hK K
  refine norm_ (a' := ?_) ?_ ?_
  rotate_left
  · show Act.put _ (some 126) _ = _
    simp only [Act.put, List.setIfInBounds_toArray, List.set_cons_zero, List.set_cons_succ, i64_w, i32_w]
    rfl
  refine pu_ HT_ 56 127 spec_l8Ok_bools93_ ?_
  refine pu_ HT_ 57 128 spec_l8Ok_bools94_ ?_
  refine done_ (done_of HT_.out (by kernel_rfl)) ?_
  try go_wp2
  go_ret
  exact ⟨by first | rfl | (simp [errW_none, errW_some] <;> rfl) | (simp [*, errW_none, errW_some] <;> rfl), be_⟩) : p := h
theorem spec_l8Ok_z4 {p : Prop} (h : p := by
  obtain rfl := Option.some.inj H
  exact spec_l8Ok_z5) : p := h
theorem spec_l8Ok_z3 {p : Prop} (h : p := by
  clear Hz1
  exact spec_l8Ok_z4) : p := h
theorem spec_l8Ok_z2 {p : Prop} (h : p := by
  have H := Hz1
  exact spec_l8Ok_z3) : p := h
theorem spec_l8Ok_z1 {p : Prop} (h : p := by
  clear H
  exact spec_l8Ok_z2) : p := h
theorem spec_l8Ok_z0 {p : Prop} (h : p := by
  have Hz1 : (some false) = some r := by rw [if_neg (show ¬ (false = true) by decide)] at H; exact H
  exact spec_l8Ok_z1) : p := h
theorem spec_l8Ok_z12 {p : Prop} (h : p := by
  with_reducible refine (ih kz2 (by have := HJz1.out; have := HKz1.out; have := HKz2.out; omega) _ _ ((rd_T32 lz2 xz3).f0) _ _ ((rd_T32 lz2 xz3).f1) _ _ ((rd_T32 lz2 xz3).f2) (wrap64 (az1 + 1)) true _ ?side1 ?side2 ?side3 ?side4 ?side5 ?side6 Az10.out).mono ?_
  (case side1 => exact Kd.C_below HRz4.out be_)
  (case side2 => exact HCz5.out)
  (case side3 => exact Kd.C_below HRz5.out be_)
  (case side4 => exact HCz6.out)
  (case side5 => exact Kd.C_below HRz6.out be_)
  (case side6 => exact HCz7.out)
  rintro e wz6 ⟨rfl, hb⟩
  refine ⟨_, rfl, ?_⟩
  have nz1 := Aside0.mk (blk_below (g := gbz1) (o := .cells #[.slice (some adz2) lz1.length cz1, .slice (some adz1) lz2.length cz2, .slice Az3 lz3.length cz3] 32 (0, 0)) bk_ hb)
  have nz2 := Aside0.mk (blk_below (g := gbz2) (o := .cells #[.slice Az6 ((rd_T32 lz2 xz3).f0).length cz11, .slice Az7 ((rd_T32 lz2 xz3).f1).length cz12, .slice Az8 ((rd_T32 lz2 xz3).f2).length cz13] 32 (0, 0)) bk_ hb)
  have nz3 := Aside0.mk (below_step be_ hb)
  clear BKz1
  clear BKz2
  clear HB
  have BKz1 := nz1
  have BKz2 := nz2
  have HB := nz3
  clear nz1 nz2 nz3
  (try clear hb)
  (try clear hb2)
  (try clear hk)
  (try clear hi)
  refine hK.out _ _ ⟨(blk_cell BKz1.out 0).trans rfl, (blk_cell BKz1.out 1).trans rfl, (blk_cell BKz1.out 2).trans rfl, (blk_cell BKz2.out 0).trans rfl, (blk_cell BKz2.out 1).trans rfl, (blk_cell BKz2.out 2).trans rfl, ((HB.out.cell (World.block_lt_of_cell? w _ hwz1)).trans hwz1), ((HB.out.cell (World.block_lt_of_cell? w _ hwz2)).trans hwz2)⟩ (fun hHeld => ?_)
  clear hK K
  refine norm_ (a' := ?_) ?_ ?_
  rotate_left
  · show Act.put _ (some 126) _ = _
    simp only [Act.put, List.setIfInBounds_toArray, List.set_cons_zero, List.set_cons_succ, i64_w, i32_w]
    rfl
  refine pu_ HT_ 56 127 spec_l8Ok_bools93_ ?_
  refine pu_ HT_ 57 128 spec_l8Ok_bools94_ ?_
  refine done_ (done_of HT_.out (by kernel_rfl)) ?_
  try go_wp2
  go_roundg kz2
  case measure => have := HJz1.out; have := HKz1.out; have := HKz2.out; omega
  case rel => exact ⟨(wrap64 (xz3 + 1)), (by first | rfl | (simp; done) | (simp [*]; done)), H', ⟨by have := HJz1.out; have := HKz1.out; have := HKz2.out; omega⟩, ⟨bk_⟩, ⟨be_⟩⟩) : p := h
theorem spec_l8Ok_z11 {p : Prop} (h : p := by
  clear H
  exact spec_l8Ok_z12) : p := h
theorem spec_l8Ok_z10 {p : Prop} (h : p := by
  have H' := Aside0.mk H
  exact spec_l8Ok_z11) : p := h
theorem spec_l8Ok_z9 {p : Prop} (h : p := by
  clear Hz1
  exact spec_l8Ok_z10) : p := h
theorem spec_l8Ok_z8 {p : Prop} (h : p := by
  have H := Hz1
  exact spec_l8Ok_z9) : p := h
theorem spec_l8Ok_z7 {p : Prop} (h : p := by
  clear H
  exact spec_l8Ok_z8) : p := h
theorem spec_l8Ok_z6 {p : Prop} (h : p := by
  have Hz1 : (spec_l8Ok.l1 kz2 az1 (wrap64 (xz3 + 1)) lz1 lz2 lz3) = some r := by rw [if_pos rfl] at H; exact H
  exact spec_l8Ok_z7) : p := h
theorem spec_l8Ok_z16 {p : Prop} (h : p := by
  refine un_ HT_ 55 126 spec_l8Ok_bools92_ ?_
  refine un_ HT_ 56 127 spec_l8Ok_bools93_ ?_
  refine pu_ HT_ 57 128 spec_l8Ok_bools94_ ?_
  refine done_ (done_of HT_.out (by kernel_rfl)) ?_
  try go_wp2
  go_ret
  exact ⟨by first | rfl | (simp [errW_none, errW_some] <;> rfl) | (simp [*, errW_none, errW_some] <;> rfl), be_⟩) : p := h
theorem spec_l8Ok_z15 {p : Prop} (h : p := by
  refine un_ HT_ 54 125 spec_l8Ok_bools91_ ?_
  exact spec_l8Ok_z16) : p := h
theorem spec_l8Ok_z14 {p : Prop} (h : p := by
  refine un_ HT_ 53 124 spec_l8Ok_bools90_ ?_
  exact spec_l8Ok_z15) : p := h
theorem spec_l8Ok_z13 {p : Prop} (h : p := by
  refine un_ HT_ 52 123 spec_l8Ok_bools89_ ?_
  exact spec_l8Ok_z14) : p := h
theorem spec_l8Ok_z26 {p : Prop} (h : p := by
  subst cz17
  exact spec_l8Ok_z0) : p := h
theorem spec_l8Ok_z25 {p : Prop} (h : p := by
  replace cz17 := Bool.eq_false_iff.mpr cz17
  exact spec_l8Ok_z26) : p := h
theorem spec_l8Ok_z27 {p : Prop} (h : p := by
  subst cz17
  exact spec_l8Ok_z6) : p := h
theorem spec_l8Ok_z24 {p : Prop} (h : p := by
  by_cases cz17 : tz2 = true
  rotate_left
  · exact spec_l8Ok_z25
  exact spec_l8Ok_z27) : p := h
theorem spec_l8Ok_z23 {p : Prop} (h : p := by
  clear HXz4
  exact spec_l8Ok_z24) : p := h
theorem spec_l8Ok_z22 {p : Prop} (h : p := by
  have H := HXz4.out
  exact spec_l8Ok_z23) : p := h
theorem spec_l8Ok_z21 {p : Prop} (h : p := by
  refine goes_ Tryd.func25 (by kernel_rfl) rfl #[.agg #[.slice Az6 ((rd_T32 lz2 xz3).f0).length cz11, .slice Az7 ((rd_T32 lz2 xz3).f1).length cz12, .slice Az8 ((rd_T32 lz2 xz3).f2).length cz13], .int .i64 (wrap64 (az1 + 1))] (by rfl) rfl rfl ar_ ?_
  exact spec_l8Ok_z22) : p := h
theorem spec_l8Ok_z20 {p : Prop} (h : p := by
  refine one_ (i := 55) (N := some 126) spec_l8Ok_bools92_ rfl rfl (one_of HT_.out (by kernel_rfl)) (by decide) (fun K hK => ?_)
  exact spec_l8Ok_z21) : p := h
theorem spec_l8Ok_z19 {p : Prop} (h : p := by
  refine ta_ HT_ HW_ hHeld 52 123 spec_l8Ok_bools91_ ?_
  exact spec_l8Ok_z20) : p := h
theorem spec_l8Ok_z18 {p : Prop} (h : p := by
  refine pu_ HT_ 54 125 spec_l8Ok_bools97_ ?_
  exact spec_l8Ok_z19) : p := h
theorem spec_l8Ok_z17 {p : Prop} (h : p := by
  refine pu_ HT_ 53 124 spec_l8Ok_bools96_ ?_
  exact spec_l8Ok_z18) : p := h
theorem spec_l8Ok_z47 {p : Prop} (h : p := by
  refine pu_ HT_ 57 128 spec_l8Ok_bools94_ ?_
  refine done_ (done_of HT_.out (by kernel_rfl)) ?_
  try go_wp2
  go_ret
  exact ⟨by first | rfl | (simp [errW_none, errW_some] <;> rfl) | (simp only [← hjiz1]; first | rfl | (simp [errW_none, errW_some] <;> rfl)) | (simp [*, errW_none, errW_some] <;> rfl), be_⟩) : p := h
theorem spec_l8Ok_z46 {p : Prop} (h : p := by
  refine un_ HT_ 56 127 spec_l8Ok_bools93_ ?_
  exact spec_l8Ok_z47) : p := h
theorem spec_l8Ok_z45 {p : Prop} (h : p := by
  refine un_ HT_ 55 126 spec_l8Ok_bools92_ ?_
  exact spec_l8Ok_z46) : p := h
theorem spec_l8Ok_z44 {p : Prop} (h : p := by
  refine un_ HT_ 54 125 spec_l8Ok_bools91_ ?_
  exact spec_l8Ok_z45) : p := h
theorem spec_l8Ok_z43 {p : Prop} (h : p := by
  refine un_ HT_ 53 124 spec_l8Ok_bools90_ ?_
  exact spec_l8Ok_z44) : p := h
theorem spec_l8Ok_z42 {p : Prop} (h : p := by
  refine un_ HT_ 52 123 spec_l8Ok_bools89_ ?_
  exact spec_l8Ok_z43) : p := h
theorem spec_l8Ok_z41 {p : Prop} (h : p := by
  refine pu_ HT_ 51 122 spec_l8Ok_bools88_ ?_
  exact spec_l8Ok_z42) : p := h
theorem spec_l8Ok_z40 {p : Prop} (h : p := by
  refine pu_ HT_ 50 121 spec_l8Ok_bools87_ ?_
  exact spec_l8Ok_z41) : p := h
theorem spec_l8Ok_z39 {p : Prop} (h : p := by
  refine un_ HT_ 49 120 spec_l8Ok_bools86_ ?_
  exact spec_l8Ok_z40) : p := h
theorem spec_l8Ok_z38 {p : Prop} (h : p := by
  refine un_ HT_ 48 119 spec_l8Ok_bools85_ ?_
  exact spec_l8Ok_z39) : p := h
theorem spec_l8Ok_z37 {p : Prop} (h : p := by
  refine un_ HT_ 47 118 spec_l8Ok_bools84_ ?_
  exact spec_l8Ok_z38) : p := h
theorem spec_l8Ok_z36 {p : Prop} (h : p := by
  refine un_ HT_ 46 117 spec_l8Ok_bools83_ ?_
  exact spec_l8Ok_z37) : p := h
theorem spec_l8Ok_z35 {p : Prop} (h : p := by
  refine un_ HT_ 45 116 spec_l8Ok_bools82_ ?_
  exact spec_l8Ok_z36) : p := h
theorem spec_l8Ok_z34 {p : Prop} (h : p := by
  refine un_ HT_ 44 115 spec_l8Ok_bools81_ ?_
  exact spec_l8Ok_z35) : p := h
theorem spec_l8Ok_z33 {p : Prop} (h : p := by
  refine un_ HT_ 43 114 spec_l8Ok_bools80_ ?_
  exact spec_l8Ok_z34) : p := h
theorem spec_l8Ok_z32 {p : Prop} (h : p := by
  refine un_ HT_ 42 113 spec_l8Ok_bools79_ ?_
  exact spec_l8Ok_z33) : p := h
theorem spec_l8Ok_z31 {p : Prop} (h : p := by
  refine un_ HT_ 41 112 spec_l8Ok_bools78_ ?_
  exact spec_l8Ok_z32) : p := h
theorem spec_l8Ok_z30 {p : Prop} (h : p := by
  refine un_ HT_ 40 111 spec_l8Ok_bools77_ ?_
  exact spec_l8Ok_z31) : p := h
theorem spec_l8Ok_z29 {p : Prop} (h : p := by
  refine un_ HT_ 39 110 spec_l8Ok_bools76_ ?_
  exact spec_l8Ok_z30) : p := h
theorem spec_l8Ok_z28 {p : Prop} (h : p := by
  refine un_ HT_ 38 109 spec_l8Ok_bools75_ ?_
  exact spec_l8Ok_z29) : p := h
theorem spec_l8Ok_z53 {p : Prop} (h : p := by
  with_reducible refine (ih kz2 (by have := HJz1.out; have := HKz1.out; have := HKz2.out; omega) _ _ ((rd_T32 lz2 xz3).f0) _ _ ((rd_T32 lz2 xz3).f1) _ _ ((rd_T32 lz2 xz3).f2) (wrap64 (az1 + 1)) false _ ?side1 ?side2 ?side3 ?side4 ?side5 ?side6 Az10.out).mono ?_
  (case side1 => exact Kd.C_below HRz4.out be_)
  (case side2 => exact HCz5.out)
  (case side3 => exact Kd.C_below HRz5.out be_)
  (case side4 => exact HCz6.out)
  (case side5 => exact Kd.C_below HRz6.out be_)
  (case side6 => exact HCz7.out)
  rintro e wz6 ⟨rfl, hb⟩
  refine ⟨_, rfl, ?_⟩
  have nz1 := Aside0.mk (blk_below (g := gbz1) (o := .cells #[.slice (some adz2) lz1.length cz1, .slice (some adz1) lz2.length cz2, .slice Az3 lz3.length cz3] 32 (0, 0)) bk_ hb)
  have nz2 := Aside0.mk (blk_below (g := gbz2) (o := .cells #[.slice Az6 ((rd_T32 lz2 xz3).f0).length cz13, .slice Az7 ((rd_T32 lz2 xz3).f1).length cz14, .slice Az8 ((rd_T32 lz2 xz3).f2).length cz15] 32 (0, 0)) bk_ hb)
  have nz3 := Aside0.mk (below_step be_ hb)
  clear BKz1
  clear BKz2
  clear HB
  have BKz1 := nz1
  have BKz2 := nz2
  have HB := nz3
  clear nz1 nz2 nz3
  (try clear hb)
  (try clear hb2)
  (try clear hk)
  (try clear hi)
  refine hK.out _ _ ⟨(blk_cell BKz1.out 0).trans rfl, (blk_cell BKz1.out 1).trans rfl, (blk_cell BKz1.out 2).trans rfl, (blk_cell BKz2.out 0).trans rfl, (blk_cell BKz2.out 1).trans rfl, (blk_cell BKz2.out 2).trans rfl, ((HB.out.cell (World.block_lt_of_cell? w _ hwz1)).trans hwz1), ((HB.out.cell (World.block_lt_of_cell? w _ hwz2)).trans hwz2), ((HB.out.cell (World.block_lt_of_cell? w _ hwz3)).trans hwz3), ((HB.out.cell (World.block_lt_of_cell? w _ hwz4)).trans hwz4)⟩ (fun hHeld => ?_)
  clear hK K
  refine norm_ (a' := ?_) ?_ ?_
  rotate_left
  · show Act.put _ (some 126) _ = _
    simp only [Act.put, List.setIfInBounds_toArray, List.set_cons_zero, List.set_cons_succ, i64_w, i32_w]
    rfl
  refine pu_ HT_ 56 127 spec_l8Ok_bools93_ ?_
  refine pu_ HT_ 57 128 spec_l8Ok_bools94_ ?_
  refine done_ (done_of HT_.out (by kernel_rfl)) ?_
  try go_wp2
  go_ret
  exact ⟨by first | rfl | (simp [errW_none, errW_some] <;> rfl) | (simp only [← hjiz1]; first | rfl | (simp [errW_none, errW_some] <;> rfl)) | (simp [*, errW_none, errW_some] <;> rfl), be_⟩) : p := h
theorem spec_l8Ok_z52 {p : Prop} (h : p := by
  obtain rfl := Option.some.inj H
  exact spec_l8Ok_z53) : p := h
theorem spec_l8Ok_z51 {p : Prop} (h : p := by
  clear Hz1
  exact spec_l8Ok_z52) : p := h
theorem spec_l8Ok_z50 {p : Prop} (h : p := by
  have H := Hz1
  exact spec_l8Ok_z51) : p := h
theorem spec_l8Ok_z49 {p : Prop} (h : p := by
  clear H
  exact spec_l8Ok_z50) : p := h
theorem spec_l8Ok_z48 {p : Prop} (h : p := by
  have Hz1 : (some false) = some r := by rw [if_neg (show ¬ (false = true) by decide)] at H; exact H
  exact spec_l8Ok_z49) : p := h
theorem spec_l8Ok_z60 {p : Prop} (h : p := by
  with_reducible refine (ih kz2 (by have := HJz1.out; have := HKz1.out; have := HKz2.out; omega) _ _ ((rd_T32 lz2 xz3).f0) _ _ ((rd_T32 lz2 xz3).f1) _ _ ((rd_T32 lz2 xz3).f2) (wrap64 (az1 + 1)) true _ ?side1 ?side2 ?side3 ?side4 ?side5 ?side6 Az10.out).mono ?_
  (case side1 => exact Kd.C_below HRz4.out be_)
  (case side2 => exact HCz5.out)
  (case side3 => exact Kd.C_below HRz5.out be_)
  (case side4 => exact HCz6.out)
  (case side5 => exact Kd.C_below HRz6.out be_)
  (case side6 => exact HCz7.out)
  rintro e wz6 ⟨rfl, hb⟩
  refine ⟨_, rfl, ?_⟩
  have nz1 := Aside0.mk (blk_below (g := gbz1) (o := .cells #[.slice (some adz2) lz1.length cz1, .slice (some adz1) lz2.length cz2, .slice Az3 lz3.length cz3] 32 (0, 0)) bk_ hb)
  have nz2 := Aside0.mk (blk_below (g := gbz2) (o := .cells #[.slice Az6 ((rd_T32 lz2 xz3).f0).length cz13, .slice Az7 ((rd_T32 lz2 xz3).f1).length cz14, .slice Az8 ((rd_T32 lz2 xz3).f2).length cz15] 32 (0, 0)) bk_ hb)
  have nz3 := Aside0.mk (below_step be_ hb)
  clear BKz1
  clear BKz2
  clear HB
  have BKz1 := nz1
  have BKz2 := nz2
  have HB := nz3
  clear nz1 nz2 nz3
  (try clear hb)
  (try clear hb2)
  (try clear hk)
  (try clear hi)
  refine hK.out _ _ ⟨(blk_cell BKz1.out 0).trans rfl, (blk_cell BKz1.out 1).trans rfl, (blk_cell BKz1.out 2).trans rfl, (blk_cell BKz2.out 0).trans rfl, (blk_cell BKz2.out 1).trans rfl, (blk_cell BKz2.out 2).trans rfl, ((HB.out.cell (World.block_lt_of_cell? w _ hwz1)).trans hwz1), ((HB.out.cell (World.block_lt_of_cell? w _ hwz2)).trans hwz2), ((HB.out.cell (World.block_lt_of_cell? w _ hwz3)).trans hwz3), ((HB.out.cell (World.block_lt_of_cell? w _ hwz4)).trans hwz4)⟩ (fun hHeld => ?_)
  clear hK K
  refine norm_ (a' := ?_) ?_ ?_
  rotate_left
  · show Act.put _ (some 126) _ = _
    simp only [Act.put, List.setIfInBounds_toArray, List.set_cons_zero, List.set_cons_succ, i64_w, i32_w]
    rfl
  refine pu_ HT_ 56 127 spec_l8Ok_bools93_ ?_
  refine pu_ HT_ 57 128 spec_l8Ok_bools94_ ?_
  refine done_ (done_of HT_.out (by kernel_rfl)) ?_
  try go_wp2
  go_roundg kz2
  case measure => have := HJz1.out; have := HKz1.out; have := HKz2.out; omega
  case rel => exact ⟨(wrap64 (xz3 + 1)), (by first | rfl | (simp; done) | (simp [*]; done)), H', ⟨by have := HJz1.out; have := HKz1.out; have := HKz2.out; omega⟩, ⟨bk_⟩, ⟨be_⟩⟩) : p := h
theorem spec_l8Ok_z59 {p : Prop} (h : p := by
  clear H
  exact spec_l8Ok_z60) : p := h
theorem spec_l8Ok_z58 {p : Prop} (h : p := by
  have H' := Aside0.mk H
  exact spec_l8Ok_z59) : p := h
theorem spec_l8Ok_z57 {p : Prop} (h : p := by
  clear Hz1
  exact spec_l8Ok_z58) : p := h
theorem spec_l8Ok_z56 {p : Prop} (h : p := by
  have H := Hz1
  exact spec_l8Ok_z57) : p := h
theorem spec_l8Ok_z55 {p : Prop} (h : p := by
  clear H
  exact spec_l8Ok_z56) : p := h
theorem spec_l8Ok_z54 {p : Prop} (h : p := by
  have Hz1 : (spec_l8Ok.l1 kz2 az1 (wrap64 (xz3 + 1)) lz1 lz2 lz3) = some r := by rw [if_pos rfl] at H; exact H
  exact spec_l8Ok_z55) : p := h
theorem spec_l8Ok_z70 {p : Prop} (h : p := by
  subst cz20
  exact spec_l8Ok_z48) : p := h
theorem spec_l8Ok_z69 {p : Prop} (h : p := by
  replace cz20 := Bool.eq_false_iff.mpr cz20
  exact spec_l8Ok_z70) : p := h
theorem spec_l8Ok_z71 {p : Prop} (h : p := by
  subst cz20
  exact spec_l8Ok_z54) : p := h
theorem spec_l8Ok_z68 {p : Prop} (h : p := by
  by_cases cz20 : tz2 = true
  rotate_left
  · exact spec_l8Ok_z69
  exact spec_l8Ok_z71) : p := h
theorem spec_l8Ok_z67 {p : Prop} (h : p := by
  clear HXz5
  exact spec_l8Ok_z68) : p := h
theorem spec_l8Ok_z66 {p : Prop} (h : p := by
  have H := HXz5.out
  exact spec_l8Ok_z67) : p := h
theorem spec_l8Ok_z65 {p : Prop} (h : p := by
  refine goes_ Tryd.func25 (by kernel_rfl) rfl #[.agg #[.slice Az6 ((rd_T32 lz2 xz3).f0).length cz13, .slice Az7 ((rd_T32 lz2 xz3).f1).length cz14, .slice Az8 ((rd_T32 lz2 xz3).f2).length cz15], .int .i64 (wrap64 (az1 + 1))] (by rfl) rfl rfl ar_ ?_
  exact spec_l8Ok_z66) : p := h
theorem spec_l8Ok_z64 {p : Prop} (h : p := by
  refine one_ (i := 55) (N := some 126) spec_l8Ok_bools92_ rfl rfl (one_of HT_.out (by kernel_rfl)) (by decide) (fun K hK => ?_)
  exact spec_l8Ok_z65) : p := h
theorem spec_l8Ok_z63 {p : Prop} (h : p := by
  refine ta_ HT_ HW_ hHeld 52 123 spec_l8Ok_bools91_ ?_
  exact spec_l8Ok_z64) : p := h
theorem spec_l8Ok_z62 {p : Prop} (h : p := by
  refine pu_ HT_ 54 125 spec_l8Ok_bools97_ ?_
  exact spec_l8Ok_z63) : p := h
theorem spec_l8Ok_z61 {p : Prop} (h : p := by
  refine pu_ HT_ 53 124 spec_l8Ok_bools96_ ?_
  exact spec_l8Ok_z62) : p := h
set_option maxHeartbeats 8000000 in
set_option maxRecDepth 100000 in
theorem spec_l8Ok.calls (k : Nat) : ∀ (A0_0 : Option Addr) (c0_0 : Nat) (l0_0 : List ByteArray) (A0_1 : Option Addr) (c0_1 : Nat) (l0_1 : List (S32)) (A0_2 : Option Addr) (c0_2 : Nat) (l0_2 : List (S81)) (a1 : Int) (r : Bool) (w : World) (hr0_0 : Kd.C Kd.string w A0_0 l0_0.length l0_0) (hc0_0 : l0_0.length ≤ c0_0) (hr0_1 : Kd.C k32 w A0_1 l0_1.length l0_1) (hc0_1 : l0_1.length ≤ c0_1) (hr0_2 : Kd.C k81 w A0_2 l0_2.length l0_2) (hc0_2 : l0_2.length ≤ c0_2) (h : spec_l8Ok.f k l0_0 l0_1 l0_2 a1 = some r),
    Calls Tryd.prog 25 #[.agg #[.slice A0_0 l0_0.length c0_0, .slice A0_1 l0_1.length c0_1, .slice A0_2 l0_2.length c0_2], .int .i64 a1] w fun e w' => e = .returned (.bool r) ∧ Below w.heap.size w w' := by
  induction k using Nat.strongRecOn with
  | _ k ih =>
  intro Az1 cz1 lz1 Az2 cz2 lz2 Az3 cz3 lz3 az1 r w hrz1 hcz1 hrz2 hcz2 hrz3 hcz3 h
  cases k with
  | zero => exact absurd h (by simp [spec_l8Ok.f])
  | succ k =>
  simp only [spec_l8Ok.f] at h
  have huz1 := Tryd.underlying32
  have huz2 := Tryd.underlying81
  have HRz1 := Aside0.mk hrz1
  have HCz1 := Aside0.mk hcz1
  clear hrz1 hcz1
  have HRz2 := Aside0.mk hrz2
  have HCz2 := Aside0.mk hcz2
  clear hrz2 hcz2
  have HRz3 := Aside0.mk hrz3
  have HCz3 := Aside0.mk hcz3
  clear hrz3 hcz3
  have HB := Aside0.mk (Below.refl w.heap.size w)
  have H : (if (lz1.length : Int) = (lz2.length : Int) then (if (lz1.length : Int) > 0 then (spec_l8Ok.j0 k az1 (az1 == 6) lz1 lz2 lz3) else (spec_l8Ok.j0 k az1 false lz1 lz2 lz3)) else (spec_l8Ok.j0 k az1 true lz1 lz2 lz3)) = some r := h
  clear h
  have HCz4 := Aside0.mk H
  clear H
  go_enter Tryd.func25, Tryd.ntmps25
  go_upto_region 1 with (first | ((with_reducible refine gate_dst (N := 2) rfl ?_); (try (refine gate_guard (by rfl) ?_; dsimp only)); refine box_event ?hg (N := 2) ?hd (cs := #[.slice Az1 lz1.length cz1, .slice Az2 lz2.length cz2, .slice Az3 lz3.length cz3]) (t := 32) ?hr ?_; (case hd => rfl); (case hg => rfl); (case hr => first | (go_simp; done) | (go_simp; rfl)); intro gbz1 hg wz1 hbox hb; have nz1 := Aside0.mk (below_step be_ hb); have nz2 := Aside0.mk (hbox); have nz3 := Aside0.mk ((sz_ : w.heap.size ≤ gbz1)); have nz4 := Aside0.mk ((sz_ : w.heap.size ≤ gbz1)); clear HB; have HB := nz1; have BKz1 := nz2; have GWz1 := nz3; have GEz1 := nz4; clear nz1 nz2 nz3 nz4; clear hb hbox hg))
  (try simp only [Act.put, List.setIfInBounds_toArray, List.set_cons_zero, List.set_cons_succ])
  go_cut [24] (fun v24 wc => ∃ (kq : Nat) (x24_2 : Bool), v24 = .bool x24_2 ∧ Aside0 (spec_l8Ok.j0 kq az1 x24_2 lz1 lz2 lz3 = some r) ∧ Aside0 (kq ≤ k) ∧ Aside0 (wc.heap[gbz1]? = some (.cells #[(.slice Az1 lz1.length cz1), (.slice Az2 lz2.length cz2), (.slice Az3 lz3.length cz3)] 32 (0, 0))) ∧ Aside0 (Below w.heap.size w wc))
  case first =>
    have H := HCz4.out
    clear HCz4
    by_cases cz4 : (lz1.length : Int) = (lz2.length : Int)
    rotate_left
    · rw [if_neg cz4] at H
      have c5b0 : ((lz1.length : Int) == (lz2.length : Int)) = false := beq_eq_false_iff_ne.mpr cz4
      have c5b1 : ((lz1.length : Int) != (lz2.length : Int)) = true := bne_iff_ne.mpr cz4
      have c5b2 : (lz1.length == lz2.length) = false := by first | simpa using cz4 | (simp at cz4 ⊢; omega)
      (first | rw [c5b0] | (simp only [i64_w, i32_w]; rw [c5b0]) | skip)
      have H' := Aside0.mk H
      clear H
      have hczz1 : wz1.cell? ⟨gbz1, 0, none⟩ = some (.slice Az1 lz1.length cz1) := (blk_cell BKz1.out 0).trans rfl
      have hczz2 : wz1.cell? ⟨gbz1, 1, none⟩ = some (.slice Az2 lz2.length cz2) := (blk_cell BKz1.out 1).trans rfl
      have hczz3 : wz1.cell? ⟨gbz1, 2, none⟩ = some (.slice Az3 lz3.length cz3) := (blk_cell BKz1.out 2).trans rfl
      have hfzz1 := blk_frozen BKz1.out 0
      have hfzz2 := blk_frozen BKz1.out 1
      have hfzz3 := blk_frozen BKz1.out 2
      go_wp2
      go_meet
      case rel => exact ⟨_, (true), (by first | rfl | (simp; done) | (simp [*]; done)), H', ⟨by first | omega | exact Nat.le_refl _⟩, ⟨bk_⟩, ⟨be_⟩⟩
    rw [if_pos cz4] at H
    have c5b0 : ((lz1.length : Int) == (lz2.length : Int)) = true := beq_iff_eq.mpr cz4
    have c5b1 : ((lz1.length : Int) != (lz2.length : Int)) = false := bne_eq_false_iff_eq.mpr cz4
    have c5b2 : (lz1.length == lz2.length) = true := by first | simpa using cz4 | (simp at cz4 ⊢; omega)
    clear cz4
    (first | rw [c5b0] | (simp only [i64_w, i32_w]; rw [c5b0]) | skip)
    by_cases cz5 : (lz1.length : Int) > 0
    · rw [if_pos cz5] at H
      have c6b0 : decide (0 < (lz1.length : Int)) = true := decide_eq_true cz5
      have c6b1 : decide (0 < lz1.length) = true := decide_eq_true (by omega)
      clear cz5
      have H' := Aside0.mk H
      clear H
      have hczz1 : wz1.cell? ⟨gbz1, 0, none⟩ = some (.slice Az1 lz1.length cz1) := (blk_cell BKz1.out 0).trans rfl
      have hczz2 : wz1.cell? ⟨gbz1, 1, none⟩ = some (.slice Az2 lz2.length cz2) := (blk_cell BKz1.out 1).trans rfl
      have hczz3 : wz1.cell? ⟨gbz1, 2, none⟩ = some (.slice Az3 lz3.length cz3) := (blk_cell BKz1.out 2).trans rfl
      have hfzz1 := blk_frozen BKz1.out 0
      have hfzz2 := blk_frozen BKz1.out 1
      have hfzz3 := blk_frozen BKz1.out 2
      go_wp2
      go_meet
      case rel => exact ⟨_, ((az1 == 6)), (by first | rfl | (simp; done) | (simp [*]; done)), H', ⟨by first | omega | exact Nat.le_refl _⟩, ⟨bk_⟩, ⟨be_⟩⟩
    rw [if_neg cz5] at H
    have c6b0 : decide (0 < (lz1.length : Int)) = false := decide_eq_false cz5
    have c6b1 : decide (0 < lz1.length) = false := decide_eq_false (by omega)
    clear cz5
    have H' := Aside0.mk H
    clear H
    have hczz1 : wz1.cell? ⟨gbz1, 0, none⟩ = some (.slice Az1 lz1.length cz1) := (blk_cell BKz1.out 0).trans rfl
    have hczz2 : wz1.cell? ⟨gbz1, 1, none⟩ = some (.slice Az2 lz2.length cz2) := (blk_cell BKz1.out 1).trans rfl
    have hczz3 : wz1.cell? ⟨gbz1, 2, none⟩ = some (.slice Az3 lz3.length cz3) := (blk_cell BKz1.out 2).trans rfl
    have hfzz1 := blk_frozen BKz1.out 0
    have hfzz2 := blk_frozen BKz1.out 1
    have hfzz3 := blk_frozen BKz1.out 2
    go_wp2
    go_meet
    case rel => exact ⟨_, (false), (by first | rfl | (simp; done) | (simp [*]; done)), H', ⟨by first | omega | exact Nat.le_refl _⟩, ⟨bk_⟩, ⟨be_⟩⟩
  case rest =>
    clear HCz4
    try clear c2
    try clear p2
    try clear c5
    try clear c5b0
    try clear c5b1
    try clear c5b2
    try clear c6
    try clear c6b0
    try clear c6b1
    try clear hcz7_0
    try clear hcz7_1
    try clear hcz7_2
    try clear hcz8_0
    try clear hcz8_1
    try clear hcz8_2
    try clear hcz9_0
    try clear hcz9_1
    try clear hcz9_2
    try clear hfz7_0
    try clear hfz7_1
    try clear hfz7_2
    try clear hfz8_0
    try clear hfz8_1
    try clear hfz8_2
    try clear hfz9_0
    try clear hfz9_1
    try clear hfz9_2
    obtain ⟨kq, xz1, rfl, HA, HJz1, BKz1, HB⟩ := hcut
    cases kq with
    | zero => exact absurd HA.out (by simp [spec_l8Ok.j0])
    | succ kjz1 =>
      have H := HA.out
      clear HA
      simp only [spec_l8Ok.j0] at H
      by_cases cz4 : xz1 = true
      · subst cz4
        have Hz1 : (some false) = some r := by rw [if_pos rfl] at H; exact H
        clear H
        have H := Hz1
        clear Hz1
        obtain rfl := Option.some.inj H
        go_wp2
        go_ret
        exact ⟨by first | rfl | (simp [errW_none, errW_some] <;> rfl) | (simp [*, errW_none, errW_some] <;> rfl), be_⟩
      replace cz4 := Bool.eq_false_iff.mpr cz4
      subst cz4
      have Hz1 : (spec_l8Ok.l0 kjz1 az1 0 lz1 lz2 lz3) = some r := by rw [if_neg (show ¬ (false = true) by decide)] at H; exact H
      clear H
      have H := Hz1
      clear Hz1
      have H' := Aside0.mk H
      clear H
      go_wp2
      go_loopg [5] kjz1 (fun kq v5 w' => ∃ (x5_2 : Int), v5 = .int .i64 x5_2 ∧ Aside0 (spec_l8Ok.l0 kq az1 x5_2 lz1 lz2 lz3 = some r) ∧ Aside0 (kq ≤ kjz1) ∧ Aside0 (w'.heap[gbz1]? = some (.cells #[(.slice Az1 lz1.length cz1), (.slice Az2 lz2.length cz2), (.slice Az3 lz3.length cz3)] 32 (0, 0))) ∧ Aside0 (Below w.heap.size w w'))
      case atStart => exact ⟨(0), (by first | rfl | (simp; done) | (simp [*]; done)), H', ⟨Nat.le_refl _⟩, ⟨bk_⟩, ⟨be_⟩⟩
      case round =>
        clear H'
        try clear c1
        try clear c2
        try clear p2
        try clear c5
        try clear c5b0
        try clear c5b1
        try clear c5b2
        try clear c6
        try clear c6b0
        try clear c6b1
        try clear cz4
        try clear hcz7_0
        try clear hcz7_1
        try clear hcz7_2
        try clear hcz8_0
        try clear hcz8_1
        try clear hcz8_2
        try clear hcz9_0
        try clear hcz9_1
        try clear hcz9_2
        try clear hfz7_0
        try clear hfz7_1
        try clear hfz7_2
        try clear hfz8_0
        try clear hfz8_1
        try clear hfz8_2
        try clear hfz9_0
        try clear hfz9_1
        try clear hfz9_2
        try clear p2
        obtain ⟨xz2, rfl, HA, HKz1, BKz1, HB⟩ := hrel
        cases gk with
        | zero => exact absurd HA.out (by simp [spec_l8Ok.l0])
        | succ kz1 =>
          have H := HA.out
          clear HA
          simp only [spec_l8Ok.l0] at H
          by_cases cz5 : xz2 < (lz3.length : Int)
          · rw [if_pos cz5] at H
            have c11b0 : decide (xz2 < (lz3.length : Int)) = true := decide_eq_true cz5
            clear cz5
            by_cases cz6 : 0 ≤ xz2
            rotate_left
            · rw [if_neg cz6] at H
              exact absurd H (by simp)
            rw [if_pos cz6] at H
            have c12b0 : decide (0 ≤ xz2) = true := decide_eq_true cz6
            clear cz6
            replace H := Option.bind_eq_some_iff.mp H
            obtain ⟨tz1, Az4, H⟩ := H
            replace H : (if tz1 = true then (if xz2 > 0 then (if 0 ≤ (wrap64 (xz2 - 1)) then (if (wrap64 (xz2 - 1)) < (lz3.length : Int) then (if ((Op.bytesLess (((rd_T81 lz3 (wrap64 (xz2 - 1))).f0).toList) (((rd_T81 lz3 xz2).f0).toList)) = true) then (spec_l8Ok.l0 kz1 az1 (wrap64 (xz2 + 1)) lz1 lz2 lz3) else (some false)) else (none)) else (none)) else (spec_l8Ok.l0 kz1 az1 (wrap64 (xz2 + 1)) lz1 lz2 lz3)) else (some false)) = some r := H
            have Az5 := Aside0.mk Az4
            clear Az4
            by_cases cz7 : tz1 = true
            rotate_left
            · replace cz7 := Bool.eq_false_iff.mpr cz7
              subst cz7
              have Hz1 : (some false) = some r := by rw [if_neg (show ¬ (false = true) by decide)] at H; exact H
              clear H
              have H := Hz1
              clear Hz1
              obtain rfl := Option.some.inj H
              have hczz1 : wr.cell? ⟨gbz1, 0, none⟩ = some (.slice Az1 lz1.length cz1) := (blk_cell BKz1.out 0).trans rfl
              have hczz2 : wr.cell? ⟨gbz1, 1, none⟩ = some (.slice Az2 lz2.length cz2) := (blk_cell BKz1.out 1).trans rfl
              have hczz3 : wr.cell? ⟨gbz1, 2, none⟩ = some (.slice Az3 lz3.length cz3) := (blk_cell BKz1.out 2).trans rfl
              have hfzz1 := blk_frozen BKz1.out 0
              have hfzz2 := blk_frozen BKz1.out 1
              have hfzz3 := blk_frozen BKz1.out 2
              try go_wp2
              have nz1 := Aside0.mk (blk_drew BKz1.out)
              have nz2 := Aside0.mk (below_drew1 HB.out)
              clear BKz1
              clear HB
              have BKz1 := nz1
              have HB := nz2
              clear nz1 nz2
              have pz1 : 0 ≤ (xz2 : Int) := of_decide_eq_true as_
              have qz1 : xz2 < (lz3.length : Int) := of_decide_eq_true as_
              obtain ⟨adz1, ez1, hxz1, hxz2, hxz3⟩ := at_T81 HRz3.out xz2 pz1 qz1
              have hwz1 := hxz3
              have hwz2 := hxz2
              have hwz3 := hxz1
              cases ez1
              replace hxz1 := (HB.out.cell (World.block_lt_of_cell? w _ hxz1)).trans hxz1
              replace hxz2 := (HB.out.cell (World.block_lt_of_cell? w _ hxz2)).trans hxz2
              replace hxz3 := (HB.out.cell (World.block_lt_of_cell? w _ hxz3)).trans hxz3
              replace pz1 := eq_true pz1
              replace qz1 := eq_true qz1
              refine start_ (n := 27) (S := fun w' => w'.cell? ⟨gbz1, 0, none⟩ = some (.slice Az1 lz1.length cz1) ∧ w'.cell? ⟨gbz1, 1, none⟩ = some (.slice Az2 lz2.length cz2) ∧ w'.cell? ⟨gbz1, 2, none⟩ = some (.slice (some adz1) lz3.length cz3) ∧ w'.cell? (adz1.add ((xz2).toNat * 3)) = some (.string ((rd_T81 lz3 xz2).f0)) ∧ w'.cell? ⟨(adz1.add ((xz2).toNat * 3)).block, (adz1.add ((xz2).toNat * 3)).off + 1, none⟩ = some (.int .i64 ((rd_T81 lz3 xz2).f1)) ∧ w'.cell? ⟨(adz1.add ((xz2).toNat * 3)).block, (adz1.add ((xz2).toNat * 3)).off + 2, none⟩ = some (.int .i64 ((rd_T81 lz3 xz2).f2))) (ds := []) spec_l8Ok_bools0_ (by kernel_rfl) rfl (by kernel_rfl) ⟨(blk_cell BKz1.out 0).trans rfl, (blk_cell BKz1.out 1).trans rfl, (blk_cell BKz1.out 2).trans rfl, ((HB.out.cell (World.block_lt_of_cell? w _ hwz3)).trans hwz3), ((HB.out.cell (World.block_lt_of_cell? w _ hwz2)).trans hwz2), ((HB.out.cell (World.block_lt_of_cell? w _ hwz1)).trans hwz1)⟩ (fun hHeld => ?_); refine with_tabW spec_l8Ok.tab6 spec_l8Ok.bits6 (fun HT_ HW_ => ?_)
              generalize wr.drew = wz2 at BKz1 HB hxz1 hxz2 hxz3 hHeld ⊢
              refine pu_ HT_ 0 32 spec_l8Ok_bools1_ ?_
              refine pu_ HT_ 2 34 spec_l8Ok_bools2_ ?_
              refine ta_ HT_ HW_ hHeld 1 33 spec_l8Ok_bools3_ ?_
              refine pu_ HT_ 3 35 spec_l8Ok_bools4_ ?_
              refine ta_ HT_ HW_ hHeld 4 36 spec_l8Ok_bools5_ ?_
              refine one_ (i := 5) (N := some 37) spec_l8Ok_bools6_ rfl rfl (one_of HT_.out (by kernel_rfl)) (by decide) (fun K hK => ?_)
              refine goes_ Tryd.func49 (by kernel_rfl) rfl #[.agg #[.string ((rd_T81 lz3 xz2).f0), .int .i64 ((rd_T81 lz3 xz2).f1), .int .i64 ((rd_T81 lz3 xz2).f2)]] (by rfl) rfl rfl ar_ ?_
              with_reducible refine (spec_l8SubOk.calls kz1 ((rd_T81 lz3 xz2).f0) ((rd_T81 lz3 xz2).f1) ((rd_T81 lz3 xz2).f2) false _ Az5.out).mono ?_
              rintro e wz3 ⟨rfl, hb⟩
              refine ⟨_, rfl, ?_⟩
              have nz1 := Aside0.mk (blk_below (g := gbz1) (o := .cells #[.slice Az1 lz1.length cz1, .slice Az2 lz2.length cz2, .slice (some adz1) lz3.length cz3] 32 (0, 0)) bk_ hb)
              have nz2 := Aside0.mk (below_step be_ hb)
              clear BKz1
              clear HB
              have BKz1 := nz1
              have HB := nz2
              clear nz1 nz2
              (try clear hb)
              (try clear hb2)
              (try clear hk)
              (try clear hi)
              refine hK.out _ _ ⟨(blk_cell BKz1.out 0).trans rfl, (blk_cell BKz1.out 1).trans rfl, (blk_cell BKz1.out 2).trans rfl, ((HB.out.cell (World.block_lt_of_cell? w _ hwz3)).trans hwz3), ((HB.out.cell (World.block_lt_of_cell? w _ hwz2)).trans hwz2), ((HB.out.cell (World.block_lt_of_cell? w _ hwz1)).trans hwz1)⟩ (fun hHeld => ?_)
              clear hK K
              refine norm_ (a' := ?_) ?_ ?_
              rotate_left
              · show Act.put _ (some 37) _ = _
                simp only [Act.put, List.setIfInBounds_toArray, List.set_cons_zero, List.set_cons_succ, i64_w, i32_w]
                rfl
              refine pu_ HT_ 6 38 spec_l8Ok_bools7_ ?_
              refine pu_ HT_ 7 39 spec_l8Ok_bools8_ ?_
              refine un_ HT_ 8 40 spec_l8Ok_bools9_ ?_
              refine un_ HT_ 9 41 spec_l8Ok_bools10_ ?_
              refine un_ HT_ 10 42 spec_l8Ok_bools11_ ?_
              refine un_ HT_ 11 43 spec_l8Ok_bools12_ ?_
              refine un_ HT_ 12 44 spec_l8Ok_bools13_ ?_
              refine un_ HT_ 13 45 spec_l8Ok_bools14_ ?_
              refine un_ HT_ 14 46 spec_l8Ok_bools15_ ?_
              refine un_ HT_ 15 47 spec_l8Ok_bools16_ ?_
              refine un_ HT_ 16 48 spec_l8Ok_bools17_ ?_
              refine un_ HT_ 17 49 spec_l8Ok_bools18_ ?_
              refine un_ HT_ 18 50 spec_l8Ok_bools19_ ?_
              refine un_ HT_ 19 51 spec_l8Ok_bools20_ ?_
              refine un_ HT_ 20 52 spec_l8Ok_bools21_ ?_
              refine un_ HT_ 21 53 spec_l8Ok_bools22_ ?_
              refine un_ HT_ 22 54 spec_l8Ok_bools23_ ?_
              refine un_ HT_ 23 55 spec_l8Ok_bools24_ ?_
              refine un_ HT_ 24 56 spec_l8Ok_bools25_ ?_
              refine un_ HT_ 25 57 spec_l8Ok_bools26_ ?_
              refine pu_ HT_ 26 58 spec_l8Ok_bools27_ ?_
              refine done_ (done_of HT_.out (by kernel_rfl)) ?_
              try go_wp2
              go_ret
              exact ⟨by first | rfl | (simp [errW_none, errW_some] <;> rfl) | (simp [*, errW_none, errW_some] <;> rfl), be_⟩
            subst cz7
            have Hz1 : (if xz2 > 0 then (if 0 ≤ (wrap64 (xz2 - 1)) then (if (wrap64 (xz2 - 1)) < (lz3.length : Int) then (if ((Op.bytesLess (((rd_T81 lz3 (wrap64 (xz2 - 1))).f0).toList) (((rd_T81 lz3 xz2).f0).toList)) = true) then (spec_l8Ok.l0 kz1 az1 (wrap64 (xz2 + 1)) lz1 lz2 lz3) else (some false)) else (none)) else (none)) else (spec_l8Ok.l0 kz1 az1 (wrap64 (xz2 + 1)) lz1 lz2 lz3)) = some r := by rw [if_pos rfl] at H; exact H
            clear H
            have H := Hz1
            clear Hz1
            by_cases cz8 : xz2 > 0
            rotate_left
            · rw [if_neg cz8] at H
              have c15b0 : decide (0 < xz2) = false := decide_eq_false cz8
              clear cz8
              have H' := Aside0.mk H
              clear H
              have hczz1 : wr.cell? ⟨gbz1, 0, none⟩ = some (.slice Az1 lz1.length cz1) := (blk_cell BKz1.out 0).trans rfl
              have hczz2 : wr.cell? ⟨gbz1, 1, none⟩ = some (.slice Az2 lz2.length cz2) := (blk_cell BKz1.out 1).trans rfl
              have hczz3 : wr.cell? ⟨gbz1, 2, none⟩ = some (.slice Az3 lz3.length cz3) := (blk_cell BKz1.out 2).trans rfl
              have hfzz1 := blk_frozen BKz1.out 0
              have hfzz2 := blk_frozen BKz1.out 1
              have hfzz3 := blk_frozen BKz1.out 2
              try go_wp2
              have nz1 := Aside0.mk (blk_drew BKz1.out)
              have nz2 := Aside0.mk (below_drew1 HB.out)
              clear BKz1
              clear HB
              have BKz1 := nz1
              have HB := nz2
              clear nz1 nz2
              have pz1 : 0 ≤ (xz2 : Int) := of_decide_eq_true as_
              have qz1 : xz2 < (lz3.length : Int) := of_decide_eq_true as_
              obtain ⟨adz1, ez1, hxz1, hxz2, hxz3⟩ := at_T81 HRz3.out xz2 pz1 qz1
              have hwz1 := hxz3
              have hwz2 := hxz2
              have hwz3 := hxz1
              cases ez1
              replace hxz1 := (HB.out.cell (World.block_lt_of_cell? w _ hxz1)).trans hxz1
              replace hxz2 := (HB.out.cell (World.block_lt_of_cell? w _ hxz2)).trans hxz2
              replace hxz3 := (HB.out.cell (World.block_lt_of_cell? w _ hxz3)).trans hxz3
              replace pz1 := eq_true pz1
              replace qz1 := eq_true qz1
              refine start_ (n := 27) (S := fun w' => w'.cell? ⟨gbz1, 0, none⟩ = some (.slice Az1 lz1.length cz1) ∧ w'.cell? ⟨gbz1, 1, none⟩ = some (.slice Az2 lz2.length cz2) ∧ w'.cell? ⟨gbz1, 2, none⟩ = some (.slice (some adz1) lz3.length cz3) ∧ w'.cell? (adz1.add ((xz2).toNat * 3)) = some (.string ((rd_T81 lz3 xz2).f0)) ∧ w'.cell? ⟨(adz1.add ((xz2).toNat * 3)).block, (adz1.add ((xz2).toNat * 3)).off + 1, none⟩ = some (.int .i64 ((rd_T81 lz3 xz2).f1)) ∧ w'.cell? ⟨(adz1.add ((xz2).toNat * 3)).block, (adz1.add ((xz2).toNat * 3)).off + 2, none⟩ = some (.int .i64 ((rd_T81 lz3 xz2).f2))) (ds := []) spec_l8Ok_bools0_ (by kernel_rfl) rfl (by kernel_rfl) ⟨(blk_cell BKz1.out 0).trans rfl, (blk_cell BKz1.out 1).trans rfl, (blk_cell BKz1.out 2).trans rfl, ((HB.out.cell (World.block_lt_of_cell? w _ hwz3)).trans hwz3), ((HB.out.cell (World.block_lt_of_cell? w _ hwz2)).trans hwz2), ((HB.out.cell (World.block_lt_of_cell? w _ hwz1)).trans hwz1)⟩ (fun hHeld => ?_); refine with_tabW spec_l8Ok.tab6 spec_l8Ok.bits6 (fun HT_ HW_ => ?_)
              generalize wr.drew = wz2 at BKz1 HB hxz1 hxz2 hxz3 hHeld ⊢
              refine pu_ HT_ 0 32 spec_l8Ok_bools1_ ?_
              refine pu_ HT_ 2 34 spec_l8Ok_bools2_ ?_
              refine ta_ HT_ HW_ hHeld 1 33 spec_l8Ok_bools3_ ?_
              refine pu_ HT_ 3 35 spec_l8Ok_bools4_ ?_
              refine ta_ HT_ HW_ hHeld 4 36 spec_l8Ok_bools5_ ?_
              refine one_ (i := 5) (N := some 37) spec_l8Ok_bools6_ rfl rfl (one_of HT_.out (by kernel_rfl)) (by decide) (fun K hK => ?_)
              refine goes_ Tryd.func49 (by kernel_rfl) rfl #[.agg #[.string ((rd_T81 lz3 xz2).f0), .int .i64 ((rd_T81 lz3 xz2).f1), .int .i64 ((rd_T81 lz3 xz2).f2)]] (by rfl) rfl rfl ar_ ?_
              with_reducible refine (spec_l8SubOk.calls kz1 ((rd_T81 lz3 xz2).f0) ((rd_T81 lz3 xz2).f1) ((rd_T81 lz3 xz2).f2) true _ Az5.out).mono ?_
              rintro e wz3 ⟨rfl, hb⟩
              refine ⟨_, rfl, ?_⟩
              have nz1 := Aside0.mk (blk_below (g := gbz1) (o := .cells #[.slice Az1 lz1.length cz1, .slice Az2 lz2.length cz2, .slice (some adz1) lz3.length cz3] 32 (0, 0)) bk_ hb)
              have nz2 := Aside0.mk (below_step be_ hb)
              clear BKz1
              clear HB
              have BKz1 := nz1
              have HB := nz2
              clear nz1 nz2
              (try clear hb)
              (try clear hb2)
              (try clear hk)
              (try clear hi)
              refine hK.out _ _ ⟨(blk_cell BKz1.out 0).trans rfl, (blk_cell BKz1.out 1).trans rfl, (blk_cell BKz1.out 2).trans rfl, ((HB.out.cell (World.block_lt_of_cell? w _ hwz3)).trans hwz3), ((HB.out.cell (World.block_lt_of_cell? w _ hwz2)).trans hwz2), ((HB.out.cell (World.block_lt_of_cell? w _ hwz1)).trans hwz1)⟩ (fun hHeld => ?_)
              clear hK K
              refine norm_ (a' := ?_) ?_ ?_
              rotate_left
              · show Act.put _ (some 37) _ = _
                simp only [Act.put, List.setIfInBounds_toArray, List.set_cons_zero, List.set_cons_succ, i64_w, i32_w]
                rfl
              refine pu_ HT_ 6 38 spec_l8Ok_bools7_ ?_
              refine pu_ HT_ 7 39 spec_l8Ok_bools8_ ?_
              refine pu_ HT_ 8 40 spec_l8Ok_bools9_ ?_
              refine pu_ HT_ 9 41 spec_l8Ok_bools10_ ?_
              refine pu_ HT_ 10 42 spec_l8Ok_bools11_ ?_
              refine un_ HT_ 11 43 spec_l8Ok_bools12_ ?_
              refine un_ HT_ 12 44 spec_l8Ok_bools13_ ?_
              refine un_ HT_ 13 45 spec_l8Ok_bools14_ ?_
              refine un_ HT_ 14 46 spec_l8Ok_bools15_ ?_
              refine un_ HT_ 15 47 spec_l8Ok_bools16_ ?_
              refine un_ HT_ 16 48 spec_l8Ok_bools17_ ?_
              refine un_ HT_ 17 49 spec_l8Ok_bools18_ ?_
              refine un_ HT_ 18 50 spec_l8Ok_bools19_ ?_
              refine un_ HT_ 19 51 spec_l8Ok_bools20_ ?_
              refine un_ HT_ 20 52 spec_l8Ok_bools21_ ?_
              refine un_ HT_ 21 53 spec_l8Ok_bools22_ ?_
              refine un_ HT_ 22 54 spec_l8Ok_bools23_ ?_
              refine un_ HT_ 23 55 spec_l8Ok_bools24_ ?_
              refine un_ HT_ 24 56 spec_l8Ok_bools25_ ?_
              refine pu_ HT_ 25 57 spec_l8Ok_bools26_ ?_
              refine pu_ HT_ 26 58 spec_l8Ok_bools27_ ?_
              refine done_ (done_of HT_.out (by kernel_rfl)) ?_
              try go_wp2
              go_roundg kz1
              case measure => have := HJz1.out; have := HKz1.out; omega
              case rel => exact ⟨(wrap64 (xz2 + 1)), (by first | rfl | (simp; done) | (simp [*]; done)), H', ⟨by have := HJz1.out; have := HKz1.out; omega⟩, ⟨bk_⟩, ⟨be_⟩⟩
            rw [if_pos cz8] at H
            have c15b0 : decide (0 < xz2) = true := decide_eq_true cz8
            clear cz8
            obtain ⟨jiz1, hjiz1⟩ : ∃ j_ : Int, (wrap64 (xz2 - 1)) = j_ := ⟨_, rfl⟩
            replace H : (if 0 ≤ (jiz1) then (if (jiz1) < (lz3.length : Int) then (if ((Op.bytesLess (((rd_T81 lz3 (jiz1)).f0).toList) (((rd_T81 lz3 xz2).f0).toList)) = true) then (spec_l8Ok.l0 kz1 az1 (wrap64 (xz2 + 1)) lz1 lz2 lz3) else (some false)) else (none)) else (none)) = some r := by first | (rw [hjiz1] at H; exact H) | (simp only [hjiz1] at H ⊢; exact H)
            (try rw [hjiz1] at Az5)
            have hji16w : (IntKind.i64.wrap (xz2 - 1)) = jiz1 := (i64_w _).trans hjiz1
            by_cases cz9 : 0 ≤ (jiz1)
            rotate_left
            · rw [if_neg cz9] at H
              exact absurd H (by simp)
            rw [if_pos cz9] at H
            have c17b0 : decide (0 ≤ (jiz1)) = true := decide_eq_true cz9
            clear cz9
            by_cases cz10 : (jiz1) < (lz3.length : Int)
            rotate_left
            · rw [if_neg cz10] at H
              exact absurd H (by simp)
            rw [if_pos cz10] at H
            have c18b0 : decide ((jiz1) < (lz3.length : Int)) = true := decide_eq_true cz10
            clear cz10
            by_cases cz11 : ((Op.bytesLess (((rd_T81 lz3 (jiz1)).f0).toList) (((rd_T81 lz3 xz2).f0).toList)) = true)
            rotate_left
            · rw [if_neg cz11] at H
              have c19b0 : (Op.bytesLess (((rd_T81 lz3 (jiz1)).f0).toList) (((rd_T81 lz3 xz2).f0).toList)) = false := by simpa using cz11
              clear cz11
              obtain rfl := Option.some.inj H
              have hczz1 : wr.cell? ⟨gbz1, 0, none⟩ = some (.slice Az1 lz1.length cz1) := (blk_cell BKz1.out 0).trans rfl
              have hczz2 : wr.cell? ⟨gbz1, 1, none⟩ = some (.slice Az2 lz2.length cz2) := (blk_cell BKz1.out 1).trans rfl
              have hczz3 : wr.cell? ⟨gbz1, 2, none⟩ = some (.slice Az3 lz3.length cz3) := (blk_cell BKz1.out 2).trans rfl
              have hfzz1 := blk_frozen BKz1.out 0
              have hfzz2 := blk_frozen BKz1.out 1
              have hfzz3 := blk_frozen BKz1.out 2
              try go_wp2
              have nz1 := Aside0.mk (blk_drew BKz1.out)
              have nz2 := Aside0.mk (below_drew1 HB.out)
              clear BKz1
              clear HB
              have BKz1 := nz1
              have HB := nz2
              clear nz1 nz2
              have pz1 : 0 ≤ (xz2 : Int) := of_decide_eq_true as_
              have qz1 : xz2 < (lz3.length : Int) := of_decide_eq_true as_
              obtain ⟨adz1, ez1, hxz1, hxz2, hxz3⟩ := at_T81 HRz3.out xz2 pz1 qz1
              have hwz1 := hxz3
              have hwz2 := hxz2
              have hwz3 := hxz1
              cases ez1
              replace hxz1 := (HB.out.cell (World.block_lt_of_cell? w _ hxz1)).trans hxz1
              replace hxz2 := (HB.out.cell (World.block_lt_of_cell? w _ hxz2)).trans hxz2
              replace hxz3 := (HB.out.cell (World.block_lt_of_cell? w _ hxz3)).trans hxz3
              replace pz1 := eq_true pz1
              replace qz1 := eq_true qz1
              have pz2 : 0 ≤ ((jiz1) : Int) := of_decide_eq_true as_
              have qz2 : (jiz1) < (lz3.length : Int) := of_decide_eq_true as_
              obtain ⟨adz2, ez2, hxz4, hxz5, hxz6⟩ := at_T81 HRz3.out (jiz1) pz2 qz2
              have hwz4 := hxz6
              have hwz5 := hxz5
              have hwz6 := hxz4
              obtain rfl : adz1 = adz2 := (by injection ez2)
              replace hxz4 := (HB.out.cell (World.block_lt_of_cell? w _ hxz4)).trans hxz4
              replace hxz5 := (HB.out.cell (World.block_lt_of_cell? w _ hxz5)).trans hxz5
              replace hxz6 := (HB.out.cell (World.block_lt_of_cell? w _ hxz6)).trans hxz6
              replace pz2 := eq_true pz2
              replace qz2 := eq_true qz2
              have pz3 : 0 ≤ (xz2 : Int) := of_decide_eq_true as_
              have qz3 : xz2 < (lz3.length : Int) := of_decide_eq_true as_
              obtain ⟨adz3, ez3, hxz7, hxz8, hxz9⟩ := at_T81 HRz3.out xz2 pz3 qz3
              have hwz7 := hxz9
              have hwz8 := hxz8
              have hwz9 := hxz7
              obtain rfl : adz1 = adz3 := (by injection ez3)
              replace hxz7 := (HB.out.cell (World.block_lt_of_cell? w _ hxz7)).trans hxz7
              replace hxz8 := (HB.out.cell (World.block_lt_of_cell? w _ hxz8)).trans hxz8
              replace hxz9 := (HB.out.cell (World.block_lt_of_cell? w _ hxz9)).trans hxz9
              replace pz3 := eq_true pz3
              replace qz3 := eq_true qz3
              refine start_ (n := 27) (S := fun w' => w'.cell? ⟨gbz1, 0, none⟩ = some (.slice Az1 lz1.length cz1) ∧ w'.cell? ⟨gbz1, 1, none⟩ = some (.slice Az2 lz2.length cz2) ∧ w'.cell? ⟨gbz1, 2, none⟩ = some (.slice (some adz1) lz3.length cz3) ∧ w'.cell? (adz1.add ((xz2).toNat * 3)) = some (.string ((rd_T81 lz3 xz2).f0)) ∧ w'.cell? ⟨(adz1.add ((xz2).toNat * 3)).block, (adz1.add ((xz2).toNat * 3)).off + 1, none⟩ = some (.int .i64 ((rd_T81 lz3 xz2).f1)) ∧ w'.cell? ⟨(adz1.add ((xz2).toNat * 3)).block, (adz1.add ((xz2).toNat * 3)).off + 2, none⟩ = some (.int .i64 ((rd_T81 lz3 xz2).f2)) ∧ w'.cell? (adz1.add (((jiz1)).toNat * 3)) = some (.string ((rd_T81 lz3 (jiz1)).f0)) ∧ w'.cell? ⟨(adz1.add (((jiz1)).toNat * 3)).block, (adz1.add (((jiz1)).toNat * 3)).off + 1, none⟩ = some (.int .i64 ((rd_T81 lz3 (jiz1)).f1)) ∧ w'.cell? ⟨(adz1.add (((jiz1)).toNat * 3)).block, (adz1.add (((jiz1)).toNat * 3)).off + 2, none⟩ = some (.int .i64 ((rd_T81 lz3 (jiz1)).f2)) ∧ w'.cell? (adz1.add ((xz2).toNat * 3)) = some (.string ((rd_T81 lz3 xz2).f0)) ∧ w'.cell? ⟨(adz1.add ((xz2).toNat * 3)).block, (adz1.add ((xz2).toNat * 3)).off + 1, none⟩ = some (.int .i64 ((rd_T81 lz3 xz2).f1)) ∧ w'.cell? ⟨(adz1.add ((xz2).toNat * 3)).block, (adz1.add ((xz2).toNat * 3)).off + 2, none⟩ = some (.int .i64 ((rd_T81 lz3 xz2).f2))) (ds := []) spec_l8Ok_bools0_ (by kernel_rfl) rfl (by kernel_rfl) ⟨(blk_cell BKz1.out 0).trans rfl, (blk_cell BKz1.out 1).trans rfl, (blk_cell BKz1.out 2).trans rfl, ((HB.out.cell (World.block_lt_of_cell? w _ hwz3)).trans hwz3), ((HB.out.cell (World.block_lt_of_cell? w _ hwz2)).trans hwz2), ((HB.out.cell (World.block_lt_of_cell? w _ hwz1)).trans hwz1), ((HB.out.cell (World.block_lt_of_cell? w _ hwz6)).trans hwz6), ((HB.out.cell (World.block_lt_of_cell? w _ hwz5)).trans hwz5), ((HB.out.cell (World.block_lt_of_cell? w _ hwz4)).trans hwz4), ((HB.out.cell (World.block_lt_of_cell? w _ hwz9)).trans hwz9), ((HB.out.cell (World.block_lt_of_cell? w _ hwz8)).trans hwz8), ((HB.out.cell (World.block_lt_of_cell? w _ hwz7)).trans hwz7)⟩ (fun hHeld => ?_); refine with_tabW spec_l8Ok.tab6 spec_l8Ok.bits6 (fun HT_ HW_ => ?_)
              generalize wr.drew = wz2 at BKz1 HB hxz1 hxz2 hxz3 hxz4 hxz5 hxz6 hxz7 hxz8 hxz9 hHeld ⊢
              refine pu_ HT_ 0 32 spec_l8Ok_bools1_ ?_
              refine pu_ HT_ 2 34 spec_l8Ok_bools2_ ?_
              refine ta_ HT_ HW_ hHeld 1 33 spec_l8Ok_bools3_ ?_
              refine pu_ HT_ 3 35 spec_l8Ok_bools4_ ?_
              refine ta_ HT_ HW_ hHeld 4 36 spec_l8Ok_bools5_ ?_
              refine one_ (i := 5) (N := some 37) spec_l8Ok_bools6_ rfl rfl (one_of HT_.out (by kernel_rfl)) (by decide) (fun K hK => ?_)
              refine goes_ Tryd.func49 (by kernel_rfl) rfl #[.agg #[.string ((rd_T81 lz3 xz2).f0), .int .i64 ((rd_T81 lz3 xz2).f1), .int .i64 ((rd_T81 lz3 xz2).f2)]] (by rfl) rfl rfl ar_ ?_
              with_reducible refine (spec_l8SubOk.calls kz1 ((rd_T81 lz3 xz2).f0) ((rd_T81 lz3 xz2).f1) ((rd_T81 lz3 xz2).f2) true _ Az5.out).mono ?_
              rintro e wz3 ⟨rfl, hb⟩
              refine ⟨_, rfl, ?_⟩
              have nz1 := Aside0.mk (blk_below (g := gbz1) (o := .cells #[.slice Az1 lz1.length cz1, .slice Az2 lz2.length cz2, .slice (some adz1) lz3.length cz3] 32 (0, 0)) bk_ hb)
              have nz2 := Aside0.mk (below_step be_ hb)
              clear BKz1
              clear HB
              have BKz1 := nz1
              have HB := nz2
              clear nz1 nz2
              (try clear hb)
              (try clear hb2)
              (try clear hk)
              (try clear hi)
              refine hK.out _ _ ⟨(blk_cell BKz1.out 0).trans rfl, (blk_cell BKz1.out 1).trans rfl, (blk_cell BKz1.out 2).trans rfl, ((HB.out.cell (World.block_lt_of_cell? w _ hwz3)).trans hwz3), ((HB.out.cell (World.block_lt_of_cell? w _ hwz2)).trans hwz2), ((HB.out.cell (World.block_lt_of_cell? w _ hwz1)).trans hwz1), ((HB.out.cell (World.block_lt_of_cell? w _ hwz6)).trans hwz6), ((HB.out.cell (World.block_lt_of_cell? w _ hwz5)).trans hwz5), ((HB.out.cell (World.block_lt_of_cell? w _ hwz4)).trans hwz4), ((HB.out.cell (World.block_lt_of_cell? w _ hwz9)).trans hwz9), ((HB.out.cell (World.block_lt_of_cell? w _ hwz8)).trans hwz8), ((HB.out.cell (World.block_lt_of_cell? w _ hwz7)).trans hwz7)⟩ (fun hHeld => ?_)
              clear hK K
              refine norm_ (a' := ?_) ?_ ?_
              rotate_left
              · show Act.put _ (some 37) _ = _
                simp only [Act.put, List.setIfInBounds_toArray, List.set_cons_zero, List.set_cons_succ, i64_w, i32_w]
                rfl
              refine pu_ HT_ 6 38 spec_l8Ok_bools7_ ?_
              refine pu_ HT_ 7 39 spec_l8Ok_bools8_ ?_
              refine pu_ HT_ 8 40 spec_l8Ok_bools9_ ?_
              refine pu_ HT_ 9 41 spec_l8Ok_bools10_ ?_
              refine pu_ HT_ 10 42 spec_l8Ok_bools11_ ?_
              refine pu_ HT_ 11 43 spec_l8Ok_bools12_ ?_
              refine pu_ HT_ 13 45 spec_l8Ok_bools28_ ?_
              refine pu_ HT_ 14 46 spec_l8Ok_bools29_ ?_
              refine pu_ HT_ 18 50 spec_l8Ok_bools30_ ?_
              refine pu_ HT_ 20 52 spec_l8Ok_bools31_ ?_
              refine ta_ HT_ HW_ hHeld 12 44 spec_l8Ok_bools32_ ?_
              refine pu_ HT_ 15 47 spec_l8Ok_bools33_ ?_
              refine pu_ HT_ 16 48 spec_l8Ok_bools34_ ?_
              refine ta_ HT_ HW_ hHeld 17 49 spec_l8Ok_bools35_ ?_
              refine ta_ HT_ HW_ hHeld 19 51 spec_l8Ok_bools21_ ?_
              refine pu_ HT_ 21 53 spec_l8Ok_bools22_ ?_
              refine pu_ HT_ 22 54 spec_l8Ok_bools23_ ?_
              refine ta_ HT_ HW_ hHeld 23 55 spec_l8Ok_bools24_ ?_
              refine pu_ HT_ 24 56 spec_l8Ok_bools25_ ?_
              refine pu_ HT_ 25 57 spec_l8Ok_bools26_ ?_
              refine pu_ HT_ 26 58 spec_l8Ok_bools27_ ?_
              refine done_ (done_of HT_.out (by kernel_rfl)) ?_
              try go_wp2
              go_ret
              exact ⟨by first | rfl | (simp [errW_none, errW_some] <;> rfl) | (simp only [← hjiz1]; first | rfl | (simp [errW_none, errW_some] <;> rfl)) | (simp [*, errW_none, errW_some] <;> rfl), be_⟩
            rw [if_pos cz11] at H
            have c19b0 : (Op.bytesLess (((rd_T81 lz3 (jiz1)).f0).toList) (((rd_T81 lz3 xz2).f0).toList)) = true := cz11
            clear cz11
            have H' := Aside0.mk H
            clear H
            have hczz1 : wr.cell? ⟨gbz1, 0, none⟩ = some (.slice Az1 lz1.length cz1) := (blk_cell BKz1.out 0).trans rfl
            have hczz2 : wr.cell? ⟨gbz1, 1, none⟩ = some (.slice Az2 lz2.length cz2) := (blk_cell BKz1.out 1).trans rfl
            have hczz3 : wr.cell? ⟨gbz1, 2, none⟩ = some (.slice Az3 lz3.length cz3) := (blk_cell BKz1.out 2).trans rfl
            have hfzz1 := blk_frozen BKz1.out 0
            have hfzz2 := blk_frozen BKz1.out 1
            have hfzz3 := blk_frozen BKz1.out 2
            try go_wp2
            have nz1 := Aside0.mk (blk_drew BKz1.out)
            have nz2 := Aside0.mk (below_drew1 HB.out)
            clear BKz1
            clear HB
            have BKz1 := nz1
            have HB := nz2
            clear nz1 nz2
            have pz1 : 0 ≤ (xz2 : Int) := of_decide_eq_true as_
            have qz1 : xz2 < (lz3.length : Int) := of_decide_eq_true as_
            obtain ⟨adz1, ez1, hxz1, hxz2, hxz3⟩ := at_T81 HRz3.out xz2 pz1 qz1
            have hwz1 := hxz3
            have hwz2 := hxz2
            have hwz3 := hxz1
            cases ez1
            replace hxz1 := (HB.out.cell (World.block_lt_of_cell? w _ hxz1)).trans hxz1
            replace hxz2 := (HB.out.cell (World.block_lt_of_cell? w _ hxz2)).trans hxz2
            replace hxz3 := (HB.out.cell (World.block_lt_of_cell? w _ hxz3)).trans hxz3
            replace pz1 := eq_true pz1
            replace qz1 := eq_true qz1
            have pz2 : 0 ≤ ((jiz1) : Int) := of_decide_eq_true as_
            have qz2 : (jiz1) < (lz3.length : Int) := of_decide_eq_true as_
            obtain ⟨adz2, ez2, hxz4, hxz5, hxz6⟩ := at_T81 HRz3.out (jiz1) pz2 qz2
            have hwz4 := hxz6
            have hwz5 := hxz5
            have hwz6 := hxz4
            obtain rfl : adz1 = adz2 := (by injection ez2)
            replace hxz4 := (HB.out.cell (World.block_lt_of_cell? w _ hxz4)).trans hxz4
            replace hxz5 := (HB.out.cell (World.block_lt_of_cell? w _ hxz5)).trans hxz5
            replace hxz6 := (HB.out.cell (World.block_lt_of_cell? w _ hxz6)).trans hxz6
            replace pz2 := eq_true pz2
            replace qz2 := eq_true qz2
            have pz3 : 0 ≤ (xz2 : Int) := of_decide_eq_true as_
            have qz3 : xz2 < (lz3.length : Int) := of_decide_eq_true as_
            obtain ⟨adz3, ez3, hxz7, hxz8, hxz9⟩ := at_T81 HRz3.out xz2 pz3 qz3
            have hwz7 := hxz9
            have hwz8 := hxz8
            have hwz9 := hxz7
            obtain rfl : adz1 = adz3 := (by injection ez3)
            replace hxz7 := (HB.out.cell (World.block_lt_of_cell? w _ hxz7)).trans hxz7
            replace hxz8 := (HB.out.cell (World.block_lt_of_cell? w _ hxz8)).trans hxz8
            replace hxz9 := (HB.out.cell (World.block_lt_of_cell? w _ hxz9)).trans hxz9
            replace pz3 := eq_true pz3
            replace qz3 := eq_true qz3
            refine start_ (n := 27) (S := fun w' => w'.cell? ⟨gbz1, 0, none⟩ = some (.slice Az1 lz1.length cz1) ∧ w'.cell? ⟨gbz1, 1, none⟩ = some (.slice Az2 lz2.length cz2) ∧ w'.cell? ⟨gbz1, 2, none⟩ = some (.slice (some adz1) lz3.length cz3) ∧ w'.cell? (adz1.add ((xz2).toNat * 3)) = some (.string ((rd_T81 lz3 xz2).f0)) ∧ w'.cell? ⟨(adz1.add ((xz2).toNat * 3)).block, (adz1.add ((xz2).toNat * 3)).off + 1, none⟩ = some (.int .i64 ((rd_T81 lz3 xz2).f1)) ∧ w'.cell? ⟨(adz1.add ((xz2).toNat * 3)).block, (adz1.add ((xz2).toNat * 3)).off + 2, none⟩ = some (.int .i64 ((rd_T81 lz3 xz2).f2)) ∧ w'.cell? (adz1.add (((jiz1)).toNat * 3)) = some (.string ((rd_T81 lz3 (jiz1)).f0)) ∧ w'.cell? ⟨(adz1.add (((jiz1)).toNat * 3)).block, (adz1.add (((jiz1)).toNat * 3)).off + 1, none⟩ = some (.int .i64 ((rd_T81 lz3 (jiz1)).f1)) ∧ w'.cell? ⟨(adz1.add (((jiz1)).toNat * 3)).block, (adz1.add (((jiz1)).toNat * 3)).off + 2, none⟩ = some (.int .i64 ((rd_T81 lz3 (jiz1)).f2)) ∧ w'.cell? (adz1.add ((xz2).toNat * 3)) = some (.string ((rd_T81 lz3 xz2).f0)) ∧ w'.cell? ⟨(adz1.add ((xz2).toNat * 3)).block, (adz1.add ((xz2).toNat * 3)).off + 1, none⟩ = some (.int .i64 ((rd_T81 lz3 xz2).f1)) ∧ w'.cell? ⟨(adz1.add ((xz2).toNat * 3)).block, (adz1.add ((xz2).toNat * 3)).off + 2, none⟩ = some (.int .i64 ((rd_T81 lz3 xz2).f2))) (ds := []) spec_l8Ok_bools0_ (by kernel_rfl) rfl (by kernel_rfl) ⟨(blk_cell BKz1.out 0).trans rfl, (blk_cell BKz1.out 1).trans rfl, (blk_cell BKz1.out 2).trans rfl, ((HB.out.cell (World.block_lt_of_cell? w _ hwz3)).trans hwz3), ((HB.out.cell (World.block_lt_of_cell? w _ hwz2)).trans hwz2), ((HB.out.cell (World.block_lt_of_cell? w _ hwz1)).trans hwz1), ((HB.out.cell (World.block_lt_of_cell? w _ hwz6)).trans hwz6), ((HB.out.cell (World.block_lt_of_cell? w _ hwz5)).trans hwz5), ((HB.out.cell (World.block_lt_of_cell? w _ hwz4)).trans hwz4), ((HB.out.cell (World.block_lt_of_cell? w _ hwz9)).trans hwz9), ((HB.out.cell (World.block_lt_of_cell? w _ hwz8)).trans hwz8), ((HB.out.cell (World.block_lt_of_cell? w _ hwz7)).trans hwz7)⟩ (fun hHeld => ?_); refine with_tabW spec_l8Ok.tab6 spec_l8Ok.bits6 (fun HT_ HW_ => ?_)
            generalize wr.drew = wz2 at BKz1 HB hxz1 hxz2 hxz3 hxz4 hxz5 hxz6 hxz7 hxz8 hxz9 hHeld ⊢
            refine pu_ HT_ 0 32 spec_l8Ok_bools1_ ?_
            refine pu_ HT_ 2 34 spec_l8Ok_bools2_ ?_
            refine ta_ HT_ HW_ hHeld 1 33 spec_l8Ok_bools3_ ?_
            refine pu_ HT_ 3 35 spec_l8Ok_bools4_ ?_
            refine ta_ HT_ HW_ hHeld 4 36 spec_l8Ok_bools5_ ?_
            refine one_ (i := 5) (N := some 37) spec_l8Ok_bools6_ rfl rfl (one_of HT_.out (by kernel_rfl)) (by decide) (fun K hK => ?_)
            refine goes_ Tryd.func49 (by kernel_rfl) rfl #[.agg #[.string ((rd_T81 lz3 xz2).f0), .int .i64 ((rd_T81 lz3 xz2).f1), .int .i64 ((rd_T81 lz3 xz2).f2)]] (by rfl) rfl rfl ar_ ?_
            with_reducible refine (spec_l8SubOk.calls kz1 ((rd_T81 lz3 xz2).f0) ((rd_T81 lz3 xz2).f1) ((rd_T81 lz3 xz2).f2) true _ Az5.out).mono ?_
            rintro e wz3 ⟨rfl, hb⟩
            refine ⟨_, rfl, ?_⟩
            have nz1 := Aside0.mk (blk_below (g := gbz1) (o := .cells #[.slice Az1 lz1.length cz1, .slice Az2 lz2.length cz2, .slice (some adz1) lz3.length cz3] 32 (0, 0)) bk_ hb)
            have nz2 := Aside0.mk (below_step be_ hb)
            clear BKz1
            clear HB
            have BKz1 := nz1
            have HB := nz2
            clear nz1 nz2
            (try clear hb)
            (try clear hb2)
            (try clear hk)
            (try clear hi)
            refine hK.out _ _ ⟨(blk_cell BKz1.out 0).trans rfl, (blk_cell BKz1.out 1).trans rfl, (blk_cell BKz1.out 2).trans rfl, ((HB.out.cell (World.block_lt_of_cell? w _ hwz3)).trans hwz3), ((HB.out.cell (World.block_lt_of_cell? w _ hwz2)).trans hwz2), ((HB.out.cell (World.block_lt_of_cell? w _ hwz1)).trans hwz1), ((HB.out.cell (World.block_lt_of_cell? w _ hwz6)).trans hwz6), ((HB.out.cell (World.block_lt_of_cell? w _ hwz5)).trans hwz5), ((HB.out.cell (World.block_lt_of_cell? w _ hwz4)).trans hwz4), ((HB.out.cell (World.block_lt_of_cell? w _ hwz9)).trans hwz9), ((HB.out.cell (World.block_lt_of_cell? w _ hwz8)).trans hwz8), ((HB.out.cell (World.block_lt_of_cell? w _ hwz7)).trans hwz7)⟩ (fun hHeld => ?_)
            clear hK K
            refine norm_ (a' := ?_) ?_ ?_
            rotate_left
            · show Act.put _ (some 37) _ = _
              simp only [Act.put, List.setIfInBounds_toArray, List.set_cons_zero, List.set_cons_succ, i64_w, i32_w]
              rfl
            refine pu_ HT_ 6 38 spec_l8Ok_bools7_ ?_
            refine pu_ HT_ 7 39 spec_l8Ok_bools8_ ?_
            refine pu_ HT_ 8 40 spec_l8Ok_bools9_ ?_
            refine pu_ HT_ 9 41 spec_l8Ok_bools10_ ?_
            refine pu_ HT_ 10 42 spec_l8Ok_bools11_ ?_
            refine pu_ HT_ 11 43 spec_l8Ok_bools12_ ?_
            refine pu_ HT_ 13 45 spec_l8Ok_bools28_ ?_
            refine pu_ HT_ 14 46 spec_l8Ok_bools29_ ?_
            refine pu_ HT_ 18 50 spec_l8Ok_bools30_ ?_
            refine pu_ HT_ 20 52 spec_l8Ok_bools31_ ?_
            refine ta_ HT_ HW_ hHeld 12 44 spec_l8Ok_bools32_ ?_
            refine pu_ HT_ 15 47 spec_l8Ok_bools33_ ?_
            refine pu_ HT_ 16 48 spec_l8Ok_bools34_ ?_
            refine ta_ HT_ HW_ hHeld 17 49 spec_l8Ok_bools35_ ?_
            refine ta_ HT_ HW_ hHeld 19 51 spec_l8Ok_bools21_ ?_
            refine pu_ HT_ 21 53 spec_l8Ok_bools22_ ?_
            refine pu_ HT_ 22 54 spec_l8Ok_bools23_ ?_
            refine ta_ HT_ HW_ hHeld 23 55 spec_l8Ok_bools24_ ?_
            refine pu_ HT_ 24 56 spec_l8Ok_bools25_ ?_
            refine pu_ HT_ 25 57 spec_l8Ok_bools26_ ?_
            refine pu_ HT_ 26 58 spec_l8Ok_bools27_ ?_
            refine done_ (done_of HT_.out (by kernel_rfl)) ?_
            try go_wp2
            go_roundg kz1
            case measure => have := HJz1.out; have := HKz1.out; omega
            case rel => exact ⟨(wrap64 (xz2 + 1)), (by first | rfl | (simp; done) | (simp [*]; done)), H', ⟨by have := HJz1.out; have := HKz1.out; omega⟩, ⟨bk_⟩, ⟨be_⟩⟩
          rw [if_neg cz5] at H
          have c11b0 : decide (xz2 < (lz3.length : Int)) = false := decide_eq_false cz5
          clear cz5
          have H' := Aside0.mk H
          clear H
          have hczz1 : wr.cell? ⟨gbz1, 0, none⟩ = some (.slice Az1 lz1.length cz1) := (blk_cell BKz1.out 0).trans rfl
          have hczz2 : wr.cell? ⟨gbz1, 1, none⟩ = some (.slice Az2 lz2.length cz2) := (blk_cell BKz1.out 1).trans rfl
          have hczz3 : wr.cell? ⟨gbz1, 2, none⟩ = some (.slice Az3 lz3.length cz3) := (blk_cell BKz1.out 2).trans rfl
          have hfzz1 := blk_frozen BKz1.out 0
          have hfzz2 := blk_frozen BKz1.out 1
          have hfzz3 := blk_frozen BKz1.out 2
          go_wp2
          go_loopg [6] kz1 (fun kq v6 w' => ∃ (x6_3 : Int), v6 = .int .i64 x6_3 ∧ Aside0 (spec_l8Ok.l1 kq az1 x6_3 lz1 lz2 lz3 = some r) ∧ Aside0 (kq ≤ kz1) ∧ Aside0 (w'.heap[gbz1]? = some (.cells #[(.slice Az1 lz1.length cz1), (.slice Az2 lz2.length cz2), (.slice Az3 lz3.length cz3)] 32 (0, 0))) ∧ Aside0 (Below w.heap.size w w'))
          case atStart => exact ⟨(0), (by first | rfl | (simp; done) | (simp [*]; done)), H', ⟨Nat.le_refl _⟩, ⟨bk_⟩, ⟨be_⟩⟩
          case round =>
            clear H'
            try clear c1
            try clear p1
            try clear q1
            try clear hx1
            try clear p2
            try clear c4
            try clear p6
            try clear cz5
            try clear c11b0
            try clear c12
            try clear p13
            try clear q13
            try clear hx13
            try clear c14
            try clear c15
            try clear c15b0
            try clear c17
            try clear c18
            try clear hcz26_0
            try clear hcz26_1
            try clear hcz26_2
            try clear hcz29_0
            try clear hcz29_1
            try clear hcz29_2
            try clear hczz1
            try clear hczz2
            try clear hczz3
            try clear hfz26_0
            try clear hfz26_1
            try clear hfz26_2
            try clear hfz29_0
            try clear hfz29_1
            try clear hfz29_2
            try clear hfzz1
            try clear hfzz2
            try clear hfzz3
            try clear hx137_0
            try clear hx137_1
            try clear hx137_2
            try clear p137
            try clear q137
            obtain ⟨xz3, rfl, HA, HKz2, BKz1, HB⟩ := hrel
            cases gk with
            | zero => exact absurd HA.out (by simp [spec_l8Ok.l1])
            | succ kz2 =>
              have H := HA.out
              clear HA
              simp only [spec_l8Ok.l1] at H
              by_cases cz6 : xz3 < (lz1.length : Int)
              rotate_left
              · rw [if_neg cz6] at H
                have c33b0 : decide (xz3 < (lz1.length : Int)) = false := decide_eq_false cz6
                clear cz6
                obtain rfl := Option.some.inj H
                have hczz4 : wr.cell? ⟨gbz1, 0, none⟩ = some (.slice Az1 lz1.length cz1) := (blk_cell BKz1.out 0).trans rfl
                have hczz5 : wr.cell? ⟨gbz1, 1, none⟩ = some (.slice Az2 lz2.length cz2) := (blk_cell BKz1.out 1).trans rfl
                have hczz6 : wr.cell? ⟨gbz1, 2, none⟩ = some (.slice Az3 lz3.length cz3) := (blk_cell BKz1.out 2).trans rfl
                have hfzz4 := blk_frozen BKz1.out 0
                have hfzz5 := blk_frozen BKz1.out 1
                have hfzz6 := blk_frozen BKz1.out 2
                go_wp2
                go_ret
                exact ⟨by first | rfl | (simp [errW_none, errW_some] <;> rfl) | (simp [*, errW_none, errW_some] <;> rfl), be_⟩
              rw [if_pos cz6] at H
              have c33b0 : decide (xz3 < (lz1.length : Int)) = true := decide_eq_true cz6
              clear cz6
              by_cases cz7 : 0 ≤ xz3
              rotate_left
              · rw [if_neg cz7] at H
                exact absurd H (by simp)
              rw [if_pos cz7] at H
              have c34b0 : decide (0 ≤ xz3) = true := decide_eq_true cz7
              clear cz7
              by_cases cz8 : xz3 < (lz2.length : Int)
              rotate_left
              · rw [if_neg cz8] at H
                exact absurd H (by simp)
              rw [if_pos cz8] at H
              have c35b0 : decide (xz3 < (lz2.length : Int)) = true := decide_eq_true cz8
              clear cz8
              replace H := Option.bind_eq_some_iff.mp H
              obtain ⟨tz1, Az4, H⟩ := H
              replace H : (if tz1 = true then (if xz3 > 0 then (if 0 ≤ (wrap64 (xz3 - 1)) then (if (wrap64 (xz3 - 1)) < (lz1.length : Int) then (if ((Op.bytesLess ((rdOf ByteArray.empty lz1 (wrap64 (xz3 - 1))).toList) ((rdOf ByteArray.empty lz1 xz3).toList)) = true) then (if (((rd_T32 lz2 xz3).f0).length : Int) = 0 then (if (((rd_T32 lz2 xz3).f2).length : Int) = 0 then (some false) else (if (rdOf ByteArray.empty lz1 xz3).toList = ([35] : List UInt8) then (if (((rd_T32 lz2 xz3).f0).length : Int) > 0 then (some false) else ((spec_l8Ok.f kz2 ((rd_T32 lz2 xz3).f0) ((rd_T32 lz2 xz3).f1) ((rd_T32 lz2 xz3).f2) (wrap64 (az1 + 1))).bind fun t148 => (if t148 = true then (spec_l8Ok.l1 kz2 az1 (wrap64 (xz3 + 1)) lz1 lz2 lz3) else (some false)))) else ((spec_l8Ok.f kz2 ((rd_T32 lz2 xz3).f0) ((rd_T32 lz2 xz3).f1) ((rd_T32 lz2 xz3).f2) (wrap64 (az1 + 1))).bind fun t149 => (if t149 = true then (spec_l8Ok.l1 kz2 az1 (wrap64 (xz3 + 1)) lz1 lz2 lz3) else (some false))))) else (if (rdOf ByteArray.empty lz1 xz3).toList = ([35] : List UInt8) then (if (((rd_T32 lz2 xz3).f0).length : Int) > 0 then (some false) else ((spec_l8Ok.f kz2 ((rd_T32 lz2 xz3).f0) ((rd_T32 lz2 xz3).f1) ((rd_T32 lz2 xz3).f2) (wrap64 (az1 + 1))).bind fun t151 => (if t151 = true then (spec_l8Ok.l1 kz2 az1 (wrap64 (xz3 + 1)) lz1 lz2 lz3) else (some false)))) else ((spec_l8Ok.f kz2 ((rd_T32 lz2 xz3).f0) ((rd_T32 lz2 xz3).f1) ((rd_T32 lz2 xz3).f2) (wrap64 (az1 + 1))).bind fun t152 => (if t152 = true then (spec_l8Ok.l1 kz2 az1 (wrap64 (xz3 + 1)) lz1 lz2 lz3) else (some false))))) else (some false)) else (none)) else (none)) else (if (((rd_T32 lz2 xz3).f0).length : Int) = 0 then (if (((rd_T32 lz2 xz3).f2).length : Int) = 0 then (some false) else (if (rdOf ByteArray.empty lz1 xz3).toList = ([35] : List UInt8) then (if (((rd_T32 lz2 xz3).f0).length : Int) > 0 then (some false) else ((spec_l8Ok.f kz2 ((rd_T32 lz2 xz3).f0) ((rd_T32 lz2 xz3).f1) ((rd_T32 lz2 xz3).f2) (wrap64 (az1 + 1))).bind fun t154 => (if t154 = true then (spec_l8Ok.l1 kz2 az1 (wrap64 (xz3 + 1)) lz1 lz2 lz3) else (some false)))) else ((spec_l8Ok.f kz2 ((rd_T32 lz2 xz3).f0) ((rd_T32 lz2 xz3).f1) ((rd_T32 lz2 xz3).f2) (wrap64 (az1 + 1))).bind fun t155 => (if t155 = true then (spec_l8Ok.l1 kz2 az1 (wrap64 (xz3 + 1)) lz1 lz2 lz3) else (some false))))) else (if (rdOf ByteArray.empty lz1 xz3).toList = ([35] : List UInt8) then (if (((rd_T32 lz2 xz3).f0).length : Int) > 0 then (some false) else ((spec_l8Ok.f kz2 ((rd_T32 lz2 xz3).f0) ((rd_T32 lz2 xz3).f1) ((rd_T32 lz2 xz3).f2) (wrap64 (az1 + 1))).bind fun t157 => (if t157 = true then (spec_l8Ok.l1 kz2 az1 (wrap64 (xz3 + 1)) lz1 lz2 lz3) else (some false)))) else ((spec_l8Ok.f kz2 ((rd_T32 lz2 xz3).f0) ((rd_T32 lz2 xz3).f1) ((rd_T32 lz2 xz3).f2) (wrap64 (az1 + 1))).bind fun t158 => (if t158 = true then (spec_l8Ok.l1 kz2 az1 (wrap64 (xz3 + 1)) lz1 lz2 lz3) else (some false)))))) else (some false)) = some r := H
              have Az5 := Aside0.mk Az4
              clear Az4
              by_cases cz9 : tz1 = true
              rotate_left
              · replace cz9 := Bool.eq_false_iff.mpr cz9
                subst cz9
                have Hz1 : (some false) = some r := by rw [if_neg (show ¬ (false = true) by decide)] at H; exact H
                clear H
                have H := Hz1
                clear Hz1
                obtain rfl := Option.some.inj H
                have hczz4 : wr.cell? ⟨gbz1, 0, none⟩ = some (.slice Az1 lz1.length cz1) := (blk_cell BKz1.out 0).trans rfl
                have hczz5 : wr.cell? ⟨gbz1, 1, none⟩ = some (.slice Az2 lz2.length cz2) := (blk_cell BKz1.out 1).trans rfl
                have hczz6 : wr.cell? ⟨gbz1, 2, none⟩ = some (.slice Az3 lz3.length cz3) := (blk_cell BKz1.out 2).trans rfl
                have hfzz4 := blk_frozen BKz1.out 0
                have hfzz5 := blk_frozen BKz1.out 1
                have hfzz6 := blk_frozen BKz1.out 2
                have pz1 : 0 ≤ (xz3 : Int) := of_decide_eq_true as_
                have qz1 : xz3 < (lz2.length : Int) := of_decide_eq_true as_
                obtain ⟨adz1, Az6, cz10, Az7, cz11, Az8, cz12, ez1, hxz1, hxz2, hxz3, hlz1, hiz1, hlz2, hiz2, hlz3, hiz3⟩ := at_T32 HRz2.out xz3 pz1 qz1
                cases ez1
                replace hxz1 := (HB.out.cell (World.block_lt_of_cell? w _ hxz1)).trans hxz1
                replace hxz2 := (HB.out.cell (World.block_lt_of_cell? w _ hxz2)).trans hxz2
                replace hxz3 := (HB.out.cell (World.block_lt_of_cell? w _ hxz3)).trans hxz3
                have HRz4 := Aside0.mk hiz1
                have HCz5 := Aside0.mk hlz1
                clear hiz1 hlz1
                have HRz5 := Aside0.mk hiz2
                have HCz6 := Aside0.mk hlz2
                clear hiz2 hlz2
                have HRz6 := Aside0.mk hiz3
                have HCz7 := Aside0.mk hlz3
                clear hiz3 hlz3
                replace pz1 := eq_true pz1
                replace qz1 := eq_true qz1
                try go_wp2_with (first | ((with_reducible refine gate_dst (N := 7) rfl ?_); (try (refine gate_guard (by rfl) ?_; dsimp only)); refine box_event ?hg (N := 7) ?hd (cs := #[.slice none 0 0, .slice none 0 0, .slice none 0 0]) (t := 32) ?hr ?_; (case hd => rfl); (case hg => rfl); (case hr => first | (go_simp; done) | (go_simp; rfl)); intro gbz2 hg wz2 hbox hb; have nz1 := Aside0.mk (blk_below (g := gbz1) (o := .cells #[.slice Az1 lz1.length cz1, .slice (some adz1) lz2.length cz2, .slice Az3 lz3.length cz3] 32 (0, 0)) bk_ hb); have nz2 := Aside0.mk (below_step be_ hb); have nz3 := Aside0.mk (hbox); have nz4 := Aside0.mk ((sz_ : w.heap.size ≤ gbz2)); have nz5 := Aside0.mk ((sz_ : w.heap.size ≤ gbz2)); have nz6 := Aside0.mk ((by rw [hg]; exact Nat.ne_of_lt (blk_lt (g := gbz1) (o := .cells #[.slice Az1 lz1.length cz1, .slice (some adz1) lz2.length cz2, .slice Az3 lz3.length cz3] 32 (0, 0)) bk_) : gbz1 ≠ gbz2)); have nz7 := Aside0.mk ((by rw [hg]; exact Nat.ne_of_gt (blk_lt (g := gbz1) (o := .cells #[.slice Az1 lz1.length cz1, .slice (some adz1) lz2.length cz2, .slice Az3 lz3.length cz3] 32 (0, 0)) bk_) : gbz2 ≠ gbz1)); clear BKz1; clear HB; have BKz1 := nz1; have HB := nz2; have BKz2 := nz3; have GWz2 := nz4; have GEz2 := nz5; have NBz1 := nz6; have NBz2 := nz7; clear nz1 nz2 nz3 nz4 nz5 nz6 nz7; clear hb hbox hg; have hnbz1 := NBz2.out; have hncz1 := NBz1.out; have hczz7 : wz2.cell? ⟨gbz2, 0, none⟩ = some (.slice none 0 0) := (blk_cell BKz2.out 0).trans rfl; have hczz8 : wz2.cell? ⟨gbz2, 1, none⟩ = some (.slice none 0 0) := (blk_cell BKz2.out 1).trans rfl; have hczz9 : wz2.cell? ⟨gbz2, 2, none⟩ = some (.slice none 0 0) := (blk_cell BKz2.out 2).trans rfl; have hfzz7 := blk_frozen BKz2.out 0; have hfzz8 := blk_frozen BKz2.out 1; have hfzz9 := blk_frozen BKz2.out 2))
                have nz1 : Aside0 ((((wz2.setCell ⟨gbz2, 0, none⟩ (.slice Az6 ((rd_T32 lz2 xz3).f0).length cz10)).setCell ⟨gbz2, 1, none⟩ (.slice Az7 ((rd_T32 lz2 xz3).f1).length cz11)).setCell ⟨gbz2, 2, none⟩ (.slice Az8 ((rd_T32 lz2 xz3).f2).length cz12)).heap[gbz1]? = some (.cells #[.slice Az1 lz1.length cz1, .slice (some adz1) lz2.length cz2, .slice Az3 lz3.length cz3] 32 (0, 0))) := ⟨by (with_reducible repeat (first | refine blk_drewN ?_ _ | refine blk_drew ?_ | refine blk_alloc ?_ _)); refine blk_far ?_ NBz1.out _; (with_reducible repeat (first | refine blk_drewN ?_ _ | refine blk_drew ?_ | refine blk_alloc ?_ _)); refine blk_far ?_ NBz1.out _; (with_reducible repeat (first | refine blk_drewN ?_ _ | refine blk_drew ?_ | refine blk_alloc ?_ _)); refine blk_far ?_ NBz1.out _; (with_reducible repeat (first | refine blk_drewN ?_ _ | refine blk_drew ?_ | refine blk_alloc ?_ _)); exact BKz1.out⟩
                have nz2 : Aside0 ((((wz2.setCell ⟨gbz2, 0, none⟩ (.slice Az6 ((rd_T32 lz2 xz3).f0).length cz10)).setCell ⟨gbz2, 1, none⟩ (.slice Az7 ((rd_T32 lz2 xz3).f1).length cz11)).setCell ⟨gbz2, 2, none⟩ (.slice Az8 ((rd_T32 lz2 xz3).f2).length cz12)).heap[gbz2]? = some (.cells #[.slice Az6 ((rd_T32 lz2 xz3).f0).length cz10, .slice Az7 ((rd_T32 lz2 xz3).f1).length cz11, .slice Az8 ((rd_T32 lz2 xz3).f2).length cz12] 32 (0, 0))) := ⟨by (with_reducible repeat (first | refine blk_drewN ?_ _ | refine blk_drew ?_ | refine blk_alloc ?_ _)); refine blk_put (cs := #[.slice Az6 ((rd_T32 lz2 xz3).f0).length cz10, .slice Az7 ((rd_T32 lz2 xz3).f1).length cz11, .slice none 0 0]) ?_ 2 _ rfl; (with_reducible repeat (first | refine blk_drewN ?_ _ | refine blk_drew ?_ | refine blk_alloc ?_ _)); refine blk_put (cs := #[.slice Az6 ((rd_T32 lz2 xz3).f0).length cz10, .slice none 0 0, .slice none 0 0]) ?_ 1 _ rfl; (with_reducible repeat (first | refine blk_drewN ?_ _ | refine blk_drew ?_ | refine blk_alloc ?_ _)); refine blk_put (cs := #[.slice none 0 0, .slice none 0 0, .slice none 0 0]) ?_ 0 _ rfl; (with_reducible repeat (first | refine blk_drewN ?_ _ | refine blk_drew ?_ | refine blk_alloc ?_ _)); exact BKz2.out⟩
                have nz3 : Aside0 (Below w.heap.size w (((wz2.setCell ⟨gbz2, 0, none⟩ (.slice Az6 ((rd_T32 lz2 xz3).f0).length cz10)).setCell ⟨gbz2, 1, none⟩ (.slice Az7 ((rd_T32 lz2 xz3).f1).length cz11)).setCell ⟨gbz2, 2, none⟩ (.slice Az8 ((rd_T32 lz2 xz3).f2).length cz12))) := ⟨be_⟩
                (try clear BKz1)
                (try clear BKz2)
                (try clear HB)
                generalize (((wz2.setCell ⟨gbz2, 0, none⟩ (.slice Az6 ((rd_T32 lz2 xz3).f0).length cz10)).setCell ⟨gbz2, 1, none⟩ (.slice Az7 ((rd_T32 lz2 xz3).f1).length cz11)).setCell ⟨gbz2, 2, none⟩ (.slice Az8 ((rd_T32 lz2 xz3).f2).length cz12)) = wz3 at nz1 nz2 nz3 ⊢
                have BKz1 := nz1
                have BKz2 := nz2
                have HB := nz3
                clear nz1 nz2 nz3
                have nz1 := Aside0.mk (blk_drew BKz1.out)
                have nz2 := Aside0.mk (blk_drew BKz2.out)
                have nz3 := Aside0.mk (below_drew1 HB.out)
                clear BKz1
                clear BKz2
                clear HB
                have BKz1 := nz1
                have BKz2 := nz2
                have HB := nz3
                clear nz1 nz2 nz3
                have pz2 : 0 ≤ (xz3 : Int) := of_decide_eq_true as_
                have qz2 : xz3 < (lz1.length : Int) := of_decide_eq_true as_
                obtain ⟨adz2, ez2, hxz4⟩ := Kd.at_string HRz1.out xz3 pz2 qz2
                have hwz1 := hxz4
                cases ez2
                replace hxz4 := (HB.out.cell (World.block_lt_of_cell? w _ hxz4)).trans hxz4
                replace pz2 := eq_true pz2
                replace qz2 := eq_true qz2
                refine start_ (n := 58) (S := fun w' => w'.cell? ⟨gbz1, 0, none⟩ = some (.slice (some adz2) lz1.length cz1) ∧ w'.cell? ⟨gbz1, 1, none⟩ = some (.slice (some adz1) lz2.length cz2) ∧ w'.cell? ⟨gbz1, 2, none⟩ = some (.slice Az3 lz3.length cz3) ∧ w'.cell? (adz2.add (xz3).toNat) = some (.string (rdOf ByteArray.empty lz1 xz3))) (ds := []) spec_l8Ok_bools36_ (by kernel_rfl) rfl (by kernel_rfl) ⟨(blk_cell BKz1.out 0).trans rfl, (blk_cell BKz1.out 1).trans rfl, (blk_cell BKz1.out 2).trans rfl, ((HB.out.cell (World.block_lt_of_cell? w _ hwz1)).trans hwz1)⟩ (fun hHeld => ?_); refine with_tabW spec_l8Ok.tab12 spec_l8Ok.bits12 (fun HT_ HW_ => ?_)
                generalize wz3.drew = wz4 at BKz1 BKz2 HB hxz4 hHeld ⊢
                refine pu_ HT_ 0 71 spec_l8Ok_bools37_ ?_
                refine pu_ HT_ 2 73 spec_l8Ok_bools38_ ?_
                refine ta_ HT_ HW_ hHeld 1 72 spec_l8Ok_bools39_ ?_
                refine pu_ HT_ 3 74 spec_l8Ok_bools40_ ?_
                refine ta_ HT_ HW_ hHeld 4 75 spec_l8Ok_bools41_ ?_
                refine one_ (i := 5) (N := some 76) spec_l8Ok_bools42_ rfl rfl (one_of HT_.out (by kernel_rfl)) (by decide) (fun K hK => ?_)
                refine goes_ Tryd.func50 (by kernel_rfl) rfl #[.string (rdOf ByteArray.empty lz1 xz3)] (by rfl) rfl rfl ar_ ?_
                with_reducible refine (spec_l8Level.calls kz2 (rdOf ByteArray.empty lz1 xz3) false _ Az5.out).mono ?_
                rintro e wz5 ⟨rfl, hb⟩
                refine ⟨_, rfl, ?_⟩
                have nz1 := Aside0.mk (blk_below (g := gbz1) (o := .cells #[.slice (some adz2) lz1.length cz1, .slice (some adz1) lz2.length cz2, .slice Az3 lz3.length cz3] 32 (0, 0)) bk_ hb)
                have nz2 := Aside0.mk (blk_below (g := gbz2) (o := .cells #[.slice Az6 ((rd_T32 lz2 xz3).f0).length cz10, .slice Az7 ((rd_T32 lz2 xz3).f1).length cz11, .slice Az8 ((rd_T32 lz2 xz3).f2).length cz12] 32 (0, 0)) bk_ hb)
                have nz3 := Aside0.mk (below_step be_ hb)
                clear BKz1
                clear BKz2
                clear HB
                have BKz1 := nz1
                have BKz2 := nz2
                have HB := nz3
                clear nz1 nz2 nz3
                (try clear hb)
                (try clear hb2)
                (try clear hk)
                (try clear hi)
                refine hK.out _ _ ⟨(blk_cell BKz1.out 0).trans rfl, (blk_cell BKz1.out 1).trans rfl, (blk_cell BKz1.out 2).trans rfl, ((HB.out.cell (World.block_lt_of_cell? w _ hwz1)).trans hwz1)⟩ (fun hHeld => ?_)
                clear hK K
                refine norm_ (a' := ?_) ?_ ?_
                rotate_left
                · show Act.put _ (some 76) _ = _
                  simp only [Act.put, List.setIfInBounds_toArray, List.set_cons_zero, List.set_cons_succ, i64_w, i32_w]
                  rfl
                refine pu_ HT_ 6 77 spec_l8Ok_bools43_ ?_
                refine pu_ HT_ 7 78 spec_l8Ok_bools44_ ?_
                refine un_ HT_ 8 79 spec_l8Ok_bools45_ ?_
                refine un_ HT_ 9 80 spec_l8Ok_bools46_ ?_
                refine un_ HT_ 10 81 spec_l8Ok_bools47_ ?_
                refine un_ HT_ 11 82 spec_l8Ok_bools48_ ?_
                refine un_ HT_ 12 83 spec_l8Ok_bools49_ ?_
                refine un_ HT_ 13 84 spec_l8Ok_bools50_ ?_
                refine un_ HT_ 14 85 spec_l8Ok_bools51_ ?_
                refine un_ HT_ 15 86 spec_l8Ok_bools52_ ?_
                refine un_ HT_ 16 87 spec_l8Ok_bools53_ ?_
                refine un_ HT_ 17 88 spec_l8Ok_bools54_ ?_
                refine un_ HT_ 18 89 spec_l8Ok_bools55_ ?_
                refine un_ HT_ 19 90 spec_l8Ok_bools56_ ?_
                refine un_ HT_ 20 91 spec_l8Ok_bools57_ ?_
                refine un_ HT_ 21 92 spec_l8Ok_bools58_ ?_
                refine un_ HT_ 22 93 spec_l8Ok_bools59_ ?_
                refine un_ HT_ 23 94 spec_l8Ok_bools60_ ?_
                refine pu_ HT_ 24 95 spec_l8Ok_bools61_ ?_
                refine pu_ HT_ 25 96 spec_l8Ok_bools62_ ?_
                refine un_ HT_ 26 97 spec_l8Ok_bools63_ ?_
                refine un_ HT_ 27 98 spec_l8Ok_bools64_ ?_
                refine un_ HT_ 28 99 spec_l8Ok_bools65_ ?_
                refine un_ HT_ 29 100 spec_l8Ok_bools66_ ?_
                refine un_ HT_ 30 101 spec_l8Ok_bools67_ ?_
                refine un_ HT_ 31 102 spec_l8Ok_bools68_ ?_
                refine un_ HT_ 32 103 spec_l8Ok_bools69_ ?_
                refine un_ HT_ 33 104 spec_l8Ok_bools70_ ?_
                refine un_ HT_ 34 105 spec_l8Ok_bools71_ ?_
                refine un_ HT_ 35 106 spec_l8Ok_bools72_ ?_
                refine pu_ HT_ 36 107 spec_l8Ok_bools73_ ?_
                refine pu_ HT_ 37 108 spec_l8Ok_bools74_ ?_
                refine un_ HT_ 38 109 spec_l8Ok_bools75_ ?_
                refine un_ HT_ 39 110 spec_l8Ok_bools76_ ?_
                refine un_ HT_ 40 111 spec_l8Ok_bools77_ ?_
                refine un_ HT_ 41 112 spec_l8Ok_bools78_ ?_
                refine un_ HT_ 42 113 spec_l8Ok_bools79_ ?_
                refine un_ HT_ 43 114 spec_l8Ok_bools80_ ?_
                refine un_ HT_ 44 115 spec_l8Ok_bools81_ ?_
                refine un_ HT_ 45 116 spec_l8Ok_bools82_ ?_
                refine un_ HT_ 46 117 spec_l8Ok_bools83_ ?_
                refine un_ HT_ 47 118 spec_l8Ok_bools84_ ?_
                refine un_ HT_ 48 119 spec_l8Ok_bools85_ ?_
                refine un_ HT_ 49 120 spec_l8Ok_bools86_ ?_
                refine pu_ HT_ 50 121 spec_l8Ok_bools87_ ?_
                refine pu_ HT_ 51 122 spec_l8Ok_bools88_ ?_
                refine un_ HT_ 52 123 spec_l8Ok_bools89_ ?_
                refine un_ HT_ 53 124 spec_l8Ok_bools90_ ?_
                refine un_ HT_ 54 125 spec_l8Ok_bools91_ ?_
                refine un_ HT_ 55 126 spec_l8Ok_bools92_ ?_
                refine un_ HT_ 56 127 spec_l8Ok_bools93_ ?_
                refine pu_ HT_ 57 128 spec_l8Ok_bools94_ ?_
                refine done_ (done_of HT_.out (by kernel_rfl)) ?_
                try go_wp2
                go_ret
                exact ⟨by first | rfl | (simp [errW_none, errW_some] <;> rfl) | (simp [*, errW_none, errW_some] <;> rfl), be_⟩
              subst cz9
              have Hz1 : (if xz3 > 0 then (if 0 ≤ (wrap64 (xz3 - 1)) then (if (wrap64 (xz3 - 1)) < (lz1.length : Int) then (if ((Op.bytesLess ((rdOf ByteArray.empty lz1 (wrap64 (xz3 - 1))).toList) ((rdOf ByteArray.empty lz1 xz3).toList)) = true) then (if (((rd_T32 lz2 xz3).f0).length : Int) = 0 then (if (((rd_T32 lz2 xz3).f2).length : Int) = 0 then (some false) else (if (rdOf ByteArray.empty lz1 xz3).toList = ([35] : List UInt8) then (if (((rd_T32 lz2 xz3).f0).length : Int) > 0 then (some false) else ((spec_l8Ok.f kz2 ((rd_T32 lz2 xz3).f0) ((rd_T32 lz2 xz3).f1) ((rd_T32 lz2 xz3).f2) (wrap64 (az1 + 1))).bind fun t148 => (if t148 = true then (spec_l8Ok.l1 kz2 az1 (wrap64 (xz3 + 1)) lz1 lz2 lz3) else (some false)))) else ((spec_l8Ok.f kz2 ((rd_T32 lz2 xz3).f0) ((rd_T32 lz2 xz3).f1) ((rd_T32 lz2 xz3).f2) (wrap64 (az1 + 1))).bind fun t149 => (if t149 = true then (spec_l8Ok.l1 kz2 az1 (wrap64 (xz3 + 1)) lz1 lz2 lz3) else (some false))))) else (if (rdOf ByteArray.empty lz1 xz3).toList = ([35] : List UInt8) then (if (((rd_T32 lz2 xz3).f0).length : Int) > 0 then (some false) else ((spec_l8Ok.f kz2 ((rd_T32 lz2 xz3).f0) ((rd_T32 lz2 xz3).f1) ((rd_T32 lz2 xz3).f2) (wrap64 (az1 + 1))).bind fun t151 => (if t151 = true then (spec_l8Ok.l1 kz2 az1 (wrap64 (xz3 + 1)) lz1 lz2 lz3) else (some false)))) else ((spec_l8Ok.f kz2 ((rd_T32 lz2 xz3).f0) ((rd_T32 lz2 xz3).f1) ((rd_T32 lz2 xz3).f2) (wrap64 (az1 + 1))).bind fun t152 => (if t152 = true then (spec_l8Ok.l1 kz2 az1 (wrap64 (xz3 + 1)) lz1 lz2 lz3) else (some false))))) else (some false)) else (none)) else (none)) else (if (((rd_T32 lz2 xz3).f0).length : Int) = 0 then (if (((rd_T32 lz2 xz3).f2).length : Int) = 0 then (some false) else (if (rdOf ByteArray.empty lz1 xz3).toList = ([35] : List UInt8) then (if (((rd_T32 lz2 xz3).f0).length : Int) > 0 then (some false) else ((spec_l8Ok.f kz2 ((rd_T32 lz2 xz3).f0) ((rd_T32 lz2 xz3).f1) ((rd_T32 lz2 xz3).f2) (wrap64 (az1 + 1))).bind fun t154 => (if t154 = true then (spec_l8Ok.l1 kz2 az1 (wrap64 (xz3 + 1)) lz1 lz2 lz3) else (some false)))) else ((spec_l8Ok.f kz2 ((rd_T32 lz2 xz3).f0) ((rd_T32 lz2 xz3).f1) ((rd_T32 lz2 xz3).f2) (wrap64 (az1 + 1))).bind fun t155 => (if t155 = true then (spec_l8Ok.l1 kz2 az1 (wrap64 (xz3 + 1)) lz1 lz2 lz3) else (some false))))) else (if (rdOf ByteArray.empty lz1 xz3).toList = ([35] : List UInt8) then (if (((rd_T32 lz2 xz3).f0).length : Int) > 0 then (some false) else ((spec_l8Ok.f kz2 ((rd_T32 lz2 xz3).f0) ((rd_T32 lz2 xz3).f1) ((rd_T32 lz2 xz3).f2) (wrap64 (az1 + 1))).bind fun t157 => (if t157 = true then (spec_l8Ok.l1 kz2 az1 (wrap64 (xz3 + 1)) lz1 lz2 lz3) else (some false)))) else ((spec_l8Ok.f kz2 ((rd_T32 lz2 xz3).f0) ((rd_T32 lz2 xz3).f1) ((rd_T32 lz2 xz3).f2) (wrap64 (az1 + 1))).bind fun t158 => (if t158 = true then (spec_l8Ok.l1 kz2 az1 (wrap64 (xz3 + 1)) lz1 lz2 lz3) else (some false)))))) = some r := by rw [if_pos rfl] at H; exact H
              clear H
              have H := Hz1
              clear Hz1
              by_cases cz10 : xz3 > 0
              rotate_left
              · rw [if_neg cz10] at H
                have c38b0 : decide (0 < xz3) = false := decide_eq_false cz10
                clear cz10
                have HXz1 := Aside0.mk H
                clear H
                have hczz4 : wr.cell? ⟨gbz1, 0, none⟩ = some (.slice Az1 lz1.length cz1) := (blk_cell BKz1.out 0).trans rfl
                have hczz5 : wr.cell? ⟨gbz1, 1, none⟩ = some (.slice Az2 lz2.length cz2) := (blk_cell BKz1.out 1).trans rfl
                have hczz6 : wr.cell? ⟨gbz1, 2, none⟩ = some (.slice Az3 lz3.length cz3) := (blk_cell BKz1.out 2).trans rfl
                have hfzz4 := blk_frozen BKz1.out 0
                have hfzz5 := blk_frozen BKz1.out 1
                have hfzz6 := blk_frozen BKz1.out 2
                have pz1 : 0 ≤ (xz3 : Int) := of_decide_eq_true as_
                have qz1 : xz3 < (lz2.length : Int) := of_decide_eq_true as_
                obtain ⟨adz1, Az6, cz11, Az7, cz12, Az8, cz13, ez1, hxz1, hxz2, hxz3, hlz1, hiz1, hlz2, hiz2, hlz3, hiz3⟩ := at_T32 HRz2.out xz3 pz1 qz1
                cases ez1
                replace hxz1 := (HB.out.cell (World.block_lt_of_cell? w _ hxz1)).trans hxz1
                replace hxz2 := (HB.out.cell (World.block_lt_of_cell? w _ hxz2)).trans hxz2
                replace hxz3 := (HB.out.cell (World.block_lt_of_cell? w _ hxz3)).trans hxz3
                have HRz4 := Aside0.mk hiz1
                have HCz5 := Aside0.mk hlz1
                clear hiz1 hlz1
                have HRz5 := Aside0.mk hiz2
                have HCz6 := Aside0.mk hlz2
                clear hiz2 hlz2
                have HRz6 := Aside0.mk hiz3
                have HCz7 := Aside0.mk hlz3
                clear hiz3 hlz3
                replace pz1 := eq_true pz1
                replace qz1 := eq_true qz1
                try go_wp2_with (first | ((with_reducible refine gate_dst (N := 7) rfl ?_); (try (refine gate_guard (by rfl) ?_; dsimp only)); refine box_event ?hg (N := 7) ?hd (cs := #[.slice none 0 0, .slice none 0 0, .slice none 0 0]) (t := 32) ?hr ?_; (case hd => rfl); (case hg => rfl); (case hr => first | (go_simp; done) | (go_simp; rfl)); intro gbz2 hg wz2 hbox hb; have nz1 := Aside0.mk (blk_below (g := gbz1) (o := .cells #[.slice Az1 lz1.length cz1, .slice (some adz1) lz2.length cz2, .slice Az3 lz3.length cz3] 32 (0, 0)) bk_ hb); have nz2 := Aside0.mk (below_step be_ hb); have nz3 := Aside0.mk (hbox); have nz4 := Aside0.mk ((sz_ : w.heap.size ≤ gbz2)); have nz5 := Aside0.mk ((sz_ : w.heap.size ≤ gbz2)); have nz6 := Aside0.mk ((by rw [hg]; exact Nat.ne_of_lt (blk_lt (g := gbz1) (o := .cells #[.slice Az1 lz1.length cz1, .slice (some adz1) lz2.length cz2, .slice Az3 lz3.length cz3] 32 (0, 0)) bk_) : gbz1 ≠ gbz2)); have nz7 := Aside0.mk ((by rw [hg]; exact Nat.ne_of_gt (blk_lt (g := gbz1) (o := .cells #[.slice Az1 lz1.length cz1, .slice (some adz1) lz2.length cz2, .slice Az3 lz3.length cz3] 32 (0, 0)) bk_) : gbz2 ≠ gbz1)); clear BKz1; clear HB; have BKz1 := nz1; have HB := nz2; have BKz2 := nz3; have GWz2 := nz4; have GEz2 := nz5; have NBz1 := nz6; have NBz2 := nz7; clear nz1 nz2 nz3 nz4 nz5 nz6 nz7; clear hb hbox hg; have hnbz1 := NBz2.out; have hncz1 := NBz1.out; have hczz7 : wz2.cell? ⟨gbz2, 0, none⟩ = some (.slice none 0 0) := (blk_cell BKz2.out 0).trans rfl; have hczz8 : wz2.cell? ⟨gbz2, 1, none⟩ = some (.slice none 0 0) := (blk_cell BKz2.out 1).trans rfl; have hczz9 : wz2.cell? ⟨gbz2, 2, none⟩ = some (.slice none 0 0) := (blk_cell BKz2.out 2).trans rfl; have hfzz7 := blk_frozen BKz2.out 0; have hfzz8 := blk_frozen BKz2.out 1; have hfzz9 := blk_frozen BKz2.out 2))
                have nz1 : Aside0 ((((wz2.setCell ⟨gbz2, 0, none⟩ (.slice Az6 ((rd_T32 lz2 xz3).f0).length cz11)).setCell ⟨gbz2, 1, none⟩ (.slice Az7 ((rd_T32 lz2 xz3).f1).length cz12)).setCell ⟨gbz2, 2, none⟩ (.slice Az8 ((rd_T32 lz2 xz3).f2).length cz13)).heap[gbz1]? = some (.cells #[.slice Az1 lz1.length cz1, .slice (some adz1) lz2.length cz2, .slice Az3 lz3.length cz3] 32 (0, 0))) := ⟨by (with_reducible repeat (first | refine blk_drewN ?_ _ | refine blk_drew ?_ | refine blk_alloc ?_ _)); refine blk_far ?_ NBz1.out _; (with_reducible repeat (first | refine blk_drewN ?_ _ | refine blk_drew ?_ | refine blk_alloc ?_ _)); refine blk_far ?_ NBz1.out _; (with_reducible repeat (first | refine blk_drewN ?_ _ | refine blk_drew ?_ | refine blk_alloc ?_ _)); refine blk_far ?_ NBz1.out _; (with_reducible repeat (first | refine blk_drewN ?_ _ | refine blk_drew ?_ | refine blk_alloc ?_ _)); exact BKz1.out⟩
                have nz2 : Aside0 ((((wz2.setCell ⟨gbz2, 0, none⟩ (.slice Az6 ((rd_T32 lz2 xz3).f0).length cz11)).setCell ⟨gbz2, 1, none⟩ (.slice Az7 ((rd_T32 lz2 xz3).f1).length cz12)).setCell ⟨gbz2, 2, none⟩ (.slice Az8 ((rd_T32 lz2 xz3).f2).length cz13)).heap[gbz2]? = some (.cells #[.slice Az6 ((rd_T32 lz2 xz3).f0).length cz11, .slice Az7 ((rd_T32 lz2 xz3).f1).length cz12, .slice Az8 ((rd_T32 lz2 xz3).f2).length cz13] 32 (0, 0))) := ⟨by (with_reducible repeat (first | refine blk_drewN ?_ _ | refine blk_drew ?_ | refine blk_alloc ?_ _)); refine blk_put (cs := #[.slice Az6 ((rd_T32 lz2 xz3).f0).length cz11, .slice Az7 ((rd_T32 lz2 xz3).f1).length cz12, .slice none 0 0]) ?_ 2 _ rfl; (with_reducible repeat (first | refine blk_drewN ?_ _ | refine blk_drew ?_ | refine blk_alloc ?_ _)); refine blk_put (cs := #[.slice Az6 ((rd_T32 lz2 xz3).f0).length cz11, .slice none 0 0, .slice none 0 0]) ?_ 1 _ rfl; (with_reducible repeat (first | refine blk_drewN ?_ _ | refine blk_drew ?_ | refine blk_alloc ?_ _)); refine blk_put (cs := #[.slice none 0 0, .slice none 0 0, .slice none 0 0]) ?_ 0 _ rfl; (with_reducible repeat (first | refine blk_drewN ?_ _ | refine blk_drew ?_ | refine blk_alloc ?_ _)); exact BKz2.out⟩
                have nz3 : Aside0 (Below w.heap.size w (((wz2.setCell ⟨gbz2, 0, none⟩ (.slice Az6 ((rd_T32 lz2 xz3).f0).length cz11)).setCell ⟨gbz2, 1, none⟩ (.slice Az7 ((rd_T32 lz2 xz3).f1).length cz12)).setCell ⟨gbz2, 2, none⟩ (.slice Az8 ((rd_T32 lz2 xz3).f2).length cz13))) := ⟨be_⟩
                (try clear BKz1)
                (try clear BKz2)
                (try clear HB)
                generalize (((wz2.setCell ⟨gbz2, 0, none⟩ (.slice Az6 ((rd_T32 lz2 xz3).f0).length cz11)).setCell ⟨gbz2, 1, none⟩ (.slice Az7 ((rd_T32 lz2 xz3).f1).length cz12)).setCell ⟨gbz2, 2, none⟩ (.slice Az8 ((rd_T32 lz2 xz3).f2).length cz13)) = wz3 at nz1 nz2 nz3 ⊢
                have BKz1 := nz1
                have BKz2 := nz2
                have HB := nz3
                clear nz1 nz2 nz3
                have nz1 := Aside0.mk (blk_drew BKz1.out)
                have nz2 := Aside0.mk (blk_drew BKz2.out)
                have nz3 := Aside0.mk (below_drew1 HB.out)
                clear BKz1
                clear BKz2
                clear HB
                have BKz1 := nz1
                have BKz2 := nz2
                have HB := nz3
                clear nz1 nz2 nz3
                have pz2 : 0 ≤ (xz3 : Int) := of_decide_eq_true as_
                have qz2 : xz3 < (lz1.length : Int) := of_decide_eq_true as_
                obtain ⟨adz2, ez2, hxz4⟩ := Kd.at_string HRz1.out xz3 pz2 qz2
                have hwz1 := hxz4
                cases ez2
                replace hxz4 := (HB.out.cell (World.block_lt_of_cell? w _ hxz4)).trans hxz4
                replace pz2 := eq_true pz2
                replace qz2 := eq_true qz2
                have pz3 : 0 ≤ (xz3 : Int) := of_decide_eq_true as_
                have qz3 : xz3 < (lz1.length : Int) := of_decide_eq_true as_
                obtain ⟨adz3, ez3, hxz5⟩ := Kd.at_string HRz1.out xz3 pz3 qz3
                have hwz2 := hxz5
                obtain rfl : adz2 = adz3 := (by injection ez3)
                replace hxz5 := (HB.out.cell (World.block_lt_of_cell? w _ hxz5)).trans hxz5
                replace pz3 := eq_true pz3
                replace qz3 := eq_true qz3
                refine start_ (n := 58) (S := fun w' => w'.cell? ⟨gbz1, 0, none⟩ = some (.slice (some adz2) lz1.length cz1) ∧ w'.cell? ⟨gbz1, 1, none⟩ = some (.slice (some adz1) lz2.length cz2) ∧ w'.cell? ⟨gbz1, 2, none⟩ = some (.slice Az3 lz3.length cz3) ∧ w'.cell? ⟨gbz2, 0, none⟩ = some (.slice Az6 ((rd_T32 lz2 xz3).f0).length cz11) ∧ w'.cell? ⟨gbz2, 1, none⟩ = some (.slice Az7 ((rd_T32 lz2 xz3).f1).length cz12) ∧ w'.cell? ⟨gbz2, 2, none⟩ = some (.slice Az8 ((rd_T32 lz2 xz3).f2).length cz13) ∧ w'.cell? (adz2.add (xz3).toNat) = some (.string (rdOf ByteArray.empty lz1 xz3)) ∧ w'.cell? (adz2.add (xz3).toNat) = some (.string (rdOf ByteArray.empty lz1 xz3))) (ds := []) spec_l8Ok_bools36_ (by kernel_rfl) rfl (by kernel_rfl) ⟨(blk_cell BKz1.out 0).trans rfl, (blk_cell BKz1.out 1).trans rfl, (blk_cell BKz1.out 2).trans rfl, (blk_cell BKz2.out 0).trans rfl, (blk_cell BKz2.out 1).trans rfl, (blk_cell BKz2.out 2).trans rfl, ((HB.out.cell (World.block_lt_of_cell? w _ hwz1)).trans hwz1), ((HB.out.cell (World.block_lt_of_cell? w _ hwz2)).trans hwz2)⟩ (fun hHeld => ?_); refine with_tabW spec_l8Ok.tab12 spec_l8Ok.bits12 (fun HT_ HW_ => ?_)
                generalize wz3.drew = wz4 at BKz1 BKz2 HB hxz4 hxz5 hHeld ⊢
                refine pu_ HT_ 0 71 spec_l8Ok_bools37_ ?_
                refine pu_ HT_ 2 73 spec_l8Ok_bools38_ ?_
                refine ta_ HT_ HW_ hHeld 1 72 spec_l8Ok_bools39_ ?_
                refine pu_ HT_ 3 74 spec_l8Ok_bools40_ ?_
                refine ta_ HT_ HW_ hHeld 4 75 spec_l8Ok_bools41_ ?_
                refine one_ (i := 5) (N := some 76) spec_l8Ok_bools42_ rfl rfl (one_of HT_.out (by kernel_rfl)) (by decide) (fun K hK => ?_)
                refine goes_ Tryd.func50 (by kernel_rfl) rfl #[.string (rdOf ByteArray.empty lz1 xz3)] (by rfl) rfl rfl ar_ ?_
                with_reducible refine (spec_l8Level.calls kz2 (rdOf ByteArray.empty lz1 xz3) true _ Az5.out).mono ?_
                rintro e wz5 ⟨rfl, hb⟩
                refine ⟨_, rfl, ?_⟩
                have nz1 := Aside0.mk (blk_below (g := gbz1) (o := .cells #[.slice (some adz2) lz1.length cz1, .slice (some adz1) lz2.length cz2, .slice Az3 lz3.length cz3] 32 (0, 0)) bk_ hb)
                have nz2 := Aside0.mk (blk_below (g := gbz2) (o := .cells #[.slice Az6 ((rd_T32 lz2 xz3).f0).length cz11, .slice Az7 ((rd_T32 lz2 xz3).f1).length cz12, .slice Az8 ((rd_T32 lz2 xz3).f2).length cz13] 32 (0, 0)) bk_ hb)
                have nz3 := Aside0.mk (below_step be_ hb)
                clear BKz1
                clear BKz2
                clear HB
                have BKz1 := nz1
                have BKz2 := nz2
                have HB := nz3
                clear nz1 nz2 nz3
                (try clear hb)
                (try clear hb2)
                (try clear hk)
                (try clear hi)
                refine hK.out _ _ ⟨(blk_cell BKz1.out 0).trans rfl, (blk_cell BKz1.out 1).trans rfl, (blk_cell BKz1.out 2).trans rfl, (blk_cell BKz2.out 0).trans rfl, (blk_cell BKz2.out 1).trans rfl, (blk_cell BKz2.out 2).trans rfl, ((HB.out.cell (World.block_lt_of_cell? w _ hwz1)).trans hwz1), ((HB.out.cell (World.block_lt_of_cell? w _ hwz2)).trans hwz2)⟩ (fun hHeld => ?_)
                clear hK K
                refine norm_ (a' := ?_) ?_ ?_
                rotate_left
                · show Act.put _ (some 76) _ = _
                  simp only [Act.put, List.setIfInBounds_toArray, List.set_cons_zero, List.set_cons_succ, i64_w, i32_w]
                  rfl
                refine pu_ HT_ 6 77 spec_l8Ok_bools43_ ?_
                refine pu_ HT_ 7 78 spec_l8Ok_bools44_ ?_
                refine pu_ HT_ 8 79 spec_l8Ok_bools45_ ?_
                refine pu_ HT_ 9 80 spec_l8Ok_bools46_ ?_
                refine pu_ HT_ 10 81 spec_l8Ok_bools47_ ?_
                refine un_ HT_ 11 82 spec_l8Ok_bools48_ ?_
                refine un_ HT_ 12 83 spec_l8Ok_bools49_ ?_
                refine un_ HT_ 13 84 spec_l8Ok_bools50_ ?_
                refine un_ HT_ 14 85 spec_l8Ok_bools51_ ?_
                refine un_ HT_ 15 86 spec_l8Ok_bools52_ ?_
                refine un_ HT_ 16 87 spec_l8Ok_bools53_ ?_
                refine un_ HT_ 17 88 spec_l8Ok_bools54_ ?_
                refine un_ HT_ 18 89 spec_l8Ok_bools55_ ?_
                refine un_ HT_ 19 90 spec_l8Ok_bools56_ ?_
                refine un_ HT_ 20 91 spec_l8Ok_bools57_ ?_
                refine un_ HT_ 21 92 spec_l8Ok_bools58_ ?_
                refine un_ HT_ 22 93 spec_l8Ok_bools59_ ?_
                refine pu_ HT_ 23 94 spec_l8Ok_bools60_ ?_
                refine pu_ HT_ 24 95 spec_l8Ok_bools61_ ?_
                refine pu_ HT_ 25 96 spec_l8Ok_bools62_ ?_
                refine pu_ HT_ 26 97 spec_l8Ok_bools63_ ?_
                refine ta_ HT_ HW_ hHeld 27 98 spec_l8Ok_bools64_ ?_
                refine pu_ HT_ 28 99 spec_l8Ok_bools65_ ?_
                refine pu_ HT_ 29 100 spec_l8Ok_bools66_ ?_
                refine pu_ HT_ 30 101 spec_l8Ok_bools67_ ?_
                have H := HXz1.out
                clear HXz1
                by_cases cz14 : (((rd_T32 lz2 xz3).f0).length : Int) = 0
                rotate_left
                · rw [if_neg cz14] at H
                  have c149b0 : ((((rd_T32 lz2 xz3).f0).length : Int) == 0) = false := beq_eq_false_iff_ne.mpr cz14
                  have c149b1 : ((((rd_T32 lz2 xz3).f0).length : Int) != 0) = true := bne_iff_ne.mpr cz14
                  have c149b2 : ¬ (((rd_T32 lz2 xz3).f0) = []) := fun h_ => cz14 (by rw [h_]; rfl)
                  (try simp only [c149b0, c149b1, c149b2])
                  have HXz2 := Aside0.mk H
                  clear H
                  refine un_ HT_ 31 102 spec_l8Ok_bools68_ ?_
                  refine un_ HT_ 32 103 spec_l8Ok_bools69_ ?_
                  refine un_ HT_ 33 104 spec_l8Ok_bools70_ ?_
                  refine un_ HT_ 34 105 spec_l8Ok_bools71_ ?_
                  refine pu_ HT_ 35 106 spec_l8Ok_bools72_ ?_
                  refine pu_ HT_ 36 107 spec_l8Ok_bools73_ ?_
                  refine pu_ HT_ 37 108 spec_l8Ok_bools74_ ?_
                  refine pu_ HT_ 38 109 spec_l8Ok_bools75_ ?_
                  refine pu_ HT_ 40 111 spec_l8Ok_bools95_ ?_
                  refine ta_ HT_ HW_ hHeld 39 110 spec_l8Ok_bools77_ ?_
                  refine pu_ HT_ 41 112 spec_l8Ok_bools78_ ?_
                  refine ta_ HT_ HW_ hHeld 42 113 spec_l8Ok_bools79_ ?_
                  refine pu_ HT_ 43 114 spec_l8Ok_bools80_ ?_
                  refine pu_ HT_ 44 115 spec_l8Ok_bools81_ ?_
                  have H := HXz2.out
                  clear HXz2
                  by_cases cz15 : (rdOf ByteArray.empty lz1 xz3).toList = ([35] : List UInt8)
                  rotate_left
                  · rw [if_neg cz15] at H
                    have c203b0 : ((rdOf ByteArray.empty lz1 xz3).toList == ([35] : List UInt8)) = false := beq_eq_false_iff_ne.mpr cz15
                    have c203b1 : ((rdOf ByteArray.empty lz1 xz3).toList != ([35] : List UInt8)) = true := bne_iff_ne.mpr cz15
                    replace H := Option.bind_eq_some_iff.mp H
                    obtain ⟨tz2, Az9, H⟩ := H
                    replace H : (if tz2 = true then (spec_l8Ok.l1 kz2 az1 (wrap64 (xz3 + 1)) lz1 lz2 lz3) else (some false)) = some r := H
                    have Az10 := Aside0.mk Az9
                    clear Az9
                    (try simp only [c203b0, c203b1])
                    have HXz3 := Aside0.mk H
                    clear H
                    refine un_ HT_ 45 116 spec_l8Ok_bools82_ ?_
                    refine un_ HT_ 46 117 spec_l8Ok_bools83_ ?_
                    refine un_ HT_ 47 118 spec_l8Ok_bools84_ ?_
                    refine un_ HT_ 48 119 spec_l8Ok_bools85_ ?_
                    refine pu_ HT_ 49 120 spec_l8Ok_bools86_ ?_
                    refine pu_ HT_ 50 121 spec_l8Ok_bools87_ ?_
                    refine pu_ HT_ 51 122 spec_l8Ok_bools88_ ?_
                    refine pu_ HT_ 53 124 spec_l8Ok_bools96_ ?_
                    refine pu_ HT_ 54 125 spec_l8Ok_bools97_ ?_
                    refine ta_ HT_ HW_ hHeld 52 123 spec_l8Ok_bools91_ ?_
                    refine one_ (i := 55) (N := some 126) spec_l8Ok_bools92_ rfl rfl (one_of HT_.out (by kernel_rfl)) (by decide) (fun K hK => ?_)
                    refine goes_ Tryd.func25 (by kernel_rfl) rfl #[.agg #[.slice Az6 ((rd_T32 lz2 xz3).f0).length cz11, .slice Az7 ((rd_T32 lz2 xz3).f1).length cz12, .slice Az8 ((rd_T32 lz2 xz3).f2).length cz13], .int .i64 (wrap64 (az1 + 1))] (by rfl) rfl rfl ar_ ?_
                    have H := HXz3.out
                    clear HXz3
                    by_cases cz16 : tz2 = true
                    rotate_left
                    · replace cz16 := Bool.eq_false_iff.mpr cz16
                      subst cz16
                      exact spec_l8Ok_z0
                    subst cz16
                    exact spec_l8Ok_z6
                  rw [if_pos cz15] at H
                  have c203b0 : ((rdOf ByteArray.empty lz1 xz3).toList == ([35] : List UInt8)) = true := beq_iff_eq.mpr cz15
                  have c203b1 : ((rdOf ByteArray.empty lz1 xz3).toList != ([35] : List UInt8)) = false := bne_eq_false_iff_eq.mpr cz15
                  clear cz15
                  (try simp only [c203b0, c203b1])
                  have HXz3 := Aside0.mk H
                  clear H
                  refine pu_ HT_ 45 116 spec_l8Ok_bools82_ ?_
                  refine ta_ HT_ HW_ hHeld 46 117 spec_l8Ok_bools83_ ?_
                  refine pu_ HT_ 47 118 spec_l8Ok_bools84_ ?_
                  refine pu_ HT_ 48 119 spec_l8Ok_bools85_ ?_
                  refine pu_ HT_ 49 120 spec_l8Ok_bools86_ ?_
                  refine pu_ HT_ 50 121 spec_l8Ok_bools87_ ?_
                  refine pu_ HT_ 51 122 spec_l8Ok_bools88_ ?_
                  have H := HXz3.out
                  clear HXz3
                  by_cases cz16 : (((rd_T32 lz2 xz3).f0).length : Int) > 0
                  · rw [if_pos cz16] at H
                    have c204b0 : decide (0 < (((rd_T32 lz2 xz3).f0).length : Int)) = true := decide_eq_true cz16
                    have c204b1 : decide (0 < ((rd_T32 lz2 xz3).f0).length) = true := decide_eq_true (by omega)
                    clear cz16
                    obtain rfl := Option.some.inj H
                    (try simp only [c204b0, c204b1])
                    exact spec_l8Ok_z13
                  rw [if_neg cz16] at H
                  have c204b0 : decide (0 < (((rd_T32 lz2 xz3).f0).length : Int)) = false := decide_eq_false cz16
                  have c204b1 : decide (0 < ((rd_T32 lz2 xz3).f0).length) = false := decide_eq_false (by omega)
                  clear cz16
                  replace H := Option.bind_eq_some_iff.mp H
                  obtain ⟨tz2, Az9, H⟩ := H
                  replace H : (if tz2 = true then (spec_l8Ok.l1 kz2 az1 (wrap64 (xz3 + 1)) lz1 lz2 lz3) else (some false)) = some r := H
                  have Az10 := Aside0.mk Az9
                  clear Az9
                  (try simp only [c204b0, c204b1])
                  have HXz4 := Aside0.mk H
                  clear H
                  exact spec_l8Ok_z17
                rw [if_pos cz14] at H
                have c149b0 : ((((rd_T32 lz2 xz3).f0).length : Int) == 0) = true := beq_iff_eq.mpr cz14
                have c149b1 : ((((rd_T32 lz2 xz3).f0).length : Int) != 0) = false := bne_eq_false_iff_eq.mpr cz14
                clear cz14
                (try simp only [c149b0, c149b1])
                have HXz2 := Aside0.mk H
                clear H
                refine pu_ HT_ 31 102 spec_l8Ok_bools68_ ?_
                refine ta_ HT_ HW_ hHeld 32 103 spec_l8Ok_bools69_ ?_
                refine pu_ HT_ 33 104 spec_l8Ok_bools70_ ?_
                refine pu_ HT_ 34 105 spec_l8Ok_bools71_ ?_
                refine pu_ HT_ 35 106 spec_l8Ok_bools72_ ?_
                refine pu_ HT_ 36 107 spec_l8Ok_bools73_ ?_
                refine pu_ HT_ 37 108 spec_l8Ok_bools74_ ?_
                have H := HXz2.out
                clear HXz2
                by_cases cz15 : (((rd_T32 lz2 xz3).f2).length : Int) = 0
                · rw [if_pos cz15] at H
                  have c150b0 : ((((rd_T32 lz2 xz3).f2).length : Int) == 0) = true := beq_iff_eq.mpr cz15
                  have c150b1 : ((((rd_T32 lz2 xz3).f2).length : Int) != 0) = false := bne_eq_false_iff_eq.mpr cz15
                  clear cz15
                  obtain rfl := Option.some.inj H
                  (try simp only [c150b0, c150b1])
                  refine un_ HT_ 38 109 spec_l8Ok_bools75_ ?_
                  refine un_ HT_ 39 110 spec_l8Ok_bools76_ ?_
                  refine un_ HT_ 40 111 spec_l8Ok_bools77_ ?_
                  refine un_ HT_ 41 112 spec_l8Ok_bools78_ ?_
                  refine un_ HT_ 42 113 spec_l8Ok_bools79_ ?_
                  refine un_ HT_ 43 114 spec_l8Ok_bools80_ ?_
                  refine un_ HT_ 44 115 spec_l8Ok_bools81_ ?_
                  refine un_ HT_ 45 116 spec_l8Ok_bools82_ ?_
                  refine un_ HT_ 46 117 spec_l8Ok_bools83_ ?_
                  refine un_ HT_ 47 118 spec_l8Ok_bools84_ ?_
                  refine un_ HT_ 48 119 spec_l8Ok_bools85_ ?_
                  refine un_ HT_ 49 120 spec_l8Ok_bools86_ ?_
                  refine pu_ HT_ 50 121 spec_l8Ok_bools87_ ?_
                  refine pu_ HT_ 51 122 spec_l8Ok_bools88_ ?_
                  exact spec_l8Ok_z13
                rw [if_neg cz15] at H
                have c150b0 : ((((rd_T32 lz2 xz3).f2).length : Int) == 0) = false := beq_eq_false_iff_ne.mpr cz15
                have c150b1 : ((((rd_T32 lz2 xz3).f2).length : Int) != 0) = true := bne_iff_ne.mpr cz15
                have c150b2 : ¬ (((rd_T32 lz2 xz3).f2) = []) := fun h_ => cz15 (by rw [h_]; rfl)
                (try simp only [c150b0, c150b1, c150b2])
                have HXz3 := Aside0.mk H
                clear H
                refine pu_ HT_ 38 109 spec_l8Ok_bools75_ ?_
                refine pu_ HT_ 40 111 spec_l8Ok_bools95_ ?_
                refine ta_ HT_ HW_ hHeld 39 110 spec_l8Ok_bools77_ ?_
                refine pu_ HT_ 41 112 spec_l8Ok_bools78_ ?_
                refine ta_ HT_ HW_ hHeld 42 113 spec_l8Ok_bools79_ ?_
                refine pu_ HT_ 43 114 spec_l8Ok_bools80_ ?_
                refine pu_ HT_ 44 115 spec_l8Ok_bools81_ ?_
                have H := HXz3.out
                clear HXz3
                by_cases cz16 : (rdOf ByteArray.empty lz1 xz3).toList = ([35] : List UInt8)
                rotate_left
                · rw [if_neg cz16] at H
                  have c158b0 : ((rdOf ByteArray.empty lz1 xz3).toList == ([35] : List UInt8)) = false := beq_eq_false_iff_ne.mpr cz16
                  have c158b1 : ((rdOf ByteArray.empty lz1 xz3).toList != ([35] : List UInt8)) = true := bne_iff_ne.mpr cz16
                  replace H := Option.bind_eq_some_iff.mp H
                  obtain ⟨tz2, Az9, H⟩ := H
                  replace H : (if tz2 = true then (spec_l8Ok.l1 kz2 az1 (wrap64 (xz3 + 1)) lz1 lz2 lz3) else (some false)) = some r := H
                  have Az10 := Aside0.mk Az9
                  clear Az9
                  (try simp only [c158b0, c158b1])
                  have HXz4 := Aside0.mk H
                  clear H
                  refine un_ HT_ 45 116 spec_l8Ok_bools82_ ?_
                  refine un_ HT_ 46 117 spec_l8Ok_bools83_ ?_
                  refine un_ HT_ 47 118 spec_l8Ok_bools84_ ?_
                  refine un_ HT_ 48 119 spec_l8Ok_bools85_ ?_
                  refine pu_ HT_ 49 120 spec_l8Ok_bools86_ ?_
                  refine pu_ HT_ 50 121 spec_l8Ok_bools87_ ?_
                  refine pu_ HT_ 51 122 spec_l8Ok_bools88_ ?_
                  exact spec_l8Ok_z17
                rw [if_pos cz16] at H
                have c158b0 : ((rdOf ByteArray.empty lz1 xz3).toList == ([35] : List UInt8)) = true := beq_iff_eq.mpr cz16
                have c158b1 : ((rdOf ByteArray.empty lz1 xz3).toList != ([35] : List UInt8)) = false := bne_eq_false_iff_eq.mpr cz16
                clear cz16
                (try simp only [c158b0, c158b1])
                have HXz4 := Aside0.mk H
                clear H
                refine pu_ HT_ 45 116 spec_l8Ok_bools82_ ?_
                refine ta_ HT_ HW_ hHeld 46 117 spec_l8Ok_bools83_ ?_
                refine pu_ HT_ 47 118 spec_l8Ok_bools84_ ?_
                refine pu_ HT_ 48 119 spec_l8Ok_bools85_ ?_
                refine pu_ HT_ 49 120 spec_l8Ok_bools86_ ?_
                refine pu_ HT_ 50 121 spec_l8Ok_bools87_ ?_
                refine pu_ HT_ 51 122 spec_l8Ok_bools88_ ?_
                have H := HXz4.out
                clear HXz4
                by_cases cz17 : (((rd_T32 lz2 xz3).f0).length : Int) > 0
                · rw [if_pos cz17] at H
                  have c159b0 : decide (0 < (((rd_T32 lz2 xz3).f0).length : Int)) = true := decide_eq_true cz17
                  have c159b1 : decide (0 < ((rd_T32 lz2 xz3).f0).length) = true := decide_eq_true (by omega)
                  clear cz17
                  obtain rfl := Option.some.inj H
                  (try simp only [c159b0, c159b1])
                  exact spec_l8Ok_z13
                rw [if_neg cz17] at H
                have c159b0 : decide (0 < (((rd_T32 lz2 xz3).f0).length : Int)) = false := decide_eq_false cz17
                have c159b1 : decide (0 < ((rd_T32 lz2 xz3).f0).length) = false := decide_eq_false (by omega)
                clear cz17
                replace H := Option.bind_eq_some_iff.mp H
                obtain ⟨tz2, Az9, H⟩ := H
                replace H : (if tz2 = true then (spec_l8Ok.l1 kz2 az1 (wrap64 (xz3 + 1)) lz1 lz2 lz3) else (some false)) = some r := H
                have Az10 := Aside0.mk Az9
                clear Az9
                (try simp only [c159b0, c159b1])
                have HXz5 := Aside0.mk H
                clear H
                refine pu_ HT_ 53 124 spec_l8Ok_bools96_ ?_
                refine pu_ HT_ 54 125 spec_l8Ok_bools97_ ?_
                refine ta_ HT_ HW_ hHeld 52 123 spec_l8Ok_bools91_ ?_
                refine one_ (i := 55) (N := some 126) spec_l8Ok_bools92_ rfl rfl (one_of HT_.out (by kernel_rfl)) (by decide) (fun K hK => ?_)
                refine goes_ Tryd.func25 (by kernel_rfl) rfl #[.agg #[.slice Az6 ((rd_T32 lz2 xz3).f0).length cz11, .slice Az7 ((rd_T32 lz2 xz3).f1).length cz12, .slice Az8 ((rd_T32 lz2 xz3).f2).length cz13], .int .i64 (wrap64 (az1 + 1))] (by rfl) rfl rfl ar_ ?_
                have H := HXz5.out
                clear HXz5
                by_cases cz18 : tz2 = true
                rotate_left
                · replace cz18 := Bool.eq_false_iff.mpr cz18
                  subst cz18
                  exact spec_l8Ok_z0
                subst cz18
                have Hz1 : (spec_l8Ok.l1 kz2 az1 (wrap64 (xz3 + 1)) lz1 lz2 lz3) = some r := by rw [if_pos rfl] at H; exact H
                clear H
                have H := Hz1
                clear Hz1
                have H' := Aside0.mk H
                clear H
                with_reducible refine (ih kz2 (by have := HJz1.out; have := HKz1.out; have := HKz2.out; omega) _ _ ((rd_T32 lz2 xz3).f0) _ _ ((rd_T32 lz2 xz3).f1) _ _ ((rd_T32 lz2 xz3).f2) (wrap64 (az1 + 1)) true _ ?side1 ?side2 ?side3 ?side4 ?side5 ?side6 Az10.out).mono ?_
                (case side1 => exact Kd.C_below HRz4.out be_)
                (case side2 => exact HCz5.out)
                (case side3 => exact Kd.C_below HRz5.out be_)
                (case side4 => exact HCz6.out)
                (case side5 => exact Kd.C_below HRz6.out be_)
                (case side6 => exact HCz7.out)
                rintro e wz6 ⟨rfl, hb⟩
                refine ⟨_, rfl, ?_⟩
                have nz1 := Aside0.mk (blk_below (g := gbz1) (o := .cells #[.slice (some adz2) lz1.length cz1, .slice (some adz1) lz2.length cz2, .slice Az3 lz3.length cz3] 32 (0, 0)) bk_ hb)
                have nz2 := Aside0.mk (blk_below (g := gbz2) (o := .cells #[.slice Az6 ((rd_T32 lz2 xz3).f0).length cz11, .slice Az7 ((rd_T32 lz2 xz3).f1).length cz12, .slice Az8 ((rd_T32 lz2 xz3).f2).length cz13] 32 (0, 0)) bk_ hb)
                have nz3 := Aside0.mk (below_step be_ hb)
                clear BKz1
                clear BKz2
                clear HB
                have BKz1 := nz1
                have BKz2 := nz2
                have HB := nz3
                clear nz1 nz2 nz3
                (try clear hb)
                (try clear hb2)
                (try clear hk)
                (try clear hi)
                refine hK.out _ _ ⟨(blk_cell BKz1.out 0).trans rfl, (blk_cell BKz1.out 1).trans rfl, (blk_cell BKz1.out 2).trans rfl, (blk_cell BKz2.out 0).trans rfl, (blk_cell BKz2.out 1).trans rfl, (blk_cell BKz2.out 2).trans rfl, ((HB.out.cell (World.block_lt_of_cell? w _ hwz1)).trans hwz1), ((HB.out.cell (World.block_lt_of_cell? w _ hwz2)).trans hwz2)⟩ (fun hHeld => ?_)
                clear hK K
                refine norm_ (a' := ?_) ?_ ?_
                rotate_left
                · show Act.put _ (some 126) _ = _
                  simp only [Act.put, List.setIfInBounds_toArray, List.set_cons_zero, List.set_cons_succ, i64_w, i32_w]
                  rfl
                refine pu_ HT_ 56 127 spec_l8Ok_bools93_ ?_
                refine pu_ HT_ 57 128 spec_l8Ok_bools94_ ?_
                refine done_ (done_of HT_.out (by kernel_rfl)) ?_
                try go_wp2
                go_roundg kz2
                case measure => have := HJz1.out; have := HKz1.out; have := HKz2.out; omega
                case rel => exact ⟨(wrap64 (xz3 + 1)), (by first | rfl | (simp; done) | (simp [*]; done)), H', ⟨by have := HJz1.out; have := HKz1.out; have := HKz2.out; omega⟩, ⟨bk_⟩, ⟨be_⟩⟩
              rw [if_pos cz10] at H
              have c38b0 : decide (0 < xz3) = true := decide_eq_true cz10
              clear cz10
              obtain ⟨jiz1, hjiz1⟩ : ∃ j_ : Int, (wrap64 (xz3 - 1)) = j_ := ⟨_, rfl⟩
              replace H : (if 0 ≤ (jiz1) then (if (jiz1) < (lz1.length : Int) then (if ((Op.bytesLess ((rdOf ByteArray.empty lz1 (jiz1)).toList) ((rdOf ByteArray.empty lz1 xz3).toList)) = true) then (if (((rd_T32 lz2 xz3).f0).length : Int) = 0 then (if (((rd_T32 lz2 xz3).f2).length : Int) = 0 then (some false) else (if (rdOf ByteArray.empty lz1 xz3).toList = ([35] : List UInt8) then (if (((rd_T32 lz2 xz3).f0).length : Int) > 0 then (some false) else ((spec_l8Ok.f kz2 ((rd_T32 lz2 xz3).f0) ((rd_T32 lz2 xz3).f1) ((rd_T32 lz2 xz3).f2) (wrap64 (az1 + 1))).bind fun t148 => (if t148 = true then (spec_l8Ok.l1 kz2 az1 (wrap64 (xz3 + 1)) lz1 lz2 lz3) else (some false)))) else ((spec_l8Ok.f kz2 ((rd_T32 lz2 xz3).f0) ((rd_T32 lz2 xz3).f1) ((rd_T32 lz2 xz3).f2) (wrap64 (az1 + 1))).bind fun t149 => (if t149 = true then (spec_l8Ok.l1 kz2 az1 (wrap64 (xz3 + 1)) lz1 lz2 lz3) else (some false))))) else (if (rdOf ByteArray.empty lz1 xz3).toList = ([35] : List UInt8) then (if (((rd_T32 lz2 xz3).f0).length : Int) > 0 then (some false) else ((spec_l8Ok.f kz2 ((rd_T32 lz2 xz3).f0) ((rd_T32 lz2 xz3).f1) ((rd_T32 lz2 xz3).f2) (wrap64 (az1 + 1))).bind fun t151 => (if t151 = true then (spec_l8Ok.l1 kz2 az1 (wrap64 (xz3 + 1)) lz1 lz2 lz3) else (some false)))) else ((spec_l8Ok.f kz2 ((rd_T32 lz2 xz3).f0) ((rd_T32 lz2 xz3).f1) ((rd_T32 lz2 xz3).f2) (wrap64 (az1 + 1))).bind fun t152 => (if t152 = true then (spec_l8Ok.l1 kz2 az1 (wrap64 (xz3 + 1)) lz1 lz2 lz3) else (some false))))) else (some false)) else (none)) else (none)) = some r := by first | (rw [hjiz1] at H; exact H) | (simp only [hjiz1] at H ⊢; exact H)
              (try rw [hjiz1] at Az5)
              have hji39w : (IntKind.i64.wrap (xz3 - 1)) = jiz1 := (i64_w _).trans hjiz1
              by_cases cz11 : 0 ≤ (jiz1)
              rotate_left
              · rw [if_neg cz11] at H
                exact absurd H (by simp)
              rw [if_pos cz11] at H
              have c40b0 : decide (0 ≤ (jiz1)) = true := decide_eq_true cz11
              clear cz11
              by_cases cz12 : (jiz1) < (lz1.length : Int)
              rotate_left
              · rw [if_neg cz12] at H
                exact absurd H (by simp)
              rw [if_pos cz12] at H
              have c41b0 : decide ((jiz1) < (lz1.length : Int)) = true := decide_eq_true cz12
              clear cz12
              have HXz1 := Aside0.mk H
              clear H
              have hczz4 : wr.cell? ⟨gbz1, 0, none⟩ = some (.slice Az1 lz1.length cz1) := (blk_cell BKz1.out 0).trans rfl
              have hczz5 : wr.cell? ⟨gbz1, 1, none⟩ = some (.slice Az2 lz2.length cz2) := (blk_cell BKz1.out 1).trans rfl
              have hczz6 : wr.cell? ⟨gbz1, 2, none⟩ = some (.slice Az3 lz3.length cz3) := (blk_cell BKz1.out 2).trans rfl
              have hfzz4 := blk_frozen BKz1.out 0
              have hfzz5 := blk_frozen BKz1.out 1
              have hfzz6 := blk_frozen BKz1.out 2
              have pz1 : 0 ≤ (xz3 : Int) := of_decide_eq_true as_
              have qz1 : xz3 < (lz2.length : Int) := of_decide_eq_true as_
              obtain ⟨adz1, Az6, cz13, Az7, cz14, Az8, cz15, ez1, hxz1, hxz2, hxz3, hlz1, hiz1, hlz2, hiz2, hlz3, hiz3⟩ := at_T32 HRz2.out xz3 pz1 qz1
              cases ez1
              replace hxz1 := (HB.out.cell (World.block_lt_of_cell? w _ hxz1)).trans hxz1
              replace hxz2 := (HB.out.cell (World.block_lt_of_cell? w _ hxz2)).trans hxz2
              replace hxz3 := (HB.out.cell (World.block_lt_of_cell? w _ hxz3)).trans hxz3
              have HRz4 := Aside0.mk hiz1
              have HCz5 := Aside0.mk hlz1
              clear hiz1 hlz1
              have HRz5 := Aside0.mk hiz2
              have HCz6 := Aside0.mk hlz2
              clear hiz2 hlz2
              have HRz6 := Aside0.mk hiz3
              have HCz7 := Aside0.mk hlz3
              clear hiz3 hlz3
              replace pz1 := eq_true pz1
              replace qz1 := eq_true qz1
              try go_wp2_with (first | ((with_reducible refine gate_dst (N := 7) rfl ?_); (try (refine gate_guard (by rfl) ?_; dsimp only)); refine box_event ?hg (N := 7) ?hd (cs := #[.slice none 0 0, .slice none 0 0, .slice none 0 0]) (t := 32) ?hr ?_; (case hd => rfl); (case hg => rfl); (case hr => first | (go_simp; done) | (go_simp; rfl)); intro gbz2 hg wz2 hbox hb; have nz1 := Aside0.mk (blk_below (g := gbz1) (o := .cells #[.slice Az1 lz1.length cz1, .slice (some adz1) lz2.length cz2, .slice Az3 lz3.length cz3] 32 (0, 0)) bk_ hb); have nz2 := Aside0.mk (below_step be_ hb); have nz3 := Aside0.mk (hbox); have nz4 := Aside0.mk ((sz_ : w.heap.size ≤ gbz2)); have nz5 := Aside0.mk ((sz_ : w.heap.size ≤ gbz2)); have nz6 := Aside0.mk ((by rw [hg]; exact Nat.ne_of_lt (blk_lt (g := gbz1) (o := .cells #[.slice Az1 lz1.length cz1, .slice (some adz1) lz2.length cz2, .slice Az3 lz3.length cz3] 32 (0, 0)) bk_) : gbz1 ≠ gbz2)); have nz7 := Aside0.mk ((by rw [hg]; exact Nat.ne_of_gt (blk_lt (g := gbz1) (o := .cells #[.slice Az1 lz1.length cz1, .slice (some adz1) lz2.length cz2, .slice Az3 lz3.length cz3] 32 (0, 0)) bk_) : gbz2 ≠ gbz1)); clear BKz1; clear HB; have BKz1 := nz1; have HB := nz2; have BKz2 := nz3; have GWz2 := nz4; have GEz2 := nz5; have NBz1 := nz6; have NBz2 := nz7; clear nz1 nz2 nz3 nz4 nz5 nz6 nz7; clear hb hbox hg; have hnbz1 := NBz2.out; have hncz1 := NBz1.out; have hczz7 : wz2.cell? ⟨gbz2, 0, none⟩ = some (.slice none 0 0) := (blk_cell BKz2.out 0).trans rfl; have hczz8 : wz2.cell? ⟨gbz2, 1, none⟩ = some (.slice none 0 0) := (blk_cell BKz2.out 1).trans rfl; have hczz9 : wz2.cell? ⟨gbz2, 2, none⟩ = some (.slice none 0 0) := (blk_cell BKz2.out 2).trans rfl; have hfzz7 := blk_frozen BKz2.out 0; have hfzz8 := blk_frozen BKz2.out 1; have hfzz9 := blk_frozen BKz2.out 2))
              have nz1 : Aside0 ((((wz2.setCell ⟨gbz2, 0, none⟩ (.slice Az6 ((rd_T32 lz2 xz3).f0).length cz13)).setCell ⟨gbz2, 1, none⟩ (.slice Az7 ((rd_T32 lz2 xz3).f1).length cz14)).setCell ⟨gbz2, 2, none⟩ (.slice Az8 ((rd_T32 lz2 xz3).f2).length cz15)).heap[gbz1]? = some (.cells #[.slice Az1 lz1.length cz1, .slice (some adz1) lz2.length cz2, .slice Az3 lz3.length cz3] 32 (0, 0))) := ⟨by (with_reducible repeat (first | refine blk_drewN ?_ _ | refine blk_drew ?_ | refine blk_alloc ?_ _)); refine blk_far ?_ NBz1.out _; (with_reducible repeat (first | refine blk_drewN ?_ _ | refine blk_drew ?_ | refine blk_alloc ?_ _)); refine blk_far ?_ NBz1.out _; (with_reducible repeat (first | refine blk_drewN ?_ _ | refine blk_drew ?_ | refine blk_alloc ?_ _)); refine blk_far ?_ NBz1.out _; (with_reducible repeat (first | refine blk_drewN ?_ _ | refine blk_drew ?_ | refine blk_alloc ?_ _)); exact BKz1.out⟩
              have nz2 : Aside0 ((((wz2.setCell ⟨gbz2, 0, none⟩ (.slice Az6 ((rd_T32 lz2 xz3).f0).length cz13)).setCell ⟨gbz2, 1, none⟩ (.slice Az7 ((rd_T32 lz2 xz3).f1).length cz14)).setCell ⟨gbz2, 2, none⟩ (.slice Az8 ((rd_T32 lz2 xz3).f2).length cz15)).heap[gbz2]? = some (.cells #[.slice Az6 ((rd_T32 lz2 xz3).f0).length cz13, .slice Az7 ((rd_T32 lz2 xz3).f1).length cz14, .slice Az8 ((rd_T32 lz2 xz3).f2).length cz15] 32 (0, 0))) := ⟨by (with_reducible repeat (first | refine blk_drewN ?_ _ | refine blk_drew ?_ | refine blk_alloc ?_ _)); refine blk_put (cs := #[.slice Az6 ((rd_T32 lz2 xz3).f0).length cz13, .slice Az7 ((rd_T32 lz2 xz3).f1).length cz14, .slice none 0 0]) ?_ 2 _ rfl; (with_reducible repeat (first | refine blk_drewN ?_ _ | refine blk_drew ?_ | refine blk_alloc ?_ _)); refine blk_put (cs := #[.slice Az6 ((rd_T32 lz2 xz3).f0).length cz13, .slice none 0 0, .slice none 0 0]) ?_ 1 _ rfl; (with_reducible repeat (first | refine blk_drewN ?_ _ | refine blk_drew ?_ | refine blk_alloc ?_ _)); refine blk_put (cs := #[.slice none 0 0, .slice none 0 0, .slice none 0 0]) ?_ 0 _ rfl; (with_reducible repeat (first | refine blk_drewN ?_ _ | refine blk_drew ?_ | refine blk_alloc ?_ _)); exact BKz2.out⟩
              have nz3 : Aside0 (Below w.heap.size w (((wz2.setCell ⟨gbz2, 0, none⟩ (.slice Az6 ((rd_T32 lz2 xz3).f0).length cz13)).setCell ⟨gbz2, 1, none⟩ (.slice Az7 ((rd_T32 lz2 xz3).f1).length cz14)).setCell ⟨gbz2, 2, none⟩ (.slice Az8 ((rd_T32 lz2 xz3).f2).length cz15))) := ⟨be_⟩
              (try clear BKz1)
              (try clear BKz2)
              (try clear HB)
              generalize (((wz2.setCell ⟨gbz2, 0, none⟩ (.slice Az6 ((rd_T32 lz2 xz3).f0).length cz13)).setCell ⟨gbz2, 1, none⟩ (.slice Az7 ((rd_T32 lz2 xz3).f1).length cz14)).setCell ⟨gbz2, 2, none⟩ (.slice Az8 ((rd_T32 lz2 xz3).f2).length cz15)) = wz3 at nz1 nz2 nz3 ⊢
              have BKz1 := nz1
              have BKz2 := nz2
              have HB := nz3
              clear nz1 nz2 nz3
              have nz1 := Aside0.mk (blk_drew BKz1.out)
              have nz2 := Aside0.mk (blk_drew BKz2.out)
              have nz3 := Aside0.mk (below_drew1 HB.out)
              clear BKz1
              clear BKz2
              clear HB
              have BKz1 := nz1
              have BKz2 := nz2
              have HB := nz3
              clear nz1 nz2 nz3
              have pz2 : 0 ≤ (xz3 : Int) := of_decide_eq_true as_
              have qz2 : xz3 < (lz1.length : Int) := of_decide_eq_true as_
              obtain ⟨adz2, ez2, hxz4⟩ := Kd.at_string HRz1.out xz3 pz2 qz2
              have hwz1 := hxz4
              cases ez2
              replace hxz4 := (HB.out.cell (World.block_lt_of_cell? w _ hxz4)).trans hxz4
              replace pz2 := eq_true pz2
              replace qz2 := eq_true qz2
              have pz3 : 0 ≤ ((jiz1) : Int) := of_decide_eq_true as_
              have qz3 : (jiz1) < (lz1.length : Int) := of_decide_eq_true as_
              obtain ⟨adz3, ez3, hxz5⟩ := Kd.at_string HRz1.out (jiz1) pz3 qz3
              have hwz2 := hxz5
              obtain rfl : adz2 = adz3 := (by injection ez3)
              replace hxz5 := (HB.out.cell (World.block_lt_of_cell? w _ hxz5)).trans hxz5
              replace pz3 := eq_true pz3
              replace qz3 := eq_true qz3
              have pz4 : 0 ≤ (xz3 : Int) := of_decide_eq_true as_
              have qz4 : xz3 < (lz1.length : Int) := of_decide_eq_true as_
              obtain ⟨adz4, ez4, hxz6⟩ := Kd.at_string HRz1.out xz3 pz4 qz4
              have hwz3 := hxz6
              obtain rfl : adz2 = adz4 := (by injection ez4)
              replace hxz6 := (HB.out.cell (World.block_lt_of_cell? w _ hxz6)).trans hxz6
              replace pz4 := eq_true pz4
              replace qz4 := eq_true qz4
              have pz5 : 0 ≤ (xz3 : Int) := of_decide_eq_true as_
              have qz5 : xz3 < (lz1.length : Int) := of_decide_eq_true as_
              obtain ⟨adz5, ez5, hxz7⟩ := Kd.at_string HRz1.out xz3 pz5 qz5
              have hwz4 := hxz7
              obtain rfl : adz2 = adz5 := (by injection ez5)
              replace hxz7 := (HB.out.cell (World.block_lt_of_cell? w _ hxz7)).trans hxz7
              replace pz5 := eq_true pz5
              replace qz5 := eq_true qz5
              refine start_ (n := 58) (S := fun w' => w'.cell? ⟨gbz1, 0, none⟩ = some (.slice (some adz2) lz1.length cz1) ∧ w'.cell? ⟨gbz1, 1, none⟩ = some (.slice (some adz1) lz2.length cz2) ∧ w'.cell? ⟨gbz1, 2, none⟩ = some (.slice Az3 lz3.length cz3) ∧ w'.cell? ⟨gbz2, 0, none⟩ = some (.slice Az6 ((rd_T32 lz2 xz3).f0).length cz13) ∧ w'.cell? ⟨gbz2, 1, none⟩ = some (.slice Az7 ((rd_T32 lz2 xz3).f1).length cz14) ∧ w'.cell? ⟨gbz2, 2, none⟩ = some (.slice Az8 ((rd_T32 lz2 xz3).f2).length cz15) ∧ w'.cell? (adz2.add (xz3).toNat) = some (.string (rdOf ByteArray.empty lz1 xz3)) ∧ w'.cell? (adz2.add ((jiz1)).toNat) = some (.string (rdOf ByteArray.empty lz1 (jiz1))) ∧ w'.cell? (adz2.add (xz3).toNat) = some (.string (rdOf ByteArray.empty lz1 xz3)) ∧ w'.cell? (adz2.add (xz3).toNat) = some (.string (rdOf ByteArray.empty lz1 xz3))) (ds := []) spec_l8Ok_bools36_ (by kernel_rfl) rfl (by kernel_rfl) ⟨(blk_cell BKz1.out 0).trans rfl, (blk_cell BKz1.out 1).trans rfl, (blk_cell BKz1.out 2).trans rfl, (blk_cell BKz2.out 0).trans rfl, (blk_cell BKz2.out 1).trans rfl, (blk_cell BKz2.out 2).trans rfl, ((HB.out.cell (World.block_lt_of_cell? w _ hwz1)).trans hwz1), ((HB.out.cell (World.block_lt_of_cell? w _ hwz2)).trans hwz2), ((HB.out.cell (World.block_lt_of_cell? w _ hwz3)).trans hwz3), ((HB.out.cell (World.block_lt_of_cell? w _ hwz4)).trans hwz4)⟩ (fun hHeld => ?_); refine with_tabW spec_l8Ok.tab12 spec_l8Ok.bits12 (fun HT_ HW_ => ?_)
              generalize wz3.drew = wz4 at BKz1 BKz2 HB hxz4 hxz5 hxz6 hxz7 hHeld ⊢
              refine pu_ HT_ 0 71 spec_l8Ok_bools37_ ?_
              refine pu_ HT_ 2 73 spec_l8Ok_bools38_ ?_
              refine ta_ HT_ HW_ hHeld 1 72 spec_l8Ok_bools39_ ?_
              refine pu_ HT_ 3 74 spec_l8Ok_bools40_ ?_
              refine ta_ HT_ HW_ hHeld 4 75 spec_l8Ok_bools41_ ?_
              refine one_ (i := 5) (N := some 76) spec_l8Ok_bools42_ rfl rfl (one_of HT_.out (by kernel_rfl)) (by decide) (fun K hK => ?_)
              refine goes_ Tryd.func50 (by kernel_rfl) rfl #[.string (rdOf ByteArray.empty lz1 xz3)] (by rfl) rfl rfl ar_ ?_
              with_reducible refine (spec_l8Level.calls kz2 (rdOf ByteArray.empty lz1 xz3) true _ Az5.out).mono ?_
              rintro e wz5 ⟨rfl, hb⟩
              refine ⟨_, rfl, ?_⟩
              have nz1 := Aside0.mk (blk_below (g := gbz1) (o := .cells #[.slice (some adz2) lz1.length cz1, .slice (some adz1) lz2.length cz2, .slice Az3 lz3.length cz3] 32 (0, 0)) bk_ hb)
              have nz2 := Aside0.mk (blk_below (g := gbz2) (o := .cells #[.slice Az6 ((rd_T32 lz2 xz3).f0).length cz13, .slice Az7 ((rd_T32 lz2 xz3).f1).length cz14, .slice Az8 ((rd_T32 lz2 xz3).f2).length cz15] 32 (0, 0)) bk_ hb)
              have nz3 := Aside0.mk (below_step be_ hb)
              clear BKz1
              clear BKz2
              clear HB
              have BKz1 := nz1
              have BKz2 := nz2
              have HB := nz3
              clear nz1 nz2 nz3
              (try clear hb)
              (try clear hb2)
              (try clear hk)
              (try clear hi)
              refine hK.out _ _ ⟨(blk_cell BKz1.out 0).trans rfl, (blk_cell BKz1.out 1).trans rfl, (blk_cell BKz1.out 2).trans rfl, (blk_cell BKz2.out 0).trans rfl, (blk_cell BKz2.out 1).trans rfl, (blk_cell BKz2.out 2).trans rfl, ((HB.out.cell (World.block_lt_of_cell? w _ hwz1)).trans hwz1), ((HB.out.cell (World.block_lt_of_cell? w _ hwz2)).trans hwz2), ((HB.out.cell (World.block_lt_of_cell? w _ hwz3)).trans hwz3), ((HB.out.cell (World.block_lt_of_cell? w _ hwz4)).trans hwz4)⟩ (fun hHeld => ?_)
              clear hK K
              refine norm_ (a' := ?_) ?_ ?_
              rotate_left
              · show Act.put _ (some 76) _ = _
                simp only [Act.put, List.setIfInBounds_toArray, List.set_cons_zero, List.set_cons_succ, i64_w, i32_w]
                rfl
              refine pu_ HT_ 6 77 spec_l8Ok_bools43_ ?_
              refine pu_ HT_ 7 78 spec_l8Ok_bools44_ ?_
              refine pu_ HT_ 8 79 spec_l8Ok_bools45_ ?_
              refine pu_ HT_ 9 80 spec_l8Ok_bools46_ ?_
              refine pu_ HT_ 10 81 spec_l8Ok_bools47_ ?_
              refine pu_ HT_ 11 82 spec_l8Ok_bools48_ ?_
              refine pu_ HT_ 13 84 spec_l8Ok_bools98_ ?_
              refine pu_ HT_ 14 85 spec_l8Ok_bools99_ ?_
              refine pu_ HT_ 17 88 spec_l8Ok_bools100_ ?_
              refine pu_ HT_ 19 90 spec_l8Ok_bools101_ ?_
              refine ta_ HT_ HW_ hHeld 12 83 spec_l8Ok_bools102_ ?_
              refine pu_ HT_ 15 86 spec_l8Ok_bools103_ ?_
              refine ta_ HT_ HW_ hHeld 16 87 spec_l8Ok_bools104_ ?_
              refine ta_ HT_ HW_ hHeld 18 89 spec_l8Ok_bools56_ ?_
              refine pu_ HT_ 20 91 spec_l8Ok_bools57_ ?_
              refine ta_ HT_ HW_ hHeld 21 92 spec_l8Ok_bools58_ ?_
              refine pu_ HT_ 22 93 spec_l8Ok_bools59_ ?_
              refine pu_ HT_ 23 94 spec_l8Ok_bools60_ ?_
              refine pu_ HT_ 24 95 spec_l8Ok_bools61_ ?_
              refine pu_ HT_ 25 96 spec_l8Ok_bools62_ ?_
              have H := HXz1.out
              clear HXz1
              by_cases cz16 : ((Op.bytesLess ((rdOf ByteArray.empty lz1 (jiz1)).toList) ((rdOf ByteArray.empty lz1 xz3).toList)) = true)
              rotate_left
              · rw [if_neg cz16] at H
                have c42b0 : (Op.bytesLess ((rdOf ByteArray.empty lz1 (jiz1)).toList) ((rdOf ByteArray.empty lz1 xz3).toList)) = false := by simpa using cz16
                clear cz16
                obtain rfl := Option.some.inj H
                (try simp only [c42b0])
                refine un_ HT_ 26 97 spec_l8Ok_bools63_ ?_
                refine un_ HT_ 27 98 spec_l8Ok_bools64_ ?_
                refine un_ HT_ 28 99 spec_l8Ok_bools65_ ?_
                refine un_ HT_ 29 100 spec_l8Ok_bools66_ ?_
                refine un_ HT_ 30 101 spec_l8Ok_bools67_ ?_
                refine un_ HT_ 31 102 spec_l8Ok_bools68_ ?_
                refine un_ HT_ 32 103 spec_l8Ok_bools69_ ?_
                refine un_ HT_ 33 104 spec_l8Ok_bools70_ ?_
                refine un_ HT_ 34 105 spec_l8Ok_bools71_ ?_
                refine un_ HT_ 35 106 spec_l8Ok_bools72_ ?_
                refine pu_ HT_ 36 107 spec_l8Ok_bools73_ ?_
                refine pu_ HT_ 37 108 spec_l8Ok_bools74_ ?_
                exact spec_l8Ok_z28
              rw [if_pos cz16] at H
              have c42b0 : (Op.bytesLess ((rdOf ByteArray.empty lz1 (jiz1)).toList) ((rdOf ByteArray.empty lz1 xz3).toList)) = true := cz16
              clear cz16
              (try simp only [c42b0])
              have HXz2 := Aside0.mk H
              clear H
              refine pu_ HT_ 26 97 spec_l8Ok_bools63_ ?_
              refine ta_ HT_ HW_ hHeld 27 98 spec_l8Ok_bools64_ ?_
              refine pu_ HT_ 28 99 spec_l8Ok_bools65_ ?_
              refine pu_ HT_ 29 100 spec_l8Ok_bools66_ ?_
              refine pu_ HT_ 30 101 spec_l8Ok_bools67_ ?_
              have H := HXz2.out
              clear HXz2
              by_cases cz17 : (((rd_T32 lz2 xz3).f0).length : Int) = 0
              rotate_left
              · rw [if_neg cz17] at H
                have c43b0 : ((((rd_T32 lz2 xz3).f0).length : Int) == 0) = false := beq_eq_false_iff_ne.mpr cz17
                have c43b1 : ((((rd_T32 lz2 xz3).f0).length : Int) != 0) = true := bne_iff_ne.mpr cz17
                have c43b2 : ¬ (((rd_T32 lz2 xz3).f0) = []) := fun h_ => cz17 (by rw [h_]; rfl)
                (try simp only [c43b0, c43b1, c43b2])
                have HXz3 := Aside0.mk H
                clear H
                refine un_ HT_ 31 102 spec_l8Ok_bools68_ ?_
                refine un_ HT_ 32 103 spec_l8Ok_bools69_ ?_
                refine un_ HT_ 33 104 spec_l8Ok_bools70_ ?_
                refine un_ HT_ 34 105 spec_l8Ok_bools71_ ?_
                refine pu_ HT_ 35 106 spec_l8Ok_bools72_ ?_
                refine pu_ HT_ 36 107 spec_l8Ok_bools73_ ?_
                refine pu_ HT_ 37 108 spec_l8Ok_bools74_ ?_
                refine pu_ HT_ 38 109 spec_l8Ok_bools75_ ?_
                refine pu_ HT_ 40 111 spec_l8Ok_bools95_ ?_
                refine ta_ HT_ HW_ hHeld 39 110 spec_l8Ok_bools77_ ?_
                refine pu_ HT_ 41 112 spec_l8Ok_bools78_ ?_
                refine ta_ HT_ HW_ hHeld 42 113 spec_l8Ok_bools79_ ?_
                refine pu_ HT_ 43 114 spec_l8Ok_bools80_ ?_
                refine pu_ HT_ 44 115 spec_l8Ok_bools81_ ?_
                have H := HXz3.out
                clear HXz3
                by_cases cz18 : (rdOf ByteArray.empty lz1 xz3).toList = ([35] : List UInt8)
                rotate_left
                · rw [if_neg cz18] at H
                  have c97b0 : ((rdOf ByteArray.empty lz1 xz3).toList == ([35] : List UInt8)) = false := beq_eq_false_iff_ne.mpr cz18
                  have c97b1 : ((rdOf ByteArray.empty lz1 xz3).toList != ([35] : List UInt8)) = true := bne_iff_ne.mpr cz18
                  replace H := Option.bind_eq_some_iff.mp H
                  obtain ⟨tz2, Az9, H⟩ := H
                  replace H : (if tz2 = true then (spec_l8Ok.l1 kz2 az1 (wrap64 (xz3 + 1)) lz1 lz2 lz3) else (some false)) = some r := H
                  have Az10 := Aside0.mk Az9
                  clear Az9
                  (try simp only [c97b0, c97b1])
                  have HXz4 := Aside0.mk H
                  clear H
                  refine un_ HT_ 45 116 spec_l8Ok_bools82_ ?_
                  refine un_ HT_ 46 117 spec_l8Ok_bools83_ ?_
                  refine un_ HT_ 47 118 spec_l8Ok_bools84_ ?_
                  refine un_ HT_ 48 119 spec_l8Ok_bools85_ ?_
                  refine pu_ HT_ 49 120 spec_l8Ok_bools86_ ?_
                  refine pu_ HT_ 50 121 spec_l8Ok_bools87_ ?_
                  refine pu_ HT_ 51 122 spec_l8Ok_bools88_ ?_
                  refine pu_ HT_ 53 124 spec_l8Ok_bools96_ ?_
                  refine pu_ HT_ 54 125 spec_l8Ok_bools97_ ?_
                  refine ta_ HT_ HW_ hHeld 52 123 spec_l8Ok_bools91_ ?_
                  refine one_ (i := 55) (N := some 126) spec_l8Ok_bools92_ rfl rfl (one_of HT_.out (by kernel_rfl)) (by decide) (fun K hK => ?_)
                  refine goes_ Tryd.func25 (by kernel_rfl) rfl #[.agg #[.slice Az6 ((rd_T32 lz2 xz3).f0).length cz13, .slice Az7 ((rd_T32 lz2 xz3).f1).length cz14, .slice Az8 ((rd_T32 lz2 xz3).f2).length cz15], .int .i64 (wrap64 (az1 + 1))] (by rfl) rfl rfl ar_ ?_
                  have H := HXz4.out
                  clear HXz4
                  by_cases cz19 : tz2 = true
                  rotate_left
                  · replace cz19 := Bool.eq_false_iff.mpr cz19
                    subst cz19
                    exact spec_l8Ok_z48
                  subst cz19
                  exact spec_l8Ok_z54
                rw [if_pos cz18] at H
                have c97b0 : ((rdOf ByteArray.empty lz1 xz3).toList == ([35] : List UInt8)) = true := beq_iff_eq.mpr cz18
                have c97b1 : ((rdOf ByteArray.empty lz1 xz3).toList != ([35] : List UInt8)) = false := bne_eq_false_iff_eq.mpr cz18
                clear cz18
                (try simp only [c97b0, c97b1])
                have HXz4 := Aside0.mk H
                clear H
                refine pu_ HT_ 45 116 spec_l8Ok_bools82_ ?_
                refine ta_ HT_ HW_ hHeld 46 117 spec_l8Ok_bools83_ ?_
                refine pu_ HT_ 47 118 spec_l8Ok_bools84_ ?_
                refine pu_ HT_ 48 119 spec_l8Ok_bools85_ ?_
                refine pu_ HT_ 49 120 spec_l8Ok_bools86_ ?_
                refine pu_ HT_ 50 121 spec_l8Ok_bools87_ ?_
                refine pu_ HT_ 51 122 spec_l8Ok_bools88_ ?_
                have H := HXz4.out
                clear HXz4
                by_cases cz19 : (((rd_T32 lz2 xz3).f0).length : Int) > 0
                · rw [if_pos cz19] at H
                  have c98b0 : decide (0 < (((rd_T32 lz2 xz3).f0).length : Int)) = true := decide_eq_true cz19
                  have c98b1 : decide (0 < ((rd_T32 lz2 xz3).f0).length) = true := decide_eq_true (by omega)
                  clear cz19
                  obtain rfl := Option.some.inj H
                  (try simp only [c98b0, c98b1])
                  exact spec_l8Ok_z42
                rw [if_neg cz19] at H
                have c98b0 : decide (0 < (((rd_T32 lz2 xz3).f0).length : Int)) = false := decide_eq_false cz19
                have c98b1 : decide (0 < ((rd_T32 lz2 xz3).f0).length) = false := decide_eq_false (by omega)
                clear cz19
                replace H := Option.bind_eq_some_iff.mp H
                obtain ⟨tz2, Az9, H⟩ := H
                replace H : (if tz2 = true then (spec_l8Ok.l1 kz2 az1 (wrap64 (xz3 + 1)) lz1 lz2 lz3) else (some false)) = some r := H
                have Az10 := Aside0.mk Az9
                clear Az9
                (try simp only [c98b0, c98b1])
                have HXz5 := Aside0.mk H
                clear H
                exact spec_l8Ok_z61
              rw [if_pos cz17] at H
              have c43b0 : ((((rd_T32 lz2 xz3).f0).length : Int) == 0) = true := beq_iff_eq.mpr cz17
              have c43b1 : ((((rd_T32 lz2 xz3).f0).length : Int) != 0) = false := bne_eq_false_iff_eq.mpr cz17
              clear cz17
              (try simp only [c43b0, c43b1])
              have HXz3 := Aside0.mk H
              clear H
              refine pu_ HT_ 31 102 spec_l8Ok_bools68_ ?_
              refine ta_ HT_ HW_ hHeld 32 103 spec_l8Ok_bools69_ ?_
              refine pu_ HT_ 33 104 spec_l8Ok_bools70_ ?_
              refine pu_ HT_ 34 105 spec_l8Ok_bools71_ ?_
              refine pu_ HT_ 35 106 spec_l8Ok_bools72_ ?_
              refine pu_ HT_ 36 107 spec_l8Ok_bools73_ ?_
              refine pu_ HT_ 37 108 spec_l8Ok_bools74_ ?_
              have H := HXz3.out
              clear HXz3
              by_cases cz18 : (((rd_T32 lz2 xz3).f2).length : Int) = 0
              · rw [if_pos cz18] at H
                have c44b0 : ((((rd_T32 lz2 xz3).f2).length : Int) == 0) = true := beq_iff_eq.mpr cz18
                have c44b1 : ((((rd_T32 lz2 xz3).f2).length : Int) != 0) = false := bne_eq_false_iff_eq.mpr cz18
                clear cz18
                obtain rfl := Option.some.inj H
                (try simp only [c44b0, c44b1])
                exact spec_l8Ok_z28
              rw [if_neg cz18] at H
              have c44b0 : ((((rd_T32 lz2 xz3).f2).length : Int) == 0) = false := beq_eq_false_iff_ne.mpr cz18
              have c44b1 : ((((rd_T32 lz2 xz3).f2).length : Int) != 0) = true := bne_iff_ne.mpr cz18
              have c44b2 : ¬ (((rd_T32 lz2 xz3).f2) = []) := fun h_ => cz18 (by rw [h_]; rfl)
              (try simp only [c44b0, c44b1, c44b2])
              have HXz4 := Aside0.mk H
              clear H
              refine pu_ HT_ 38 109 spec_l8Ok_bools75_ ?_
              refine pu_ HT_ 40 111 spec_l8Ok_bools95_ ?_
              refine ta_ HT_ HW_ hHeld 39 110 spec_l8Ok_bools77_ ?_
              refine pu_ HT_ 41 112 spec_l8Ok_bools78_ ?_
              refine ta_ HT_ HW_ hHeld 42 113 spec_l8Ok_bools79_ ?_
              refine pu_ HT_ 43 114 spec_l8Ok_bools80_ ?_
              refine pu_ HT_ 44 115 spec_l8Ok_bools81_ ?_
              have H := HXz4.out
              clear HXz4
              by_cases cz19 : (rdOf ByteArray.empty lz1 xz3).toList = ([35] : List UInt8)
              rotate_left
              · rw [if_neg cz19] at H
                have c52b0 : ((rdOf ByteArray.empty lz1 xz3).toList == ([35] : List UInt8)) = false := beq_eq_false_iff_ne.mpr cz19
                have c52b1 : ((rdOf ByteArray.empty lz1 xz3).toList != ([35] : List UInt8)) = true := bne_iff_ne.mpr cz19
                replace H := Option.bind_eq_some_iff.mp H
                obtain ⟨tz2, Az9, H⟩ := H
                replace H : (if tz2 = true then (spec_l8Ok.l1 kz2 az1 (wrap64 (xz3 + 1)) lz1 lz2 lz3) else (some false)) = some r := H
                have Az10 := Aside0.mk Az9
                clear Az9
                (try simp only [c52b0, c52b1])
                have HXz5 := Aside0.mk H
                clear H
                refine un_ HT_ 45 116 spec_l8Ok_bools82_ ?_
                refine un_ HT_ 46 117 spec_l8Ok_bools83_ ?_
                refine un_ HT_ 47 118 spec_l8Ok_bools84_ ?_
                refine un_ HT_ 48 119 spec_l8Ok_bools85_ ?_
                refine pu_ HT_ 49 120 spec_l8Ok_bools86_ ?_
                refine pu_ HT_ 50 121 spec_l8Ok_bools87_ ?_
                refine pu_ HT_ 51 122 spec_l8Ok_bools88_ ?_
                exact spec_l8Ok_z61
              rw [if_pos cz19] at H
              have c52b0 : ((rdOf ByteArray.empty lz1 xz3).toList == ([35] : List UInt8)) = true := beq_iff_eq.mpr cz19
              have c52b1 : ((rdOf ByteArray.empty lz1 xz3).toList != ([35] : List UInt8)) = false := bne_eq_false_iff_eq.mpr cz19
              clear cz19
              (try simp only [c52b0, c52b1])
              have HXz5 := Aside0.mk H
              clear H
              refine pu_ HT_ 45 116 spec_l8Ok_bools82_ ?_
              refine ta_ HT_ HW_ hHeld 46 117 spec_l8Ok_bools83_ ?_
              refine pu_ HT_ 47 118 spec_l8Ok_bools84_ ?_
              refine pu_ HT_ 48 119 spec_l8Ok_bools85_ ?_
              refine pu_ HT_ 49 120 spec_l8Ok_bools86_ ?_
              refine pu_ HT_ 50 121 spec_l8Ok_bools87_ ?_
              refine pu_ HT_ 51 122 spec_l8Ok_bools88_ ?_
              have H := HXz5.out
              clear HXz5
              by_cases cz20 : (((rd_T32 lz2 xz3).f0).length : Int) > 0
              · rw [if_pos cz20] at H
                have c53b0 : decide (0 < (((rd_T32 lz2 xz3).f0).length : Int)) = true := decide_eq_true cz20
                have c53b1 : decide (0 < ((rd_T32 lz2 xz3).f0).length) = true := decide_eq_true (by omega)
                clear cz20
                obtain rfl := Option.some.inj H
                (try simp only [c53b0, c53b1])
                exact spec_l8Ok_z42
              rw [if_neg cz20] at H
              have c53b0 : decide (0 < (((rd_T32 lz2 xz3).f0).length : Int)) = false := decide_eq_false cz20
              have c53b1 : decide (0 < ((rd_T32 lz2 xz3).f0).length) = false := decide_eq_false (by omega)
              clear cz20
              replace H := Option.bind_eq_some_iff.mp H
              obtain ⟨tz2, Az9, H⟩ := H
              replace H : (if tz2 = true then (spec_l8Ok.l1 kz2 az1 (wrap64 (xz3 + 1)) lz1 lz2 lz3) else (some false)) = some r := H
              have Az10 := Aside0.mk Az9
              clear Az9
              (try simp only [c53b0, c53b1])
              have HXz6 := Aside0.mk H
              clear H
              refine pu_ HT_ 53 124 spec_l8Ok_bools96_ ?_
              refine pu_ HT_ 54 125 spec_l8Ok_bools97_ ?_
              refine ta_ HT_ HW_ hHeld 52 123 spec_l8Ok_bools91_ ?_
              refine one_ (i := 55) (N := some 126) spec_l8Ok_bools92_ rfl rfl (one_of HT_.out (by kernel_rfl)) (by decide) (fun K hK => ?_)
              refine goes_ Tryd.func25 (by kernel_rfl) rfl #[.agg #[.slice Az6 ((rd_T32 lz2 xz3).f0).length cz13, .slice Az7 ((rd_T32 lz2 xz3).f1).length cz14, .slice Az8 ((rd_T32 lz2 xz3).f2).length cz15], .int .i64 (wrap64 (az1 + 1))] (by rfl) rfl rfl ar_ ?_
              have H := HXz6.out
              clear HXz6
              by_cases cz21 : tz2 = true
              rotate_left
              · replace cz21 := Bool.eq_false_iff.mpr cz21
                subst cz21
                exact spec_l8Ok_z48
              subst cz21
              have Hz1 : (spec_l8Ok.l1 kz2 az1 (wrap64 (xz3 + 1)) lz1 lz2 lz3) = some r := by rw [if_pos rfl] at H; exact H
              clear H
              have H := Hz1
              clear Hz1
              have H' := Aside0.mk H
              clear H
              with_reducible refine (ih kz2 (by have := HJz1.out; have := HKz1.out; have := HKz2.out; omega) _ _ ((rd_T32 lz2 xz3).f0) _ _ ((rd_T32 lz2 xz3).f1) _ _ ((rd_T32 lz2 xz3).f2) (wrap64 (az1 + 1)) true _ ?side1 ?side2 ?side3 ?side4 ?side5 ?side6 Az10.out).mono ?_
              (case side1 => exact Kd.C_below HRz4.out be_)
              (case side2 => exact HCz5.out)
              (case side3 => exact Kd.C_below HRz5.out be_)
              (case side4 => exact HCz6.out)
              (case side5 => exact Kd.C_below HRz6.out be_)
              (case side6 => exact HCz7.out)
              rintro e wz6 ⟨rfl, hb⟩
              refine ⟨_, rfl, ?_⟩
              have nz1 := Aside0.mk (blk_below (g := gbz1) (o := .cells #[.slice (some adz2) lz1.length cz1, .slice (some adz1) lz2.length cz2, .slice Az3 lz3.length cz3] 32 (0, 0)) bk_ hb)
              have nz2 := Aside0.mk (blk_below (g := gbz2) (o := .cells #[.slice Az6 ((rd_T32 lz2 xz3).f0).length cz13, .slice Az7 ((rd_T32 lz2 xz3).f1).length cz14, .slice Az8 ((rd_T32 lz2 xz3).f2).length cz15] 32 (0, 0)) bk_ hb)
              have nz3 := Aside0.mk (below_step be_ hb)
              clear BKz1
              clear BKz2
              clear HB
              have BKz1 := nz1
              have BKz2 := nz2
              have HB := nz3
              clear nz1 nz2 nz3
              (try clear hb)
              (try clear hb2)
              (try clear hk)
              (try clear hi)
              refine hK.out _ _ ⟨(blk_cell BKz1.out 0).trans rfl, (blk_cell BKz1.out 1).trans rfl, (blk_cell BKz1.out 2).trans rfl, (blk_cell BKz2.out 0).trans rfl, (blk_cell BKz2.out 1).trans rfl, (blk_cell BKz2.out 2).trans rfl, ((HB.out.cell (World.block_lt_of_cell? w _ hwz1)).trans hwz1), ((HB.out.cell (World.block_lt_of_cell? w _ hwz2)).trans hwz2), ((HB.out.cell (World.block_lt_of_cell? w _ hwz3)).trans hwz3), ((HB.out.cell (World.block_lt_of_cell? w _ hwz4)).trans hwz4)⟩ (fun hHeld => ?_)
              clear hK K
              refine norm_ (a' := ?_) ?_ ?_
              rotate_left
              · show Act.put _ (some 126) _ = _
                simp only [Act.put, List.setIfInBounds_toArray, List.set_cons_zero, List.set_cons_succ, i64_w, i32_w]
                rfl
              refine pu_ HT_ 56 127 spec_l8Ok_bools93_ ?_
              refine pu_ HT_ 57 128 spec_l8Ok_bools94_ ?_
              refine done_ (done_of HT_.out (by kernel_rfl)) ?_
              try go_wp2
              go_roundg kz2
              case measure => have := HJz1.out; have := HKz1.out; have := HKz2.out; omega
              case rel => exact ⟨(wrap64 (xz3 + 1)), (by first | rfl | (simp; done) | (simp [*]; done)), H', ⟨by have := HJz1.out; have := HKz1.out; have := HKz2.out; omega⟩, ⟨bk_⟩, ⟨be_⟩⟩

end Go.Proofs.YtemehnmbmajnfaaDoor.P
