-- Written by program (wip/tools/xprint.sh) for this seat; not trusted: Lean checks it.
import Derived.Test.YtbapjcafcmnhoaaDoorX0
import Derived.Test.YtbapjcafcmnhoaaDoorX1
import Derived.Test.YtbapjcafcmnhoaaDoorX6
import Derived.Test.YtbapjcafcmnhoaaDoorX7
import Derived.Test.YtbapjcafcmnhoaaDoorX8
namespace Go.Proofs.YtbapjcafcmnhoaaDoor.X
open Go.RowKit Go.Proofs.YtbapjcafcmnhoaaDoorW.PrintWords Go.Proofs.YtbapjcafcmnhoaaDoorW.PrintLast Go.Proofs.YtbapjcafcmnhoaaDoorW.PrintMore
attribute [local go_sem] max2_int min2_int   -- for this text's walks alone
set_option linter.unusedVariables false
set_option linter.unusedSimpArgs false

def zb9_0 : Array Bool := bz 29 0
def zb9_1 : Array Bool := bz 29 1
def zb9_2 : Array Bool := bz 29 5
def zb9_3 : Array Bool := bz 29 69
def zb9_4 : Array Bool := bz 29 197
def zb9_5 : Array Bool := bz 29 199
def zb9_6 : Array Bool := bz 29 207
def zb9_7 : Array Bool := bz 29 223
def zb9_8 : Array Bool := bz 29 255
def zb9_9 : Array Bool := bz 29 511
def zb9_10 : Array Bool := bz 29 1023
def zb9_11 : Array Bool := bz 29 2047
def zb9_12 : Array Bool := bz 29 4095
def zb9_13 : Array Bool := bz 29 8191
def zb9_14 : Array Bool := bz 29 16383
def zb9_15 : Array Bool := bz 29 8388607
def zb9_16 : Array Bool := bz 29 16777215
def zb9_17 : Array Bool := bz 29 33554431
def zb9_18 : Array Bool := bz 29 67108863
def zb9_19 : Array Bool := bz 29 134217727
def zb9_20 : Array Bool := bz 29 268435455
def zb9_21 : Array Bool := bz 29 536870911
def zb9_22 : Array Bool := bz 29 32767
def zb9_23 : Array Bool := bz 29 65535
def zb9_24 : Array Bool := bz 29 131071
def zb9_25 : Array Bool := bz 29 262143
def zb9_26 : Array Bool := bz 29 524287
def zb9_27 : Array Bool := bz 29 1048575
def zb9_28 : Array Bool := bz 29 2097151
def zb9_29 : Array Bool := bz 29 4194303
def zb9_30 : Array Bool := bz 19 0
def zb9_31 : Array Bool := bz 19 1
def zb9_32 : Array Bool := bz 19 3
def zb9_33 : Array Bool := bz 19 7
def zb9_34 : Array Bool := bz 19 15
def zb9_35 : Array Bool := bz 19 31
def zb9_36 : Array Bool := bz 19 63
def zb9_37 : Array Bool := bz 19 127
def zb9_38 : Array Bool := bz 19 255
def zb9_39 : Array Bool := bz 19 511
def zb9_40 : Array Bool := bz 19 1023
def zb9_41 : Array Bool := bz 19 2047
def zb9_42 : Array Bool := bz 19 4095
def zb9_43 : Array Bool := bz 19 8191
def zb9_44 : Array Bool := bz 19 16383
def zb9_45 : Array Bool := bz 19 32767
def zb9_46 : Array Bool := bz 19 65535
def zb9_47 : Array Bool := bz 19 131071
def zb9_48 : Array Bool := bz 19 262143
def zb9_49 : Array Bool := bz 19 524287
def zb9_50 : Array Bool := bz 25 0
def zb9_51 : Array Bool := bz 25 1
def zb9_52 : Array Bool := bz 25 3
def zb9_53 : Array Bool := bz 25 7
def zb9_54 : Array Bool := bz 25 15
def zb9_55 : Array Bool := bz 25 31
def zb9_56 : Array Bool := bz 25 159
def zb9_57 : Array Bool := bz 25 415
def zb9_58 : Array Bool := bz 25 447
def zb9_59 : Array Bool := bz 25 959
def zb9_60 : Array Bool := bz 25 1023
def zb9_61 : Array Bool := bz 25 2047
def zb9_62 : Array Bool := bz 25 4095
def zb9_63 : Array Bool := bz 25 8191
def zb9_64 : Array Bool := bz 25 16383
def zb9_65 : Array Bool := bz 25 32767
def zb9_66 : Array Bool := bz 25 65535
def zb9_67 : Array Bool := bz 25 131071
def zb9_68 : Array Bool := bz 25 262143
def zb9_69 : Array Bool := bz 25 524287
def zb9_70 : Array Bool := bz 25 1048575
def zb9_71 : Array Bool := bz 25 2097151
def zb9_72 : Array Bool := bz 25 4194303
def zb9_73 : Array Bool := bz 25 8388607
def zb9_74 : Array Bool := bz 25 16777215
def zb9_75 : Array Bool := bz 25 33554431
def zb9_76 : Array Bool := bz 25 655359
def zb9_77 : Array Bool := bz 25 786431
def zb9_78 : Array Bool := bz 25 1835007
def zb9_79 : Array Bool := bz 25 3932159
def zb9_80 : Array Bool := bz 25 63
def zb9_81 : Array Bool := bz 25 127
def zb9_82 : Array Bool := bz 25 255
def zb9_83 : Array Bool := bz 25 511
/-! ### corebankref34_Check: function 8 -/
mutual
def corebankref34_Check.l0 : Nat → Int → Int → Int → Int → Int → Int → Int → Int → Int → Int → Int → Int → Int → Int → Int → Int → Int → Int → Int → Int → Int → Int → ByteArray → ByteArray → List (S43) → List (S59) → Option (Int)
  | 0, _, _, _, _, _, _, _, _, _, _, _, _, _, _, _, _, _, _, _, _, _, _, _, _, _, _ => none
  | k + 1, x3, x125000, x125001, x125002, x125003, x125004, x125005, x125006, x125007, x125008, x125009, x125010, x125011, x125012, x125013, x125014, x125015, x125016, x125017, x125018, x125019, x125020, x125021, x125022, x125023, x125024 => if x3 < (x125023.length : Int) then (if 0 ≤ x3 then (if ((rd_T43 x125023 x3).f0) = (wrap64 (x3 + 1)) then (if x3 > 0 then (if 0 ≤ (wrap64 (x3 - 1)) then (if (wrap64 (x3 - 1)) < (x125023.length : Int) then (corebankref34_Check.j1 k x3 (decide (((rd_T43 x125023 x3).f1) < ((rd_T43 x125023 (wrap64 (x3 - 1))).f1))) x125000 x125001 x125002 x125003 x125004 x125005 x125006 x125007 x125008 x125009 x125010 x125011 x125012 x125013 x125014 x125015 x125016 x125017 x125018 x125019 x125020 x125021 x125022 x125023 x125024) else (none)) else (none)) else (corebankref34_Check.j1 k x3 false x125000 x125001 x125002 x125003 x125004 x125005 x125006 x125007 x125008 x125009 x125010 x125011 x125012 x125013 x125014 x125015 x125016 x125017 x125018 x125019 x125020 x125021 x125022 x125023 x125024)) else (corebankref34_Check.j1 k x3 true x125000 x125001 x125002 x125003 x125004 x125005 x125006 x125007 x125008 x125009 x125010 x125011 x125012 x125013 x125014 x125015 x125016 x125017 x125018 x125019 x125020 x125021 x125022 x125023 x125024)) else (none)) else ((corebankref34_Principal.f k x125000 x125001 x125002 x125003 x125004 x125005 x125006 x125007 x125008 x125009 x125010 x125011 x125012 x125013 x125014 x125015 x125016 x125017 x125018 x125019 x125020 x125021 x125022 x125023 x125024 9223372036854775807).bind fun t129 => (if x125003 > t129 then (corebankref34_Check.j2 k true x125000 x125001 x125002 x125003 x125004 x125005 x125006 x125007 x125008 x125009 x125010 x125011 x125012 x125013 x125014 x125015 x125016 x125017 x125018 x125019 x125020 x125021 x125022 x125023 x125024) else ((corebankref34_Interest.f k x125000 x125001 x125002 x125003 x125004 x125005 x125006 x125007 x125008 x125009 x125010 x125011 x125012 x125013 x125014 x125015 x125016 x125017 x125018 x125019 x125020 x125021 x125022 x125023 x125024 9223372036854775807).bind fun t130 => (if x125004 > t130 then (corebankref34_Check.j2 k true x125000 x125001 x125002 x125003 x125004 x125005 x125006 x125007 x125008 x125009 x125010 x125011 x125012 x125013 x125014 x125015 x125016 x125017 x125018 x125019 x125020 x125021 x125022 x125023 x125024) else (corebankref34_Check.j2 k (decide (x125010 > x125009)) x125000 x125001 x125002 x125003 x125004 x125005 x125006 x125007 x125008 x125009 x125010 x125011 x125012 x125013 x125014 x125015 x125016 x125017 x125018 x125019 x125020 x125021 x125022 x125023 x125024)))))
def corebankref34_Check.j1 : Nat → Int → Bool → Int → Int → Int → Int → Int → Int → Int → Int → Int → Int → Int → Int → Int → Int → Int → Int → Int → Int → Int → Int → Int → ByteArray → ByteArray → List (S43) → List (S59) → Option (Int)
  | 0, _, _, _, _, _, _, _, _, _, _, _, _, _, _, _, _, _, _, _, _, _, _, _, _, _, _, _ => none
  | k + 1, x3, x42, x125000, x125001, x125002, x125003, x125004, x125005, x125006, x125007, x125008, x125009, x125010, x125011, x125012, x125013, x125014, x125015, x125016, x125017, x125018, x125019, x125020, x125021, x125022, x125023, x125024 => if x42 = true then (some 10) else (corebankref34_Check.l0 k (wrap64 (x3 + 1)) x125000 x125001 x125002 x125003 x125004 x125005 x125006 x125007 x125008 x125009 x125010 x125011 x125012 x125013 x125014 x125015 x125016 x125017 x125018 x125019 x125020 x125021 x125022 x125023 x125024)
def corebankref34_Check.j2 : Nat → Bool → Int → Int → Int → Int → Int → Int → Int → Int → Int → Int → Int → Int → Int → Int → Int → Int → Int → Int → Int → Int → Int → ByteArray → ByteArray → List (S43) → List (S59) → Option (Int)
  | 0, _, _, _, _, _, _, _, _, _, _, _, _, _, _, _, _, _, _, _, _, _, _, _, _, _, _ => none
  | k + 1, x61, x125000, x125001, x125002, x125003, x125004, x125005, x125006, x125007, x125008, x125009, x125010, x125011, x125012, x125013, x125014, x125015, x125016, x125017, x125018, x125019, x125020, x125021, x125022, x125023, x125024 => if x61 = true then (some 25) else (if (x125024.length : Int) = 0 then ((corebankref34_Principal.f k x125000 x125001 x125002 x125003 x125004 x125005 x125006 x125007 x125008 x125009 x125010 x125011 x125012 x125013 x125014 x125015 x125016 x125017 x125018 x125019 x125020 x125021 x125022 x125023 x125024 9223372036854775807).bind fun t131 => (if t131 = x125012 then (if x125002 = 3 then (corebankref34_Check.j3 k false x125000 x125001 x125002 x125003 x125004 x125005 x125006 x125007 x125008 x125009 x125010 x125011 x125012 x125013 x125014 x125015 x125016 x125017 x125018 x125019 x125020 x125021 x125022 x125023 x125024) else ((corebankref34_Left.f k x125000 x125001 x125002 x125003 x125004 x125005 x125006 x125007 x125008 x125009 x125010 x125011 x125012 x125013 x125014 x125015 x125016 x125017 x125018 x125019 x125020 x125021 x125022 x125023 x125024).bind fun t132 => (corebankref34_Check.j3 k (t132 != (x125002 == 1)) x125000 x125001 x125002 x125003 x125004 x125005 x125006 x125007 x125008 x125009 x125010 x125011 x125012 x125013 x125014 x125015 x125016 x125017 x125018 x125019 x125020 x125021 x125022 x125023 x125024))) else (corebankref34_Check.j3 k true x125000 x125001 x125002 x125003 x125004 x125005 x125006 x125007 x125008 x125009 x125010 x125011 x125012 x125013 x125014 x125015 x125016 x125017 x125018 x125019 x125020 x125021 x125022 x125023 x125024))) else (if x125002 = 3 then (corebankref34_Check.j3 k false x125000 x125001 x125002 x125003 x125004 x125005 x125006 x125007 x125008 x125009 x125010 x125011 x125012 x125013 x125014 x125015 x125016 x125017 x125018 x125019 x125020 x125021 x125022 x125023 x125024) else ((corebankref34_Left.f k x125000 x125001 x125002 x125003 x125004 x125005 x125006 x125007 x125008 x125009 x125010 x125011 x125012 x125013 x125014 x125015 x125016 x125017 x125018 x125019 x125020 x125021 x125022 x125023 x125024).bind fun t133 => (corebankref34_Check.j3 k (t133 != (x125002 == 1)) x125000 x125001 x125002 x125003 x125004 x125005 x125006 x125007 x125008 x125009 x125010 x125011 x125012 x125013 x125014 x125015 x125016 x125017 x125018 x125019 x125020 x125021 x125022 x125023 x125024))))
def corebankref34_Check.j3 : Nat → Bool → Int → Int → Int → Int → Int → Int → Int → Int → Int → Int → Int → Int → Int → Int → Int → Int → Int → Int → Int → Int → Int → ByteArray → ByteArray → List (S43) → List (S59) → Option (Int)
  | 0, _, _, _, _, _, _, _, _, _, _, _, _, _, _, _, _, _, _, _, _, _, _, _, _, _, _ => none
  | k + 1, x86, x125000, x125001, x125002, x125003, x125004, x125005, x125006, x125007, x125008, x125009, x125010, x125011, x125012, x125013, x125014, x125015, x125016, x125017, x125018, x125019, x125020, x125021, x125022, x125023, x125024 => if x86 = true then (some 25) else (if x125002 = 3 then (corebankref34_Check.j4 k false) else (if x125009 = 0 then (corebankref34_Check.j4 k (x125010 != 0)) else (corebankref34_Check.j4 k true)))
def corebankref34_Check.j4 : Nat → Bool → Option (Int)
  | 0, _ => none
  | k + 1, x99 => if x99 = true then (some 25) else (some 0)
end
def corebankref34_Check.f (k : Nat) (a0_0 : Int) (a0_1 : Int) (a0_2 : Int) (a0_3 : Int) (a0_4 : Int) (a0_5 : Int) (a0_6 : Int) (a0_7 : Int) (a0_8 : Int) (a0_9 : Int) (a0_10 : Int) (a0_11 : Int) (a0_12 : Int) (a0_13 : Int) (a0_14 : Int) (a0_15 : Int) (a0_16 : Int) (a0_17 : Int) (a0_18 : Int) (a0_19 : Int) (a0_20 : Int) (a0_21 : ByteArray) (a0_22 : ByteArray) (l0_23 : List (S43)) (l0_24 : List (S59)) : Option (Int) := (corebankref34_ranged.f k a0_0 a0_1 a0_2 a0_3 a0_4 a0_5 a0_6 a0_7 a0_8 a0_9 a0_10 a0_11 a0_12 a0_13 a0_14 a0_15 a0_16 a0_17 a0_18 a0_19 a0_20 a0_21 a0_22 l0_23 l0_24).bind fun t125 => (if t125 = true then (corebankref34_Check.l0 k 0 a0_0 a0_1 a0_2 a0_3 a0_4 a0_5 a0_6 a0_7 a0_8 a0_9 a0_10 a0_11 a0_12 a0_13 a0_14 a0_15 a0_16 a0_17 a0_18 a0_19 a0_20 a0_21 a0_22 l0_23 l0_24) else (some 1))
theorem corebankref34_Check.mono_l : ∀ k, (∀ y0 y1 y2 y3 y4 y5 y6 y7 y8 y9 y10 y11 y12 y13 y14 y15 y16 y17 y18 y19 y20 y21 y22 y23 y24 y25, LeO (corebankref34_Check.l0 k y0 y1 y2 y3 y4 y5 y6 y7 y8 y9 y10 y11 y12 y13 y14 y15 y16 y17 y18 y19 y20 y21 y22 y23 y24 y25) (corebankref34_Check.l0 (k + 1) y0 y1 y2 y3 y4 y5 y6 y7 y8 y9 y10 y11 y12 y13 y14 y15 y16 y17 y18 y19 y20 y21 y22 y23 y24 y25)) ∧ (∀ y0 y1 y2 y3 y4 y5 y6 y7 y8 y9 y10 y11 y12 y13 y14 y15 y16 y17 y18 y19 y20 y21 y22 y23 y24 y25 y26, LeO (corebankref34_Check.j1 k y0 y1 y2 y3 y4 y5 y6 y7 y8 y9 y10 y11 y12 y13 y14 y15 y16 y17 y18 y19 y20 y21 y22 y23 y24 y25 y26) (corebankref34_Check.j1 (k + 1) y0 y1 y2 y3 y4 y5 y6 y7 y8 y9 y10 y11 y12 y13 y14 y15 y16 y17 y18 y19 y20 y21 y22 y23 y24 y25 y26)) ∧ (∀ y0 y1 y2 y3 y4 y5 y6 y7 y8 y9 y10 y11 y12 y13 y14 y15 y16 y17 y18 y19 y20 y21 y22 y23 y24 y25, LeO (corebankref34_Check.j2 k y0 y1 y2 y3 y4 y5 y6 y7 y8 y9 y10 y11 y12 y13 y14 y15 y16 y17 y18 y19 y20 y21 y22 y23 y24 y25) (corebankref34_Check.j2 (k + 1) y0 y1 y2 y3 y4 y5 y6 y7 y8 y9 y10 y11 y12 y13 y14 y15 y16 y17 y18 y19 y20 y21 y22 y23 y24 y25)) ∧ (∀ y0 y1 y2 y3 y4 y5 y6 y7 y8 y9 y10 y11 y12 y13 y14 y15 y16 y17 y18 y19 y20 y21 y22 y23 y24 y25, LeO (corebankref34_Check.j3 k y0 y1 y2 y3 y4 y5 y6 y7 y8 y9 y10 y11 y12 y13 y14 y15 y16 y17 y18 y19 y20 y21 y22 y23 y24 y25) (corebankref34_Check.j3 (k + 1) y0 y1 y2 y3 y4 y5 y6 y7 y8 y9 y10 y11 y12 y13 y14 y15 y16 y17 y18 y19 y20 y21 y22 y23 y24 y25)) ∧ (∀ y0, LeO (corebankref34_Check.j4 k y0) (corebankref34_Check.j4 (k + 1) y0))
  | 0 => ⟨fun _ _ _ _ _ _ _ _ _ _ _ _ _ _ _ _ _ _ _ _ _ _ _ _ _ _ r h => by simp [corebankref34_Check.l0] at h, fun _ _ _ _ _ _ _ _ _ _ _ _ _ _ _ _ _ _ _ _ _ _ _ _ _ _ _ r h => by simp [corebankref34_Check.j1] at h, fun _ _ _ _ _ _ _ _ _ _ _ _ _ _ _ _ _ _ _ _ _ _ _ _ _ _ r h => by simp [corebankref34_Check.j2] at h, fun _ _ _ _ _ _ _ _ _ _ _ _ _ _ _ _ _ _ _ _ _ _ _ _ _ _ r h => by simp [corebankref34_Check.j3] at h, fun _ r h => by simp [corebankref34_Check.j4] at h⟩
  | k + 1 => by
    obtain ⟨ih0, ih1, ih2, ih3, ih4⟩ := corebankref34_Check.mono_l k
    refine ⟨?_, ?_, ?_, ?_, ?_⟩
    · intro y0 y1 y2 y3 y4 y5 y6 y7 y8 y9 y10 y11 y12 y13 y14 y15 y16 y17 y18 y19 y20 y21 y22 y23 y24 y25
      unfold corebankref34_Check.l0
      repeat' first
      | (with_reducible exact ih0 _ _ _ _ _ _ _ _ _ _ _ _ _ _ _ _ _ _ _ _ _ _ _ _ _ _)
      | (with_reducible exact ih1 _ _ _ _ _ _ _ _ _ _ _ _ _ _ _ _ _ _ _ _ _ _ _ _ _ _ _)
      | (with_reducible exact ih2 _ _ _ _ _ _ _ _ _ _ _ _ _ _ _ _ _ _ _ _ _ _ _ _ _ _)
      | (with_reducible exact ih3 _ _ _ _ _ _ _ _ _ _ _ _ _ _ _ _ _ _ _ _ _ _ _ _ _ _)
      | (with_reducible exact ih4 _)
      | (with_reducible exact corebankref34_Interest.mono _ _ _ _ _ _ _ _ _ _ _ _ _ _ _ _ _ _ _ _ _ _ _ _ _ _ _)
      | (with_reducible exact corebankref34_Left.mono _ _ _ _ _ _ _ _ _ _ _ _ _ _ _ _ _ _ _ _ _ _ _ _ _ _)
      | (with_reducible exact corebankref34_Principal.mono _ _ _ _ _ _ _ _ _ _ _ _ _ _ _ _ _ _ _ _ _ _ _ _ _ _ _)
      | (with_reducible exact corebankref34_ranged.mono _ _ _ _ _ _ _ _ _ _ _ _ _ _ _ _ _ _ _ _ _ _ _ _ _ _)
      | (with_reducible exact LeO.refl _)
      | (with_reducible exact LeO.none _)
      | (with_reducible refine LeO.ite ?_ ?_)
      | (with_reducible refine LeO.bind ?_ (fun _ => ?_))
      | exact ih0 _ _ _ _ _ _ _ _ _ _ _ _ _ _ _ _ _ _ _ _ _ _ _ _ _ _
      | exact ih1 _ _ _ _ _ _ _ _ _ _ _ _ _ _ _ _ _ _ _ _ _ _ _ _ _ _ _
      | exact ih2 _ _ _ _ _ _ _ _ _ _ _ _ _ _ _ _ _ _ _ _ _ _ _ _ _ _
      | exact ih3 _ _ _ _ _ _ _ _ _ _ _ _ _ _ _ _ _ _ _ _ _ _ _ _ _ _
      | exact ih4 _
      | exact corebankref34_Interest.mono _ _ _ _ _ _ _ _ _ _ _ _ _ _ _ _ _ _ _ _ _ _ _ _ _ _ _
      | exact corebankref34_Left.mono _ _ _ _ _ _ _ _ _ _ _ _ _ _ _ _ _ _ _ _ _ _ _ _ _ _
      | exact corebankref34_Principal.mono _ _ _ _ _ _ _ _ _ _ _ _ _ _ _ _ _ _ _ _ _ _ _ _ _ _ _
      | exact corebankref34_ranged.mono _ _ _ _ _ _ _ _ _ _ _ _ _ _ _ _ _ _ _ _ _ _ _ _ _ _
      | exact LeO.none _
      | refine LeO.ite ?_ ?_
      | refine LeO.bind ?_ (fun _ => ?_)
    · intro y0 y1 y2 y3 y4 y5 y6 y7 y8 y9 y10 y11 y12 y13 y14 y15 y16 y17 y18 y19 y20 y21 y22 y23 y24 y25 y26
      unfold corebankref34_Check.j1
      repeat' first
      | (with_reducible exact ih0 _ _ _ _ _ _ _ _ _ _ _ _ _ _ _ _ _ _ _ _ _ _ _ _ _ _)
      | (with_reducible exact ih1 _ _ _ _ _ _ _ _ _ _ _ _ _ _ _ _ _ _ _ _ _ _ _ _ _ _ _)
      | (with_reducible exact ih2 _ _ _ _ _ _ _ _ _ _ _ _ _ _ _ _ _ _ _ _ _ _ _ _ _ _)
      | (with_reducible exact ih3 _ _ _ _ _ _ _ _ _ _ _ _ _ _ _ _ _ _ _ _ _ _ _ _ _ _)
      | (with_reducible exact ih4 _)
      | (with_reducible exact corebankref34_Interest.mono _ _ _ _ _ _ _ _ _ _ _ _ _ _ _ _ _ _ _ _ _ _ _ _ _ _ _)
      | (with_reducible exact corebankref34_Left.mono _ _ _ _ _ _ _ _ _ _ _ _ _ _ _ _ _ _ _ _ _ _ _ _ _ _)
      | (with_reducible exact corebankref34_Principal.mono _ _ _ _ _ _ _ _ _ _ _ _ _ _ _ _ _ _ _ _ _ _ _ _ _ _ _)
      | (with_reducible exact corebankref34_ranged.mono _ _ _ _ _ _ _ _ _ _ _ _ _ _ _ _ _ _ _ _ _ _ _ _ _ _)
      | (with_reducible exact LeO.refl _)
      | (with_reducible exact LeO.none _)
      | (with_reducible refine LeO.ite ?_ ?_)
      | (with_reducible refine LeO.bind ?_ (fun _ => ?_))
      | exact ih0 _ _ _ _ _ _ _ _ _ _ _ _ _ _ _ _ _ _ _ _ _ _ _ _ _ _
      | exact ih1 _ _ _ _ _ _ _ _ _ _ _ _ _ _ _ _ _ _ _ _ _ _ _ _ _ _ _
      | exact ih2 _ _ _ _ _ _ _ _ _ _ _ _ _ _ _ _ _ _ _ _ _ _ _ _ _ _
      | exact ih3 _ _ _ _ _ _ _ _ _ _ _ _ _ _ _ _ _ _ _ _ _ _ _ _ _ _
      | exact ih4 _
      | exact corebankref34_Interest.mono _ _ _ _ _ _ _ _ _ _ _ _ _ _ _ _ _ _ _ _ _ _ _ _ _ _ _
      | exact corebankref34_Left.mono _ _ _ _ _ _ _ _ _ _ _ _ _ _ _ _ _ _ _ _ _ _ _ _ _ _
      | exact corebankref34_Principal.mono _ _ _ _ _ _ _ _ _ _ _ _ _ _ _ _ _ _ _ _ _ _ _ _ _ _ _
      | exact corebankref34_ranged.mono _ _ _ _ _ _ _ _ _ _ _ _ _ _ _ _ _ _ _ _ _ _ _ _ _ _
      | exact LeO.none _
      | refine LeO.ite ?_ ?_
      | refine LeO.bind ?_ (fun _ => ?_)
    · intro y0 y1 y2 y3 y4 y5 y6 y7 y8 y9 y10 y11 y12 y13 y14 y15 y16 y17 y18 y19 y20 y21 y22 y23 y24 y25
      unfold corebankref34_Check.j2
      repeat' first
      | (with_reducible exact ih0 _ _ _ _ _ _ _ _ _ _ _ _ _ _ _ _ _ _ _ _ _ _ _ _ _ _)
      | (with_reducible exact ih1 _ _ _ _ _ _ _ _ _ _ _ _ _ _ _ _ _ _ _ _ _ _ _ _ _ _ _)
      | (with_reducible exact ih2 _ _ _ _ _ _ _ _ _ _ _ _ _ _ _ _ _ _ _ _ _ _ _ _ _ _)
      | (with_reducible exact ih3 _ _ _ _ _ _ _ _ _ _ _ _ _ _ _ _ _ _ _ _ _ _ _ _ _ _)
      | (with_reducible exact ih4 _)
      | (with_reducible exact corebankref34_Interest.mono _ _ _ _ _ _ _ _ _ _ _ _ _ _ _ _ _ _ _ _ _ _ _ _ _ _ _)
      | (with_reducible exact corebankref34_Left.mono _ _ _ _ _ _ _ _ _ _ _ _ _ _ _ _ _ _ _ _ _ _ _ _ _ _)
      | (with_reducible exact corebankref34_Principal.mono _ _ _ _ _ _ _ _ _ _ _ _ _ _ _ _ _ _ _ _ _ _ _ _ _ _ _)
      | (with_reducible exact corebankref34_ranged.mono _ _ _ _ _ _ _ _ _ _ _ _ _ _ _ _ _ _ _ _ _ _ _ _ _ _)
      | (with_reducible exact LeO.refl _)
      | (with_reducible exact LeO.none _)
      | (with_reducible refine LeO.ite ?_ ?_)
      | (with_reducible refine LeO.bind ?_ (fun _ => ?_))
      | exact ih0 _ _ _ _ _ _ _ _ _ _ _ _ _ _ _ _ _ _ _ _ _ _ _ _ _ _
      | exact ih1 _ _ _ _ _ _ _ _ _ _ _ _ _ _ _ _ _ _ _ _ _ _ _ _ _ _ _
      | exact ih2 _ _ _ _ _ _ _ _ _ _ _ _ _ _ _ _ _ _ _ _ _ _ _ _ _ _
      | exact ih3 _ _ _ _ _ _ _ _ _ _ _ _ _ _ _ _ _ _ _ _ _ _ _ _ _ _
      | exact ih4 _
      | exact corebankref34_Interest.mono _ _ _ _ _ _ _ _ _ _ _ _ _ _ _ _ _ _ _ _ _ _ _ _ _ _ _
      | exact corebankref34_Left.mono _ _ _ _ _ _ _ _ _ _ _ _ _ _ _ _ _ _ _ _ _ _ _ _ _ _
      | exact corebankref34_Principal.mono _ _ _ _ _ _ _ _ _ _ _ _ _ _ _ _ _ _ _ _ _ _ _ _ _ _ _
      | exact corebankref34_ranged.mono _ _ _ _ _ _ _ _ _ _ _ _ _ _ _ _ _ _ _ _ _ _ _ _ _ _
      | exact LeO.none _
      | refine LeO.ite ?_ ?_
      | refine LeO.bind ?_ (fun _ => ?_)
    · intro y0 y1 y2 y3 y4 y5 y6 y7 y8 y9 y10 y11 y12 y13 y14 y15 y16 y17 y18 y19 y20 y21 y22 y23 y24 y25
      unfold corebankref34_Check.j3
      repeat' first
      | (with_reducible exact ih0 _ _ _ _ _ _ _ _ _ _ _ _ _ _ _ _ _ _ _ _ _ _ _ _ _ _)
      | (with_reducible exact ih1 _ _ _ _ _ _ _ _ _ _ _ _ _ _ _ _ _ _ _ _ _ _ _ _ _ _ _)
      | (with_reducible exact ih2 _ _ _ _ _ _ _ _ _ _ _ _ _ _ _ _ _ _ _ _ _ _ _ _ _ _)
      | (with_reducible exact ih3 _ _ _ _ _ _ _ _ _ _ _ _ _ _ _ _ _ _ _ _ _ _ _ _ _ _)
      | (with_reducible exact ih4 _)
      | (with_reducible exact corebankref34_Interest.mono _ _ _ _ _ _ _ _ _ _ _ _ _ _ _ _ _ _ _ _ _ _ _ _ _ _ _)
      | (with_reducible exact corebankref34_Left.mono _ _ _ _ _ _ _ _ _ _ _ _ _ _ _ _ _ _ _ _ _ _ _ _ _ _)
      | (with_reducible exact corebankref34_Principal.mono _ _ _ _ _ _ _ _ _ _ _ _ _ _ _ _ _ _ _ _ _ _ _ _ _ _ _)
      | (with_reducible exact corebankref34_ranged.mono _ _ _ _ _ _ _ _ _ _ _ _ _ _ _ _ _ _ _ _ _ _ _ _ _ _)
      | (with_reducible exact LeO.refl _)
      | (with_reducible exact LeO.none _)
      | (with_reducible refine LeO.ite ?_ ?_)
      | (with_reducible refine LeO.bind ?_ (fun _ => ?_))
      | exact ih0 _ _ _ _ _ _ _ _ _ _ _ _ _ _ _ _ _ _ _ _ _ _ _ _ _ _
      | exact ih1 _ _ _ _ _ _ _ _ _ _ _ _ _ _ _ _ _ _ _ _ _ _ _ _ _ _ _
      | exact ih2 _ _ _ _ _ _ _ _ _ _ _ _ _ _ _ _ _ _ _ _ _ _ _ _ _ _
      | exact ih3 _ _ _ _ _ _ _ _ _ _ _ _ _ _ _ _ _ _ _ _ _ _ _ _ _ _
      | exact ih4 _
      | exact corebankref34_Interest.mono _ _ _ _ _ _ _ _ _ _ _ _ _ _ _ _ _ _ _ _ _ _ _ _ _ _ _
      | exact corebankref34_Left.mono _ _ _ _ _ _ _ _ _ _ _ _ _ _ _ _ _ _ _ _ _ _ _ _ _ _
      | exact corebankref34_Principal.mono _ _ _ _ _ _ _ _ _ _ _ _ _ _ _ _ _ _ _ _ _ _ _ _ _ _ _
      | exact corebankref34_ranged.mono _ _ _ _ _ _ _ _ _ _ _ _ _ _ _ _ _ _ _ _ _ _ _ _ _ _
      | exact LeO.none _
      | refine LeO.ite ?_ ?_
      | refine LeO.bind ?_ (fun _ => ?_)
    · intro y0
      unfold corebankref34_Check.j4
      repeat' first
      | (with_reducible exact ih0 _ _ _ _ _ _ _ _ _ _ _ _ _ _ _ _ _ _ _ _ _ _ _ _ _ _)
      | (with_reducible exact ih1 _ _ _ _ _ _ _ _ _ _ _ _ _ _ _ _ _ _ _ _ _ _ _ _ _ _ _)
      | (with_reducible exact ih2 _ _ _ _ _ _ _ _ _ _ _ _ _ _ _ _ _ _ _ _ _ _ _ _ _ _)
      | (with_reducible exact ih3 _ _ _ _ _ _ _ _ _ _ _ _ _ _ _ _ _ _ _ _ _ _ _ _ _ _)
      | (with_reducible exact ih4 _)
      | (with_reducible exact corebankref34_Interest.mono _ _ _ _ _ _ _ _ _ _ _ _ _ _ _ _ _ _ _ _ _ _ _ _ _ _ _)
      | (with_reducible exact corebankref34_Left.mono _ _ _ _ _ _ _ _ _ _ _ _ _ _ _ _ _ _ _ _ _ _ _ _ _ _)
      | (with_reducible exact corebankref34_Principal.mono _ _ _ _ _ _ _ _ _ _ _ _ _ _ _ _ _ _ _ _ _ _ _ _ _ _ _)
      | (with_reducible exact corebankref34_ranged.mono _ _ _ _ _ _ _ _ _ _ _ _ _ _ _ _ _ _ _ _ _ _ _ _ _ _)
      | (with_reducible exact LeO.refl _)
      | (with_reducible exact LeO.none _)
      | (with_reducible refine LeO.ite ?_ ?_)
      | (with_reducible refine LeO.bind ?_ (fun _ => ?_))
      | exact ih0 _ _ _ _ _ _ _ _ _ _ _ _ _ _ _ _ _ _ _ _ _ _ _ _ _ _
      | exact ih1 _ _ _ _ _ _ _ _ _ _ _ _ _ _ _ _ _ _ _ _ _ _ _ _ _ _ _
      | exact ih2 _ _ _ _ _ _ _ _ _ _ _ _ _ _ _ _ _ _ _ _ _ _ _ _ _ _
      | exact ih3 _ _ _ _ _ _ _ _ _ _ _ _ _ _ _ _ _ _ _ _ _ _ _ _ _ _
      | exact ih4 _
      | exact corebankref34_Interest.mono _ _ _ _ _ _ _ _ _ _ _ _ _ _ _ _ _ _ _ _ _ _ _ _ _ _ _
      | exact corebankref34_Left.mono _ _ _ _ _ _ _ _ _ _ _ _ _ _ _ _ _ _ _ _ _ _ _ _ _ _
      | exact corebankref34_Principal.mono _ _ _ _ _ _ _ _ _ _ _ _ _ _ _ _ _ _ _ _ _ _ _ _ _ _ _
      | exact corebankref34_ranged.mono _ _ _ _ _ _ _ _ _ _ _ _ _ _ _ _ _ _ _ _ _ _ _ _ _ _
      | exact LeO.none _
      | refine LeO.ite ?_ ?_
      | refine LeO.bind ?_ (fun _ => ?_)
theorem corebankref34_Check.mono : ∀ a0 a1 a2 a3 a4 a5 a6 a7 a8 a9 a10 a11 a12 a13 a14 a15 a16 a17 a18 a19 a20 a21 a22 a23 a24 k, LeO (corebankref34_Check.f k a0 a1 a2 a3 a4 a5 a6 a7 a8 a9 a10 a11 a12 a13 a14 a15 a16 a17 a18 a19 a20 a21 a22 a23 a24) (corebankref34_Check.f (k + 1) a0 a1 a2 a3 a4 a5 a6 a7 a8 a9 a10 a11 a12 a13 a14 a15 a16 a17 a18 a19 a20 a21 a22 a23 a24) := by
  intro a0 a1 a2 a3 a4 a5 a6 a7 a8 a9 a10 a11 a12 a13 a14 a15 a16 a17 a18 a19 a20 a21 a22 a23 a24 k
  obtain ⟨ih0, ih1, ih2, ih3, ih4⟩ := corebankref34_Check.mono_l k
  unfold corebankref34_Check.f
  repeat' first
      | (with_reducible exact ih0 _ _ _ _ _ _ _ _ _ _ _ _ _ _ _ _ _ _ _ _ _ _ _ _ _ _)
      | (with_reducible exact ih1 _ _ _ _ _ _ _ _ _ _ _ _ _ _ _ _ _ _ _ _ _ _ _ _ _ _ _)
      | (with_reducible exact ih2 _ _ _ _ _ _ _ _ _ _ _ _ _ _ _ _ _ _ _ _ _ _ _ _ _ _)
      | (with_reducible exact ih3 _ _ _ _ _ _ _ _ _ _ _ _ _ _ _ _ _ _ _ _ _ _ _ _ _ _)
      | (with_reducible exact ih4 _)
      | (with_reducible exact corebankref34_Interest.mono _ _ _ _ _ _ _ _ _ _ _ _ _ _ _ _ _ _ _ _ _ _ _ _ _ _ _)
      | (with_reducible exact corebankref34_Left.mono _ _ _ _ _ _ _ _ _ _ _ _ _ _ _ _ _ _ _ _ _ _ _ _ _ _)
      | (with_reducible exact corebankref34_Principal.mono _ _ _ _ _ _ _ _ _ _ _ _ _ _ _ _ _ _ _ _ _ _ _ _ _ _ _)
      | (with_reducible exact corebankref34_ranged.mono _ _ _ _ _ _ _ _ _ _ _ _ _ _ _ _ _ _ _ _ _ _ _ _ _ _)
      | (with_reducible exact LeO.refl _)
      | (with_reducible exact LeO.none _)
      | (with_reducible refine LeO.ite ?_ ?_)
      | (with_reducible refine LeO.bind ?_ (fun _ => ?_))
      | exact ih0 _ _ _ _ _ _ _ _ _ _ _ _ _ _ _ _ _ _ _ _ _ _ _ _ _ _
      | exact ih1 _ _ _ _ _ _ _ _ _ _ _ _ _ _ _ _ _ _ _ _ _ _ _ _ _ _ _
      | exact ih2 _ _ _ _ _ _ _ _ _ _ _ _ _ _ _ _ _ _ _ _ _ _ _ _ _ _
      | exact ih3 _ _ _ _ _ _ _ _ _ _ _ _ _ _ _ _ _ _ _ _ _ _ _ _ _ _
      | exact ih4 _
      | exact corebankref34_Interest.mono _ _ _ _ _ _ _ _ _ _ _ _ _ _ _ _ _ _ _ _ _ _ _ _ _ _ _
      | exact corebankref34_Left.mono _ _ _ _ _ _ _ _ _ _ _ _ _ _ _ _ _ _ _ _ _ _ _ _ _ _
      | exact corebankref34_Principal.mono _ _ _ _ _ _ _ _ _ _ _ _ _ _ _ _ _ _ _ _ _ _ _ _ _ _ _
      | exact corebankref34_ranged.mono _ _ _ _ _ _ _ _ _ _ _ _ _ _ _ _ _ _ _ _ _ _ _ _ _ _
      | exact LeO.none _
      | refine LeO.ite ?_ ?_
      | refine LeO.bind ?_ (fun _ => ?_)
def corebankref34_Check.T6 : Bool × List (List Nat × List Nat) := (true, [([], []), ([0], [0]), ([], []), ([1, 2], [1, 2]), ([3], [3]), ([4], [4]), ([], []), ([6], [6]), ([5, 7], [5, 7]), ([8], [8]), ([9], [9]), ([10, 9], [9, 10]), ([11, 9, 9], [9, 11]), ([12], [12]), ([13, 12], [12, 13]), ([12], [12]), ([14, 15, 12], [12, 14, 15]), ([16, 12], [12, 16]), ([17, 12], [12, 17]), ([12], [12]), ([19, 12], [12, 19]), ([12], [12]), ([21, 12], [12, 21]), ([20, 22, 12], [12, 20, 22]), ([23, 12], [12, 23]), ([24, 12], [12, 24]), ([18, 25, 12], [12, 18, 25]), ([12, 26, 9], [9, 12, 26]), ([9, 27], [9, 27])])
def corebankref34_Check.B6 : List Nat := [0, 1, 0, 7, 15, 31, 0, 64, 255, 511, 1023, 2047, 4095, 8191, 16383, 8191, 65535, 131071, 262143, 8191, 532479, 8191, 2105343, 7872511, 16261119, 33038335, 67108863, 134217727, 268435455]
theorem corebankref34_Check.tab6 : rtab .any (opsOf Tryd.f8 6) = corebankref34_Check.T6 := by kernel_rfl
theorem corebankref34_Check.bits6 : waitsOk corebankref34_Check.T6.2 corebankref34_Check.B6 = true := by kernel_rfl
def corebankref34_Check.T8 : Bool × List (List Nat × List Nat) := (true, [([], []), ([0], [0]), ([], []), ([2], [2]), ([1, 3], [1, 3]), ([4, 3], [4]), ([5], [5]), ([6, 5], [5, 6]), ([5], [5]), ([8, 5, 5], [5, 8]), ([7, 9, 5], [5, 7, 9]), ([5, 10], [5, 10]), ([11, 9], [11]), ([12], [12]), ([13, 12], [12, 13]), ([12], [12]), ([15, 12], [12, 15]), ([14, 16, 12], [12, 14, 16]), ([12, 17], [12, 17])])
def corebankref34_Check.B8 : List Nat := [0, 1, 0, 4, 15, 31, 63, 127, 63, 319, 1023, 2047, 4095, 8191, 16383, 8191, 40959, 131071, 262143]
theorem corebankref34_Check.tab8 : rtab .any (opsOf Tryd.f8 8) = corebankref34_Check.T8 := by kernel_rfl
theorem corebankref34_Check.bits8 : waitsOk corebankref34_Check.T8.2 corebankref34_Check.B8 = true := by kernel_rfl
def corebankref34_Check.T10 : Bool × List (List Nat × List Nat) := (true, [([], []), ([0], [0]), ([1], [1]), ([2], [2]), ([3], [3]), ([4], [4]), ([5, 4, 4], [4, 5]), ([4], [4]), ([7, 4], [4, 7]), ([8, 4], [4, 8]), ([6, 9, 4], [4, 6, 9]), ([4, 10], [4, 10]), ([11, 6], [11]), ([12], [12]), ([13, 12], [12, 13]), ([14, 12], [12, 14]), ([15, 12, 12], [12, 15]), ([16], [16]), ([17, 16, 16], [16, 17]), ([16], [16]), ([19, 16], [16, 19]), ([20, 16], [16, 20]), ([18, 21, 16], [16, 18, 21]), ([16, 22, 12], [12, 16, 22]), ([12, 23], [12, 23])])
def corebankref34_Check.B10 : List Nat := [0, 1, 3, 7, 15, 31, 63, 31, 159, 415, 1023, 2047, 4095, 8191, 16383, 32767, 65535, 131071, 262143, 131071, 655359, 1703935, 4194303, 8388607, 16777215]
theorem corebankref34_Check.tab10 : rtab .any (opsOf Tryd.f8 10) = corebankref34_Check.T10 := by kernel_rfl
theorem corebankref34_Check.bits10 : waitsOk corebankref34_Check.T10.2 corebankref34_Check.B10 = true := by kernel_rfl
set_option maxHeartbeats 8000000 in
set_option maxRecDepth 100000 in
theorem corebankref34_Check.calls (k : Nat) (a0_0 : Int) (a0_1 : Int) (a0_2 : Int) (a0_3 : Int) (a0_4 : Int) (a0_5 : Int) (a0_6 : Int) (a0_7 : Int) (a0_8 : Int) (a0_9 : Int) (a0_10 : Int) (a0_11 : Int) (a0_12 : Int) (a0_13 : Int) (a0_14 : Int) (a0_15 : Int) (a0_16 : Int) (a0_17 : Int) (a0_18 : Int) (a0_19 : Int) (a0_20 : Int) (a0_21 : ByteArray) (a0_22 : ByteArray) (A0_23 : Option Addr) (c0_23 : Nat) (l0_23 : List (S43)) (A0_24 : Option Addr) (c0_24 : Nat) (l0_24 : List (S59)) (r : Int) (w : World) (hr0_23 : Kd.C k43 w A0_23 l0_23.length l0_23) (hc0_23 : l0_23.length ≤ c0_23) (hr0_24 : Kd.C k59 w A0_24 l0_24.length l0_24) (hc0_24 : l0_24.length ≤ c0_24) (h : corebankref34_Check.f k a0_0 a0_1 a0_2 a0_3 a0_4 a0_5 a0_6 a0_7 a0_8 a0_9 a0_10 a0_11 a0_12 a0_13 a0_14 a0_15 a0_16 a0_17 a0_18 a0_19 a0_20 a0_21 a0_22 l0_23 l0_24 = some r) :
  Calls Tryd.prog 8 #[.agg #[.int .i64 a0_0, .int .i64 a0_1, .int .i64 a0_2, .int .i64 a0_3, .int .i64 a0_4, .int .i64 a0_5, .int .i64 a0_6, .int .i64 a0_7, .int .i64 a0_8, .int .i64 a0_9, .int .i64 a0_10, .int .i64 a0_11, .int .i64 a0_12, .int .i64 a0_13, .int .i64 a0_14, .int .i64 a0_15, .int .i64 a0_16, .int .i64 a0_17, .int .i64 a0_18, .int .i64 a0_19, .int .i64 a0_20, .string a0_21, .string a0_22, .slice A0_23 l0_23.length c0_23, .slice A0_24 l0_24.length c0_24]] w fun e w' => e = .returned (.int .i64 r) ∧ Below w.heap.size w w' := by
 have hu27 := Tryd.underlying27
 have HR0_23 := Aside0.mk hr0_23
 have HC0_23 := Aside0.mk hc0_23
 clear hr0_23 hc0_23
 have HR0_24 := Aside0.mk hr0_24
 have HC0_24 := Aside0.mk hc0_24
 clear hr0_24 hc0_24
 have HB := Aside0.mk (Below.refl w.heap.size w)
 have H : ((corebankref34_ranged.f k a0_0 a0_1 a0_2 a0_3 a0_4 a0_5 a0_6 a0_7 a0_8 a0_9 a0_10 a0_11 a0_12 a0_13 a0_14 a0_15 a0_16 a0_17 a0_18 a0_19 a0_20 a0_21 a0_22 l0_23 l0_24).bind fun t125 => (if t125 = true then (corebankref34_Check.l0 k 0 a0_0 a0_1 a0_2 a0_3 a0_4 a0_5 a0_6 a0_7 a0_8 a0_9 a0_10 a0_11 a0_12 a0_13 a0_14 a0_15 a0_16 a0_17 a0_18 a0_19 a0_20 a0_21 a0_22 l0_23 l0_24) else (some 1))) = some r := h
 clear h
 replace H := Option.bind_eq_some_iff.mp H
 obtain ⟨t125, A20, H⟩ := H
 replace H : (if t125 = true then (corebankref34_Check.l0 k 0 a0_0 a0_1 a0_2 a0_3 a0_4 a0_5 a0_6 a0_7 a0_8 a0_9 a0_10 a0_11 a0_12 a0_13 a0_14 a0_15 a0_16 a0_17 a0_18 a0_19 a0_20 a0_21 a0_22 l0_23 l0_24) else (some 1)) = some r := H
 have A2 := Aside0.mk A20
 clear A20
 by_cases c3 : t125 = true
 ·subst c3
  have H1 : (corebankref34_Check.l0 k 0 a0_0 a0_1 a0_2 a0_3 a0_4 a0_5 a0_6 a0_7 a0_8 a0_9 a0_10 a0_11 a0_12 a0_13 a0_14 a0_15 a0_16 a0_17 a0_18 a0_19 a0_20 a0_21 a0_22 l0_23 l0_24) = some r := by rw [if_pos rfl] at H; exact H
  clear H
  have H := H1
  clear H1
  have H' := Aside0.mk H
  clear H
  go_enter Tryd.func8, Tryd.ntmps8
  go_wp2_with (first | ((with_reducible refine gate_ld (ty := 27) rfl ?_); apply ldB (qu := Tryd.underlying27); rfl; rfl; rfl; (first | with_reducible exact BK124 | (apply Aside0.mk; apply blk_seq; (focus ((repeat (with_reducible first | exact BK124.out | apply blk_drewN | apply blk_drew | apply blk_alloc | apply blk_set)); done)); (first | (simp only [zS, zC, zD]; with_reducible rfl) | with_reducible rfl))); rfl; exact siz27) | ((with_reducible refine gate_st (ty := 27) rfl ?_); apply stB25 (qi := siz27); rfl; rfl; rfl; rfl; (apply Exists.intro; apply Exists.intro; apply And.intro; (focus ((repeat (with_reducible first | exact BK124.out | apply blk_drewN | apply blk_drew | apply blk_alloc | apply blk_set)); done)); (first | (simp only [Array.size_setIfInBounds]; rfl) | rfl)); rfl) | ((with_reducible refine gate_dst (N := 1) rfl ?_); refine box_event ?hg (N := 1) ?hd (cs := #[.int .i64 a0_0, .int .i64 a0_1, .int .i64 a0_2, .int .i64 a0_3, .int .i64 a0_4, .int .i64 a0_5, .int .i64 a0_6, .int .i64 a0_7, .int .i64 a0_8, .int .i64 a0_9, .int .i64 a0_10, .int .i64 a0_11, .int .i64 a0_12, .int .i64 a0_13, .int .i64 a0_14, .int .i64 a0_15, .int .i64 a0_16, .int .i64 a0_17, .int .i64 a0_18, .int .i64 a0_19, .int .i64 a0_20, .string a0_21, .string a0_22, .slice A0_23 l0_23.length c0_23, .slice A0_24 l0_24.length c0_24]) (t := 27) ?hr ?_; (case hd => rfl); (case hg => rfl); (case hr => first | (go_simp; done) | (go_simp; rfl)); intro gb124 hg w4 hbox hb; have n0_ := Aside0.mk (below_step (by repeat (with_reducible first | exact HB.out | apply below_alloc | apply pw_below_drewN | apply below_drew1)) hb); have n1_ := Aside0.mk (hbox); have n2_ := Aside0.mk ((by rw [hg]; exact (below_size (by repeat (with_reducible first | exact HB.out | apply below_alloc | apply pw_below_drewN | apply below_drew1))) : w.heap.size ≤ gb124)); have n3_ := n2_; clear HB; have HB := n0_; have BK124 := n1_; have GW124 := n2_; have GE124 := n3_; clear n0_ n1_ n2_ n3_; clear hb hbox hg; have hcz5 := bk25 BK124.out; have hfz5 := blk_frozen BK124.out) | ((with_reducible refine gate_callee (f := 18) rfl ?_); refine goesL_ (some 5) rfl rfl Tryd.func18 (by kernel_rfl) rfl #[.agg #[.int .i64 a0_0, .int .i64 a0_1, .int .i64 a0_2, .int .i64 a0_3, .int .i64 a0_4, .int .i64 a0_5, .int .i64 a0_6, .int .i64 a0_7, .int .i64 a0_8, .int .i64 a0_9, .int .i64 a0_10, .int .i64 a0_11, .int .i64 a0_12, .int .i64 a0_13, .int .i64 a0_14, .int .i64 a0_15, .int .i64 a0_16, .int .i64 a0_17, .int .i64 a0_18, .int .i64 a0_19, .int .i64 a0_20, .string a0_21, .string a0_22, .slice A0_23 l0_23.length c0_23, .slice A0_24 l0_24.length c0_24]] rfl (by (try simp only [List.map_toArray, List.map_cons, List.map_nil]); first | done | rfl | (simp only [List.length_drop, List.length_take]; rfl)) ?_; (with_reducible refine (corebankref34_ranged.calls k a0_0 a0_1 a0_2 a0_3 a0_4 a0_5 a0_6 a0_7 a0_8 a0_9 a0_10 a0_11 a0_12 a0_13 a0_14 a0_15 a0_16 a0_17 a0_18 a0_19 a0_20 a0_21 a0_22 _ _ l0_23 _ _ l0_24 true _ ?side1 ?side2 ?side3 ?side4 A2.out).mono ?_); (case side1 => repeat (first | exact (Kd.C_below HR0_23.out HB.out) | (with_reducible refine Kd.C_alloc ?_ _) | (with_reducible refine Kd.C_drewN ?_ _) | (with_reducible refine Kd.C_drew ?_))); (case side2 => exact HC0_23.out); (case side3 => repeat (first | exact (Kd.C_below HR0_24.out HB.out) | (with_reducible refine Kd.C_alloc ?_ _) | (with_reducible refine Kd.C_drewN ?_ _) | (with_reducible refine Kd.C_drew ?_))); (case side4 => exact HC0_24.out); rintro e w6 ⟨rfl, hb⟩; refine ⟨_, rfl, ?_⟩; have n0_ := Aside0.mk (blk_below (g := gb124) (by (with_reducible repeat (first | refine blk_drewN ?_ _ | refine blk_drew ?_ | refine blk_alloc ?_ _)); exact BK124.out) hb); have n1_ := Aside0.mk (below_step (by repeat (with_reducible first | exact HB.out | apply below_alloc | apply pw_below_drewN | apply below_drew1 | refine below_set ?_ GE124.out)) hb); clear BK124; clear HB; have BK124 := n0_; have HB := n1_; clear n0_ n1_; (try clear hb); (try clear hb2); (try clear hk); (try clear hi)))
  go_loopg [3] k (fun kq v3 w' => ∃ (x3_1 : Int), v3 = .int .i64 x3_1 ∧ Aside0 (corebankref34_Check.l0 kq x3_1 a0_0 a0_1 a0_2 a0_3 a0_4 a0_5 a0_6 a0_7 a0_8 a0_9 a0_10 a0_11 a0_12 a0_13 a0_14 a0_15 a0_16 a0_17 a0_18 a0_19 a0_20 a0_21 a0_22 l0_23 l0_24 = some r) ∧ Aside0 (kq ≤ k) ∧ Aside0 (w'.heap[gb124]? = some (.cells #[.int .i64 a0_0, .int .i64 a0_1, .int .i64 a0_2, .int .i64 a0_3, .int .i64 a0_4, .int .i64 a0_5, .int .i64 a0_6, .int .i64 a0_7, .int .i64 a0_8, .int .i64 a0_9, .int .i64 a0_10, .int .i64 a0_11, .int .i64 a0_12, .int .i64 a0_13, .int .i64 a0_14, .int .i64 a0_15, .int .i64 a0_16, .int .i64 a0_17, .int .i64 a0_18, .int .i64 a0_19, .int .i64 a0_20, .string a0_21, .string a0_22, (.slice A0_23 l0_23.length c0_23), (.slice A0_24 l0_24.length c0_24)] 27 (0, 0))) ∧ Aside0 (Below w.heap.size w w'))
  case atStart => exact ⟨(0), (by first | rfl | (simp [*]; done)), H', ⟨Nat.le_refl _⟩, ⟨by (with_reducible repeat (first | refine blk_drewN ?_ _ | refine blk_drew ?_ | refine blk_alloc ?_ _)); exact BK124.out⟩, ⟨by repeat (with_reducible first | exact HB.out | apply below_alloc | apply pw_below_drewN | apply below_drew1 | refine below_set ?_ GE124.out)⟩⟩
  case round =>
   clear H'
   try clear c1
   try clear p2
   try clear c3
   try clear hcz5
   try clear hfz5
   obtain ⟨x3_1, rfl, HA, HK1, BK124, HB⟩ := hrel
   cases gk with
   | zero => exact absurd HA.out (by simp [corebankref34_Check.l0])
   | succ k1 =>
    have H := HA.out
    clear HA
    simp only [corebankref34_Check.l0] at H
    by_cases c7 : x3_1 < (l0_23.length : Int)
    ·rw [if_pos c7] at H
     have c7b0 : decide (x3_1 < (l0_23.length : Int)) = true := decide_eq_true c7
     clear c7
     have HC8 := Aside0.mk H
     clear H
     have hcz9 := bk25 BK124.out
     have hfz9 := blk_frozen BK124.out
     go_upto_region 6 with (fail)
     go_cut [42] (fun v42 wc => ∃ (kq : Nat) (x42_7 : Bool), v42 = .bool x42_7 ∧ Aside0 (corebankref34_Check.j1 kq x3_1 x42_7 a0_0 a0_1 a0_2 a0_3 a0_4 a0_5 a0_6 a0_7 a0_8 a0_9 a0_10 a0_11 a0_12 a0_13 a0_14 a0_15 a0_16 a0_17 a0_18 a0_19 a0_20 a0_21 a0_22 l0_23 l0_24 = some r) ∧ Aside0 (kq ≤ k1) ∧ Aside0 (wc.heap[gb124]? = some (.cells #[.int .i64 a0_0, .int .i64 a0_1, .int .i64 a0_2, .int .i64 a0_3, .int .i64 a0_4, .int .i64 a0_5, .int .i64 a0_6, .int .i64 a0_7, .int .i64 a0_8, .int .i64 a0_9, .int .i64 a0_10, .int .i64 a0_11, .int .i64 a0_12, .int .i64 a0_13, .int .i64 a0_14, .int .i64 a0_15, .int .i64 a0_16, .int .i64 a0_17, .int .i64 a0_18, .int .i64 a0_19, .int .i64 a0_20, .string a0_21, .string a0_22, (.slice A0_23 l0_23.length c0_23), (.slice A0_24 l0_24.length c0_24)] 27 (0, 0))) ∧ Aside0 (Below w.heap.size w wc))
     case first =>
      have H := HC8.out
      clear HC8
      by_cases c10 : 0 ≤ x3_1
      ·rw [if_pos c10] at H
       have c10b0 : decide (0 ≤ x3_1) = true := decide_eq_true c10
       clear c10
       (first | rw [c10b0] | (simp only [i64_w, i32_w]; rw [c10b0]) | skip)
       by_cases c11 : ((rd_T43 l0_23 x3_1).f0) = (wrap64 (x3_1 + 1))
       ·rw [if_pos c11] at H
        have c11b0 : (((rd_T43 l0_23 x3_1).f0) == (wrap64 (x3_1 + 1))) = true := beq_iff_eq.mpr c11
        have c11b1 : (((rd_T43 l0_23 x3_1).f0) != (wrap64 (x3_1 + 1))) = false := bne_eq_false_iff_eq.mpr c11
        clear c11
        by_cases c12 : x3_1 > 0
        ·rw [if_pos c12] at H
         have c12b0 : decide (0 < x3_1) = true := decide_eq_true c12
         clear c12
         obtain ⟨ji13, hji13⟩ : ∃ j_ : Int, (wrap64 (x3_1 - 1)) = j_ := ⟨_, rfl⟩
         replace H : (if 0 ≤ (ji13) then (if (ji13) < (l0_23.length : Int) then (corebankref34_Check.j1 k1 x3_1 (decide (((rd_T43 l0_23 x3_1).f1) < ((rd_T43 l0_23 (ji13)).f1))) a0_0 a0_1 a0_2 a0_3 a0_4 a0_5 a0_6 a0_7 a0_8 a0_9 a0_10 a0_11 a0_12 a0_13 a0_14 a0_15 a0_16 a0_17 a0_18 a0_19 a0_20 a0_21 a0_22 l0_23 l0_24) else (none)) else (none)) = some r := by first | (rw [hji13] at H; exact H) | (simp only [hji13] at H ⊢; exact H)
         have hji13w : (IntKind.i64.wrap (x3_1 - 1)) = ji13 := (i64_w _).trans hji13
         by_cases c14 : 0 ≤ (ji13)
         ·rw [if_pos c14] at H
          have c14b0 : decide (0 ≤ (ji13)) = true := decide_eq_true c14
          clear c14
          by_cases c15 : (ji13) < (l0_23.length : Int)
          ·rw [if_pos c15] at H
           have c15b0 : decide ((ji13) < (l0_23.length : Int)) = true := decide_eq_true c15
           clear c15
           have H' := Aside0.mk H
           clear H
           try go_wp2_with (first | ((with_reducible refine gate_ld (ty := 27) rfl ?_); apply ldB (qu := Tryd.underlying27); rfl; rfl; rfl; (first | with_reducible exact BK124 | (apply Aside0.mk; apply blk_seq; (focus ((repeat (with_reducible first | exact BK124.out | apply blk_drewN | apply blk_drew | apply blk_alloc | apply blk_set)); done)); (first | (simp only [zS, zC, zD]; with_reducible rfl) | with_reducible rfl))); rfl; exact siz27) | ((with_reducible refine gate_st (ty := 27) rfl ?_); apply stB25 (qi := siz27); rfl; rfl; rfl; rfl; (apply Exists.intro; apply Exists.intro; apply And.intro; (focus ((repeat (with_reducible first | exact BK124.out | apply blk_drewN | apply blk_drew | apply blk_alloc | apply blk_set)); done)); (first | (simp only [Array.size_setIfInBounds]; rfl) | rfl)); rfl))
           have n0_ := Aside0.mk (blk_drew BK124.out)
           have n1_ := Aside0.mk (below_drew1 HB.out)
           clear BK124
           clear HB
           have BK124 := n0_
           have HB := n1_
           clear n0_ n1_
           have p126 : 0 ≤ (x3_1 : Int) := of_decide_eq_true (by assumption)
           have q126 : x3_1 < (l0_23.length : Int) := of_decide_eq_true (by assumption)
           obtain ⟨ad126, e126, hx126_0, hx126_1, hx126_2, hx126_3⟩ := at_T43 HR0_23.out x3_1 p126 q126
           have hw126_3 := hx126_3
           have hw126_2 := hx126_2
           have hw126_1 := hx126_1
           have hw126_0 := hx126_0
           cases e126
           replace hx126_0 := (HB.out.cell (World.block_lt_of_cell? w _ hx126_0)).trans hx126_0
           replace hx126_1 := (HB.out.cell (World.block_lt_of_cell? w _ hx126_1)).trans hx126_1
           replace hx126_2 := (HB.out.cell (World.block_lt_of_cell? w _ hx126_2)).trans hx126_2
           replace hx126_3 := (HB.out.cell (World.block_lt_of_cell? w _ hx126_3)).trans hx126_3
           replace p126 := eq_true p126
           replace q126 := eq_true q126
           have p127 : 0 ≤ (x3_1 : Int) := of_decide_eq_true (by assumption)
           have q127 : x3_1 < (l0_23.length : Int) := of_decide_eq_true (by assumption)
           obtain ⟨ad127, e127, hx127_0, hx127_1, hx127_2, hx127_3⟩ := at_T43 HR0_23.out x3_1 p127 q127
           have hw127_3 := hx127_3
           have hw127_2 := hx127_2
           have hw127_1 := hx127_1
           have hw127_0 := hx127_0
           obtain rfl : ad126 = ad127 := (by injection e127)
           replace hx127_0 := (HB.out.cell (World.block_lt_of_cell? w _ hx127_0)).trans hx127_0
           replace hx127_1 := (HB.out.cell (World.block_lt_of_cell? w _ hx127_1)).trans hx127_1
           replace hx127_2 := (HB.out.cell (World.block_lt_of_cell? w _ hx127_2)).trans hx127_2
           replace hx127_3 := (HB.out.cell (World.block_lt_of_cell? w _ hx127_3)).trans hx127_3
           replace p127 := eq_true p127
           replace q127 := eq_true q127
           have p128 : 0 ≤ ((ji13) : Int) := of_decide_eq_true (by assumption)
           have q128 : (ji13) < (l0_23.length : Int) := of_decide_eq_true (by assumption)
           obtain ⟨ad128, e128, hx128_0, hx128_1, hx128_2, hx128_3⟩ := at_T43 HR0_23.out (ji13) p128 q128
           have hw128_3 := hx128_3
           have hw128_2 := hx128_2
           have hw128_1 := hx128_1
           have hw128_0 := hx128_0
           obtain rfl : ad126 = ad128 := (by injection e128)
           replace hx128_0 := (HB.out.cell (World.block_lt_of_cell? w _ hx128_0)).trans hx128_0
           replace hx128_1 := (HB.out.cell (World.block_lt_of_cell? w _ hx128_1)).trans hx128_1
           replace hx128_2 := (HB.out.cell (World.block_lt_of_cell? w _ hx128_2)).trans hx128_2
           replace hx128_3 := (HB.out.cell (World.block_lt_of_cell? w _ hx128_3)).trans hx128_3
           replace p128 := eq_true p128
           replace q128 := eq_true q128
           refine start_ (n := 29) (S := fun w' => CBL w' gb124 [.int .i64 a0_0, .int .i64 a0_1, .int .i64 a0_2, .int .i64 a0_3, .int .i64 a0_4, .int .i64 a0_5, .int .i64 a0_6, .int .i64 a0_7, .int .i64 a0_8, .int .i64 a0_9, .int .i64 a0_10, .int .i64 a0_11, .int .i64 a0_12, .int .i64 a0_13, .int .i64 a0_14, .int .i64 a0_15, .int .i64 a0_16, .int .i64 a0_17, .int .i64 a0_18, .int .i64 a0_19, .int .i64 a0_20, .string a0_21, .string a0_22, .slice (some ad126) l0_23.length c0_23, .slice A0_24 l0_24.length c0_24] ∧ w'.cell? (ad126.add ((x3_1).toNat * 4)) = some (.int .i64 ((rd_T43 l0_23 x3_1).f0)) ∧ w'.cell? ⟨(ad126.add ((x3_1).toNat * 4)).block, (ad126.add ((x3_1).toNat * 4)).off + 1, none⟩ = some (.int .i64 ((rd_T43 l0_23 x3_1).f1)) ∧ w'.cell? ⟨(ad126.add ((x3_1).toNat * 4)).block, (ad126.add ((x3_1).toNat * 4)).off + 2, none⟩ = some (.int .i64 ((rd_T43 l0_23 x3_1).f2)) ∧ w'.cell? ⟨(ad126.add ((x3_1).toNat * 4)).block, (ad126.add ((x3_1).toNat * 4)).off + 3, none⟩ = some (.int .i64 ((rd_T43 l0_23 x3_1).f3)) ∧ w'.cell? (ad126.add ((x3_1).toNat * 4)) = some (.int .i64 ((rd_T43 l0_23 x3_1).f0)) ∧ w'.cell? ⟨(ad126.add ((x3_1).toNat * 4)).block, (ad126.add ((x3_1).toNat * 4)).off + 1, none⟩ = some (.int .i64 ((rd_T43 l0_23 x3_1).f1)) ∧ w'.cell? ⟨(ad126.add ((x3_1).toNat * 4)).block, (ad126.add ((x3_1).toNat * 4)).off + 2, none⟩ = some (.int .i64 ((rd_T43 l0_23 x3_1).f2)) ∧ w'.cell? ⟨(ad126.add ((x3_1).toNat * 4)).block, (ad126.add ((x3_1).toNat * 4)).off + 3, none⟩ = some (.int .i64 ((rd_T43 l0_23 x3_1).f3)) ∧ w'.cell? (ad126.add (((ji13)).toNat * 4)) = some (.int .i64 ((rd_T43 l0_23 (ji13)).f0)) ∧ w'.cell? ⟨(ad126.add (((ji13)).toNat * 4)).block, (ad126.add (((ji13)).toNat * 4)).off + 1, none⟩ = some (.int .i64 ((rd_T43 l0_23 (ji13)).f1)) ∧ w'.cell? ⟨(ad126.add (((ji13)).toNat * 4)).block, (ad126.add (((ji13)).toNat * 4)).off + 2, none⟩ = some (.int .i64 ((rd_T43 l0_23 (ji13)).f2)) ∧ w'.cell? ⟨(ad126.add (((ji13)).toNat * 4)).block, (ad126.add (((ji13)).toNat * 4)).off + 3, none⟩ = some (.int .i64 ((rd_T43 l0_23 (ji13)).f3))) (ds := []) zb9_0 (by kernel_rfl) rfl rfl ⟨cblk BK124.out, ((HB.out.cell (World.block_lt_of_cell? w _ hw126_0)).trans hw126_0), ((HB.out.cell (World.block_lt_of_cell? w _ hw126_1)).trans hw126_1), ((HB.out.cell (World.block_lt_of_cell? w _ hw126_2)).trans hw126_2), ((HB.out.cell (World.block_lt_of_cell? w _ hw126_3)).trans hw126_3), ((HB.out.cell (World.block_lt_of_cell? w _ hw127_0)).trans hw127_0), ((HB.out.cell (World.block_lt_of_cell? w _ hw127_1)).trans hw127_1), ((HB.out.cell (World.block_lt_of_cell? w _ hw127_2)).trans hw127_2), ((HB.out.cell (World.block_lt_of_cell? w _ hw127_3)).trans hw127_3), ((HB.out.cell (World.block_lt_of_cell? w _ hw128_0)).trans hw128_0), ((HB.out.cell (World.block_lt_of_cell? w _ hw128_1)).trans hw128_1), ((HB.out.cell (World.block_lt_of_cell? w _ hw128_2)).trans hw128_2), ((HB.out.cell (World.block_lt_of_cell? w _ hw128_3)).trans hw128_3)⟩ (fun hHeld => ?_); refine with_tabW corebankref34_Check.tab6 corebankref34_Check.bits6 (fun HT_ HW_ => ?_)
           generalize wr.drew = w16 at BK124 HB hx126_0 hx126_1 hx126_2 hx126_3 hx127_0 hx127_1 hx127_2 hx127_3 hx128_0 hx128_1 hx128_2 hx128_3 hHeld ⊢
           refine pW 0 14 zb9_1 HT_.out ?_
           refine pW 2 16 zb9_2 HT_.out ?_
           refine pW 6 20 zb9_3 HT_.out ?_
           refine pW 7 21 zb9_4 HT_.out ?_
           refine take_ (i := 1) (N := some 15) (v := ?_) (a' := ?_) zb9_5 rfl rfl (take_ofW HT_.out HW_.out (by kernel_rfl)) (fun _ _ _ h => h) (Or.inl ⟨by rfl, ?_⟩) hHeld ?_ ?_
           rotate_left
           ·rintro w' ⟨s0, s1, s2, s3, s4, s5, s6, s7, s8, s9, s10, s11, s12⟩
            first
            | (refine ldS (x := ?_) ?_ ?_ s0 Tryd.underlying27 rfl siz27; rotate_left; rfl; rfl)
            | (have s0_ := cb25 s0; go_simp; with_reducible rfl)
           rotate_left
           ·simp only [Act.put, List.setIfInBounds_toArray, List.set_cons_zero, List.set_cons_succ, i64_w, i32_w]
            rfl
           refine pW 3 17 zb9_6 HT_.out ?_
           refine pW 4 18 zb9_7 HT_.out ?_
           refine take_ (i := 5) (N := some 19) (v := ?_) (a' := ?_) zb9_8 rfl rfl (take_ofW HT_.out HW_.out (by kernel_rfl)) (fun _ _ _ h => h) (Or.inl ⟨by rfl, ?_⟩) hHeld ?_ ?_
           rotate_left
           ·rintro w' ⟨s0, s1, s2, s3, s4, s5, s6, s7, s8, s9, s10, s11, s12⟩
            first
            | (refine ldS (x := ?_) ?_ ?_ s0 Tryd.underlying27 rfl siz27; rotate_left; rfl; rfl)
            | (have s0_ := cb25 s0; go_simp; with_reducible rfl)
           rotate_left
           ·simp only [Act.put, List.setIfInBounds_toArray, List.set_cons_zero, List.set_cons_succ, i64_w, i32_w]
            rfl
           refine pW 8 22 zb9_9 HT_.out ?_
           refine pW 9 23 zb9_10 HT_.out ?_
           refine pW 10 24 zb9_11 HT_.out ?_
           refine pW 11 25 zb9_12 HT_.out ?_
           refine pW 12 26 zb9_13 HT_.out ?_
           refine pW 13 27 zb9_14 HT_.out ?_
           refine pW 15 29 (bz 29 49151) HT_.out ?_
           refine pW 19 33 (bz 29 573439) HT_.out ?_
           refine pW 21 35 (bz 29 2670591) HT_.out ?_
           refine pW 22 36 (bz 29 6864895) HT_.out ?_
           refine take_ (i := 14) (N := some 28) (v := ?_) (a' := ?_) (bz 29 6881279) rfl rfl (take_ofW HT_.out HW_.out (by kernel_rfl)) (fun _ _ _ h => h) (Or.inl ⟨by rfl, ?_⟩) hHeld ?_ ?_
           rotate_left
           ·rintro w' ⟨s0, s1, s2, s3, s4, s5, s6, s7, s8, s9, s10, s11, s12⟩
            first
            | (refine ldS (x := ?_) ?_ ?_ s0 Tryd.underlying27 rfl siz27; rotate_left; rfl; rfl)
            | (have s0_ := cb25 s0; go_simp; with_reducible rfl)
           rotate_left
           ·simp only [Act.put, List.setIfInBounds_toArray, List.set_cons_zero, List.set_cons_succ, i64_w, i32_w]
            rfl
           refine pW 16 30 (bz 29 6946815) HT_.out ?_
           refine pW 17 31 (bz 29 7077887) HT_.out ?_
           refine take_ (i := 18) (N := some 32) (v := ?_) (a' := ?_) (bz 29 7340031) rfl rfl (take_ofW HT_.out HW_.out (by kernel_rfl)) (fun _ _ _ h => h) (Or.inl ⟨by rfl, ?_⟩) hHeld ?_ ?_
           rotate_left
           ·rintro w' ⟨s0, s1, s2, s3, s4, s5, s6, s7, s8, s9, s10, s11, s12⟩
            first
            | (refine ldS (x := ?_) ?_ ?_ s0 Tryd.underlying27 rfl siz27; rotate_left; rfl; rfl)
            | (have s0_ := cb25 s0; go_simp; with_reducible rfl)
           rotate_left
           ·simp only [Act.put, List.setIfInBounds_toArray, List.set_cons_zero, List.set_cons_succ, i64_w, i32_w]
            rfl
           refine take_ (i := 20) (N := some 34) (v := ?_) (a' := ?_) zb9_15 rfl rfl (take_ofW HT_.out HW_.out (by kernel_rfl)) (fun _ _ _ h => h) (Or.inl ⟨by rfl, ?_⟩) hHeld ?_ ?_
           rotate_left
           ·rintro w' ⟨s0, s1, s2, s3, s4, s5, s6, s7, s8, s9, s10, s11, s12⟩
            first
            | (refine ldS (x := ?_) ?_ ?_ s0 Tryd.underlying27 rfl siz27; rotate_left; rfl; rfl)
            | (have s0_ := cb25 s0; go_simp; with_reducible rfl)
           rotate_left
           ·simp only [Act.put, List.setIfInBounds_toArray, List.set_cons_zero, List.set_cons_succ, i64_w, i32_w]
            rfl
           refine pW 23 37 zb9_16 HT_.out ?_
           refine pW 24 38 zb9_17 HT_.out ?_
           refine take_ (i := 25) (N := some 39) (v := ?_) (a' := ?_) zb9_18 rfl rfl (take_ofW HT_.out HW_.out (by kernel_rfl)) (fun _ _ _ h => h) (Or.inl ⟨by rfl, ?_⟩) hHeld ?_ ?_
           rotate_left
           ·rintro w' ⟨s0, s1, s2, s3, s4, s5, s6, s7, s8, s9, s10, s11, s12⟩
            first
            | (refine ldS (x := ?_) ?_ ?_ s0 Tryd.underlying27 rfl siz27; rotate_left; rfl; rfl)
            | (have s0_ := cb25 s0; go_simp; with_reducible rfl)
           rotate_left
           ·simp only [Act.put, List.setIfInBounds_toArray, List.set_cons_zero, List.set_cons_succ, i64_w, i32_w]
            rfl
           refine pW 26 40 zb9_19 HT_.out ?_
           refine pW 27 41 zb9_20 HT_.out ?_
           refine pW 28 42 zb9_21 HT_.out ?_
           refine done_ (done_of HT_.out (by kernel_rfl)) ?_
           try go_wp2_with (first | ((with_reducible refine gate_ld (ty := 27) rfl ?_); apply ldB (qu := Tryd.underlying27); rfl; rfl; rfl; (first | with_reducible exact BK124 | (apply Aside0.mk; apply blk_seq; (focus ((repeat (with_reducible first | exact BK124.out | apply blk_drewN | apply blk_drew | apply blk_alloc | apply blk_set)); done)); (first | (simp only [zS, zC, zD]; with_reducible rfl) | with_reducible rfl))); rfl; exact siz27) | ((with_reducible refine gate_st (ty := 27) rfl ?_); apply stB25 (qi := siz27); rfl; rfl; rfl; rfl; (apply Exists.intro; apply Exists.intro; apply And.intro; (focus ((repeat (with_reducible first | exact BK124.out | apply blk_drewN | apply blk_drew | apply blk_alloc | apply blk_set)); done)); (first | (simp only [Array.size_setIfInBounds]; rfl) | rfl)); rfl))
           go_meet
           case rel => exact ⟨_, (decide (((rd_T43 l0_23 x3_1).f1) < ((rd_T43 l0_23 (ji13)).f1))), (by first | rfl | (simp; done) | (simp only [← hji13] <;> (first | rfl | simp)) | (simp [*]; done)), H', ⟨by have := HK1.out; first | omega | exact Nat.le_refl _⟩, ⟨by (with_reducible repeat (first | refine blk_drewN ?_ _ | refine blk_drew ?_ | refine blk_alloc ?_ _)); exact BK124.out⟩, ⟨by repeat (with_reducible first | exact HB.out | apply below_alloc | apply pw_below_drewN | apply below_drew1 | refine below_set ?_ GE124.out)⟩⟩
          ·rw [if_neg c15] at H
           exact absurd H (by simp)
         ·rw [if_neg c14] at H
          exact absurd H (by simp)
        ·rw [if_neg c12] at H
         have c12b0 : decide (0 < x3_1) = false := decide_eq_false c12
         clear c12
         have H' := Aside0.mk H
         clear H
         try go_wp2_with (first | ((with_reducible refine gate_ld (ty := 27) rfl ?_); apply ldB (qu := Tryd.underlying27); rfl; rfl; rfl; (first | with_reducible exact BK124 | (apply Aside0.mk; apply blk_seq; (focus ((repeat (with_reducible first | exact BK124.out | apply blk_drewN | apply blk_drew | apply blk_alloc | apply blk_set)); done)); (first | (simp only [zS, zC, zD]; with_reducible rfl) | with_reducible rfl))); rfl; exact siz27) | ((with_reducible refine gate_st (ty := 27) rfl ?_); apply stB25 (qi := siz27); rfl; rfl; rfl; rfl; (apply Exists.intro; apply Exists.intro; apply And.intro; (focus ((repeat (with_reducible first | exact BK124.out | apply blk_drewN | apply blk_drew | apply blk_alloc | apply blk_set)); done)); (first | (simp only [Array.size_setIfInBounds]; rfl) | rfl)); rfl))
         have n0_ := Aside0.mk (blk_drew BK124.out)
         have n1_ := Aside0.mk (below_drew1 HB.out)
         clear BK124
         clear HB
         have BK124 := n0_
         have HB := n1_
         clear n0_ n1_
         have p126 : 0 ≤ (x3_1 : Int) := of_decide_eq_true (by assumption)
         have q126 : x3_1 < (l0_23.length : Int) := of_decide_eq_true (by assumption)
         obtain ⟨ad126, e126, hx126_0, hx126_1, hx126_2, hx126_3⟩ := at_T43 HR0_23.out x3_1 p126 q126
         have hw126_3 := hx126_3
         have hw126_2 := hx126_2
         have hw126_1 := hx126_1
         have hw126_0 := hx126_0
         cases e126
         replace hx126_0 := (HB.out.cell (World.block_lt_of_cell? w _ hx126_0)).trans hx126_0
         replace hx126_1 := (HB.out.cell (World.block_lt_of_cell? w _ hx126_1)).trans hx126_1
         replace hx126_2 := (HB.out.cell (World.block_lt_of_cell? w _ hx126_2)).trans hx126_2
         replace hx126_3 := (HB.out.cell (World.block_lt_of_cell? w _ hx126_3)).trans hx126_3
         replace p126 := eq_true p126
         replace q126 := eq_true q126
         refine start_ (n := 29) (S := fun w' => CBL w' gb124 [.int .i64 a0_0, .int .i64 a0_1, .int .i64 a0_2, .int .i64 a0_3, .int .i64 a0_4, .int .i64 a0_5, .int .i64 a0_6, .int .i64 a0_7, .int .i64 a0_8, .int .i64 a0_9, .int .i64 a0_10, .int .i64 a0_11, .int .i64 a0_12, .int .i64 a0_13, .int .i64 a0_14, .int .i64 a0_15, .int .i64 a0_16, .int .i64 a0_17, .int .i64 a0_18, .int .i64 a0_19, .int .i64 a0_20, .string a0_21, .string a0_22, .slice (some ad126) l0_23.length c0_23, .slice A0_24 l0_24.length c0_24] ∧ w'.cell? (ad126.add ((x3_1).toNat * 4)) = some (.int .i64 ((rd_T43 l0_23 x3_1).f0)) ∧ w'.cell? ⟨(ad126.add ((x3_1).toNat * 4)).block, (ad126.add ((x3_1).toNat * 4)).off + 1, none⟩ = some (.int .i64 ((rd_T43 l0_23 x3_1).f1)) ∧ w'.cell? ⟨(ad126.add ((x3_1).toNat * 4)).block, (ad126.add ((x3_1).toNat * 4)).off + 2, none⟩ = some (.int .i64 ((rd_T43 l0_23 x3_1).f2)) ∧ w'.cell? ⟨(ad126.add ((x3_1).toNat * 4)).block, (ad126.add ((x3_1).toNat * 4)).off + 3, none⟩ = some (.int .i64 ((rd_T43 l0_23 x3_1).f3))) (ds := []) zb9_0 (by kernel_rfl) rfl rfl ⟨cblk BK124.out, ((HB.out.cell (World.block_lt_of_cell? w _ hw126_0)).trans hw126_0), ((HB.out.cell (World.block_lt_of_cell? w _ hw126_1)).trans hw126_1), ((HB.out.cell (World.block_lt_of_cell? w _ hw126_2)).trans hw126_2), ((HB.out.cell (World.block_lt_of_cell? w _ hw126_3)).trans hw126_3)⟩ (fun hHeld => ?_); refine with_tabW corebankref34_Check.tab6 corebankref34_Check.bits6 (fun HT_ HW_ => ?_)
         generalize wr.drew = w17 at BK124 HB hx126_0 hx126_1 hx126_2 hx126_3 hHeld ⊢
         refine pW 0 14 zb9_1 HT_.out ?_
         refine pW 2 16 zb9_2 HT_.out ?_
         refine pW 6 20 zb9_3 HT_.out ?_
         refine pW 7 21 zb9_4 HT_.out ?_
         refine take_ (i := 1) (N := some 15) (v := ?_) (a' := ?_) zb9_5 rfl rfl (take_ofW HT_.out HW_.out (by kernel_rfl)) (fun _ _ _ h => h) (Or.inl ⟨by rfl, ?_⟩) hHeld ?_ ?_
         rotate_left
         ·rintro w' ⟨s0, s1, s2, s3, s4⟩
          first
          | (refine ldS (x := ?_) ?_ ?_ s0 Tryd.underlying27 rfl siz27; rotate_left; rfl; rfl)
          | (have s0_ := cb25 s0; go_simp; with_reducible rfl)
         rotate_left
         ·simp only [Act.put, List.setIfInBounds_toArray, List.set_cons_zero, List.set_cons_succ, i64_w, i32_w]
          rfl
         refine pW 3 17 zb9_6 HT_.out ?_
         refine pW 4 18 zb9_7 HT_.out ?_
         refine take_ (i := 5) (N := some 19) (v := ?_) (a' := ?_) zb9_8 rfl rfl (take_ofW HT_.out HW_.out (by kernel_rfl)) (fun _ _ _ h => h) (Or.inl ⟨by rfl, ?_⟩) hHeld ?_ ?_
         rotate_left
         ·rintro w' ⟨s0, s1, s2, s3, s4⟩
          first
          | (refine ldS (x := ?_) ?_ ?_ s0 Tryd.underlying27 rfl siz27; rotate_left; rfl; rfl)
          | (have s0_ := cb25 s0; go_simp; with_reducible rfl)
         rotate_left
         ·simp only [Act.put, List.setIfInBounds_toArray, List.set_cons_zero, List.set_cons_succ, i64_w, i32_w]
          rfl
         refine pW 8 22 zb9_9 HT_.out ?_
         refine pW 9 23 zb9_10 HT_.out ?_
         refine pW 10 24 zb9_11 HT_.out ?_
         refine pW 11 25 zb9_12 HT_.out ?_
         refine pW 12 26 zb9_13 HT_.out ?_
         refine pU 13 27 zb9_14 HT_.out ?_
         refine pU 14 28 zb9_22 HT_.out ?_
         refine pU 15 29 zb9_23 HT_.out ?_
         refine pU 16 30 zb9_24 HT_.out ?_
         refine pU 17 31 zb9_25 HT_.out ?_
         refine pU 18 32 zb9_26 HT_.out ?_
         refine pU 19 33 zb9_27 HT_.out ?_
         refine pU 20 34 zb9_28 HT_.out ?_
         refine pU 21 35 zb9_29 HT_.out ?_
         refine pU 22 36 zb9_15 HT_.out ?_
         refine pU 23 37 zb9_16 HT_.out ?_
         refine pU 24 38 zb9_17 HT_.out ?_
         refine pU 25 39 zb9_18 HT_.out ?_
         refine pU 26 40 zb9_19 HT_.out ?_
         refine pW 27 41 zb9_20 HT_.out ?_
         refine pW 28 42 zb9_21 HT_.out ?_
         refine done_ (done_of HT_.out (by kernel_rfl)) ?_
         try go_wp2_with (first | ((with_reducible refine gate_ld (ty := 27) rfl ?_); apply ldB (qu := Tryd.underlying27); rfl; rfl; rfl; (first | with_reducible exact BK124 | (apply Aside0.mk; apply blk_seq; (focus ((repeat (with_reducible first | exact BK124.out | apply blk_drewN | apply blk_drew | apply blk_alloc | apply blk_set)); done)); (first | (simp only [zS, zC, zD]; with_reducible rfl) | with_reducible rfl))); rfl; exact siz27) | ((with_reducible refine gate_st (ty := 27) rfl ?_); apply stB25 (qi := siz27); rfl; rfl; rfl; rfl; (apply Exists.intro; apply Exists.intro; apply And.intro; (focus ((repeat (with_reducible first | exact BK124.out | apply blk_drewN | apply blk_drew | apply blk_alloc | apply blk_set)); done)); (first | (simp only [Array.size_setIfInBounds]; rfl) | rfl)); rfl))
         go_meet
         case rel => exact ⟨_, (false), (by first | rfl | (simp [*]; done)), H', ⟨by have := HK1.out; first | omega | exact Nat.le_refl _⟩, ⟨by (with_reducible repeat (first | refine blk_drewN ?_ _ | refine blk_drew ?_ | refine blk_alloc ?_ _)); exact BK124.out⟩, ⟨by repeat (with_reducible first | exact HB.out | apply below_alloc | apply pw_below_drewN | apply below_drew1 | refine below_set ?_ GE124.out)⟩⟩
       ·rw [if_neg c11] at H
        have c11b0 : (((rd_T43 l0_23 x3_1).f0) == (wrap64 (x3_1 + 1))) = false := beq_eq_false_iff_ne.mpr c11
        have c11b1 : (((rd_T43 l0_23 x3_1).f0) != (wrap64 (x3_1 + 1))) = true := bne_iff_ne.mpr c11
        have H' := Aside0.mk H
        clear H
        try go_wp2_with (first | ((with_reducible refine gate_ld (ty := 27) rfl ?_); apply ldB (qu := Tryd.underlying27); rfl; rfl; rfl; (first | with_reducible exact BK124 | (apply Aside0.mk; apply blk_seq; (focus ((repeat (with_reducible first | exact BK124.out | apply blk_drewN | apply blk_drew | apply blk_alloc | apply blk_set)); done)); (first | (simp only [zS, zC, zD]; with_reducible rfl) | with_reducible rfl))); rfl; exact siz27) | ((with_reducible refine gate_st (ty := 27) rfl ?_); apply stB25 (qi := siz27); rfl; rfl; rfl; rfl; (apply Exists.intro; apply Exists.intro; apply And.intro; (focus ((repeat (with_reducible first | exact BK124.out | apply blk_drewN | apply blk_drew | apply blk_alloc | apply blk_set)); done)); (first | (simp only [Array.size_setIfInBounds]; rfl) | rfl)); rfl))
        have n0_ := Aside0.mk (blk_drew BK124.out)
        have n1_ := Aside0.mk (below_drew1 HB.out)
        clear BK124
        clear HB
        have BK124 := n0_
        have HB := n1_
        clear n0_ n1_
        have p126 : 0 ≤ (x3_1 : Int) := of_decide_eq_true (by assumption)
        have q126 : x3_1 < (l0_23.length : Int) := of_decide_eq_true (by assumption)
        obtain ⟨ad126, e126, hx126_0, hx126_1, hx126_2, hx126_3⟩ := at_T43 HR0_23.out x3_1 p126 q126
        have hw126_3 := hx126_3
        have hw126_2 := hx126_2
        have hw126_1 := hx126_1
        have hw126_0 := hx126_0
        cases e126
        replace hx126_0 := (HB.out.cell (World.block_lt_of_cell? w _ hx126_0)).trans hx126_0
        replace hx126_1 := (HB.out.cell (World.block_lt_of_cell? w _ hx126_1)).trans hx126_1
        replace hx126_2 := (HB.out.cell (World.block_lt_of_cell? w _ hx126_2)).trans hx126_2
        replace hx126_3 := (HB.out.cell (World.block_lt_of_cell? w _ hx126_3)).trans hx126_3
        replace p126 := eq_true p126
        replace q126 := eq_true q126
        refine start_ (n := 29) (S := fun w' => CBL w' gb124 [.int .i64 a0_0, .int .i64 a0_1, .int .i64 a0_2, .int .i64 a0_3, .int .i64 a0_4, .int .i64 a0_5, .int .i64 a0_6, .int .i64 a0_7, .int .i64 a0_8, .int .i64 a0_9, .int .i64 a0_10, .int .i64 a0_11, .int .i64 a0_12, .int .i64 a0_13, .int .i64 a0_14, .int .i64 a0_15, .int .i64 a0_16, .int .i64 a0_17, .int .i64 a0_18, .int .i64 a0_19, .int .i64 a0_20, .string a0_21, .string a0_22, .slice (some ad126) l0_23.length c0_23, .slice A0_24 l0_24.length c0_24] ∧ w'.cell? (ad126.add ((x3_1).toNat * 4)) = some (.int .i64 ((rd_T43 l0_23 x3_1).f0)) ∧ w'.cell? ⟨(ad126.add ((x3_1).toNat * 4)).block, (ad126.add ((x3_1).toNat * 4)).off + 1, none⟩ = some (.int .i64 ((rd_T43 l0_23 x3_1).f1)) ∧ w'.cell? ⟨(ad126.add ((x3_1).toNat * 4)).block, (ad126.add ((x3_1).toNat * 4)).off + 2, none⟩ = some (.int .i64 ((rd_T43 l0_23 x3_1).f2)) ∧ w'.cell? ⟨(ad126.add ((x3_1).toNat * 4)).block, (ad126.add ((x3_1).toNat * 4)).off + 3, none⟩ = some (.int .i64 ((rd_T43 l0_23 x3_1).f3))) (ds := []) zb9_0 (by kernel_rfl) rfl rfl ⟨cblk BK124.out, ((HB.out.cell (World.block_lt_of_cell? w _ hw126_0)).trans hw126_0), ((HB.out.cell (World.block_lt_of_cell? w _ hw126_1)).trans hw126_1), ((HB.out.cell (World.block_lt_of_cell? w _ hw126_2)).trans hw126_2), ((HB.out.cell (World.block_lt_of_cell? w _ hw126_3)).trans hw126_3)⟩ (fun hHeld => ?_); refine with_tabW corebankref34_Check.tab6 corebankref34_Check.bits6 (fun HT_ HW_ => ?_)
        generalize wr.drew = w18 at BK124 HB hx126_0 hx126_1 hx126_2 hx126_3 hHeld ⊢
        refine pW 0 14 zb9_1 HT_.out ?_
        refine pW 2 16 zb9_2 HT_.out ?_
        refine pW 6 20 zb9_3 HT_.out ?_
        refine pW 7 21 zb9_4 HT_.out ?_
        refine take_ (i := 1) (N := some 15) (v := ?_) (a' := ?_) zb9_5 rfl rfl (take_ofW HT_.out HW_.out (by kernel_rfl)) (fun _ _ _ h => h) (Or.inl ⟨by rfl, ?_⟩) hHeld ?_ ?_
        rotate_left
        ·rintro w' ⟨s0, s1, s2, s3, s4⟩
         first
         | (refine ldS (x := ?_) ?_ ?_ s0 Tryd.underlying27 rfl siz27; rotate_left; rfl; rfl)
         | (have s0_ := cb25 s0; go_simp; with_reducible rfl)
        rotate_left
        ·simp only [Act.put, List.setIfInBounds_toArray, List.set_cons_zero, List.set_cons_succ, i64_w, i32_w]
         rfl
        refine pW 3 17 zb9_6 HT_.out ?_
        refine pW 4 18 zb9_7 HT_.out ?_
        refine take_ (i := 5) (N := some 19) (v := ?_) (a' := ?_) zb9_8 rfl rfl (take_ofW HT_.out HW_.out (by kernel_rfl)) (fun _ _ _ h => h) (Or.inl ⟨by rfl, ?_⟩) hHeld ?_ ?_
        rotate_left
        ·rintro w' ⟨s0, s1, s2, s3, s4⟩
         first
         | (refine ldS (x := ?_) ?_ ?_ s0 Tryd.underlying27 rfl siz27; rotate_left; rfl; rfl)
         | (have s0_ := cb25 s0; go_simp; with_reducible rfl)
        rotate_left
        ·simp only [Act.put, List.setIfInBounds_toArray, List.set_cons_zero, List.set_cons_succ, i64_w, i32_w]
         rfl
        refine pW 8 22 zb9_9 HT_.out ?_
        refine pW 9 23 zb9_10 HT_.out ?_
        refine pU 10 24 zb9_11 HT_.out ?_
        refine pU 11 25 zb9_12 HT_.out ?_
        refine pU 12 26 zb9_13 HT_.out ?_
        refine pU 13 27 zb9_14 HT_.out ?_
        refine pU 14 28 zb9_22 HT_.out ?_
        refine pU 15 29 zb9_23 HT_.out ?_
        refine pU 16 30 zb9_24 HT_.out ?_
        refine pU 17 31 zb9_25 HT_.out ?_
        refine pU 18 32 zb9_26 HT_.out ?_
        refine pU 19 33 zb9_27 HT_.out ?_
        refine pU 20 34 zb9_28 HT_.out ?_
        refine pU 21 35 zb9_29 HT_.out ?_
        refine pU 22 36 zb9_15 HT_.out ?_
        refine pU 23 37 zb9_16 HT_.out ?_
        refine pU 24 38 zb9_17 HT_.out ?_
        refine pU 25 39 zb9_18 HT_.out ?_
        refine pU 26 40 zb9_19 HT_.out ?_
        refine pU 27 41 zb9_20 HT_.out ?_
        refine pW 28 42 zb9_21 HT_.out ?_
        refine done_ (done_of HT_.out (by kernel_rfl)) ?_
        try go_wp2_with (first | ((with_reducible refine gate_ld (ty := 27) rfl ?_); apply ldB (qu := Tryd.underlying27); rfl; rfl; rfl; (first | with_reducible exact BK124 | (apply Aside0.mk; apply blk_seq; (focus ((repeat (with_reducible first | exact BK124.out | apply blk_drewN | apply blk_drew | apply blk_alloc | apply blk_set)); done)); (first | (simp only [zS, zC, zD]; with_reducible rfl) | with_reducible rfl))); rfl; exact siz27) | ((with_reducible refine gate_st (ty := 27) rfl ?_); apply stB25 (qi := siz27); rfl; rfl; rfl; rfl; (apply Exists.intro; apply Exists.intro; apply And.intro; (focus ((repeat (with_reducible first | exact BK124.out | apply blk_drewN | apply blk_drew | apply blk_alloc | apply blk_set)); done)); (first | (simp only [Array.size_setIfInBounds]; rfl) | rfl)); rfl))
        go_meet
        case rel => exact ⟨_, (true), (by first | rfl | (simp [*]; done)), H', ⟨by have := HK1.out; first | omega | exact Nat.le_refl _⟩, ⟨by (with_reducible repeat (first | refine blk_drewN ?_ _ | refine blk_drew ?_ | refine blk_alloc ?_ _)); exact BK124.out⟩, ⟨by repeat (with_reducible first | exact HB.out | apply below_alloc | apply pw_below_drewN | apply below_drew1 | refine below_set ?_ GE124.out)⟩⟩
      ·rw [if_neg c10] at H
       exact absurd H (by simp)
     case rest =>
      clear HC8
      try clear c1
      try clear p1
      try clear q1
      try clear hx1
      try clear p2
      try clear p6
      try clear c10
      try clear c11
      try clear c11b0
      try clear c11b1
      try clear c12
      try clear c12b0
      try clear p12
      try clear q12
      try clear hx12
      try clear c14
      try clear c15
      try clear hx126_0
      try clear hx126_1
      try clear hx126_2
      try clear hx126_3
      try clear p126
      try clear q126
      obtain ⟨kq, x42_7, rfl, HA, HJ7, BK124, HB⟩ := hcut
      cases kq with
      | zero => exact absurd HA.out (by simp [corebankref34_Check.j1])
      | succ kj7 =>
       have H := HA.out
       clear HA
       simp only [corebankref34_Check.j1] at H
       by_cases c19 : x42_7 = true
       ·subst c19
        have H1 : (some 10) = some r := by rw [if_pos rfl] at H; exact H
        clear H
        have H := H1
        clear H1
        obtain rfl := Option.some.inj H
        go_wp2_with (first | ((with_reducible refine gate_ld (ty := 27) rfl ?_); apply ldB (qu := Tryd.underlying27); rfl; rfl; rfl; (first | with_reducible exact BK124 | (apply Aside0.mk; apply blk_seq; (focus ((repeat (with_reducible first | exact BK124.out | apply blk_drewN | apply blk_drew | apply blk_alloc | apply blk_set)); done)); (first | (simp only [zS, zC, zD]; with_reducible rfl) | with_reducible rfl))); rfl; exact siz27) | ((with_reducible refine gate_st (ty := 27) rfl ?_); apply stB25 (qi := siz27); rfl; rfl; rfl; rfl; (apply Exists.intro; apply Exists.intro; apply And.intro; (focus ((repeat (with_reducible first | exact BK124.out | apply blk_drewN | apply blk_drew | apply blk_alloc | apply blk_set)); done)); (first | (simp only [Array.size_setIfInBounds]; rfl) | rfl)); rfl))
        go_ret
        exact ⟨by first | rfl | (simp [errW_none, errW_some] <;> rfl) | (simp [*, errW_none, errW_some] <;> rfl), by repeat (with_reducible first | exact HB.out | apply below_alloc | apply pw_below_drewN | apply below_drew1 | refine below_set ?_ GE124.out)⟩
       ·replace c19 := Bool.eq_false_iff.mpr c19
        subst c19
        have H1 : (corebankref34_Check.l0 kj7 (wrap64 (x3_1 + 1)) a0_0 a0_1 a0_2 a0_3 a0_4 a0_5 a0_6 a0_7 a0_8 a0_9 a0_10 a0_11 a0_12 a0_13 a0_14 a0_15 a0_16 a0_17 a0_18 a0_19 a0_20 a0_21 a0_22 l0_23 l0_24) = some r := by rw [if_neg (show ¬ (false = true) by decide)] at H; exact H
        clear H
        have H := H1
        clear H1
        have H' := Aside0.mk H
        clear H
        go_wp2_with (first | ((with_reducible refine gate_ld (ty := 27) rfl ?_); apply ldB (qu := Tryd.underlying27); rfl; rfl; rfl; (first | with_reducible exact BK124 | (apply Aside0.mk; apply blk_seq; (focus ((repeat (with_reducible first | exact BK124.out | apply blk_drewN | apply blk_drew | apply blk_alloc | apply blk_set)); done)); (first | (simp only [zS, zC, zD]; with_reducible rfl) | with_reducible rfl))); rfl; exact siz27) | ((with_reducible refine gate_st (ty := 27) rfl ?_); apply stB25 (qi := siz27); rfl; rfl; rfl; rfl; (apply Exists.intro; apply Exists.intro; apply And.intro; (focus ((repeat (with_reducible first | exact BK124.out | apply blk_drewN | apply blk_drew | apply blk_alloc | apply blk_set)); done)); (first | (simp only [Array.size_setIfInBounds]; rfl) | rfl)); rfl))
        go_roundg kj7
        case measure => have := HK1.out; have := HJ7.out; omega
        case rel => exact ⟨(wrap64 (x3_1 + 1)), (by first | rfl | (simp [*]; done)), H', ⟨by have := HK1.out; have := HJ7.out; omega⟩, ⟨by (with_reducible repeat (first | refine blk_drewN ?_ _ | refine blk_drew ?_ | refine blk_alloc ?_ _)); exact BK124.out⟩, ⟨by repeat (with_reducible first | exact HB.out | apply below_alloc | apply pw_below_drewN | apply below_drew1 | refine below_set ?_ GE124.out)⟩⟩
    ·rw [if_neg c7] at H
     have c7b0 : decide (x3_1 < (l0_23.length : Int)) = false := decide_eq_false c7
     clear c7
     have HC20 := Aside0.mk H
     clear H
     have hcz21 := bk25 BK124.out
     have hfz21 := blk_frozen BK124.out
     go_upto_region 8 with (fail)
     go_cut [61] (fun v61 wc => ∃ (kq : Nat) (x61_19 : Bool), v61 = .bool x61_19 ∧ Aside0 (corebankref34_Check.j2 kq x61_19 a0_0 a0_1 a0_2 a0_3 a0_4 a0_5 a0_6 a0_7 a0_8 a0_9 a0_10 a0_11 a0_12 a0_13 a0_14 a0_15 a0_16 a0_17 a0_18 a0_19 a0_20 a0_21 a0_22 l0_23 l0_24 = some r) ∧ Aside0 (kq ≤ k1) ∧ Aside0 (wc.heap[gb124]? = some (.cells #[.int .i64 a0_0, .int .i64 a0_1, .int .i64 a0_2, .int .i64 a0_3, .int .i64 a0_4, .int .i64 a0_5, .int .i64 a0_6, .int .i64 a0_7, .int .i64 a0_8, .int .i64 a0_9, .int .i64 a0_10, .int .i64 a0_11, .int .i64 a0_12, .int .i64 a0_13, .int .i64 a0_14, .int .i64 a0_15, .int .i64 a0_16, .int .i64 a0_17, .int .i64 a0_18, .int .i64 a0_19, .int .i64 a0_20, .string a0_21, .string a0_22, (.slice A0_23 l0_23.length c0_23), (.slice A0_24 l0_24.length c0_24)] 27 (0, 0))) ∧ Aside0 (Below w.heap.size w wc))
     case first =>
      have H := HC20.out
      clear HC20
      replace H := Option.bind_eq_some_iff.mp H
      obtain ⟨t129, A220, H⟩ := H
      replace H : (if a0_3 > t129 then (corebankref34_Check.j2 k1 true a0_0 a0_1 a0_2 a0_3 a0_4 a0_5 a0_6 a0_7 a0_8 a0_9 a0_10 a0_11 a0_12 a0_13 a0_14 a0_15 a0_16 a0_17 a0_18 a0_19 a0_20 a0_21 a0_22 l0_23 l0_24) else ((corebankref34_Interest.f k1 a0_0 a0_1 a0_2 a0_3 a0_4 a0_5 a0_6 a0_7 a0_8 a0_9 a0_10 a0_11 a0_12 a0_13 a0_14 a0_15 a0_16 a0_17 a0_18 a0_19 a0_20 a0_21 a0_22 l0_23 l0_24 9223372036854775807).bind fun t130 => (if a0_4 > t130 then (corebankref34_Check.j2 k1 true a0_0 a0_1 a0_2 a0_3 a0_4 a0_5 a0_6 a0_7 a0_8 a0_9 a0_10 a0_11 a0_12 a0_13 a0_14 a0_15 a0_16 a0_17 a0_18 a0_19 a0_20 a0_21 a0_22 l0_23 l0_24) else (corebankref34_Check.j2 k1 (decide (a0_10 > a0_9)) a0_0 a0_1 a0_2 a0_3 a0_4 a0_5 a0_6 a0_7 a0_8 a0_9 a0_10 a0_11 a0_12 a0_13 a0_14 a0_15 a0_16 a0_17 a0_18 a0_19 a0_20 a0_21 a0_22 l0_23 l0_24)))) = some r := H
      have A22 := Aside0.mk A220
      clear A220
      by_cases c23 : a0_3 > t129
      ·rw [if_pos c23] at H
       have c23b0 : decide (t129 < a0_3) = true := decide_eq_true c23
       clear c23
       (first | rw [c23b0] | (simp only [i64_w, i32_w]; rw [c23b0]) | skip)
       have H' := Aside0.mk H
       clear H
       try go_wp2_with (first | ((with_reducible refine gate_ld (ty := 27) rfl ?_); apply ldB (qu := Tryd.underlying27); rfl; rfl; rfl; (first | with_reducible exact BK124 | (apply Aside0.mk; apply blk_seq; (focus ((repeat (with_reducible first | exact BK124.out | apply blk_drewN | apply blk_drew | apply blk_alloc | apply blk_set)); done)); (first | (simp only [zS, zC, zD]; with_reducible rfl) | with_reducible rfl))); rfl; exact siz27) | ((with_reducible refine gate_st (ty := 27) rfl ?_); apply stB25 (qi := siz27); rfl; rfl; rfl; rfl; (apply Exists.intro; apply Exists.intro; apply And.intro; (focus ((repeat (with_reducible first | exact BK124.out | apply blk_drewN | apply blk_drew | apply blk_alloc | apply blk_set)); done)); (first | (simp only [Array.size_setIfInBounds]; rfl) | rfl)); rfl))
       have n0_ := Aside0.mk (blk_drew BK124.out)
       have n1_ := Aside0.mk (below_drew1 HB.out)
       clear BK124
       clear HB
       have BK124 := n0_
       have HB := n1_
       clear n0_ n1_
       refine start_ (n := 19) (S := fun w' => CBL w' gb124 [.int .i64 a0_0, .int .i64 a0_1, .int .i64 a0_2, .int .i64 a0_3, .int .i64 a0_4, .int .i64 a0_5, .int .i64 a0_6, .int .i64 a0_7, .int .i64 a0_8, .int .i64 a0_9, .int .i64 a0_10, .int .i64 a0_11, .int .i64 a0_12, .int .i64 a0_13, .int .i64 a0_14, .int .i64 a0_15, .int .i64 a0_16, .int .i64 a0_17, .int .i64 a0_18, .int .i64 a0_19, .int .i64 a0_20, .string a0_21, .string a0_22, .slice A0_23 l0_23.length c0_23, .slice A0_24 l0_24.length c0_24]) (ds := []) zb9_30 (by kernel_rfl) rfl rfl (cblk BK124.out) (fun hHeld => ?_); refine with_tabW corebankref34_Check.tab8 corebankref34_Check.bits8 (fun HT_ HW_ => ?_)
       generalize wr.drew = w24 at BK124 HB hHeld ⊢
       refine pW 0 43 zb9_31 HT_.out ?_
       refine take_ (i := 1) (N := some 44) (v := ?_) (a' := ?_) zb9_32 rfl rfl (take_ofW HT_.out HW_.out (by kernel_rfl)) (fun _ _ _ h => h) (Or.inl ⟨by rfl, ?_⟩) hHeld ?_ ?_
       rotate_left
       ·rintro w' s0
        first
        | (refine ldS (x := ?_) ?_ ?_ s0 Tryd.underlying27 rfl siz27; rotate_left; rfl; rfl)
        | (have s0_ := cb25 s0; go_simp; with_reducible rfl)
       rotate_left
       ·simp only [Act.put, List.setIfInBounds_toArray, List.set_cons_zero, List.set_cons_succ, i64_w, i32_w]
        rfl
       refine take_ (i := 2) (N := some 45) (v := ?_) (a' := ?_) zb9_33 rfl rfl (take_ofW HT_.out HW_.out (by kernel_rfl)) (fun _ _ _ h => h) (Or.inl ⟨by rfl, ?_⟩) hHeld ?_ ?_
       rotate_left
       ·rintro w' s0
        first
        | (refine ldS (x := ?_) ?_ ?_ s0 Tryd.underlying27 rfl siz27; rotate_left; rfl; rfl)
        | (have s0_ := cb25 s0; go_simp; with_reducible rfl)
       rotate_left
       ·simp only [Act.put, List.setIfInBounds_toArray, List.set_cons_zero, List.set_cons_succ, i64_w, i32_w]
        rfl
       refine one_ (i := 3) (N := some 46) zb9_34 rfl rfl (one_of HT_.out (by kernel_rfl)) (by decide) (fun K hK => ?_)
       refine goes_ Tryd.func19 (by kernel_rfl) rfl #[.agg #[.int .i64 a0_0, .int .i64 a0_1, .int .i64 a0_2, .int .i64 a0_3, .int .i64 a0_4, .int .i64 a0_5, .int .i64 a0_6, .int .i64 a0_7, .int .i64 a0_8, .int .i64 a0_9, .int .i64 a0_10, .int .i64 a0_11, .int .i64 a0_12, .int .i64 a0_13, .int .i64 a0_14, .int .i64 a0_15, .int .i64 a0_16, .int .i64 a0_17, .int .i64 a0_18, .int .i64 a0_19, .int .i64 a0_20, .string a0_21, .string a0_22, .slice A0_23 l0_23.length c0_23, .slice A0_24 l0_24.length c0_24], .int .i64 9223372036854775807] (by rfl) rfl rfl (by (try simp only [List.map_toArray, List.map_cons, List.map_nil]); first | done | rfl | (simp only [List.length_drop, List.length_take]; rfl)) ?_
       with_reducible refine (corebankref34_Principal.calls k1 a0_0 a0_1 a0_2 a0_3 a0_4 a0_5 a0_6 a0_7 a0_8 a0_9 a0_10 a0_11 a0_12 a0_13 a0_14 a0_15 a0_16 a0_17 a0_18 a0_19 a0_20 a0_21 a0_22 _ _ l0_23 _ _ l0_24 9223372036854775807 t129 _ ?side1 ?side2 ?side3 ?side4 A22.out).mono ?_
       (case side1 => repeat (first | exact (Kd.C_below HR0_23.out HB.out) | (with_reducible refine Kd.C_alloc ?_ _) | (with_reducible refine Kd.C_drewN ?_ _) | (with_reducible refine Kd.C_drew ?_)))
       (case side2 => exact HC0_23.out)
       (case side3 => repeat (first | exact (Kd.C_below HR0_24.out HB.out) | (with_reducible refine Kd.C_alloc ?_ _) | (with_reducible refine Kd.C_drewN ?_ _) | (with_reducible refine Kd.C_drew ?_)))
       (case side4 => exact HC0_24.out)
       rintro e w25 ⟨rfl, hb⟩
       refine ⟨_, rfl, ?_⟩
       have n0_ := Aside0.mk (blk_below (g := gb124) (by (with_reducible repeat (first | refine blk_drewN ?_ _ | refine blk_drew ?_ | refine blk_alloc ?_ _)); exact BK124.out) hb)
       have n1_ := Aside0.mk (below_step (by repeat (with_reducible first | exact HB.out | apply below_alloc | apply pw_below_drewN | apply below_drew1 | refine below_set ?_ GE124.out)) hb)
       clear BK124
       clear HB
       have BK124 := n0_
       have HB := n1_
       clear n0_ n1_
       (try clear hb)
       (try clear hb2)
       (try clear hk)
       (try clear hi)
       refine hK.out _ _ (cblk BK124.out) (fun hHeld => ?_)
       clear hK K
       refine norm_ (a' := ?_) ?_ ?_
       rotate_left
       ·show Act.put _ (some 46) _ = _
        simp only [Act.put, List.setIfInBounds_toArray, List.set_cons_zero, List.set_cons_succ, i64_w, i32_w]
        rfl
       refine pW 4 47 zb9_35 HT_.out ?_
       refine pW 5 48 zb9_36 HT_.out ?_
       refine pU 6 49 zb9_37 HT_.out ?_
       refine pU 7 50 zb9_38 HT_.out ?_
       refine pU 8 51 zb9_39 HT_.out ?_
       refine pU 9 52 zb9_40 HT_.out ?_
       refine pU 10 53 zb9_41 HT_.out ?_
       refine pW 11 54 zb9_42 HT_.out ?_
       refine pW 12 55 zb9_43 HT_.out ?_
       refine pU 13 56 zb9_44 HT_.out ?_
       refine pU 14 57 zb9_45 HT_.out ?_
       refine pU 15 58 zb9_46 HT_.out ?_
       refine pU 16 59 zb9_47 HT_.out ?_
       refine pU 17 60 zb9_48 HT_.out ?_
       refine pW 18 61 zb9_49 HT_.out ?_
       refine done_ (done_of HT_.out (by kernel_rfl)) ?_
       try go_wp2_with (first | ((with_reducible refine gate_ld (ty := 27) rfl ?_); apply ldB (qu := Tryd.underlying27); rfl; rfl; rfl; (first | with_reducible exact BK124 | (apply Aside0.mk; apply blk_seq; (focus ((repeat (with_reducible first | exact BK124.out | apply blk_drewN | apply blk_drew | apply blk_alloc | apply blk_set)); done)); (first | (simp only [zS, zC, zD]; with_reducible rfl) | with_reducible rfl))); rfl; exact siz27) | ((with_reducible refine gate_st (ty := 27) rfl ?_); apply stB25 (qi := siz27); rfl; rfl; rfl; rfl; (apply Exists.intro; apply Exists.intro; apply And.intro; (focus ((repeat (with_reducible first | exact BK124.out | apply blk_drewN | apply blk_drew | apply blk_alloc | apply blk_set)); done)); (first | (simp only [Array.size_setIfInBounds]; rfl) | rfl)); rfl))
       go_meet
       case rel => exact ⟨_, (true), (by first | rfl | (simp [*]; done)), H', ⟨by have := HK1.out; first | omega | exact Nat.le_refl _⟩, ⟨by (with_reducible repeat (first | refine blk_drewN ?_ _ | refine blk_drew ?_ | refine blk_alloc ?_ _)); exact BK124.out⟩, ⟨by repeat (with_reducible first | exact HB.out | apply below_alloc | apply pw_below_drewN | apply below_drew1 | refine below_set ?_ GE124.out)⟩⟩
      ·rw [if_neg c23] at H
       have c23b0 : decide (t129 < a0_3) = false := decide_eq_false c23
       clear c23
       (first | rw [c23b0] | (simp only [i64_w, i32_w]; rw [c23b0]) | skip)
       replace H := Option.bind_eq_some_iff.mp H
       obtain ⟨t130, A260, H⟩ := H
       replace H : (if a0_4 > t130 then (corebankref34_Check.j2 k1 true a0_0 a0_1 a0_2 a0_3 a0_4 a0_5 a0_6 a0_7 a0_8 a0_9 a0_10 a0_11 a0_12 a0_13 a0_14 a0_15 a0_16 a0_17 a0_18 a0_19 a0_20 a0_21 a0_22 l0_23 l0_24) else (corebankref34_Check.j2 k1 (decide (a0_10 > a0_9)) a0_0 a0_1 a0_2 a0_3 a0_4 a0_5 a0_6 a0_7 a0_8 a0_9 a0_10 a0_11 a0_12 a0_13 a0_14 a0_15 a0_16 a0_17 a0_18 a0_19 a0_20 a0_21 a0_22 l0_23 l0_24)) = some r := H
       have A26 := Aside0.mk A260
       clear A260
       by_cases c27 : a0_4 > t130
       ·rw [if_pos c27] at H
        have c27b0 : decide (t130 < a0_4) = true := decide_eq_true c27
        clear c27
        have H' := Aside0.mk H
        clear H
        try go_wp2_with (first | ((with_reducible refine gate_ld (ty := 27) rfl ?_); apply ldB (qu := Tryd.underlying27); rfl; rfl; rfl; (first | with_reducible exact BK124 | (apply Aside0.mk; apply blk_seq; (focus ((repeat (with_reducible first | exact BK124.out | apply blk_drewN | apply blk_drew | apply blk_alloc | apply blk_set)); done)); (first | (simp only [zS, zC, zD]; with_reducible rfl) | with_reducible rfl))); rfl; exact siz27) | ((with_reducible refine gate_st (ty := 27) rfl ?_); apply stB25 (qi := siz27); rfl; rfl; rfl; rfl; (apply Exists.intro; apply Exists.intro; apply And.intro; (focus ((repeat (with_reducible first | exact BK124.out | apply blk_drewN | apply blk_drew | apply blk_alloc | apply blk_set)); done)); (first | (simp only [Array.size_setIfInBounds]; rfl) | rfl)); rfl))
        have n0_ := Aside0.mk (blk_drew BK124.out)
        have n1_ := Aside0.mk (below_drew1 HB.out)
        clear BK124
        clear HB
        have BK124 := n0_
        have HB := n1_
        clear n0_ n1_
        refine start_ (n := 19) (S := fun w' => CBL w' gb124 [.int .i64 a0_0, .int .i64 a0_1, .int .i64 a0_2, .int .i64 a0_3, .int .i64 a0_4, .int .i64 a0_5, .int .i64 a0_6, .int .i64 a0_7, .int .i64 a0_8, .int .i64 a0_9, .int .i64 a0_10, .int .i64 a0_11, .int .i64 a0_12, .int .i64 a0_13, .int .i64 a0_14, .int .i64 a0_15, .int .i64 a0_16, .int .i64 a0_17, .int .i64 a0_18, .int .i64 a0_19, .int .i64 a0_20, .string a0_21, .string a0_22, .slice A0_23 l0_23.length c0_23, .slice A0_24 l0_24.length c0_24]) (ds := []) zb9_30 (by kernel_rfl) rfl rfl (cblk BK124.out) (fun hHeld => ?_); refine with_tabW corebankref34_Check.tab8 corebankref34_Check.bits8 (fun HT_ HW_ => ?_)
        generalize wr.drew = w28 at BK124 HB hHeld ⊢
        refine pW 0 43 zb9_31 HT_.out ?_
        refine take_ (i := 1) (N := some 44) (v := ?_) (a' := ?_) zb9_32 rfl rfl (take_ofW HT_.out HW_.out (by kernel_rfl)) (fun _ _ _ h => h) (Or.inl ⟨by rfl, ?_⟩) hHeld ?_ ?_
        rotate_left
        ·rintro w' s0
         first
         | (refine ldS (x := ?_) ?_ ?_ s0 Tryd.underlying27 rfl siz27; rotate_left; rfl; rfl)
         | (have s0_ := cb25 s0; go_simp; with_reducible rfl)
        rotate_left
        ·simp only [Act.put, List.setIfInBounds_toArray, List.set_cons_zero, List.set_cons_succ, i64_w, i32_w]
         rfl
        refine take_ (i := 2) (N := some 45) (v := ?_) (a' := ?_) zb9_33 rfl rfl (take_ofW HT_.out HW_.out (by kernel_rfl)) (fun _ _ _ h => h) (Or.inl ⟨by rfl, ?_⟩) hHeld ?_ ?_
        rotate_left
        ·rintro w' s0
         first
         | (refine ldS (x := ?_) ?_ ?_ s0 Tryd.underlying27 rfl siz27; rotate_left; rfl; rfl)
         | (have s0_ := cb25 s0; go_simp; with_reducible rfl)
        rotate_left
        ·simp only [Act.put, List.setIfInBounds_toArray, List.set_cons_zero, List.set_cons_succ, i64_w, i32_w]
         rfl
        refine one_ (i := 3) (N := some 46) zb9_34 rfl rfl (one_of HT_.out (by kernel_rfl)) (by decide) (fun K hK => ?_)
        refine goes_ Tryd.func19 (by kernel_rfl) rfl #[.agg #[.int .i64 a0_0, .int .i64 a0_1, .int .i64 a0_2, .int .i64 a0_3, .int .i64 a0_4, .int .i64 a0_5, .int .i64 a0_6, .int .i64 a0_7, .int .i64 a0_8, .int .i64 a0_9, .int .i64 a0_10, .int .i64 a0_11, .int .i64 a0_12, .int .i64 a0_13, .int .i64 a0_14, .int .i64 a0_15, .int .i64 a0_16, .int .i64 a0_17, .int .i64 a0_18, .int .i64 a0_19, .int .i64 a0_20, .string a0_21, .string a0_22, .slice A0_23 l0_23.length c0_23, .slice A0_24 l0_24.length c0_24], .int .i64 9223372036854775807] (by rfl) rfl rfl (by (try simp only [List.map_toArray, List.map_cons, List.map_nil]); first | done | rfl | (simp only [List.length_drop, List.length_take]; rfl)) ?_
        with_reducible refine (corebankref34_Principal.calls k1 a0_0 a0_1 a0_2 a0_3 a0_4 a0_5 a0_6 a0_7 a0_8 a0_9 a0_10 a0_11 a0_12 a0_13 a0_14 a0_15 a0_16 a0_17 a0_18 a0_19 a0_20 a0_21 a0_22 _ _ l0_23 _ _ l0_24 9223372036854775807 t129 _ ?side1 ?side2 ?side3 ?side4 A22.out).mono ?_
        (case side1 => repeat (first | exact (Kd.C_below HR0_23.out HB.out) | (with_reducible refine Kd.C_alloc ?_ _) | (with_reducible refine Kd.C_drewN ?_ _) | (with_reducible refine Kd.C_drew ?_)))
        (case side2 => exact HC0_23.out)
        (case side3 => repeat (first | exact (Kd.C_below HR0_24.out HB.out) | (with_reducible refine Kd.C_alloc ?_ _) | (with_reducible refine Kd.C_drewN ?_ _) | (with_reducible refine Kd.C_drew ?_)))
        (case side4 => exact HC0_24.out)
        rintro e w29 ⟨rfl, hb⟩
        refine ⟨_, rfl, ?_⟩
        have n0_ := Aside0.mk (blk_below (g := gb124) (by (with_reducible repeat (first | refine blk_drewN ?_ _ | refine blk_drew ?_ | refine blk_alloc ?_ _)); exact BK124.out) hb)
        have n1_ := Aside0.mk (below_step (by repeat (with_reducible first | exact HB.out | apply below_alloc | apply pw_below_drewN | apply below_drew1 | refine below_set ?_ GE124.out)) hb)
        clear BK124
        clear HB
        have BK124 := n0_
        have HB := n1_
        clear n0_ n1_
        (try clear hb)
        (try clear hb2)
        (try clear hk)
        (try clear hi)
        refine hK.out _ _ (cblk BK124.out) (fun hHeld => ?_)
        clear hK K
        refine norm_ (a' := ?_) ?_ ?_
        rotate_left
        ·show Act.put _ (some 46) _ = _
         simp only [Act.put, List.setIfInBounds_toArray, List.set_cons_zero, List.set_cons_succ, i64_w, i32_w]
         rfl
        refine pW 4 47 zb9_35 HT_.out ?_
        refine pW 5 48 zb9_36 HT_.out ?_
        refine pW 6 49 zb9_37 HT_.out ?_
        refine take_ (i := 7) (N := some 50) (v := ?_) (a' := ?_) zb9_38 rfl rfl (take_ofW HT_.out HW_.out (by kernel_rfl)) (fun _ _ _ h => h) (Or.inl ⟨by rfl, ?_⟩) hHeld ?_ ?_
        rotate_left
        ·rintro w' s0
         first
         | (refine ldS (x := ?_) ?_ ?_ s0 Tryd.underlying27 rfl siz27; rotate_left; rfl; rfl)
         | (have s0_ := cb25 s0; go_simp; with_reducible rfl)
        rotate_left
        ·simp only [Act.put, List.setIfInBounds_toArray, List.set_cons_zero, List.set_cons_succ, i64_w, i32_w]
         rfl
        refine take_ (i := 8) (N := some 51) (v := ?_) (a' := ?_) zb9_39 rfl rfl (take_ofW HT_.out HW_.out (by kernel_rfl)) (fun _ _ _ h => h) (Or.inl ⟨by rfl, ?_⟩) hHeld ?_ ?_
        rotate_left
        ·rintro w' s0
         first
         | (refine ldS (x := ?_) ?_ ?_ s0 Tryd.underlying27 rfl siz27; rotate_left; rfl; rfl)
         | (have s0_ := cb25 s0; go_simp; with_reducible rfl)
        rotate_left
        ·simp only [Act.put, List.setIfInBounds_toArray, List.set_cons_zero, List.set_cons_succ, i64_w, i32_w]
         rfl
        refine one_ (i := 9) (N := some 52) zb9_40 rfl rfl (one_of HT_.out (by kernel_rfl)) (by decide) (fun K hK => ?_)
        refine goes_ Tryd.func20 (by kernel_rfl) rfl #[.agg #[.int .i64 a0_0, .int .i64 a0_1, .int .i64 a0_2, .int .i64 a0_3, .int .i64 a0_4, .int .i64 a0_5, .int .i64 a0_6, .int .i64 a0_7, .int .i64 a0_8, .int .i64 a0_9, .int .i64 a0_10, .int .i64 a0_11, .int .i64 a0_12, .int .i64 a0_13, .int .i64 a0_14, .int .i64 a0_15, .int .i64 a0_16, .int .i64 a0_17, .int .i64 a0_18, .int .i64 a0_19, .int .i64 a0_20, .string a0_21, .string a0_22, .slice A0_23 l0_23.length c0_23, .slice A0_24 l0_24.length c0_24], .int .i64 9223372036854775807] (by rfl) rfl rfl (by (try simp only [List.map_toArray, List.map_cons, List.map_nil]); first | done | rfl | (simp only [List.length_drop, List.length_take]; rfl)) ?_
        with_reducible refine (corebankref34_Interest.calls k1 a0_0 a0_1 a0_2 a0_3 a0_4 a0_5 a0_6 a0_7 a0_8 a0_9 a0_10 a0_11 a0_12 a0_13 a0_14 a0_15 a0_16 a0_17 a0_18 a0_19 a0_20 a0_21 a0_22 _ _ l0_23 _ _ l0_24 9223372036854775807 t130 _ ?side1 ?side2 ?side3 ?side4 A26.out).mono ?_
        (case side1 => repeat (first | exact (Kd.C_below HR0_23.out HB.out) | (with_reducible refine Kd.C_alloc ?_ _) | (with_reducible refine Kd.C_drewN ?_ _) | (with_reducible refine Kd.C_drew ?_)))
        (case side2 => exact HC0_23.out)
        (case side3 => repeat (first | exact (Kd.C_below HR0_24.out HB.out) | (with_reducible refine Kd.C_alloc ?_ _) | (with_reducible refine Kd.C_drewN ?_ _) | (with_reducible refine Kd.C_drew ?_)))
        (case side4 => exact HC0_24.out)
        rintro e w30 ⟨rfl, hb⟩
        refine ⟨_, rfl, ?_⟩
        have n0_ := Aside0.mk (blk_below (g := gb124) (by (with_reducible repeat (first | refine blk_drewN ?_ _ | refine blk_drew ?_ | refine blk_alloc ?_ _)); exact BK124.out) hb)
        have n1_ := Aside0.mk (below_step (by repeat (with_reducible first | exact HB.out | apply below_alloc | apply pw_below_drewN | apply below_drew1 | refine below_set ?_ GE124.out)) hb)
        clear BK124
        clear HB
        have BK124 := n0_
        have HB := n1_
        clear n0_ n1_
        (try clear hb)
        (try clear hb2)
        (try clear hk)
        (try clear hi)
        refine hK.out _ _ (cblk BK124.out) (fun hHeld => ?_)
        clear hK K
        refine norm_ (a' := ?_) ?_ ?_
        rotate_left
        ·show Act.put _ (some 52) _ = _
         simp only [Act.put, List.setIfInBounds_toArray, List.set_cons_zero, List.set_cons_succ, i64_w, i32_w]
         rfl
        refine pW 10 53 zb9_41 HT_.out ?_
        refine pW 11 54 zb9_42 HT_.out ?_
        refine pW 12 55 zb9_43 HT_.out ?_
        refine pU 13 56 zb9_44 HT_.out ?_
        refine pU 14 57 zb9_45 HT_.out ?_
        refine pU 15 58 zb9_46 HT_.out ?_
        refine pU 16 59 zb9_47 HT_.out ?_
        refine pU 17 60 zb9_48 HT_.out ?_
        refine pW 18 61 zb9_49 HT_.out ?_
        refine done_ (done_of HT_.out (by kernel_rfl)) ?_
        try go_wp2_with (first | ((with_reducible refine gate_ld (ty := 27) rfl ?_); apply ldB (qu := Tryd.underlying27); rfl; rfl; rfl; (first | with_reducible exact BK124 | (apply Aside0.mk; apply blk_seq; (focus ((repeat (with_reducible first | exact BK124.out | apply blk_drewN | apply blk_drew | apply blk_alloc | apply blk_set)); done)); (first | (simp only [zS, zC, zD]; with_reducible rfl) | with_reducible rfl))); rfl; exact siz27) | ((with_reducible refine gate_st (ty := 27) rfl ?_); apply stB25 (qi := siz27); rfl; rfl; rfl; rfl; (apply Exists.intro; apply Exists.intro; apply And.intro; (focus ((repeat (with_reducible first | exact BK124.out | apply blk_drewN | apply blk_drew | apply blk_alloc | apply blk_set)); done)); (first | (simp only [Array.size_setIfInBounds]; rfl) | rfl)); rfl))
        go_meet
        case rel => exact ⟨_, (true), (by first | rfl | (simp [*]; done)), H', ⟨by have := HK1.out; first | omega | exact Nat.le_refl _⟩, ⟨by (with_reducible repeat (first | refine blk_drewN ?_ _ | refine blk_drew ?_ | refine blk_alloc ?_ _)); exact BK124.out⟩, ⟨by repeat (with_reducible first | exact HB.out | apply below_alloc | apply pw_below_drewN | apply below_drew1 | refine below_set ?_ GE124.out)⟩⟩
       ·rw [if_neg c27] at H
        have c27b0 : decide (t130 < a0_4) = false := decide_eq_false c27
        clear c27
        have H' := Aside0.mk H
        clear H
        try go_wp2_with (first | ((with_reducible refine gate_ld (ty := 27) rfl ?_); apply ldB (qu := Tryd.underlying27); rfl; rfl; rfl; (first | with_reducible exact BK124 | (apply Aside0.mk; apply blk_seq; (focus ((repeat (with_reducible first | exact BK124.out | apply blk_drewN | apply blk_drew | apply blk_alloc | apply blk_set)); done)); (first | (simp only [zS, zC, zD]; with_reducible rfl) | with_reducible rfl))); rfl; exact siz27) | ((with_reducible refine gate_st (ty := 27) rfl ?_); apply stB25 (qi := siz27); rfl; rfl; rfl; rfl; (apply Exists.intro; apply Exists.intro; apply And.intro; (focus ((repeat (with_reducible first | exact BK124.out | apply blk_drewN | apply blk_drew | apply blk_alloc | apply blk_set)); done)); (first | (simp only [Array.size_setIfInBounds]; rfl) | rfl)); rfl))
        have n0_ := Aside0.mk (blk_drew BK124.out)
        have n1_ := Aside0.mk (below_drew1 HB.out)
        clear BK124
        clear HB
        have BK124 := n0_
        have HB := n1_
        clear n0_ n1_
        refine start_ (n := 19) (S := fun w' => CBL w' gb124 [.int .i64 a0_0, .int .i64 a0_1, .int .i64 a0_2, .int .i64 a0_3, .int .i64 a0_4, .int .i64 a0_5, .int .i64 a0_6, .int .i64 a0_7, .int .i64 a0_8, .int .i64 a0_9, .int .i64 a0_10, .int .i64 a0_11, .int .i64 a0_12, .int .i64 a0_13, .int .i64 a0_14, .int .i64 a0_15, .int .i64 a0_16, .int .i64 a0_17, .int .i64 a0_18, .int .i64 a0_19, .int .i64 a0_20, .string a0_21, .string a0_22, .slice A0_23 l0_23.length c0_23, .slice A0_24 l0_24.length c0_24]) (ds := []) zb9_30 (by kernel_rfl) rfl rfl (cblk BK124.out) (fun hHeld => ?_); refine with_tabW corebankref34_Check.tab8 corebankref34_Check.bits8 (fun HT_ HW_ => ?_)
        generalize wr.drew = w31 at BK124 HB hHeld ⊢
        refine pW 0 43 zb9_31 HT_.out ?_
        refine take_ (i := 1) (N := some 44) (v := ?_) (a' := ?_) zb9_32 rfl rfl (take_ofW HT_.out HW_.out (by kernel_rfl)) (fun _ _ _ h => h) (Or.inl ⟨by rfl, ?_⟩) hHeld ?_ ?_
        rotate_left
        ·rintro w' s0
         first
         | (refine ldS (x := ?_) ?_ ?_ s0 Tryd.underlying27 rfl siz27; rotate_left; rfl; rfl)
         | (have s0_ := cb25 s0; go_simp; with_reducible rfl)
        rotate_left
        ·simp only [Act.put, List.setIfInBounds_toArray, List.set_cons_zero, List.set_cons_succ, i64_w, i32_w]
         rfl
        refine take_ (i := 2) (N := some 45) (v := ?_) (a' := ?_) zb9_33 rfl rfl (take_ofW HT_.out HW_.out (by kernel_rfl)) (fun _ _ _ h => h) (Or.inl ⟨by rfl, ?_⟩) hHeld ?_ ?_
        rotate_left
        ·rintro w' s0
         first
         | (refine ldS (x := ?_) ?_ ?_ s0 Tryd.underlying27 rfl siz27; rotate_left; rfl; rfl)
         | (have s0_ := cb25 s0; go_simp; with_reducible rfl)
        rotate_left
        ·simp only [Act.put, List.setIfInBounds_toArray, List.set_cons_zero, List.set_cons_succ, i64_w, i32_w]
         rfl
        refine one_ (i := 3) (N := some 46) zb9_34 rfl rfl (one_of HT_.out (by kernel_rfl)) (by decide) (fun K hK => ?_)
        refine goes_ Tryd.func19 (by kernel_rfl) rfl #[.agg #[.int .i64 a0_0, .int .i64 a0_1, .int .i64 a0_2, .int .i64 a0_3, .int .i64 a0_4, .int .i64 a0_5, .int .i64 a0_6, .int .i64 a0_7, .int .i64 a0_8, .int .i64 a0_9, .int .i64 a0_10, .int .i64 a0_11, .int .i64 a0_12, .int .i64 a0_13, .int .i64 a0_14, .int .i64 a0_15, .int .i64 a0_16, .int .i64 a0_17, .int .i64 a0_18, .int .i64 a0_19, .int .i64 a0_20, .string a0_21, .string a0_22, .slice A0_23 l0_23.length c0_23, .slice A0_24 l0_24.length c0_24], .int .i64 9223372036854775807] (by rfl) rfl rfl (by (try simp only [List.map_toArray, List.map_cons, List.map_nil]); first | done | rfl | (simp only [List.length_drop, List.length_take]; rfl)) ?_
        with_reducible refine (corebankref34_Principal.calls k1 a0_0 a0_1 a0_2 a0_3 a0_4 a0_5 a0_6 a0_7 a0_8 a0_9 a0_10 a0_11 a0_12 a0_13 a0_14 a0_15 a0_16 a0_17 a0_18 a0_19 a0_20 a0_21 a0_22 _ _ l0_23 _ _ l0_24 9223372036854775807 t129 _ ?side1 ?side2 ?side3 ?side4 A22.out).mono ?_
        (case side1 => repeat (first | exact (Kd.C_below HR0_23.out HB.out) | (with_reducible refine Kd.C_alloc ?_ _) | (with_reducible refine Kd.C_drewN ?_ _) | (with_reducible refine Kd.C_drew ?_)))
        (case side2 => exact HC0_23.out)
        (case side3 => repeat (first | exact (Kd.C_below HR0_24.out HB.out) | (with_reducible refine Kd.C_alloc ?_ _) | (with_reducible refine Kd.C_drewN ?_ _) | (with_reducible refine Kd.C_drew ?_)))
        (case side4 => exact HC0_24.out)
        rintro e w32 ⟨rfl, hb⟩
        refine ⟨_, rfl, ?_⟩
        have n0_ := Aside0.mk (blk_below (g := gb124) (by (with_reducible repeat (first | refine blk_drewN ?_ _ | refine blk_drew ?_ | refine blk_alloc ?_ _)); exact BK124.out) hb)
        have n1_ := Aside0.mk (below_step (by repeat (with_reducible first | exact HB.out | apply below_alloc | apply pw_below_drewN | apply below_drew1 | refine below_set ?_ GE124.out)) hb)
        clear BK124
        clear HB
        have BK124 := n0_
        have HB := n1_
        clear n0_ n1_
        (try clear hb)
        (try clear hb2)
        (try clear hk)
        (try clear hi)
        refine hK.out _ _ (cblk BK124.out) (fun hHeld => ?_)
        clear hK K
        refine norm_ (a' := ?_) ?_ ?_
        rotate_left
        ·show Act.put _ (some 46) _ = _
         simp only [Act.put, List.setIfInBounds_toArray, List.set_cons_zero, List.set_cons_succ, i64_w, i32_w]
         rfl
        refine pW 4 47 zb9_35 HT_.out ?_
        refine pW 5 48 zb9_36 HT_.out ?_
        refine pW 6 49 zb9_37 HT_.out ?_
        refine take_ (i := 7) (N := some 50) (v := ?_) (a' := ?_) zb9_38 rfl rfl (take_ofW HT_.out HW_.out (by kernel_rfl)) (fun _ _ _ h => h) (Or.inl ⟨by rfl, ?_⟩) hHeld ?_ ?_
        rotate_left
        ·rintro w' s0
         first
         | (refine ldS (x := ?_) ?_ ?_ s0 Tryd.underlying27 rfl siz27; rotate_left; rfl; rfl)
         | (have s0_ := cb25 s0; go_simp; with_reducible rfl)
        rotate_left
        ·simp only [Act.put, List.setIfInBounds_toArray, List.set_cons_zero, List.set_cons_succ, i64_w, i32_w]
         rfl
        refine take_ (i := 8) (N := some 51) (v := ?_) (a' := ?_) zb9_39 rfl rfl (take_ofW HT_.out HW_.out (by kernel_rfl)) (fun _ _ _ h => h) (Or.inl ⟨by rfl, ?_⟩) hHeld ?_ ?_
        rotate_left
        ·rintro w' s0
         first
         | (refine ldS (x := ?_) ?_ ?_ s0 Tryd.underlying27 rfl siz27; rotate_left; rfl; rfl)
         | (have s0_ := cb25 s0; go_simp; with_reducible rfl)
        rotate_left
        ·simp only [Act.put, List.setIfInBounds_toArray, List.set_cons_zero, List.set_cons_succ, i64_w, i32_w]
         rfl
        refine one_ (i := 9) (N := some 52) zb9_40 rfl rfl (one_of HT_.out (by kernel_rfl)) (by decide) (fun K hK => ?_)
        refine goes_ Tryd.func20 (by kernel_rfl) rfl #[.agg #[.int .i64 a0_0, .int .i64 a0_1, .int .i64 a0_2, .int .i64 a0_3, .int .i64 a0_4, .int .i64 a0_5, .int .i64 a0_6, .int .i64 a0_7, .int .i64 a0_8, .int .i64 a0_9, .int .i64 a0_10, .int .i64 a0_11, .int .i64 a0_12, .int .i64 a0_13, .int .i64 a0_14, .int .i64 a0_15, .int .i64 a0_16, .int .i64 a0_17, .int .i64 a0_18, .int .i64 a0_19, .int .i64 a0_20, .string a0_21, .string a0_22, .slice A0_23 l0_23.length c0_23, .slice A0_24 l0_24.length c0_24], .int .i64 9223372036854775807] (by rfl) rfl rfl (by (try simp only [List.map_toArray, List.map_cons, List.map_nil]); first | done | rfl | (simp only [List.length_drop, List.length_take]; rfl)) ?_
        with_reducible refine (corebankref34_Interest.calls k1 a0_0 a0_1 a0_2 a0_3 a0_4 a0_5 a0_6 a0_7 a0_8 a0_9 a0_10 a0_11 a0_12 a0_13 a0_14 a0_15 a0_16 a0_17 a0_18 a0_19 a0_20 a0_21 a0_22 _ _ l0_23 _ _ l0_24 9223372036854775807 t130 _ ?side1 ?side2 ?side3 ?side4 A26.out).mono ?_
        (case side1 => repeat (first | exact (Kd.C_below HR0_23.out HB.out) | (with_reducible refine Kd.C_alloc ?_ _) | (with_reducible refine Kd.C_drewN ?_ _) | (with_reducible refine Kd.C_drew ?_)))
        (case side2 => exact HC0_23.out)
        (case side3 => repeat (first | exact (Kd.C_below HR0_24.out HB.out) | (with_reducible refine Kd.C_alloc ?_ _) | (with_reducible refine Kd.C_drewN ?_ _) | (with_reducible refine Kd.C_drew ?_)))
        (case side4 => exact HC0_24.out)
        rintro e w33 ⟨rfl, hb⟩
        refine ⟨_, rfl, ?_⟩
        have n0_ := Aside0.mk (blk_below (g := gb124) (by (with_reducible repeat (first | refine blk_drewN ?_ _ | refine blk_drew ?_ | refine blk_alloc ?_ _)); exact BK124.out) hb)
        have n1_ := Aside0.mk (below_step (by repeat (with_reducible first | exact HB.out | apply below_alloc | apply pw_below_drewN | apply below_drew1 | refine below_set ?_ GE124.out)) hb)
        clear BK124
        clear HB
        have BK124 := n0_
        have HB := n1_
        clear n0_ n1_
        (try clear hb)
        (try clear hb2)
        (try clear hk)
        (try clear hi)
        refine hK.out _ _ (cblk BK124.out) (fun hHeld => ?_)
        clear hK K
        refine norm_ (a' := ?_) ?_ ?_
        rotate_left
        ·show Act.put _ (some 52) _ = _
         simp only [Act.put, List.setIfInBounds_toArray, List.set_cons_zero, List.set_cons_succ, i64_w, i32_w]
         rfl
        refine pW 10 53 zb9_41 HT_.out ?_
        refine pW 11 54 zb9_42 HT_.out ?_
        refine pW 12 55 zb9_43 HT_.out ?_
        refine pW 13 56 zb9_44 HT_.out ?_
        refine pW 15 58 (bz 19 49151) HT_.out ?_
        refine take_ (i := 14) (N := some 57) (v := ?_) (a' := ?_) zb9_46 rfl rfl (take_ofW HT_.out HW_.out (by kernel_rfl)) (fun _ _ _ h => h) (Or.inl ⟨by rfl, ?_⟩) hHeld ?_ ?_
        rotate_left
        ·rintro w' s0
         first
         | (refine ldS (x := ?_) ?_ ?_ s0 Tryd.underlying27 rfl siz27; rotate_left; rfl; rfl)
         | (have s0_ := cb25 s0; go_simp; with_reducible rfl)
        rotate_left
        ·simp only [Act.put, List.setIfInBounds_toArray, List.set_cons_zero, List.set_cons_succ, i64_w, i32_w]
         rfl
        refine take_ (i := 16) (N := some 59) (v := ?_) (a' := ?_) zb9_47 rfl rfl (take_ofW HT_.out HW_.out (by kernel_rfl)) (fun _ _ _ h => h) (Or.inl ⟨by rfl, ?_⟩) hHeld ?_ ?_
        rotate_left
        ·rintro w' s0
         first
         | (refine ldS (x := ?_) ?_ ?_ s0 Tryd.underlying27 rfl siz27; rotate_left; rfl; rfl)
         | (have s0_ := cb25 s0; go_simp; with_reducible rfl)
        rotate_left
        ·simp only [Act.put, List.setIfInBounds_toArray, List.set_cons_zero, List.set_cons_succ, i64_w, i32_w]
         rfl
        refine pW 17 60 zb9_48 HT_.out ?_
        refine pW 18 61 zb9_49 HT_.out ?_
        refine done_ (done_of HT_.out (by kernel_rfl)) ?_
        try go_wp2_with (first | ((with_reducible refine gate_ld (ty := 27) rfl ?_); apply ldB (qu := Tryd.underlying27); rfl; rfl; rfl; (first | with_reducible exact BK124 | (apply Aside0.mk; apply blk_seq; (focus ((repeat (with_reducible first | exact BK124.out | apply blk_drewN | apply blk_drew | apply blk_alloc | apply blk_set)); done)); (first | (simp only [zS, zC, zD]; with_reducible rfl) | with_reducible rfl))); rfl; exact siz27) | ((with_reducible refine gate_st (ty := 27) rfl ?_); apply stB25 (qi := siz27); rfl; rfl; rfl; rfl; (apply Exists.intro; apply Exists.intro; apply And.intro; (focus ((repeat (with_reducible first | exact BK124.out | apply blk_drewN | apply blk_drew | apply blk_alloc | apply blk_set)); done)); (first | (simp only [Array.size_setIfInBounds]; rfl) | rfl)); rfl))
        go_meet
        case rel => exact ⟨_, (decide (a0_10 > a0_9)), (by first | rfl | (simp [*]; done)), H', ⟨by have := HK1.out; first | omega | exact Nat.le_refl _⟩, ⟨by (with_reducible repeat (first | refine blk_drewN ?_ _ | refine blk_drew ?_ | refine blk_alloc ?_ _)); exact BK124.out⟩, ⟨by repeat (with_reducible first | exact HB.out | apply below_alloc | apply pw_below_drewN | apply below_drew1 | refine below_set ?_ GE124.out)⟩⟩
     case rest =>
      clear HC20
      try clear c1
      try clear c2
      try clear p2
      try clear c19
      try clear c20
      try clear c23
      try clear c23b0
      try clear c27
      try clear c27b0
      try clear hcz21_22
      try clear hcz21_23
      try clear hcz21_24
      try clear hfz21
      obtain ⟨kq, x61_19, rfl, HA, HJ19, BK124, HB⟩ := hcut
      cases kq with
      | zero => exact absurd HA.out (by simp [corebankref34_Check.j2])
      | succ kj19 =>
       have H := HA.out
       clear HA
       simp only [corebankref34_Check.j2] at H
       by_cases c34 : x61_19 = true
       ·subst c34
        have H1 : (some 25) = some r := by rw [if_pos rfl] at H; exact H
        clear H
        have H := H1
        clear H1
        obtain rfl := Option.some.inj H
        go_wp2_with (first | ((with_reducible refine gate_ld (ty := 27) rfl ?_); apply ldB (qu := Tryd.underlying27); rfl; rfl; rfl; (first | with_reducible exact BK124 | (apply Aside0.mk; apply blk_seq; (focus ((repeat (with_reducible first | exact BK124.out | apply blk_drewN | apply blk_drew | apply blk_alloc | apply blk_set)); done)); (first | (simp only [zS, zC, zD]; with_reducible rfl) | with_reducible rfl))); rfl; exact siz27) | ((with_reducible refine gate_st (ty := 27) rfl ?_); apply stB25 (qi := siz27); rfl; rfl; rfl; rfl; (apply Exists.intro; apply Exists.intro; apply And.intro; (focus ((repeat (with_reducible first | exact BK124.out | apply blk_drewN | apply blk_drew | apply blk_alloc | apply blk_set)); done)); (first | (simp only [Array.size_setIfInBounds]; rfl) | rfl)); rfl))
        go_ret
        exact ⟨by first | rfl | (simp [errW_none, errW_some] <;> rfl) | (simp [*, errW_none, errW_some] <;> rfl), by repeat (with_reducible first | exact HB.out | apply below_alloc | apply pw_below_drewN | apply below_drew1 | refine below_set ?_ GE124.out)⟩
       ·replace c34 := Bool.eq_false_iff.mpr c34
        subst c34
        have H1 : (if (l0_24.length : Int) = 0 then ((corebankref34_Principal.f kj19 a0_0 a0_1 a0_2 a0_3 a0_4 a0_5 a0_6 a0_7 a0_8 a0_9 a0_10 a0_11 a0_12 a0_13 a0_14 a0_15 a0_16 a0_17 a0_18 a0_19 a0_20 a0_21 a0_22 l0_23 l0_24 9223372036854775807).bind fun t131 => (if t131 = a0_12 then (if a0_2 = 3 then (corebankref34_Check.j3 kj19 false a0_0 a0_1 a0_2 a0_3 a0_4 a0_5 a0_6 a0_7 a0_8 a0_9 a0_10 a0_11 a0_12 a0_13 a0_14 a0_15 a0_16 a0_17 a0_18 a0_19 a0_20 a0_21 a0_22 l0_23 l0_24) else ((corebankref34_Left.f kj19 a0_0 a0_1 a0_2 a0_3 a0_4 a0_5 a0_6 a0_7 a0_8 a0_9 a0_10 a0_11 a0_12 a0_13 a0_14 a0_15 a0_16 a0_17 a0_18 a0_19 a0_20 a0_21 a0_22 l0_23 l0_24).bind fun t132 => (corebankref34_Check.j3 kj19 (t132 != (a0_2 == 1)) a0_0 a0_1 a0_2 a0_3 a0_4 a0_5 a0_6 a0_7 a0_8 a0_9 a0_10 a0_11 a0_12 a0_13 a0_14 a0_15 a0_16 a0_17 a0_18 a0_19 a0_20 a0_21 a0_22 l0_23 l0_24))) else (corebankref34_Check.j3 kj19 true a0_0 a0_1 a0_2 a0_3 a0_4 a0_5 a0_6 a0_7 a0_8 a0_9 a0_10 a0_11 a0_12 a0_13 a0_14 a0_15 a0_16 a0_17 a0_18 a0_19 a0_20 a0_21 a0_22 l0_23 l0_24))) else (if a0_2 = 3 then (corebankref34_Check.j3 kj19 false a0_0 a0_1 a0_2 a0_3 a0_4 a0_5 a0_6 a0_7 a0_8 a0_9 a0_10 a0_11 a0_12 a0_13 a0_14 a0_15 a0_16 a0_17 a0_18 a0_19 a0_20 a0_21 a0_22 l0_23 l0_24) else ((corebankref34_Left.f kj19 a0_0 a0_1 a0_2 a0_3 a0_4 a0_5 a0_6 a0_7 a0_8 a0_9 a0_10 a0_11 a0_12 a0_13 a0_14 a0_15 a0_16 a0_17 a0_18 a0_19 a0_20 a0_21 a0_22 l0_23 l0_24).bind fun t133 => (corebankref34_Check.j3 kj19 (t133 != (a0_2 == 1)) a0_0 a0_1 a0_2 a0_3 a0_4 a0_5 a0_6 a0_7 a0_8 a0_9 a0_10 a0_11 a0_12 a0_13 a0_14 a0_15 a0_16 a0_17 a0_18 a0_19 a0_20 a0_21 a0_22 l0_23 l0_24)))) = some r := by rw [if_neg (show ¬ (false = true) by decide)] at H; exact H
        clear H
        have H := H1
        clear H1
        have HC35 := Aside0.mk H
        clear H
        go_upto_region 10 with (fail)
        go_cut [86] (fun v86 wc => ∃ (kq : Nat) (x86_34 : Bool), v86 = .bool x86_34 ∧ Aside0 (corebankref34_Check.j3 kq x86_34 a0_0 a0_1 a0_2 a0_3 a0_4 a0_5 a0_6 a0_7 a0_8 a0_9 a0_10 a0_11 a0_12 a0_13 a0_14 a0_15 a0_16 a0_17 a0_18 a0_19 a0_20 a0_21 a0_22 l0_23 l0_24 = some r) ∧ Aside0 (kq ≤ kj19) ∧ Aside0 (wc.heap[gb124]? = some (.cells #[.int .i64 a0_0, .int .i64 a0_1, .int .i64 a0_2, .int .i64 a0_3, .int .i64 a0_4, .int .i64 a0_5, .int .i64 a0_6, .int .i64 a0_7, .int .i64 a0_8, .int .i64 a0_9, .int .i64 a0_10, .int .i64 a0_11, .int .i64 a0_12, .int .i64 a0_13, .int .i64 a0_14, .int .i64 a0_15, .int .i64 a0_16, .int .i64 a0_17, .int .i64 a0_18, .int .i64 a0_19, .int .i64 a0_20, .string a0_21, .string a0_22, (.slice A0_23 l0_23.length c0_23), (.slice A0_24 l0_24.length c0_24)] 27 (0, 0))) ∧ Aside0 (Below w.heap.size w wc))
        case first =>
         have H := HC35.out
         clear HC35
         by_cases c36 : (l0_24.length : Int) = 0
         ·rw [if_pos c36] at H
          have c36b0 : ((l0_24.length : Int) == 0) = true := beq_iff_eq.mpr c36
          have c36b1 : ((l0_24.length : Int) != 0) = false := bne_eq_false_iff_eq.mpr c36
          clear c36
          (first | rw [c36b0] | (simp only [i64_w, i32_w]; rw [c36b0]) | skip)
          replace H := Option.bind_eq_some_iff.mp H
          obtain ⟨t131, A370, H⟩ := H
          replace H : (if t131 = a0_12 then (if a0_2 = 3 then (corebankref34_Check.j3 kj19 false a0_0 a0_1 a0_2 a0_3 a0_4 a0_5 a0_6 a0_7 a0_8 a0_9 a0_10 a0_11 a0_12 a0_13 a0_14 a0_15 a0_16 a0_17 a0_18 a0_19 a0_20 a0_21 a0_22 l0_23 l0_24) else ((corebankref34_Left.f kj19 a0_0 a0_1 a0_2 a0_3 a0_4 a0_5 a0_6 a0_7 a0_8 a0_9 a0_10 a0_11 a0_12 a0_13 a0_14 a0_15 a0_16 a0_17 a0_18 a0_19 a0_20 a0_21 a0_22 l0_23 l0_24).bind fun t132 => (corebankref34_Check.j3 kj19 (t132 != (a0_2 == 1)) a0_0 a0_1 a0_2 a0_3 a0_4 a0_5 a0_6 a0_7 a0_8 a0_9 a0_10 a0_11 a0_12 a0_13 a0_14 a0_15 a0_16 a0_17 a0_18 a0_19 a0_20 a0_21 a0_22 l0_23 l0_24))) else (corebankref34_Check.j3 kj19 true a0_0 a0_1 a0_2 a0_3 a0_4 a0_5 a0_6 a0_7 a0_8 a0_9 a0_10 a0_11 a0_12 a0_13 a0_14 a0_15 a0_16 a0_17 a0_18 a0_19 a0_20 a0_21 a0_22 l0_23 l0_24)) = some r := H
          have A37 := Aside0.mk A370
          clear A370
          by_cases c38 : t131 = a0_12
          ·rw [if_pos c38] at H
           have c38b0 : (t131 == a0_12) = true := beq_iff_eq.mpr c38
           have c38b1 : (t131 != a0_12) = false := bne_eq_false_iff_eq.mpr c38
           clear c38
           by_cases c39 : a0_2 = 3
           ·rw [if_pos c39] at H
            have c39b0 : (a0_2 == 3) = true := beq_iff_eq.mpr c39
            have c39b1 : (a0_2 != 3) = false := bne_eq_false_iff_eq.mpr c39
            clear c39
            have H' := Aside0.mk H
            clear H
            try go_wp2_with (first | ((with_reducible refine gate_ld (ty := 27) rfl ?_); apply ldB (qu := Tryd.underlying27); rfl; rfl; rfl; (first | with_reducible exact BK124 | (apply Aside0.mk; apply blk_seq; (focus ((repeat (with_reducible first | exact BK124.out | apply blk_drewN | apply blk_drew | apply blk_alloc | apply blk_set)); done)); (first | (simp only [zS, zC, zD]; with_reducible rfl) | with_reducible rfl))); rfl; exact siz27) | ((with_reducible refine gate_st (ty := 27) rfl ?_); apply stB25 (qi := siz27); rfl; rfl; rfl; rfl; (apply Exists.intro; apply Exists.intro; apply And.intro; (focus ((repeat (with_reducible first | exact BK124.out | apply blk_drewN | apply blk_drew | apply blk_alloc | apply blk_set)); done)); (first | (simp only [Array.size_setIfInBounds]; rfl) | rfl)); rfl))
            have n0_ := Aside0.mk (blk_drew BK124.out)
            have n1_ := Aside0.mk (below_drew1 HB.out)
            clear BK124
            clear HB
            have BK124 := n0_
            have HB := n1_
            clear n0_ n1_
            refine start_ (n := 25) (S := fun w' => CBL w' gb124 [.int .i64 a0_0, .int .i64 a0_1, .int .i64 a0_2, .int .i64 a0_3, .int .i64 a0_4, .int .i64 a0_5, .int .i64 a0_6, .int .i64 a0_7, .int .i64 a0_8, .int .i64 a0_9, .int .i64 a0_10, .int .i64 a0_11, .int .i64 a0_12, .int .i64 a0_13, .int .i64 a0_14, .int .i64 a0_15, .int .i64 a0_16, .int .i64 a0_17, .int .i64 a0_18, .int .i64 a0_19, .int .i64 a0_20, .string a0_21, .string a0_22, .slice A0_23 l0_23.length c0_23, .slice A0_24 l0_24.length c0_24]) (ds := []) zb9_50 (by kernel_rfl) rfl rfl (cblk BK124.out) (fun hHeld => ?_); refine with_tabW corebankref34_Check.tab10 corebankref34_Check.bits10 (fun HT_ HW_ => ?_)
            generalize wc.drew = w40 at BK124 HB hHeld ⊢
            refine pW 0 62 zb9_51 HT_.out ?_
            refine take_ (i := 1) (N := some 63) (v := ?_) (a' := ?_) zb9_52 rfl rfl (take_ofW HT_.out HW_.out (by kernel_rfl)) (fun _ _ _ h => h) (Or.inl ⟨by rfl, ?_⟩) hHeld ?_ ?_
            rotate_left
            ·rintro w' s0
             first
             | (refine ldS (x := ?_) ?_ ?_ s0 Tryd.underlying27 rfl siz27; rotate_left; rfl; rfl)
             | (have s0_ := cb25 s0; go_simp; with_reducible rfl)
            rotate_left
            ·simp only [Act.put, List.setIfInBounds_toArray, List.set_cons_zero, List.set_cons_succ, i64_w, i32_w]
             rfl
            refine pW 2 64 zb9_53 HT_.out ?_
            refine pW 3 65 zb9_54 HT_.out ?_
            refine pW 4 66 zb9_55 HT_.out ?_
            refine pW 7 69 zb9_56 HT_.out ?_
            refine pW 8 70 zb9_57 HT_.out ?_
            refine take_ (i := 5) (N := some 67) (v := ?_) (a' := ?_) zb9_58 rfl rfl (take_ofW HT_.out HW_.out (by kernel_rfl)) (fun _ _ _ h => h) (Or.inl ⟨by rfl, ?_⟩) hHeld ?_ ?_
            rotate_left
            ·rintro w' s0
             first
             | (refine ldS (x := ?_) ?_ ?_ s0 Tryd.underlying27 rfl siz27; rotate_left; rfl; rfl)
             | (have s0_ := cb25 s0; go_simp; with_reducible rfl)
            rotate_left
            ·simp only [Act.put, List.setIfInBounds_toArray, List.set_cons_zero, List.set_cons_succ, i64_w, i32_w]
             rfl
            refine take_ (i := 9) (N := some 71) (v := ?_) (a' := ?_) zb9_59 rfl rfl (take_ofW HT_.out HW_.out (by kernel_rfl)) (fun _ _ _ h => h) (Or.inl ⟨by rfl, ?_⟩) hHeld ?_ ?_
            rotate_left
            ·rintro w' s0
             first
             | (refine ldS (x := ?_) ?_ ?_ s0 Tryd.underlying27 rfl siz27; rotate_left; rfl; rfl)
             | (have s0_ := cb25 s0; go_simp; with_reducible rfl)
            rotate_left
            ·simp only [Act.put, List.setIfInBounds_toArray, List.set_cons_zero, List.set_cons_succ, i64_w, i32_w]
             rfl
            refine one_ (i := 6) (N := some 68) zb9_60 rfl rfl (one_of HT_.out (by kernel_rfl)) (by decide) (fun K hK => ?_)
            refine goes_ Tryd.func19 (by kernel_rfl) rfl #[.agg #[.int .i64 a0_0, .int .i64 a0_1, .int .i64 a0_2, .int .i64 a0_3, .int .i64 a0_4, .int .i64 a0_5, .int .i64 a0_6, .int .i64 a0_7, .int .i64 a0_8, .int .i64 a0_9, .int .i64 a0_10, .int .i64 a0_11, .int .i64 a0_12, .int .i64 a0_13, .int .i64 a0_14, .int .i64 a0_15, .int .i64 a0_16, .int .i64 a0_17, .int .i64 a0_18, .int .i64 a0_19, .int .i64 a0_20, .string a0_21, .string a0_22, .slice A0_23 l0_23.length c0_23, .slice A0_24 l0_24.length c0_24], .int .i64 9223372036854775807] (by rfl) rfl rfl (by (try simp only [List.map_toArray, List.map_cons, List.map_nil]); first | done | rfl | (simp only [List.length_drop, List.length_take]; rfl)) ?_
            with_reducible refine (corebankref34_Principal.calls kj19 a0_0 a0_1 a0_2 a0_3 a0_4 a0_5 a0_6 a0_7 a0_8 a0_9 a0_10 a0_11 a0_12 a0_13 a0_14 a0_15 a0_16 a0_17 a0_18 a0_19 a0_20 a0_21 a0_22 _ _ l0_23 _ _ l0_24 9223372036854775807 t131 _ ?side1 ?side2 ?side3 ?side4 A37.out).mono ?_
            (case side1 => repeat (first | exact (Kd.C_below HR0_23.out HB.out) | (with_reducible refine Kd.C_alloc ?_ _) | (with_reducible refine Kd.C_drewN ?_ _) | (with_reducible refine Kd.C_drew ?_)))
            (case side2 => exact HC0_23.out)
            (case side3 => repeat (first | exact (Kd.C_below HR0_24.out HB.out) | (with_reducible refine Kd.C_alloc ?_ _) | (with_reducible refine Kd.C_drewN ?_ _) | (with_reducible refine Kd.C_drew ?_)))
            (case side4 => exact HC0_24.out)
            rintro e w41 ⟨rfl, hb⟩
            refine ⟨_, rfl, ?_⟩
            have n0_ := Aside0.mk (blk_below (g := gb124) (by (with_reducible repeat (first | refine blk_drewN ?_ _ | refine blk_drew ?_ | refine blk_alloc ?_ _)); exact BK124.out) hb)
            have n1_ := Aside0.mk (below_step (by repeat (with_reducible first | exact HB.out | apply below_alloc | apply pw_below_drewN | apply below_drew1 | refine below_set ?_ GE124.out)) hb)
            clear BK124
            clear HB
            have BK124 := n0_
            have HB := n1_
            clear n0_ n1_
            (try clear hb)
            (try clear hb2)
            (try clear hk)
            (try clear hi)
            refine hK.out _ _ (cblk BK124.out) (fun hHeld => ?_)
            clear hK K
            refine norm_ (a' := ?_) ?_ ?_
            rotate_left
            ·show Act.put _ (some 68) _ = _
             simp only [Act.put, List.setIfInBounds_toArray, List.set_cons_zero, List.set_cons_succ, i64_w, i32_w]
             rfl
            refine pW 10 72 zb9_61 HT_.out ?_
            refine pW 11 73 zb9_62 HT_.out ?_
            refine pW 12 74 zb9_63 HT_.out ?_
            refine pW 13 75 zb9_64 HT_.out ?_
            refine take_ (i := 14) (N := some 76) (v := ?_) (a' := ?_) zb9_65 rfl rfl (take_ofW HT_.out HW_.out (by kernel_rfl)) (fun _ _ _ h => h) (Or.inl ⟨by rfl, ?_⟩) hHeld ?_ ?_
            rotate_left
            ·rintro w' s0
             first
             | (refine ldS (x := ?_) ?_ ?_ s0 Tryd.underlying27 rfl siz27; rotate_left; rfl; rfl)
             | (have s0_ := cb25 s0; go_simp; with_reducible rfl)
            rotate_left
            ·simp only [Act.put, List.setIfInBounds_toArray, List.set_cons_zero, List.set_cons_succ, i64_w, i32_w]
             rfl
            refine pW 15 77 zb9_66 HT_.out ?_
            refine pW 16 78 zb9_67 HT_.out ?_
            refine pU 17 79 zb9_68 HT_.out ?_
            refine pU 18 80 zb9_69 HT_.out ?_
            refine pU 19 81 zb9_70 HT_.out ?_
            refine pU 20 82 zb9_71 HT_.out ?_
            refine pU 21 83 zb9_72 HT_.out ?_
            refine pU 22 84 zb9_73 HT_.out ?_
            refine pW 23 85 zb9_74 HT_.out ?_
            refine pW 24 86 zb9_75 HT_.out ?_
            refine done_ (done_of HT_.out (by kernel_rfl)) ?_
            try go_wp2_with (first | ((with_reducible refine gate_ld (ty := 27) rfl ?_); apply ldB (qu := Tryd.underlying27); rfl; rfl; rfl; (first | with_reducible exact BK124 | (apply Aside0.mk; apply blk_seq; (focus ((repeat (with_reducible first | exact BK124.out | apply blk_drewN | apply blk_drew | apply blk_alloc | apply blk_set)); done)); (first | (simp only [zS, zC, zD]; with_reducible rfl) | with_reducible rfl))); rfl; exact siz27) | ((with_reducible refine gate_st (ty := 27) rfl ?_); apply stB25 (qi := siz27); rfl; rfl; rfl; rfl; (apply Exists.intro; apply Exists.intro; apply And.intro; (focus ((repeat (with_reducible first | exact BK124.out | apply blk_drewN | apply blk_drew | apply blk_alloc | apply blk_set)); done)); (first | (simp only [Array.size_setIfInBounds]; rfl) | rfl)); rfl))
            go_meet
            case rel => exact ⟨_, (false), (by first | rfl | (simp [*]; done)), H', ⟨by have := HK1.out; have := HJ19.out; first | omega | exact Nat.le_refl _⟩, ⟨by (with_reducible repeat (first | refine blk_drewN ?_ _ | refine blk_drew ?_ | refine blk_alloc ?_ _)); exact BK124.out⟩, ⟨by repeat (with_reducible first | exact HB.out | apply below_alloc | apply pw_below_drewN | apply below_drew1 | refine below_set ?_ GE124.out)⟩⟩
           ·rw [if_neg c39] at H
            have c39b0 : (a0_2 == 3) = false := beq_eq_false_iff_ne.mpr c39
            have c39b1 : (a0_2 != 3) = true := bne_iff_ne.mpr c39
            replace H := Option.bind_eq_some_iff.mp H
            obtain ⟨t132, A420, H⟩ := H
            replace H : (corebankref34_Check.j3 kj19 (t132 != (a0_2 == 1)) a0_0 a0_1 a0_2 a0_3 a0_4 a0_5 a0_6 a0_7 a0_8 a0_9 a0_10 a0_11 a0_12 a0_13 a0_14 a0_15 a0_16 a0_17 a0_18 a0_19 a0_20 a0_21 a0_22 l0_23 l0_24) = some r := H
            have A42 := Aside0.mk A420
            clear A420
            have H' := Aside0.mk H
            clear H
            try go_wp2_with (first | ((with_reducible refine gate_ld (ty := 27) rfl ?_); apply ldB (qu := Tryd.underlying27); rfl; rfl; rfl; (first | with_reducible exact BK124 | (apply Aside0.mk; apply blk_seq; (focus ((repeat (with_reducible first | exact BK124.out | apply blk_drewN | apply blk_drew | apply blk_alloc | apply blk_set)); done)); (first | (simp only [zS, zC, zD]; with_reducible rfl) | with_reducible rfl))); rfl; exact siz27) | ((with_reducible refine gate_st (ty := 27) rfl ?_); apply stB25 (qi := siz27); rfl; rfl; rfl; rfl; (apply Exists.intro; apply Exists.intro; apply And.intro; (focus ((repeat (with_reducible first | exact BK124.out | apply blk_drewN | apply blk_drew | apply blk_alloc | apply blk_set)); done)); (first | (simp only [Array.size_setIfInBounds]; rfl) | rfl)); rfl))
            have n0_ := Aside0.mk (blk_drew BK124.out)
            have n1_ := Aside0.mk (below_drew1 HB.out)
            clear BK124
            clear HB
            have BK124 := n0_
            have HB := n1_
            clear n0_ n1_
            refine start_ (n := 25) (S := fun w' => CBL w' gb124 [.int .i64 a0_0, .int .i64 a0_1, .int .i64 a0_2, .int .i64 a0_3, .int .i64 a0_4, .int .i64 a0_5, .int .i64 a0_6, .int .i64 a0_7, .int .i64 a0_8, .int .i64 a0_9, .int .i64 a0_10, .int .i64 a0_11, .int .i64 a0_12, .int .i64 a0_13, .int .i64 a0_14, .int .i64 a0_15, .int .i64 a0_16, .int .i64 a0_17, .int .i64 a0_18, .int .i64 a0_19, .int .i64 a0_20, .string a0_21, .string a0_22, .slice A0_23 l0_23.length c0_23, .slice A0_24 l0_24.length c0_24]) (ds := []) zb9_50 (by kernel_rfl) rfl rfl (cblk BK124.out) (fun hHeld => ?_); refine with_tabW corebankref34_Check.tab10 corebankref34_Check.bits10 (fun HT_ HW_ => ?_)
            generalize wc.drew = w43 at BK124 HB hHeld ⊢
            refine pW 0 62 zb9_51 HT_.out ?_
            refine take_ (i := 1) (N := some 63) (v := ?_) (a' := ?_) zb9_52 rfl rfl (take_ofW HT_.out HW_.out (by kernel_rfl)) (fun _ _ _ h => h) (Or.inl ⟨by rfl, ?_⟩) hHeld ?_ ?_
            rotate_left
            ·rintro w' s0
             first
             | (refine ldS (x := ?_) ?_ ?_ s0 Tryd.underlying27 rfl siz27; rotate_left; rfl; rfl)
             | (have s0_ := cb25 s0; go_simp; with_reducible rfl)
            rotate_left
            ·simp only [Act.put, List.setIfInBounds_toArray, List.set_cons_zero, List.set_cons_succ, i64_w, i32_w]
             rfl
            refine pW 2 64 zb9_53 HT_.out ?_
            refine pW 3 65 zb9_54 HT_.out ?_
            refine pW 4 66 zb9_55 HT_.out ?_
            refine pW 7 69 zb9_56 HT_.out ?_
            refine pW 8 70 zb9_57 HT_.out ?_
            refine take_ (i := 5) (N := some 67) (v := ?_) (a' := ?_) zb9_58 rfl rfl (take_ofW HT_.out HW_.out (by kernel_rfl)) (fun _ _ _ h => h) (Or.inl ⟨by rfl, ?_⟩) hHeld ?_ ?_
            rotate_left
            ·rintro w' s0
             first
             | (refine ldS (x := ?_) ?_ ?_ s0 Tryd.underlying27 rfl siz27; rotate_left; rfl; rfl)
             | (have s0_ := cb25 s0; go_simp; with_reducible rfl)
            rotate_left
            ·simp only [Act.put, List.setIfInBounds_toArray, List.set_cons_zero, List.set_cons_succ, i64_w, i32_w]
             rfl
            refine take_ (i := 9) (N := some 71) (v := ?_) (a' := ?_) zb9_59 rfl rfl (take_ofW HT_.out HW_.out (by kernel_rfl)) (fun _ _ _ h => h) (Or.inl ⟨by rfl, ?_⟩) hHeld ?_ ?_
            rotate_left
            ·rintro w' s0
             first
             | (refine ldS (x := ?_) ?_ ?_ s0 Tryd.underlying27 rfl siz27; rotate_left; rfl; rfl)
             | (have s0_ := cb25 s0; go_simp; with_reducible rfl)
            rotate_left
            ·simp only [Act.put, List.setIfInBounds_toArray, List.set_cons_zero, List.set_cons_succ, i64_w, i32_w]
             rfl
            refine one_ (i := 6) (N := some 68) zb9_60 rfl rfl (one_of HT_.out (by kernel_rfl)) (by decide) (fun K hK => ?_)
            refine goes_ Tryd.func19 (by kernel_rfl) rfl #[.agg #[.int .i64 a0_0, .int .i64 a0_1, .int .i64 a0_2, .int .i64 a0_3, .int .i64 a0_4, .int .i64 a0_5, .int .i64 a0_6, .int .i64 a0_7, .int .i64 a0_8, .int .i64 a0_9, .int .i64 a0_10, .int .i64 a0_11, .int .i64 a0_12, .int .i64 a0_13, .int .i64 a0_14, .int .i64 a0_15, .int .i64 a0_16, .int .i64 a0_17, .int .i64 a0_18, .int .i64 a0_19, .int .i64 a0_20, .string a0_21, .string a0_22, .slice A0_23 l0_23.length c0_23, .slice A0_24 l0_24.length c0_24], .int .i64 9223372036854775807] (by rfl) rfl rfl (by (try simp only [List.map_toArray, List.map_cons, List.map_nil]); first | done | rfl | (simp only [List.length_drop, List.length_take]; rfl)) ?_
            with_reducible refine (corebankref34_Principal.calls kj19 a0_0 a0_1 a0_2 a0_3 a0_4 a0_5 a0_6 a0_7 a0_8 a0_9 a0_10 a0_11 a0_12 a0_13 a0_14 a0_15 a0_16 a0_17 a0_18 a0_19 a0_20 a0_21 a0_22 _ _ l0_23 _ _ l0_24 9223372036854775807 t131 _ ?side1 ?side2 ?side3 ?side4 A37.out).mono ?_
            (case side1 => repeat (first | exact (Kd.C_below HR0_23.out HB.out) | (with_reducible refine Kd.C_alloc ?_ _) | (with_reducible refine Kd.C_drewN ?_ _) | (with_reducible refine Kd.C_drew ?_)))
            (case side2 => exact HC0_23.out)
            (case side3 => repeat (first | exact (Kd.C_below HR0_24.out HB.out) | (with_reducible refine Kd.C_alloc ?_ _) | (with_reducible refine Kd.C_drewN ?_ _) | (with_reducible refine Kd.C_drew ?_)))
            (case side4 => exact HC0_24.out)
            rintro e w44 ⟨rfl, hb⟩
            refine ⟨_, rfl, ?_⟩
            have n0_ := Aside0.mk (blk_below (g := gb124) (by (with_reducible repeat (first | refine blk_drewN ?_ _ | refine blk_drew ?_ | refine blk_alloc ?_ _)); exact BK124.out) hb)
            have n1_ := Aside0.mk (below_step (by repeat (with_reducible first | exact HB.out | apply below_alloc | apply pw_below_drewN | apply below_drew1 | refine below_set ?_ GE124.out)) hb)
            clear BK124
            clear HB
            have BK124 := n0_
            have HB := n1_
            clear n0_ n1_
            (try clear hb)
            (try clear hb2)
            (try clear hk)
            (try clear hi)
            refine hK.out _ _ (cblk BK124.out) (fun hHeld => ?_)
            clear hK K
            refine norm_ (a' := ?_) ?_ ?_
            rotate_left
            ·show Act.put _ (some 68) _ = _
             simp only [Act.put, List.setIfInBounds_toArray, List.set_cons_zero, List.set_cons_succ, i64_w, i32_w]
             rfl
            refine pW 10 72 zb9_61 HT_.out ?_
            refine pW 11 73 zb9_62 HT_.out ?_
            refine pW 12 74 zb9_63 HT_.out ?_
            refine pW 13 75 zb9_64 HT_.out ?_
            refine take_ (i := 14) (N := some 76) (v := ?_) (a' := ?_) zb9_65 rfl rfl (take_ofW HT_.out HW_.out (by kernel_rfl)) (fun _ _ _ h => h) (Or.inl ⟨by rfl, ?_⟩) hHeld ?_ ?_
            rotate_left
            ·rintro w' s0
             first
             | (refine ldS (x := ?_) ?_ ?_ s0 Tryd.underlying27 rfl siz27; rotate_left; rfl; rfl)
             | (have s0_ := cb25 s0; go_simp; with_reducible rfl)
            rotate_left
            ·simp only [Act.put, List.setIfInBounds_toArray, List.set_cons_zero, List.set_cons_succ, i64_w, i32_w]
             rfl
            refine pW 15 77 zb9_66 HT_.out ?_
            refine pW 16 78 zb9_67 HT_.out ?_
            refine pW 19 81 zb9_76 HT_.out ?_
            refine take_ (i := 17) (N := some 79) (v := ?_) (a' := ?_) zb9_77 rfl rfl (take_ofW HT_.out HW_.out (by kernel_rfl)) (fun _ _ _ h => h) (Or.inl ⟨by rfl, ?_⟩) hHeld ?_ ?_
            rotate_left
            ·rintro w' s0
             first
             | (refine ldS (x := ?_) ?_ ?_ s0 Tryd.underlying27 rfl siz27; rotate_left; rfl; rfl)
             | (have s0_ := cb25 s0; go_simp; with_reducible rfl)
            rotate_left
            ·simp only [Act.put, List.setIfInBounds_toArray, List.set_cons_zero, List.set_cons_succ, i64_w, i32_w]
             rfl
            refine take_ (i := 20) (N := some 82) (v := ?_) (a' := ?_) zb9_78 rfl rfl (take_ofW HT_.out HW_.out (by kernel_rfl)) (fun _ _ _ h => h) (Or.inl ⟨by rfl, ?_⟩) hHeld ?_ ?_
            rotate_left
            ·rintro w' s0
             first
             | (refine ldS (x := ?_) ?_ ?_ s0 Tryd.underlying27 rfl siz27; rotate_left; rfl; rfl)
             | (have s0_ := cb25 s0; go_simp; with_reducible rfl)
            rotate_left
            ·simp only [Act.put, List.setIfInBounds_toArray, List.set_cons_zero, List.set_cons_succ, i64_w, i32_w]
             rfl
            refine pW 21 83 zb9_79 HT_.out ?_
            refine one_ (i := 18) (N := some 80) zb9_72 rfl rfl (one_of HT_.out (by kernel_rfl)) (by decide) (fun K hK => ?_)
            refine goes_ Tryd.func21 (by kernel_rfl) rfl #[.agg #[.int .i64 a0_0, .int .i64 a0_1, .int .i64 a0_2, .int .i64 a0_3, .int .i64 a0_4, .int .i64 a0_5, .int .i64 a0_6, .int .i64 a0_7, .int .i64 a0_8, .int .i64 a0_9, .int .i64 a0_10, .int .i64 a0_11, .int .i64 a0_12, .int .i64 a0_13, .int .i64 a0_14, .int .i64 a0_15, .int .i64 a0_16, .int .i64 a0_17, .int .i64 a0_18, .int .i64 a0_19, .int .i64 a0_20, .string a0_21, .string a0_22, .slice A0_23 l0_23.length c0_23, .slice A0_24 l0_24.length c0_24]] (by rfl) rfl rfl (by (try simp only [List.map_toArray, List.map_cons, List.map_nil]); first | done | rfl | (simp only [List.length_drop, List.length_take]; rfl)) ?_
            with_reducible refine (corebankref34_Left.calls kj19 a0_0 a0_1 a0_2 a0_3 a0_4 a0_5 a0_6 a0_7 a0_8 a0_9 a0_10 a0_11 a0_12 a0_13 a0_14 a0_15 a0_16 a0_17 a0_18 a0_19 a0_20 a0_21 a0_22 _ _ l0_23 _ _ l0_24 t132 _ ?side1 ?side2 ?side3 ?side4 A42.out).mono ?_
            (case side1 => repeat (first | exact (Kd.C_below HR0_23.out HB.out) | (with_reducible refine Kd.C_alloc ?_ _) | (with_reducible refine Kd.C_drewN ?_ _) | (with_reducible refine Kd.C_drew ?_)))
            (case side2 => exact HC0_23.out)
            (case side3 => repeat (first | exact (Kd.C_below HR0_24.out HB.out) | (with_reducible refine Kd.C_alloc ?_ _) | (with_reducible refine Kd.C_drewN ?_ _) | (with_reducible refine Kd.C_drew ?_)))
            (case side4 => exact HC0_24.out)
            rintro e w45 ⟨rfl, hb⟩
            refine ⟨_, rfl, ?_⟩
            have n0_ := Aside0.mk (blk_below (g := gb124) (by (with_reducible repeat (first | refine blk_drewN ?_ _ | refine blk_drew ?_ | refine blk_alloc ?_ _)); exact BK124.out) hb)
            have n1_ := Aside0.mk (below_step (by repeat (with_reducible first | exact HB.out | apply below_alloc | apply pw_below_drewN | apply below_drew1 | refine below_set ?_ GE124.out)) hb)
            clear BK124
            clear HB
            have BK124 := n0_
            have HB := n1_
            clear n0_ n1_
            (try clear hb)
            (try clear hb2)
            (try clear hk)
            (try clear hi)
            refine hK.out _ _ (cblk BK124.out) (fun hHeld => ?_)
            clear hK K
            refine norm_ (a' := ?_) ?_ ?_
            rotate_left
            ·show Act.put _ (some 80) _ = _
             simp only [Act.put, List.setIfInBounds_toArray, List.set_cons_zero, List.set_cons_succ, i64_w, i32_w]
             rfl
            refine pW 22 84 zb9_73 HT_.out ?_
            refine pW 23 85 zb9_74 HT_.out ?_
            refine pW 24 86 zb9_75 HT_.out ?_
            refine done_ (done_of HT_.out (by kernel_rfl)) ?_
            try go_wp2_with (first | ((with_reducible refine gate_ld (ty := 27) rfl ?_); apply ldB (qu := Tryd.underlying27); rfl; rfl; rfl; (first | with_reducible exact BK124 | (apply Aside0.mk; apply blk_seq; (focus ((repeat (with_reducible first | exact BK124.out | apply blk_drewN | apply blk_drew | apply blk_alloc | apply blk_set)); done)); (first | (simp only [zS, zC, zD]; with_reducible rfl) | with_reducible rfl))); rfl; exact siz27) | ((with_reducible refine gate_st (ty := 27) rfl ?_); apply stB25 (qi := siz27); rfl; rfl; rfl; rfl; (apply Exists.intro; apply Exists.intro; apply And.intro; (focus ((repeat (with_reducible first | exact BK124.out | apply blk_drewN | apply blk_drew | apply blk_alloc | apply blk_set)); done)); (first | (simp only [Array.size_setIfInBounds]; rfl) | rfl)); rfl))
            go_meet
            case rel => exact ⟨_, ((t132 != (a0_2 == 1))), (by first | rfl | (simp [*]; done)), H', ⟨by have := HK1.out; have := HJ19.out; first | omega | exact Nat.le_refl _⟩, ⟨by (with_reducible repeat (first | refine blk_drewN ?_ _ | refine blk_drew ?_ | refine blk_alloc ?_ _)); exact BK124.out⟩, ⟨by repeat (with_reducible first | exact HB.out | apply below_alloc | apply pw_below_drewN | apply below_drew1 | refine below_set ?_ GE124.out)⟩⟩
          ·rw [if_neg c38] at H
           have c38b0 : (t131 == a0_12) = false := beq_eq_false_iff_ne.mpr c38
           have c38b1 : (t131 != a0_12) = true := bne_iff_ne.mpr c38
           have H' := Aside0.mk H
           clear H
           try go_wp2_with (first | ((with_reducible refine gate_ld (ty := 27) rfl ?_); apply ldB (qu := Tryd.underlying27); rfl; rfl; rfl; (first | with_reducible exact BK124 | (apply Aside0.mk; apply blk_seq; (focus ((repeat (with_reducible first | exact BK124.out | apply blk_drewN | apply blk_drew | apply blk_alloc | apply blk_set)); done)); (first | (simp only [zS, zC, zD]; with_reducible rfl) | with_reducible rfl))); rfl; exact siz27) | ((with_reducible refine gate_st (ty := 27) rfl ?_); apply stB25 (qi := siz27); rfl; rfl; rfl; rfl; (apply Exists.intro; apply Exists.intro; apply And.intro; (focus ((repeat (with_reducible first | exact BK124.out | apply blk_drewN | apply blk_drew | apply blk_alloc | apply blk_set)); done)); (first | (simp only [Array.size_setIfInBounds]; rfl) | rfl)); rfl))
           have n0_ := Aside0.mk (blk_drew BK124.out)
           have n1_ := Aside0.mk (below_drew1 HB.out)
           clear BK124
           clear HB
           have BK124 := n0_
           have HB := n1_
           clear n0_ n1_
           refine start_ (n := 25) (S := fun w' => CBL w' gb124 [.int .i64 a0_0, .int .i64 a0_1, .int .i64 a0_2, .int .i64 a0_3, .int .i64 a0_4, .int .i64 a0_5, .int .i64 a0_6, .int .i64 a0_7, .int .i64 a0_8, .int .i64 a0_9, .int .i64 a0_10, .int .i64 a0_11, .int .i64 a0_12, .int .i64 a0_13, .int .i64 a0_14, .int .i64 a0_15, .int .i64 a0_16, .int .i64 a0_17, .int .i64 a0_18, .int .i64 a0_19, .int .i64 a0_20, .string a0_21, .string a0_22, .slice A0_23 l0_23.length c0_23, .slice A0_24 l0_24.length c0_24]) (ds := []) zb9_50 (by kernel_rfl) rfl rfl (cblk BK124.out) (fun hHeld => ?_); refine with_tabW corebankref34_Check.tab10 corebankref34_Check.bits10 (fun HT_ HW_ => ?_)
           generalize wc.drew = w46 at BK124 HB hHeld ⊢
           refine pW 0 62 zb9_51 HT_.out ?_
           refine take_ (i := 1) (N := some 63) (v := ?_) (a' := ?_) zb9_52 rfl rfl (take_ofW HT_.out HW_.out (by kernel_rfl)) (fun _ _ _ h => h) (Or.inl ⟨by rfl, ?_⟩) hHeld ?_ ?_
           rotate_left
           ·rintro w' s0
            first
            | (refine ldS (x := ?_) ?_ ?_ s0 Tryd.underlying27 rfl siz27; rotate_left; rfl; rfl)
            | (have s0_ := cb25 s0; go_simp; with_reducible rfl)
           rotate_left
           ·simp only [Act.put, List.setIfInBounds_toArray, List.set_cons_zero, List.set_cons_succ, i64_w, i32_w]
            rfl
           refine pW 2 64 zb9_53 HT_.out ?_
           refine pW 3 65 zb9_54 HT_.out ?_
           refine pW 4 66 zb9_55 HT_.out ?_
           refine pW 7 69 zb9_56 HT_.out ?_
           refine pW 8 70 zb9_57 HT_.out ?_
           refine take_ (i := 5) (N := some 67) (v := ?_) (a' := ?_) zb9_58 rfl rfl (take_ofW HT_.out HW_.out (by kernel_rfl)) (fun _ _ _ h => h) (Or.inl ⟨by rfl, ?_⟩) hHeld ?_ ?_
           rotate_left
           ·rintro w' s0
            first
            | (refine ldS (x := ?_) ?_ ?_ s0 Tryd.underlying27 rfl siz27; rotate_left; rfl; rfl)
            | (have s0_ := cb25 s0; go_simp; with_reducible rfl)
           rotate_left
           ·simp only [Act.put, List.setIfInBounds_toArray, List.set_cons_zero, List.set_cons_succ, i64_w, i32_w]
            rfl
           refine take_ (i := 9) (N := some 71) (v := ?_) (a' := ?_) zb9_59 rfl rfl (take_ofW HT_.out HW_.out (by kernel_rfl)) (fun _ _ _ h => h) (Or.inl ⟨by rfl, ?_⟩) hHeld ?_ ?_
           rotate_left
           ·rintro w' s0
            first
            | (refine ldS (x := ?_) ?_ ?_ s0 Tryd.underlying27 rfl siz27; rotate_left; rfl; rfl)
            | (have s0_ := cb25 s0; go_simp; with_reducible rfl)
           rotate_left
           ·simp only [Act.put, List.setIfInBounds_toArray, List.set_cons_zero, List.set_cons_succ, i64_w, i32_w]
            rfl
           refine one_ (i := 6) (N := some 68) zb9_60 rfl rfl (one_of HT_.out (by kernel_rfl)) (by decide) (fun K hK => ?_)
           refine goes_ Tryd.func19 (by kernel_rfl) rfl #[.agg #[.int .i64 a0_0, .int .i64 a0_1, .int .i64 a0_2, .int .i64 a0_3, .int .i64 a0_4, .int .i64 a0_5, .int .i64 a0_6, .int .i64 a0_7, .int .i64 a0_8, .int .i64 a0_9, .int .i64 a0_10, .int .i64 a0_11, .int .i64 a0_12, .int .i64 a0_13, .int .i64 a0_14, .int .i64 a0_15, .int .i64 a0_16, .int .i64 a0_17, .int .i64 a0_18, .int .i64 a0_19, .int .i64 a0_20, .string a0_21, .string a0_22, .slice A0_23 l0_23.length c0_23, .slice A0_24 l0_24.length c0_24], .int .i64 9223372036854775807] (by rfl) rfl rfl (by (try simp only [List.map_toArray, List.map_cons, List.map_nil]); first | done | rfl | (simp only [List.length_drop, List.length_take]; rfl)) ?_
           with_reducible refine (corebankref34_Principal.calls kj19 a0_0 a0_1 a0_2 a0_3 a0_4 a0_5 a0_6 a0_7 a0_8 a0_9 a0_10 a0_11 a0_12 a0_13 a0_14 a0_15 a0_16 a0_17 a0_18 a0_19 a0_20 a0_21 a0_22 _ _ l0_23 _ _ l0_24 9223372036854775807 t131 _ ?side1 ?side2 ?side3 ?side4 A37.out).mono ?_
           (case side1 => repeat (first | exact (Kd.C_below HR0_23.out HB.out) | (with_reducible refine Kd.C_alloc ?_ _) | (with_reducible refine Kd.C_drewN ?_ _) | (with_reducible refine Kd.C_drew ?_)))
           (case side2 => exact HC0_23.out)
           (case side3 => repeat (first | exact (Kd.C_below HR0_24.out HB.out) | (with_reducible refine Kd.C_alloc ?_ _) | (with_reducible refine Kd.C_drewN ?_ _) | (with_reducible refine Kd.C_drew ?_)))
           (case side4 => exact HC0_24.out)
           rintro e w47 ⟨rfl, hb⟩
           refine ⟨_, rfl, ?_⟩
           have n0_ := Aside0.mk (blk_below (g := gb124) (by (with_reducible repeat (first | refine blk_drewN ?_ _ | refine blk_drew ?_ | refine blk_alloc ?_ _)); exact BK124.out) hb)
           have n1_ := Aside0.mk (below_step (by repeat (with_reducible first | exact HB.out | apply below_alloc | apply pw_below_drewN | apply below_drew1 | refine below_set ?_ GE124.out)) hb)
           clear BK124
           clear HB
           have BK124 := n0_
           have HB := n1_
           clear n0_ n1_
           (try clear hb)
           (try clear hb2)
           (try clear hk)
           (try clear hi)
           refine hK.out _ _ (cblk BK124.out) (fun hHeld => ?_)
           clear hK K
           refine norm_ (a' := ?_) ?_ ?_
           rotate_left
           ·show Act.put _ (some 68) _ = _
            simp only [Act.put, List.setIfInBounds_toArray, List.set_cons_zero, List.set_cons_succ, i64_w, i32_w]
            rfl
           refine pW 10 72 zb9_61 HT_.out ?_
           refine pW 11 73 zb9_62 HT_.out ?_
           refine pW 12 74 zb9_63 HT_.out ?_
           refine pU 13 75 zb9_64 HT_.out ?_
           refine pU 14 76 zb9_65 HT_.out ?_
           refine pU 15 77 zb9_66 HT_.out ?_
           refine pU 16 78 zb9_67 HT_.out ?_
           refine pU 17 79 zb9_68 HT_.out ?_
           refine pU 18 80 zb9_69 HT_.out ?_
           refine pU 19 81 zb9_70 HT_.out ?_
           refine pU 20 82 zb9_71 HT_.out ?_
           refine pU 21 83 zb9_72 HT_.out ?_
           refine pU 22 84 zb9_73 HT_.out ?_
           refine pU 23 85 zb9_74 HT_.out ?_
           refine pW 24 86 zb9_75 HT_.out ?_
           refine done_ (done_of HT_.out (by kernel_rfl)) ?_
           try go_wp2_with (first | ((with_reducible refine gate_ld (ty := 27) rfl ?_); apply ldB (qu := Tryd.underlying27); rfl; rfl; rfl; (first | with_reducible exact BK124 | (apply Aside0.mk; apply blk_seq; (focus ((repeat (with_reducible first | exact BK124.out | apply blk_drewN | apply blk_drew | apply blk_alloc | apply blk_set)); done)); (first | (simp only [zS, zC, zD]; with_reducible rfl) | with_reducible rfl))); rfl; exact siz27) | ((with_reducible refine gate_st (ty := 27) rfl ?_); apply stB25 (qi := siz27); rfl; rfl; rfl; rfl; (apply Exists.intro; apply Exists.intro; apply And.intro; (focus ((repeat (with_reducible first | exact BK124.out | apply blk_drewN | apply blk_drew | apply blk_alloc | apply blk_set)); done)); (first | (simp only [Array.size_setIfInBounds]; rfl) | rfl)); rfl))
           go_meet
           case rel => exact ⟨_, (true), (by first | rfl | (simp [*]; done)), H', ⟨by have := HK1.out; have := HJ19.out; first | omega | exact Nat.le_refl _⟩, ⟨by (with_reducible repeat (first | refine blk_drewN ?_ _ | refine blk_drew ?_ | refine blk_alloc ?_ _)); exact BK124.out⟩, ⟨by repeat (with_reducible first | exact HB.out | apply below_alloc | apply pw_below_drewN | apply below_drew1 | refine below_set ?_ GE124.out)⟩⟩
         ·rw [if_neg c36] at H
          have c36b0 : ((l0_24.length : Int) == 0) = false := beq_eq_false_iff_ne.mpr c36
          have c36b1 : ((l0_24.length : Int) != 0) = true := bne_iff_ne.mpr c36
          have c36b2 : ¬ (l0_24 = []) := fun h_ => c36 (by rw [h_]; rfl)
          (first | rw [c36b0] | (simp only [i64_w, i32_w]; rw [c36b0]) | skip)
          by_cases c48 : a0_2 = 3
          ·rw [if_pos c48] at H
           have c48b0 : (a0_2 == 3) = true := beq_iff_eq.mpr c48
           have c48b1 : (a0_2 != 3) = false := bne_eq_false_iff_eq.mpr c48
           clear c48
           have H' := Aside0.mk H
           clear H
           try go_wp2_with (first | ((with_reducible refine gate_ld (ty := 27) rfl ?_); apply ldB (qu := Tryd.underlying27); rfl; rfl; rfl; (first | with_reducible exact BK124 | (apply Aside0.mk; apply blk_seq; (focus ((repeat (with_reducible first | exact BK124.out | apply blk_drewN | apply blk_drew | apply blk_alloc | apply blk_set)); done)); (first | (simp only [zS, zC, zD]; with_reducible rfl) | with_reducible rfl))); rfl; exact siz27) | ((with_reducible refine gate_st (ty := 27) rfl ?_); apply stB25 (qi := siz27); rfl; rfl; rfl; rfl; (apply Exists.intro; apply Exists.intro; apply And.intro; (focus ((repeat (with_reducible first | exact BK124.out | apply blk_drewN | apply blk_drew | apply blk_alloc | apply blk_set)); done)); (first | (simp only [Array.size_setIfInBounds]; rfl) | rfl)); rfl))
           have n0_ := Aside0.mk (blk_drew BK124.out)
           have n1_ := Aside0.mk (below_drew1 HB.out)
           clear BK124
           clear HB
           have BK124 := n0_
           have HB := n1_
           clear n0_ n1_
           refine start_ (n := 25) (S := fun w' => CBL w' gb124 [.int .i64 a0_0, .int .i64 a0_1, .int .i64 a0_2, .int .i64 a0_3, .int .i64 a0_4, .int .i64 a0_5, .int .i64 a0_6, .int .i64 a0_7, .int .i64 a0_8, .int .i64 a0_9, .int .i64 a0_10, .int .i64 a0_11, .int .i64 a0_12, .int .i64 a0_13, .int .i64 a0_14, .int .i64 a0_15, .int .i64 a0_16, .int .i64 a0_17, .int .i64 a0_18, .int .i64 a0_19, .int .i64 a0_20, .string a0_21, .string a0_22, .slice A0_23 l0_23.length c0_23, .slice A0_24 l0_24.length c0_24]) (ds := []) zb9_50 (by kernel_rfl) rfl rfl (cblk BK124.out) (fun hHeld => ?_); refine with_tabW corebankref34_Check.tab10 corebankref34_Check.bits10 (fun HT_ HW_ => ?_)
           generalize wc.drew = w49 at BK124 HB hHeld ⊢
           refine pW 0 62 zb9_51 HT_.out ?_
           refine take_ (i := 1) (N := some 63) (v := ?_) (a' := ?_) zb9_52 rfl rfl (take_ofW HT_.out HW_.out (by kernel_rfl)) (fun _ _ _ h => h) (Or.inl ⟨by rfl, ?_⟩) hHeld ?_ ?_
           rotate_left
           ·rintro w' s0
            first
            | (refine ldS (x := ?_) ?_ ?_ s0 Tryd.underlying27 rfl siz27; rotate_left; rfl; rfl)
            | (have s0_ := cb25 s0; go_simp; with_reducible rfl)
           rotate_left
           ·simp only [Act.put, List.setIfInBounds_toArray, List.set_cons_zero, List.set_cons_succ, i64_w, i32_w]
            rfl
           refine pW 2 64 zb9_53 HT_.out ?_
           refine pW 3 65 zb9_54 HT_.out ?_
           refine pW 4 66 zb9_55 HT_.out ?_
           refine pU 5 67 zb9_80 HT_.out ?_
           refine pU 6 68 zb9_81 HT_.out ?_
           refine pU 7 69 zb9_82 HT_.out ?_
           refine pU 8 70 zb9_83 HT_.out ?_
           refine pU 9 71 zb9_60 HT_.out ?_
           refine pU 10 72 zb9_61 HT_.out ?_
           refine pW 11 73 zb9_62 HT_.out ?_
           refine pW 12 74 zb9_63 HT_.out ?_
           refine pW 13 75 zb9_64 HT_.out ?_
           refine take_ (i := 14) (N := some 76) (v := ?_) (a' := ?_) zb9_65 rfl rfl (take_ofW HT_.out HW_.out (by kernel_rfl)) (fun _ _ _ h => h) (Or.inl ⟨by rfl, ?_⟩) hHeld ?_ ?_
           rotate_left
           ·rintro w' s0
            first
            | (refine ldS (x := ?_) ?_ ?_ s0 Tryd.underlying27 rfl siz27; rotate_left; rfl; rfl)
            | (have s0_ := cb25 s0; go_simp; with_reducible rfl)
           rotate_left
           ·simp only [Act.put, List.setIfInBounds_toArray, List.set_cons_zero, List.set_cons_succ, i64_w, i32_w]
            rfl
           refine pW 15 77 zb9_66 HT_.out ?_
           refine pW 16 78 zb9_67 HT_.out ?_
           refine pU 17 79 zb9_68 HT_.out ?_
           refine pU 18 80 zb9_69 HT_.out ?_
           refine pU 19 81 zb9_70 HT_.out ?_
           refine pU 20 82 zb9_71 HT_.out ?_
           refine pU 21 83 zb9_72 HT_.out ?_
           refine pU 22 84 zb9_73 HT_.out ?_
           refine pW 23 85 zb9_74 HT_.out ?_
           refine pW 24 86 zb9_75 HT_.out ?_
           refine done_ (done_of HT_.out (by kernel_rfl)) ?_
           try go_wp2_with (first | ((with_reducible refine gate_ld (ty := 27) rfl ?_); apply ldB (qu := Tryd.underlying27); rfl; rfl; rfl; (first | with_reducible exact BK124 | (apply Aside0.mk; apply blk_seq; (focus ((repeat (with_reducible first | exact BK124.out | apply blk_drewN | apply blk_drew | apply blk_alloc | apply blk_set)); done)); (first | (simp only [zS, zC, zD]; with_reducible rfl) | with_reducible rfl))); rfl; exact siz27) | ((with_reducible refine gate_st (ty := 27) rfl ?_); apply stB25 (qi := siz27); rfl; rfl; rfl; rfl; (apply Exists.intro; apply Exists.intro; apply And.intro; (focus ((repeat (with_reducible first | exact BK124.out | apply blk_drewN | apply blk_drew | apply blk_alloc | apply blk_set)); done)); (first | (simp only [Array.size_setIfInBounds]; rfl) | rfl)); rfl))
           go_meet
           case rel => exact ⟨_, (false), (by first | rfl | (simp [*]; done)), H', ⟨by have := HK1.out; have := HJ19.out; first | omega | exact Nat.le_refl _⟩, ⟨by (with_reducible repeat (first | refine blk_drewN ?_ _ | refine blk_drew ?_ | refine blk_alloc ?_ _)); exact BK124.out⟩, ⟨by repeat (with_reducible first | exact HB.out | apply below_alloc | apply pw_below_drewN | apply below_drew1 | refine below_set ?_ GE124.out)⟩⟩
          ·rw [if_neg c48] at H
           have c48b0 : (a0_2 == 3) = false := beq_eq_false_iff_ne.mpr c48
           have c48b1 : (a0_2 != 3) = true := bne_iff_ne.mpr c48
           replace H := Option.bind_eq_some_iff.mp H
           obtain ⟨t133, A500, H⟩ := H
           replace H : (corebankref34_Check.j3 kj19 (t133 != (a0_2 == 1)) a0_0 a0_1 a0_2 a0_3 a0_4 a0_5 a0_6 a0_7 a0_8 a0_9 a0_10 a0_11 a0_12 a0_13 a0_14 a0_15 a0_16 a0_17 a0_18 a0_19 a0_20 a0_21 a0_22 l0_23 l0_24) = some r := H
           have A50 := Aside0.mk A500
           clear A500
           have H' := Aside0.mk H
           clear H
           try go_wp2_with (first | ((with_reducible refine gate_ld (ty := 27) rfl ?_); apply ldB (qu := Tryd.underlying27); rfl; rfl; rfl; (first | with_reducible exact BK124 | (apply Aside0.mk; apply blk_seq; (focus ((repeat (with_reducible first | exact BK124.out | apply blk_drewN | apply blk_drew | apply blk_alloc | apply blk_set)); done)); (first | (simp only [zS, zC, zD]; with_reducible rfl) | with_reducible rfl))); rfl; exact siz27) | ((with_reducible refine gate_st (ty := 27) rfl ?_); apply stB25 (qi := siz27); rfl; rfl; rfl; rfl; (apply Exists.intro; apply Exists.intro; apply And.intro; (focus ((repeat (with_reducible first | exact BK124.out | apply blk_drewN | apply blk_drew | apply blk_alloc | apply blk_set)); done)); (first | (simp only [Array.size_setIfInBounds]; rfl) | rfl)); rfl))
           have n0_ := Aside0.mk (blk_drew BK124.out)
           have n1_ := Aside0.mk (below_drew1 HB.out)
           clear BK124
           clear HB
           have BK124 := n0_
           have HB := n1_
           clear n0_ n1_
           refine start_ (n := 25) (S := fun w' => CBL w' gb124 [.int .i64 a0_0, .int .i64 a0_1, .int .i64 a0_2, .int .i64 a0_3, .int .i64 a0_4, .int .i64 a0_5, .int .i64 a0_6, .int .i64 a0_7, .int .i64 a0_8, .int .i64 a0_9, .int .i64 a0_10, .int .i64 a0_11, .int .i64 a0_12, .int .i64 a0_13, .int .i64 a0_14, .int .i64 a0_15, .int .i64 a0_16, .int .i64 a0_17, .int .i64 a0_18, .int .i64 a0_19, .int .i64 a0_20, .string a0_21, .string a0_22, .slice A0_23 l0_23.length c0_23, .slice A0_24 l0_24.length c0_24]) (ds := []) zb9_50 (by kernel_rfl) rfl rfl (cblk BK124.out) (fun hHeld => ?_); refine with_tabW corebankref34_Check.tab10 corebankref34_Check.bits10 (fun HT_ HW_ => ?_)
           generalize wc.drew = w51 at BK124 HB hHeld ⊢
           refine pW 0 62 zb9_51 HT_.out ?_
           refine take_ (i := 1) (N := some 63) (v := ?_) (a' := ?_) zb9_52 rfl rfl (take_ofW HT_.out HW_.out (by kernel_rfl)) (fun _ _ _ h => h) (Or.inl ⟨by rfl, ?_⟩) hHeld ?_ ?_
           rotate_left
           ·rintro w' s0
            first
            | (refine ldS (x := ?_) ?_ ?_ s0 Tryd.underlying27 rfl siz27; rotate_left; rfl; rfl)
            | (have s0_ := cb25 s0; go_simp; with_reducible rfl)
           rotate_left
           ·simp only [Act.put, List.setIfInBounds_toArray, List.set_cons_zero, List.set_cons_succ, i64_w, i32_w]
            rfl
           refine pW 2 64 zb9_53 HT_.out ?_
           refine pW 3 65 zb9_54 HT_.out ?_
           refine pW 4 66 zb9_55 HT_.out ?_
           refine pU 5 67 zb9_80 HT_.out ?_
           refine pU 6 68 zb9_81 HT_.out ?_
           refine pU 7 69 zb9_82 HT_.out ?_
           refine pU 8 70 zb9_83 HT_.out ?_
           refine pU 9 71 zb9_60 HT_.out ?_
           refine pU 10 72 zb9_61 HT_.out ?_
           refine pW 11 73 zb9_62 HT_.out ?_
           refine pW 12 74 zb9_63 HT_.out ?_
           refine pW 13 75 zb9_64 HT_.out ?_
           refine take_ (i := 14) (N := some 76) (v := ?_) (a' := ?_) zb9_65 rfl rfl (take_ofW HT_.out HW_.out (by kernel_rfl)) (fun _ _ _ h => h) (Or.inl ⟨by rfl, ?_⟩) hHeld ?_ ?_
           rotate_left
           ·rintro w' s0
            first
            | (refine ldS (x := ?_) ?_ ?_ s0 Tryd.underlying27 rfl siz27; rotate_left; rfl; rfl)
            | (have s0_ := cb25 s0; go_simp; with_reducible rfl)
           rotate_left
           ·simp only [Act.put, List.setIfInBounds_toArray, List.set_cons_zero, List.set_cons_succ, i64_w, i32_w]
            rfl
           refine pW 15 77 zb9_66 HT_.out ?_
           refine pW 16 78 zb9_67 HT_.out ?_
           refine pW 19 81 zb9_76 HT_.out ?_
           refine take_ (i := 17) (N := some 79) (v := ?_) (a' := ?_) zb9_77 rfl rfl (take_ofW HT_.out HW_.out (by kernel_rfl)) (fun _ _ _ h => h) (Or.inl ⟨by rfl, ?_⟩) hHeld ?_ ?_
           rotate_left
           ·rintro w' s0
            first
            | (refine ldS (x := ?_) ?_ ?_ s0 Tryd.underlying27 rfl siz27; rotate_left; rfl; rfl)
            | (have s0_ := cb25 s0; go_simp; with_reducible rfl)
           rotate_left
           ·simp only [Act.put, List.setIfInBounds_toArray, List.set_cons_zero, List.set_cons_succ, i64_w, i32_w]
            rfl
           refine take_ (i := 20) (N := some 82) (v := ?_) (a' := ?_) zb9_78 rfl rfl (take_ofW HT_.out HW_.out (by kernel_rfl)) (fun _ _ _ h => h) (Or.inl ⟨by rfl, ?_⟩) hHeld ?_ ?_
           rotate_left
           ·rintro w' s0
            first
            | (refine ldS (x := ?_) ?_ ?_ s0 Tryd.underlying27 rfl siz27; rotate_left; rfl; rfl)
            | (have s0_ := cb25 s0; go_simp; with_reducible rfl)
           rotate_left
           ·simp only [Act.put, List.setIfInBounds_toArray, List.set_cons_zero, List.set_cons_succ, i64_w, i32_w]
            rfl
           refine pW 21 83 zb9_79 HT_.out ?_
           refine one_ (i := 18) (N := some 80) zb9_72 rfl rfl (one_of HT_.out (by kernel_rfl)) (by decide) (fun K hK => ?_)
           refine goes_ Tryd.func21 (by kernel_rfl) rfl #[.agg #[.int .i64 a0_0, .int .i64 a0_1, .int .i64 a0_2, .int .i64 a0_3, .int .i64 a0_4, .int .i64 a0_5, .int .i64 a0_6, .int .i64 a0_7, .int .i64 a0_8, .int .i64 a0_9, .int .i64 a0_10, .int .i64 a0_11, .int .i64 a0_12, .int .i64 a0_13, .int .i64 a0_14, .int .i64 a0_15, .int .i64 a0_16, .int .i64 a0_17, .int .i64 a0_18, .int .i64 a0_19, .int .i64 a0_20, .string a0_21, .string a0_22, .slice A0_23 l0_23.length c0_23, .slice A0_24 l0_24.length c0_24]] (by rfl) rfl rfl (by (try simp only [List.map_toArray, List.map_cons, List.map_nil]); first | done | rfl | (simp only [List.length_drop, List.length_take]; rfl)) ?_
           with_reducible refine (corebankref34_Left.calls kj19 a0_0 a0_1 a0_2 a0_3 a0_4 a0_5 a0_6 a0_7 a0_8 a0_9 a0_10 a0_11 a0_12 a0_13 a0_14 a0_15 a0_16 a0_17 a0_18 a0_19 a0_20 a0_21 a0_22 _ _ l0_23 _ _ l0_24 t133 _ ?side1 ?side2 ?side3 ?side4 A50.out).mono ?_
           (case side1 => repeat (first | exact (Kd.C_below HR0_23.out HB.out) | (with_reducible refine Kd.C_alloc ?_ _) | (with_reducible refine Kd.C_drewN ?_ _) | (with_reducible refine Kd.C_drew ?_)))
           (case side2 => exact HC0_23.out)
           (case side3 => repeat (first | exact (Kd.C_below HR0_24.out HB.out) | (with_reducible refine Kd.C_alloc ?_ _) | (with_reducible refine Kd.C_drewN ?_ _) | (with_reducible refine Kd.C_drew ?_)))
           (case side4 => exact HC0_24.out)
           rintro e w52 ⟨rfl, hb⟩
           refine ⟨_, rfl, ?_⟩
           have n0_ := Aside0.mk (blk_below (g := gb124) (by (with_reducible repeat (first | refine blk_drewN ?_ _ | refine blk_drew ?_ | refine blk_alloc ?_ _)); exact BK124.out) hb)
           have n1_ := Aside0.mk (below_step (by repeat (with_reducible first | exact HB.out | apply below_alloc | apply pw_below_drewN | apply below_drew1 | refine below_set ?_ GE124.out)) hb)
           clear BK124
           clear HB
           have BK124 := n0_
           have HB := n1_
           clear n0_ n1_
           (try clear hb)
           (try clear hb2)
           (try clear hk)
           (try clear hi)
           refine hK.out _ _ (cblk BK124.out) (fun hHeld => ?_)
           clear hK K
           refine norm_ (a' := ?_) ?_ ?_
           rotate_left
           ·show Act.put _ (some 80) _ = _
            simp only [Act.put, List.setIfInBounds_toArray, List.set_cons_zero, List.set_cons_succ, i64_w, i32_w]
            rfl
           refine pW 22 84 zb9_73 HT_.out ?_
           refine pW 23 85 zb9_74 HT_.out ?_
           refine pW 24 86 zb9_75 HT_.out ?_
           refine done_ (done_of HT_.out (by kernel_rfl)) ?_
           try go_wp2_with (first | ((with_reducible refine gate_ld (ty := 27) rfl ?_); apply ldB (qu := Tryd.underlying27); rfl; rfl; rfl; (first | with_reducible exact BK124 | (apply Aside0.mk; apply blk_seq; (focus ((repeat (with_reducible first | exact BK124.out | apply blk_drewN | apply blk_drew | apply blk_alloc | apply blk_set)); done)); (first | (simp only [zS, zC, zD]; with_reducible rfl) | with_reducible rfl))); rfl; exact siz27) | ((with_reducible refine gate_st (ty := 27) rfl ?_); apply stB25 (qi := siz27); rfl; rfl; rfl; rfl; (apply Exists.intro; apply Exists.intro; apply And.intro; (focus ((repeat (with_reducible first | exact BK124.out | apply blk_drewN | apply blk_drew | apply blk_alloc | apply blk_set)); done)); (first | (simp only [Array.size_setIfInBounds]; rfl) | rfl)); rfl))
           go_meet
           case rel => exact ⟨_, ((t133 != (a0_2 == 1))), (by first | rfl | (simp [*]; done)), H', ⟨by have := HK1.out; have := HJ19.out; first | omega | exact Nat.le_refl _⟩, ⟨by (with_reducible repeat (first | refine blk_drewN ?_ _ | refine blk_drew ?_ | refine blk_alloc ?_ _)); exact BK124.out⟩, ⟨by repeat (with_reducible first | exact HB.out | apply below_alloc | apply pw_below_drewN | apply below_drew1 | refine below_set ?_ GE124.out)⟩⟩
        case rest =>
         clear HC35
         try clear c1
         try clear c2
         try clear p2
         try clear c3
         try clear c4
         try clear c19
         try clear c21
         try clear c36
         try clear c36b0
         try clear c36b1
         try clear c36b2
         try clear c38
         try clear c38b0
         try clear c38b1
         try clear c48
         try clear c48b0
         try clear c48b1
         obtain ⟨kq, x86_34, rfl, HA, HJ34, BK124, HB⟩ := hcut
         cases kq with
         | zero => exact absurd HA.out (by simp [corebankref34_Check.j3])
         | succ kj34 =>
          have H := HA.out
          clear HA
          simp only [corebankref34_Check.j3] at H
          by_cases c53 : x86_34 = true
          ·subst c53
           have H1 : (some 25) = some r := by rw [if_pos rfl] at H; exact H
           clear H
           have H := H1
           clear H1
           obtain rfl := Option.some.inj H
           go_wp2_with (first | ((with_reducible refine gate_ld (ty := 27) rfl ?_); apply ldB (qu := Tryd.underlying27); rfl; rfl; rfl; (first | with_reducible exact BK124 | (apply Aside0.mk; apply blk_seq; (focus ((repeat (with_reducible first | exact BK124.out | apply blk_drewN | apply blk_drew | apply blk_alloc | apply blk_set)); done)); (first | (simp only [zS, zC, zD]; with_reducible rfl) | with_reducible rfl))); rfl; exact siz27) | ((with_reducible refine gate_st (ty := 27) rfl ?_); apply stB25 (qi := siz27); rfl; rfl; rfl; rfl; (apply Exists.intro; apply Exists.intro; apply And.intro; (focus ((repeat (with_reducible first | exact BK124.out | apply blk_drewN | apply blk_drew | apply blk_alloc | apply blk_set)); done)); (first | (simp only [Array.size_setIfInBounds]; rfl) | rfl)); rfl))
           go_ret
           exact ⟨by first | rfl | (simp [errW_none, errW_some] <;> rfl) | (simp [*, errW_none, errW_some] <;> rfl), by repeat (with_reducible first | exact HB.out | apply below_alloc | apply pw_below_drewN | apply below_drew1 | refine below_set ?_ GE124.out)⟩
          ·replace c53 := Bool.eq_false_iff.mpr c53
           subst c53
           have H1 : (if a0_2 = 3 then (corebankref34_Check.j4 kj34 false) else (if a0_9 = 0 then (corebankref34_Check.j4 kj34 (a0_10 != 0)) else (corebankref34_Check.j4 kj34 true))) = some r := by rw [if_neg (show ¬ (false = true) by decide)] at H; exact H
           clear H
           have H := H1
           clear H1
           have HC54 := Aside0.mk H
           clear H
           go_upto_region 12 with (fail)
           go_cut [99] (fun v99 wc => ∃ (kq : Nat) (x99_53 : Bool), v99 = .bool x99_53 ∧ Aside0 (corebankref34_Check.j4 kq x99_53 = some r) ∧ Aside0 (kq ≤ kj34) ∧ Aside0 (wc.heap[gb124]? = some (.cells #[.int .i64 a0_0, .int .i64 a0_1, .int .i64 a0_2, .int .i64 a0_3, .int .i64 a0_4, .int .i64 a0_5, .int .i64 a0_6, .int .i64 a0_7, .int .i64 a0_8, .int .i64 a0_9, .int .i64 a0_10, .int .i64 a0_11, .int .i64 a0_12, .int .i64 a0_13, .int .i64 a0_14, .int .i64 a0_15, .int .i64 a0_16, .int .i64 a0_17, .int .i64 a0_18, .int .i64 a0_19, .int .i64 a0_20, .string a0_21, .string a0_22, (.slice A0_23 l0_23.length c0_23), (.slice A0_24 l0_24.length c0_24)] 27 (0, 0))) ∧ Aside0 (Below w.heap.size w wc))
           case first =>
            have H := HC54.out
            clear HC54
            by_cases c55 : a0_2 = 3
            ·rw [if_pos c55] at H
             have c55b0 : (a0_2 == 3) = true := beq_iff_eq.mpr c55
             have c55b1 : (a0_2 != 3) = false := bne_eq_false_iff_eq.mpr c55
             clear c55
             (first | rw [c55b0] | (simp only [i64_w, i32_w]; rw [c55b0]) | skip)
             have H' := Aside0.mk H
             clear H
             have hcz56 := bk25 BK124.out
             have hfz56 := blk_frozen BK124.out
             go_wp2_with (first | ((with_reducible refine gate_ld (ty := 27) rfl ?_); apply ldB (qu := Tryd.underlying27); rfl; rfl; rfl; (first | with_reducible exact BK124 | (apply Aside0.mk; apply blk_seq; (focus ((repeat (with_reducible first | exact BK124.out | apply blk_drewN | apply blk_drew | apply blk_alloc | apply blk_set)); done)); (first | (simp only [zS, zC, zD]; with_reducible rfl) | with_reducible rfl))); rfl; exact siz27) | ((with_reducible refine gate_st (ty := 27) rfl ?_); apply stB25 (qi := siz27); rfl; rfl; rfl; rfl; (apply Exists.intro; apply Exists.intro; apply And.intro; (focus ((repeat (with_reducible first | exact BK124.out | apply blk_drewN | apply blk_drew | apply blk_alloc | apply blk_set)); done)); (first | (simp only [Array.size_setIfInBounds]; rfl) | rfl)); rfl))
             go_meet
             case rel => exact ⟨_, (false), (by first | rfl | (simp [*]; done)), H', ⟨by have := HK1.out; have := HJ19.out; have := HJ34.out; first | omega | exact Nat.le_refl _⟩, ⟨by (with_reducible repeat (first | refine blk_drewN ?_ _ | refine blk_drew ?_ | refine blk_alloc ?_ _)); exact BK124.out⟩, ⟨by repeat (with_reducible first | exact HB.out | apply below_alloc | apply pw_below_drewN | apply below_drew1 | refine below_set ?_ GE124.out)⟩⟩
            ·rw [if_neg c55] at H
             have c55b0 : (a0_2 == 3) = false := beq_eq_false_iff_ne.mpr c55
             have c55b1 : (a0_2 != 3) = true := bne_iff_ne.mpr c55
             (first | rw [c55b0] | (simp only [i64_w, i32_w]; rw [c55b0]) | skip)
             by_cases c57 : a0_9 = 0
             ·rw [if_pos c57] at H
              have c57b0 : (a0_9 == 0) = true := beq_iff_eq.mpr c57
              have c57b1 : (a0_9 != 0) = false := bne_eq_false_iff_eq.mpr c57
              clear c57
              have H' := Aside0.mk H
              clear H
              have hcz58 := bk25 BK124.out
              have hfz58 := blk_frozen BK124.out
              go_wp2_with (first | ((with_reducible refine gate_ld (ty := 27) rfl ?_); apply ldB (qu := Tryd.underlying27); rfl; rfl; rfl; (first | with_reducible exact BK124 | (apply Aside0.mk; apply blk_seq; (focus ((repeat (with_reducible first | exact BK124.out | apply blk_drewN | apply blk_drew | apply blk_alloc | apply blk_set)); done)); (first | (simp only [zS, zC, zD]; with_reducible rfl) | with_reducible rfl))); rfl; exact siz27) | ((with_reducible refine gate_st (ty := 27) rfl ?_); apply stB25 (qi := siz27); rfl; rfl; rfl; rfl; (apply Exists.intro; apply Exists.intro; apply And.intro; (focus ((repeat (with_reducible first | exact BK124.out | apply blk_drewN | apply blk_drew | apply blk_alloc | apply blk_set)); done)); (first | (simp only [Array.size_setIfInBounds]; rfl) | rfl)); rfl))
              go_meet
              case rel => exact ⟨_, ((a0_10 != 0)), (by first | rfl | (simp [*]; done)), H', ⟨by have := HK1.out; have := HJ19.out; have := HJ34.out; first | omega | exact Nat.le_refl _⟩, ⟨by (with_reducible repeat (first | refine blk_drewN ?_ _ | refine blk_drew ?_ | refine blk_alloc ?_ _)); exact BK124.out⟩, ⟨by repeat (with_reducible first | exact HB.out | apply below_alloc | apply pw_below_drewN | apply below_drew1 | refine below_set ?_ GE124.out)⟩⟩
             ·rw [if_neg c57] at H
              have c57b0 : (a0_9 == 0) = false := beq_eq_false_iff_ne.mpr c57
              have c57b1 : (a0_9 != 0) = true := bne_iff_ne.mpr c57
              have H' := Aside0.mk H
              clear H
              have hcz59 := bk25 BK124.out
              have hfz59 := blk_frozen BK124.out
              go_wp2_with (first | ((with_reducible refine gate_ld (ty := 27) rfl ?_); apply ldB (qu := Tryd.underlying27); rfl; rfl; rfl; (first | with_reducible exact BK124 | (apply Aside0.mk; apply blk_seq; (focus ((repeat (with_reducible first | exact BK124.out | apply blk_drewN | apply blk_drew | apply blk_alloc | apply blk_set)); done)); (first | (simp only [zS, zC, zD]; with_reducible rfl) | with_reducible rfl))); rfl; exact siz27) | ((with_reducible refine gate_st (ty := 27) rfl ?_); apply stB25 (qi := siz27); rfl; rfl; rfl; rfl; (apply Exists.intro; apply Exists.intro; apply And.intro; (focus ((repeat (with_reducible first | exact BK124.out | apply blk_drewN | apply blk_drew | apply blk_alloc | apply blk_set)); done)); (first | (simp only [Array.size_setIfInBounds]; rfl) | rfl)); rfl))
              go_meet
              case rel => exact ⟨_, (true), (by first | rfl | (simp [*]; done)), H', ⟨by have := HK1.out; have := HJ19.out; have := HJ34.out; first | omega | exact Nat.le_refl _⟩, ⟨by (with_reducible repeat (first | refine blk_drewN ?_ _ | refine blk_drew ?_ | refine blk_alloc ?_ _)); exact BK124.out⟩, ⟨by repeat (with_reducible first | exact HB.out | apply below_alloc | apply pw_below_drewN | apply below_drew1 | refine below_set ?_ GE124.out)⟩⟩
           case rest =>
            clear HC54
            try clear c1
            try clear c2
            try clear p2
            try clear c3
            try clear c4
            try clear c5
            try clear c19
            try clear c21
            try clear c36
            try clear c36b0
            try clear c36b1
            try clear c36b2
            try clear c38
            try clear c38b0
            try clear c38b1
            try clear c48
            try clear c48b0
            try clear c48b1
            try clear c53
            try clear c55
            try clear c55b0
            try clear c55b1
            try clear c57
            try clear c57b0
            try clear c57b1
            try clear hcz56
            try clear hcz58
            try clear hcz59
            try clear hfz56
            try clear hfz58
            try clear hfz59
            try clear p2
            obtain ⟨kq, x99_53, rfl, HA, HJ53, BK124, HB⟩ := hcut
            cases kq with
            | zero => exact absurd HA.out (by simp [corebankref34_Check.j4])
            | succ kj53 =>
             have H := HA.out
             clear HA
             simp only [corebankref34_Check.j4] at H
             by_cases c60 : x99_53 = true
             ·subst c60
              have H1 : (some 25) = some r := by rw [if_pos rfl] at H; exact H
              clear H
              have H := H1
              clear H1
              obtain rfl := Option.some.inj H
              go_wp2_with (first | ((with_reducible refine gate_ld (ty := 27) rfl ?_); apply ldB (qu := Tryd.underlying27); rfl; rfl; rfl; (first | with_reducible exact BK124 | (apply Aside0.mk; apply blk_seq; (focus ((repeat (with_reducible first | exact BK124.out | apply blk_drewN | apply blk_drew | apply blk_alloc | apply blk_set)); done)); (first | (simp only [zS, zC, zD]; with_reducible rfl) | with_reducible rfl))); rfl; exact siz27) | ((with_reducible refine gate_st (ty := 27) rfl ?_); apply stB25 (qi := siz27); rfl; rfl; rfl; rfl; (apply Exists.intro; apply Exists.intro; apply And.intro; (focus ((repeat (with_reducible first | exact BK124.out | apply blk_drewN | apply blk_drew | apply blk_alloc | apply blk_set)); done)); (first | (simp only [Array.size_setIfInBounds]; rfl) | rfl)); rfl))
              go_ret
              exact ⟨by first | rfl | (simp [errW_none, errW_some] <;> rfl) | (simp [*, errW_none, errW_some] <;> rfl), by repeat (with_reducible first | exact HB.out | apply below_alloc | apply pw_below_drewN | apply below_drew1 | refine below_set ?_ GE124.out)⟩
             ·replace c60 := Bool.eq_false_iff.mpr c60
              subst c60
              have H1 : (some 0) = some r := by rw [if_neg (show ¬ (false = true) by decide)] at H; exact H
              clear H
              have H := H1
              clear H1
              obtain rfl := Option.some.inj H
              go_wp2_with (first | ((with_reducible refine gate_ld (ty := 27) rfl ?_); apply ldB (qu := Tryd.underlying27); rfl; rfl; rfl; (first | with_reducible exact BK124 | (apply Aside0.mk; apply blk_seq; (focus ((repeat (with_reducible first | exact BK124.out | apply blk_drewN | apply blk_drew | apply blk_alloc | apply blk_set)); done)); (first | (simp only [zS, zC, zD]; with_reducible rfl) | with_reducible rfl))); rfl; exact siz27) | ((with_reducible refine gate_st (ty := 27) rfl ?_); apply stB25 (qi := siz27); rfl; rfl; rfl; rfl; (apply Exists.intro; apply Exists.intro; apply And.intro; (focus ((repeat (with_reducible first | exact BK124.out | apply blk_drewN | apply blk_drew | apply blk_alloc | apply blk_set)); done)); (first | (simp only [Array.size_setIfInBounds]; rfl) | rfl)); rfl))
              go_ret
              exact ⟨by first | rfl | (simp [errW_none, errW_some] <;> rfl) | (simp [*, errW_none, errW_some] <;> rfl), by repeat (with_reducible first | exact HB.out | apply below_alloc | apply pw_below_drewN | apply below_drew1 | refine below_set ?_ GE124.out)⟩
 ·replace c3 := Bool.eq_false_iff.mpr c3
  subst c3
  have H1 : (some 1) = some r := by rw [if_neg (show ¬ (false = true) by decide)] at H; exact H
  clear H
  have H := H1
  clear H1
  obtain rfl := Option.some.inj H
  go_enter Tryd.func8, Tryd.ntmps8
  go_wp2_with (first | ((with_reducible refine gate_ld (ty := 27) rfl ?_); apply ldB (qu := Tryd.underlying27); rfl; rfl; rfl; (first | with_reducible exact BK124 | (apply Aside0.mk; apply blk_seq; (focus ((repeat (with_reducible first | exact BK124.out | apply blk_drewN | apply blk_drew | apply blk_alloc | apply blk_set)); done)); (first | (simp only [zS, zC, zD]; with_reducible rfl) | with_reducible rfl))); rfl; exact siz27) | ((with_reducible refine gate_st (ty := 27) rfl ?_); apply stB25 (qi := siz27); rfl; rfl; rfl; rfl; (apply Exists.intro; apply Exists.intro; apply And.intro; (focus ((repeat (with_reducible first | exact BK124.out | apply blk_drewN | apply blk_drew | apply blk_alloc | apply blk_set)); done)); (first | (simp only [Array.size_setIfInBounds]; rfl) | rfl)); rfl) | ((with_reducible refine gate_dst (N := 1) rfl ?_); refine box_event ?hg (N := 1) ?hd (cs := #[.int .i64 a0_0, .int .i64 a0_1, .int .i64 a0_2, .int .i64 a0_3, .int .i64 a0_4, .int .i64 a0_5, .int .i64 a0_6, .int .i64 a0_7, .int .i64 a0_8, .int .i64 a0_9, .int .i64 a0_10, .int .i64 a0_11, .int .i64 a0_12, .int .i64 a0_13, .int .i64 a0_14, .int .i64 a0_15, .int .i64 a0_16, .int .i64 a0_17, .int .i64 a0_18, .int .i64 a0_19, .int .i64 a0_20, .string a0_21, .string a0_22, .slice A0_23 l0_23.length c0_23, .slice A0_24 l0_24.length c0_24]) (t := 27) ?hr ?_; (case hd => rfl); (case hg => rfl); (case hr => first | (go_simp; done) | (go_simp; rfl)); intro gb124 hg w61 hbox hb; have n0_ := Aside0.mk (below_step (by repeat (with_reducible first | exact HB.out | apply below_alloc | apply pw_below_drewN | apply below_drew1)) hb); have n1_ := Aside0.mk (hbox); have n2_ := Aside0.mk ((by rw [hg]; exact (below_size (by repeat (with_reducible first | exact HB.out | apply below_alloc | apply pw_below_drewN | apply below_drew1))) : w.heap.size ≤ gb124)); have n3_ := n2_; clear HB; have HB := n0_; have BK124 := n1_; have GW124 := n2_; have GE124 := n3_; clear n0_ n1_ n2_ n3_; clear hb hbox hg; have hcz62 := bk25 BK124.out; have hfz62 := blk_frozen BK124.out) | ((with_reducible refine gate_callee (f := 18) rfl ?_); refine goesL_ (some 5) rfl rfl Tryd.func18 (by kernel_rfl) rfl #[.agg #[.int .i64 a0_0, .int .i64 a0_1, .int .i64 a0_2, .int .i64 a0_3, .int .i64 a0_4, .int .i64 a0_5, .int .i64 a0_6, .int .i64 a0_7, .int .i64 a0_8, .int .i64 a0_9, .int .i64 a0_10, .int .i64 a0_11, .int .i64 a0_12, .int .i64 a0_13, .int .i64 a0_14, .int .i64 a0_15, .int .i64 a0_16, .int .i64 a0_17, .int .i64 a0_18, .int .i64 a0_19, .int .i64 a0_20, .string a0_21, .string a0_22, .slice A0_23 l0_23.length c0_23, .slice A0_24 l0_24.length c0_24]] rfl (by (try simp only [List.map_toArray, List.map_cons, List.map_nil]); first | done | rfl | (simp only [List.length_drop, List.length_take]; rfl)) ?_; (with_reducible refine (corebankref34_ranged.calls k a0_0 a0_1 a0_2 a0_3 a0_4 a0_5 a0_6 a0_7 a0_8 a0_9 a0_10 a0_11 a0_12 a0_13 a0_14 a0_15 a0_16 a0_17 a0_18 a0_19 a0_20 a0_21 a0_22 _ _ l0_23 _ _ l0_24 false _ ?side1 ?side2 ?side3 ?side4 A2.out).mono ?_); (case side1 => repeat (first | exact (Kd.C_below HR0_23.out HB.out) | (with_reducible refine Kd.C_alloc ?_ _) | (with_reducible refine Kd.C_drewN ?_ _) | (with_reducible refine Kd.C_drew ?_))); (case side2 => exact HC0_23.out); (case side3 => repeat (first | exact (Kd.C_below HR0_24.out HB.out) | (with_reducible refine Kd.C_alloc ?_ _) | (with_reducible refine Kd.C_drewN ?_ _) | (with_reducible refine Kd.C_drew ?_))); (case side4 => exact HC0_24.out); rintro e w63 ⟨rfl, hb⟩; refine ⟨_, rfl, ?_⟩; have n0_ := Aside0.mk (blk_below (g := gb124) (by (with_reducible repeat (first | refine blk_drewN ?_ _ | refine blk_drew ?_ | refine blk_alloc ?_ _)); exact BK124.out) hb); have n1_ := Aside0.mk (below_step (by repeat (with_reducible first | exact HB.out | apply below_alloc | apply pw_below_drewN | apply below_drew1 | refine below_set ?_ GE124.out)) hb); clear BK124; clear HB; have BK124 := n0_; have HB := n1_; clear n0_ n1_; (try clear hb); (try clear hb2); (try clear hk); (try clear hi)))
  go_ret
  exact ⟨by first | rfl | (simp [errW_none, errW_some] <;> rfl) | (simp [*, errW_none, errW_some] <;> rfl), by repeat (with_reducible first | exact HB.out | apply below_alloc | apply pw_below_drewN | apply below_drew1 | refine below_set ?_ GE124.out)⟩

end Go.Proofs.YtbapjcafcmnhoaaDoor.X
