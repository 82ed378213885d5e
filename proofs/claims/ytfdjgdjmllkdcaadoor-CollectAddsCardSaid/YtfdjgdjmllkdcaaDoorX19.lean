-- Written by program (wip/tools/xprint.sh) for this seat; not trusted: Lean checks it.
import Derived.Test.YtfdjgdjmllkdcaaDoorX0
import Derived.Test.YtfdjgdjmllkdcaaDoorX1
import Derived.Test.YtfdjgdjmllkdcaaDoorX2
import Derived.Test.YtfdjgdjmllkdcaaDoorX3
import Derived.Test.YtfdjgdjmllkdcaaDoorX6
import Derived.Test.YtfdjgdjmllkdcaaDoorX13
import Derived.Test.YtfdjgdjmllkdcaaDoorX14
import Derived.Test.YtfdjgdjmllkdcaaDoorX15
import Derived.Test.YtfdjgdjmllkdcaaDoorX18
namespace Go.Proofs.YtfdjgdjmllkdcaaDoor.X
open Go.RowKit Go.Proofs.YtfdjgdjmllkdcaaDoorW.PrintWords Go.Proofs.YtfdjgdjmllkdcaaDoorW.PrintLast Go.Proofs.YtfdjgdjmllkdcaaDoorW.PrintMore
attribute [local go_sem] max2_int min2_int   -- for this text's walks alone
set_option linter.unusedVariables false
set_option linter.unusedSimpArgs false

attribute [local go_sem high] eqA36
def zb19_0 : Array Bool := bz 32 0
def zb19_1 : Array Bool := bz 32 1
def zb19_2 : Array Bool := bz 32 3
def zb19_3 : Array Bool := bz 32 7
def zb19_4 : Array Bool := bz 32 15
def zb19_5 : Array Bool := bz 32 31
def zb19_6 : Array Bool := bz 32 63
def zb19_7 : Array Bool := bz 32 127
def zb19_8 : Array Bool := bz 32 255
def zb19_9 : Array Bool := bz 32 511
def zb19_10 : Array Bool := bz 32 1023
def zb19_11 : Array Bool := bz 32 2047
def zb19_12 : Array Bool := bz 32 4095
def zb19_13 : Array Bool := bz 32 8191
def zb19_14 : Array Bool := bz 32 16383
def zb19_15 : Array Bool := bz 32 32767
def zb19_16 : Array Bool := bz 32 65535
def zb19_17 : Array Bool := bz 32 131071
def zb19_18 : Array Bool := bz 32 393215
def zb19_19 : Array Bool := bz 32 524287
def zb19_20 : Array Bool := bz 32 1048575
def zb19_21 : Array Bool := bz 32 2097151
def zb19_22 : Array Bool := bz 32 4194303
def zb19_23 : Array Bool := bz 32 8388607
def zb19_24 : Array Bool := bz 32 16777215
def zb19_25 : Array Bool := bz 32 33554431
def zb19_26 : Array Bool := bz 32 67108863
def zb19_27 : Array Bool := bz 32 134217727
def zb19_28 : Array Bool := bz 32 268435455
def zb19_29 : Array Bool := bz 32 536870911
def zb19_30 : Array Bool := bz 32 1073741823
def zb19_31 : Array Bool := bz 32 2147483647
def zb19_32 : Array Bool := bz 32 4294967295
def zb19_33 : Array Bool := bz 32 262143
/-! ### corebanklaw42_CollectAdds: function 4 -/
mutual
def corebanklaw42_CollectAdds.j0 : Nat → List (S36) → List (S53) → Bool → Int → Int → Int → Int → Int → Int → Int → Int → ByteArray → Int → Option (Bool)
  | 0, _, _, _, _, _, _, _, _, _, _, _, _, _ => none
  | k + 1, x0, x1, x26, x231000, x231001, x231002, x231003, x231004, x231005, x231006, x231007, x231008, x231009 => if x26 = true then ((corebanklaw42_lives.f k).bind fun t232 => (some t232)) else ((collect_Present.f k x0 x1 x231000 x231001 x231002 x231003 x231004 x231005 x231006 x231007 x231008 x231009).bind fun bt233 => (if bt233.2 = 0 then (if (bt233.1.length : Int) = (wrap64 ((x0.length : Int) + 1)) then (if 0 ≤ (x0.length : Int) then (if (x0.length : Int) ≤ (bt233.1.length : Int) then ((corebankref42_SameAll.f k (bt233.1.take ((x0.length : Int) : Int).toNat) x0).bind fun t242 => (if t242 = true then (if (x0.length : Int) < (bt233.1.length : Int) then (if (!(((rd_T36 bt233.1 (x0.length : Int)).f0) == x231000) || (!(((rd_T36 bt233.1 (x0.length : Int)).f1) == x231001) || (!(((rd_T36 bt233.1 (x0.length : Int)).f2) == x231002) || (!(((rd_T36 bt233.1 (x0.length : Int)).f3) == x231003) || (!(((rd_T36 bt233.1 (x0.length : Int)).f4) == x231004) || (!(((rd_T36 bt233.1 (x0.length : Int)).f5) == x231005) || (!(((rd_T36 bt233.1 (x0.length : Int)).f6) == x231006) || (!(((rd_T36 bt233.1 (x0.length : Int)).f7) == x231007) || (!((((rd_T36 bt233.1 (x0.length : Int)).f8).toList) == x231008.toList)))))))))) = true then (corebanklaw42_CollectAdds.j1 k x1 bt233.1 true x231000 x231001 x231002 x231003 x231004 x231005 x231006 x231007 x231008 x231009) else ((collect_Check.f k x0).bind fun t244 => (if t244 = 0 then ((collect_Check.f k bt233.1).bind fun t245 => (corebanklaw42_CollectAdds.j1 k x1 bt233.1 (t245 != 0) x231000 x231001 x231002 x231003 x231004 x231005 x231006 x231007 x231008 x231009)) else (corebanklaw42_CollectAdds.j1 k x1 bt233.1 false x231000 x231001 x231002 x231003 x231004 x231005 x231006 x231007 x231008 x231009)))) else (none)) else (corebanklaw42_CollectAdds.j1 k x1 bt233.1 true x231000 x231001 x231002 x231003 x231004 x231005 x231006 x231007 x231008 x231009))) else (none)) else (none)) else (corebanklaw42_CollectAdds.j1 k x1 bt233.1 true x231000 x231001 x231002 x231003 x231004 x231005 x231006 x231007 x231008 x231009)) else (if (bt233.1.length : Int) = 0 then ((corebanklaw42_lives.f k).bind fun t237 => (some t237)) else (none))))
def corebanklaw42_CollectAdds.j1 : Nat → List (S53) → List (S36) → Bool → Int → Int → Int → Int → Int → Int → Int → Int → ByteArray → Int → Option (Bool)
  | 0, _, _, _, _, _, _, _, _, _, _, _, _, _ => none
  | k + 1, x1, x7, x79, x231000, x231001, x231002, x231003, x231004, x231005, x231006, x231007, x231008, x231009 => if x79 = true then (none) else ((collect_Present.f k x7 x1 x231000 x231001 x231002 x231003 x231004 x231005 x231006 x231007 x231008 x231009).bind fun bt246 => ((collect_Due.f k x7 x231003).bind fun t250 => (if bt246.2 = 10 then (if (bt246.1.length : Int) = 0 then (if (t250.length : Int) > 0 then (if 0 ≤ (wrap64 ((t250.length : Int) - 1)) then (if (wrap64 ((t250.length : Int) - 1)) < (t250.length : Int) then (if (((rd_T36 t250 (wrap64 ((t250.length : Int) - 1))).f0) == x231000 && (((rd_T36 t250 (wrap64 ((t250.length : Int) - 1))).f1) == x231001 && (((rd_T36 t250 (wrap64 ((t250.length : Int) - 1))).f2) == x231002 && (((rd_T36 t250 (wrap64 ((t250.length : Int) - 1))).f3) == x231003 && (((rd_T36 t250 (wrap64 ((t250.length : Int) - 1))).f4) == x231004 && (((rd_T36 t250 (wrap64 ((t250.length : Int) - 1))).f5) == x231005 && (((rd_T36 t250 (wrap64 ((t250.length : Int) - 1))).f6) == x231006 && (((rd_T36 t250 (wrap64 ((t250.length : Int) - 1))).f7) == x231007 && ((((rd_T36 t250 (wrap64 ((t250.length : Int) - 1))).f8).toList) == x231008.toList))))))))) = true then ((collect_Due.f k x7 (wrap64 (x231003 - 1))).bind fun t254 => (if (t254.length : Int) < (t250.length : Int) then ((corebanklaw42_lives.f k).bind fun t257 => (some t257)) else (none))) else (none)) else (none)) else (none)) else (none)) else (none)) else (none))))
end
def corebanklaw42_CollectAdds.f (k : Nat) (l0 : List (S36)) (l1 : List (S53)) (a2_0 : Int) (a2_1 : Int) (a2_2 : Int) (a2_3 : Int) (a2_4 : Int) (a2_5 : Int) (a2_6 : Int) (a2_7 : Int) (a2_8 : ByteArray) (a2_9 : Int) : Option (Bool) := (corebanklaw42_few.f l0).bind fun t231 => (if t231 = true then (if (l1.length : Int) > 80 then (corebanklaw42_CollectAdds.j0 k l0 l1 true a2_0 a2_1 a2_2 a2_3 a2_4 a2_5 a2_6 a2_7 a2_8 a2_9) else (corebanklaw42_CollectAdds.j0 k l0 l1 (decide (a2_1 < 1)) a2_0 a2_1 a2_2 a2_3 a2_4 a2_5 a2_6 a2_7 a2_8 a2_9)) else (corebanklaw42_CollectAdds.j0 k l0 l1 true a2_0 a2_1 a2_2 a2_3 a2_4 a2_5 a2_6 a2_7 a2_8 a2_9))
theorem corebanklaw42_CollectAdds.mono_l : ∀ k, (∀ y0 y1 y2 y3 y4 y5 y6 y7 y8 y9 y10 y11 y12, LeO (corebanklaw42_CollectAdds.j0 k y0 y1 y2 y3 y4 y5 y6 y7 y8 y9 y10 y11 y12) (corebanklaw42_CollectAdds.j0 (k + 1) y0 y1 y2 y3 y4 y5 y6 y7 y8 y9 y10 y11 y12)) ∧ (∀ y0 y1 y2 y3 y4 y5 y6 y7 y8 y9 y10 y11 y12, LeO (corebanklaw42_CollectAdds.j1 k y0 y1 y2 y3 y4 y5 y6 y7 y8 y9 y10 y11 y12) (corebanklaw42_CollectAdds.j1 (k + 1) y0 y1 y2 y3 y4 y5 y6 y7 y8 y9 y10 y11 y12))
  | 0 => ⟨fun _ _ _ _ _ _ _ _ _ _ _ _ _ r h => by simp [corebanklaw42_CollectAdds.j0] at h, fun _ _ _ _ _ _ _ _ _ _ _ _ _ r h => by simp [corebanklaw42_CollectAdds.j1] at h⟩
  | k + 1 => by
    obtain ⟨ih0, ih1⟩ := corebanklaw42_CollectAdds.mono_l k
    refine ⟨?_, ?_⟩
    · intro y0 y1 y2 y3 y4 y5 y6 y7 y8 y9 y10 y11 y12
      unfold corebanklaw42_CollectAdds.j0
      repeat' first
      | (with_reducible exact ih0 _ _ _ _ _ _ _ _ _ _ _ _ _)
      | (with_reducible exact ih1 _ _ _ _ _ _ _ _ _ _ _ _ _)
      | (with_reducible exact collect_Check.mono _ _)
      | (with_reducible exact collect_Due.mono _ _ _)
      | (with_reducible exact collect_Present.mono _ _ _ _ _ _ _ _ _ _ _ _ _)
      | (with_reducible exact corebanklaw42_lives.mono _)
      | (with_reducible exact corebankref42_SameAll.mono _ _ _)
      | (with_reducible exact LeO.refl _)
      | (with_reducible exact LeO.none _)
      | (with_reducible refine LeO.ite ?_ ?_)
      | (with_reducible refine LeO.bind ?_ (fun _ => ?_))
      | exact ih0 _ _ _ _ _ _ _ _ _ _ _ _ _
      | exact ih1 _ _ _ _ _ _ _ _ _ _ _ _ _
      | exact collect_Check.mono _ _
      | exact collect_Due.mono _ _ _
      | exact collect_Present.mono _ _ _ _ _ _ _ _ _ _ _ _ _
      | exact corebanklaw42_lives.mono _
      | exact corebankref42_SameAll.mono _ _ _
      | exact LeO.none _
      | refine LeO.ite ?_ ?_
      | refine LeO.bind ?_ (fun _ => ?_)
    · intro y0 y1 y2 y3 y4 y5 y6 y7 y8 y9 y10 y11 y12
      unfold corebanklaw42_CollectAdds.j1
      repeat' first
      | (with_reducible exact ih0 _ _ _ _ _ _ _ _ _ _ _ _ _)
      | (with_reducible exact ih1 _ _ _ _ _ _ _ _ _ _ _ _ _)
      | (with_reducible exact collect_Check.mono _ _)
      | (with_reducible exact collect_Due.mono _ _ _)
      | (with_reducible exact collect_Present.mono _ _ _ _ _ _ _ _ _ _ _ _ _)
      | (with_reducible exact corebanklaw42_lives.mono _)
      | (with_reducible exact corebankref42_SameAll.mono _ _ _)
      | (with_reducible exact LeO.refl _)
      | (with_reducible exact LeO.none _)
      | (with_reducible refine LeO.ite ?_ ?_)
      | (with_reducible refine LeO.bind ?_ (fun _ => ?_))
      | exact ih0 _ _ _ _ _ _ _ _ _ _ _ _ _
      | exact ih1 _ _ _ _ _ _ _ _ _ _ _ _ _
      | exact collect_Check.mono _ _
      | exact collect_Due.mono _ _ _
      | exact collect_Present.mono _ _ _ _ _ _ _ _ _ _ _ _ _
      | exact corebanklaw42_lives.mono _
      | exact corebankref42_SameAll.mono _ _ _
      | exact LeO.none _
      | refine LeO.ite ?_ ?_
      | refine LeO.bind ?_ (fun _ => ?_)
theorem corebanklaw42_CollectAdds.mono : ∀ a0 a1 a2 a3 a4 a5 a6 a7 a8 a9 a10 a11 k, LeO (corebanklaw42_CollectAdds.f k a0 a1 a2 a3 a4 a5 a6 a7 a8 a9 a10 a11) (corebanklaw42_CollectAdds.f (k + 1) a0 a1 a2 a3 a4 a5 a6 a7 a8 a9 a10 a11) := by
  intro a0 a1 a2 a3 a4 a5 a6 a7 a8 a9 a10 a11 k
  obtain ⟨ih0, ih1⟩ := corebanklaw42_CollectAdds.mono_l k
  unfold corebanklaw42_CollectAdds.f
  repeat' first
      | (with_reducible exact ih0 _ _ _ _ _ _ _ _ _ _ _ _ _)
      | (with_reducible exact ih1 _ _ _ _ _ _ _ _ _ _ _ _ _)
      | (with_reducible exact collect_Check.mono _ _)
      | (with_reducible exact collect_Due.mono _ _ _)
      | (with_reducible exact collect_Present.mono _ _ _ _ _ _ _ _ _ _ _ _ _)
      | (with_reducible exact corebanklaw42_lives.mono _)
      | (with_reducible exact corebankref42_SameAll.mono _ _ _)
      | (with_reducible exact LeO.refl _)
      | (with_reducible exact LeO.none _)
      | (with_reducible refine LeO.ite ?_ ?_)
      | (with_reducible refine LeO.bind ?_ (fun _ => ?_))
      | exact ih0 _ _ _ _ _ _ _ _ _ _ _ _ _
      | exact ih1 _ _ _ _ _ _ _ _ _ _ _ _ _
      | exact collect_Check.mono _ _
      | exact collect_Due.mono _ _ _
      | exact collect_Present.mono _ _ _ _ _ _ _ _ _ _ _ _ _
      | exact corebanklaw42_lives.mono _
      | exact corebankref42_SameAll.mono _ _ _
      | exact LeO.none _
      | refine LeO.ite ?_ ?_
      | refine LeO.bind ?_ (fun _ => ?_)
def corebanklaw42_CollectAdds.T7 : Bool × List (List Nat × List Nat) := (true, [([], []), ([0], [0]), ([], []), ([2], [2]), ([1, 3], [1, 3]), ([4], [4]), ([5], [5]), ([5], [5]), ([6, 7, 5], [5, 6, 7]), ([5], [5]), ([8, 9, 5, 5], [5, 8, 9]), ([10, 5], [5, 10]), ([5, 11], [5, 11]), ([12, 10], [12]), ([13], [13]), ([13], [13]), ([14, 15, 13], [13, 14, 15]), ([16, 13], [13, 16]), ([13], [13]), ([18, 13], [13, 18]), ([17, 19, 13], [13, 17, 19]), ([13, 20], [13, 20]), ([21, 13], [21]), ([22], [22]), ([23, 22, 22], [22, 23]), ([24, 22], [22, 24]), ([25, 24, 22], [22, 25]), ([26], [26]), ([27, 26, 26], [26, 27]), ([28, 26], [26, 28]), ([26, 29, 22], [22, 26, 29]), ([22, 30], [22, 30])])
def corebanklaw42_CollectAdds.B7 : List Nat := [0, 1, 0, 4, 15, 31, 63, 63, 255, 63, 1023, 2047, 4095, 8191, 16383, 16383, 65535, 131071, 16383, 278527, 1048575, 2097151, 4194303, 8388607, 16777215, 33554431, 67108863, 134217727, 268435455, 536870911, 1073741823, 2147483647]
theorem corebanklaw42_CollectAdds.tab7 : rtab .any (opsOf Tryd.f4 7) = corebanklaw42_CollectAdds.T7 := by kernel_rfl
theorem corebanklaw42_CollectAdds.bits7 : waitsOk corebanklaw42_CollectAdds.T7.2 corebanklaw42_CollectAdds.B7 = true := by kernel_rfl
def corebanklaw42_CollectAdds.T11 : Bool × List (List Nat × List Nat) := (true, [([], []), ([0], [0]), ([1], [1]), ([2], [2]), ([3, 2], [2, 3]), ([4, 2], [2, 4]), ([2, 5], [2, 5]), ([6, 2], [6]), ([7], [7]), ([8, 7], [7, 8]), ([9, 7], [7, 9]), ([7, 10], [7, 10]), ([11, 7], [11]), ([12], [12]), ([12], [12]), ([14, 12], [12, 14]), ([15, 12], [12, 15]), ([13, 16, 12], [12, 13, 16]), ([17, 12], [12, 17]), ([12], [12]), ([19, 12], [12, 19]), ([18, 20, 12], [12, 18, 20]), ([12, 21], [12, 21]), ([22, 12], [22]), ([23], [23]), ([23], [23]), ([25, 23], [23, 25]), ([26, 23], [23, 26]), ([27, 23], [23, 27]), ([24, 28, 23, 23], [23, 24, 28]), ([29, 23], [23, 29]), ([23], [23]), ([31, 23], [23, 31]), ([30, 32, 23], [23, 30, 32]), ([23, 33], [23, 33]), ([34, 29], [34]), ([35, 35], [35]), ([35, 36], [35, 36]), ([37, 36, 0, 1, 2, 3, 4, 5, 6, 7, 8, 9, 10, 11, 12, 13, 14, 15, 16, 17, 18, 19, 20, 21, 22, 23, 24, 25, 26, 27, 28, 29, 30, 31, 32, 33, 34, 35, 36, 37], [37])])
def corebanklaw42_CollectAdds.B11 : List Nat := [0, 1, 3, 7, 15, 31, 63, 127, 255, 511, 1023, 2047, 4095, 8191, 8191, 24575, 57343, 131071, 262143, 8191, 532479, 2097151, 4194303, 8388607, 16777215, 16777215, 50331647, 117440511, 251658239, 536870911, 1073741823, 16777215, 2164260863, 8589934591, 17179869183, 34359738367, 68719476735, 137438953471, 274877906943]
theorem corebanklaw42_CollectAdds.tab11 : rtab .any (opsOf Tryd.f4 11) = corebanklaw42_CollectAdds.T11 := by kernel_rfl
theorem corebanklaw42_CollectAdds.bits11 : waitsOk corebanklaw42_CollectAdds.T11.2 corebanklaw42_CollectAdds.B11 = true := by kernel_rfl
set_option maxHeartbeats 8000000 in
set_option maxRecDepth 100000 in
theorem corebanklaw42_CollectAdds.calls (k : Nat) (A0 : Option Addr) (c0 : Nat) (l0 : List (S36)) (A1 : Option Addr) (c1 : Nat) (l1 : List (S53)) (a2_0 : Int) (a2_1 : Int) (a2_2 : Int) (a2_3 : Int) (a2_4 : Int) (a2_5 : Int) (a2_6 : Int) (a2_7 : Int) (a2_8 : ByteArray) (a2_9 : Int) (r : Bool) (w : World) (hV : VarOK w) (hr0 : Kd.C k36 w A0 l0.length l0) (hc0 : l0.length ≤ c0) (hr1 : Kd.C k53 w A1 l1.length l1) (hc1 : l1.length ≤ c1) (h : corebanklaw42_CollectAdds.f k l0 l1 a2_0 a2_1 a2_2 a2_3 a2_4 a2_5 a2_6 a2_7 a2_8 a2_9 = some r) :
  Calls Tryd.prog 4 #[.slice A0 l0.length c0, .slice A1 l1.length c1, .agg #[.int .i64 a2_0, .int .i64 a2_1, .int .i64 a2_2, .int .i64 a2_3, .int .i64 a2_4, .int .i64 a2_5, .int .i64 a2_6, .int .i64 a2_7, .string a2_8, .int .i64 a2_9]] w fun e w' => e = .returned (.bool r) ∧ Below w.heap.size w w' := by
 have HV := Aside0.mk hV
 clear hV
 have hu38 := Tryd.underlying38
 have hu36 := Tryd.underlying36
 have HR0 := Aside0.mk hr0
 have HC0 := Aside0.mk hc0
 clear hr0 hc0
 have HR1 := Aside0.mk hr1
 have HC1 := Aside0.mk hc1
 clear hr1 hc1
 have HB := Aside0.mk (Below.refl w.heap.size w)
 have H : ((corebanklaw42_few.f l0).bind fun t231 => (if t231 = true then (if (l1.length : Int) > 80 then (corebanklaw42_CollectAdds.j0 k l0 l1 true a2_0 a2_1 a2_2 a2_3 a2_4 a2_5 a2_6 a2_7 a2_8 a2_9) else (corebanklaw42_CollectAdds.j0 k l0 l1 (decide (a2_1 < 1)) a2_0 a2_1 a2_2 a2_3 a2_4 a2_5 a2_6 a2_7 a2_8 a2_9)) else (corebanklaw42_CollectAdds.j0 k l0 l1 true a2_0 a2_1 a2_2 a2_3 a2_4 a2_5 a2_6 a2_7 a2_8 a2_9))) = some r := h
 clear h
 have HC4 := Aside0.mk H
 clear H
 go_enter Tryd.func4, Tryd.ntmps4
 go_upto_region 1 with (first | ((with_reducible refine gate_dst (N := 5) rfl ?_); (try (refine gate_guard (by rfl) ?_; dsimp only)); refine box_event ?hg (N := 5) ?hd (cs := #[.int .i64 a2_0, .int .i64 a2_1, .int .i64 a2_2, .int .i64 a2_3, .int .i64 a2_4, .int .i64 a2_5, .int .i64 a2_6, .int .i64 a2_7, .string a2_8, .int .i64 a2_9]) (t := 38) ?hr ?_; (case hd => rfl); (case hg => rfl); (case hr => first | (go_simp; done) | (go_simp; rfl)); intro gb230 hg w5 hbox hb; have n0_ := Aside0.mk (below_step (by repeat (with_reducible first | exact HB.out | apply below_alloc | apply pw_below_drewN | apply below_drew1)) hb); have n1_ := Aside0.mk (hbox); have n2_ := Aside0.mk ((by rw [hg]; exact (below_size (by repeat (with_reducible first | exact HB.out | apply below_alloc | apply pw_below_drewN | apply below_drew1))) : w.heap.size ≤ gb230)); have n3_ := n2_; clear HB; have HB := n0_; have BK230 := n1_; have GW230 := n2_; have GE230 := n3_; clear n0_ n1_ n2_ n3_; clear hb hbox hg))
 (try simp only [Act.put, List.setIfInBounds_toArray, List.set_cons_zero, List.set_cons_succ])
 go_cut [26] (fun v26 wc => ∃ (kq : Nat) (x26_3 : Bool), v26 = .bool x26_3 ∧ Aside0 (corebanklaw42_CollectAdds.j0 kq l0 l1 x26_3 a2_0 a2_1 a2_2 a2_3 a2_4 a2_5 a2_6 a2_7 a2_8 a2_9 = some r) ∧ Aside0 (kq ≤ k) ∧ Aside0 (wc.heap[gb230]? = some (.cells #[.int .i64 a2_0, .int .i64 a2_1, .int .i64 a2_2, .int .i64 a2_3, .int .i64 a2_4, .int .i64 a2_5, .int .i64 a2_6, .int .i64 a2_7, .string a2_8, .int .i64 a2_9] 38 (0, 0))) ∧ Aside0 (Below w.heap.size w wc))
 case first =>
  have H := HC4.out
  clear HC4
  replace H := Option.bind_eq_some_iff.mp H
  obtain ⟨t231, A60, H⟩ := H
  replace H : (if t231 = true then (if (l1.length : Int) > 80 then (corebanklaw42_CollectAdds.j0 k l0 l1 true a2_0 a2_1 a2_2 a2_3 a2_4 a2_5 a2_6 a2_7 a2_8 a2_9) else (corebanklaw42_CollectAdds.j0 k l0 l1 (decide (a2_1 < 1)) a2_0 a2_1 a2_2 a2_3 a2_4 a2_5 a2_6 a2_7 a2_8 a2_9)) else (corebanklaw42_CollectAdds.j0 k l0 l1 true a2_0 a2_1 a2_2 a2_3 a2_4 a2_5 a2_6 a2_7 a2_8 a2_9)) = some r := H
  have A6 := Aside0.mk A60
  clear A60
  by_cases c7 : t231 = true
  ·subst c7
   have H1 : (if (l1.length : Int) > 80 then (corebanklaw42_CollectAdds.j0 k l0 l1 true a2_0 a2_1 a2_2 a2_3 a2_4 a2_5 a2_6 a2_7 a2_8 a2_9) else (corebanklaw42_CollectAdds.j0 k l0 l1 (decide (a2_1 < 1)) a2_0 a2_1 a2_2 a2_3 a2_4 a2_5 a2_6 a2_7 a2_8 a2_9)) = some r := by rw [if_pos rfl] at H; exact H
   clear H
   have H := H1
   clear H1
   by_cases c8 : (l1.length : Int) > 80
   ·rw [if_pos c8] at H
    have c8b0 : decide (80 < (l1.length : Int)) = true := decide_eq_true c8
    have c8b1 : decide (80 < l1.length) = true := decide_eq_true (by omega)
    clear c8
    (first | rw [c8b0] | (simp only [i64_w, i32_w]; rw [c8b0]) | skip)
    have H' := Aside0.mk H
    clear H
    go_wp2_with (first | ((with_reducible refine gate_callee (f := 9) rfl ?_); refine goesL_ (some 14) rfl rfl Tryd.func9 (by kernel_rfl) rfl #[.slice A0 l0.length c0] rfl (by (try simp only [List.map_toArray, List.map_cons, List.map_nil]); first | done | rfl | (simp only [List.length_drop, List.length_take]; rfl)) ?_; (with_reducible refine (corebanklaw42_few.calls _ _ l0 true _ ?side1 ?side2 A6.out).mono ?_); (case side1 => repeat (first | exact (Kd.C_below HR0.out HB.out) | (with_reducible refine Kd.C_alloc ?_ _) | (with_reducible refine Kd.C_drewN ?_ _) | (with_reducible refine Kd.C_drew ?_))); (case side2 => exact HC0.out); rintro e w' ⟨rfl, ⟨nd, rfl⟩⟩; refine ⟨_, rfl, ?_⟩))
    go_meet
    case rel => exact ⟨_, (true), (by first | rfl | (simp [*]; done)), H', ⟨by first | omega | exact Nat.le_refl _⟩, ⟨by (with_reducible repeat (first | refine blk_drewN ?_ _ | refine blk_drew ?_ | refine blk_alloc ?_ _)); exact BK230.out⟩, ⟨by repeat (with_reducible first | exact HB.out | apply below_alloc | apply pw_below_drewN | apply below_drew1 | refine below_set ?_ GE230.out)⟩⟩
   ·rw [if_neg c8] at H
    have c8b0 : decide (80 < (l1.length : Int)) = false := decide_eq_false c8
    have c8b1 : decide (80 < l1.length) = false := decide_eq_false (by omega)
    clear c8
    (first | rw [c8b0] | (simp only [i64_w, i32_w]; rw [c8b0]) | skip)
    have H' := Aside0.mk H
    clear H
    go_wp2_with (first | ((with_reducible refine gate_callee (f := 9) rfl ?_); refine goesL_ (some 14) rfl rfl Tryd.func9 (by kernel_rfl) rfl #[.slice A0 l0.length c0] rfl (by (try simp only [List.map_toArray, List.map_cons, List.map_nil]); first | done | rfl | (simp only [List.length_drop, List.length_take]; rfl)) ?_; (with_reducible refine (corebanklaw42_few.calls _ _ l0 true _ ?side1 ?side2 A6.out).mono ?_); (case side1 => repeat (first | exact (Kd.C_below HR0.out HB.out) | (with_reducible refine Kd.C_alloc ?_ _) | (with_reducible refine Kd.C_drewN ?_ _) | (with_reducible refine Kd.C_drew ?_))); (case side2 => exact HC0.out); rintro e w' ⟨rfl, ⟨nd, rfl⟩⟩; refine ⟨_, rfl, ?_⟩; have hcz9 := blk_cell BK230.out))
    go_meet
    case rel => exact ⟨_, (decide (a2_1 < 1)), (by first | rfl | (simp [*]; done)), H', ⟨by first | omega | exact Nat.le_refl _⟩, ⟨by (with_reducible repeat (first | refine blk_drewN ?_ _ | refine blk_drew ?_ | refine blk_alloc ?_ _)); exact BK230.out⟩, ⟨by repeat (with_reducible first | exact HB.out | apply below_alloc | apply pw_below_drewN | apply below_drew1 | refine below_set ?_ GE230.out)⟩⟩
  ·replace c7 := Bool.eq_false_iff.mpr c7
   subst c7
   have H1 : (corebanklaw42_CollectAdds.j0 k l0 l1 true a2_0 a2_1 a2_2 a2_3 a2_4 a2_5 a2_6 a2_7 a2_8 a2_9) = some r := by rw [if_neg (show ¬ (false = true) by decide)] at H; exact H
   clear H
   have H := H1
   clear H1
   have H' := Aside0.mk H
   clear H
   go_wp2_with (first | ((with_reducible refine gate_callee (f := 9) rfl ?_); refine goesL_ (some 14) rfl rfl Tryd.func9 (by kernel_rfl) rfl #[.slice A0 l0.length c0] rfl (by (try simp only [List.map_toArray, List.map_cons, List.map_nil]); first | done | rfl | (simp only [List.length_drop, List.length_take]; rfl)) ?_; (with_reducible refine (corebanklaw42_few.calls _ _ l0 false _ ?side1 ?side2 A6.out).mono ?_); (case side1 => repeat (first | exact (Kd.C_below HR0.out HB.out) | (with_reducible refine Kd.C_alloc ?_ _) | (with_reducible refine Kd.C_drewN ?_ _) | (with_reducible refine Kd.C_drew ?_))); (case side2 => exact HC0.out); rintro e w' ⟨rfl, ⟨nd, rfl⟩⟩; refine ⟨_, rfl, ?_⟩))
   go_meet
   case rel => exact ⟨_, (true), (by first | rfl | (simp [*]; done)), H', ⟨by first | omega | exact Nat.le_refl _⟩, ⟨by (with_reducible repeat (first | refine blk_drewN ?_ _ | refine blk_drew ?_ | refine blk_alloc ?_ _)); exact BK230.out⟩, ⟨by repeat (with_reducible first | exact HB.out | apply below_alloc | apply pw_below_drewN | apply below_drew1 | refine below_set ?_ GE230.out)⟩⟩
 case rest =>
  clear HC4
  try clear c1
  try clear p2
  try clear c4
  try clear c7
  try clear c8
  try clear c8b0
  try clear c8b1
  try clear c9
  try clear hcz9
  try clear hfz9
  obtain ⟨kq, x26_3, rfl, HA, HJ3, BK230, HB⟩ := hcut
  cases kq with
  | zero => exact absurd HA.out (by simp [corebanklaw42_CollectAdds.j0])
  | succ kj3 =>
   have H := HA.out
   clear HA
   simp only [corebanklaw42_CollectAdds.j0] at H
   by_cases c10 : x26_3 = true
   ·subst c10
    have H1 : ((corebanklaw42_lives.f kj3).bind fun t232 => (some t232)) = some r := by rw [if_pos rfl] at H; exact H
    clear H
    have H := H1
    clear H1
    replace H := Option.bind_eq_some_iff.mp H
    obtain ⟨t232, A110, H⟩ := H
    replace H : (some t232) = some r := H
    have A11 := Aside0.mk A110
    clear A110
    obtain rfl := Option.some.inj H
    go_wp2_with (first | ((with_reducible refine gate_callee (f := 11) rfl ?_); refine goesL_ (some 27) rfl rfl Tryd.func11 (by kernel_rfl) rfl #[] rfl (by (try simp only [List.map_toArray, List.map_cons, List.map_nil]); first | done | rfl | (simp only [List.length_drop, List.length_take]; rfl)) ?_; (with_reducible refine (corebanklaw42_lives.calls kj3  t232 _ ?sideV A11.out).mono ?_); (case sideV => exact VarOK.below HV.out (by repeat (with_reducible first | exact HB.out | apply below_alloc | apply pw_below_drewN | apply below_drew1 | refine below_set ?_ GE230.out))); rintro e w12 ⟨rfl, hb⟩; refine ⟨_, rfl, ?_⟩; have n0_ := Aside0.mk (blk_below (g := gb230) (by (with_reducible repeat (first | refine blk_drewN ?_ _ | refine blk_drew ?_ | refine blk_alloc ?_ _)); exact BK230.out) hb); have n1_ := Aside0.mk (below_step (by repeat (with_reducible first | exact HB.out | apply below_alloc | apply pw_below_drewN | apply below_drew1 | refine below_set ?_ GE230.out)) hb); clear BK230; clear HB; have BK230 := n0_; have HB := n1_; clear n0_ n1_; (try clear hb); (try clear hb2); (try clear hk); (try clear hi)))
    go_ret
    exact ⟨by first | rfl | (simp [errW_none, errW_some] <;> rfl) | (simp [*, errW_none, errW_some] <;> rfl), by repeat (with_reducible first | exact HB.out | apply below_alloc | apply pw_below_drewN | apply below_drew1 | refine below_set ?_ GE230.out)⟩
   ·replace c10 := Bool.eq_false_iff.mpr c10
    subst c10
    have H1 : ((collect_Present.f kj3 l0 l1 a2_0 a2_1 a2_2 a2_3 a2_4 a2_5 a2_6 a2_7 a2_8 a2_9).bind fun bt233 => (if bt233.2 = 0 then (if (bt233.1.length : Int) = (wrap64 ((l0.length : Int) + 1)) then (if 0 ≤ (l0.length : Int) then (if (l0.length : Int) ≤ (bt233.1.length : Int) then ((corebankref42_SameAll.f kj3 (bt233.1.take ((l0.length : Int) : Int).toNat) l0).bind fun t242 => (if t242 = true then (if (l0.length : Int) < (bt233.1.length : Int) then (if (!(((rd_T36 bt233.1 (l0.length : Int)).f0) == a2_0) || (!(((rd_T36 bt233.1 (l0.length : Int)).f1) == a2_1) || (!(((rd_T36 bt233.1 (l0.length : Int)).f2) == a2_2) || (!(((rd_T36 bt233.1 (l0.length : Int)).f3) == a2_3) || (!(((rd_T36 bt233.1 (l0.length : Int)).f4) == a2_4) || (!(((rd_T36 bt233.1 (l0.length : Int)).f5) == a2_5) || (!(((rd_T36 bt233.1 (l0.length : Int)).f6) == a2_6) || (!(((rd_T36 bt233.1 (l0.length : Int)).f7) == a2_7) || (!((((rd_T36 bt233.1 (l0.length : Int)).f8).toList) == a2_8.toList)))))))))) = true then (corebanklaw42_CollectAdds.j1 kj3 l1 bt233.1 true a2_0 a2_1 a2_2 a2_3 a2_4 a2_5 a2_6 a2_7 a2_8 a2_9) else ((collect_Check.f kj3 l0).bind fun t244 => (if t244 = 0 then ((collect_Check.f kj3 bt233.1).bind fun t245 => (corebanklaw42_CollectAdds.j1 kj3 l1 bt233.1 (t245 != 0) a2_0 a2_1 a2_2 a2_3 a2_4 a2_5 a2_6 a2_7 a2_8 a2_9)) else (corebanklaw42_CollectAdds.j1 kj3 l1 bt233.1 false a2_0 a2_1 a2_2 a2_3 a2_4 a2_5 a2_6 a2_7 a2_8 a2_9)))) else (none)) else (corebanklaw42_CollectAdds.j1 kj3 l1 bt233.1 true a2_0 a2_1 a2_2 a2_3 a2_4 a2_5 a2_6 a2_7 a2_8 a2_9))) else (none)) else (none)) else (corebanklaw42_CollectAdds.j1 kj3 l1 bt233.1 true a2_0 a2_1 a2_2 a2_3 a2_4 a2_5 a2_6 a2_7 a2_8 a2_9)) else (if (bt233.1.length : Int) = 0 then ((corebanklaw42_lives.f kj3).bind fun t237 => (some t237)) else (none)))) = some r := by rw [if_neg (show ¬ (false = true) by decide)] at H; exact H
    clear H
    have H := H1
    clear H1
    replace H := Option.bind_eq_some_iff.mp H
    obtain ⟨⟨t233, t236⟩, A130, H⟩ := H
    replace H : (if t236 = 0 then (if (t233.length : Int) = (wrap64 ((l0.length : Int) + 1)) then (if 0 ≤ (l0.length : Int) then (if (l0.length : Int) ≤ (t233.length : Int) then ((corebankref42_SameAll.f kj3 (t233.take ((l0.length : Int) : Int).toNat) l0).bind fun t242 => (if t242 = true then (if (l0.length : Int) < (t233.length : Int) then (if (!(((rd_T36 t233 (l0.length : Int)).f0) == a2_0) || (!(((rd_T36 t233 (l0.length : Int)).f1) == a2_1) || (!(((rd_T36 t233 (l0.length : Int)).f2) == a2_2) || (!(((rd_T36 t233 (l0.length : Int)).f3) == a2_3) || (!(((rd_T36 t233 (l0.length : Int)).f4) == a2_4) || (!(((rd_T36 t233 (l0.length : Int)).f5) == a2_5) || (!(((rd_T36 t233 (l0.length : Int)).f6) == a2_6) || (!(((rd_T36 t233 (l0.length : Int)).f7) == a2_7) || (!((((rd_T36 t233 (l0.length : Int)).f8).toList) == a2_8.toList)))))))))) = true then (corebanklaw42_CollectAdds.j1 kj3 l1 t233 true a2_0 a2_1 a2_2 a2_3 a2_4 a2_5 a2_6 a2_7 a2_8 a2_9) else ((collect_Check.f kj3 l0).bind fun t244 => (if t244 = 0 then ((collect_Check.f kj3 t233).bind fun t245 => (corebanklaw42_CollectAdds.j1 kj3 l1 t233 (t245 != 0) a2_0 a2_1 a2_2 a2_3 a2_4 a2_5 a2_6 a2_7 a2_8 a2_9)) else (corebanklaw42_CollectAdds.j1 kj3 l1 t233 false a2_0 a2_1 a2_2 a2_3 a2_4 a2_5 a2_6 a2_7 a2_8 a2_9)))) else (none)) else (corebanklaw42_CollectAdds.j1 kj3 l1 t233 true a2_0 a2_1 a2_2 a2_3 a2_4 a2_5 a2_6 a2_7 a2_8 a2_9))) else (none)) else (none)) else (corebanklaw42_CollectAdds.j1 kj3 l1 t233 true a2_0 a2_1 a2_2 a2_3 a2_4 a2_5 a2_6 a2_7 a2_8 a2_9)) else (if (t233.length : Int) = 0 then ((corebanklaw42_lives.f kj3).bind fun t237 => (some t237)) else (none))) = some r := H
    have A13 := Aside0.mk A130
    clear A130
    by_cases c14 : t236 = 0
    ·rw [if_pos c14] at H
     have c14b0 : (t236 == 0) = true := beq_iff_eq.mpr c14
     have c14b1 : (t236 != 0) = false := bne_eq_false_iff_eq.mpr c14
     clear c14
     have HC15 := Aside0.mk H
     clear H
     have hcz16 := blk_cell BK230.out
     have hfz16 := blk_frozen BK230.out
     go_upto_region 7 with (first | ((with_reducible refine gate_callee (f := 15) rfl ?_); refine goesL_ (some 35) rfl rfl Tryd.func15 (by kernel_rfl) rfl #[.slice A0 l0.length c0, .slice A1 l1.length c1, .agg #[.int .i64 a2_0, .int .i64 a2_1, .int .i64 a2_2, .int .i64 a2_3, .int .i64 a2_4, .int .i64 a2_5, .int .i64 a2_6, .int .i64 a2_7, .string a2_8], .int .i64 a2_9] rfl (by (try simp only [List.map_toArray, List.map_cons, List.map_nil]); first | done | rfl | (simp only [List.length_drop, List.length_take]; rfl)) ?_; (with_reducible refine (collect_Present.calls kj3 _ _ l0 _ _ l1 a2_0 a2_1 a2_2 a2_3 a2_4 a2_5 a2_6 a2_7 a2_8 a2_9 t233 t236 _ ?side1 ?side2 ?side3 ?side4 A13.out).mono ?_); (case side1 => repeat (first | exact (Kd.C_below HR0.out HB.out) | (with_reducible refine Kd.C_alloc ?_ _) | (with_reducible refine Kd.C_drewN ?_ _) | (with_reducible refine Kd.C_drew ?_))); (case side2 => exact HC0.out); (case side3 => repeat (first | exact (Kd.C_below HR1.out HB.out) | (with_reducible refine Kd.C_alloc ?_ _) | (with_reducible refine Kd.C_drewN ?_ _) | (with_reducible refine Kd.C_drew ?_))); (case side4 => exact HC1.out); rintro e w17 ⟨v234, rfl, ho0, hb⟩; refine ⟨_, rfl, ?_⟩; have n0_ := Aside0.mk (Kd.R_lower ho0 (below_size (by repeat (with_reducible first | exact HB.out | apply below_alloc | apply pw_below_drewN | apply below_drew1 | refine below_set ?_ GE230.out)))); have n1_ := Aside0.mk (blk_below (g := gb230) (by (with_reducible repeat (first | refine blk_drewN ?_ _ | refine blk_drew ?_ | refine blk_alloc ?_ _)); exact BK230.out) hb); have n2_ := Aside0.mk (below_step (by repeat (with_reducible first | exact HB.out | apply below_alloc | apply pw_below_drewN | apply below_drew1 | refine below_set ?_ GE230.out)) hb); clear BK230; clear HB; have HO235 := n0_; have BK230 := n1_; have HB := n2_; clear n0_ n1_ n2_; (try clear hb); (try clear hb2); (try clear hk); (try clear hi); (try clear ho0)))
     (try simp only [Act.put, List.setIfInBounds_toArray, List.set_cons_zero, List.set_cons_succ])
     go_cut [79] (fun v79 wc => ∃ (kq : Nat) (x79_14 : Bool), v79 = .bool x79_14 ∧ Aside0 (corebanklaw42_CollectAdds.j1 kq l1 t233 x79_14 a2_0 a2_1 a2_2 a2_3 a2_4 a2_5 a2_6 a2_7 a2_8 a2_9 = some r) ∧ Aside0 (kq ≤ kj3) ∧ Aside0 (Kd.R k36 36 wc w.heap.size (fun _ => True) v234 t233) ∧ Aside0 (wc.heap[gb230]? = some (.cells #[.int .i64 a2_0, .int .i64 a2_1, .int .i64 a2_2, .int .i64 a2_3, .int .i64 a2_4, .int .i64 a2_5, .int .i64 a2_6, .int .i64 a2_7, .string a2_8, .int .i64 a2_9] 38 (0, 0))) ∧ Aside0 (Below w.heap.size w wc))
     case first =>
      have H := HC15.out
      clear HC15
      by_cases c18 : (t233.length : Int) = (wrap64 ((l0.length : Int) + 1))
      ·rw [if_pos c18] at H
       have c18b0 : ((t233.length : Int) == (wrap64 ((l0.length : Int) + 1))) = true := beq_iff_eq.mpr c18
       have c18b1 : ((t233.length : Int) != (wrap64 ((l0.length : Int) + 1))) = false := bne_eq_false_iff_eq.mpr c18
       clear c18
       (first | rw [c18b0] | (simp only [i64_w, i32_w]; rw [c18b0]) | skip)
       by_cases c19 : 0 ≤ (l0.length : Int)
       ·rw [if_pos c19] at H
        have c19b0 := eq_true c19
        have c19b1 : decide (0 ≤ (l0.length : Int)) = true := decide_eq_true c19
        clear c19
        by_cases c20 : (l0.length : Int) ≤ (t233.length : Int)
        ·rw [if_pos c20] at H
         have c20b0 := eq_true c20
         have c20b1 : decide ((l0.length : Int) ≤ (t233.length : Int)) = true := decide_eq_true c20
         clear c20
         obtain ⟨y238, hy238⟩ : ∃ y_ : List (S36), y_ = (t233.take ((l0.length : Int) : Int).toNat) := ⟨_, rfl⟩
         replace H : ((corebankref42_SameAll.f kj3 y238 l0).bind fun t242 => (if t242 = true then (if (l0.length : Int) < (t233.length : Int) then (if (!(((rd_T36 t233 (l0.length : Int)).f0) == a2_0) || (!(((rd_T36 t233 (l0.length : Int)).f1) == a2_1) || (!(((rd_T36 t233 (l0.length : Int)).f2) == a2_2) || (!(((rd_T36 t233 (l0.length : Int)).f3) == a2_3) || (!(((rd_T36 t233 (l0.length : Int)).f4) == a2_4) || (!(((rd_T36 t233 (l0.length : Int)).f5) == a2_5) || (!(((rd_T36 t233 (l0.length : Int)).f6) == a2_6) || (!(((rd_T36 t233 (l0.length : Int)).f7) == a2_7) || (!((((rd_T36 t233 (l0.length : Int)).f8).toList) == a2_8.toList)))))))))) = true then (corebanklaw42_CollectAdds.j1 kj3 l1 t233 true a2_0 a2_1 a2_2 a2_3 a2_4 a2_5 a2_6 a2_7 a2_8 a2_9) else ((collect_Check.f kj3 l0).bind fun t244 => (if t244 = 0 then ((collect_Check.f kj3 t233).bind fun t245 => (corebanklaw42_CollectAdds.j1 kj3 l1 t233 (t245 != 0) a2_0 a2_1 a2_2 a2_3 a2_4 a2_5 a2_6 a2_7 a2_8 a2_9)) else (corebanklaw42_CollectAdds.j1 kj3 l1 t233 false a2_0 a2_1 a2_2 a2_3 a2_4 a2_5 a2_6 a2_7 a2_8 a2_9)))) else (none)) else (corebanklaw42_CollectAdds.j1 kj3 l1 t233 true a2_0 a2_1 a2_2 a2_3 a2_4 a2_5 a2_6 a2_7 a2_8 a2_9))) = some r := by first | (rw [hy238]; with_reducible exact H) | (have H2_ := (Option.bind_some _ _).symm.trans H; rw [hy238]; with_reducible exact H2_) | (have H2_ := (Option.bind_some _ _).symm.trans H; with_reducible exact H2_) | with_reducible exact H | (rw [hy238]; exact H) | exact H
         have Ny238 := Aside0.mk hy238
         clear hy238
         replace H := Option.bind_eq_some_iff.mp H
         obtain ⟨t242, A210, H⟩ := H
         replace H : (if t242 = true then (if (l0.length : Int) < (t233.length : Int) then (if (!(((rd_T36 t233 (l0.length : Int)).f0) == a2_0) || (!(((rd_T36 t233 (l0.length : Int)).f1) == a2_1) || (!(((rd_T36 t233 (l0.length : Int)).f2) == a2_2) || (!(((rd_T36 t233 (l0.length : Int)).f3) == a2_3) || (!(((rd_T36 t233 (l0.length : Int)).f4) == a2_4) || (!(((rd_T36 t233 (l0.length : Int)).f5) == a2_5) || (!(((rd_T36 t233 (l0.length : Int)).f6) == a2_6) || (!(((rd_T36 t233 (l0.length : Int)).f7) == a2_7) || (!((((rd_T36 t233 (l0.length : Int)).f8).toList) == a2_8.toList)))))))))) = true then (corebanklaw42_CollectAdds.j1 kj3 l1 t233 true a2_0 a2_1 a2_2 a2_3 a2_4 a2_5 a2_6 a2_7 a2_8 a2_9) else ((collect_Check.f kj3 l0).bind fun t244 => (if t244 = 0 then ((collect_Check.f kj3 t233).bind fun t245 => (corebanklaw42_CollectAdds.j1 kj3 l1 t233 (t245 != 0) a2_0 a2_1 a2_2 a2_3 a2_4 a2_5 a2_6 a2_7 a2_8 a2_9)) else (corebanklaw42_CollectAdds.j1 kj3 l1 t233 false a2_0 a2_1 a2_2 a2_3 a2_4 a2_5 a2_6 a2_7 a2_8 a2_9)))) else (none)) else (corebanklaw42_CollectAdds.j1 kj3 l1 t233 true a2_0 a2_1 a2_2 a2_3 a2_4 a2_5 a2_6 a2_7 a2_8 a2_9)) = some r := H
         have A21 := Aside0.mk A210
         clear A210
         by_cases c22 : t242 = true
         ·subst c22
          have H1 : (if (l0.length : Int) < (t233.length : Int) then (if (!(((rd_T36 t233 (l0.length : Int)).f0) == a2_0) || (!(((rd_T36 t233 (l0.length : Int)).f1) == a2_1) || (!(((rd_T36 t233 (l0.length : Int)).f2) == a2_2) || (!(((rd_T36 t233 (l0.length : Int)).f3) == a2_3) || (!(((rd_T36 t233 (l0.length : Int)).f4) == a2_4) || (!(((rd_T36 t233 (l0.length : Int)).f5) == a2_5) || (!(((rd_T36 t233 (l0.length : Int)).f6) == a2_6) || (!(((rd_T36 t233 (l0.length : Int)).f7) == a2_7) || (!((((rd_T36 t233 (l0.length : Int)).f8).toList) == a2_8.toList)))))))))) = true then (corebanklaw42_CollectAdds.j1 kj3 l1 t233 true a2_0 a2_1 a2_2 a2_3 a2_4 a2_5 a2_6 a2_7 a2_8 a2_9) else ((collect_Check.f kj3 l0).bind fun t244 => (if t244 = 0 then ((collect_Check.f kj3 t233).bind fun t245 => (corebanklaw42_CollectAdds.j1 kj3 l1 t233 (t245 != 0) a2_0 a2_1 a2_2 a2_3 a2_4 a2_5 a2_6 a2_7 a2_8 a2_9)) else (corebanklaw42_CollectAdds.j1 kj3 l1 t233 false a2_0 a2_1 a2_2 a2_3 a2_4 a2_5 a2_6 a2_7 a2_8 a2_9)))) else (none)) = some r := by rw [if_pos rfl] at H; exact H
          clear H
          have H := H1
          clear H1
          by_cases c23 : (l0.length : Int) < (t233.length : Int)
          ·rw [if_pos c23] at H
           have c23b0 : decide ((l0.length : Int) < (t233.length : Int)) = true := decide_eq_true c23
           have c23b1 : decide (l0.length < t233.length) = true := decide_eq_true (Int.ofNat_lt.mp c23)
           clear c23
           by_cases c24 : (!(((rd_T36 t233 (l0.length : Int)).f0) == a2_0) || (!(((rd_T36 t233 (l0.length : Int)).f1) == a2_1) || (!(((rd_T36 t233 (l0.length : Int)).f2) == a2_2) || (!(((rd_T36 t233 (l0.length : Int)).f3) == a2_3) || (!(((rd_T36 t233 (l0.length : Int)).f4) == a2_4) || (!(((rd_T36 t233 (l0.length : Int)).f5) == a2_5) || (!(((rd_T36 t233 (l0.length : Int)).f6) == a2_6) || (!(((rd_T36 t233 (l0.length : Int)).f7) == a2_7) || (!((((rd_T36 t233 (l0.length : Int)).f8).toList) == a2_8.toList)))))))))) = true
           ·rw [if_pos c24] at H
            have c24b0 : (!(((rd_T36 t233 (l0.length : Int)).f0) == a2_0) || (!(((rd_T36 t233 (l0.length : Int)).f1) == a2_1) || (!(((rd_T36 t233 (l0.length : Int)).f2) == a2_2) || (!(((rd_T36 t233 (l0.length : Int)).f3) == a2_3) || (!(((rd_T36 t233 (l0.length : Int)).f4) == a2_4) || (!(((rd_T36 t233 (l0.length : Int)).f5) == a2_5) || (!(((rd_T36 t233 (l0.length : Int)).f6) == a2_6) || (!(((rd_T36 t233 (l0.length : Int)).f7) == a2_7) || (!((((rd_T36 t233 (l0.length : Int)).f8).toList) == a2_8.toList)))))))))) = true := c24
            clear c24
            have H' := Aside0.mk H
            clear H
            try go_wp2
            have n0_ := Aside0.mk (Kd.R_drew HO235.out)
            have n1_ := Aside0.mk (blk_drew BK230.out)
            have n2_ := Aside0.mk (below_drew1 HB.out)
            clear HO235
            clear BK230
            clear HB
            have HO235 := n0_
            have BK230 := n1_
            have HB := n2_
            clear n0_ n1_ n2_
            obtain ⟨Ao26, co26, eo26⟩ := Kd.R_slice HO235.out
            (first | subst eo26 | (injection eo26 with f1_ f2_ f3_; have f4_ := f1_.symm; have f5_ := f3_.symm; clear f1_ f2_ f3_; subst f4_; subst f5_))
            have q27 : ((l0.length : Int) : Int) ≤ ((t233.length : Int) : Int) := of_decide_eq_true (by assumption)
            obtain ⟨i027, hi027, _, hsz27, _⟩ := info_parts info36
            have hroom27 : t233.length ≤ co26 := (Kd.R_reads' HO235.out).2.1
            have hC27 : Kd.C k36 _ Ao26 t233.length t233 := (Kd.R_reads' HO235.out).2.2
            have hcut27 := cut_to (P := Tryd.prog) 22 36 .i64 Tryd.underlying22 hi027 Ao26 t233.length co26 (l0.length : Int) (of_decide_eq_true (by assumption)) q27 hroom27
            have hr27 := Kd.C_take (m := ((l0.length : Int) : Int).toNat) hC27 (by omega)
            have hy27 : y238.length = ((l0.length : Int) : Int).toNat := (by rw [Ny238.out, List.length_take]; omega)
            rw [← Ny238.out] at hr27
            rw [← hy27] at hcut27
            have HR241 := Aside0.mk hr27
            have HC241 := Aside0.mk (show y238.length ≤ co26 from by omega)
            clear hr27 hC27 hroom27 hi027 hsz27
            have KY27 := Aside0.mk hy27
            clear hy27
            have KL27 := Aside0.mk (show ((l0.length : Int) : Int).toNat ≤ t233.length from by omega)
            replace q27 := eq_true q27
            have p243 : 0 ≤ ((l0.length : Int) : Int) := of_decide_eq_true (by assumption)
            have q243 : (l0.length : Int) < (t233.length : Int) := of_decide_eq_true (by assumption)
            obtain ⟨ad243, e243, hx243_0, hx243_1, hx243_2, hx243_3, hx243_4, hx243_5, hx243_6, hx243_7, hx243_8⟩ := at_T36 (Kd.R_reads' HO235.out).2.2 (l0.length : Int) p243 q243
            cases e243
            (try simp only [Go.IntWalk.toNatUp] at hx243_0)
            (try simp only [Go.IntWalk.toNatUp] at hx243_1)
            (try simp only [Go.IntWalk.toNatUp] at hx243_2)
            (try simp only [Go.IntWalk.toNatUp] at hx243_3)
            (try simp only [Go.IntWalk.toNatUp] at hx243_4)
            (try simp only [Go.IntWalk.toNatUp] at hx243_5)
            (try simp only [Go.IntWalk.toNatUp] at hx243_6)
            (try simp only [Go.IntWalk.toNatUp] at hx243_7)
            (try simp only [Go.IntWalk.toNatUp] at hx243_8)
            replace p243 := eq_true p243
            replace q243 := eq_true q243
            refine start_ (n := 32) (S := fun w' => w'.cell? ⟨gb230, 0, none⟩ = some (.int .i64 a2_0) ∧ w'.cell? ⟨gb230, 1, none⟩ = some (.int .i64 a2_1) ∧ w'.cell? ⟨gb230, 2, none⟩ = some (.int .i64 a2_2) ∧ w'.cell? ⟨gb230, 3, none⟩ = some (.int .i64 a2_3) ∧ w'.cell? ⟨gb230, 4, none⟩ = some (.int .i64 a2_4) ∧ w'.cell? ⟨gb230, 5, none⟩ = some (.int .i64 a2_5) ∧ w'.cell? ⟨gb230, 6, none⟩ = some (.int .i64 a2_6) ∧ w'.cell? ⟨gb230, 7, none⟩ = some (.int .i64 a2_7) ∧ w'.cell? ⟨gb230, 8, none⟩ = some (.string a2_8) ∧ w'.cell? ⟨gb230, 9, none⟩ = some (.int .i64 a2_9) ∧ w'.cell? (ad243.add (((l0.length : Int)).toNat * 9)) = some (.int .i64 ((rd_T36 t233 (l0.length : Int)).f0)) ∧ w'.cell? ⟨(ad243.add (((l0.length : Int)).toNat * 9)).block, (ad243.add (((l0.length : Int)).toNat * 9)).off + 1, none⟩ = some (.int .i64 ((rd_T36 t233 (l0.length : Int)).f1)) ∧ w'.cell? ⟨(ad243.add (((l0.length : Int)).toNat * 9)).block, (ad243.add (((l0.length : Int)).toNat * 9)).off + 2, none⟩ = some (.int .i64 ((rd_T36 t233 (l0.length : Int)).f2)) ∧ w'.cell? ⟨(ad243.add (((l0.length : Int)).toNat * 9)).block, (ad243.add (((l0.length : Int)).toNat * 9)).off + 3, none⟩ = some (.int .i64 ((rd_T36 t233 (l0.length : Int)).f3)) ∧ w'.cell? ⟨(ad243.add (((l0.length : Int)).toNat * 9)).block, (ad243.add (((l0.length : Int)).toNat * 9)).off + 4, none⟩ = some (.int .i64 ((rd_T36 t233 (l0.length : Int)).f4)) ∧ w'.cell? ⟨(ad243.add (((l0.length : Int)).toNat * 9)).block, (ad243.add (((l0.length : Int)).toNat * 9)).off + 5, none⟩ = some (.int .i64 ((rd_T36 t233 (l0.length : Int)).f5)) ∧ w'.cell? ⟨(ad243.add (((l0.length : Int)).toNat * 9)).block, (ad243.add (((l0.length : Int)).toNat * 9)).off + 6, none⟩ = some (.int .i64 ((rd_T36 t233 (l0.length : Int)).f6)) ∧ w'.cell? ⟨(ad243.add (((l0.length : Int)).toNat * 9)).block, (ad243.add (((l0.length : Int)).toNat * 9)).off + 7, none⟩ = some (.int .i64 ((rd_T36 t233 (l0.length : Int)).f7)) ∧ w'.cell? ⟨(ad243.add (((l0.length : Int)).toNat * 9)).block, (ad243.add (((l0.length : Int)).toNat * 9)).off + 8, none⟩ = some (.string ((rd_T36 t233 (l0.length : Int)).f8))) (ds := []) zb19_0 (by kernel_rfl) rfl rfl ⟨(blk_cell BK230.out 0).trans rfl, (blk_cell BK230.out 1).trans rfl, (blk_cell BK230.out 2).trans rfl, (blk_cell BK230.out 3).trans rfl, (blk_cell BK230.out 4).trans rfl, (blk_cell BK230.out 5).trans rfl, (blk_cell BK230.out 6).trans rfl, (blk_cell BK230.out 7).trans rfl, (blk_cell BK230.out 8).trans rfl, (blk_cell BK230.out 9).trans rfl, hx243_0, hx243_1, hx243_2, hx243_3, hx243_4, hx243_5, hx243_6, hx243_7, hx243_8⟩ (fun hHeld => ?_); refine with_tabW corebanklaw42_CollectAdds.tab7 corebanklaw42_CollectAdds.bits7 (fun HT_ HW_ => ?_)
            generalize w17.drew = w25 at HO235 BK230 HB HR241 hx243_0 hx243_1 hx243_2 hx243_3 hx243_4 hx243_5 hx243_6 hx243_7 hx243_8 hHeld ⊢
            refine pV 0 48 zb19_1 rfl rfl HT_.out (by kernel_rfl) (fun _ _ _ h => h) (Or.inl ⟨by rfl, by intro w'; go_simp; with_reducible rfl⟩) (by simp only [zA, zS, zC, zD, i64_w, i32_w]; rfl) ?_
            refine pV 1 49 zb19_2 rfl rfl HT_.out (by kernel_rfl) (fun _ _ _ h => h) (Or.inl ⟨by rfl, by intro w'; go_simp; with_reducible rfl⟩) (by simp only [zA, zS, zC, zD, i64_w, i32_w]; rfl) ?_
            refine pV 2 50 zb19_3 rfl rfl HT_.out (by kernel_rfl) (fun _ _ _ h => h) (Or.inl ⟨by rfl, by intro w'; go_simp; with_reducible rfl⟩) (by simp only [zA, zS, zC, zD, i64_w, i32_w]; rfl) ?_
            refine pV 3 51 zb19_4 rfl rfl HT_.out (by kernel_rfl) (fun _ _ _ h => h) (Or.inl ⟨by rfl, by intro w'; go_simp; with_reducible rfl⟩) (by simp only [zA, zS, zC, zD, i64_w, i32_w]; rfl) ?_
            refine pV 4 52 zb19_5 rfl rfl HT_.out (by kernel_rfl) (fun _ _ _ h => h) (Or.inl ⟨by rfl, by intro w'; go_simp; with_reducible rfl⟩) (by simp only [zA, zS, zC, zD, i64_w, i32_w]; rfl) ?_
            refine pV 5 53 zb19_6 rfl rfl HT_.out (by kernel_rfl) (fun _ _ _ h => h) (Or.inl ⟨by rfl, by intro w'; go_simp; with_reducible rfl⟩) (by simp only [zA, zS, zC, zD, i64_w, i32_w]; rfl) ?_
            refine pV 6 54 zb19_7 rfl rfl HT_.out (by kernel_rfl) (fun _ _ _ h => h) (Or.inl ⟨by rfl, by intro w'; go_simp; with_reducible rfl⟩) (by simp only [zA, zS, zC, zD, i64_w, i32_w]; rfl) ?_
            refine pV 7 55 zb19_8 rfl rfl HT_.out (by kernel_rfl) (fun _ _ _ h => h) (Or.inl ⟨by rfl, by intro w'; go_simp; with_reducible rfl⟩) (by simp only [zA, zS, zC, zD, i64_w, i32_w]; rfl) ?_
            refine pV 8 56 zb19_9 rfl rfl HT_.out (by kernel_rfl) (fun _ _ _ h => h) (Or.inl ⟨by rfl, by intro w'; go_simp; with_reducible rfl⟩) (by simp only [zA, zS, zC, zD, i64_w, i32_w]; rfl) ?_
            refine pV 9 57 zb19_10 rfl rfl HT_.out (by kernel_rfl) (fun _ _ _ h => h) (Or.inl ⟨by rfl, by intro w'; go_simp; with_reducible rfl⟩) (by simp only [zA, zS, zC, zD, i64_w, i32_w]; rfl) ?_
            refine one_ (i := 10) (N := some 58) zb19_11 rfl rfl (one_of HT_.out (by kernel_rfl)) (by decide) (fun K hK => ?_)
            refine goes_ Tryd.func16 (by kernel_rfl) rfl #[.slice _ y238.length _, .slice A0 l0.length c0] (by rfl) rfl rfl (by (try simp only [List.map_toArray, List.map_cons, List.map_nil]); first | done | rfl | (simp only [List.length_drop, List.length_take]; rfl)) ?_
            with_reducible refine (corebankref42_SameAll.calls kj3 _ _ y238 _ _ l0 true _ ?side1 ?side2 ?side3 ?side4 A21.out).mono ?_
            (case side1 => repeat (first | exact (by repeat (first | (with_reducible exact HR241.out) | (with_reducible refine Kd.C_alloc ?_ _) | (with_reducible refine Kd.C_drewN ?_ _) | (with_reducible refine Kd.C_drew ?_) | exact HR241.out)) | (with_reducible refine Kd.C_alloc ?_ _) | (with_reducible refine Kd.C_drewN ?_ _) | (with_reducible refine Kd.C_drew ?_)))
            (case side2 => exact HC241.out)
            (case side3 => repeat (first | exact (Kd.C_below HR0.out HB.out) | (with_reducible refine Kd.C_alloc ?_ _) | (with_reducible refine Kd.C_drewN ?_ _) | (with_reducible refine Kd.C_drew ?_)))
            (case side4 => exact HC0.out)
            rintro e w' ⟨rfl, ⟨nd, rfl⟩⟩
            refine ⟨_, rfl, ?_⟩
            refine hK.out _ _ ⟨(blk_cell BK230.out 0).trans rfl, (blk_cell BK230.out 1).trans rfl, (blk_cell BK230.out 2).trans rfl, (blk_cell BK230.out 3).trans rfl, (blk_cell BK230.out 4).trans rfl, (blk_cell BK230.out 5).trans rfl, (blk_cell BK230.out 6).trans rfl, (blk_cell BK230.out 7).trans rfl, (blk_cell BK230.out 8).trans rfl, (blk_cell BK230.out 9).trans rfl, hHeld.2.2.2.2.2.2.2.2.2.2.1, hHeld.2.2.2.2.2.2.2.2.2.2.2.1, hHeld.2.2.2.2.2.2.2.2.2.2.2.2.1, hHeld.2.2.2.2.2.2.2.2.2.2.2.2.2.1, hHeld.2.2.2.2.2.2.2.2.2.2.2.2.2.2.1, hHeld.2.2.2.2.2.2.2.2.2.2.2.2.2.2.2.1, hHeld.2.2.2.2.2.2.2.2.2.2.2.2.2.2.2.2.1, hHeld.2.2.2.2.2.2.2.2.2.2.2.2.2.2.2.2.2.1, hHeld.2.2.2.2.2.2.2.2.2.2.2.2.2.2.2.2.2.2⟩ (fun hHeld => ?_)
            clear hK K
            refine norm_ (a' := ?_) ?_ ?_
            rotate_left
            ·show Act.put _ (some 58) _ = _
             simp only [Act.put, List.setIfInBounds_toArray, List.set_cons_zero, List.set_cons_succ, i64_w, i32_w]
             rfl
            refine pV 11 59 zb19_12 rfl rfl HT_.out (by kernel_rfl) (fun _ _ _ h => h) (Or.inl ⟨by rfl, by intro w'; go_simp; with_reducible rfl⟩) (by simp only [zA, zS, zC, zD, i64_w, i32_w]; rfl) ?_
            refine pV 12 60 zb19_13 rfl rfl HT_.out (by kernel_rfl) (fun _ _ _ h => h) (Or.inl ⟨by rfl, by intro w'; go_simp; with_reducible rfl⟩) (by simp only [zA, zS, zC, zD, i64_w, i32_w]; rfl) ?_
            refine pV 13 61 zb19_14 rfl rfl HT_.out (by kernel_rfl) (fun _ _ _ h => h) (Or.inl ⟨by rfl, by intro w'; go_simp; with_reducible rfl⟩) (by simp only [zA, zS, zC, zD, i64_w, i32_w]; rfl) ?_
            refine pV 14 62 zb19_15 rfl rfl HT_.out (by kernel_rfl) (fun _ _ _ h => h) (Or.inl ⟨by rfl, by intro w'; go_simp; with_reducible rfl⟩) (by simp only [zA, zS, zC, zD, i64_w, i32_w]; rfl) ?_
            refine pV 15 63 zb19_16 rfl rfl HT_.out (by kernel_rfl) (fun _ _ _ h => h) (Or.inl ⟨by rfl, by intro w'; go_simp; with_reducible rfl⟩) (by simp only [zA, zS, zC, zD, i64_w, i32_w]; rfl) ?_
            refine pV 16 64 zb19_17 rfl rfl HT_.out (by kernel_rfl) (fun _ _ _ h => h) (Or.inl ⟨by rfl, by intro w'; go_simp; with_reducible rfl⟩) (by simp only [zA, zS, zC, zD, i64_w, i32_w]; rfl) ?_
            refine pV 18 66 zb19_18 rfl rfl HT_.out (by kernel_rfl) (fun _ _ _ h => h) (Or.inl ⟨by rfl, by intro w'; go_simp; with_reducible rfl⟩) (by simp only [zA, zS, zC, zD, i64_w, i32_w]; rfl) ?_
            refine take_ (i := 17) (N := some 65) (v := ?_) (a' := ?_) zb19_19 rfl rfl (take_ofW HT_.out HW_.out (by kernel_rfl)) (fun _ _ _ h => h) (Or.inl ⟨by rfl, ?_⟩) hHeld ?_ ?_
            rotate_left
            ·rintro w' ⟨s0, s1, s2, s3, s4, s5, s6, s7, s8, s9, s10, s11, s12, s13, s14, s15, s16, s17, s18⟩
             try simp only [Int.toNat_natCast] at s0 s1 s2 s3 s4 s5 s6 s7 s8 s9 s10 s11 s12 s13 s14 s15 s16 s17 s18
             go_simp
             with_reducible rfl
            rotate_left
            ·simp only [Act.put, List.setIfInBounds_toArray, List.set_cons_zero, List.set_cons_succ, i64_w, i32_w]
             rfl
            refine take_ (i := 19) (N := some 67) (v := ?_) (a' := ?_) zb19_20 rfl rfl (take_ofW HT_.out HW_.out (by kernel_rfl)) (fun _ _ _ h => h) (Or.inl ⟨by rfl, ?_⟩) hHeld ?_ ?_
            rotate_left
            ·rintro w' ⟨s0, s1, s2, s3, s4, s5, s6, s7, s8, s9, s10, s11, s12, s13, s14, s15, s16, s17, s18⟩
             try simp only [Int.toNat_natCast] at s0 s1 s2 s3 s4 s5 s6 s7 s8 s9 s10 s11 s12 s13 s14 s15 s16 s17 s18
             go_simp
             with_reducible rfl
            rotate_left
            ·simp only [Act.put, List.setIfInBounds_toArray, List.set_cons_zero, List.set_cons_succ, i64_w, i32_w]
             rfl
            refine pV 20 68 zb19_21 rfl rfl HT_.out (by kernel_rfl) (fun _ _ _ h => h) (Or.inl ⟨by rfl, by intro w'; go_simp; with_reducible rfl⟩) (by simp only [zA, zS, zC, zD, i64_w, i32_w]; rfl) ?_
            refine pV 21 69 zb19_22 rfl rfl HT_.out (by kernel_rfl) (fun _ _ _ h => h) (Or.inl ⟨by rfl, by intro w'; go_simp; with_reducible rfl⟩) (by simp only [zA, zS, zC, zD, i64_w, i32_w]; rfl) ?_
            refine pV 22 70 zb19_23 rfl rfl HT_.out (by kernel_rfl) (fun _ _ _ h => h) (Or.inl ⟨by rfl, by intro w'; go_simp; with_reducible rfl⟩) (by simp only [zA, zS, zC, zD, i64_w, i32_w]; rfl) ?_
            refine pV 23 71 zb19_24 rfl rfl HT_.out (by kernel_rfl) (fun _ _ _ h => h) (Or.inr ⟨by rfl, rfl⟩) (by simp only [zA, zS, zC, zD, i64_w, i32_w]; rfl) ?_
            refine pV 24 72 zb19_25 rfl rfl HT_.out (by kernel_rfl) (fun _ _ _ h => h) (Or.inr ⟨by rfl, rfl⟩) (by simp only [zA, zS, zC, zD, i64_w, i32_w]; rfl) ?_
            refine pV 25 73 zb19_26 rfl rfl HT_.out (by kernel_rfl) (fun _ _ _ h => h) (Or.inr ⟨by rfl, rfl⟩) (by simp only [zA, zS, zC, zD, i64_w, i32_w]; rfl) ?_
            refine pV 26 74 zb19_27 rfl rfl HT_.out (by kernel_rfl) (fun _ _ _ h => h) (Or.inr ⟨by rfl, rfl⟩) (by simp only [zA, zS, zC, zD, i64_w, i32_w]; rfl) ?_
            refine pV 27 75 zb19_28 rfl rfl HT_.out (by kernel_rfl) (fun _ _ _ h => h) (Or.inr ⟨by rfl, rfl⟩) (by simp only [zA, zS, zC, zD, i64_w, i32_w]; rfl) ?_
            refine pV 28 76 zb19_29 rfl rfl HT_.out (by kernel_rfl) (fun _ _ _ h => h) (Or.inr ⟨by rfl, rfl⟩) (by simp only [zA, zS, zC, zD, i64_w, i32_w]; rfl) ?_
            refine pV 29 77 zb19_30 rfl rfl HT_.out (by kernel_rfl) (fun _ _ _ h => h) (Or.inr ⟨by rfl, rfl⟩) (by simp only [zA, zS, zC, zD, i64_w, i32_w]; rfl) ?_
            refine pV 30 78 zb19_31 rfl rfl HT_.out (by kernel_rfl) (fun _ _ _ h => h) (Or.inr ⟨by rfl, rfl⟩) (by simp only [zA, zS, zC, zD, i64_w, i32_w]; rfl) ?_
            refine pV 31 79 zb19_32 rfl rfl HT_.out (by kernel_rfl) (fun _ _ _ h => h) (Or.inl ⟨by rfl, by intro w'; go_simp; with_reducible rfl⟩) (by simp only [zA, zS, zC, zD, i64_w, i32_w]; rfl) ?_
            refine done_ (done_of HT_.out (by kernel_rfl)) ?_
            try go_wp2
            go_meet
            case rel => exact ⟨_, (true), (by first | rfl | (simp [*]; done)), H', ⟨by have := HJ3.out; first | omega | exact Nat.le_refl _⟩, ⟨by (with_reducible repeat (first | apply Kd.R_alloc | apply Kd.R_drewN | apply Kd.R_drew)); exact HO235.out⟩, ⟨by (with_reducible repeat (first | refine blk_drewN ?_ _ | refine blk_drew ?_ | refine blk_alloc ?_ _)); exact BK230.out⟩, ⟨by repeat (with_reducible first | exact HB.out | apply below_alloc | apply pw_below_drewN | apply below_drew1 | refine below_set ?_ GE230.out)⟩⟩
           ·rw [if_neg c24] at H
            have c24b0 : (!(((rd_T36 t233 (l0.length : Int)).f0) == a2_0) || (!(((rd_T36 t233 (l0.length : Int)).f1) == a2_1) || (!(((rd_T36 t233 (l0.length : Int)).f2) == a2_2) || (!(((rd_T36 t233 (l0.length : Int)).f3) == a2_3) || (!(((rd_T36 t233 (l0.length : Int)).f4) == a2_4) || (!(((rd_T36 t233 (l0.length : Int)).f5) == a2_5) || (!(((rd_T36 t233 (l0.length : Int)).f6) == a2_6) || (!(((rd_T36 t233 (l0.length : Int)).f7) == a2_7) || (!((((rd_T36 t233 (l0.length : Int)).f8).toList) == a2_8.toList)))))))))) = false := by simpa using c24
            clear c24
            replace H := Option.bind_eq_some_iff.mp H
            obtain ⟨t244, A280, H⟩ := H
            replace H : (if t244 = 0 then ((collect_Check.f kj3 t233).bind fun t245 => (corebanklaw42_CollectAdds.j1 kj3 l1 t233 (t245 != 0) a2_0 a2_1 a2_2 a2_3 a2_4 a2_5 a2_6 a2_7 a2_8 a2_9)) else (corebanklaw42_CollectAdds.j1 kj3 l1 t233 false a2_0 a2_1 a2_2 a2_3 a2_4 a2_5 a2_6 a2_7 a2_8 a2_9)) = some r := H
            have A28 := Aside0.mk A280
            clear A280
            by_cases c29 : t244 = 0
            ·rw [if_pos c29] at H
             have c29b0 : (t244 == 0) = true := beq_iff_eq.mpr c29
             have c29b1 : (t244 != 0) = false := bne_eq_false_iff_eq.mpr c29
             clear c29
             replace H := Option.bind_eq_some_iff.mp H
             obtain ⟨t245, A300, H⟩ := H
             replace H : (corebanklaw42_CollectAdds.j1 kj3 l1 t233 (t245 != 0) a2_0 a2_1 a2_2 a2_3 a2_4 a2_5 a2_6 a2_7 a2_8 a2_9) = some r := H
             have A30 := Aside0.mk A300
             clear A300
             have H' := Aside0.mk H
             clear H
             try go_wp2
             have n0_ := Aside0.mk (Kd.R_drew HO235.out)
             have n1_ := Aside0.mk (blk_drew BK230.out)
             have n2_ := Aside0.mk (below_drew1 HB.out)
             clear HO235
             clear BK230
             clear HB
             have HO235 := n0_
             have BK230 := n1_
             have HB := n2_
             clear n0_ n1_ n2_
             obtain ⟨Ao32, co32, eo32⟩ := Kd.R_slice HO235.out
             (first | subst eo32 | (injection eo32 with f1_ f2_ f3_; have f4_ := f1_.symm; have f5_ := f3_.symm; clear f1_ f2_ f3_; subst f4_; subst f5_))
             have q33 : ((l0.length : Int) : Int) ≤ ((t233.length : Int) : Int) := of_decide_eq_true (by assumption)
             obtain ⟨i033, hi033, _, hsz33, _⟩ := info_parts info36
             have hroom33 : t233.length ≤ co32 := (Kd.R_reads' HO235.out).2.1
             have hC33 : Kd.C k36 _ Ao32 t233.length t233 := (Kd.R_reads' HO235.out).2.2
             have hcut33 := cut_to (P := Tryd.prog) 22 36 .i64 Tryd.underlying22 hi033 Ao32 t233.length co32 (l0.length : Int) (of_decide_eq_true (by assumption)) q33 hroom33
             have hr33 := Kd.C_take (m := ((l0.length : Int) : Int).toNat) hC33 (by omega)
             have hy33 : y238.length = ((l0.length : Int) : Int).toNat := (by rw [Ny238.out, List.length_take]; omega)
             rw [← Ny238.out] at hr33
             rw [← hy33] at hcut33
             have HR241 := Aside0.mk hr33
             have HC241 := Aside0.mk (show y238.length ≤ co32 from by omega)
             clear hr33 hC33 hroom33 hi033 hsz33
             have KY33 := Aside0.mk hy33
             clear hy33
             have KL33 := Aside0.mk (show ((l0.length : Int) : Int).toNat ≤ t233.length from by omega)
             replace q33 := eq_true q33
             have p243 : 0 ≤ ((l0.length : Int) : Int) := of_decide_eq_true (by assumption)
             have q243 : (l0.length : Int) < (t233.length : Int) := of_decide_eq_true (by assumption)
             obtain ⟨ad243, e243, hx243_0, hx243_1, hx243_2, hx243_3, hx243_4, hx243_5, hx243_6, hx243_7, hx243_8⟩ := at_T36 (Kd.R_reads' HO235.out).2.2 (l0.length : Int) p243 q243
             cases e243
             (try simp only [Go.IntWalk.toNatUp] at hx243_0)
             (try simp only [Go.IntWalk.toNatUp] at hx243_1)
             (try simp only [Go.IntWalk.toNatUp] at hx243_2)
             (try simp only [Go.IntWalk.toNatUp] at hx243_3)
             (try simp only [Go.IntWalk.toNatUp] at hx243_4)
             (try simp only [Go.IntWalk.toNatUp] at hx243_5)
             (try simp only [Go.IntWalk.toNatUp] at hx243_6)
             (try simp only [Go.IntWalk.toNatUp] at hx243_7)
             (try simp only [Go.IntWalk.toNatUp] at hx243_8)
             replace p243 := eq_true p243
             replace q243 := eq_true q243
             refine start_ (n := 32) (S := fun w' => w'.cell? ⟨gb230, 0, none⟩ = some (.int .i64 a2_0) ∧ w'.cell? ⟨gb230, 1, none⟩ = some (.int .i64 a2_1) ∧ w'.cell? ⟨gb230, 2, none⟩ = some (.int .i64 a2_2) ∧ w'.cell? ⟨gb230, 3, none⟩ = some (.int .i64 a2_3) ∧ w'.cell? ⟨gb230, 4, none⟩ = some (.int .i64 a2_4) ∧ w'.cell? ⟨gb230, 5, none⟩ = some (.int .i64 a2_5) ∧ w'.cell? ⟨gb230, 6, none⟩ = some (.int .i64 a2_6) ∧ w'.cell? ⟨gb230, 7, none⟩ = some (.int .i64 a2_7) ∧ w'.cell? ⟨gb230, 8, none⟩ = some (.string a2_8) ∧ w'.cell? ⟨gb230, 9, none⟩ = some (.int .i64 a2_9) ∧ w'.cell? (ad243.add (((l0.length : Int)).toNat * 9)) = some (.int .i64 ((rd_T36 t233 (l0.length : Int)).f0)) ∧ w'.cell? ⟨(ad243.add (((l0.length : Int)).toNat * 9)).block, (ad243.add (((l0.length : Int)).toNat * 9)).off + 1, none⟩ = some (.int .i64 ((rd_T36 t233 (l0.length : Int)).f1)) ∧ w'.cell? ⟨(ad243.add (((l0.length : Int)).toNat * 9)).block, (ad243.add (((l0.length : Int)).toNat * 9)).off + 2, none⟩ = some (.int .i64 ((rd_T36 t233 (l0.length : Int)).f2)) ∧ w'.cell? ⟨(ad243.add (((l0.length : Int)).toNat * 9)).block, (ad243.add (((l0.length : Int)).toNat * 9)).off + 3, none⟩ = some (.int .i64 ((rd_T36 t233 (l0.length : Int)).f3)) ∧ w'.cell? ⟨(ad243.add (((l0.length : Int)).toNat * 9)).block, (ad243.add (((l0.length : Int)).toNat * 9)).off + 4, none⟩ = some (.int .i64 ((rd_T36 t233 (l0.length : Int)).f4)) ∧ w'.cell? ⟨(ad243.add (((l0.length : Int)).toNat * 9)).block, (ad243.add (((l0.length : Int)).toNat * 9)).off + 5, none⟩ = some (.int .i64 ((rd_T36 t233 (l0.length : Int)).f5)) ∧ w'.cell? ⟨(ad243.add (((l0.length : Int)).toNat * 9)).block, (ad243.add (((l0.length : Int)).toNat * 9)).off + 6, none⟩ = some (.int .i64 ((rd_T36 t233 (l0.length : Int)).f6)) ∧ w'.cell? ⟨(ad243.add (((l0.length : Int)).toNat * 9)).block, (ad243.add (((l0.length : Int)).toNat * 9)).off + 7, none⟩ = some (.int .i64 ((rd_T36 t233 (l0.length : Int)).f7)) ∧ w'.cell? ⟨(ad243.add (((l0.length : Int)).toNat * 9)).block, (ad243.add (((l0.length : Int)).toNat * 9)).off + 8, none⟩ = some (.string ((rd_T36 t233 (l0.length : Int)).f8))) (ds := []) zb19_0 (by kernel_rfl) rfl rfl ⟨(blk_cell BK230.out 0).trans rfl, (blk_cell BK230.out 1).trans rfl, (blk_cell BK230.out 2).trans rfl, (blk_cell BK230.out 3).trans rfl, (blk_cell BK230.out 4).trans rfl, (blk_cell BK230.out 5).trans rfl, (blk_cell BK230.out 6).trans rfl, (blk_cell BK230.out 7).trans rfl, (blk_cell BK230.out 8).trans rfl, (blk_cell BK230.out 9).trans rfl, hx243_0, hx243_1, hx243_2, hx243_3, hx243_4, hx243_5, hx243_6, hx243_7, hx243_8⟩ (fun hHeld => ?_); refine with_tabW corebanklaw42_CollectAdds.tab7 corebanklaw42_CollectAdds.bits7 (fun HT_ HW_ => ?_)
             generalize w17.drew = w31 at HO235 BK230 HB HR241 hx243_0 hx243_1 hx243_2 hx243_3 hx243_4 hx243_5 hx243_6 hx243_7 hx243_8 hHeld ⊢
             refine pV 0 48 zb19_1 rfl rfl HT_.out (by kernel_rfl) (fun _ _ _ h => h) (Or.inl ⟨by rfl, by intro w'; go_simp; with_reducible rfl⟩) (by simp only [zA, zS, zC, zD, i64_w, i32_w]; rfl) ?_
             refine pV 1 49 zb19_2 rfl rfl HT_.out (by kernel_rfl) (fun _ _ _ h => h) (Or.inl ⟨by rfl, by intro w'; go_simp; with_reducible rfl⟩) (by simp only [zA, zS, zC, zD, i64_w, i32_w]; rfl) ?_
             refine pV 2 50 zb19_3 rfl rfl HT_.out (by kernel_rfl) (fun _ _ _ h => h) (Or.inl ⟨by rfl, by intro w'; go_simp; with_reducible rfl⟩) (by simp only [zA, zS, zC, zD, i64_w, i32_w]; rfl) ?_
             refine pV 3 51 zb19_4 rfl rfl HT_.out (by kernel_rfl) (fun _ _ _ h => h) (Or.inl ⟨by rfl, by intro w'; go_simp; with_reducible rfl⟩) (by simp only [zA, zS, zC, zD, i64_w, i32_w]; rfl) ?_
             refine pV 4 52 zb19_5 rfl rfl HT_.out (by kernel_rfl) (fun _ _ _ h => h) (Or.inl ⟨by rfl, by intro w'; go_simp; with_reducible rfl⟩) (by simp only [zA, zS, zC, zD, i64_w, i32_w]; rfl) ?_
             refine pV 5 53 zb19_6 rfl rfl HT_.out (by kernel_rfl) (fun _ _ _ h => h) (Or.inl ⟨by rfl, by intro w'; go_simp; with_reducible rfl⟩) (by simp only [zA, zS, zC, zD, i64_w, i32_w]; rfl) ?_
             refine pV 6 54 zb19_7 rfl rfl HT_.out (by kernel_rfl) (fun _ _ _ h => h) (Or.inl ⟨by rfl, by intro w'; go_simp; with_reducible rfl⟩) (by simp only [zA, zS, zC, zD, i64_w, i32_w]; rfl) ?_
             refine pV 7 55 zb19_8 rfl rfl HT_.out (by kernel_rfl) (fun _ _ _ h => h) (Or.inl ⟨by rfl, by intro w'; go_simp; with_reducible rfl⟩) (by simp only [zA, zS, zC, zD, i64_w, i32_w]; rfl) ?_
             refine pV 8 56 zb19_9 rfl rfl HT_.out (by kernel_rfl) (fun _ _ _ h => h) (Or.inl ⟨by rfl, by intro w'; go_simp; with_reducible rfl⟩) (by simp only [zA, zS, zC, zD, i64_w, i32_w]; rfl) ?_
             refine pV 9 57 zb19_10 rfl rfl HT_.out (by kernel_rfl) (fun _ _ _ h => h) (Or.inl ⟨by rfl, by intro w'; go_simp; with_reducible rfl⟩) (by simp only [zA, zS, zC, zD, i64_w, i32_w]; rfl) ?_
             refine one_ (i := 10) (N := some 58) zb19_11 rfl rfl (one_of HT_.out (by kernel_rfl)) (by decide) (fun K hK => ?_)
             refine goes_ Tryd.func16 (by kernel_rfl) rfl #[.slice _ y238.length _, .slice A0 l0.length c0] (by rfl) rfl rfl (by (try simp only [List.map_toArray, List.map_cons, List.map_nil]); first | done | rfl | (simp only [List.length_drop, List.length_take]; rfl)) ?_
             with_reducible refine (corebankref42_SameAll.calls kj3 _ _ y238 _ _ l0 true _ ?side1 ?side2 ?side3 ?side4 A21.out).mono ?_
             (case side1 => repeat (first | exact (by repeat (first | (with_reducible exact HR241.out) | (with_reducible refine Kd.C_alloc ?_ _) | (with_reducible refine Kd.C_drewN ?_ _) | (with_reducible refine Kd.C_drew ?_) | exact HR241.out)) | (with_reducible refine Kd.C_alloc ?_ _) | (with_reducible refine Kd.C_drewN ?_ _) | (with_reducible refine Kd.C_drew ?_)))
             (case side2 => exact HC241.out)
             (case side3 => repeat (first | exact (Kd.C_below HR0.out HB.out) | (with_reducible refine Kd.C_alloc ?_ _) | (with_reducible refine Kd.C_drewN ?_ _) | (with_reducible refine Kd.C_drew ?_)))
             (case side4 => exact HC0.out)
             rintro e w' ⟨rfl, ⟨nd, rfl⟩⟩
             refine ⟨_, rfl, ?_⟩
             refine hK.out _ _ ⟨(blk_cell BK230.out 0).trans rfl, (blk_cell BK230.out 1).trans rfl, (blk_cell BK230.out 2).trans rfl, (blk_cell BK230.out 3).trans rfl, (blk_cell BK230.out 4).trans rfl, (blk_cell BK230.out 5).trans rfl, (blk_cell BK230.out 6).trans rfl, (blk_cell BK230.out 7).trans rfl, (blk_cell BK230.out 8).trans rfl, (blk_cell BK230.out 9).trans rfl, hHeld.2.2.2.2.2.2.2.2.2.2.1, hHeld.2.2.2.2.2.2.2.2.2.2.2.1, hHeld.2.2.2.2.2.2.2.2.2.2.2.2.1, hHeld.2.2.2.2.2.2.2.2.2.2.2.2.2.1, hHeld.2.2.2.2.2.2.2.2.2.2.2.2.2.2.1, hHeld.2.2.2.2.2.2.2.2.2.2.2.2.2.2.2.1, hHeld.2.2.2.2.2.2.2.2.2.2.2.2.2.2.2.2.1, hHeld.2.2.2.2.2.2.2.2.2.2.2.2.2.2.2.2.2.1, hHeld.2.2.2.2.2.2.2.2.2.2.2.2.2.2.2.2.2.2⟩ (fun hHeld => ?_)
             clear hK K
             refine norm_ (a' := ?_) ?_ ?_
             rotate_left
             ·show Act.put _ (some 58) _ = _
              simp only [Act.put, List.setIfInBounds_toArray, List.set_cons_zero, List.set_cons_succ, i64_w, i32_w]
              rfl
             refine pV 11 59 zb19_12 rfl rfl HT_.out (by kernel_rfl) (fun _ _ _ h => h) (Or.inl ⟨by rfl, by intro w'; go_simp; with_reducible rfl⟩) (by simp only [zA, zS, zC, zD, i64_w, i32_w]; rfl) ?_
             refine pV 12 60 zb19_13 rfl rfl HT_.out (by kernel_rfl) (fun _ _ _ h => h) (Or.inl ⟨by rfl, by intro w'; go_simp; with_reducible rfl⟩) (by simp only [zA, zS, zC, zD, i64_w, i32_w]; rfl) ?_
             refine pV 13 61 zb19_14 rfl rfl HT_.out (by kernel_rfl) (fun _ _ _ h => h) (Or.inl ⟨by rfl, by intro w'; go_simp; with_reducible rfl⟩) (by simp only [zA, zS, zC, zD, i64_w, i32_w]; rfl) ?_
             refine pV 14 62 zb19_15 rfl rfl HT_.out (by kernel_rfl) (fun _ _ _ h => h) (Or.inl ⟨by rfl, by intro w'; go_simp; with_reducible rfl⟩) (by simp only [zA, zS, zC, zD, i64_w, i32_w]; rfl) ?_
             refine pV 15 63 zb19_16 rfl rfl HT_.out (by kernel_rfl) (fun _ _ _ h => h) (Or.inl ⟨by rfl, by intro w'; go_simp; with_reducible rfl⟩) (by simp only [zA, zS, zC, zD, i64_w, i32_w]; rfl) ?_
             refine pV 16 64 zb19_17 rfl rfl HT_.out (by kernel_rfl) (fun _ _ _ h => h) (Or.inl ⟨by rfl, by intro w'; go_simp; with_reducible rfl⟩) (by simp only [zA, zS, zC, zD, i64_w, i32_w]; rfl) ?_
             refine pV 18 66 zb19_18 rfl rfl HT_.out (by kernel_rfl) (fun _ _ _ h => h) (Or.inl ⟨by rfl, by intro w'; go_simp; with_reducible rfl⟩) (by simp only [zA, zS, zC, zD, i64_w, i32_w]; rfl) ?_
             refine take_ (i := 17) (N := some 65) (v := ?_) (a' := ?_) zb19_19 rfl rfl (take_ofW HT_.out HW_.out (by kernel_rfl)) (fun _ _ _ h => h) (Or.inl ⟨by rfl, ?_⟩) hHeld ?_ ?_
             rotate_left
             ·rintro w' ⟨s0, s1, s2, s3, s4, s5, s6, s7, s8, s9, s10, s11, s12, s13, s14, s15, s16, s17, s18⟩
              try simp only [Int.toNat_natCast] at s0 s1 s2 s3 s4 s5 s6 s7 s8 s9 s10 s11 s12 s13 s14 s15 s16 s17 s18
              go_simp
              with_reducible rfl
             rotate_left
             ·simp only [Act.put, List.setIfInBounds_toArray, List.set_cons_zero, List.set_cons_succ, i64_w, i32_w]
              rfl
             refine take_ (i := 19) (N := some 67) (v := ?_) (a' := ?_) zb19_20 rfl rfl (take_ofW HT_.out HW_.out (by kernel_rfl)) (fun _ _ _ h => h) (Or.inl ⟨by rfl, ?_⟩) hHeld ?_ ?_
             rotate_left
             ·rintro w' ⟨s0, s1, s2, s3, s4, s5, s6, s7, s8, s9, s10, s11, s12, s13, s14, s15, s16, s17, s18⟩
              try simp only [Int.toNat_natCast] at s0 s1 s2 s3 s4 s5 s6 s7 s8 s9 s10 s11 s12 s13 s14 s15 s16 s17 s18
              go_simp
              with_reducible rfl
             rotate_left
             ·simp only [Act.put, List.setIfInBounds_toArray, List.set_cons_zero, List.set_cons_succ, i64_w, i32_w]
              rfl
             refine pV 20 68 zb19_21 rfl rfl HT_.out (by kernel_rfl) (fun _ _ _ h => h) (Or.inl ⟨by rfl, by intro w'; go_simp; with_reducible rfl⟩) (by simp only [zA, zS, zC, zD, i64_w, i32_w]; rfl) ?_
             refine pV 21 69 zb19_22 rfl rfl HT_.out (by kernel_rfl) (fun _ _ _ h => h) (Or.inl ⟨by rfl, by intro w'; go_simp; with_reducible rfl⟩) (by simp only [zA, zS, zC, zD, i64_w, i32_w]; rfl) ?_
             refine pV 22 70 zb19_23 rfl rfl HT_.out (by kernel_rfl) (fun _ _ _ h => h) (Or.inl ⟨by rfl, by intro w'; go_simp; with_reducible rfl⟩) (by simp only [zA, zS, zC, zD, i64_w, i32_w]; rfl) ?_
             refine pV 23 71 zb19_24 rfl rfl HT_.out (by kernel_rfl) (fun _ _ _ h => h) (Or.inl ⟨by rfl, by intro w'; go_simp; with_reducible rfl⟩) (by simp only [zA, zS, zC, zD, i64_w, i32_w]; rfl) ?_
             refine one_ (i := 24) (N := some 72) zb19_25 rfl rfl (one_of HT_.out (by kernel_rfl)) (by decide) (fun K hK => ?_)
             refine goes_ Tryd.func10 (by kernel_rfl) rfl #[.slice A0 l0.length c0] (by rfl) rfl rfl (by (try simp only [List.map_toArray, List.map_cons, List.map_nil]); first | done | rfl | (simp only [List.length_drop, List.length_take]; rfl)) ?_
             with_reducible refine (collect_Check.calls kj3 _ _ l0 t244 _ ?sideV ?side1 ?side2 A28.out).mono ?_
             case sideV => exact VarOK.below HV.out (by repeat (with_reducible first | exact HB.out | apply below_alloc | apply pw_below_drewN | apply below_drew1 | refine below_set ?_ GE230.out))
             (case side1 => repeat (first | exact (Kd.C_below HR0.out (by repeat (with_reducible first | exact HB.out | apply below_alloc | apply pw_below_drewN | apply below_drew1 | refine below_set ?_ GE230.out))) | (with_reducible refine Kd.C_alloc ?_ _) | (with_reducible refine Kd.C_drewN ?_ _) | (with_reducible refine Kd.C_drew ?_)))
             (case side2 => exact HC0.out)
             rintro e w34 ⟨rfl, hb⟩
             have HS10_ := (hb.cell (World.block_lt_of_cell? _ _ (hHeld.2.2.2.2.2.2.2.2.2.2.1))).trans (hHeld.2.2.2.2.2.2.2.2.2.2.1)
             have HS11_ := (hb.cell (World.block_lt_of_cell? _ _ (hHeld.2.2.2.2.2.2.2.2.2.2.2.1))).trans (hHeld.2.2.2.2.2.2.2.2.2.2.2.1)
             have HS12_ := (hb.cell (World.block_lt_of_cell? _ _ (hHeld.2.2.2.2.2.2.2.2.2.2.2.2.1))).trans (hHeld.2.2.2.2.2.2.2.2.2.2.2.2.1)
             have HS13_ := (hb.cell (World.block_lt_of_cell? _ _ (hHeld.2.2.2.2.2.2.2.2.2.2.2.2.2.1))).trans (hHeld.2.2.2.2.2.2.2.2.2.2.2.2.2.1)
             have HS14_ := (hb.cell (World.block_lt_of_cell? _ _ (hHeld.2.2.2.2.2.2.2.2.2.2.2.2.2.2.1))).trans (hHeld.2.2.2.2.2.2.2.2.2.2.2.2.2.2.1)
             have HS15_ := (hb.cell (World.block_lt_of_cell? _ _ (hHeld.2.2.2.2.2.2.2.2.2.2.2.2.2.2.2.1))).trans (hHeld.2.2.2.2.2.2.2.2.2.2.2.2.2.2.2.1)
             have HS16_ := (hb.cell (World.block_lt_of_cell? _ _ (hHeld.2.2.2.2.2.2.2.2.2.2.2.2.2.2.2.2.1))).trans (hHeld.2.2.2.2.2.2.2.2.2.2.2.2.2.2.2.2.1)
             have HS17_ := (hb.cell (World.block_lt_of_cell? _ _ (hHeld.2.2.2.2.2.2.2.2.2.2.2.2.2.2.2.2.2.1))).trans (hHeld.2.2.2.2.2.2.2.2.2.2.2.2.2.2.2.2.2.1)
             have HS18_ := (hb.cell (World.block_lt_of_cell? _ _ (hHeld.2.2.2.2.2.2.2.2.2.2.2.2.2.2.2.2.2.2))).trans (hHeld.2.2.2.2.2.2.2.2.2.2.2.2.2.2.2.2.2.2)
             refine ⟨_, rfl, ?_⟩
             have n0_ := Aside0.mk (Kd.R_below (by (with_reducible repeat (first | apply Kd.R_alloc | apply Kd.R_drewN | apply Kd.R_drew)); exact HO235.out) hb)
             have n1_ := Aside0.mk (blk_below (g := gb230) (by (with_reducible repeat (first | refine blk_drewN ?_ _ | refine blk_drew ?_ | refine blk_alloc ?_ _)); exact BK230.out) hb)
             have n2_ := Aside0.mk (Kd.C_below (by repeat (first | (with_reducible exact HR241.out) | (with_reducible refine Kd.C_alloc ?_ _) | (with_reducible refine Kd.C_drewN ?_ _) | (with_reducible refine Kd.C_drew ?_) | exact HR241.out)) hb)
             have n3_ := Aside0.mk (below_step (by repeat (with_reducible first | exact HB.out | apply below_alloc | apply pw_below_drewN | apply below_drew1 | refine below_set ?_ GE230.out)) hb)
             clear HO235
             clear BK230
             clear HR241
             clear HB
             have HO235 := n0_
             have BK230 := n1_
             have HR241 := n2_
             have HB := n3_
             clear n0_ n1_ n2_ n3_
             (try clear hb)
             (try clear hb2)
             (try clear hk)
             (try clear hi)
             refine hK.out _ _ ⟨(blk_cell BK230.out 0).trans rfl, (blk_cell BK230.out 1).trans rfl, (blk_cell BK230.out 2).trans rfl, (blk_cell BK230.out 3).trans rfl, (blk_cell BK230.out 4).trans rfl, (blk_cell BK230.out 5).trans rfl, (blk_cell BK230.out 6).trans rfl, (blk_cell BK230.out 7).trans rfl, (blk_cell BK230.out 8).trans rfl, (blk_cell BK230.out 9).trans rfl, HS10_, HS11_, HS12_, HS13_, HS14_, HS15_, HS16_, HS17_, HS18_⟩ (fun hHeld => ?_)
             clear hK K
             refine norm_ (a' := ?_) ?_ ?_
             rotate_left
             ·show Act.put _ (some 72) _ = _
              simp only [Act.put, List.setIfInBounds_toArray, List.set_cons_zero, List.set_cons_succ, i64_w, i32_w]
              rfl
             refine pV 25 73 zb19_26 rfl rfl HT_.out (by kernel_rfl) (fun _ _ _ h => h) (Or.inl ⟨by rfl, by intro w'; go_simp; with_reducible rfl⟩) (by simp only [zA, zS, zC, zD, i64_w, i32_w]; rfl) ?_
             refine pV 26 74 zb19_27 rfl rfl HT_.out (by kernel_rfl) (fun _ _ _ h => h) (Or.inl ⟨by rfl, by intro w'; go_simp; with_reducible rfl⟩) (by simp only [zA, zS, zC, zD, i64_w, i32_w]; rfl) ?_
             refine pV 27 75 zb19_28 rfl rfl HT_.out (by kernel_rfl) (fun _ _ _ h => h) (Or.inl ⟨by rfl, by intro w'; go_simp; with_reducible rfl⟩) (by simp only [zA, zS, zC, zD, i64_w, i32_w]; rfl) ?_
             refine one_ (i := 28) (N := some 76) zb19_29 rfl rfl (one_of HT_.out (by kernel_rfl)) (by decide) (fun K hK => ?_)
             refine goes_ Tryd.func10 (by kernel_rfl) rfl #[.slice (some ad243) t233.length co32] (by rfl) rfl rfl (by (try simp only [List.map_toArray, List.map_cons, List.map_nil]); first | done | rfl | (simp only [List.length_drop, List.length_take]; rfl)) ?_
             with_reducible refine (collect_Check.calls kj3 _ _ t233 t245 _ ?sideV ?side1 ?side2 A30.out).mono ?_
             case sideV => exact VarOK.below HV.out (by repeat (with_reducible first | exact HB.out | apply below_alloc | apply pw_below_drewN | apply below_drew1 | refine below_set ?_ GE230.out))
             (case side1 => repeat (first | exact (Kd.R_reads' HO235.out).2.2 | (with_reducible refine Kd.C_alloc ?_ _) | (with_reducible refine Kd.C_drewN ?_ _) | (with_reducible refine Kd.C_drew ?_)))
             (case side2 => exact (Kd.R_reads' HO235.out).2.1)
             rintro e w35 ⟨rfl, hb⟩
             have HS10_ := (hb.cell (World.block_lt_of_cell? _ _ (hHeld.2.2.2.2.2.2.2.2.2.2.1))).trans (hHeld.2.2.2.2.2.2.2.2.2.2.1)
             have HS11_ := (hb.cell (World.block_lt_of_cell? _ _ (hHeld.2.2.2.2.2.2.2.2.2.2.2.1))).trans (hHeld.2.2.2.2.2.2.2.2.2.2.2.1)
             have HS12_ := (hb.cell (World.block_lt_of_cell? _ _ (hHeld.2.2.2.2.2.2.2.2.2.2.2.2.1))).trans (hHeld.2.2.2.2.2.2.2.2.2.2.2.2.1)
             have HS13_ := (hb.cell (World.block_lt_of_cell? _ _ (hHeld.2.2.2.2.2.2.2.2.2.2.2.2.2.1))).trans (hHeld.2.2.2.2.2.2.2.2.2.2.2.2.2.1)
             have HS14_ := (hb.cell (World.block_lt_of_cell? _ _ (hHeld.2.2.2.2.2.2.2.2.2.2.2.2.2.2.1))).trans (hHeld.2.2.2.2.2.2.2.2.2.2.2.2.2.2.1)
             have HS15_ := (hb.cell (World.block_lt_of_cell? _ _ (hHeld.2.2.2.2.2.2.2.2.2.2.2.2.2.2.2.1))).trans (hHeld.2.2.2.2.2.2.2.2.2.2.2.2.2.2.2.1)
             have HS16_ := (hb.cell (World.block_lt_of_cell? _ _ (hHeld.2.2.2.2.2.2.2.2.2.2.2.2.2.2.2.2.1))).trans (hHeld.2.2.2.2.2.2.2.2.2.2.2.2.2.2.2.2.1)
             have HS17_ := (hb.cell (World.block_lt_of_cell? _ _ (hHeld.2.2.2.2.2.2.2.2.2.2.2.2.2.2.2.2.2.1))).trans (hHeld.2.2.2.2.2.2.2.2.2.2.2.2.2.2.2.2.2.1)
             have HS18_ := (hb.cell (World.block_lt_of_cell? _ _ (hHeld.2.2.2.2.2.2.2.2.2.2.2.2.2.2.2.2.2.2))).trans (hHeld.2.2.2.2.2.2.2.2.2.2.2.2.2.2.2.2.2.2)
             refine ⟨_, rfl, ?_⟩
             have n0_ := Aside0.mk (Kd.R_below (by (with_reducible repeat (first | apply Kd.R_alloc | apply Kd.R_drewN | apply Kd.R_drew)); exact HO235.out) hb)
             have n1_ := Aside0.mk (blk_below (g := gb230) (by (with_reducible repeat (first | refine blk_drewN ?_ _ | refine blk_drew ?_ | refine blk_alloc ?_ _)); exact BK230.out) hb)
             have n2_ := Aside0.mk (Kd.C_below (by repeat (first | (with_reducible exact HR241.out) | (with_reducible refine Kd.C_alloc ?_ _) | (with_reducible refine Kd.C_drewN ?_ _) | (with_reducible refine Kd.C_drew ?_) | exact HR241.out)) hb)
             have n3_ := Aside0.mk (below_step (by repeat (with_reducible first | exact HB.out | apply below_alloc | apply pw_below_drewN | apply below_drew1 | refine below_set ?_ GE230.out)) hb)
             clear HO235
             clear BK230
             clear HR241
             clear HB
             have HO235 := n0_
             have BK230 := n1_
             have HR241 := n2_
             have HB := n3_
             clear n0_ n1_ n2_ n3_
             (try clear hb)
             (try clear hb2)
             (try clear hk)
             (try clear hi)
             refine hK.out _ _ ⟨(blk_cell BK230.out 0).trans rfl, (blk_cell BK230.out 1).trans rfl, (blk_cell BK230.out 2).trans rfl, (blk_cell BK230.out 3).trans rfl, (blk_cell BK230.out 4).trans rfl, (blk_cell BK230.out 5).trans rfl, (blk_cell BK230.out 6).trans rfl, (blk_cell BK230.out 7).trans rfl, (blk_cell BK230.out 8).trans rfl, (blk_cell BK230.out 9).trans rfl, HS10_, HS11_, HS12_, HS13_, HS14_, HS15_, HS16_, HS17_, HS18_⟩ (fun hHeld => ?_)
             clear hK K
             refine norm_ (a' := ?_) ?_ ?_
             rotate_left
             ·show Act.put _ (some 76) _ = _
              simp only [Act.put, List.setIfInBounds_toArray, List.set_cons_zero, List.set_cons_succ, i64_w, i32_w]
              rfl
             refine pV 29 77 zb19_30 rfl rfl HT_.out (by kernel_rfl) (fun _ _ _ h => h) (Or.inl ⟨by rfl, by intro w'; go_simp; with_reducible rfl⟩) (by simp only [zA, zS, zC, zD, i64_w, i32_w]; rfl) ?_
             refine pV 30 78 zb19_31 rfl rfl HT_.out (by kernel_rfl) (fun _ _ _ h => h) (Or.inl ⟨by rfl, by intro w'; go_simp; with_reducible rfl⟩) (by simp only [zA, zS, zC, zD, i64_w, i32_w]; rfl) ?_
             refine pV 31 79 zb19_32 rfl rfl HT_.out (by kernel_rfl) (fun _ _ _ h => h) (Or.inl ⟨by rfl, by intro w'; go_simp; with_reducible rfl⟩) (by simp only [zA, zS, zC, zD, i64_w, i32_w]; rfl) ?_
             refine done_ (done_of HT_.out (by kernel_rfl)) ?_
             try go_wp2
             go_meet
             case rel => exact ⟨_, ((t245 != 0)), (by first | rfl | (simp [*]; done)), H', ⟨by have := HJ3.out; first | omega | exact Nat.le_refl _⟩, ⟨by (with_reducible repeat (first | apply Kd.R_alloc | apply Kd.R_drewN | apply Kd.R_drew)); exact HO235.out⟩, ⟨by (with_reducible repeat (first | refine blk_drewN ?_ _ | refine blk_drew ?_ | refine blk_alloc ?_ _)); exact BK230.out⟩, ⟨by repeat (with_reducible first | exact HB.out | apply below_alloc | apply pw_below_drewN | apply below_drew1 | refine below_set ?_ GE230.out)⟩⟩
            ·rw [if_neg c29] at H
             have c29b0 : (t244 == 0) = false := beq_eq_false_iff_ne.mpr c29
             have c29b1 : (t244 != 0) = true := bne_iff_ne.mpr c29
             have H' := Aside0.mk H
             clear H
             try go_wp2
             have n0_ := Aside0.mk (Kd.R_drew HO235.out)
             have n1_ := Aside0.mk (blk_drew BK230.out)
             have n2_ := Aside0.mk (below_drew1 HB.out)
             clear HO235
             clear BK230
             clear HB
             have HO235 := n0_
             have BK230 := n1_
             have HB := n2_
             clear n0_ n1_ n2_
             obtain ⟨Ao37, co37, eo37⟩ := Kd.R_slice HO235.out
             (first | subst eo37 | (injection eo37 with f1_ f2_ f3_; have f4_ := f1_.symm; have f5_ := f3_.symm; clear f1_ f2_ f3_; subst f4_; subst f5_))
             have q38 : ((l0.length : Int) : Int) ≤ ((t233.length : Int) : Int) := of_decide_eq_true (by assumption)
             obtain ⟨i038, hi038, _, hsz38, _⟩ := info_parts info36
             have hroom38 : t233.length ≤ co37 := (Kd.R_reads' HO235.out).2.1
             have hC38 : Kd.C k36 _ Ao37 t233.length t233 := (Kd.R_reads' HO235.out).2.2
             have hcut38 := cut_to (P := Tryd.prog) 22 36 .i64 Tryd.underlying22 hi038 Ao37 t233.length co37 (l0.length : Int) (of_decide_eq_true (by assumption)) q38 hroom38
             have hr38 := Kd.C_take (m := ((l0.length : Int) : Int).toNat) hC38 (by omega)
             have hy38 : y238.length = ((l0.length : Int) : Int).toNat := (by rw [Ny238.out, List.length_take]; omega)
             rw [← Ny238.out] at hr38
             rw [← hy38] at hcut38
             have HR241 := Aside0.mk hr38
             have HC241 := Aside0.mk (show y238.length ≤ co37 from by omega)
             clear hr38 hC38 hroom38 hi038 hsz38
             have KY38 := Aside0.mk hy38
             clear hy38
             have KL38 := Aside0.mk (show ((l0.length : Int) : Int).toNat ≤ t233.length from by omega)
             replace q38 := eq_true q38
             have p243 : 0 ≤ ((l0.length : Int) : Int) := of_decide_eq_true (by assumption)
             have q243 : (l0.length : Int) < (t233.length : Int) := of_decide_eq_true (by assumption)
             obtain ⟨ad243, e243, hx243_0, hx243_1, hx243_2, hx243_3, hx243_4, hx243_5, hx243_6, hx243_7, hx243_8⟩ := at_T36 (Kd.R_reads' HO235.out).2.2 (l0.length : Int) p243 q243
             cases e243
             (try simp only [Go.IntWalk.toNatUp] at hx243_0)
             (try simp only [Go.IntWalk.toNatUp] at hx243_1)
             (try simp only [Go.IntWalk.toNatUp] at hx243_2)
             (try simp only [Go.IntWalk.toNatUp] at hx243_3)
             (try simp only [Go.IntWalk.toNatUp] at hx243_4)
             (try simp only [Go.IntWalk.toNatUp] at hx243_5)
             (try simp only [Go.IntWalk.toNatUp] at hx243_6)
             (try simp only [Go.IntWalk.toNatUp] at hx243_7)
             (try simp only [Go.IntWalk.toNatUp] at hx243_8)
             replace p243 := eq_true p243
             replace q243 := eq_true q243
             refine start_ (n := 32) (S := fun w' => w'.cell? ⟨gb230, 0, none⟩ = some (.int .i64 a2_0) ∧ w'.cell? ⟨gb230, 1, none⟩ = some (.int .i64 a2_1) ∧ w'.cell? ⟨gb230, 2, none⟩ = some (.int .i64 a2_2) ∧ w'.cell? ⟨gb230, 3, none⟩ = some (.int .i64 a2_3) ∧ w'.cell? ⟨gb230, 4, none⟩ = some (.int .i64 a2_4) ∧ w'.cell? ⟨gb230, 5, none⟩ = some (.int .i64 a2_5) ∧ w'.cell? ⟨gb230, 6, none⟩ = some (.int .i64 a2_6) ∧ w'.cell? ⟨gb230, 7, none⟩ = some (.int .i64 a2_7) ∧ w'.cell? ⟨gb230, 8, none⟩ = some (.string a2_8) ∧ w'.cell? ⟨gb230, 9, none⟩ = some (.int .i64 a2_9) ∧ w'.cell? (ad243.add (((l0.length : Int)).toNat * 9)) = some (.int .i64 ((rd_T36 t233 (l0.length : Int)).f0)) ∧ w'.cell? ⟨(ad243.add (((l0.length : Int)).toNat * 9)).block, (ad243.add (((l0.length : Int)).toNat * 9)).off + 1, none⟩ = some (.int .i64 ((rd_T36 t233 (l0.length : Int)).f1)) ∧ w'.cell? ⟨(ad243.add (((l0.length : Int)).toNat * 9)).block, (ad243.add (((l0.length : Int)).toNat * 9)).off + 2, none⟩ = some (.int .i64 ((rd_T36 t233 (l0.length : Int)).f2)) ∧ w'.cell? ⟨(ad243.add (((l0.length : Int)).toNat * 9)).block, (ad243.add (((l0.length : Int)).toNat * 9)).off + 3, none⟩ = some (.int .i64 ((rd_T36 t233 (l0.length : Int)).f3)) ∧ w'.cell? ⟨(ad243.add (((l0.length : Int)).toNat * 9)).block, (ad243.add (((l0.length : Int)).toNat * 9)).off + 4, none⟩ = some (.int .i64 ((rd_T36 t233 (l0.length : Int)).f4)) ∧ w'.cell? ⟨(ad243.add (((l0.length : Int)).toNat * 9)).block, (ad243.add (((l0.length : Int)).toNat * 9)).off + 5, none⟩ = some (.int .i64 ((rd_T36 t233 (l0.length : Int)).f5)) ∧ w'.cell? ⟨(ad243.add (((l0.length : Int)).toNat * 9)).block, (ad243.add (((l0.length : Int)).toNat * 9)).off + 6, none⟩ = some (.int .i64 ((rd_T36 t233 (l0.length : Int)).f6)) ∧ w'.cell? ⟨(ad243.add (((l0.length : Int)).toNat * 9)).block, (ad243.add (((l0.length : Int)).toNat * 9)).off + 7, none⟩ = some (.int .i64 ((rd_T36 t233 (l0.length : Int)).f7)) ∧ w'.cell? ⟨(ad243.add (((l0.length : Int)).toNat * 9)).block, (ad243.add (((l0.length : Int)).toNat * 9)).off + 8, none⟩ = some (.string ((rd_T36 t233 (l0.length : Int)).f8))) (ds := []) zb19_0 (by kernel_rfl) rfl rfl ⟨(blk_cell BK230.out 0).trans rfl, (blk_cell BK230.out 1).trans rfl, (blk_cell BK230.out 2).trans rfl, (blk_cell BK230.out 3).trans rfl, (blk_cell BK230.out 4).trans rfl, (blk_cell BK230.out 5).trans rfl, (blk_cell BK230.out 6).trans rfl, (blk_cell BK230.out 7).trans rfl, (blk_cell BK230.out 8).trans rfl, (blk_cell BK230.out 9).trans rfl, hx243_0, hx243_1, hx243_2, hx243_3, hx243_4, hx243_5, hx243_6, hx243_7, hx243_8⟩ (fun hHeld => ?_); refine with_tabW corebanklaw42_CollectAdds.tab7 corebanklaw42_CollectAdds.bits7 (fun HT_ HW_ => ?_)
             generalize w17.drew = w36 at HO235 BK230 HB HR241 hx243_0 hx243_1 hx243_2 hx243_3 hx243_4 hx243_5 hx243_6 hx243_7 hx243_8 hHeld ⊢
             refine pV 0 48 zb19_1 rfl rfl HT_.out (by kernel_rfl) (fun _ _ _ h => h) (Or.inl ⟨by rfl, by intro w'; go_simp; with_reducible rfl⟩) (by simp only [zA, zS, zC, zD, i64_w, i32_w]; rfl) ?_
             refine pV 1 49 zb19_2 rfl rfl HT_.out (by kernel_rfl) (fun _ _ _ h => h) (Or.inl ⟨by rfl, by intro w'; go_simp; with_reducible rfl⟩) (by simp only [zA, zS, zC, zD, i64_w, i32_w]; rfl) ?_
             refine pV 2 50 zb19_3 rfl rfl HT_.out (by kernel_rfl) (fun _ _ _ h => h) (Or.inl ⟨by rfl, by intro w'; go_simp; with_reducible rfl⟩) (by simp only [zA, zS, zC, zD, i64_w, i32_w]; rfl) ?_
             refine pV 3 51 zb19_4 rfl rfl HT_.out (by kernel_rfl) (fun _ _ _ h => h) (Or.inl ⟨by rfl, by intro w'; go_simp; with_reducible rfl⟩) (by simp only [zA, zS, zC, zD, i64_w, i32_w]; rfl) ?_
             refine pV 4 52 zb19_5 rfl rfl HT_.out (by kernel_rfl) (fun _ _ _ h => h) (Or.inl ⟨by rfl, by intro w'; go_simp; with_reducible rfl⟩) (by simp only [zA, zS, zC, zD, i64_w, i32_w]; rfl) ?_
             refine pV 5 53 zb19_6 rfl rfl HT_.out (by kernel_rfl) (fun _ _ _ h => h) (Or.inl ⟨by rfl, by intro w'; go_simp; with_reducible rfl⟩) (by simp only [zA, zS, zC, zD, i64_w, i32_w]; rfl) ?_
             refine pV 6 54 zb19_7 rfl rfl HT_.out (by kernel_rfl) (fun _ _ _ h => h) (Or.inl ⟨by rfl, by intro w'; go_simp; with_reducible rfl⟩) (by simp only [zA, zS, zC, zD, i64_w, i32_w]; rfl) ?_
             refine pV 7 55 zb19_8 rfl rfl HT_.out (by kernel_rfl) (fun _ _ _ h => h) (Or.inl ⟨by rfl, by intro w'; go_simp; with_reducible rfl⟩) (by simp only [zA, zS, zC, zD, i64_w, i32_w]; rfl) ?_
             refine pV 8 56 zb19_9 rfl rfl HT_.out (by kernel_rfl) (fun _ _ _ h => h) (Or.inl ⟨by rfl, by intro w'; go_simp; with_reducible rfl⟩) (by simp only [zA, zS, zC, zD, i64_w, i32_w]; rfl) ?_
             refine pV 9 57 zb19_10 rfl rfl HT_.out (by kernel_rfl) (fun _ _ _ h => h) (Or.inl ⟨by rfl, by intro w'; go_simp; with_reducible rfl⟩) (by simp only [zA, zS, zC, zD, i64_w, i32_w]; rfl) ?_
             refine one_ (i := 10) (N := some 58) zb19_11 rfl rfl (one_of HT_.out (by kernel_rfl)) (by decide) (fun K hK => ?_)
             refine goes_ Tryd.func16 (by kernel_rfl) rfl #[.slice _ y238.length _, .slice A0 l0.length c0] (by rfl) rfl rfl (by (try simp only [List.map_toArray, List.map_cons, List.map_nil]); first | done | rfl | (simp only [List.length_drop, List.length_take]; rfl)) ?_
             with_reducible refine (corebankref42_SameAll.calls kj3 _ _ y238 _ _ l0 true _ ?side1 ?side2 ?side3 ?side4 A21.out).mono ?_
             (case side1 => repeat (first | exact (by repeat (first | (with_reducible exact HR241.out) | (with_reducible refine Kd.C_alloc ?_ _) | (with_reducible refine Kd.C_drewN ?_ _) | (with_reducible refine Kd.C_drew ?_) | exact HR241.out)) | (with_reducible refine Kd.C_alloc ?_ _) | (with_reducible refine Kd.C_drewN ?_ _) | (with_reducible refine Kd.C_drew ?_)))
             (case side2 => exact HC241.out)
             (case side3 => repeat (first | exact (Kd.C_below HR0.out HB.out) | (with_reducible refine Kd.C_alloc ?_ _) | (with_reducible refine Kd.C_drewN ?_ _) | (with_reducible refine Kd.C_drew ?_)))
             (case side4 => exact HC0.out)
             rintro e w' ⟨rfl, ⟨nd, rfl⟩⟩
             refine ⟨_, rfl, ?_⟩
             refine hK.out _ _ ⟨(blk_cell BK230.out 0).trans rfl, (blk_cell BK230.out 1).trans rfl, (blk_cell BK230.out 2).trans rfl, (blk_cell BK230.out 3).trans rfl, (blk_cell BK230.out 4).trans rfl, (blk_cell BK230.out 5).trans rfl, (blk_cell BK230.out 6).trans rfl, (blk_cell BK230.out 7).trans rfl, (blk_cell BK230.out 8).trans rfl, (blk_cell BK230.out 9).trans rfl, hHeld.2.2.2.2.2.2.2.2.2.2.1, hHeld.2.2.2.2.2.2.2.2.2.2.2.1, hHeld.2.2.2.2.2.2.2.2.2.2.2.2.1, hHeld.2.2.2.2.2.2.2.2.2.2.2.2.2.1, hHeld.2.2.2.2.2.2.2.2.2.2.2.2.2.2.1, hHeld.2.2.2.2.2.2.2.2.2.2.2.2.2.2.2.1, hHeld.2.2.2.2.2.2.2.2.2.2.2.2.2.2.2.2.1, hHeld.2.2.2.2.2.2.2.2.2.2.2.2.2.2.2.2.2.1, hHeld.2.2.2.2.2.2.2.2.2.2.2.2.2.2.2.2.2.2⟩ (fun hHeld => ?_)
             clear hK K
             refine norm_ (a' := ?_) ?_ ?_
             rotate_left
             ·show Act.put _ (some 58) _ = _
              simp only [Act.put, List.setIfInBounds_toArray, List.set_cons_zero, List.set_cons_succ, i64_w, i32_w]
              rfl
             refine pV 11 59 zb19_12 rfl rfl HT_.out (by kernel_rfl) (fun _ _ _ h => h) (Or.inl ⟨by rfl, by intro w'; go_simp; with_reducible rfl⟩) (by simp only [zA, zS, zC, zD, i64_w, i32_w]; rfl) ?_
             refine pV 12 60 zb19_13 rfl rfl HT_.out (by kernel_rfl) (fun _ _ _ h => h) (Or.inl ⟨by rfl, by intro w'; go_simp; with_reducible rfl⟩) (by simp only [zA, zS, zC, zD, i64_w, i32_w]; rfl) ?_
             refine pV 13 61 zb19_14 rfl rfl HT_.out (by kernel_rfl) (fun _ _ _ h => h) (Or.inl ⟨by rfl, by intro w'; go_simp; with_reducible rfl⟩) (by simp only [zA, zS, zC, zD, i64_w, i32_w]; rfl) ?_
             refine pV 14 62 zb19_15 rfl rfl HT_.out (by kernel_rfl) (fun _ _ _ h => h) (Or.inl ⟨by rfl, by intro w'; go_simp; with_reducible rfl⟩) (by simp only [zA, zS, zC, zD, i64_w, i32_w]; rfl) ?_
             refine pV 15 63 zb19_16 rfl rfl HT_.out (by kernel_rfl) (fun _ _ _ h => h) (Or.inl ⟨by rfl, by intro w'; go_simp; with_reducible rfl⟩) (by simp only [zA, zS, zC, zD, i64_w, i32_w]; rfl) ?_
             refine pV 16 64 zb19_17 rfl rfl HT_.out (by kernel_rfl) (fun _ _ _ h => h) (Or.inl ⟨by rfl, by intro w'; go_simp; with_reducible rfl⟩) (by simp only [zA, zS, zC, zD, i64_w, i32_w]; rfl) ?_
             refine pV 18 66 zb19_18 rfl rfl HT_.out (by kernel_rfl) (fun _ _ _ h => h) (Or.inl ⟨by rfl, by intro w'; go_simp; with_reducible rfl⟩) (by simp only [zA, zS, zC, zD, i64_w, i32_w]; rfl) ?_
             refine take_ (i := 17) (N := some 65) (v := ?_) (a' := ?_) zb19_19 rfl rfl (take_ofW HT_.out HW_.out (by kernel_rfl)) (fun _ _ _ h => h) (Or.inl ⟨by rfl, ?_⟩) hHeld ?_ ?_
             rotate_left
             ·rintro w' ⟨s0, s1, s2, s3, s4, s5, s6, s7, s8, s9, s10, s11, s12, s13, s14, s15, s16, s17, s18⟩
              try simp only [Int.toNat_natCast] at s0 s1 s2 s3 s4 s5 s6 s7 s8 s9 s10 s11 s12 s13 s14 s15 s16 s17 s18
              go_simp
              with_reducible rfl
             rotate_left
             ·simp only [Act.put, List.setIfInBounds_toArray, List.set_cons_zero, List.set_cons_succ, i64_w, i32_w]
              rfl
             refine take_ (i := 19) (N := some 67) (v := ?_) (a' := ?_) zb19_20 rfl rfl (take_ofW HT_.out HW_.out (by kernel_rfl)) (fun _ _ _ h => h) (Or.inl ⟨by rfl, ?_⟩) hHeld ?_ ?_
             rotate_left
             ·rintro w' ⟨s0, s1, s2, s3, s4, s5, s6, s7, s8, s9, s10, s11, s12, s13, s14, s15, s16, s17, s18⟩
              try simp only [Int.toNat_natCast] at s0 s1 s2 s3 s4 s5 s6 s7 s8 s9 s10 s11 s12 s13 s14 s15 s16 s17 s18
              go_simp
              with_reducible rfl
             rotate_left
             ·simp only [Act.put, List.setIfInBounds_toArray, List.set_cons_zero, List.set_cons_succ, i64_w, i32_w]
              rfl
             refine pV 20 68 zb19_21 rfl rfl HT_.out (by kernel_rfl) (fun _ _ _ h => h) (Or.inl ⟨by rfl, by intro w'; go_simp; with_reducible rfl⟩) (by simp only [zA, zS, zC, zD, i64_w, i32_w]; rfl) ?_
             refine pV 21 69 zb19_22 rfl rfl HT_.out (by kernel_rfl) (fun _ _ _ h => h) (Or.inl ⟨by rfl, by intro w'; go_simp; with_reducible rfl⟩) (by simp only [zA, zS, zC, zD, i64_w, i32_w]; rfl) ?_
             refine pV 22 70 zb19_23 rfl rfl HT_.out (by kernel_rfl) (fun _ _ _ h => h) (Or.inl ⟨by rfl, by intro w'; go_simp; with_reducible rfl⟩) (by simp only [zA, zS, zC, zD, i64_w, i32_w]; rfl) ?_
             refine pV 23 71 zb19_24 rfl rfl HT_.out (by kernel_rfl) (fun _ _ _ h => h) (Or.inl ⟨by rfl, by intro w'; go_simp; with_reducible rfl⟩) (by simp only [zA, zS, zC, zD, i64_w, i32_w]; rfl) ?_
             refine one_ (i := 24) (N := some 72) zb19_25 rfl rfl (one_of HT_.out (by kernel_rfl)) (by decide) (fun K hK => ?_)
             refine goes_ Tryd.func10 (by kernel_rfl) rfl #[.slice A0 l0.length c0] (by rfl) rfl rfl (by (try simp only [List.map_toArray, List.map_cons, List.map_nil]); first | done | rfl | (simp only [List.length_drop, List.length_take]; rfl)) ?_
             with_reducible refine (collect_Check.calls kj3 _ _ l0 t244 _ ?sideV ?side1 ?side2 A28.out).mono ?_
             case sideV => exact VarOK.below HV.out (by repeat (with_reducible first | exact HB.out | apply below_alloc | apply pw_below_drewN | apply below_drew1 | refine below_set ?_ GE230.out))
             (case side1 => repeat (first | exact (Kd.C_below HR0.out (by repeat (with_reducible first | exact HB.out | apply below_alloc | apply pw_below_drewN | apply below_drew1 | refine below_set ?_ GE230.out))) | (with_reducible refine Kd.C_alloc ?_ _) | (with_reducible refine Kd.C_drewN ?_ _) | (with_reducible refine Kd.C_drew ?_)))
             (case side2 => exact HC0.out)
             rintro e w39 ⟨rfl, hb⟩
             have HS10_ := (hb.cell (World.block_lt_of_cell? _ _ (hHeld.2.2.2.2.2.2.2.2.2.2.1))).trans (hHeld.2.2.2.2.2.2.2.2.2.2.1)
             have HS11_ := (hb.cell (World.block_lt_of_cell? _ _ (hHeld.2.2.2.2.2.2.2.2.2.2.2.1))).trans (hHeld.2.2.2.2.2.2.2.2.2.2.2.1)
             have HS12_ := (hb.cell (World.block_lt_of_cell? _ _ (hHeld.2.2.2.2.2.2.2.2.2.2.2.2.1))).trans (hHeld.2.2.2.2.2.2.2.2.2.2.2.2.1)
             have HS13_ := (hb.cell (World.block_lt_of_cell? _ _ (hHeld.2.2.2.2.2.2.2.2.2.2.2.2.2.1))).trans (hHeld.2.2.2.2.2.2.2.2.2.2.2.2.2.1)
             have HS14_ := (hb.cell (World.block_lt_of_cell? _ _ (hHeld.2.2.2.2.2.2.2.2.2.2.2.2.2.2.1))).trans (hHeld.2.2.2.2.2.2.2.2.2.2.2.2.2.2.1)
             have HS15_ := (hb.cell (World.block_lt_of_cell? _ _ (hHeld.2.2.2.2.2.2.2.2.2.2.2.2.2.2.2.1))).trans (hHeld.2.2.2.2.2.2.2.2.2.2.2.2.2.2.2.1)
             have HS16_ := (hb.cell (World.block_lt_of_cell? _ _ (hHeld.2.2.2.2.2.2.2.2.2.2.2.2.2.2.2.2.1))).trans (hHeld.2.2.2.2.2.2.2.2.2.2.2.2.2.2.2.2.1)
             have HS17_ := (hb.cell (World.block_lt_of_cell? _ _ (hHeld.2.2.2.2.2.2.2.2.2.2.2.2.2.2.2.2.2.1))).trans (hHeld.2.2.2.2.2.2.2.2.2.2.2.2.2.2.2.2.2.1)
             have HS18_ := (hb.cell (World.block_lt_of_cell? _ _ (hHeld.2.2.2.2.2.2.2.2.2.2.2.2.2.2.2.2.2.2))).trans (hHeld.2.2.2.2.2.2.2.2.2.2.2.2.2.2.2.2.2.2)
             refine ⟨_, rfl, ?_⟩
             have n0_ := Aside0.mk (Kd.R_below (by (with_reducible repeat (first | apply Kd.R_alloc | apply Kd.R_drewN | apply Kd.R_drew)); exact HO235.out) hb)
             have n1_ := Aside0.mk (blk_below (g := gb230) (by (with_reducible repeat (first | refine blk_drewN ?_ _ | refine blk_drew ?_ | refine blk_alloc ?_ _)); exact BK230.out) hb)
             have n2_ := Aside0.mk (Kd.C_below (by repeat (first | (with_reducible exact HR241.out) | (with_reducible refine Kd.C_alloc ?_ _) | (with_reducible refine Kd.C_drewN ?_ _) | (with_reducible refine Kd.C_drew ?_) | exact HR241.out)) hb)
             have n3_ := Aside0.mk (below_step (by repeat (with_reducible first | exact HB.out | apply below_alloc | apply pw_below_drewN | apply below_drew1 | refine below_set ?_ GE230.out)) hb)
             clear HO235
             clear BK230
             clear HR241
             clear HB
             have HO235 := n0_
             have BK230 := n1_
             have HR241 := n2_
             have HB := n3_
             clear n0_ n1_ n2_ n3_
             (try clear hb)
             (try clear hb2)
             (try clear hk)
             (try clear hi)
             refine hK.out _ _ ⟨(blk_cell BK230.out 0).trans rfl, (blk_cell BK230.out 1).trans rfl, (blk_cell BK230.out 2).trans rfl, (blk_cell BK230.out 3).trans rfl, (blk_cell BK230.out 4).trans rfl, (blk_cell BK230.out 5).trans rfl, (blk_cell BK230.out 6).trans rfl, (blk_cell BK230.out 7).trans rfl, (blk_cell BK230.out 8).trans rfl, (blk_cell BK230.out 9).trans rfl, HS10_, HS11_, HS12_, HS13_, HS14_, HS15_, HS16_, HS17_, HS18_⟩ (fun hHeld => ?_)
             clear hK K
             refine norm_ (a' := ?_) ?_ ?_
             rotate_left
             ·show Act.put _ (some 72) _ = _
              simp only [Act.put, List.setIfInBounds_toArray, List.set_cons_zero, List.set_cons_succ, i64_w, i32_w]
              rfl
             refine pV 25 73 zb19_26 rfl rfl HT_.out (by kernel_rfl) (fun _ _ _ h => h) (Or.inl ⟨by rfl, by intro w'; go_simp; with_reducible rfl⟩) (by simp only [zA, zS, zC, zD, i64_w, i32_w]; rfl) ?_
             refine pV 26 74 zb19_27 rfl rfl HT_.out (by kernel_rfl) (fun _ _ _ h => h) (Or.inl ⟨by rfl, by intro w'; go_simp; with_reducible rfl⟩) (by simp only [zA, zS, zC, zD, i64_w, i32_w]; rfl) ?_
             refine pV 27 75 zb19_28 rfl rfl HT_.out (by kernel_rfl) (fun _ _ _ h => h) (Or.inr ⟨by rfl, rfl⟩) (by simp only [zA, zS, zC, zD, i64_w, i32_w]; rfl) ?_
             refine pV 28 76 zb19_29 rfl rfl HT_.out (by kernel_rfl) (fun _ _ _ h => h) (Or.inr ⟨by rfl, rfl⟩) (by simp only [zA, zS, zC, zD, i64_w, i32_w]; rfl) ?_
             refine pV 29 77 zb19_30 rfl rfl HT_.out (by kernel_rfl) (fun _ _ _ h => h) (Or.inr ⟨by rfl, rfl⟩) (by simp only [zA, zS, zC, zD, i64_w, i32_w]; rfl) ?_
             refine pV 30 78 zb19_31 rfl rfl HT_.out (by kernel_rfl) (fun _ _ _ h => h) (Or.inl ⟨by rfl, by intro w'; go_simp; with_reducible rfl⟩) (by simp only [zA, zS, zC, zD, i64_w, i32_w]; rfl) ?_
             refine pV 31 79 zb19_32 rfl rfl HT_.out (by kernel_rfl) (fun _ _ _ h => h) (Or.inl ⟨by rfl, by intro w'; go_simp; with_reducible rfl⟩) (by simp only [zA, zS, zC, zD, i64_w, i32_w]; rfl) ?_
             refine done_ (done_of HT_.out (by kernel_rfl)) ?_
             try go_wp2
             go_meet
             case rel => exact ⟨_, (false), (by first | rfl | (simp [*]; done)), H', ⟨by have := HJ3.out; first | omega | exact Nat.le_refl _⟩, ⟨by (with_reducible repeat (first | apply Kd.R_alloc | apply Kd.R_drewN | apply Kd.R_drew)); exact HO235.out⟩, ⟨by (with_reducible repeat (first | refine blk_drewN ?_ _ | refine blk_drew ?_ | refine blk_alloc ?_ _)); exact BK230.out⟩, ⟨by repeat (with_reducible first | exact HB.out | apply below_alloc | apply pw_below_drewN | apply below_drew1 | refine below_set ?_ GE230.out)⟩⟩
          ·rw [if_neg c23] at H
           exact absurd H (by simp)
         ·replace c22 := Bool.eq_false_iff.mpr c22
          subst c22
          have H1 : (corebanklaw42_CollectAdds.j1 kj3 l1 t233 true a2_0 a2_1 a2_2 a2_3 a2_4 a2_5 a2_6 a2_7 a2_8 a2_9) = some r := by rw [if_neg (show ¬ (false = true) by decide)] at H; exact H
          clear H
          have H := H1
          clear H1
          have H' := Aside0.mk H
          clear H
          try go_wp2
          have n0_ := Aside0.mk (Kd.R_drew HO235.out)
          have n1_ := Aside0.mk (blk_drew BK230.out)
          have n2_ := Aside0.mk (below_drew1 HB.out)
          clear HO235
          clear BK230
          clear HB
          have HO235 := n0_
          have BK230 := n1_
          have HB := n2_
          clear n0_ n1_ n2_
          obtain ⟨Ao41, co41, eo41⟩ := Kd.R_slice HO235.out
          (first | subst eo41 | (injection eo41 with f1_ f2_ f3_; have f4_ := f1_.symm; have f5_ := f3_.symm; clear f1_ f2_ f3_; subst f4_; subst f5_))
          have q42 : ((l0.length : Int) : Int) ≤ ((t233.length : Int) : Int) := of_decide_eq_true (by assumption)
          obtain ⟨i042, hi042, _, hsz42, _⟩ := info_parts info36
          have hroom42 : t233.length ≤ co41 := (Kd.R_reads' HO235.out).2.1
          have hC42 : Kd.C k36 _ Ao41 t233.length t233 := (Kd.R_reads' HO235.out).2.2
          have hcut42 := cut_to (P := Tryd.prog) 22 36 .i64 Tryd.underlying22 hi042 Ao41 t233.length co41 (l0.length : Int) (of_decide_eq_true (by assumption)) q42 hroom42
          have hr42 := Kd.C_take (m := ((l0.length : Int) : Int).toNat) hC42 (by omega)
          have hy42 : y238.length = ((l0.length : Int) : Int).toNat := (by rw [Ny238.out, List.length_take]; omega)
          rw [← Ny238.out] at hr42
          rw [← hy42] at hcut42
          have HR241 := Aside0.mk hr42
          have HC241 := Aside0.mk (show y238.length ≤ co41 from by omega)
          clear hr42 hC42 hroom42 hi042 hsz42
          have KY42 := Aside0.mk hy42
          clear hy42
          have KL42 := Aside0.mk (show ((l0.length : Int) : Int).toNat ≤ t233.length from by omega)
          replace q42 := eq_true q42
          refine start_ (n := 32) (S := fun w' => True) (ds := []) zb19_0 (by kernel_rfl) rfl rfl trivial (fun hHeld => ?_); refine with_tabW corebanklaw42_CollectAdds.tab7 corebanklaw42_CollectAdds.bits7 (fun HT_ HW_ => ?_)
          generalize w17.drew = w40 at HO235 BK230 HB HR241 hHeld ⊢
          refine pV 0 48 zb19_1 rfl rfl HT_.out (by kernel_rfl) (fun _ _ _ h => h) (Or.inl ⟨by rfl, by intro w'; go_simp; with_reducible rfl⟩) (by simp only [zA, zS, zC, zD, i64_w, i32_w]; rfl) ?_
          refine pV 1 49 zb19_2 rfl rfl HT_.out (by kernel_rfl) (fun _ _ _ h => h) (Or.inl ⟨by rfl, by intro w'; go_simp; with_reducible rfl⟩) (by simp only [zA, zS, zC, zD, i64_w, i32_w]; rfl) ?_
          refine pV 2 50 zb19_3 rfl rfl HT_.out (by kernel_rfl) (fun _ _ _ h => h) (Or.inl ⟨by rfl, by intro w'; go_simp; with_reducible rfl⟩) (by simp only [zA, zS, zC, zD, i64_w, i32_w]; rfl) ?_
          refine pV 3 51 zb19_4 rfl rfl HT_.out (by kernel_rfl) (fun _ _ _ h => h) (Or.inl ⟨by rfl, by intro w'; go_simp; with_reducible rfl⟩) (by simp only [zA, zS, zC, zD, i64_w, i32_w]; rfl) ?_
          refine pV 4 52 zb19_5 rfl rfl HT_.out (by kernel_rfl) (fun _ _ _ h => h) (Or.inl ⟨by rfl, by intro w'; go_simp; with_reducible rfl⟩) (by simp only [zA, zS, zC, zD, i64_w, i32_w]; rfl) ?_
          refine pV 5 53 zb19_6 rfl rfl HT_.out (by kernel_rfl) (fun _ _ _ h => h) (Or.inl ⟨by rfl, by intro w'; go_simp; with_reducible rfl⟩) (by simp only [zA, zS, zC, zD, i64_w, i32_w]; rfl) ?_
          refine pV 6 54 zb19_7 rfl rfl HT_.out (by kernel_rfl) (fun _ _ _ h => h) (Or.inl ⟨by rfl, by intro w'; go_simp; with_reducible rfl⟩) (by simp only [zA, zS, zC, zD, i64_w, i32_w]; rfl) ?_
          refine pV 7 55 zb19_8 rfl rfl HT_.out (by kernel_rfl) (fun _ _ _ h => h) (Or.inl ⟨by rfl, by intro w'; go_simp; with_reducible rfl⟩) (by simp only [zA, zS, zC, zD, i64_w, i32_w]; rfl) ?_
          refine pV 8 56 zb19_9 rfl rfl HT_.out (by kernel_rfl) (fun _ _ _ h => h) (Or.inl ⟨by rfl, by intro w'; go_simp; with_reducible rfl⟩) (by simp only [zA, zS, zC, zD, i64_w, i32_w]; rfl) ?_
          refine pV 9 57 zb19_10 rfl rfl HT_.out (by kernel_rfl) (fun _ _ _ h => h) (Or.inl ⟨by rfl, by intro w'; go_simp; with_reducible rfl⟩) (by simp only [zA, zS, zC, zD, i64_w, i32_w]; rfl) ?_
          refine one_ (i := 10) (N := some 58) zb19_11 rfl rfl (one_of HT_.out (by kernel_rfl)) (by decide) (fun K hK => ?_)
          refine goes_ Tryd.func16 (by kernel_rfl) rfl #[.slice _ y238.length _, .slice A0 l0.length c0] (by rfl) rfl rfl (by (try simp only [List.map_toArray, List.map_cons, List.map_nil]); first | done | rfl | (simp only [List.length_drop, List.length_take]; rfl)) ?_
          with_reducible refine (corebankref42_SameAll.calls kj3 _ _ y238 _ _ l0 false _ ?side1 ?side2 ?side3 ?side4 A21.out).mono ?_
          (case side1 => repeat (first | exact (by repeat (first | (with_reducible exact HR241.out) | (with_reducible refine Kd.C_alloc ?_ _) | (with_reducible refine Kd.C_drewN ?_ _) | (with_reducible refine Kd.C_drew ?_) | exact HR241.out)) | (with_reducible refine Kd.C_alloc ?_ _) | (with_reducible refine Kd.C_drewN ?_ _) | (with_reducible refine Kd.C_drew ?_)))
          (case side2 => exact HC241.out)
          (case side3 => repeat (first | exact (Kd.C_below HR0.out HB.out) | (with_reducible refine Kd.C_alloc ?_ _) | (with_reducible refine Kd.C_drewN ?_ _) | (with_reducible refine Kd.C_drew ?_)))
          (case side4 => exact HC0.out)
          rintro e w' ⟨rfl, ⟨nd, rfl⟩⟩
          refine ⟨_, rfl, ?_⟩
          refine hK.out _ _ trivial (fun hHeld => ?_)
          clear hK K
          refine norm_ (a' := ?_) ?_ ?_
          rotate_left
          ·show Act.put _ (some 58) _ = _
           simp only [Act.put, List.setIfInBounds_toArray, List.set_cons_zero, List.set_cons_succ, i64_w, i32_w]
           rfl
          refine pV 11 59 zb19_12 rfl rfl HT_.out (by kernel_rfl) (fun _ _ _ h => h) (Or.inl ⟨by rfl, by intro w'; go_simp; with_reducible rfl⟩) (by simp only [zA, zS, zC, zD, i64_w, i32_w]; rfl) ?_
          refine pV 12 60 zb19_13 rfl rfl HT_.out (by kernel_rfl) (fun _ _ _ h => h) (Or.inl ⟨by rfl, by intro w'; go_simp; with_reducible rfl⟩) (by simp only [zA, zS, zC, zD, i64_w, i32_w]; rfl) ?_
          refine pV 13 61 zb19_14 rfl rfl HT_.out (by kernel_rfl) (fun _ _ _ h => h) (Or.inl ⟨by rfl, by intro w'; go_simp; with_reducible rfl⟩) (by simp only [zA, zS, zC, zD, i64_w, i32_w]; rfl) ?_
          refine pV 14 62 zb19_15 rfl rfl HT_.out (by kernel_rfl) (fun _ _ _ h => h) (Or.inr ⟨by rfl, rfl⟩) (by simp only [zA, zS, zC, zD, i64_w, i32_w]; rfl) ?_
          refine pV 15 63 zb19_16 rfl rfl HT_.out (by kernel_rfl) (fun _ _ _ h => h) (Or.inr ⟨by rfl, rfl⟩) (by simp only [zA, zS, zC, zD, i64_w, i32_w]; rfl) ?_
          refine pV 16 64 zb19_17 rfl rfl HT_.out (by kernel_rfl) (fun _ _ _ h => h) (Or.inr ⟨by rfl, rfl⟩) (by simp only [zA, zS, zC, zD, i64_w, i32_w]; rfl) ?_
          refine pV 17 65 zb19_33 rfl rfl HT_.out (by kernel_rfl) (fun _ _ _ h => h) (Or.inr ⟨by rfl, rfl⟩) (by simp only [zA, zS, zC, zD, i64_w, i32_w]; rfl) ?_
          refine pV 18 66 zb19_19 rfl rfl HT_.out (by kernel_rfl) (fun _ _ _ h => h) (Or.inr ⟨by rfl, rfl⟩) (by simp only [zA, zS, zC, zD, i64_w, i32_w]; rfl) ?_
          refine pV 19 67 zb19_20 rfl rfl HT_.out (by kernel_rfl) (fun _ _ _ h => h) (Or.inr ⟨by rfl, rfl⟩) (by simp only [zA, zS, zC, zD, i64_w, i32_w]; rfl) ?_
          refine pV 20 68 zb19_21 rfl rfl HT_.out (by kernel_rfl) (fun _ _ _ h => h) (Or.inr ⟨by rfl, rfl⟩) (by simp only [zA, zS, zC, zD, i64_w, i32_w]; rfl) ?_
          refine pV 21 69 zb19_22 rfl rfl HT_.out (by kernel_rfl) (fun _ _ _ h => h) (Or.inl ⟨by rfl, by intro w'; go_simp; with_reducible rfl⟩) (by simp only [zA, zS, zC, zD, i64_w, i32_w]; rfl) ?_
          refine pV 22 70 zb19_23 rfl rfl HT_.out (by kernel_rfl) (fun _ _ _ h => h) (Or.inl ⟨by rfl, by intro w'; go_simp; with_reducible rfl⟩) (by simp only [zA, zS, zC, zD, i64_w, i32_w]; rfl) ?_
          refine pV 23 71 zb19_24 rfl rfl HT_.out (by kernel_rfl) (fun _ _ _ h => h) (Or.inr ⟨by rfl, rfl⟩) (by simp only [zA, zS, zC, zD, i64_w, i32_w]; rfl) ?_
          refine pV 24 72 zb19_25 rfl rfl HT_.out (by kernel_rfl) (fun _ _ _ h => h) (Or.inr ⟨by rfl, rfl⟩) (by simp only [zA, zS, zC, zD, i64_w, i32_w]; rfl) ?_
          refine pV 25 73 zb19_26 rfl rfl HT_.out (by kernel_rfl) (fun _ _ _ h => h) (Or.inr ⟨by rfl, rfl⟩) (by simp only [zA, zS, zC, zD, i64_w, i32_w]; rfl) ?_
          refine pV 26 74 zb19_27 rfl rfl HT_.out (by kernel_rfl) (fun _ _ _ h => h) (Or.inr ⟨by rfl, rfl⟩) (by simp only [zA, zS, zC, zD, i64_w, i32_w]; rfl) ?_
          refine pV 27 75 zb19_28 rfl rfl HT_.out (by kernel_rfl) (fun _ _ _ h => h) (Or.inr ⟨by rfl, rfl⟩) (by simp only [zA, zS, zC, zD, i64_w, i32_w]; rfl) ?_
          refine pV 28 76 zb19_29 rfl rfl HT_.out (by kernel_rfl) (fun _ _ _ h => h) (Or.inr ⟨by rfl, rfl⟩) (by simp only [zA, zS, zC, zD, i64_w, i32_w]; rfl) ?_
          refine pV 29 77 zb19_30 rfl rfl HT_.out (by kernel_rfl) (fun _ _ _ h => h) (Or.inr ⟨by rfl, rfl⟩) (by simp only [zA, zS, zC, zD, i64_w, i32_w]; rfl) ?_
          refine pV 30 78 zb19_31 rfl rfl HT_.out (by kernel_rfl) (fun _ _ _ h => h) (Or.inr ⟨by rfl, rfl⟩) (by simp only [zA, zS, zC, zD, i64_w, i32_w]; rfl) ?_
          refine pV 31 79 zb19_32 rfl rfl HT_.out (by kernel_rfl) (fun _ _ _ h => h) (Or.inl ⟨by rfl, by intro w'; go_simp; with_reducible rfl⟩) (by simp only [zA, zS, zC, zD, i64_w, i32_w]; rfl) ?_
          refine done_ (done_of HT_.out (by kernel_rfl)) ?_
          try go_wp2
          go_meet
          case rel => exact ⟨_, (true), (by first | rfl | (simp [*]; done)), H', ⟨by have := HJ3.out; first | omega | exact Nat.le_refl _⟩, ⟨by (with_reducible repeat (first | apply Kd.R_alloc | apply Kd.R_drewN | apply Kd.R_drew)); exact HO235.out⟩, ⟨by (with_reducible repeat (first | refine blk_drewN ?_ _ | refine blk_drew ?_ | refine blk_alloc ?_ _)); exact BK230.out⟩, ⟨by repeat (with_reducible first | exact HB.out | apply below_alloc | apply pw_below_drewN | apply below_drew1 | refine below_set ?_ GE230.out)⟩⟩
        ·rw [if_neg c20] at H
         exact absurd H (by simp)
       ·rw [if_neg c19] at H
        exact absurd H (by simp)
      ·rw [if_neg c18] at H
       have c18b0 : ((t233.length : Int) == (wrap64 ((l0.length : Int) + 1))) = false := beq_eq_false_iff_ne.mpr c18
       have c18b1 : ((t233.length : Int) != (wrap64 ((l0.length : Int) + 1))) = true := bne_iff_ne.mpr c18
       (first | rw [c18b0] | (simp only [i64_w, i32_w]; rw [c18b0]) | skip)
       have H' := Aside0.mk H
       clear H
       try go_wp2
       have n0_ := Aside0.mk (Kd.R_drew HO235.out)
       have n1_ := Aside0.mk (blk_drew BK230.out)
       have n2_ := Aside0.mk (below_drew1 HB.out)
       clear HO235
       clear BK230
       clear HB
       have HO235 := n0_
       have BK230 := n1_
       have HB := n2_
       clear n0_ n1_ n2_
       obtain ⟨Ao44, co44, eo44⟩ := Kd.R_slice HO235.out
       (first | subst eo44 | (injection eo44 with f1_ f2_ f3_; have f4_ := f1_.symm; have f5_ := f3_.symm; clear f1_ f2_ f3_; subst f4_; subst f5_))
       refine start_ (n := 32) (S := fun w' => True) (ds := []) zb19_0 (by kernel_rfl) rfl rfl trivial (fun hHeld => ?_); refine with_tabW corebanklaw42_CollectAdds.tab7 corebanklaw42_CollectAdds.bits7 (fun HT_ HW_ => ?_)
       generalize w17.drew = w43 at HO235 BK230 HB hHeld ⊢
       refine pV 0 48 zb19_1 rfl rfl HT_.out (by kernel_rfl) (fun _ _ _ h => h) (Or.inl ⟨by rfl, by intro w'; go_simp; with_reducible rfl⟩) (by simp only [zA, zS, zC, zD, i64_w, i32_w]; rfl) ?_
       refine pV 1 49 zb19_2 rfl rfl HT_.out (by kernel_rfl) (fun _ _ _ h => h) (Or.inl ⟨by rfl, by intro w'; go_simp; with_reducible rfl⟩) (by simp only [zA, zS, zC, zD, i64_w, i32_w]; rfl) ?_
       refine pV 2 50 zb19_3 rfl rfl HT_.out (by kernel_rfl) (fun _ _ _ h => h) (Or.inl ⟨by rfl, by intro w'; go_simp; with_reducible rfl⟩) (by simp only [zA, zS, zC, zD, i64_w, i32_w]; rfl) ?_
       refine pV 3 51 zb19_4 rfl rfl HT_.out (by kernel_rfl) (fun _ _ _ h => h) (Or.inl ⟨by rfl, by intro w'; go_simp; with_reducible rfl⟩) (by simp only [zA, zS, zC, zD, i64_w, i32_w]; rfl) ?_
       refine pV 4 52 zb19_5 rfl rfl HT_.out (by kernel_rfl) (fun _ _ _ h => h) (Or.inl ⟨by rfl, by intro w'; go_simp; with_reducible rfl⟩) (by simp only [zA, zS, zC, zD, i64_w, i32_w]; rfl) ?_
       refine pV 5 53 zb19_6 rfl rfl HT_.out (by kernel_rfl) (fun _ _ _ h => h) (Or.inl ⟨by rfl, by intro w'; go_simp; with_reducible rfl⟩) (by simp only [zA, zS, zC, zD, i64_w, i32_w]; rfl) ?_
       refine pV 6 54 zb19_7 rfl rfl HT_.out (by kernel_rfl) (fun _ _ _ h => h) (Or.inr ⟨by rfl, rfl⟩) (by simp only [zA, zS, zC, zD, i64_w, i32_w]; rfl) ?_
       refine pV 7 55 zb19_8 rfl rfl HT_.out (by kernel_rfl) (fun _ _ _ h => h) (Or.inr ⟨by rfl, rfl⟩) (by simp only [zA, zS, zC, zD, i64_w, i32_w]; rfl) ?_
       refine pV 8 56 zb19_9 rfl rfl HT_.out (by kernel_rfl) (fun _ _ _ h => h) (Or.inr ⟨by rfl, rfl⟩) (by simp only [zA, zS, zC, zD, i64_w, i32_w]; rfl) ?_
       refine pV 9 57 zb19_10 rfl rfl HT_.out (by kernel_rfl) (fun _ _ _ h => h) (Or.inr ⟨by rfl, rfl⟩) (by simp only [zA, zS, zC, zD, i64_w, i32_w]; rfl) ?_
       refine pV 10 58 zb19_11 rfl rfl HT_.out (by kernel_rfl) (fun _ _ _ h => h) (Or.inr ⟨by rfl, rfl⟩) (by simp only [zA, zS, zC, zD, i64_w, i32_w]; rfl) ?_
       refine pV 11 59 zb19_12 rfl rfl HT_.out (by kernel_rfl) (fun _ _ _ h => h) (Or.inr ⟨by rfl, rfl⟩) (by simp only [zA, zS, zC, zD, i64_w, i32_w]; rfl) ?_
       refine pV 12 60 zb19_13 rfl rfl HT_.out (by kernel_rfl) (fun _ _ _ h => h) (Or.inl ⟨by rfl, by intro w'; go_simp; with_reducible rfl⟩) (by simp only [zA, zS, zC, zD, i64_w, i32_w]; rfl) ?_
       refine pV 13 61 zb19_14 rfl rfl HT_.out (by kernel_rfl) (fun _ _ _ h => h) (Or.inl ⟨by rfl, by intro w'; go_simp; with_reducible rfl⟩) (by simp only [zA, zS, zC, zD, i64_w, i32_w]; rfl) ?_
       refine pV 14 62 zb19_15 rfl rfl HT_.out (by kernel_rfl) (fun _ _ _ h => h) (Or.inr ⟨by rfl, rfl⟩) (by simp only [zA, zS, zC, zD, i64_w, i32_w]; rfl) ?_
       refine pV 15 63 zb19_16 rfl rfl HT_.out (by kernel_rfl) (fun _ _ _ h => h) (Or.inr ⟨by rfl, rfl⟩) (by simp only [zA, zS, zC, zD, i64_w, i32_w]; rfl) ?_
       refine pV 16 64 zb19_17 rfl rfl HT_.out (by kernel_rfl) (fun _ _ _ h => h) (Or.inr ⟨by rfl, rfl⟩) (by simp only [zA, zS, zC, zD, i64_w, i32_w]; rfl) ?_
       refine pV 17 65 zb19_33 rfl rfl HT_.out (by kernel_rfl) (fun _ _ _ h => h) (Or.inr ⟨by rfl, rfl⟩) (by simp only [zA, zS, zC, zD, i64_w, i32_w]; rfl) ?_
       refine pV 18 66 zb19_19 rfl rfl HT_.out (by kernel_rfl) (fun _ _ _ h => h) (Or.inr ⟨by rfl, rfl⟩) (by simp only [zA, zS, zC, zD, i64_w, i32_w]; rfl) ?_
       refine pV 19 67 zb19_20 rfl rfl HT_.out (by kernel_rfl) (fun _ _ _ h => h) (Or.inr ⟨by rfl, rfl⟩) (by simp only [zA, zS, zC, zD, i64_w, i32_w]; rfl) ?_
       refine pV 20 68 zb19_21 rfl rfl HT_.out (by kernel_rfl) (fun _ _ _ h => h) (Or.inr ⟨by rfl, rfl⟩) (by simp only [zA, zS, zC, zD, i64_w, i32_w]; rfl) ?_
       refine pV 21 69 zb19_22 rfl rfl HT_.out (by kernel_rfl) (fun _ _ _ h => h) (Or.inl ⟨by rfl, by intro w'; go_simp; with_reducible rfl⟩) (by simp only [zA, zS, zC, zD, i64_w, i32_w]; rfl) ?_
       refine pV 22 70 zb19_23 rfl rfl HT_.out (by kernel_rfl) (fun _ _ _ h => h) (Or.inl ⟨by rfl, by intro w'; go_simp; with_reducible rfl⟩) (by simp only [zA, zS, zC, zD, i64_w, i32_w]; rfl) ?_
       refine pV 23 71 zb19_24 rfl rfl HT_.out (by kernel_rfl) (fun _ _ _ h => h) (Or.inr ⟨by rfl, rfl⟩) (by simp only [zA, zS, zC, zD, i64_w, i32_w]; rfl) ?_
       refine pV 24 72 zb19_25 rfl rfl HT_.out (by kernel_rfl) (fun _ _ _ h => h) (Or.inr ⟨by rfl, rfl⟩) (by simp only [zA, zS, zC, zD, i64_w, i32_w]; rfl) ?_
       refine pV 25 73 zb19_26 rfl rfl HT_.out (by kernel_rfl) (fun _ _ _ h => h) (Or.inr ⟨by rfl, rfl⟩) (by simp only [zA, zS, zC, zD, i64_w, i32_w]; rfl) ?_
       refine pV 26 74 zb19_27 rfl rfl HT_.out (by kernel_rfl) (fun _ _ _ h => h) (Or.inr ⟨by rfl, rfl⟩) (by simp only [zA, zS, zC, zD, i64_w, i32_w]; rfl) ?_
       refine pV 27 75 zb19_28 rfl rfl HT_.out (by kernel_rfl) (fun _ _ _ h => h) (Or.inr ⟨by rfl, rfl⟩) (by simp only [zA, zS, zC, zD, i64_w, i32_w]; rfl) ?_
       refine pV 28 76 zb19_29 rfl rfl HT_.out (by kernel_rfl) (fun _ _ _ h => h) (Or.inr ⟨by rfl, rfl⟩) (by simp only [zA, zS, zC, zD, i64_w, i32_w]; rfl) ?_
       refine pV 29 77 zb19_30 rfl rfl HT_.out (by kernel_rfl) (fun _ _ _ h => h) (Or.inr ⟨by rfl, rfl⟩) (by simp only [zA, zS, zC, zD, i64_w, i32_w]; rfl) ?_
       refine pV 30 78 zb19_31 rfl rfl HT_.out (by kernel_rfl) (fun _ _ _ h => h) (Or.inr ⟨by rfl, rfl⟩) (by simp only [zA, zS, zC, zD, i64_w, i32_w]; rfl) ?_
       refine pV 31 79 zb19_32 rfl rfl HT_.out (by kernel_rfl) (fun _ _ _ h => h) (Or.inl ⟨by rfl, by intro w'; go_simp; with_reducible rfl⟩) (by simp only [zA, zS, zC, zD, i64_w, i32_w]; rfl) ?_
       refine done_ (done_of HT_.out (by kernel_rfl)) ?_
       try go_wp2
       go_meet
       case rel => exact ⟨_, (true), (by first | rfl | (simp [*]; done)), H', ⟨by have := HJ3.out; first | omega | exact Nat.le_refl _⟩, ⟨by (with_reducible repeat (first | apply Kd.R_alloc | apply Kd.R_drewN | apply Kd.R_drew)); exact HO235.out⟩, ⟨by (with_reducible repeat (first | refine blk_drewN ?_ _ | refine blk_drew ?_ | refine blk_alloc ?_ _)); exact BK230.out⟩, ⟨by repeat (with_reducible first | exact HB.out | apply below_alloc | apply pw_below_drewN | apply below_drew1 | refine below_set ?_ GE230.out)⟩⟩
     case rest =>
      clear HC15
      try clear c1
      try clear c2
      try clear p2
      try clear q4
      try clear p6
      try clear c10
      try clear c16
      try clear c18
      try clear c18b0
      try clear c18b1
      try clear c19
      try clear c20
      try clear c22
      try clear c23
      try clear q42
      try clear q42
      obtain ⟨kq, x79_14, rfl, HA, HJ14, HO_7, BK230, HB⟩ := hcut
      cases kq with
      | zero => exact absurd HA.out (by simp [corebanklaw42_CollectAdds.j1])
      | succ kj14 =>
       have H := HA.out
       clear HA
       simp only [corebanklaw42_CollectAdds.j1] at H
       by_cases c45 : x79_14 = true
       ·subst c45
        have H1 : (none) = some r := by rw [if_pos rfl] at H; exact H
        clear H
        have H := H1
        clear H1
        exact absurd H (by simp)
       ·replace c45 := Bool.eq_false_iff.mpr c45
        subst c45
        have H1 : ((collect_Present.f kj14 t233 l1 a2_0 a2_1 a2_2 a2_3 a2_4 a2_5 a2_6 a2_7 a2_8 a2_9).bind fun bt246 => ((collect_Due.f kj14 t233 a2_3).bind fun t250 => (if bt246.2 = 10 then (if (bt246.1.length : Int) = 0 then (if (t250.length : Int) > 0 then (if 0 ≤ (wrap64 ((t250.length : Int) - 1)) then (if (wrap64 ((t250.length : Int) - 1)) < (t250.length : Int) then (if (((rd_T36 t250 (wrap64 ((t250.length : Int) - 1))).f0) == a2_0 && (((rd_T36 t250 (wrap64 ((t250.length : Int) - 1))).f1) == a2_1 && (((rd_T36 t250 (wrap64 ((t250.length : Int) - 1))).f2) == a2_2 && (((rd_T36 t250 (wrap64 ((t250.length : Int) - 1))).f3) == a2_3 && (((rd_T36 t250 (wrap64 ((t250.length : Int) - 1))).f4) == a2_4 && (((rd_T36 t250 (wrap64 ((t250.length : Int) - 1))).f5) == a2_5 && (((rd_T36 t250 (wrap64 ((t250.length : Int) - 1))).f6) == a2_6 && (((rd_T36 t250 (wrap64 ((t250.length : Int) - 1))).f7) == a2_7 && ((((rd_T36 t250 (wrap64 ((t250.length : Int) - 1))).f8).toList) == a2_8.toList))))))))) = true then ((collect_Due.f kj14 t233 (wrap64 (a2_3 - 1))).bind fun t254 => (if (t254.length : Int) < (t250.length : Int) then ((corebanklaw42_lives.f kj14).bind fun t257 => (some t257)) else (none))) else (none)) else (none)) else (none)) else (none)) else (none)) else (none)))) = some r := by rw [if_neg (show ¬ (false = true) by decide)] at H; exact H
        clear H
        have H := H1
        clear H1
        replace H := Option.bind_eq_some_iff.mp H
        obtain ⟨⟨t246, t249⟩, A460, H⟩ := H
        replace H : ((collect_Due.f kj14 t233 a2_3).bind fun t250 => (if t249 = 10 then (if (t246.length : Int) = 0 then (if (t250.length : Int) > 0 then (if 0 ≤ (wrap64 ((t250.length : Int) - 1)) then (if (wrap64 ((t250.length : Int) - 1)) < (t250.length : Int) then (if (((rd_T36 t250 (wrap64 ((t250.length : Int) - 1))).f0) == a2_0 && (((rd_T36 t250 (wrap64 ((t250.length : Int) - 1))).f1) == a2_1 && (((rd_T36 t250 (wrap64 ((t250.length : Int) - 1))).f2) == a2_2 && (((rd_T36 t250 (wrap64 ((t250.length : Int) - 1))).f3) == a2_3 && (((rd_T36 t250 (wrap64 ((t250.length : Int) - 1))).f4) == a2_4 && (((rd_T36 t250 (wrap64 ((t250.length : Int) - 1))).f5) == a2_5 && (((rd_T36 t250 (wrap64 ((t250.length : Int) - 1))).f6) == a2_6 && (((rd_T36 t250 (wrap64 ((t250.length : Int) - 1))).f7) == a2_7 && ((((rd_T36 t250 (wrap64 ((t250.length : Int) - 1))).f8).toList) == a2_8.toList))))))))) = true then ((collect_Due.f kj14 t233 (wrap64 (a2_3 - 1))).bind fun t254 => (if (t254.length : Int) < (t250.length : Int) then ((corebanklaw42_lives.f kj14).bind fun t257 => (some t257)) else (none))) else (none)) else (none)) else (none)) else (none)) else (none)) else (none))) = some r := H
        have A46 := Aside0.mk A460
        clear A460
        replace H := Option.bind_eq_some_iff.mp H
        obtain ⟨t250, A470, H⟩ := H
        replace H : (if t249 = 10 then (if (t246.length : Int) = 0 then (if (t250.length : Int) > 0 then (if 0 ≤ (wrap64 ((t250.length : Int) - 1)) then (if (wrap64 ((t250.length : Int) - 1)) < (t250.length : Int) then (if (((rd_T36 t250 (wrap64 ((t250.length : Int) - 1))).f0) == a2_0 && (((rd_T36 t250 (wrap64 ((t250.length : Int) - 1))).f1) == a2_1 && (((rd_T36 t250 (wrap64 ((t250.length : Int) - 1))).f2) == a2_2 && (((rd_T36 t250 (wrap64 ((t250.length : Int) - 1))).f3) == a2_3 && (((rd_T36 t250 (wrap64 ((t250.length : Int) - 1))).f4) == a2_4 && (((rd_T36 t250 (wrap64 ((t250.length : Int) - 1))).f5) == a2_5 && (((rd_T36 t250 (wrap64 ((t250.length : Int) - 1))).f6) == a2_6 && (((rd_T36 t250 (wrap64 ((t250.length : Int) - 1))).f7) == a2_7 && ((((rd_T36 t250 (wrap64 ((t250.length : Int) - 1))).f8).toList) == a2_8.toList))))))))) = true then ((collect_Due.f kj14 t233 (wrap64 (a2_3 - 1))).bind fun t254 => (if (t254.length : Int) < (t250.length : Int) then ((corebanklaw42_lives.f kj14).bind fun t257 => (some t257)) else (none))) else (none)) else (none)) else (none)) else (none)) else (none)) else (none)) = some r := H
        have A47 := Aside0.mk A470
        clear A470
        by_cases c48 : t249 = 10
        ·rw [if_pos c48] at H
         have c48b0 : (t249 == 10) = true := beq_iff_eq.mpr c48
         have c48b1 : (t249 != 10) = false := bne_eq_false_iff_eq.mpr c48
         clear c48
         by_cases c49 : (t246.length : Int) = 0
         ·rw [if_pos c49] at H
          have c49b0 : ((t246.length : Int) == 0) = true := beq_iff_eq.mpr c49
          have c49b1 : ((t246.length : Int) != 0) = false := bne_eq_false_iff_eq.mpr c49
          clear c49
          by_cases c50 : (t250.length : Int) > 0
          ·rw [if_pos c50] at H
           have c50b0 : decide (0 < (t250.length : Int)) = true := decide_eq_true c50
           have c50b1 : decide (0 < t250.length) = true := decide_eq_true (by omega)
           clear c50
           obtain ⟨ji51, hji51⟩ : ∃ j_ : Int, (wrap64 ((t250.length : Int) - 1)) = j_ := ⟨_, rfl⟩
           replace H : (if 0 ≤ (ji51) then (if (ji51) < (t250.length : Int) then (if (((rd_T36 t250 (ji51)).f0) == a2_0 && (((rd_T36 t250 (ji51)).f1) == a2_1 && (((rd_T36 t250 (ji51)).f2) == a2_2 && (((rd_T36 t250 (ji51)).f3) == a2_3 && (((rd_T36 t250 (ji51)).f4) == a2_4 && (((rd_T36 t250 (ji51)).f5) == a2_5 && (((rd_T36 t250 (ji51)).f6) == a2_6 && (((rd_T36 t250 (ji51)).f7) == a2_7 && ((((rd_T36 t250 (ji51)).f8).toList) == a2_8.toList))))))))) = true then ((collect_Due.f kj14 t233 (wrap64 (a2_3 - 1))).bind fun t254 => (if (t254.length : Int) < (t250.length : Int) then ((corebanklaw42_lives.f kj14).bind fun t257 => (some t257)) else (none))) else (none)) else (none)) else (none)) = some r := by first | (rw [hji51] at H; exact H) | (simp only [hji51] at H ⊢; exact H)
           (try rw [hji51] at A46)
           (try rw [hji51] at A47)
           have hji51w : (IntKind.i64.wrap ((t250.length : Int) - 1)) = ji51 := (i64_w _).trans hji51
           by_cases c52 : 0 ≤ (ji51)
           ·rw [if_pos c52] at H
            have c52b0 : decide (0 ≤ (ji51)) = true := decide_eq_true c52
            clear c52
            by_cases c53 : (ji51) < (t250.length : Int)
            ·rw [if_pos c53] at H
             have c53b0 : decide ((ji51) < (t250.length : Int)) = true := decide_eq_true c53
             clear c53
             by_cases c54 : (((rd_T36 t250 (ji51)).f0) == a2_0 && (((rd_T36 t250 (ji51)).f1) == a2_1 && (((rd_T36 t250 (ji51)).f2) == a2_2 && (((rd_T36 t250 (ji51)).f3) == a2_3 && (((rd_T36 t250 (ji51)).f4) == a2_4 && (((rd_T36 t250 (ji51)).f5) == a2_5 && (((rd_T36 t250 (ji51)).f6) == a2_6 && (((rd_T36 t250 (ji51)).f7) == a2_7 && ((((rd_T36 t250 (ji51)).f8).toList) == a2_8.toList))))))))) = true
             ·rw [if_pos c54] at H
              have c54b0 : (((rd_T36 t250 (ji51)).f0) == a2_0 && (((rd_T36 t250 (ji51)).f1) == a2_1 && (((rd_T36 t250 (ji51)).f2) == a2_2 && (((rd_T36 t250 (ji51)).f3) == a2_3 && (((rd_T36 t250 (ji51)).f4) == a2_4 && (((rd_T36 t250 (ji51)).f5) == a2_5 && (((rd_T36 t250 (ji51)).f6) == a2_6 && (((rd_T36 t250 (ji51)).f7) == a2_7 && ((((rd_T36 t250 (ji51)).f8).toList) == a2_8.toList))))))))) = true := c54
              (try (have c54b1 : decide (((rd_T36 t250 (ji51)).f0) = a2_0 && (((rd_T36 t250 (ji51)).f1) == a2_1 && (((rd_T36 t250 (ji51)).f2) == a2_2 && (((rd_T36 t250 (ji51)).f3) == a2_3 && (((rd_T36 t250 (ji51)).f4) == a2_4 && (((rd_T36 t250 (ji51)).f5) == a2_5 && (((rd_T36 t250 (ji51)).f6) == a2_6 && (((rd_T36 t250 (ji51)).f7) == a2_7 && ((((rd_T36 t250 (ji51)).f8).toList) == a2_8.toList))))))))) = true := by revert c54; generalize (((rd_T36 t250 (ji51)).f0)) = p_; generalize (a2_0 && (((rd_T36 t250 (ji51)).f1) == a2_1 && (((rd_T36 t250 (ji51)).f2) == a2_2 && (((rd_T36 t250 (ji51)).f3) == a2_3 && (((rd_T36 t250 (ji51)).f4) == a2_4 && (((rd_T36 t250 (ji51)).f5) == a2_5 && (((rd_T36 t250 (ji51)).f6) == a2_6 && (((rd_T36 t250 (ji51)).f7) == a2_7 && ((((rd_T36 t250 (ji51)).f8).toList) == a2_8.toList))))))))) = q_; cases p_ <;> cases q_ <;> simp))
              (try (have c54b2 : (((rd_T36 t250 (ji51)).f0) == a2_0 && (((rd_T36 t250 (ji51)).f1) == a2_1 && (((rd_T36 t250 (ji51)).f2) == a2_2 && (((rd_T36 t250 (ji51)).f3) == a2_3 && (((rd_T36 t250 (ji51)).f4) == a2_4 && (((rd_T36 t250 (ji51)).f5) == a2_5 && (((rd_T36 t250 (ji51)).f6) == a2_6 && (((rd_T36 t250 (ji51)).f7) == a2_7 && ((((rd_T36 t250 (ji51)).f8).toList) == a2_8.toList))))))))) = true := by revert c54; generalize (((rd_T36 t250 (ji51)).f0)) = p_; generalize (a2_0 && (((rd_T36 t250 (ji51)).f1) == a2_1 && (((rd_T36 t250 (ji51)).f2) == a2_2 && (((rd_T36 t250 (ji51)).f3) == a2_3 && (((rd_T36 t250 (ji51)).f4) == a2_4 && (((rd_T36 t250 (ji51)).f5) == a2_5 && (((rd_T36 t250 (ji51)).f6) == a2_6 && (((rd_T36 t250 (ji51)).f7) == a2_7 && ((((rd_T36 t250 (ji51)).f8).toList) == a2_8.toList))))))))) = q_; cases p_ <;> cases q_ <;> simp))
              clear c54
              replace H := Option.bind_eq_some_iff.mp H
              obtain ⟨t254, A550, H⟩ := H
              replace H : (if (t254.length : Int) < (t250.length : Int) then ((corebanklaw42_lives.f kj14).bind fun t257 => (some t257)) else (none)) = some r := H
              have A55 := Aside0.mk A550
              clear A550
              by_cases c56 : (t254.length : Int) < (t250.length : Int)
              ·rw [if_pos c56] at H
               have c56b0 : decide ((t254.length : Int) < (t250.length : Int)) = true := decide_eq_true c56
               have c56b1 : decide (t254.length < t250.length) = true := decide_eq_true (Int.ofNat_lt.mp c56)
               clear c56
               replace H := Option.bind_eq_some_iff.mp H
               obtain ⟨t257, A570, H⟩ := H
               replace H : (some t257) = some r := H
               have A57 := Aside0.mk A570
               clear A570
               obtain rfl := Option.some.inj H
               have hcz58 := blk_cell BK230.out
               have hfz58 := blk_frozen BK230.out
               obtain ⟨Ao59, co59, eo59⟩ := Kd.R_slice HO_7.out
               subst eo59
               try go_wp2_with (first | ((with_reducible refine gate_callee (f := 15) rfl ?_); refine goesL_ (some 87) rfl rfl Tryd.func15 (by kernel_rfl) rfl #[.slice Ao59 t233.length co59, .slice A1 l1.length c1, .agg #[.int .i64 a2_0, .int .i64 a2_1, .int .i64 a2_2, .int .i64 a2_3, .int .i64 a2_4, .int .i64 a2_5, .int .i64 a2_6, .int .i64 a2_7, .string a2_8], .int .i64 a2_9] rfl (by (try simp only [List.map_toArray, List.map_cons, List.map_nil]); first | done | rfl | (simp only [List.length_drop, List.length_take]; rfl)) ?_; (with_reducible refine (collect_Present.calls kj14 _ _ t233 _ _ l1 a2_0 a2_1 a2_2 a2_3 a2_4 a2_5 a2_6 a2_7 a2_8 a2_9 t246 t249 _ ?side1 ?side2 ?side3 ?side4 A46.out).mono ?_); (case side1 => repeat (first | exact (Kd.R_reads' HO_7.out).2.2 | (with_reducible refine Kd.C_alloc ?_ _) | (with_reducible refine Kd.C_drewN ?_ _) | (with_reducible refine Kd.C_drew ?_))); (case side2 => exact (Kd.R_reads' HO_7.out).2.1); (case side3 => repeat (first | exact (Kd.C_below HR1.out HB.out) | (with_reducible refine Kd.C_alloc ?_ _) | (with_reducible refine Kd.C_drewN ?_ _) | (with_reducible refine Kd.C_drew ?_))); (case side4 => exact HC1.out); rintro e w60 ⟨v247, rfl, ho0, hb⟩; refine ⟨_, rfl, ?_⟩; have n0_ := Aside0.mk (Kd.R_elder' (by (with_reducible repeat (first | apply Kd.R_alloc | apply Kd.R_drewN | apply Kd.R_drew)); exact HO_7.out) (Kd.R_base ho0) hb); have n1_ := Aside0.mk (Kd.R_lower (Kd.R_new' ho0 (Kd.R_lt (by (with_reducible repeat (first | apply Kd.R_alloc | apply Kd.R_drewN | apply Kd.R_drew)); exact HO_7.out))) (below_size (by repeat (with_reducible first | exact HB.out | apply below_alloc | apply pw_below_drewN | apply below_drew1 | refine below_set ?_ GE230.out)))); have n2_ := Aside0.mk (blk_below (g := gb230) (by (with_reducible repeat (first | refine blk_drewN ?_ _ | refine blk_drew ?_ | refine blk_alloc ?_ _)); exact BK230.out) hb); have n3_ := Aside0.mk (below_step (by repeat (with_reducible first | exact HB.out | apply below_alloc | apply pw_below_drewN | apply below_drew1 | refine below_set ?_ GE230.out)) hb); clear HO_7; clear BK230; clear HB; have HO_7 := n0_; have HO248 := n1_; have BK230 := n2_; have HB := n3_; clear n0_ n1_ n2_ n3_; (try clear hb); (try clear hb2); (try clear hk); (try clear hi); (try clear ho0); have hcz61 := blk_cell BK230.out) | ((with_reducible refine gate_callee (f := 17) rfl ?_); refine goesL_ (some 94) rfl rfl Tryd.func17 (by kernel_rfl) rfl #[.slice Ao59 t233.length co59, .int .i64 a2_3] rfl (by (try simp only [List.map_toArray, List.map_cons, List.map_nil]); first | done | rfl | (simp only [List.length_drop, List.length_take]; rfl)) ?_; (with_reducible refine (collect_Due.calls kj14 _ _ t233 a2_3 t250 _ ?side1 ?side2 A47.out).mono ?_); (case side1 => repeat (first | exact (Kd.R_reads' HO_7.out).2.2 | (with_reducible refine Kd.C_alloc ?_ _) | (with_reducible refine Kd.C_drewN ?_ _) | (with_reducible refine Kd.C_drew ?_))); (case side2 => exact (Kd.R_reads' HO_7.out).2.1); rintro e w62 ⟨v251, rfl, ho0, hb⟩; refine ⟨_, rfl, ?_⟩; have n0_ := Aside0.mk (Kd.R_elder' (by (with_reducible repeat (first | apply Kd.R_alloc | apply Kd.R_drewN | apply Kd.R_drew)); exact HO_7.out) (Kd.R_base ho0) hb); have n1_ := Aside0.mk (Kd.R_elder' (by (with_reducible repeat (first | apply Kd.R_alloc | apply Kd.R_drewN | apply Kd.R_drew)); exact HO248.out) (Kd.R_base ho0) hb); have n2_ := Aside0.mk (Kd.R_lower (Kd.R_new' (Kd.R_new' ho0 (Kd.R_lt (by (with_reducible repeat (first | apply Kd.R_alloc | apply Kd.R_drewN | apply Kd.R_drew)); exact HO_7.out))) (Kd.R_lt (by (with_reducible repeat (first | apply Kd.R_alloc | apply Kd.R_drewN | apply Kd.R_drew)); exact HO248.out))) (below_size (by repeat (with_reducible first | exact HB.out | apply below_alloc | apply pw_below_drewN | apply below_drew1 | refine below_set ?_ GE230.out)))); have n3_ := Aside0.mk (blk_below (g := gb230) (by (with_reducible repeat (first | refine blk_drewN ?_ _ | refine blk_drew ?_ | refine blk_alloc ?_ _)); exact BK230.out) hb); have n4_ := Aside0.mk (below_step (by repeat (with_reducible first | exact HB.out | apply below_alloc | apply pw_below_drewN | apply below_drew1 | refine below_set ?_ GE230.out)) hb); clear HO_7; clear HO248; clear BK230; clear HB; have HO_7 := n0_; have HO248 := n1_; have HO252 := n2_; have BK230 := n3_; have HB := n4_; clear n0_ n1_ n2_ n3_ n4_; (try clear hb); (try clear hb2); (try clear hk); (try clear hi); (try clear ho0)))
               have n0_ := Aside0.mk (Kd.R_drew HO_7.out)
               have n1_ := Aside0.mk (Kd.R_drew HO248.out)
               have n2_ := Aside0.mk (Kd.R_drew HO252.out)
               have n3_ := Aside0.mk (blk_drew BK230.out)
               have n4_ := Aside0.mk (below_drew1 HB.out)
               clear HO_7
               clear HO248
               clear HO252
               clear BK230
               clear HB
               have HO_7 := n0_
               have HO248 := n1_
               have HO252 := n2_
               have BK230 := n3_
               have HB := n4_
               clear n0_ n1_ n2_ n3_ n4_
               obtain ⟨Ao64, co64, eo64⟩ := Kd.R_slice HO248.out
               (first | subst eo64 | (injection eo64 with f1_ f2_ f3_; have f4_ := f1_.symm; have f5_ := f3_.symm; clear f1_ f2_ f3_; subst f4_; subst f5_))
               obtain ⟨Ao65, co65, eo65⟩ := Kd.R_slice HO252.out
               (first | subst eo65 | (injection eo65 with f1_ f2_ f3_; have f4_ := f1_.symm; have f5_ := f3_.symm; clear f1_ f2_ f3_; subst f4_; subst f5_))
               have p253 : 0 ≤ ((ji51) : Int) := of_decide_eq_true (by assumption)
               have q253 : (ji51) < (t250.length : Int) := of_decide_eq_true (by assumption)
               obtain ⟨ad253, e253, hx253_0, hx253_1, hx253_2, hx253_3, hx253_4, hx253_5, hx253_6, hx253_7, hx253_8⟩ := at_T36 (Kd.R_reads' HO252.out).2.2 (ji51) p253 q253
               cases e253
               replace p253 := eq_true p253
               replace q253 := eq_true q253
               refine start_ (n := 39) (S := fun w' => w'.cell? ⟨gb230, 0, none⟩ = some (.int .i64 a2_0) ∧ w'.cell? ⟨gb230, 1, none⟩ = some (.int .i64 a2_1) ∧ w'.cell? ⟨gb230, 2, none⟩ = some (.int .i64 a2_2) ∧ w'.cell? ⟨gb230, 3, none⟩ = some (.int .i64 a2_3) ∧ w'.cell? ⟨gb230, 4, none⟩ = some (.int .i64 a2_4) ∧ w'.cell? ⟨gb230, 5, none⟩ = some (.int .i64 a2_5) ∧ w'.cell? ⟨gb230, 6, none⟩ = some (.int .i64 a2_6) ∧ w'.cell? ⟨gb230, 7, none⟩ = some (.int .i64 a2_7) ∧ w'.cell? ⟨gb230, 8, none⟩ = some (.string a2_8) ∧ w'.cell? ⟨gb230, 9, none⟩ = some (.int .i64 a2_9) ∧ w'.cell? (ad253.add (((ji51)).toNat * 9)) = some (.int .i64 ((rd_T36 t250 (ji51)).f0)) ∧ w'.cell? ⟨(ad253.add (((ji51)).toNat * 9)).block, (ad253.add (((ji51)).toNat * 9)).off + 1, none⟩ = some (.int .i64 ((rd_T36 t250 (ji51)).f1)) ∧ w'.cell? ⟨(ad253.add (((ji51)).toNat * 9)).block, (ad253.add (((ji51)).toNat * 9)).off + 2, none⟩ = some (.int .i64 ((rd_T36 t250 (ji51)).f2)) ∧ w'.cell? ⟨(ad253.add (((ji51)).toNat * 9)).block, (ad253.add (((ji51)).toNat * 9)).off + 3, none⟩ = some (.int .i64 ((rd_T36 t250 (ji51)).f3)) ∧ w'.cell? ⟨(ad253.add (((ji51)).toNat * 9)).block, (ad253.add (((ji51)).toNat * 9)).off + 4, none⟩ = some (.int .i64 ((rd_T36 t250 (ji51)).f4)) ∧ w'.cell? ⟨(ad253.add (((ji51)).toNat * 9)).block, (ad253.add (((ji51)).toNat * 9)).off + 5, none⟩ = some (.int .i64 ((rd_T36 t250 (ji51)).f5)) ∧ w'.cell? ⟨(ad253.add (((ji51)).toNat * 9)).block, (ad253.add (((ji51)).toNat * 9)).off + 6, none⟩ = some (.int .i64 ((rd_T36 t250 (ji51)).f6)) ∧ w'.cell? ⟨(ad253.add (((ji51)).toNat * 9)).block, (ad253.add (((ji51)).toNat * 9)).off + 7, none⟩ = some (.int .i64 ((rd_T36 t250 (ji51)).f7)) ∧ w'.cell? ⟨(ad253.add (((ji51)).toNat * 9)).block, (ad253.add (((ji51)).toNat * 9)).off + 8, none⟩ = some (.string ((rd_T36 t250 (ji51)).f8))) (ds := []) #[false, false, false, false, false, false, false, false, false, false, false, false, false, false, false, false, false, false, false, false, false, false, false, false, false, false, false, false, false, false, false, false, false, false, false, false, false, false, false] (by kernel_rfl) rfl rfl ⟨(blk_cell BK230.out 0).trans rfl, (blk_cell BK230.out 1).trans rfl, (blk_cell BK230.out 2).trans rfl, (blk_cell BK230.out 3).trans rfl, (blk_cell BK230.out 4).trans rfl, (blk_cell BK230.out 5).trans rfl, (blk_cell BK230.out 6).trans rfl, (blk_cell BK230.out 7).trans rfl, (blk_cell BK230.out 8).trans rfl, (blk_cell BK230.out 9).trans rfl, hx253_0, hx253_1, hx253_2, hx253_3, hx253_4, hx253_5, hx253_6, hx253_7, hx253_8⟩ (fun hHeld => ?_); refine with_tabW corebanklaw42_CollectAdds.tab11 corebanklaw42_CollectAdds.bits11 (fun HT_ HW_ => ?_)
               generalize w62.drew = w63 at HO_7 HO248 HO252 BK230 HB hx253_0 hx253_1 hx253_2 hx253_3 hx253_4 hx253_5 hx253_6 hx253_7 hx253_8 hHeld ⊢
               refine pure_ (i := 0) (N := some 95) (v := ?_) (a' := ?_) #[true, false, false, false, false, false, false, false, false, false, false, false, false, false, false, false, false, false, false, false, false, false, false, false, false, false, false, false, false, false, false, false, false, false, false, false, false, false, false] rfl rfl (any_of HT_.out (by kernel_rfl)) (fun _ _ _ h => h) (Or.inl ⟨by rfl, ?_⟩) ?_ ?_
               rotate_left
               ·intro w'
                go_simp
                with_reducible rfl
               rotate_left
               ·simp only [Act.put, List.setIfInBounds_toArray, List.set_cons_zero, List.set_cons_succ, i64_w, i32_w]
                rfl
               refine pure_ (i := 1) (N := some 96) (v := ?_) (a' := ?_) #[true, true, false, false, false, false, false, false, false, false, false, false, false, false, false, false, false, false, false, false, false, false, false, false, false, false, false, false, false, false, false, false, false, false, false, false, false, false, false] rfl rfl (any_of HT_.out (by kernel_rfl)) (fun _ _ _ h => h) (Or.inl ⟨by rfl, ?_⟩) ?_ ?_
               rotate_left
               ·intro w'
                go_simp
                with_reducible rfl
               rotate_left
               ·simp only [Act.put, List.setIfInBounds_toArray, List.set_cons_zero, List.set_cons_succ, i64_w, i32_w]
                rfl
               refine pure_ (i := 2) (N := some 97) (v := ?_) (a' := ?_) #[true, true, true, false, false, false, false, false, false, false, false, false, false, false, false, false, false, false, false, false, false, false, false, false, false, false, false, false, false, false, false, false, false, false, false, false, false, false, false] rfl rfl (any_of HT_.out (by kernel_rfl)) (fun _ _ _ h => h) (Or.inl ⟨by rfl, ?_⟩) ?_ ?_
               rotate_left
               ·intro w'
                go_simp
                with_reducible rfl
               rotate_left
               ·simp only [Act.put, List.setIfInBounds_toArray, List.set_cons_zero, List.set_cons_succ, i64_w, i32_w]
                rfl
               refine pure_ (i := 3) (N := some 98) (v := ?_) (a' := ?_) #[true, true, true, true, false, false, false, false, false, false, false, false, false, false, false, false, false, false, false, false, false, false, false, false, false, false, false, false, false, false, false, false, false, false, false, false, false, false, false] rfl rfl (any_of HT_.out (by kernel_rfl)) (fun _ _ _ h => h) (Or.inl ⟨by rfl, ?_⟩) ?_ ?_
               rotate_left
               ·intro w'
                go_simp
                with_reducible rfl
               rotate_left
               ·simp only [Act.put, List.setIfInBounds_toArray, List.set_cons_zero, List.set_cons_succ, i64_w, i32_w]
                rfl
               refine pure_ (i := 4) (N := some 99) (v := ?_) (a' := ?_) #[true, true, true, true, true, false, false, false, false, false, false, false, false, false, false, false, false, false, false, false, false, false, false, false, false, false, false, false, false, false, false, false, false, false, false, false, false, false, false] rfl rfl (any_of HT_.out (by kernel_rfl)) (fun _ _ _ h => h) (Or.inl ⟨by rfl, ?_⟩) ?_ ?_
               rotate_left
               ·intro w'
                go_simp
                with_reducible rfl
               rotate_left
               ·simp only [Act.put, List.setIfInBounds_toArray, List.set_cons_zero, List.set_cons_succ, i64_w, i32_w]
                rfl
               refine pure_ (i := 5) (N := some 100) (v := ?_) (a' := ?_) #[true, true, true, true, true, true, false, false, false, false, false, false, false, false, false, false, false, false, false, false, false, false, false, false, false, false, false, false, false, false, false, false, false, false, false, false, false, false, false] rfl rfl (any_of HT_.out (by kernel_rfl)) (fun _ _ _ h => h) (Or.inl ⟨by rfl, ?_⟩) ?_ ?_
               rotate_left
               ·intro w'
                go_simp
                with_reducible rfl
               rotate_left
               ·simp only [Act.put, List.setIfInBounds_toArray, List.set_cons_zero, List.set_cons_succ, i64_w, i32_w]
                rfl
               refine pure_ (i := 6) (N := some 101) (v := ?_) (a' := ?_) #[true, true, true, true, true, true, true, false, false, false, false, false, false, false, false, false, false, false, false, false, false, false, false, false, false, false, false, false, false, false, false, false, false, false, false, false, false, false, false] rfl rfl (any_of HT_.out (by kernel_rfl)) (fun _ _ _ h => h) (Or.inl ⟨by rfl, ?_⟩) ?_ ?_
               rotate_left
               ·intro w'
                go_simp
                with_reducible rfl
               rotate_left
               ·simp only [Act.put, List.setIfInBounds_toArray, List.set_cons_zero, List.set_cons_succ, i64_w, i32_w]
                rfl
               refine pure_ (i := 7) (N := some 102) (v := ?_) (a' := ?_) #[true, true, true, true, true, true, true, true, false, false, false, false, false, false, false, false, false, false, false, false, false, false, false, false, false, false, false, false, false, false, false, false, false, false, false, false, false, false, false] rfl rfl (any_of HT_.out (by kernel_rfl)) (fun _ _ _ h => h) (Or.inl ⟨by rfl, ?_⟩) ?_ ?_
               rotate_left
               ·intro w'
                go_simp
                with_reducible rfl
               rotate_left
               ·simp only [Act.put, List.setIfInBounds_toArray, List.set_cons_zero, List.set_cons_succ, i64_w, i32_w]
                rfl
               refine pure_ (i := 8) (N := some 103) (v := ?_) (a' := ?_) #[true, true, true, true, true, true, true, true, true, false, false, false, false, false, false, false, false, false, false, false, false, false, false, false, false, false, false, false, false, false, false, false, false, false, false, false, false, false, false] rfl rfl (any_of HT_.out (by kernel_rfl)) (fun _ _ _ h => h) (Or.inl ⟨by rfl, ?_⟩) ?_ ?_
               rotate_left
               ·intro w'
                go_simp
                with_reducible rfl
               rotate_left
               ·simp only [Act.put, List.setIfInBounds_toArray, List.set_cons_zero, List.set_cons_succ, i64_w, i32_w]
                rfl
               refine pure_ (i := 9) (N := some 104) (v := ?_) (a' := ?_) #[true, true, true, true, true, true, true, true, true, true, false, false, false, false, false, false, false, false, false, false, false, false, false, false, false, false, false, false, false, false, false, false, false, false, false, false, false, false, false] rfl rfl (any_of HT_.out (by kernel_rfl)) (fun _ _ _ h => h) (Or.inl ⟨by rfl, ?_⟩) ?_ ?_
               rotate_left
               ·intro w'
                go_simp
                with_reducible rfl
               rotate_left
               ·simp only [Act.put, List.setIfInBounds_toArray, List.set_cons_zero, List.set_cons_succ, i64_w, i32_w]
                rfl
               refine pure_ (i := 10) (N := some 105) (v := ?_) (a' := ?_) #[true, true, true, true, true, true, true, true, true, true, true, false, false, false, false, false, false, false, false, false, false, false, false, false, false, false, false, false, false, false, false, false, false, false, false, false, false, false, false] rfl rfl (any_of HT_.out (by kernel_rfl)) (fun _ _ _ h => h) (Or.inl ⟨by rfl, ?_⟩) ?_ ?_
               rotate_left
               ·intro w'
                go_simp
                with_reducible rfl
               rotate_left
               ·simp only [Act.put, List.setIfInBounds_toArray, List.set_cons_zero, List.set_cons_succ, i64_w, i32_w]
                rfl
               refine pure_ (i := 11) (N := some 106) (v := ?_) (a' := ?_) #[true, true, true, true, true, true, true, true, true, true, true, true, false, false, false, false, false, false, false, false, false, false, false, false, false, false, false, false, false, false, false, false, false, false, false, false, false, false, false] rfl rfl (any_of HT_.out (by kernel_rfl)) (fun _ _ _ h => h) (Or.inl ⟨by rfl, ?_⟩) ?_ ?_
               rotate_left
               ·intro w'
                go_simp
                with_reducible rfl
               rotate_left
               ·simp only [Act.put, List.setIfInBounds_toArray, List.set_cons_zero, List.set_cons_succ, i64_w, i32_w]
                rfl
               refine pure_ (i := 12) (N := some 107) (v := ?_) (a' := ?_) #[true, true, true, true, true, true, true, true, true, true, true, true, true, false, false, false, false, false, false, false, false, false, false, false, false, false, false, false, false, false, false, false, false, false, false, false, false, false, false] rfl rfl (any_of HT_.out (by kernel_rfl)) (fun _ _ _ h => h) (Or.inl ⟨by rfl, ?_⟩) ?_ ?_
               rotate_left
               ·intro w'
                go_simp
                with_reducible rfl
               rotate_left
               ·simp only [Act.put, List.setIfInBounds_toArray, List.set_cons_zero, List.set_cons_succ, i64_w, i32_w]
                rfl
               refine pure_ (i := 13) (N := some 108) (v := ?_) (a' := ?_) #[true, true, true, true, true, true, true, true, true, true, true, true, true, true, false, false, false, false, false, false, false, false, false, false, false, false, false, false, false, false, false, false, false, false, false, false, false, false, false] rfl rfl (any_of HT_.out (by kernel_rfl)) (fun _ _ _ h => h) (Or.inl ⟨by rfl, ?_⟩) ?_ ?_
               rotate_left
               ·intro w'
                go_simp
                with_reducible rfl
               rotate_left
               ·simp only [Act.put, List.setIfInBounds_toArray, List.set_cons_zero, List.set_cons_succ, i64_w, i32_w]
                rfl
               refine pure_ (i := 14) (N := some 109) (v := ?_) (a' := ?_) #[true, true, true, true, true, true, true, true, true, true, true, true, true, true, true, false, false, false, false, false, false, false, false, false, false, false, false, false, false, false, false, false, false, false, false, false, false, false, false] rfl rfl (any_of HT_.out (by kernel_rfl)) (fun _ _ _ h => h) (Or.inl ⟨by rfl, ?_⟩) ?_ ?_
               rotate_left
               ·intro w'
                go_simp
                with_reducible rfl
               rotate_left
               ·simp only [Act.put, List.setIfInBounds_toArray, List.set_cons_zero, List.set_cons_succ, i64_w, i32_w]
                rfl
               refine pure_ (i := 15) (N := some 110) (v := ?_) (a' := ?_) #[true, true, true, true, true, true, true, true, true, true, true, true, true, true, true, true, false, false, false, false, false, false, false, false, false, false, false, false, false, false, false, false, false, false, false, false, false, false, false] rfl rfl (any_of HT_.out (by kernel_rfl)) (fun _ _ _ h => h) (Or.inl ⟨by rfl, ?_⟩) ?_ ?_
               rotate_left
               ·intro w'
                go_simp
                with_reducible rfl
               rotate_left
               ·simp only [Act.put, List.setIfInBounds_toArray, List.set_cons_zero, List.set_cons_succ, i64_w, i32_w]
                rfl
               refine pure_ (i := 16) (N := some 111) (v := ?_) (a' := ?_) #[true, true, true, true, true, true, true, true, true, true, true, true, true, true, true, true, true, false, false, false, false, false, false, false, false, false, false, false, false, false, false, false, false, false, false, false, false, false, false] rfl rfl (any_of HT_.out (by kernel_rfl)) (fun _ _ _ h => h) (Or.inl ⟨by rfl, ?_⟩) ?_ ?_
               rotate_left
               ·intro w'
                go_simp
                with_reducible rfl
               rotate_left
               ·simp only [Act.put, List.setIfInBounds_toArray, List.set_cons_zero, List.set_cons_succ, i64_w, i32_w]
                rfl
               refine pure_ (i := 17) (N := some 112) (v := ?_) (a' := ?_) #[true, true, true, true, true, true, true, true, true, true, true, true, true, true, true, true, true, true, false, false, false, false, false, false, false, false, false, false, false, false, false, false, false, false, false, false, false, false, false] rfl rfl (any_of HT_.out (by kernel_rfl)) (fun _ _ _ h => h) (Or.inl ⟨by rfl, ?_⟩) ?_ ?_
               rotate_left
               ·intro w'
                go_simp
                with_reducible rfl
               rotate_left
               ·simp only [Act.put, List.setIfInBounds_toArray, List.set_cons_zero, List.set_cons_succ, i64_w, i32_w]
                rfl
               refine pure_ (i := 19) (N := some 114) (v := ?_) (a' := ?_) #[true, true, true, true, true, true, true, true, true, true, true, true, true, true, true, true, true, true, false, true, false, false, false, false, false, false, false, false, false, false, false, false, false, false, false, false, false, false, false] rfl rfl (any_of HT_.out (by kernel_rfl)) (fun _ _ _ h => h) (Or.inl ⟨by rfl, ?_⟩) ?_ ?_
               rotate_left
               ·intro w'
                go_simp
                with_reducible rfl
               rotate_left
               ·simp only [Act.put, List.setIfInBounds_toArray, List.set_cons_zero, List.set_cons_succ, i64_w, i32_w]
                rfl
               refine take_ (i := 18) (N := some 113) (v := ?_) (a' := ?_) #[true, true, true, true, true, true, true, true, true, true, true, true, true, true, true, true, true, true, true, true, false, false, false, false, false, false, false, false, false, false, false, false, false, false, false, false, false, false, false] rfl rfl (take_ofW HT_.out HW_.out (by kernel_rfl)) (fun _ _ _ h => h) (Or.inl ⟨by rfl, ?_⟩) hHeld ?_ ?_
               rotate_left
               ·rintro w' ⟨s0, s1, s2, s3, s4, s5, s6, s7, s8, s9, s10, s11, s12, s13, s14, s15, s16, s17, s18⟩
                try simp only [Int.toNat_natCast] at s0 s1 s2 s3 s4 s5 s6 s7 s8 s9 s10 s11 s12 s13 s14 s15 s16 s17 s18
                go_simp
                with_reducible rfl
               rotate_left
               ·simp only [Act.put, List.setIfInBounds_toArray, List.set_cons_zero, List.set_cons_succ, i64_w, i32_w]
                rfl
               refine take_ (i := 20) (N := some 115) (v := ?_) (a' := ?_) #[true, true, true, true, true, true, true, true, true, true, true, true, true, true, true, true, true, true, true, true, true, false, false, false, false, false, false, false, false, false, false, false, false, false, false, false, false, false, false] rfl rfl (take_ofW HT_.out HW_.out (by kernel_rfl)) (fun _ _ _ h => h) (Or.inl ⟨by rfl, ?_⟩) hHeld ?_ ?_
               rotate_left
               ·rintro w' ⟨s0, s1, s2, s3, s4, s5, s6, s7, s8, s9, s10, s11, s12, s13, s14, s15, s16, s17, s18⟩
                try simp only [Int.toNat_natCast] at s0 s1 s2 s3 s4 s5 s6 s7 s8 s9 s10 s11 s12 s13 s14 s15 s16 s17 s18
                go_simp
                with_reducible rfl
               rotate_left
               ·simp only [Act.put, List.setIfInBounds_toArray, List.set_cons_zero, List.set_cons_succ, i64_w, i32_w]
                rfl
               refine pure_ (i := 21) (N := some 116) (v := ?_) (a' := ?_) #[true, true, true, true, true, true, true, true, true, true, true, true, true, true, true, true, true, true, true, true, true, true, false, false, false, false, false, false, false, false, false, false, false, false, false, false, false, false, false] rfl rfl (any_of HT_.out (by kernel_rfl)) (fun _ _ _ h => h) (Or.inl ⟨by rfl, ?_⟩) ?_ ?_
               rotate_left
               ·intro w'
                go_simp
                with_reducible rfl
               rotate_left
               ·simp only [Act.put, List.setIfInBounds_toArray, List.set_cons_zero, List.set_cons_succ, i64_w, i32_w]
                rfl
               refine pure_ (i := 22) (N := some 117) (v := ?_) (a' := ?_) #[true, true, true, true, true, true, true, true, true, true, true, true, true, true, true, true, true, true, true, true, true, true, true, false, false, false, false, false, false, false, false, false, false, false, false, false, false, false, false] rfl rfl (any_of HT_.out (by kernel_rfl)) (fun _ _ _ h => h) (Or.inl ⟨by rfl, ?_⟩) ?_ ?_
               rotate_left
               ·intro w'
                go_simp
                with_reducible rfl
               rotate_left
               ·simp only [Act.put, List.setIfInBounds_toArray, List.set_cons_zero, List.set_cons_succ, i64_w, i32_w]
                rfl
               refine pure_ (i := 23) (N := some 118) (v := ?_) (a' := ?_) #[true, true, true, true, true, true, true, true, true, true, true, true, true, true, true, true, true, true, true, true, true, true, true, true, false, false, false, false, false, false, false, false, false, false, false, false, false, false, false] rfl rfl (any_of HT_.out (by kernel_rfl)) (fun _ _ _ h => h) (Or.inl ⟨by rfl, ?_⟩) ?_ ?_
               rotate_left
               ·intro w'
                go_simp
                with_reducible rfl
               rotate_left
               ·simp only [Act.put, List.setIfInBounds_toArray, List.set_cons_zero, List.set_cons_succ, i64_w, i32_w]
                rfl
               refine pure_ (i := 24) (N := some 119) (v := ?_) (a' := ?_) #[true, true, true, true, true, true, true, true, true, true, true, true, true, true, true, true, true, true, true, true, true, true, true, true, true, false, false, false, false, false, false, false, false, false, false, false, false, false, false] rfl rfl (any_of HT_.out (by kernel_rfl)) (fun _ _ _ h => h) (Or.inl ⟨by rfl, ?_⟩) ?_ ?_
               rotate_left
               ·intro w'
                go_simp
                with_reducible rfl
               rotate_left
               ·simp only [Act.put, List.setIfInBounds_toArray, List.set_cons_zero, List.set_cons_succ, i64_w, i32_w]
                rfl
               refine pure_ (i := 25) (N := some 120) (v := ?_) (a' := ?_) #[true, true, true, true, true, true, true, true, true, true, true, true, true, true, true, true, true, true, true, true, true, true, true, true, true, true, false, false, false, false, false, false, false, false, false, false, false, false, false] rfl rfl (any_of HT_.out (by kernel_rfl)) (fun _ _ _ h => h) (Or.inl ⟨by rfl, ?_⟩) ?_ ?_
               rotate_left
               ·intro w'
                go_simp
                with_reducible rfl
               rotate_left
               ·simp only [Act.put, List.setIfInBounds_toArray, List.set_cons_zero, List.set_cons_succ, i64_w, i32_w]
                rfl
               refine pure_ (i := 26) (N := some 121) (v := ?_) (a' := ?_) #[true, true, true, true, true, true, true, true, true, true, true, true, true, true, true, true, true, true, true, true, true, true, true, true, true, true, true, false, false, false, false, false, false, false, false, false, false, false, false] rfl rfl (any_of HT_.out (by kernel_rfl)) (fun _ _ _ h => h) (Or.inl ⟨by rfl, ?_⟩) ?_ ?_
               rotate_left
               ·intro w'
                go_simp
                with_reducible rfl
               rotate_left
               ·simp only [Act.put, List.setIfInBounds_toArray, List.set_cons_zero, List.set_cons_succ, i64_w, i32_w]
                rfl
               refine pure_ (i := 31) (N := some 126) (v := ?_) (a' := ?_) #[true, true, true, true, true, true, true, true, true, true, true, true, true, true, true, true, true, true, true, true, true, true, true, true, true, true, true, false, false, false, false, true, false, false, false, false, false, false, false] rfl rfl (any_of HT_.out (by kernel_rfl)) (fun _ _ _ h => h) (Or.inl ⟨by rfl, ?_⟩) ?_ ?_
               rotate_left
               ·intro w'
                go_simp
                with_reducible rfl
               rotate_left
               ·simp only [Act.put, List.setIfInBounds_toArray, List.set_cons_zero, List.set_cons_succ, i64_w, i32_w]
                rfl
               refine pure_ (i := 32) (N := some 127) (v := ?_) (a' := ?_) #[true, true, true, true, true, true, true, true, true, true, true, true, true, true, true, true, true, true, true, true, true, true, true, true, true, true, true, false, false, false, false, true, true, false, false, false, false, false, false] rfl rfl (any_of HT_.out (by kernel_rfl)) (fun _ _ _ h => h) (Or.inl ⟨by rfl, ?_⟩) ?_ ?_
               rotate_left
               ·intro w'
                go_simp
                with_reducible rfl
               rotate_left
               ·simp only [Act.put, List.setIfInBounds_toArray, List.set_cons_zero, List.set_cons_succ, i64_w, i32_w]
                rfl
               refine take_ (i := 27) (N := some 122) (v := ?_) (a' := ?_) #[true, true, true, true, true, true, true, true, true, true, true, true, true, true, true, true, true, true, true, true, true, true, true, true, true, true, true, true, false, false, false, true, true, false, false, false, false, false, false] rfl rfl (take_ofW HT_.out HW_.out (by kernel_rfl)) (fun _ _ _ h => h) (Or.inl ⟨by rfl, ?_⟩) hHeld ?_ ?_
               rotate_left
               ·rintro w' ⟨s0, s1, s2, s3, s4, s5, s6, s7, s8, s9, s10, s11, s12, s13, s14, s15, s16, s17, s18⟩
                try simp only [Int.toNat_natCast] at s0 s1 s2 s3 s4 s5 s6 s7 s8 s9 s10 s11 s12 s13 s14 s15 s16 s17 s18
                go_simp
                with_reducible rfl
               rotate_left
               ·simp only [Act.put, List.setIfInBounds_toArray, List.set_cons_zero, List.set_cons_succ, i64_w, i32_w]
                rfl
               refine pure_ (i := 28) (N := some 123) (v := ?_) (a' := ?_) #[true, true, true, true, true, true, true, true, true, true, true, true, true, true, true, true, true, true, true, true, true, true, true, true, true, true, true, true, true, false, false, true, true, false, false, false, false, false, false] rfl rfl (any_of HT_.out (by kernel_rfl)) (fun _ _ _ h => h) (Or.inl ⟨by rfl, ?_⟩) ?_ ?_
               rotate_left
               ·intro w'
                go_simp
                with_reducible rfl
               rotate_left
               ·simp only [Act.put, List.setIfInBounds_toArray, List.set_cons_zero, List.set_cons_succ, i64_w, i32_w]
                rfl
               refine one_ (i := 29) (N := some 124) #[true, true, true, true, true, true, true, true, true, true, true, true, true, true, true, true, true, true, true, true, true, true, true, true, true, true, true, true, true, true, false, true, true, false, false, false, false, false, false] rfl rfl (one_of HT_.out (by kernel_rfl)) (by decide) (fun K hK => ?_)
               refine goes_ Tryd.func17 (by kernel_rfl) rfl #[.slice _ t233.length _, .int .i64 (wrap64 (a2_3 - 1))] (by rfl) rfl rfl (by (try simp only [List.map_toArray, List.map_cons, List.map_nil]); first | done | rfl | (simp only [List.length_drop, List.length_take]; rfl)) ?_
               with_reducible refine (collect_Due.calls kj14 _ _ t233 (wrap64 (a2_3 - 1)) t254 _ ?side1 ?side2 A55.out).mono ?_
               (case side1 => repeat (first | exact (Kd.R_reads' HO_7.out).2.2 | (with_reducible refine Kd.C_alloc ?_ _) | (with_reducible refine Kd.C_drewN ?_ _) | (with_reducible refine Kd.C_drew ?_)))
               (case side2 => exact (Kd.R_reads' HO_7.out).2.1)
               rintro e w66 ⟨v255, rfl, ho0, hb⟩
               have HS10_ := (hb.cell (World.block_lt_of_cell? _ _ (hHeld.2.2.2.2.2.2.2.2.2.2.1))).trans (hHeld.2.2.2.2.2.2.2.2.2.2.1)
               have HS11_ := (hb.cell (World.block_lt_of_cell? _ _ (hHeld.2.2.2.2.2.2.2.2.2.2.2.1))).trans (hHeld.2.2.2.2.2.2.2.2.2.2.2.1)
               have HS12_ := (hb.cell (World.block_lt_of_cell? _ _ (hHeld.2.2.2.2.2.2.2.2.2.2.2.2.1))).trans (hHeld.2.2.2.2.2.2.2.2.2.2.2.2.1)
               have HS13_ := (hb.cell (World.block_lt_of_cell? _ _ (hHeld.2.2.2.2.2.2.2.2.2.2.2.2.2.1))).trans (hHeld.2.2.2.2.2.2.2.2.2.2.2.2.2.1)
               have HS14_ := (hb.cell (World.block_lt_of_cell? _ _ (hHeld.2.2.2.2.2.2.2.2.2.2.2.2.2.2.1))).trans (hHeld.2.2.2.2.2.2.2.2.2.2.2.2.2.2.1)
               have HS15_ := (hb.cell (World.block_lt_of_cell? _ _ (hHeld.2.2.2.2.2.2.2.2.2.2.2.2.2.2.2.1))).trans (hHeld.2.2.2.2.2.2.2.2.2.2.2.2.2.2.2.1)
               have HS16_ := (hb.cell (World.block_lt_of_cell? _ _ (hHeld.2.2.2.2.2.2.2.2.2.2.2.2.2.2.2.2.1))).trans (hHeld.2.2.2.2.2.2.2.2.2.2.2.2.2.2.2.2.1)
               have HS17_ := (hb.cell (World.block_lt_of_cell? _ _ (hHeld.2.2.2.2.2.2.2.2.2.2.2.2.2.2.2.2.2.1))).trans (hHeld.2.2.2.2.2.2.2.2.2.2.2.2.2.2.2.2.2.1)
               have HS18_ := (hb.cell (World.block_lt_of_cell? _ _ (hHeld.2.2.2.2.2.2.2.2.2.2.2.2.2.2.2.2.2.2))).trans (hHeld.2.2.2.2.2.2.2.2.2.2.2.2.2.2.2.2.2.2)
               refine ⟨_, rfl, ?_⟩
               have n0_ := Aside0.mk (Kd.R_elder' (by (with_reducible repeat (first | apply Kd.R_alloc | apply Kd.R_drewN | apply Kd.R_drew)); exact HO_7.out) (Kd.R_base ho0) hb)
               have n1_ := Aside0.mk (Kd.R_elder' (by (with_reducible repeat (first | apply Kd.R_alloc | apply Kd.R_drewN | apply Kd.R_drew)); exact HO248.out) (Kd.R_base ho0) hb)
               have n2_ := Aside0.mk (Kd.R_elder' (by (with_reducible repeat (first | apply Kd.R_alloc | apply Kd.R_drewN | apply Kd.R_drew)); exact HO252.out) (Kd.R_base ho0) hb)
               have n3_ := Aside0.mk (Kd.R_lower (Kd.R_new' (Kd.R_new' (Kd.R_new' ho0 (Kd.R_lt (by (with_reducible repeat (first | apply Kd.R_alloc | apply Kd.R_drewN | apply Kd.R_drew)); exact HO_7.out))) (Kd.R_lt (by (with_reducible repeat (first | apply Kd.R_alloc | apply Kd.R_drewN | apply Kd.R_drew)); exact HO248.out))) (Kd.R_lt (by (with_reducible repeat (first | apply Kd.R_alloc | apply Kd.R_drewN | apply Kd.R_drew)); exact HO252.out))) (below_size (by repeat (with_reducible first | exact HB.out | apply below_alloc | apply pw_below_drewN | apply below_drew1 | refine below_set ?_ GE230.out))))
               have n4_ := Aside0.mk (blk_below (g := gb230) (by (with_reducible repeat (first | refine blk_drewN ?_ _ | refine blk_drew ?_ | refine blk_alloc ?_ _)); exact BK230.out) hb)
               have n5_ := Aside0.mk (below_step (by repeat (with_reducible first | exact HB.out | apply below_alloc | apply pw_below_drewN | apply below_drew1 | refine below_set ?_ GE230.out)) hb)
               clear HO_7
               clear HO248
               clear HO252
               clear BK230
               clear HB
               have HO_7 := n0_
               have HO248 := n1_
               have HO252 := n2_
               have HO256 := n3_
               have BK230 := n4_
               have HB := n5_
               clear n0_ n1_ n2_ n3_ n4_ n5_
               (try clear hb)
               (try clear hb2)
               (try clear hk)
               (try clear hi)
               (try clear ho0)
               obtain ⟨Ao67, co67, eo67⟩ := Kd.R_slice HO256.out
               (first | subst eo67 | (injection eo67 with f1_ f2_ f3_; have f4_ := f1_.symm; have f5_ := f3_.symm; clear f1_ f2_ f3_; subst f4_; subst f5_))
               refine hK.out _ _ ⟨(blk_cell BK230.out 0).trans rfl, (blk_cell BK230.out 1).trans rfl, (blk_cell BK230.out 2).trans rfl, (blk_cell BK230.out 3).trans rfl, (blk_cell BK230.out 4).trans rfl, (blk_cell BK230.out 5).trans rfl, (blk_cell BK230.out 6).trans rfl, (blk_cell BK230.out 7).trans rfl, (blk_cell BK230.out 8).trans rfl, (blk_cell BK230.out 9).trans rfl, HS10_, HS11_, HS12_, HS13_, HS14_, HS15_, HS16_, HS17_, HS18_⟩ (fun hHeld => ?_)
               clear hK K
               refine norm_ (a' := ?_) ?_ ?_
               rotate_left
               ·show Act.put _ (some 124) _ = _
                simp only [Act.put, List.setIfInBounds_toArray, List.set_cons_zero, List.set_cons_succ, i64_w, i32_w]
                rfl
               refine pure_ (i := 30) (N := some 125) (v := ?_) (a' := ?_) #[true, true, true, true, true, true, true, true, true, true, true, true, true, true, true, true, true, true, true, true, true, true, true, true, true, true, true, true, true, true, true, true, true, false, false, false, false, false, false] rfl rfl (any_of HT_.out (by kernel_rfl)) (fun _ _ _ h => h) (Or.inl ⟨by rfl, ?_⟩) ?_ ?_
               rotate_left
               ·intro w'
                go_simp
                with_reducible rfl
               rotate_left
               ·simp only [Act.put, List.setIfInBounds_toArray, List.set_cons_zero, List.set_cons_succ, i64_w, i32_w]
                rfl
               refine pure_ (i := 33) (N := some 128) (v := ?_) (a' := ?_) #[true, true, true, true, true, true, true, true, true, true, true, true, true, true, true, true, true, true, true, true, true, true, true, true, true, true, true, true, true, true, true, true, true, true, false, false, false, false, false] rfl rfl (any_of HT_.out (by kernel_rfl)) (fun _ _ _ h => h) (Or.inl ⟨by rfl, ?_⟩) ?_ ?_
               rotate_left
               ·intro w'
                go_simp
                with_reducible rfl
               rotate_left
               ·simp only [Act.put, List.setIfInBounds_toArray, List.set_cons_zero, List.set_cons_succ, i64_w, i32_w]
                rfl
               refine pure_ (i := 34) (N := some 129) (v := ?_) (a' := ?_) #[true, true, true, true, true, true, true, true, true, true, true, true, true, true, true, true, true, true, true, true, true, true, true, true, true, true, true, true, true, true, true, true, true, true, true, false, false, false, false] rfl rfl (any_of HT_.out (by kernel_rfl)) (fun _ _ _ h => h) (Or.inl ⟨by rfl, ?_⟩) ?_ ?_
               rotate_left
               ·intro w'
                go_simp
                with_reducible rfl
               rotate_left
               ·simp only [Act.put, List.setIfInBounds_toArray, List.set_cons_zero, List.set_cons_succ, i64_w, i32_w]
                rfl
               refine pure_ (i := 35) (N := some 130) (v := ?_) (a' := ?_) #[true, true, true, true, true, true, true, true, true, true, true, true, true, true, true, true, true, true, true, true, true, true, true, true, true, true, true, true, true, true, true, true, true, true, true, true, false, false, false] rfl rfl (any_of HT_.out (by kernel_rfl)) (fun _ _ _ h => h) (Or.inl ⟨by rfl, ?_⟩) ?_ ?_
               rotate_left
               ·intro w'
                go_simp
                with_reducible rfl
               rotate_left
               ·simp only [Act.put, List.setIfInBounds_toArray, List.set_cons_zero, List.set_cons_succ, i64_w, i32_w]
                rfl
               refine one_ (i := 36) (N := some 131) #[true, true, true, true, true, true, true, true, true, true, true, true, true, true, true, true, true, true, true, true, true, true, true, true, true, true, true, true, true, true, true, true, true, true, true, true, true, false, false] rfl rfl (one_of HT_.out (by kernel_rfl)) (by decide) (fun K hK => ?_)
               refine goes_ Tryd.func11 (by kernel_rfl) rfl #[] (by rfl) rfl rfl (by (try simp only [List.map_toArray, List.map_cons, List.map_nil]); first | done | rfl | (simp only [List.length_drop, List.length_take]; rfl)) ?_
               with_reducible refine (corebanklaw42_lives.calls kj14  t257 _ ?sideV A57.out).mono ?_
               case sideV => exact VarOK.below HV.out (by repeat (with_reducible first | exact HB.out | apply below_alloc | apply pw_below_drewN | apply below_drew1 | refine below_set ?_ GE230.out))
               rintro e w68 ⟨rfl, hb⟩
               have HS10_ := (hb.cell (World.block_lt_of_cell? _ _ (hHeld.2.2.2.2.2.2.2.2.2.2.1))).trans (hHeld.2.2.2.2.2.2.2.2.2.2.1)
               have HS11_ := (hb.cell (World.block_lt_of_cell? _ _ (hHeld.2.2.2.2.2.2.2.2.2.2.2.1))).trans (hHeld.2.2.2.2.2.2.2.2.2.2.2.1)
               have HS12_ := (hb.cell (World.block_lt_of_cell? _ _ (hHeld.2.2.2.2.2.2.2.2.2.2.2.2.1))).trans (hHeld.2.2.2.2.2.2.2.2.2.2.2.2.1)
               have HS13_ := (hb.cell (World.block_lt_of_cell? _ _ (hHeld.2.2.2.2.2.2.2.2.2.2.2.2.2.1))).trans (hHeld.2.2.2.2.2.2.2.2.2.2.2.2.2.1)
               have HS14_ := (hb.cell (World.block_lt_of_cell? _ _ (hHeld.2.2.2.2.2.2.2.2.2.2.2.2.2.2.1))).trans (hHeld.2.2.2.2.2.2.2.2.2.2.2.2.2.2.1)
               have HS15_ := (hb.cell (World.block_lt_of_cell? _ _ (hHeld.2.2.2.2.2.2.2.2.2.2.2.2.2.2.2.1))).trans (hHeld.2.2.2.2.2.2.2.2.2.2.2.2.2.2.2.1)
               have HS16_ := (hb.cell (World.block_lt_of_cell? _ _ (hHeld.2.2.2.2.2.2.2.2.2.2.2.2.2.2.2.2.1))).trans (hHeld.2.2.2.2.2.2.2.2.2.2.2.2.2.2.2.2.1)
               have HS17_ := (hb.cell (World.block_lt_of_cell? _ _ (hHeld.2.2.2.2.2.2.2.2.2.2.2.2.2.2.2.2.2.1))).trans (hHeld.2.2.2.2.2.2.2.2.2.2.2.2.2.2.2.2.2.1)
               have HS18_ := (hb.cell (World.block_lt_of_cell? _ _ (hHeld.2.2.2.2.2.2.2.2.2.2.2.2.2.2.2.2.2.2))).trans (hHeld.2.2.2.2.2.2.2.2.2.2.2.2.2.2.2.2.2.2)
               refine ⟨_, rfl, ?_⟩
               have n0_ := Aside0.mk (Kd.R_below (by (with_reducible repeat (first | apply Kd.R_alloc | apply Kd.R_drewN | apply Kd.R_drew)); exact HO_7.out) hb)
               have n1_ := Aside0.mk (Kd.R_below (by (with_reducible repeat (first | apply Kd.R_alloc | apply Kd.R_drewN | apply Kd.R_drew)); exact HO248.out) hb)
               have n2_ := Aside0.mk (Kd.R_below (by (with_reducible repeat (first | apply Kd.R_alloc | apply Kd.R_drewN | apply Kd.R_drew)); exact HO252.out) hb)
               have n3_ := Aside0.mk (Kd.R_below (by (with_reducible repeat (first | apply Kd.R_alloc | apply Kd.R_drewN | apply Kd.R_drew)); exact HO256.out) hb)
               have n4_ := Aside0.mk (blk_below (g := gb230) (by (with_reducible repeat (first | refine blk_drewN ?_ _ | refine blk_drew ?_ | refine blk_alloc ?_ _)); exact BK230.out) hb)
               have n5_ := Aside0.mk (below_step (by repeat (with_reducible first | exact HB.out | apply below_alloc | apply pw_below_drewN | apply below_drew1 | refine below_set ?_ GE230.out)) hb)
               clear HO_7
               clear HO248
               clear HO252
               clear HO256
               clear BK230
               clear HB
               have HO_7 := n0_
               have HO248 := n1_
               have HO252 := n2_
               have HO256 := n3_
               have BK230 := n4_
               have HB := n5_
               clear n0_ n1_ n2_ n3_ n4_ n5_
               (try clear hb)
               (try clear hb2)
               (try clear hk)
               (try clear hi)
               refine hK.out _ _ ⟨(blk_cell BK230.out 0).trans rfl, (blk_cell BK230.out 1).trans rfl, (blk_cell BK230.out 2).trans rfl, (blk_cell BK230.out 3).trans rfl, (blk_cell BK230.out 4).trans rfl, (blk_cell BK230.out 5).trans rfl, (blk_cell BK230.out 6).trans rfl, (blk_cell BK230.out 7).trans rfl, (blk_cell BK230.out 8).trans rfl, (blk_cell BK230.out 9).trans rfl, HS10_, HS11_, HS12_, HS13_, HS14_, HS15_, HS16_, HS17_, HS18_⟩ (fun hHeld => ?_)
               clear hK K
               refine norm_ (a' := ?_) ?_ ?_
               rotate_left
               ·show Act.put _ (some 131) _ = _
                simp only [Act.put, List.setIfInBounds_toArray, List.set_cons_zero, List.set_cons_succ, i64_w, i32_w]
                rfl
               refine pure_ (i := 37) (N := some 132) (v := ?_) (a' := ?_) #[true, true, true, true, true, true, true, true, true, true, true, true, true, true, true, true, true, true, true, true, true, true, true, true, true, true, true, true, true, true, true, true, true, true, true, true, true, true, false] rfl rfl (any_of HT_.out (by kernel_rfl)) (fun _ _ _ h => h) (Or.inl ⟨by rfl, ?_⟩) ?_ ?_
               rotate_left
               ·intro w'
                go_simp
                with_reducible rfl
               rotate_left
               ·simp only [Act.put, List.setIfInBounds_toArray, List.set_cons_zero, List.set_cons_succ, i64_w, i32_w]
                rfl
               refine pure_ (i := 38) (N := some 6) (v := ?_) (a' := ?_) #[true, true, true, true, true, true, true, true, true, true, true, true, true, true, true, true, true, true, true, true, true, true, true, true, true, true, true, true, true, true, true, true, true, true, true, true, true, true, true] rfl rfl (any_of HT_.out (by kernel_rfl)) (fun _ _ _ h => h) (Or.inl ⟨by rfl, ?_⟩) ?_ ?_
               rotate_left
               ·intro w'
                go_simp
                with_reducible rfl
               rotate_left
               ·simp only [Act.put, List.setIfInBounds_toArray, List.set_cons_zero, List.set_cons_succ, i64_w, i32_w]
                rfl
               refine done_ (done_of HT_.out (by kernel_rfl)) ?_
               try go_wp2
               go_ret
               exact ⟨by first | rfl | (simp [errW_none, errW_some] <;> rfl) | (simp only [← hji51]; first | rfl | (simp [errW_none, errW_some] <;> rfl)) | (simp [*, errW_none, errW_some] <;> rfl), by repeat (with_reducible first | exact HB.out | apply below_alloc | apply pw_below_drewN | apply below_drew1 | refine below_set ?_ GE230.out)⟩
              ·rw [if_neg c56] at H
               exact absurd H (by simp)
             ·rw [if_neg c54] at H
              exact absurd H (by simp)
            ·rw [if_neg c53] at H
             exact absurd H (by simp)
           ·rw [if_neg c52] at H
            exact absurd H (by simp)
          ·rw [if_neg c50] at H
           exact absurd H (by simp)
         ·rw [if_neg c49] at H
          exact absurd H (by simp)
        ·rw [if_neg c48] at H
         exact absurd H (by simp)
    ·rw [if_neg c14] at H
     have c14b0 : (t236 == 0) = false := beq_eq_false_iff_ne.mpr c14
     have c14b1 : (t236 != 0) = true := bne_iff_ne.mpr c14
     by_cases c69 : (t233.length : Int) = 0
     ·rw [if_pos c69] at H
      have c69b0 : ((t233.length : Int) == 0) = true := beq_iff_eq.mpr c69
      have c69b1 : ((t233.length : Int) != 0) = false := bne_eq_false_iff_eq.mpr c69
      clear c69
      replace H := Option.bind_eq_some_iff.mp H
      obtain ⟨t237, A700, H⟩ := H
      replace H : (some t237) = some r := H
      have A70 := Aside0.mk A700
      clear A700
      obtain rfl := Option.some.inj H
      have hcz71 := blk_cell BK230.out
      have hfz71 := blk_frozen BK230.out
      go_wp2_with (first | ((with_reducible refine gate_callee (f := 15) rfl ?_); refine goesL_ (some 35) rfl rfl Tryd.func15 (by kernel_rfl) rfl #[.slice A0 l0.length c0, .slice A1 l1.length c1, .agg #[.int .i64 a2_0, .int .i64 a2_1, .int .i64 a2_2, .int .i64 a2_3, .int .i64 a2_4, .int .i64 a2_5, .int .i64 a2_6, .int .i64 a2_7, .string a2_8], .int .i64 a2_9] rfl (by (try simp only [List.map_toArray, List.map_cons, List.map_nil]); first | done | rfl | (simp only [List.length_drop, List.length_take]; rfl)) ?_; (with_reducible refine (collect_Present.calls kj3 _ _ l0 _ _ l1 a2_0 a2_1 a2_2 a2_3 a2_4 a2_5 a2_6 a2_7 a2_8 a2_9 t233 t236 _ ?side1 ?side2 ?side3 ?side4 A13.out).mono ?_); (case side1 => repeat (first | exact (Kd.C_below HR0.out HB.out) | (with_reducible refine Kd.C_alloc ?_ _) | (with_reducible refine Kd.C_drewN ?_ _) | (with_reducible refine Kd.C_drew ?_))); (case side2 => exact HC0.out); (case side3 => repeat (first | exact (Kd.C_below HR1.out HB.out) | (with_reducible refine Kd.C_alloc ?_ _) | (with_reducible refine Kd.C_drewN ?_ _) | (with_reducible refine Kd.C_drew ?_))); (case side4 => exact HC1.out); rintro e w72 ⟨v234, rfl, ho0, hb⟩; refine ⟨_, rfl, ?_⟩; have n0_ := Aside0.mk (Kd.R_lower ho0 (below_size (by repeat (with_reducible first | exact HB.out | apply below_alloc | apply pw_below_drewN | apply below_drew1 | refine below_set ?_ GE230.out)))); have n1_ := Aside0.mk (blk_below (g := gb230) (by (with_reducible repeat (first | refine blk_drewN ?_ _ | refine blk_drew ?_ | refine blk_alloc ?_ _)); exact BK230.out) hb); have n2_ := Aside0.mk (below_step (by repeat (with_reducible first | exact HB.out | apply below_alloc | apply pw_below_drewN | apply below_drew1 | refine below_set ?_ GE230.out)) hb); clear BK230; clear HB; have HO235 := n0_; have BK230 := n1_; have HB := n2_; clear n0_ n1_ n2_; (try clear hb); (try clear hb2); (try clear hk); (try clear hi); (try clear ho0); obtain ⟨Ao73, co73, eo73⟩ := Kd.R_slice HO235.out; subst eo73) | (go_at_call 11; (with_reducible refine (corebanklaw42_lives.calls kj3  t237 _ ?sideV A70.out).mono ?_); (case sideV => exact VarOK.below HV.out (by repeat (with_reducible first | exact HB.out | apply below_alloc | apply pw_below_drewN | apply below_drew1 | refine below_set ?_ GE230.out))); rintro e w74 ⟨rfl, hb⟩; have n0_ := Aside0.mk (Kd.R_below (by (with_reducible repeat (first | apply Kd.R_alloc | apply Kd.R_drewN | apply Kd.R_drew)); exact HO235.out) hb); have n1_ := Aside0.mk (blk_below (g := gb230) (by (with_reducible repeat (first | refine blk_drewN ?_ _ | refine blk_drew ?_ | refine blk_alloc ?_ _)); exact BK230.out) hb); have n2_ := Aside0.mk (below_step (by repeat (with_reducible first | exact HB.out | apply below_alloc | apply pw_below_drewN | apply below_drew1 | refine below_set ?_ GE230.out)) hb); clear HO235; clear BK230; clear HB; have HO235 := n0_; have BK230 := n1_; have HB := n2_; clear n0_ n1_ n2_; (try clear hb); (try clear hb2); (try clear hk); (try clear hi)))
      go_ret
      exact ⟨by first | rfl | (simp [errW_none, errW_some] <;> rfl) | (simp [*, errW_none, errW_some] <;> rfl), by repeat (with_reducible first | exact HB.out | apply below_alloc | apply pw_below_drewN | apply below_drew1 | refine below_set ?_ GE230.out)⟩
     ·rw [if_neg c69] at H
      exact absurd H (by simp)

end Go.Proofs.YtfdjgdjmllkdcaaDoor.X
