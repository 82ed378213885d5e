-- Written by program (wip/tools/xprint.sh) for this seat; not trusted: Lean checks it.
import Derived.Test.YtfdjgdjmllkdcaaDoorX0
import Derived.Test.YtfdjgdjmllkdcaaDoorX20
import Derived.Test.YtfdjgdjmllkdcaaDoorX21
namespace Go.Proofs.YtfdjgdjmllkdcaaDoor.X
open Go.RowKit Go.Proofs.YtfdjgdjmllkdcaaDoorW.PrintWords Go.Proofs.YtfdjgdjmllkdcaaDoorW.PrintLast Go.Proofs.YtfdjgdjmllkdcaaDoorW.PrintMore
attribute [local go_sem] max2_int min2_int   -- for this text's walks alone
set_option linter.unusedVariables false
set_option linter.unusedSimpArgs false

def zb22_0 : Array Bool := bz 37 0
def zb22_1 : Array Bool := bz 37 1
def zb22_2 : Array Bool := bz 37 3
def zb22_3 : Array Bool := bz 37 7
def zb22_4 : Array Bool := bz 37 15
def zb22_5 : Array Bool := bz 37 31
def zb22_6 : Array Bool := bz 37 63
def zb22_7 : Array Bool := bz 37 127
def zb22_8 : Array Bool := bz 37 255
def zb22_9 : Array Bool := bz 37 511
def zb22_10 : Array Bool := bz 37 1023
def zb22_11 : Array Bool := bz 37 2047
def zb22_12 : Array Bool := bz 37 4095
def zb22_13 : Array Bool := bz 37 8191
def zb22_14 : Array Bool := bz 37 16383
def zb22_15 : Array Bool := bz 37 32767
def zb22_16 : Array Bool := bz 37 65535
def zb22_17 : Array Bool := bz 37 131071
def zb22_18 : Array Bool := bz 37 262143
def zb22_19 : Array Bool := bz 37 524287
def zb22_20 : Array Bool := bz 37 1048575
def zb22_21 : Array Bool := bz 37 3145727
def zb22_22 : Array Bool := bz 37 4194303
def zb22_23 : Array Bool := bz 37 8388607
def zb22_24 : Array Bool := bz 37 16777215
def zb22_25 : Array Bool := bz 37 33554431
def zb22_26 : Array Bool := bz 37 67108863
def zb22_27 : Array Bool := bz 37 134217727
def zb22_28 : Array Bool := bz 37 2147483647
def zb22_29 : Array Bool := bz 37 4294967295
def zb22_30 : Array Bool := bz 37 8589934591
def zb22_31 : Array Bool := bz 37 17179869183
def zb22_32 : Array Bool := bz 37 34359738367
def zb22_33 : Array Bool := bz 37 68719476735
def zb22_34 : Array Bool := bz 37 137438953471
def zb22_35 : Array Bool := bz 37 268435455
def zb22_36 : Array Bool := bz 37 536870911
def zb22_37 : Array Bool := bz 37 1073741823
def zb22_38 : Array Bool := bz 37 2097151
/-! ### corebankref42_fits: function 39 -/
def corebankref42_fits.f (k : Nat) (a0_0 : Int) (a0_1 : Int) (a0_2 : Int) (a0_3 : Int) (a0_4 : Int) (a0_5 : Int) (a0_6 : Int) (a0_7 : Int) (a0_8 : ByteArray) : Option (Bool) := if a0_7 = 1 then (if a0_4 = 0 then (if a0_5 = 0 then (some (a0_6 == 0)) else (some false)) else (some false)) else (if a0_7 = 2 then ((corebankref04_Valid.f a0_4).bind fun t263 => (if t263 = true then (if a0_5 = 0 then (some (a0_6 == 0)) else (some false)) else (some false))) else (if a0_7 = 3 then ((corebankref04_Valid.f a0_4).bind fun t264 => (if t264 = true then ((corebankref04_Valid.f a0_5).bind fun t265 => (if t265 = true then (if a0_6 ≥ 1 then (if a0_6 ≤ 4 then (if a0_5 ≥ a0_4 then ((corebankref42_Window.f k a0_6).bind fun t266 => (some (decide (a0_5 ≤ (wrap64 (a0_4 + t266)))))) else (some false)) else (some false)) else (some false)) else (some false))) else (some false))) else (if a0_7 = 4 then (if a0_4 = 0 then (if a0_5 = 0 then (if a0_6 ≥ 1 then (some (decide (a0_6 ≤ 3))) else (some false)) else (some false)) else (some false)) else (some false))))
theorem corebankref42_fits.mono : ∀ a0 a1 a2 a3 a4 a5 a6 a7 a8 k, LeO (corebankref42_fits.f k a0 a1 a2 a3 a4 a5 a6 a7 a8) (corebankref42_fits.f (k + 1) a0 a1 a2 a3 a4 a5 a6 a7 a8) := by
  intro a0 a1 a2 a3 a4 a5 a6 a7 a8 k
  unfold corebankref42_fits.f
  repeat' first
      | (with_reducible exact corebankref42_Window.mono _ _)
      | (with_reducible exact LeO.refl _)
      | (with_reducible exact LeO.none _)
      | (with_reducible refine LeO.ite ?_ ?_)
      | (with_reducible refine LeO.bind ?_ (fun _ => ?_))
      | exact corebankref42_Window.mono _ _
      | exact LeO.none _
      | refine LeO.ite ?_ ?_
      | refine LeO.bind ?_ (fun _ => ?_)
def corebankref42_fits.T7 : Bool × List (List Nat × List Nat) := (true, [([], []), ([0], [0]), ([1], [1]), ([2, 2], [2]), ([3], [3]), ([4, 3], [3, 4]), ([5, 3, 3], [3, 5]), ([3, 6], [3, 6]), ([7, 6], [7]), ([8], [8]), ([9, 8], [8, 9]), ([10, 8], [8, 10]), ([8, 11], [8, 11]), ([12, 8], [12]), ([13], [13]), ([14, 13], [13, 14]), ([15, 13], [13, 15]), ([13, 16], [13, 16]), ([17, 13], [17]), ([18], [18]), ([19, 18], [18, 19]), ([18], [18]), ([21, 18], [18, 21]), ([20, 22, 18], [18, 20, 22]), ([18, 23], [18, 23]), ([24, 18], [24]), ([25], [25]), ([26, 25], [25, 26]), ([25], [25]), ([28, 25], [25, 28]), ([25], [25]), ([30, 25], [25, 30]), ([31, 25, 25], [25, 31]), ([29, 32, 25], [25, 29, 32]), ([27, 33, 25], [25, 27, 33]), ([25, 34], [25, 34]), ([35, 32, 0, 1, 2, 3, 4, 5, 6, 7, 8, 9, 10, 11, 12, 13, 14, 15, 16, 17, 18, 19, 20, 21, 22, 23, 24, 25, 26, 27, 28, 29, 30, 31, 32, 33, 34, 35], [35])])
def corebankref42_fits.B7 : List Nat := [0, 1, 3, 7, 15, 31, 63, 127, 255, 511, 1023, 2047, 4095, 8191, 16383, 32767, 65535, 131071, 262143, 524287, 1048575, 524287, 2621439, 8388607, 16777215, 33554431, 67108863, 134217727, 67108863, 335544319, 67108863, 1140850687, 3288334335, 8388607999, 17179869183, 34359738367, 68719476735]
theorem corebankref42_fits.tab7 : rtab .any (opsOf Tryd.f39 7) = corebankref42_fits.T7 := by kernel_rfl
theorem corebankref42_fits.bits7 : waitsOk corebankref42_fits.T7.2 corebankref42_fits.B7 = true := by kernel_rfl
set_option maxHeartbeats 8000000 in
set_option maxRecDepth 100000 in
theorem corebankref42_fits.calls (k : Nat) (a0_0 : Int) (a0_1 : Int) (a0_2 : Int) (a0_3 : Int) (a0_4 : Int) (a0_5 : Int) (a0_6 : Int) (a0_7 : Int) (a0_8 : ByteArray) (r : Bool) (w : World) (h : corebankref42_fits.f k a0_0 a0_1 a0_2 a0_3 a0_4 a0_5 a0_6 a0_7 a0_8 = some r) :
  Calls Tryd.prog 39 #[.agg #[.int .i64 a0_0, .int .i64 a0_1, .int .i64 a0_2, .int .i64 a0_3, .int .i64 a0_4, .int .i64 a0_5, .int .i64 a0_6, .int .i64 a0_7, .string a0_8]] w fun e w' => e = .returned (.bool r) ∧ Below w.heap.size w w' := by
 have hu36 := Tryd.underlying36
 have HB := Aside0.mk (Below.refl w.heap.size w)
 have H : (if a0_7 = 1 then (if a0_4 = 0 then (if a0_5 = 0 then (some (a0_6 == 0)) else (some false)) else (some false)) else (if a0_7 = 2 then ((corebankref04_Valid.f a0_4).bind fun t263 => (if t263 = true then (if a0_5 = 0 then (some (a0_6 == 0)) else (some false)) else (some false))) else (if a0_7 = 3 then ((corebankref04_Valid.f a0_4).bind fun t264 => (if t264 = true then ((corebankref04_Valid.f a0_5).bind fun t265 => (if t265 = true then (if a0_6 ≥ 1 then (if a0_6 ≤ 4 then (if a0_5 ≥ a0_4 then ((corebankref42_Window.f k a0_6).bind fun t266 => (some (decide (a0_5 ≤ (wrap64 (a0_4 + t266)))))) else (some false)) else (some false)) else (some false)) else (some false))) else (some false))) else (if a0_7 = 4 then (if a0_4 = 0 then (if a0_5 = 0 then (if a0_6 ≥ 1 then (some (decide (a0_6 ≤ 3))) else (some false)) else (some false)) else (some false)) else (some false))))) = some r := h
 clear h
 by_cases c2 : a0_7 = 1
 ·rw [if_pos c2] at H
  have c2b0 : (a0_7 == 1) = true := beq_iff_eq.mpr c2
  have c2b1 : (a0_7 != 1) = false := bne_eq_false_iff_eq.mpr c2
  clear c2
  by_cases c3 : a0_4 = 0
  ·rw [if_pos c3] at H
   have c3b0 : (a0_4 == 0) = true := beq_iff_eq.mpr c3
   have c3b1 : (a0_4 != 0) = false := bne_eq_false_iff_eq.mpr c3
   clear c3
   by_cases c4 : a0_5 = 0
   ·rw [if_pos c4] at H
    have c4b0 : (a0_5 == 0) = true := beq_iff_eq.mpr c4
    have c4b1 : (a0_5 != 0) = false := bne_eq_false_iff_eq.mpr c4
    clear c4
    obtain rfl := Option.some.inj H
    go_enter Tryd.func39, Tryd.ntmps39
    go_wp2_with (first | ((with_reducible refine gate_dst (N := 1) rfl ?_); refine box_event ?hg (N := 1) ?hd (cs := #[.int .i64 a0_0, .int .i64 a0_1, .int .i64 a0_2, .int .i64 a0_3, .int .i64 a0_4, .int .i64 a0_5, .int .i64 a0_6, .int .i64 a0_7, .string a0_8]) (t := 36) ?hr ?_; (case hd => rfl); (case hg => rfl); (case hr => first | (go_simp; done) | (go_simp; rfl)); intro gb262 hg w5 hbox hb; have n0_ := Aside0.mk (below_step (by repeat (with_reducible first | exact HB.out | apply below_alloc | apply pw_below_drewN | apply below_drew1)) hb); have n1_ := Aside0.mk (hbox); have n2_ := Aside0.mk ((by rw [hg]; exact (below_size (by repeat (with_reducible first | exact HB.out | apply below_alloc | apply pw_below_drewN | apply below_drew1))) : w.heap.size ≤ gb262)); have n3_ := n2_; clear HB; have HB := n0_; have BK262 := n1_; have GW262 := n2_; have GE262 := n3_; clear n0_ n1_ n2_ n3_; clear hb hbox hg; have hcz6 := blk_cell BK262.out))
    go_ret
    exact ⟨by first | rfl | (simp [errW_none, errW_some] <;> rfl) | (simp [*, errW_none, errW_some] <;> rfl), by repeat (with_reducible first | exact HB.out | apply below_alloc | apply pw_below_drewN | apply below_drew1 | refine below_set ?_ GE262.out)⟩
   ·rw [if_neg c4] at H
    have c4b0 : (a0_5 == 0) = false := beq_eq_false_iff_ne.mpr c4
    have c4b1 : (a0_5 != 0) = true := bne_iff_ne.mpr c4
    obtain rfl := Option.some.inj H
    go_enter Tryd.func39, Tryd.ntmps39
    go_wp2_with (first | ((with_reducible refine gate_dst (N := 1) rfl ?_); refine box_event ?hg (N := 1) ?hd (cs := #[.int .i64 a0_0, .int .i64 a0_1, .int .i64 a0_2, .int .i64 a0_3, .int .i64 a0_4, .int .i64 a0_5, .int .i64 a0_6, .int .i64 a0_7, .string a0_8]) (t := 36) ?hr ?_; (case hd => rfl); (case hg => rfl); (case hr => first | (go_simp; done) | (go_simp; rfl)); intro gb262 hg w7 hbox hb; have n0_ := Aside0.mk (below_step (by repeat (with_reducible first | exact HB.out | apply below_alloc | apply pw_below_drewN | apply below_drew1)) hb); have n1_ := Aside0.mk (hbox); have n2_ := Aside0.mk ((by rw [hg]; exact (below_size (by repeat (with_reducible first | exact HB.out | apply below_alloc | apply pw_below_drewN | apply below_drew1))) : w.heap.size ≤ gb262)); have n3_ := n2_; clear HB; have HB := n0_; have BK262 := n1_; have GW262 := n2_; have GE262 := n3_; clear n0_ n1_ n2_ n3_; clear hb hbox hg; have hcz8 := blk_cell BK262.out))
    go_ret
    exact ⟨by first | rfl | (simp [errW_none, errW_some] <;> rfl) | (simp [*, errW_none, errW_some] <;> rfl), by repeat (with_reducible first | exact HB.out | apply below_alloc | apply pw_below_drewN | apply below_drew1 | refine below_set ?_ GE262.out)⟩
  ·rw [if_neg c3] at H
   have c3b0 : (a0_4 == 0) = false := beq_eq_false_iff_ne.mpr c3
   have c3b1 : (a0_4 != 0) = true := bne_iff_ne.mpr c3
   obtain rfl := Option.some.inj H
   go_enter Tryd.func39, Tryd.ntmps39
   go_wp2_with (first | ((with_reducible refine gate_dst (N := 1) rfl ?_); refine box_event ?hg (N := 1) ?hd (cs := #[.int .i64 a0_0, .int .i64 a0_1, .int .i64 a0_2, .int .i64 a0_3, .int .i64 a0_4, .int .i64 a0_5, .int .i64 a0_6, .int .i64 a0_7, .string a0_8]) (t := 36) ?hr ?_; (case hd => rfl); (case hg => rfl); (case hr => first | (go_simp; done) | (go_simp; rfl)); intro gb262 hg w9 hbox hb; have n0_ := Aside0.mk (below_step (by repeat (with_reducible first | exact HB.out | apply below_alloc | apply pw_below_drewN | apply below_drew1)) hb); have n1_ := Aside0.mk (hbox); have n2_ := Aside0.mk ((by rw [hg]; exact (below_size (by repeat (with_reducible first | exact HB.out | apply below_alloc | apply pw_below_drewN | apply below_drew1))) : w.heap.size ≤ gb262)); have n3_ := n2_; clear HB; have HB := n0_; have BK262 := n1_; have GW262 := n2_; have GE262 := n3_; clear n0_ n1_ n2_ n3_; clear hb hbox hg; have hcz10 := blk_cell BK262.out))
   go_ret
   exact ⟨by first | rfl | (simp [errW_none, errW_some] <;> rfl) | (simp [*, errW_none, errW_some] <;> rfl), by repeat (with_reducible first | exact HB.out | apply below_alloc | apply pw_below_drewN | apply below_drew1 | refine below_set ?_ GE262.out)⟩
 ·rw [if_neg c2] at H
  have c2b0 : (a0_7 == 1) = false := beq_eq_false_iff_ne.mpr c2
  have c2b1 : (a0_7 != 1) = true := bne_iff_ne.mpr c2
  by_cases c11 : a0_7 = 2
  ·rw [if_pos c11] at H
   have c11b0 : (a0_7 == 2) = true := beq_iff_eq.mpr c11
   have c11b1 : (a0_7 != 2) = false := bne_eq_false_iff_eq.mpr c11
   clear c11
   replace H := Option.bind_eq_some_iff.mp H
   obtain ⟨t263, A120, H⟩ := H
   replace H : (if t263 = true then (if a0_5 = 0 then (some (a0_6 == 0)) else (some false)) else (some false)) = some r := H
   have A12 := Aside0.mk A120
   clear A120
   by_cases c13 : t263 = true
   ·subst c13
    have H1 : (if a0_5 = 0 then (some (a0_6 == 0)) else (some false)) = some r := by rw [if_pos rfl] at H; exact H
    clear H
    have H := H1
    clear H1
    by_cases c14 : a0_5 = 0
    ·rw [if_pos c14] at H
     have c14b0 : (a0_5 == 0) = true := beq_iff_eq.mpr c14
     have c14b1 : (a0_5 != 0) = false := bne_eq_false_iff_eq.mpr c14
     clear c14
     obtain rfl := Option.some.inj H
     go_enter Tryd.func39, Tryd.ntmps39
     go_wp2_with (first | ((with_reducible refine gate_dst (N := 1) rfl ?_); refine box_event ?hg (N := 1) ?hd (cs := #[.int .i64 a0_0, .int .i64 a0_1, .int .i64 a0_2, .int .i64 a0_3, .int .i64 a0_4, .int .i64 a0_5, .int .i64 a0_6, .int .i64 a0_7, .string a0_8]) (t := 36) ?hr ?_; (case hd => rfl); (case hg => rfl); (case hr => first | (go_simp; done) | (go_simp; rfl)); intro gb262 hg w15 hbox hb; have n0_ := Aside0.mk (below_step (by repeat (with_reducible first | exact HB.out | apply below_alloc | apply pw_below_drewN | apply below_drew1)) hb); have n1_ := Aside0.mk (hbox); have n2_ := Aside0.mk ((by rw [hg]; exact (below_size (by repeat (with_reducible first | exact HB.out | apply below_alloc | apply pw_below_drewN | apply below_drew1))) : w.heap.size ≤ gb262)); have n3_ := n2_; clear HB; have HB := n0_; have BK262 := n1_; have GW262 := n2_; have GE262 := n3_; clear n0_ n1_ n2_ n3_; clear hb hbox hg; have hcz16 := blk_cell BK262.out) | ((with_reducible refine gate_callee (f := 41) rfl ?_); refine goesL_ (some 24) rfl rfl Tryd.func41 (by kernel_rfl) rfl #[.int .i64 a0_4] rfl (by (try simp only [List.map_toArray, List.map_cons, List.map_nil]); first | done | rfl | (simp only [List.length_drop, List.length_take]; rfl)) ?_; (with_reducible refine (corebankref04_Valid.calls a0_4 true _ A12.out).mono ?_); rintro e w' ⟨rfl, ⟨nd, rfl⟩⟩; refine ⟨_, rfl, ?_⟩))
     go_ret
     exact ⟨by first | rfl | (simp [errW_none, errW_some] <;> rfl) | (simp [*, errW_none, errW_some] <;> rfl), by repeat (with_reducible first | exact HB.out | apply below_alloc | apply pw_below_drewN | apply below_drew1 | refine below_set ?_ GE262.out)⟩
    ·rw [if_neg c14] at H
     have c14b0 : (a0_5 == 0) = false := beq_eq_false_iff_ne.mpr c14
     have c14b1 : (a0_5 != 0) = true := bne_iff_ne.mpr c14
     obtain rfl := Option.some.inj H
     go_enter Tryd.func39, Tryd.ntmps39
     go_wp2_with (first | ((with_reducible refine gate_dst (N := 1) rfl ?_); refine box_event ?hg (N := 1) ?hd (cs := #[.int .i64 a0_0, .int .i64 a0_1, .int .i64 a0_2, .int .i64 a0_3, .int .i64 a0_4, .int .i64 a0_5, .int .i64 a0_6, .int .i64 a0_7, .string a0_8]) (t := 36) ?hr ?_; (case hd => rfl); (case hg => rfl); (case hr => first | (go_simp; done) | (go_simp; rfl)); intro gb262 hg w17 hbox hb; have n0_ := Aside0.mk (below_step (by repeat (with_reducible first | exact HB.out | apply below_alloc | apply pw_below_drewN | apply below_drew1)) hb); have n1_ := Aside0.mk (hbox); have n2_ := Aside0.mk ((by rw [hg]; exact (below_size (by repeat (with_reducible first | exact HB.out | apply below_alloc | apply pw_below_drewN | apply below_drew1))) : w.heap.size ≤ gb262)); have n3_ := n2_; clear HB; have HB := n0_; have BK262 := n1_; have GW262 := n2_; have GE262 := n3_; clear n0_ n1_ n2_ n3_; clear hb hbox hg; have hcz18 := blk_cell BK262.out) | ((with_reducible refine gate_callee (f := 41) rfl ?_); refine goesL_ (some 24) rfl rfl Tryd.func41 (by kernel_rfl) rfl #[.int .i64 a0_4] rfl (by (try simp only [List.map_toArray, List.map_cons, List.map_nil]); first | done | rfl | (simp only [List.length_drop, List.length_take]; rfl)) ?_; (with_reducible refine (corebankref04_Valid.calls a0_4 true _ A12.out).mono ?_); rintro e w' ⟨rfl, ⟨nd, rfl⟩⟩; refine ⟨_, rfl, ?_⟩))
     go_ret
     exact ⟨by first | rfl | (simp [errW_none, errW_some] <;> rfl) | (simp [*, errW_none, errW_some] <;> rfl), by repeat (with_reducible first | exact HB.out | apply below_alloc | apply pw_below_drewN | apply below_drew1 | refine below_set ?_ GE262.out)⟩
   ·replace c13 := Bool.eq_false_iff.mpr c13
    subst c13
    have H1 : (some false) = some r := by rw [if_neg (show ¬ (false = true) by decide)] at H; exact H
    clear H
    have H := H1
    clear H1
    obtain rfl := Option.some.inj H
    go_enter Tryd.func39, Tryd.ntmps39
    go_wp2_with (first | ((with_reducible refine gate_dst (N := 1) rfl ?_); refine box_event ?hg (N := 1) ?hd (cs := #[.int .i64 a0_0, .int .i64 a0_1, .int .i64 a0_2, .int .i64 a0_3, .int .i64 a0_4, .int .i64 a0_5, .int .i64 a0_6, .int .i64 a0_7, .string a0_8]) (t := 36) ?hr ?_; (case hd => rfl); (case hg => rfl); (case hr => first | (go_simp; done) | (go_simp; rfl)); intro gb262 hg w19 hbox hb; have n0_ := Aside0.mk (below_step (by repeat (with_reducible first | exact HB.out | apply below_alloc | apply pw_below_drewN | apply below_drew1)) hb); have n1_ := Aside0.mk (hbox); have n2_ := Aside0.mk ((by rw [hg]; exact (below_size (by repeat (with_reducible first | exact HB.out | apply below_alloc | apply pw_below_drewN | apply below_drew1))) : w.heap.size ≤ gb262)); have n3_ := n2_; clear HB; have HB := n0_; have BK262 := n1_; have GW262 := n2_; have GE262 := n3_; clear n0_ n1_ n2_ n3_; clear hb hbox hg; have hcz20 := blk_cell BK262.out) | ((with_reducible refine gate_callee (f := 41) rfl ?_); refine goesL_ (some 24) rfl rfl Tryd.func41 (by kernel_rfl) rfl #[.int .i64 a0_4] rfl (by (try simp only [List.map_toArray, List.map_cons, List.map_nil]); first | done | rfl | (simp only [List.length_drop, List.length_take]; rfl)) ?_; (with_reducible refine (corebankref04_Valid.calls a0_4 false _ A12.out).mono ?_); rintro e w' ⟨rfl, ⟨nd, rfl⟩⟩; refine ⟨_, rfl, ?_⟩))
    go_ret
    exact ⟨by first | rfl | (simp [errW_none, errW_some] <;> rfl) | (simp [*, errW_none, errW_some] <;> rfl), by repeat (with_reducible first | exact HB.out | apply below_alloc | apply pw_below_drewN | apply below_drew1 | refine below_set ?_ GE262.out)⟩
  ·rw [if_neg c11] at H
   have c11b0 : (a0_7 == 2) = false := beq_eq_false_iff_ne.mpr c11
   have c11b1 : (a0_7 != 2) = true := bne_iff_ne.mpr c11
   by_cases c21 : a0_7 = 3
   ·rw [if_pos c21] at H
    have c21b0 : (a0_7 == 3) = true := beq_iff_eq.mpr c21
    have c21b1 : (a0_7 != 3) = false := bne_eq_false_iff_eq.mpr c21
    clear c21
    replace H := Option.bind_eq_some_iff.mp H
    obtain ⟨t264, A220, H⟩ := H
    replace H : (if t264 = true then ((corebankref04_Valid.f a0_5).bind fun t265 => (if t265 = true then (if a0_6 ≥ 1 then (if a0_6 ≤ 4 then (if a0_5 ≥ a0_4 then ((corebankref42_Window.f k a0_6).bind fun t266 => (some (decide (a0_5 ≤ (wrap64 (a0_4 + t266)))))) else (some false)) else (some false)) else (some false)) else (some false))) else (some false)) = some r := H
    have A22 := Aside0.mk A220
    clear A220
    by_cases c23 : t264 = true
    ·subst c23
     have H1 : ((corebankref04_Valid.f a0_5).bind fun t265 => (if t265 = true then (if a0_6 ≥ 1 then (if a0_6 ≤ 4 then (if a0_5 ≥ a0_4 then ((corebankref42_Window.f k a0_6).bind fun t266 => (some (decide (a0_5 ≤ (wrap64 (a0_4 + t266)))))) else (some false)) else (some false)) else (some false)) else (some false))) = some r := by rw [if_pos rfl] at H; exact H
     clear H
     have H := H1
     clear H1
     replace H := Option.bind_eq_some_iff.mp H
     obtain ⟨t265, A240, H⟩ := H
     replace H : (if t265 = true then (if a0_6 ≥ 1 then (if a0_6 ≤ 4 then (if a0_5 ≥ a0_4 then ((corebankref42_Window.f k a0_6).bind fun t266 => (some (decide (a0_5 ≤ (wrap64 (a0_4 + t266)))))) else (some false)) else (some false)) else (some false)) else (some false)) = some r := H
     have A24 := Aside0.mk A240
     clear A240
     by_cases c25 : t265 = true
     ·subst c25
      have H1 : (if a0_6 ≥ 1 then (if a0_6 ≤ 4 then (if a0_5 ≥ a0_4 then ((corebankref42_Window.f k a0_6).bind fun t266 => (some (decide (a0_5 ≤ (wrap64 (a0_4 + t266)))))) else (some false)) else (some false)) else (some false)) = some r := by rw [if_pos rfl] at H; exact H
      clear H
      have H := H1
      clear H1
      by_cases c26 : a0_6 ≥ 1
      ·rw [if_pos c26] at H
       have c26b0 : decide (1 ≤ a0_6) = true := decide_eq_true c26
       clear c26
       by_cases c27 : a0_6 ≤ 4
       ·rw [if_pos c27] at H
        have c27b0 : decide (a0_6 ≤ 4) = true := decide_eq_true c27
        clear c27
        by_cases c28 : a0_5 ≥ a0_4
        ·rw [if_pos c28] at H
         have c28b0 : decide (a0_4 ≤ a0_5) = true := decide_eq_true c28
         clear c28
         replace H := Option.bind_eq_some_iff.mp H
         obtain ⟨t266, A290, H⟩ := H
         replace H : (some (decide (a0_5 ≤ (wrap64 (a0_4 + t266))))) = some r := H
         have A29 := Aside0.mk A290
         clear A290
         obtain rfl := Option.some.inj H
         go_enter Tryd.func39, Tryd.ntmps39
         try go_wp2_with (first | ((with_reducible refine gate_dst (N := 1) rfl ?_); refine box_event ?hg (N := 1) ?hd (cs := #[.int .i64 a0_0, .int .i64 a0_1, .int .i64 a0_2, .int .i64 a0_3, .int .i64 a0_4, .int .i64 a0_5, .int .i64 a0_6, .int .i64 a0_7, .string a0_8]) (t := 36) ?hr ?_; (case hd => rfl); (case hg => rfl); (case hr => first | (go_simp; done) | (go_simp; rfl)); intro gb262 hg w30 hbox hb; have n0_ := Aside0.mk (below_step (by repeat (with_reducible first | exact HB.out | apply below_alloc | apply pw_below_drewN | apply below_drew1)) hb); have n1_ := Aside0.mk (hbox); have n2_ := Aside0.mk ((by rw [hg]; exact (below_size (by repeat (with_reducible first | exact HB.out | apply below_alloc | apply pw_below_drewN | apply below_drew1))) : w.heap.size ≤ gb262)); have n3_ := n2_; clear HB; have HB := n0_; have BK262 := n1_; have GW262 := n2_; have GE262 := n3_; clear n0_ n1_ n2_ n3_; clear hb hbox hg; have hcz31 := blk_cell BK262.out))
         have n0_ := Aside0.mk (blk_drew BK262.out)
         have n1_ := Aside0.mk (below_drew1 HB.out)
         clear BK262
         clear HB
         have BK262 := n0_
         have HB := n1_
         clear n0_ n1_
         refine start_ (n := 37) (S := fun w' => w'.cell? ⟨gb262, 0, none⟩ = some (.int .i64 a0_0) ∧ w'.cell? ⟨gb262, 1, none⟩ = some (.int .i64 a0_1) ∧ w'.cell? ⟨gb262, 2, none⟩ = some (.int .i64 a0_2) ∧ w'.cell? ⟨gb262, 3, none⟩ = some (.int .i64 a0_3) ∧ w'.cell? ⟨gb262, 4, none⟩ = some (.int .i64 a0_4) ∧ w'.cell? ⟨gb262, 5, none⟩ = some (.int .i64 a0_5) ∧ w'.cell? ⟨gb262, 6, none⟩ = some (.int .i64 a0_6) ∧ w'.cell? ⟨gb262, 7, none⟩ = some (.int .i64 a0_7) ∧ w'.cell? ⟨gb262, 8, none⟩ = some (.string a0_8)) (ds := []) zb22_0 (by kernel_rfl) rfl rfl ⟨(blk_cell BK262.out 0).trans rfl, (blk_cell BK262.out 1).trans rfl, (blk_cell BK262.out 2).trans rfl, (blk_cell BK262.out 3).trans rfl, (blk_cell BK262.out 4).trans rfl, (blk_cell BK262.out 5).trans rfl, (blk_cell BK262.out 6).trans rfl, (blk_cell BK262.out 7).trans rfl, (blk_cell BK262.out 8).trans rfl⟩ (fun hHeld => ?_); refine with_tabW corebankref42_fits.tab7 corebankref42_fits.bits7 (fun HT_ HW_ => ?_)
         generalize w30.drew = w32 at BK262 HB hHeld ⊢
         refine pV 0 37 zb22_1 rfl rfl HT_.out (by kernel_rfl) (fun _ _ _ h => h) (Or.inl ⟨by rfl, by intro w'; go_simp; with_reducible rfl⟩) (by simp only [zA, zS, zC, zD, i64_w, i32_w]; rfl) ?_
         refine take_ (i := 1) (N := some 38) (v := ?_) (a' := ?_) zb22_2 rfl rfl (take_ofW HT_.out HW_.out (by kernel_rfl)) (fun _ _ _ h => h) (Or.inl ⟨by rfl, ?_⟩) hHeld ?_ ?_
         rotate_left
         ·rintro w' ⟨s0, s1, s2, s3, s4, s5, s6, s7, s8⟩
          go_simp
          with_reducible rfl
         rotate_left
         ·simp only [Act.put, List.setIfInBounds_toArray, List.set_cons_zero, List.set_cons_succ, i64_w, i32_w]
          rfl
         refine one_ (i := 2) (N := some 39) zb22_3 rfl rfl (one_of HT_.out (by kernel_rfl)) (by decide) (fun K hK => ?_)
         refine goes_ Tryd.func41 (by kernel_rfl) rfl #[.int .i64 a0_4] (by rfl) rfl rfl (by (try simp only [List.map_toArray, List.map_cons, List.map_nil]); first | done | rfl | (simp only [List.length_drop, List.length_take]; rfl)) ?_
         with_reducible refine (corebankref04_Valid.calls a0_4 true _ A22.out).mono ?_
         rintro e w' ⟨rfl, ⟨nd, rfl⟩⟩
         refine ⟨_, rfl, ?_⟩
         refine hK.out _ _ ⟨(blk_cell BK262.out 0).trans rfl, (blk_cell BK262.out 1).trans rfl, (blk_cell BK262.out 2).trans rfl, (blk_cell BK262.out 3).trans rfl, (blk_cell BK262.out 4).trans rfl, (blk_cell BK262.out 5).trans rfl, (blk_cell BK262.out 6).trans rfl, (blk_cell BK262.out 7).trans rfl, (blk_cell BK262.out 8).trans rfl⟩ (fun hHeld => ?_)
         clear hK K
         refine norm_ (a' := ?_) ?_ ?_
         rotate_left
         ·show Act.put _ (some 39) _ = _
          simp only [Act.put, List.setIfInBounds_toArray, List.set_cons_zero, List.set_cons_succ, i64_w, i32_w]
          rfl
         refine pV 3 40 zb22_4 rfl rfl HT_.out (by kernel_rfl) (fun _ _ _ h => h) (Or.inl ⟨by rfl, by intro w'; go_simp; with_reducible rfl⟩) (by simp only [zA, zS, zC, zD, i64_w, i32_w]; rfl) ?_
         refine pV 4 41 zb22_5 rfl rfl HT_.out (by kernel_rfl) (fun _ _ _ h => h) (Or.inl ⟨by rfl, by intro w'; go_simp; with_reducible rfl⟩) (by simp only [zA, zS, zC, zD, i64_w, i32_w]; rfl) ?_
         refine take_ (i := 5) (N := some 42) (v := ?_) (a' := ?_) zb22_6 rfl rfl (take_ofW HT_.out HW_.out (by kernel_rfl)) (fun _ _ _ h => h) (Or.inl ⟨by rfl, ?_⟩) hHeld ?_ ?_
         rotate_left
         ·rintro w' ⟨s0, s1, s2, s3, s4, s5, s6, s7, s8⟩
          go_simp
          with_reducible rfl
         rotate_left
         ·simp only [Act.put, List.setIfInBounds_toArray, List.set_cons_zero, List.set_cons_succ, i64_w, i32_w]
          rfl
         refine one_ (i := 6) (N := some 43) zb22_7 rfl rfl (one_of HT_.out (by kernel_rfl)) (by decide) (fun K hK => ?_)
         refine goes_ Tryd.func41 (by kernel_rfl) rfl #[.int .i64 a0_5] (by rfl) rfl rfl (by (try simp only [List.map_toArray, List.map_cons, List.map_nil]); first | done | rfl | (simp only [List.length_drop, List.length_take]; rfl)) ?_
         with_reducible refine (corebankref04_Valid.calls a0_5 true _ A24.out).mono ?_
         rintro e w' ⟨rfl, ⟨nd, rfl⟩⟩
         refine ⟨_, rfl, ?_⟩
         refine hK.out _ _ ⟨(blk_cell BK262.out 0).trans rfl, (blk_cell BK262.out 1).trans rfl, (blk_cell BK262.out 2).trans rfl, (blk_cell BK262.out 3).trans rfl, (blk_cell BK262.out 4).trans rfl, (blk_cell BK262.out 5).trans rfl, (blk_cell BK262.out 6).trans rfl, (blk_cell BK262.out 7).trans rfl, (blk_cell BK262.out 8).trans rfl⟩ (fun hHeld => ?_)
         clear hK K
         refine norm_ (a' := ?_) ?_ ?_
         rotate_left
         ·show Act.put _ (some 43) _ = _
          simp only [Act.put, List.setIfInBounds_toArray, List.set_cons_zero, List.set_cons_succ, i64_w, i32_w]
          rfl
         refine pV 7 44 zb22_8 rfl rfl HT_.out (by kernel_rfl) (fun _ _ _ h => h) (Or.inl ⟨by rfl, by intro w'; go_simp; with_reducible rfl⟩) (by simp only [zA, zS, zC, zD, i64_w, i32_w]; rfl) ?_
         refine pV 8 45 zb22_9 rfl rfl HT_.out (by kernel_rfl) (fun _ _ _ h => h) (Or.inl ⟨by rfl, by intro w'; go_simp; with_reducible rfl⟩) (by simp only [zA, zS, zC, zD, i64_w, i32_w]; rfl) ?_
         refine pV 9 46 zb22_10 rfl rfl HT_.out (by kernel_rfl) (fun _ _ _ h => h) (Or.inl ⟨by rfl, by intro w'; go_simp; with_reducible rfl⟩) (by simp only [zA, zS, zC, zD, i64_w, i32_w]; rfl) ?_
         refine take_ (i := 10) (N := some 47) (v := ?_) (a' := ?_) zb22_11 rfl rfl (take_ofW HT_.out HW_.out (by kernel_rfl)) (fun _ _ _ h => h) (Or.inl ⟨by rfl, ?_⟩) hHeld ?_ ?_
         rotate_left
         ·rintro w' ⟨s0, s1, s2, s3, s4, s5, s6, s7, s8⟩
          go_simp
          with_reducible rfl
         rotate_left
         ·simp only [Act.put, List.setIfInBounds_toArray, List.set_cons_zero, List.set_cons_succ, i64_w, i32_w]
          rfl
         refine pV 11 48 zb22_12 rfl rfl HT_.out (by kernel_rfl) (fun _ _ _ h => h) (Or.inl ⟨by rfl, by intro w'; go_simp; with_reducible rfl⟩) (by simp only [zA, zS, zC, zD, i64_w, i32_w]; rfl) ?_
         refine pV 12 49 zb22_13 rfl rfl HT_.out (by kernel_rfl) (fun _ _ _ h => h) (Or.inl ⟨by rfl, by intro w'; go_simp; with_reducible rfl⟩) (by simp only [zA, zS, zC, zD, i64_w, i32_w]; rfl) ?_
         refine pV 13 50 zb22_14 rfl rfl HT_.out (by kernel_rfl) (fun _ _ _ h => h) (Or.inl ⟨by rfl, by intro w'; go_simp; with_reducible rfl⟩) (by simp only [zA, zS, zC, zD, i64_w, i32_w]; rfl) ?_
         refine pV 14 51 zb22_15 rfl rfl HT_.out (by kernel_rfl) (fun _ _ _ h => h) (Or.inl ⟨by rfl, by intro w'; go_simp; with_reducible rfl⟩) (by simp only [zA, zS, zC, zD, i64_w, i32_w]; rfl) ?_
         refine take_ (i := 15) (N := some 52) (v := ?_) (a' := ?_) zb22_16 rfl rfl (take_ofW HT_.out HW_.out (by kernel_rfl)) (fun _ _ _ h => h) (Or.inl ⟨by rfl, ?_⟩) hHeld ?_ ?_
         rotate_left
         ·rintro w' ⟨s0, s1, s2, s3, s4, s5, s6, s7, s8⟩
          go_simp
          with_reducible rfl
         rotate_left
         ·simp only [Act.put, List.setIfInBounds_toArray, List.set_cons_zero, List.set_cons_succ, i64_w, i32_w]
          rfl
         refine pV 16 53 zb22_17 rfl rfl HT_.out (by kernel_rfl) (fun _ _ _ h => h) (Or.inl ⟨by rfl, by intro w'; go_simp; with_reducible rfl⟩) (by simp only [zA, zS, zC, zD, i64_w, i32_w]; rfl) ?_
         refine pV 17 54 zb22_18 rfl rfl HT_.out (by kernel_rfl) (fun _ _ _ h => h) (Or.inl ⟨by rfl, by intro w'; go_simp; with_reducible rfl⟩) (by simp only [zA, zS, zC, zD, i64_w, i32_w]; rfl) ?_
         refine pV 18 55 zb22_19 rfl rfl HT_.out (by kernel_rfl) (fun _ _ _ h => h) (Or.inl ⟨by rfl, by intro w'; go_simp; with_reducible rfl⟩) (by simp only [zA, zS, zC, zD, i64_w, i32_w]; rfl) ?_
         refine pV 19 56 zb22_20 rfl rfl HT_.out (by kernel_rfl) (fun _ _ _ h => h) (Or.inl ⟨by rfl, by intro w'; go_simp; with_reducible rfl⟩) (by simp only [zA, zS, zC, zD, i64_w, i32_w]; rfl) ?_
         refine pV 21 58 zb22_21 rfl rfl HT_.out (by kernel_rfl) (fun _ _ _ h => h) (Or.inl ⟨by rfl, by intro w'; go_simp; with_reducible rfl⟩) (by simp only [zA, zS, zC, zD, i64_w, i32_w]; rfl) ?_
         refine take_ (i := 20) (N := some 57) (v := ?_) (a' := ?_) zb22_22 rfl rfl (take_ofW HT_.out HW_.out (by kernel_rfl)) (fun _ _ _ h => h) (Or.inl ⟨by rfl, ?_⟩) hHeld ?_ ?_
         rotate_left
         ·rintro w' ⟨s0, s1, s2, s3, s4, s5, s6, s7, s8⟩
          go_simp
          with_reducible rfl
         rotate_left
         ·simp only [Act.put, List.setIfInBounds_toArray, List.set_cons_zero, List.set_cons_succ, i64_w, i32_w]
          rfl
         refine take_ (i := 22) (N := some 59) (v := ?_) (a' := ?_) zb22_23 rfl rfl (take_ofW HT_.out HW_.out (by kernel_rfl)) (fun _ _ _ h => h) (Or.inl ⟨by rfl, ?_⟩) hHeld ?_ ?_
         rotate_left
         ·rintro w' ⟨s0, s1, s2, s3, s4, s5, s6, s7, s8⟩
          go_simp
          with_reducible rfl
         rotate_left
         ·simp only [Act.put, List.setIfInBounds_toArray, List.set_cons_zero, List.set_cons_succ, i64_w, i32_w]
          rfl
         refine pV 23 60 zb22_24 rfl rfl HT_.out (by kernel_rfl) (fun _ _ _ h => h) (Or.inl ⟨by rfl, by intro w'; go_simp; with_reducible rfl⟩) (by simp only [zA, zS, zC, zD, i64_w, i32_w]; rfl) ?_
         refine pV 24 61 zb22_25 rfl rfl HT_.out (by kernel_rfl) (fun _ _ _ h => h) (Or.inl ⟨by rfl, by intro w'; go_simp; with_reducible rfl⟩) (by simp only [zA, zS, zC, zD, i64_w, i32_w]; rfl) ?_
         refine pV 25 62 zb22_26 rfl rfl HT_.out (by kernel_rfl) (fun _ _ _ h => h) (Or.inl ⟨by rfl, by intro w'; go_simp; with_reducible rfl⟩) (by simp only [zA, zS, zC, zD, i64_w, i32_w]; rfl) ?_
         refine pV 26 63 zb22_27 rfl rfl HT_.out (by kernel_rfl) (fun _ _ _ h => h) (Or.inl ⟨by rfl, by intro w'; go_simp; with_reducible rfl⟩) (by simp only [zA, zS, zC, zD, i64_w, i32_w]; rfl) ?_
         refine pure_ (i := 28) (N := some 65) (v := ?_) (a' := ?_) #[true, true, true, true, true, true, true, true, true, true, true, true, true, true, true, true, true, true, true, true, true, true, true, true, true, true, true, false, true, false, false, false, false, false, false, false, false] rfl rfl (any_of HT_.out (by kernel_rfl)) (fun _ _ _ h => h) (Or.inl ⟨by rfl, ?_⟩) ?_ ?_
         rotate_left
         ·intro w'
          go_simp
          with_reducible rfl
         rotate_left
         ·simp only [Act.put, List.setIfInBounds_toArray, List.set_cons_zero, List.set_cons_succ, i64_w, i32_w]
          rfl
         refine pure_ (i := 30) (N := some 67) (v := ?_) (a' := ?_) #[true, true, true, true, true, true, true, true, true, true, true, true, true, true, true, true, true, true, true, true, true, true, true, true, true, true, true, false, true, false, true, false, false, false, false, false, false] rfl rfl (any_of HT_.out (by kernel_rfl)) (fun _ _ _ h => h) (Or.inl ⟨by rfl, ?_⟩) ?_ ?_
         rotate_left
         ·intro w'
          go_simp
          with_reducible rfl
         rotate_left
         ·simp only [Act.put, List.setIfInBounds_toArray, List.set_cons_zero, List.set_cons_succ, i64_w, i32_w]
          rfl
         refine take_ (i := 27) (N := some 64) (v := ?_) (a' := ?_) #[true, true, true, true, true, true, true, true, true, true, true, true, true, true, true, true, true, true, true, true, true, true, true, true, true, true, true, true, true, false, true, false, false, false, false, false, false] rfl rfl (take_ofW HT_.out HW_.out (by kernel_rfl)) (fun _ _ _ h => h) (Or.inl ⟨by rfl, ?_⟩) hHeld ?_ ?_
         rotate_left
         ·rintro w' ⟨s0, s1, s2, s3, s4, s5, s6, s7, s8⟩
          go_simp
          with_reducible rfl
         rotate_left
         ·simp only [Act.put, List.setIfInBounds_toArray, List.set_cons_zero, List.set_cons_succ, i64_w, i32_w]
          rfl
         refine take_ (i := 29) (N := some 66) (v := ?_) (a' := ?_) zb22_28 rfl rfl (take_ofW HT_.out HW_.out (by kernel_rfl)) (fun _ _ _ h => h) (Or.inl ⟨by rfl, ?_⟩) hHeld ?_ ?_
         rotate_left
         ·rintro w' ⟨s0, s1, s2, s3, s4, s5, s6, s7, s8⟩
          go_simp
          with_reducible rfl
         rotate_left
         ·simp only [Act.put, List.setIfInBounds_toArray, List.set_cons_zero, List.set_cons_succ, i64_w, i32_w]
          rfl
         refine take_ (i := 31) (N := some 68) (v := ?_) (a' := ?_) zb22_29 rfl rfl (take_ofW HT_.out HW_.out (by kernel_rfl)) (fun _ _ _ h => h) (Or.inl ⟨by rfl, ?_⟩) hHeld ?_ ?_
         rotate_left
         ·rintro w' ⟨s0, s1, s2, s3, s4, s5, s6, s7, s8⟩
          go_simp
          with_reducible rfl
         rotate_left
         ·simp only [Act.put, List.setIfInBounds_toArray, List.set_cons_zero, List.set_cons_succ, i64_w, i32_w]
          rfl
         refine one_ (i := 32) (N := some 69) zb22_30 rfl rfl (one_of HT_.out (by kernel_rfl)) (by decide) (fun K hK => ?_)
         refine goes_ Tryd.func24 (by kernel_rfl) rfl #[.int .i64 a0_6] (by rfl) rfl rfl (by (try simp only [List.map_toArray, List.map_cons, List.map_nil]); first | done | rfl | (simp only [List.length_drop, List.length_take]; rfl)) ?_
         with_reducible refine (corebankref42_Window.calls k a0_6 t266 _ A29.out).mono ?_
         rintro e w' ⟨rfl, ⟨nd, rfl⟩⟩
         refine ⟨_, rfl, ?_⟩
         refine hK.out _ _ ⟨(blk_cell BK262.out 0).trans rfl, (blk_cell BK262.out 1).trans rfl, (blk_cell BK262.out 2).trans rfl, (blk_cell BK262.out 3).trans rfl, (blk_cell BK262.out 4).trans rfl, (blk_cell BK262.out 5).trans rfl, (blk_cell BK262.out 6).trans rfl, (blk_cell BK262.out 7).trans rfl, (blk_cell BK262.out 8).trans rfl⟩ (fun hHeld => ?_)
         clear hK K
         refine norm_ (a' := ?_) ?_ ?_
         rotate_left
         ·show Act.put _ (some 69) _ = _
          simp only [Act.put, List.setIfInBounds_toArray, List.set_cons_zero, List.set_cons_succ, i64_w, i32_w]
          rfl
         refine pV 33 70 zb22_31 rfl rfl HT_.out (by kernel_rfl) (fun _ _ _ h => h) (Or.inl ⟨by rfl, by intro w'; go_simp; with_reducible rfl⟩) (by simp only [zA, zS, zC, zD, i64_w, i32_w]; rfl) ?_
         refine pV 34 71 zb22_32 rfl rfl HT_.out (by kernel_rfl) (fun _ _ _ h => h) (Or.inl ⟨by rfl, by intro w'; go_simp; with_reducible rfl⟩) (by simp only [zA, zS, zC, zD, i64_w, i32_w]; rfl) ?_
         refine pV 35 72 zb22_33 rfl rfl HT_.out (by kernel_rfl) (fun _ _ _ h => h) (Or.inl ⟨by rfl, by intro w'; go_simp; with_reducible rfl⟩) (by simp only [zA, zS, zC, zD, i64_w, i32_w]; rfl) ?_
         refine pV 36 2 zb22_34 rfl rfl HT_.out (by kernel_rfl) (fun _ _ _ h => h) (Or.inl ⟨by rfl, by intro w'; go_simp; with_reducible rfl⟩) (by simp only [zA, zS, zC, zD, i64_w, i32_w]; rfl) ?_
         refine done_ (done_of HT_.out (by kernel_rfl)) ?_
         try go_wp2
         go_ret
         exact ⟨by first | rfl | (simp [errW_none, errW_some] <;> rfl) | (simp [*, errW_none, errW_some] <;> rfl), by repeat (with_reducible first | exact HB.out | apply below_alloc | apply pw_below_drewN | apply below_drew1 | refine below_set ?_ GE262.out)⟩
        ·rw [if_neg c28] at H
         have c28b0 : decide (a0_4 ≤ a0_5) = false := decide_eq_false c28
         clear c28
         obtain rfl := Option.some.inj H
         go_enter Tryd.func39, Tryd.ntmps39
         try go_wp2_with (first | ((with_reducible refine gate_dst (N := 1) rfl ?_); refine box_event ?hg (N := 1) ?hd (cs := #[.int .i64 a0_0, .int .i64 a0_1, .int .i64 a0_2, .int .i64 a0_3, .int .i64 a0_4, .int .i64 a0_5, .int .i64 a0_6, .int .i64 a0_7, .string a0_8]) (t := 36) ?hr ?_; (case hd => rfl); (case hg => rfl); (case hr => first | (go_simp; done) | (go_simp; rfl)); intro gb262 hg w33 hbox hb; have n0_ := Aside0.mk (below_step (by repeat (with_reducible first | exact HB.out | apply below_alloc | apply pw_below_drewN | apply below_drew1)) hb); have n1_ := Aside0.mk (hbox); have n2_ := Aside0.mk ((by rw [hg]; exact (below_size (by repeat (with_reducible first | exact HB.out | apply below_alloc | apply pw_below_drewN | apply below_drew1))) : w.heap.size ≤ gb262)); have n3_ := n2_; clear HB; have HB := n0_; have BK262 := n1_; have GW262 := n2_; have GE262 := n3_; clear n0_ n1_ n2_ n3_; clear hb hbox hg; have hcz34 := blk_cell BK262.out))
         have n0_ := Aside0.mk (blk_drew BK262.out)
         have n1_ := Aside0.mk (below_drew1 HB.out)
         clear BK262
         clear HB
         have BK262 := n0_
         have HB := n1_
         clear n0_ n1_
         refine start_ (n := 37) (S := fun w' => w'.cell? ⟨gb262, 0, none⟩ = some (.int .i64 a0_0) ∧ w'.cell? ⟨gb262, 1, none⟩ = some (.int .i64 a0_1) ∧ w'.cell? ⟨gb262, 2, none⟩ = some (.int .i64 a0_2) ∧ w'.cell? ⟨gb262, 3, none⟩ = some (.int .i64 a0_3) ∧ w'.cell? ⟨gb262, 4, none⟩ = some (.int .i64 a0_4) ∧ w'.cell? ⟨gb262, 5, none⟩ = some (.int .i64 a0_5) ∧ w'.cell? ⟨gb262, 6, none⟩ = some (.int .i64 a0_6) ∧ w'.cell? ⟨gb262, 7, none⟩ = some (.int .i64 a0_7) ∧ w'.cell? ⟨gb262, 8, none⟩ = some (.string a0_8)) (ds := []) zb22_0 (by kernel_rfl) rfl rfl ⟨(blk_cell BK262.out 0).trans rfl, (blk_cell BK262.out 1).trans rfl, (blk_cell BK262.out 2).trans rfl, (blk_cell BK262.out 3).trans rfl, (blk_cell BK262.out 4).trans rfl, (blk_cell BK262.out 5).trans rfl, (blk_cell BK262.out 6).trans rfl, (blk_cell BK262.out 7).trans rfl, (blk_cell BK262.out 8).trans rfl⟩ (fun hHeld => ?_); refine with_tabW corebankref42_fits.tab7 corebankref42_fits.bits7 (fun HT_ HW_ => ?_)
         generalize w33.drew = w35 at BK262 HB hHeld ⊢
         refine pV 0 37 zb22_1 rfl rfl HT_.out (by kernel_rfl) (fun _ _ _ h => h) (Or.inl ⟨by rfl, by intro w'; go_simp; with_reducible rfl⟩) (by simp only [zA, zS, zC, zD, i64_w, i32_w]; rfl) ?_
         refine take_ (i := 1) (N := some 38) (v := ?_) (a' := ?_) zb22_2 rfl rfl (take_ofW HT_.out HW_.out (by kernel_rfl)) (fun _ _ _ h => h) (Or.inl ⟨by rfl, ?_⟩) hHeld ?_ ?_
         rotate_left
         ·rintro w' ⟨s0, s1, s2, s3, s4, s5, s6, s7, s8⟩
          go_simp
          with_reducible rfl
         rotate_left
         ·simp only [Act.put, List.setIfInBounds_toArray, List.set_cons_zero, List.set_cons_succ, i64_w, i32_w]
          rfl
         refine one_ (i := 2) (N := some 39) zb22_3 rfl rfl (one_of HT_.out (by kernel_rfl)) (by decide) (fun K hK => ?_)
         refine goes_ Tryd.func41 (by kernel_rfl) rfl #[.int .i64 a0_4] (by rfl) rfl rfl (by (try simp only [List.map_toArray, List.map_cons, List.map_nil]); first | done | rfl | (simp only [List.length_drop, List.length_take]; rfl)) ?_
         with_reducible refine (corebankref04_Valid.calls a0_4 true _ A22.out).mono ?_
         rintro e w' ⟨rfl, ⟨nd, rfl⟩⟩
         refine ⟨_, rfl, ?_⟩
         refine hK.out _ _ ⟨(blk_cell BK262.out 0).trans rfl, (blk_cell BK262.out 1).trans rfl, (blk_cell BK262.out 2).trans rfl, (blk_cell BK262.out 3).trans rfl, (blk_cell BK262.out 4).trans rfl, (blk_cell BK262.out 5).trans rfl, (blk_cell BK262.out 6).trans rfl, (blk_cell BK262.out 7).trans rfl, (blk_cell BK262.out 8).trans rfl⟩ (fun hHeld => ?_)
         clear hK K
         refine norm_ (a' := ?_) ?_ ?_
         rotate_left
         ·show Act.put _ (some 39) _ = _
          simp only [Act.put, List.setIfInBounds_toArray, List.set_cons_zero, List.set_cons_succ, i64_w, i32_w]
          rfl
         refine pV 3 40 zb22_4 rfl rfl HT_.out (by kernel_rfl) (fun _ _ _ h => h) (Or.inl ⟨by rfl, by intro w'; go_simp; with_reducible rfl⟩) (by simp only [zA, zS, zC, zD, i64_w, i32_w]; rfl) ?_
         refine pV 4 41 zb22_5 rfl rfl HT_.out (by kernel_rfl) (fun _ _ _ h => h) (Or.inl ⟨by rfl, by intro w'; go_simp; with_reducible rfl⟩) (by simp only [zA, zS, zC, zD, i64_w, i32_w]; rfl) ?_
         refine take_ (i := 5) (N := some 42) (v := ?_) (a' := ?_) zb22_6 rfl rfl (take_ofW HT_.out HW_.out (by kernel_rfl)) (fun _ _ _ h => h) (Or.inl ⟨by rfl, ?_⟩) hHeld ?_ ?_
         rotate_left
         ·rintro w' ⟨s0, s1, s2, s3, s4, s5, s6, s7, s8⟩
          go_simp
          with_reducible rfl
         rotate_left
         ·simp only [Act.put, List.setIfInBounds_toArray, List.set_cons_zero, List.set_cons_succ, i64_w, i32_w]
          rfl
         refine one_ (i := 6) (N := some 43) zb22_7 rfl rfl (one_of HT_.out (by kernel_rfl)) (by decide) (fun K hK => ?_)
         refine goes_ Tryd.func41 (by kernel_rfl) rfl #[.int .i64 a0_5] (by rfl) rfl rfl (by (try simp only [List.map_toArray, List.map_cons, List.map_nil]); first | done | rfl | (simp only [List.length_drop, List.length_take]; rfl)) ?_
         with_reducible refine (corebankref04_Valid.calls a0_5 true _ A24.out).mono ?_
         rintro e w' ⟨rfl, ⟨nd, rfl⟩⟩
         refine ⟨_, rfl, ?_⟩
         refine hK.out _ _ ⟨(blk_cell BK262.out 0).trans rfl, (blk_cell BK262.out 1).trans rfl, (blk_cell BK262.out 2).trans rfl, (blk_cell BK262.out 3).trans rfl, (blk_cell BK262.out 4).trans rfl, (blk_cell BK262.out 5).trans rfl, (blk_cell BK262.out 6).trans rfl, (blk_cell BK262.out 7).trans rfl, (blk_cell BK262.out 8).trans rfl⟩ (fun hHeld => ?_)
         clear hK K
         refine norm_ (a' := ?_) ?_ ?_
         rotate_left
         ·show Act.put _ (some 43) _ = _
          simp only [Act.put, List.setIfInBounds_toArray, List.set_cons_zero, List.set_cons_succ, i64_w, i32_w]
          rfl
         refine pV 7 44 zb22_8 rfl rfl HT_.out (by kernel_rfl) (fun _ _ _ h => h) (Or.inl ⟨by rfl, by intro w'; go_simp; with_reducible rfl⟩) (by simp only [zA, zS, zC, zD, i64_w, i32_w]; rfl) ?_
         refine pV 8 45 zb22_9 rfl rfl HT_.out (by kernel_rfl) (fun _ _ _ h => h) (Or.inl ⟨by rfl, by intro w'; go_simp; with_reducible rfl⟩) (by simp only [zA, zS, zC, zD, i64_w, i32_w]; rfl) ?_
         refine pV 9 46 zb22_10 rfl rfl HT_.out (by kernel_rfl) (fun _ _ _ h => h) (Or.inl ⟨by rfl, by intro w'; go_simp; with_reducible rfl⟩) (by simp only [zA, zS, zC, zD, i64_w, i32_w]; rfl) ?_
         refine take_ (i := 10) (N := some 47) (v := ?_) (a' := ?_) zb22_11 rfl rfl (take_ofW HT_.out HW_.out (by kernel_rfl)) (fun _ _ _ h => h) (Or.inl ⟨by rfl, ?_⟩) hHeld ?_ ?_
         rotate_left
         ·rintro w' ⟨s0, s1, s2, s3, s4, s5, s6, s7, s8⟩
          go_simp
          with_reducible rfl
         rotate_left
         ·simp only [Act.put, List.setIfInBounds_toArray, List.set_cons_zero, List.set_cons_succ, i64_w, i32_w]
          rfl
         refine pV 11 48 zb22_12 rfl rfl HT_.out (by kernel_rfl) (fun _ _ _ h => h) (Or.inl ⟨by rfl, by intro w'; go_simp; with_reducible rfl⟩) (by simp only [zA, zS, zC, zD, i64_w, i32_w]; rfl) ?_
         refine pV 12 49 zb22_13 rfl rfl HT_.out (by kernel_rfl) (fun _ _ _ h => h) (Or.inl ⟨by rfl, by intro w'; go_simp; with_reducible rfl⟩) (by simp only [zA, zS, zC, zD, i64_w, i32_w]; rfl) ?_
         refine pV 13 50 zb22_14 rfl rfl HT_.out (by kernel_rfl) (fun _ _ _ h => h) (Or.inl ⟨by rfl, by intro w'; go_simp; with_reducible rfl⟩) (by simp only [zA, zS, zC, zD, i64_w, i32_w]; rfl) ?_
         refine pV 14 51 zb22_15 rfl rfl HT_.out (by kernel_rfl) (fun _ _ _ h => h) (Or.inl ⟨by rfl, by intro w'; go_simp; with_reducible rfl⟩) (by simp only [zA, zS, zC, zD, i64_w, i32_w]; rfl) ?_
         refine take_ (i := 15) (N := some 52) (v := ?_) (a' := ?_) zb22_16 rfl rfl (take_ofW HT_.out HW_.out (by kernel_rfl)) (fun _ _ _ h => h) (Or.inl ⟨by rfl, ?_⟩) hHeld ?_ ?_
         rotate_left
         ·rintro w' ⟨s0, s1, s2, s3, s4, s5, s6, s7, s8⟩
          go_simp
          with_reducible rfl
         rotate_left
         ·simp only [Act.put, List.setIfInBounds_toArray, List.set_cons_zero, List.set_cons_succ, i64_w, i32_w]
          rfl
         refine pV 16 53 zb22_17 rfl rfl HT_.out (by kernel_rfl) (fun _ _ _ h => h) (Or.inl ⟨by rfl, by intro w'; go_simp; with_reducible rfl⟩) (by simp only [zA, zS, zC, zD, i64_w, i32_w]; rfl) ?_
         refine pV 17 54 zb22_18 rfl rfl HT_.out (by kernel_rfl) (fun _ _ _ h => h) (Or.inl ⟨by rfl, by intro w'; go_simp; with_reducible rfl⟩) (by simp only [zA, zS, zC, zD, i64_w, i32_w]; rfl) ?_
         refine pV 18 55 zb22_19 rfl rfl HT_.out (by kernel_rfl) (fun _ _ _ h => h) (Or.inl ⟨by rfl, by intro w'; go_simp; with_reducible rfl⟩) (by simp only [zA, zS, zC, zD, i64_w, i32_w]; rfl) ?_
         refine pV 19 56 zb22_20 rfl rfl HT_.out (by kernel_rfl) (fun _ _ _ h => h) (Or.inl ⟨by rfl, by intro w'; go_simp; with_reducible rfl⟩) (by simp only [zA, zS, zC, zD, i64_w, i32_w]; rfl) ?_
         refine pV 21 58 zb22_21 rfl rfl HT_.out (by kernel_rfl) (fun _ _ _ h => h) (Or.inl ⟨by rfl, by intro w'; go_simp; with_reducible rfl⟩) (by simp only [zA, zS, zC, zD, i64_w, i32_w]; rfl) ?_
         refine take_ (i := 20) (N := some 57) (v := ?_) (a' := ?_) zb22_22 rfl rfl (take_ofW HT_.out HW_.out (by kernel_rfl)) (fun _ _ _ h => h) (Or.inl ⟨by rfl, ?_⟩) hHeld ?_ ?_
         rotate_left
         ·rintro w' ⟨s0, s1, s2, s3, s4, s5, s6, s7, s8⟩
          go_simp
          with_reducible rfl
         rotate_left
         ·simp only [Act.put, List.setIfInBounds_toArray, List.set_cons_zero, List.set_cons_succ, i64_w, i32_w]
          rfl
         refine take_ (i := 22) (N := some 59) (v := ?_) (a' := ?_) zb22_23 rfl rfl (take_ofW HT_.out HW_.out (by kernel_rfl)) (fun _ _ _ h => h) (Or.inl ⟨by rfl, ?_⟩) hHeld ?_ ?_
         rotate_left
         ·rintro w' ⟨s0, s1, s2, s3, s4, s5, s6, s7, s8⟩
          go_simp
          with_reducible rfl
         rotate_left
         ·simp only [Act.put, List.setIfInBounds_toArray, List.set_cons_zero, List.set_cons_succ, i64_w, i32_w]
          rfl
         refine pV 23 60 zb22_24 rfl rfl HT_.out (by kernel_rfl) (fun _ _ _ h => h) (Or.inl ⟨by rfl, by intro w'; go_simp; with_reducible rfl⟩) (by simp only [zA, zS, zC, zD, i64_w, i32_w]; rfl) ?_
         refine pV 24 61 zb22_25 rfl rfl HT_.out (by kernel_rfl) (fun _ _ _ h => h) (Or.inl ⟨by rfl, by intro w'; go_simp; with_reducible rfl⟩) (by simp only [zA, zS, zC, zD, i64_w, i32_w]; rfl) ?_
         refine pV 25 62 zb22_26 rfl rfl HT_.out (by kernel_rfl) (fun _ _ _ h => h) (Or.inl ⟨by rfl, by intro w'; go_simp; with_reducible rfl⟩) (by simp only [zA, zS, zC, zD, i64_w, i32_w]; rfl) ?_
         refine pV 26 63 zb22_27 rfl rfl HT_.out (by kernel_rfl) (fun _ _ _ h => h) (Or.inr ⟨by rfl, rfl⟩) (by simp only [zA, zS, zC, zD, i64_w, i32_w]; rfl) ?_
         refine pV 27 64 zb22_35 rfl rfl HT_.out (by kernel_rfl) (fun _ _ _ h => h) (Or.inr ⟨by rfl, rfl⟩) (by simp only [zA, zS, zC, zD, i64_w, i32_w]; rfl) ?_
         refine pV 28 65 zb22_36 rfl rfl HT_.out (by kernel_rfl) (fun _ _ _ h => h) (Or.inr ⟨by rfl, rfl⟩) (by simp only [zA, zS, zC, zD, i64_w, i32_w]; rfl) ?_
         refine pV 29 66 zb22_37 rfl rfl HT_.out (by kernel_rfl) (fun _ _ _ h => h) (Or.inr ⟨by rfl, rfl⟩) (by simp only [zA, zS, zC, zD, i64_w, i32_w]; rfl) ?_
         refine pV 30 67 zb22_28 rfl rfl HT_.out (by kernel_rfl) (fun _ _ _ h => h) (Or.inr ⟨by rfl, rfl⟩) (by simp only [zA, zS, zC, zD, i64_w, i32_w]; rfl) ?_
         refine pV 31 68 zb22_29 rfl rfl HT_.out (by kernel_rfl) (fun _ _ _ h => h) (Or.inr ⟨by rfl, rfl⟩) (by simp only [zA, zS, zC, zD, i64_w, i32_w]; rfl) ?_
         refine pV 32 69 zb22_30 rfl rfl HT_.out (by kernel_rfl) (fun _ _ _ h => h) (Or.inr ⟨by rfl, rfl⟩) (by simp only [zA, zS, zC, zD, i64_w, i32_w]; rfl) ?_
         refine pV 33 70 zb22_31 rfl rfl HT_.out (by kernel_rfl) (fun _ _ _ h => h) (Or.inr ⟨by rfl, rfl⟩) (by simp only [zA, zS, zC, zD, i64_w, i32_w]; rfl) ?_
         refine pV 34 71 zb22_32 rfl rfl HT_.out (by kernel_rfl) (fun _ _ _ h => h) (Or.inr ⟨by rfl, rfl⟩) (by simp only [zA, zS, zC, zD, i64_w, i32_w]; rfl) ?_
         refine pV 35 72 zb22_33 rfl rfl HT_.out (by kernel_rfl) (fun _ _ _ h => h) (Or.inl ⟨by rfl, by intro w'; go_simp; with_reducible rfl⟩) (by simp only [zA, zS, zC, zD, i64_w, i32_w]; rfl) ?_
         refine pV 36 2 zb22_34 rfl rfl HT_.out (by kernel_rfl) (fun _ _ _ h => h) (Or.inl ⟨by rfl, by intro w'; go_simp; with_reducible rfl⟩) (by simp only [zA, zS, zC, zD, i64_w, i32_w]; rfl) ?_
         refine done_ (done_of HT_.out (by kernel_rfl)) ?_
         try go_wp2
         go_ret
         exact ⟨by first | rfl | (simp [errW_none, errW_some] <;> rfl) | (simp [*, errW_none, errW_some] <;> rfl), by repeat (with_reducible first | exact HB.out | apply below_alloc | apply pw_below_drewN | apply below_drew1 | refine below_set ?_ GE262.out)⟩
       ·rw [if_neg c27] at H
        have c27b0 : decide (a0_6 ≤ 4) = false := decide_eq_false c27
        clear c27
        obtain rfl := Option.some.inj H
        go_enter Tryd.func39, Tryd.ntmps39
        try go_wp2_with (first | ((with_reducible refine gate_dst (N := 1) rfl ?_); refine box_event ?hg (N := 1) ?hd (cs := #[.int .i64 a0_0, .int .i64 a0_1, .int .i64 a0_2, .int .i64 a0_3, .int .i64 a0_4, .int .i64 a0_5, .int .i64 a0_6, .int .i64 a0_7, .string a0_8]) (t := 36) ?hr ?_; (case hd => rfl); (case hg => rfl); (case hr => first | (go_simp; done) | (go_simp; rfl)); intro gb262 hg w36 hbox hb; have n0_ := Aside0.mk (below_step (by repeat (with_reducible first | exact HB.out | apply below_alloc | apply pw_below_drewN | apply below_drew1)) hb); have n1_ := Aside0.mk (hbox); have n2_ := Aside0.mk ((by rw [hg]; exact (below_size (by repeat (with_reducible first | exact HB.out | apply below_alloc | apply pw_below_drewN | apply below_drew1))) : w.heap.size ≤ gb262)); have n3_ := n2_; clear HB; have HB := n0_; have BK262 := n1_; have GW262 := n2_; have GE262 := n3_; clear n0_ n1_ n2_ n3_; clear hb hbox hg; have hcz37 := blk_cell BK262.out))
        have n0_ := Aside0.mk (blk_drew BK262.out)
        have n1_ := Aside0.mk (below_drew1 HB.out)
        clear BK262
        clear HB
        have BK262 := n0_
        have HB := n1_
        clear n0_ n1_
        refine start_ (n := 37) (S := fun w' => w'.cell? ⟨gb262, 0, none⟩ = some (.int .i64 a0_0) ∧ w'.cell? ⟨gb262, 1, none⟩ = some (.int .i64 a0_1) ∧ w'.cell? ⟨gb262, 2, none⟩ = some (.int .i64 a0_2) ∧ w'.cell? ⟨gb262, 3, none⟩ = some (.int .i64 a0_3) ∧ w'.cell? ⟨gb262, 4, none⟩ = some (.int .i64 a0_4) ∧ w'.cell? ⟨gb262, 5, none⟩ = some (.int .i64 a0_5) ∧ w'.cell? ⟨gb262, 6, none⟩ = some (.int .i64 a0_6) ∧ w'.cell? ⟨gb262, 7, none⟩ = some (.int .i64 a0_7) ∧ w'.cell? ⟨gb262, 8, none⟩ = some (.string a0_8)) (ds := []) zb22_0 (by kernel_rfl) rfl rfl ⟨(blk_cell BK262.out 0).trans rfl, (blk_cell BK262.out 1).trans rfl, (blk_cell BK262.out 2).trans rfl, (blk_cell BK262.out 3).trans rfl, (blk_cell BK262.out 4).trans rfl, (blk_cell BK262.out 5).trans rfl, (blk_cell BK262.out 6).trans rfl, (blk_cell BK262.out 7).trans rfl, (blk_cell BK262.out 8).trans rfl⟩ (fun hHeld => ?_); refine with_tabW corebankref42_fits.tab7 corebankref42_fits.bits7 (fun HT_ HW_ => ?_)
        generalize w36.drew = w38 at BK262 HB hHeld ⊢
        refine pV 0 37 zb22_1 rfl rfl HT_.out (by kernel_rfl) (fun _ _ _ h => h) (Or.inl ⟨by rfl, by intro w'; go_simp; with_reducible rfl⟩) (by simp only [zA, zS, zC, zD, i64_w, i32_w]; rfl) ?_
        refine take_ (i := 1) (N := some 38) (v := ?_) (a' := ?_) zb22_2 rfl rfl (take_ofW HT_.out HW_.out (by kernel_rfl)) (fun _ _ _ h => h) (Or.inl ⟨by rfl, ?_⟩) hHeld ?_ ?_
        rotate_left
        ·rintro w' ⟨s0, s1, s2, s3, s4, s5, s6, s7, s8⟩
         go_simp
         with_reducible rfl
        rotate_left
        ·simp only [Act.put, List.setIfInBounds_toArray, List.set_cons_zero, List.set_cons_succ, i64_w, i32_w]
         rfl
        refine one_ (i := 2) (N := some 39) zb22_3 rfl rfl (one_of HT_.out (by kernel_rfl)) (by decide) (fun K hK => ?_)
        refine goes_ Tryd.func41 (by kernel_rfl) rfl #[.int .i64 a0_4] (by rfl) rfl rfl (by (try simp only [List.map_toArray, List.map_cons, List.map_nil]); first | done | rfl | (simp only [List.length_drop, List.length_take]; rfl)) ?_
        with_reducible refine (corebankref04_Valid.calls a0_4 true _ A22.out).mono ?_
        rintro e w' ⟨rfl, ⟨nd, rfl⟩⟩
        refine ⟨_, rfl, ?_⟩
        refine hK.out _ _ ⟨(blk_cell BK262.out 0).trans rfl, (blk_cell BK262.out 1).trans rfl, (blk_cell BK262.out 2).trans rfl, (blk_cell BK262.out 3).trans rfl, (blk_cell BK262.out 4).trans rfl, (blk_cell BK262.out 5).trans rfl, (blk_cell BK262.out 6).trans rfl, (blk_cell BK262.out 7).trans rfl, (blk_cell BK262.out 8).trans rfl⟩ (fun hHeld => ?_)
        clear hK K
        refine norm_ (a' := ?_) ?_ ?_
        rotate_left
        ·show Act.put _ (some 39) _ = _
         simp only [Act.put, List.setIfInBounds_toArray, List.set_cons_zero, List.set_cons_succ, i64_w, i32_w]
         rfl
        refine pV 3 40 zb22_4 rfl rfl HT_.out (by kernel_rfl) (fun _ _ _ h => h) (Or.inl ⟨by rfl, by intro w'; go_simp; with_reducible rfl⟩) (by simp only [zA, zS, zC, zD, i64_w, i32_w]; rfl) ?_
        refine pV 4 41 zb22_5 rfl rfl HT_.out (by kernel_rfl) (fun _ _ _ h => h) (Or.inl ⟨by rfl, by intro w'; go_simp; with_reducible rfl⟩) (by simp only [zA, zS, zC, zD, i64_w, i32_w]; rfl) ?_
        refine take_ (i := 5) (N := some 42) (v := ?_) (a' := ?_) zb22_6 rfl rfl (take_ofW HT_.out HW_.out (by kernel_rfl)) (fun _ _ _ h => h) (Or.inl ⟨by rfl, ?_⟩) hHeld ?_ ?_
        rotate_left
        ·rintro w' ⟨s0, s1, s2, s3, s4, s5, s6, s7, s8⟩
         go_simp
         with_reducible rfl
        rotate_left
        ·simp only [Act.put, List.setIfInBounds_toArray, List.set_cons_zero, List.set_cons_succ, i64_w, i32_w]
         rfl
        refine one_ (i := 6) (N := some 43) zb22_7 rfl rfl (one_of HT_.out (by kernel_rfl)) (by decide) (fun K hK => ?_)
        refine goes_ Tryd.func41 (by kernel_rfl) rfl #[.int .i64 a0_5] (by rfl) rfl rfl (by (try simp only [List.map_toArray, List.map_cons, List.map_nil]); first | done | rfl | (simp only [List.length_drop, List.length_take]; rfl)) ?_
        with_reducible refine (corebankref04_Valid.calls a0_5 true _ A24.out).mono ?_
        rintro e w' ⟨rfl, ⟨nd, rfl⟩⟩
        refine ⟨_, rfl, ?_⟩
        refine hK.out _ _ ⟨(blk_cell BK262.out 0).trans rfl, (blk_cell BK262.out 1).trans rfl, (blk_cell BK262.out 2).trans rfl, (blk_cell BK262.out 3).trans rfl, (blk_cell BK262.out 4).trans rfl, (blk_cell BK262.out 5).trans rfl, (blk_cell BK262.out 6).trans rfl, (blk_cell BK262.out 7).trans rfl, (blk_cell BK262.out 8).trans rfl⟩ (fun hHeld => ?_)
        clear hK K
        refine norm_ (a' := ?_) ?_ ?_
        rotate_left
        ·show Act.put _ (some 43) _ = _
         simp only [Act.put, List.setIfInBounds_toArray, List.set_cons_zero, List.set_cons_succ, i64_w, i32_w]
         rfl
        refine pV 7 44 zb22_8 rfl rfl HT_.out (by kernel_rfl) (fun _ _ _ h => h) (Or.inl ⟨by rfl, by intro w'; go_simp; with_reducible rfl⟩) (by simp only [zA, zS, zC, zD, i64_w, i32_w]; rfl) ?_
        refine pV 8 45 zb22_9 rfl rfl HT_.out (by kernel_rfl) (fun _ _ _ h => h) (Or.inl ⟨by rfl, by intro w'; go_simp; with_reducible rfl⟩) (by simp only [zA, zS, zC, zD, i64_w, i32_w]; rfl) ?_
        refine pV 9 46 zb22_10 rfl rfl HT_.out (by kernel_rfl) (fun _ _ _ h => h) (Or.inl ⟨by rfl, by intro w'; go_simp; with_reducible rfl⟩) (by simp only [zA, zS, zC, zD, i64_w, i32_w]; rfl) ?_
        refine take_ (i := 10) (N := some 47) (v := ?_) (a' := ?_) zb22_11 rfl rfl (take_ofW HT_.out HW_.out (by kernel_rfl)) (fun _ _ _ h => h) (Or.inl ⟨by rfl, ?_⟩) hHeld ?_ ?_
        rotate_left
        ·rintro w' ⟨s0, s1, s2, s3, s4, s5, s6, s7, s8⟩
         go_simp
         with_reducible rfl
        rotate_left
        ·simp only [Act.put, List.setIfInBounds_toArray, List.set_cons_zero, List.set_cons_succ, i64_w, i32_w]
         rfl
        refine pV 11 48 zb22_12 rfl rfl HT_.out (by kernel_rfl) (fun _ _ _ h => h) (Or.inl ⟨by rfl, by intro w'; go_simp; with_reducible rfl⟩) (by simp only [zA, zS, zC, zD, i64_w, i32_w]; rfl) ?_
        refine pV 12 49 zb22_13 rfl rfl HT_.out (by kernel_rfl) (fun _ _ _ h => h) (Or.inl ⟨by rfl, by intro w'; go_simp; with_reducible rfl⟩) (by simp only [zA, zS, zC, zD, i64_w, i32_w]; rfl) ?_
        refine pV 13 50 zb22_14 rfl rfl HT_.out (by kernel_rfl) (fun _ _ _ h => h) (Or.inl ⟨by rfl, by intro w'; go_simp; with_reducible rfl⟩) (by simp only [zA, zS, zC, zD, i64_w, i32_w]; rfl) ?_
        refine pV 14 51 zb22_15 rfl rfl HT_.out (by kernel_rfl) (fun _ _ _ h => h) (Or.inl ⟨by rfl, by intro w'; go_simp; with_reducible rfl⟩) (by simp only [zA, zS, zC, zD, i64_w, i32_w]; rfl) ?_
        refine take_ (i := 15) (N := some 52) (v := ?_) (a' := ?_) zb22_16 rfl rfl (take_ofW HT_.out HW_.out (by kernel_rfl)) (fun _ _ _ h => h) (Or.inl ⟨by rfl, ?_⟩) hHeld ?_ ?_
        rotate_left
        ·rintro w' ⟨s0, s1, s2, s3, s4, s5, s6, s7, s8⟩
         go_simp
         with_reducible rfl
        rotate_left
        ·simp only [Act.put, List.setIfInBounds_toArray, List.set_cons_zero, List.set_cons_succ, i64_w, i32_w]
         rfl
        refine pV 16 53 zb22_17 rfl rfl HT_.out (by kernel_rfl) (fun _ _ _ h => h) (Or.inl ⟨by rfl, by intro w'; go_simp; with_reducible rfl⟩) (by simp only [zA, zS, zC, zD, i64_w, i32_w]; rfl) ?_
        refine pV 17 54 zb22_18 rfl rfl HT_.out (by kernel_rfl) (fun _ _ _ h => h) (Or.inl ⟨by rfl, by intro w'; go_simp; with_reducible rfl⟩) (by simp only [zA, zS, zC, zD, i64_w, i32_w]; rfl) ?_
        refine pV 18 55 zb22_19 rfl rfl HT_.out (by kernel_rfl) (fun _ _ _ h => h) (Or.inl ⟨by rfl, by intro w'; go_simp; with_reducible rfl⟩) (by simp only [zA, zS, zC, zD, i64_w, i32_w]; rfl) ?_
        refine pV 19 56 zb22_20 rfl rfl HT_.out (by kernel_rfl) (fun _ _ _ h => h) (Or.inr ⟨by rfl, rfl⟩) (by simp only [zA, zS, zC, zD, i64_w, i32_w]; rfl) ?_
        refine pV 20 57 zb22_38 rfl rfl HT_.out (by kernel_rfl) (fun _ _ _ h => h) (Or.inr ⟨by rfl, rfl⟩) (by simp only [zA, zS, zC, zD, i64_w, i32_w]; rfl) ?_
        refine pV 21 58 zb22_22 rfl rfl HT_.out (by kernel_rfl) (fun _ _ _ h => h) (Or.inr ⟨by rfl, rfl⟩) (by simp only [zA, zS, zC, zD, i64_w, i32_w]; rfl) ?_
        refine pV 22 59 zb22_23 rfl rfl HT_.out (by kernel_rfl) (fun _ _ _ h => h) (Or.inr ⟨by rfl, rfl⟩) (by simp only [zA, zS, zC, zD, i64_w, i32_w]; rfl) ?_
        refine pV 23 60 zb22_24 rfl rfl HT_.out (by kernel_rfl) (fun _ _ _ h => h) (Or.inr ⟨by rfl, rfl⟩) (by simp only [zA, zS, zC, zD, i64_w, i32_w]; rfl) ?_
        refine pV 24 61 zb22_25 rfl rfl HT_.out (by kernel_rfl) (fun _ _ _ h => h) (Or.inl ⟨by rfl, by intro w'; go_simp; with_reducible rfl⟩) (by simp only [zA, zS, zC, zD, i64_w, i32_w]; rfl) ?_
        refine pV 25 62 zb22_26 rfl rfl HT_.out (by kernel_rfl) (fun _ _ _ h => h) (Or.inl ⟨by rfl, by intro w'; go_simp; with_reducible rfl⟩) (by simp only [zA, zS, zC, zD, i64_w, i32_w]; rfl) ?_
        refine pV 26 63 zb22_27 rfl rfl HT_.out (by kernel_rfl) (fun _ _ _ h => h) (Or.inr ⟨by rfl, rfl⟩) (by simp only [zA, zS, zC, zD, i64_w, i32_w]; rfl) ?_
        refine pV 27 64 zb22_35 rfl rfl HT_.out (by kernel_rfl) (fun _ _ _ h => h) (Or.inr ⟨by rfl, rfl⟩) (by simp only [zA, zS, zC, zD, i64_w, i32_w]; rfl) ?_
        refine pV 28 65 zb22_36 rfl rfl HT_.out (by kernel_rfl) (fun _ _ _ h => h) (Or.inr ⟨by rfl, rfl⟩) (by simp only [zA, zS, zC, zD, i64_w, i32_w]; rfl) ?_
        refine pV 29 66 zb22_37 rfl rfl HT_.out (by kernel_rfl) (fun _ _ _ h => h) (Or.inr ⟨by rfl, rfl⟩) (by simp only [zA, zS, zC, zD, i64_w, i32_w]; rfl) ?_
        refine pV 30 67 zb22_28 rfl rfl HT_.out (by kernel_rfl) (fun _ _ _ h => h) (Or.inr ⟨by rfl, rfl⟩) (by simp only [zA, zS, zC, zD, i64_w, i32_w]; rfl) ?_
        refine pV 31 68 zb22_29 rfl rfl HT_.out (by kernel_rfl) (fun _ _ _ h => h) (Or.inr ⟨by rfl, rfl⟩) (by simp only [zA, zS, zC, zD, i64_w, i32_w]; rfl) ?_
        refine pV 32 69 zb22_30 rfl rfl HT_.out (by kernel_rfl) (fun _ _ _ h => h) (Or.inr ⟨by rfl, rfl⟩) (by simp only [zA, zS, zC, zD, i64_w, i32_w]; rfl) ?_
        refine pV 33 70 zb22_31 rfl rfl HT_.out (by kernel_rfl) (fun _ _ _ h => h) (Or.inr ⟨by rfl, rfl⟩) (by simp only [zA, zS, zC, zD, i64_w, i32_w]; rfl) ?_
        refine pV 34 71 zb22_32 rfl rfl HT_.out (by kernel_rfl) (fun _ _ _ h => h) (Or.inr ⟨by rfl, rfl⟩) (by simp only [zA, zS, zC, zD, i64_w, i32_w]; rfl) ?_
        refine pV 35 72 zb22_33 rfl rfl HT_.out (by kernel_rfl) (fun _ _ _ h => h) (Or.inl ⟨by rfl, by intro w'; go_simp; with_reducible rfl⟩) (by simp only [zA, zS, zC, zD, i64_w, i32_w]; rfl) ?_
        refine pV 36 2 zb22_34 rfl rfl HT_.out (by kernel_rfl) (fun _ _ _ h => h) (Or.inl ⟨by rfl, by intro w'; go_simp; with_reducible rfl⟩) (by simp only [zA, zS, zC, zD, i64_w, i32_w]; rfl) ?_
        refine done_ (done_of HT_.out (by kernel_rfl)) ?_
        try go_wp2
        go_ret
        exact ⟨by first | rfl | (simp [errW_none, errW_some] <;> rfl) | (simp [*, errW_none, errW_some] <;> rfl), by repeat (with_reducible first | exact HB.out | apply below_alloc | apply pw_below_drewN | apply below_drew1 | refine below_set ?_ GE262.out)⟩
      ·rw [if_neg c26] at H
       have c26b0 : decide (1 ≤ a0_6) = false := decide_eq_false c26
       clear c26
       obtain rfl := Option.some.inj H
       go_enter Tryd.func39, Tryd.ntmps39
       try go_wp2_with (first | ((with_reducible refine gate_dst (N := 1) rfl ?_); refine box_event ?hg (N := 1) ?hd (cs := #[.int .i64 a0_0, .int .i64 a0_1, .int .i64 a0_2, .int .i64 a0_3, .int .i64 a0_4, .int .i64 a0_5, .int .i64 a0_6, .int .i64 a0_7, .string a0_8]) (t := 36) ?hr ?_; (case hd => rfl); (case hg => rfl); (case hr => first | (go_simp; done) | (go_simp; rfl)); intro gb262 hg w39 hbox hb; have n0_ := Aside0.mk (below_step (by repeat (with_reducible first | exact HB.out | apply below_alloc | apply pw_below_drewN | apply below_drew1)) hb); have n1_ := Aside0.mk (hbox); have n2_ := Aside0.mk ((by rw [hg]; exact (below_size (by repeat (with_reducible first | exact HB.out | apply below_alloc | apply pw_below_drewN | apply below_drew1))) : w.heap.size ≤ gb262)); have n3_ := n2_; clear HB; have HB := n0_; have BK262 := n1_; have GW262 := n2_; have GE262 := n3_; clear n0_ n1_ n2_ n3_; clear hb hbox hg; have hcz40 := blk_cell BK262.out))
       have n0_ := Aside0.mk (blk_drew BK262.out)
       have n1_ := Aside0.mk (below_drew1 HB.out)
       clear BK262
       clear HB
       have BK262 := n0_
       have HB := n1_
       clear n0_ n1_
       refine start_ (n := 37) (S := fun w' => w'.cell? ⟨gb262, 0, none⟩ = some (.int .i64 a0_0) ∧ w'.cell? ⟨gb262, 1, none⟩ = some (.int .i64 a0_1) ∧ w'.cell? ⟨gb262, 2, none⟩ = some (.int .i64 a0_2) ∧ w'.cell? ⟨gb262, 3, none⟩ = some (.int .i64 a0_3) ∧ w'.cell? ⟨gb262, 4, none⟩ = some (.int .i64 a0_4) ∧ w'.cell? ⟨gb262, 5, none⟩ = some (.int .i64 a0_5) ∧ w'.cell? ⟨gb262, 6, none⟩ = some (.int .i64 a0_6) ∧ w'.cell? ⟨gb262, 7, none⟩ = some (.int .i64 a0_7) ∧ w'.cell? ⟨gb262, 8, none⟩ = some (.string a0_8)) (ds := []) zb22_0 (by kernel_rfl) rfl rfl ⟨(blk_cell BK262.out 0).trans rfl, (blk_cell BK262.out 1).trans rfl, (blk_cell BK262.out 2).trans rfl, (blk_cell BK262.out 3).trans rfl, (blk_cell BK262.out 4).trans rfl, (blk_cell BK262.out 5).trans rfl, (blk_cell BK262.out 6).trans rfl, (blk_cell BK262.out 7).trans rfl, (blk_cell BK262.out 8).trans rfl⟩ (fun hHeld => ?_); refine with_tabW corebankref42_fits.tab7 corebankref42_fits.bits7 (fun HT_ HW_ => ?_)
       generalize w39.drew = w41 at BK262 HB hHeld ⊢
       refine pV 0 37 zb22_1 rfl rfl HT_.out (by kernel_rfl) (fun _ _ _ h => h) (Or.inl ⟨by rfl, by intro w'; go_simp; with_reducible rfl⟩) (by simp only [zA, zS, zC, zD, i64_w, i32_w]; rfl) ?_
       refine take_ (i := 1) (N := some 38) (v := ?_) (a' := ?_) zb22_2 rfl rfl (take_ofW HT_.out HW_.out (by kernel_rfl)) (fun _ _ _ h => h) (Or.inl ⟨by rfl, ?_⟩) hHeld ?_ ?_
       rotate_left
       ·rintro w' ⟨s0, s1, s2, s3, s4, s5, s6, s7, s8⟩
        go_simp
        with_reducible rfl
       rotate_left
       ·simp only [Act.put, List.setIfInBounds_toArray, List.set_cons_zero, List.set_cons_succ, i64_w, i32_w]
        rfl
       refine one_ (i := 2) (N := some 39) zb22_3 rfl rfl (one_of HT_.out (by kernel_rfl)) (by decide) (fun K hK => ?_)
       refine goes_ Tryd.func41 (by kernel_rfl) rfl #[.int .i64 a0_4] (by rfl) rfl rfl (by (try simp only [List.map_toArray, List.map_cons, List.map_nil]); first | done | rfl | (simp only [List.length_drop, List.length_take]; rfl)) ?_
       with_reducible refine (corebankref04_Valid.calls a0_4 true _ A22.out).mono ?_
       rintro e w' ⟨rfl, ⟨nd, rfl⟩⟩
       refine ⟨_, rfl, ?_⟩
       refine hK.out _ _ ⟨(blk_cell BK262.out 0).trans rfl, (blk_cell BK262.out 1).trans rfl, (blk_cell BK262.out 2).trans rfl, (blk_cell BK262.out 3).trans rfl, (blk_cell BK262.out 4).trans rfl, (blk_cell BK262.out 5).trans rfl, (blk_cell BK262.out 6).trans rfl, (blk_cell BK262.out 7).trans rfl, (blk_cell BK262.out 8).trans rfl⟩ (fun hHeld => ?_)
       clear hK K
       refine norm_ (a' := ?_) ?_ ?_
       rotate_left
       ·show Act.put _ (some 39) _ = _
        simp only [Act.put, List.setIfInBounds_toArray, List.set_cons_zero, List.set_cons_succ, i64_w, i32_w]
        rfl
       refine pV 3 40 zb22_4 rfl rfl HT_.out (by kernel_rfl) (fun _ _ _ h => h) (Or.inl ⟨by rfl, by intro w'; go_simp; with_reducible rfl⟩) (by simp only [zA, zS, zC, zD, i64_w, i32_w]; rfl) ?_
       refine pV 4 41 zb22_5 rfl rfl HT_.out (by kernel_rfl) (fun _ _ _ h => h) (Or.inl ⟨by rfl, by intro w'; go_simp; with_reducible rfl⟩) (by simp only [zA, zS, zC, zD, i64_w, i32_w]; rfl) ?_
       refine take_ (i := 5) (N := some 42) (v := ?_) (a' := ?_) zb22_6 rfl rfl (take_ofW HT_.out HW_.out (by kernel_rfl)) (fun _ _ _ h => h) (Or.inl ⟨by rfl, ?_⟩) hHeld ?_ ?_
       rotate_left
       ·rintro w' ⟨s0, s1, s2, s3, s4, s5, s6, s7, s8⟩
        go_simp
        with_reducible rfl
       rotate_left
       ·simp only [Act.put, List.setIfInBounds_toArray, List.set_cons_zero, List.set_cons_succ, i64_w, i32_w]
        rfl
       refine one_ (i := 6) (N := some 43) zb22_7 rfl rfl (one_of HT_.out (by kernel_rfl)) (by decide) (fun K hK => ?_)
       refine goes_ Tryd.func41 (by kernel_rfl) rfl #[.int .i64 a0_5] (by rfl) rfl rfl (by (try simp only [List.map_toArray, List.map_cons, List.map_nil]); first | done | rfl | (simp only [List.length_drop, List.length_take]; rfl)) ?_
       with_reducible refine (corebankref04_Valid.calls a0_5 true _ A24.out).mono ?_
       rintro e w' ⟨rfl, ⟨nd, rfl⟩⟩
       refine ⟨_, rfl, ?_⟩
       refine hK.out _ _ ⟨(blk_cell BK262.out 0).trans rfl, (blk_cell BK262.out 1).trans rfl, (blk_cell BK262.out 2).trans rfl, (blk_cell BK262.out 3).trans rfl, (blk_cell BK262.out 4).trans rfl, (blk_cell BK262.out 5).trans rfl, (blk_cell BK262.out 6).trans rfl, (blk_cell BK262.out 7).trans rfl, (blk_cell BK262.out 8).trans rfl⟩ (fun hHeld => ?_)
       clear hK K
       refine norm_ (a' := ?_) ?_ ?_
       rotate_left
       ·show Act.put _ (some 43) _ = _
        simp only [Act.put, List.setIfInBounds_toArray, List.set_cons_zero, List.set_cons_succ, i64_w, i32_w]
        rfl
       refine pV 7 44 zb22_8 rfl rfl HT_.out (by kernel_rfl) (fun _ _ _ h => h) (Or.inl ⟨by rfl, by intro w'; go_simp; with_reducible rfl⟩) (by simp only [zA, zS, zC, zD, i64_w, i32_w]; rfl) ?_
       refine pV 8 45 zb22_9 rfl rfl HT_.out (by kernel_rfl) (fun _ _ _ h => h) (Or.inl ⟨by rfl, by intro w'; go_simp; with_reducible rfl⟩) (by simp only [zA, zS, zC, zD, i64_w, i32_w]; rfl) ?_
       refine pV 9 46 zb22_10 rfl rfl HT_.out (by kernel_rfl) (fun _ _ _ h => h) (Or.inl ⟨by rfl, by intro w'; go_simp; with_reducible rfl⟩) (by simp only [zA, zS, zC, zD, i64_w, i32_w]; rfl) ?_
       refine take_ (i := 10) (N := some 47) (v := ?_) (a' := ?_) zb22_11 rfl rfl (take_ofW HT_.out HW_.out (by kernel_rfl)) (fun _ _ _ h => h) (Or.inl ⟨by rfl, ?_⟩) hHeld ?_ ?_
       rotate_left
       ·rintro w' ⟨s0, s1, s2, s3, s4, s5, s6, s7, s8⟩
        go_simp
        with_reducible rfl
       rotate_left
       ·simp only [Act.put, List.setIfInBounds_toArray, List.set_cons_zero, List.set_cons_succ, i64_w, i32_w]
        rfl
       refine pV 11 48 zb22_12 rfl rfl HT_.out (by kernel_rfl) (fun _ _ _ h => h) (Or.inl ⟨by rfl, by intro w'; go_simp; with_reducible rfl⟩) (by simp only [zA, zS, zC, zD, i64_w, i32_w]; rfl) ?_
       refine pV 12 49 zb22_13 rfl rfl HT_.out (by kernel_rfl) (fun _ _ _ h => h) (Or.inl ⟨by rfl, by intro w'; go_simp; with_reducible rfl⟩) (by simp only [zA, zS, zC, zD, i64_w, i32_w]; rfl) ?_
       refine pV 13 50 zb22_14 rfl rfl HT_.out (by kernel_rfl) (fun _ _ _ h => h) (Or.inl ⟨by rfl, by intro w'; go_simp; with_reducible rfl⟩) (by simp only [zA, zS, zC, zD, i64_w, i32_w]; rfl) ?_
       refine pV 14 51 zb22_15 rfl rfl HT_.out (by kernel_rfl) (fun _ _ _ h => h) (Or.inr ⟨by rfl, rfl⟩) (by simp only [zA, zS, zC, zD, i64_w, i32_w]; rfl) ?_
       refine pV 15 52 zb22_16 rfl rfl HT_.out (by kernel_rfl) (fun _ _ _ h => h) (Or.inr ⟨by rfl, rfl⟩) (by simp only [zA, zS, zC, zD, i64_w, i32_w]; rfl) ?_
       refine pV 16 53 zb22_17 rfl rfl HT_.out (by kernel_rfl) (fun _ _ _ h => h) (Or.inr ⟨by rfl, rfl⟩) (by simp only [zA, zS, zC, zD, i64_w, i32_w]; rfl) ?_
       refine pV 17 54 zb22_18 rfl rfl HT_.out (by kernel_rfl) (fun _ _ _ h => h) (Or.inl ⟨by rfl, by intro w'; go_simp; with_reducible rfl⟩) (by simp only [zA, zS, zC, zD, i64_w, i32_w]; rfl) ?_
       refine pV 18 55 zb22_19 rfl rfl HT_.out (by kernel_rfl) (fun _ _ _ h => h) (Or.inl ⟨by rfl, by intro w'; go_simp; with_reducible rfl⟩) (by simp only [zA, zS, zC, zD, i64_w, i32_w]; rfl) ?_
       refine pV 19 56 zb22_20 rfl rfl HT_.out (by kernel_rfl) (fun _ _ _ h => h) (Or.inr ⟨by rfl, rfl⟩) (by simp only [zA, zS, zC, zD, i64_w, i32_w]; rfl) ?_
       refine pV 20 57 zb22_38 rfl rfl HT_.out (by kernel_rfl) (fun _ _ _ h => h) (Or.inr ⟨by rfl, rfl⟩) (by simp only [zA, zS, zC, zD, i64_w, i32_w]; rfl) ?_
       refine pV 21 58 zb22_22 rfl rfl HT_.out (by kernel_rfl) (fun _ _ _ h => h) (Or.inr ⟨by rfl, rfl⟩) (by simp only [zA, zS, zC, zD, i64_w, i32_w]; rfl) ?_
       refine pV 22 59 zb22_23 rfl rfl HT_.out (by kernel_rfl) (fun _ _ _ h => h) (Or.inr ⟨by rfl, rfl⟩) (by simp only [zA, zS, zC, zD, i64_w, i32_w]; rfl) ?_
       refine pV 23 60 zb22_24 rfl rfl HT_.out (by kernel_rfl) (fun _ _ _ h => h) (Or.inr ⟨by rfl, rfl⟩) (by simp only [zA, zS, zC, zD, i64_w, i32_w]; rfl) ?_
       refine pV 24 61 zb22_25 rfl rfl HT_.out (by kernel_rfl) (fun _ _ _ h => h) (Or.inl ⟨by rfl, by intro w'; go_simp; with_reducible rfl⟩) (by simp only [zA, zS, zC, zD, i64_w, i32_w]; rfl) ?_
       refine pV 25 62 zb22_26 rfl rfl HT_.out (by kernel_rfl) (fun _ _ _ h => h) (Or.inl ⟨by rfl, by intro w'; go_simp; with_reducible rfl⟩) (by simp only [zA, zS, zC, zD, i64_w, i32_w]; rfl) ?_
       refine pV 26 63 zb22_27 rfl rfl HT_.out (by kernel_rfl) (fun _ _ _ h => h) (Or.inr ⟨by rfl, rfl⟩) (by simp only [zA, zS, zC, zD, i64_w, i32_w]; rfl) ?_
       refine pV 27 64 zb22_35 rfl rfl HT_.out (by kernel_rfl) (fun _ _ _ h => h) (Or.inr ⟨by rfl, rfl⟩) (by simp only [zA, zS, zC, zD, i64_w, i32_w]; rfl) ?_
       refine pV 28 65 zb22_36 rfl rfl HT_.out (by kernel_rfl) (fun _ _ _ h => h) (Or.inr ⟨by rfl, rfl⟩) (by simp only [zA, zS, zC, zD, i64_w, i32_w]; rfl) ?_
       refine pV 29 66 zb22_37 rfl rfl HT_.out (by kernel_rfl) (fun _ _ _ h => h) (Or.inr ⟨by rfl, rfl⟩) (by simp only [zA, zS, zC, zD, i64_w, i32_w]; rfl) ?_
       refine pV 30 67 zb22_28 rfl rfl HT_.out (by kernel_rfl) (fun _ _ _ h => h) (Or.inr ⟨by rfl, rfl⟩) (by simp only [zA, zS, zC, zD, i64_w, i32_w]; rfl) ?_
       refine pV 31 68 zb22_29 rfl rfl HT_.out (by kernel_rfl) (fun _ _ _ h => h) (Or.inr ⟨by rfl, rfl⟩) (by simp only [zA, zS, zC, zD, i64_w, i32_w]; rfl) ?_
       refine pV 32 69 zb22_30 rfl rfl HT_.out (by kernel_rfl) (fun _ _ _ h => h) (Or.inr ⟨by rfl, rfl⟩) (by simp only [zA, zS, zC, zD, i64_w, i32_w]; rfl) ?_
       refine pV 33 70 zb22_31 rfl rfl HT_.out (by kernel_rfl) (fun _ _ _ h => h) (Or.inr ⟨by rfl, rfl⟩) (by simp only [zA, zS, zC, zD, i64_w, i32_w]; rfl) ?_
       refine pV 34 71 zb22_32 rfl rfl HT_.out (by kernel_rfl) (fun _ _ _ h => h) (Or.inr ⟨by rfl, rfl⟩) (by simp only [zA, zS, zC, zD, i64_w, i32_w]; rfl) ?_
       refine pV 35 72 zb22_33 rfl rfl HT_.out (by kernel_rfl) (fun _ _ _ h => h) (Or.inl ⟨by rfl, by intro w'; go_simp; with_reducible rfl⟩) (by simp only [zA, zS, zC, zD, i64_w, i32_w]; rfl) ?_
       refine pV 36 2 zb22_34 rfl rfl HT_.out (by kernel_rfl) (fun _ _ _ h => h) (Or.inl ⟨by rfl, by intro w'; go_simp; with_reducible rfl⟩) (by simp only [zA, zS, zC, zD, i64_w, i32_w]; rfl) ?_
       refine done_ (done_of HT_.out (by kernel_rfl)) ?_
       try go_wp2
       go_ret
       exact ⟨by first | rfl | (simp [errW_none, errW_some] <;> rfl) | (simp [*, errW_none, errW_some] <;> rfl), by repeat (with_reducible first | exact HB.out | apply below_alloc | apply pw_below_drewN | apply below_drew1 | refine below_set ?_ GE262.out)⟩
     ·replace c25 := Bool.eq_false_iff.mpr c25
      subst c25
      have H1 : (some false) = some r := by rw [if_neg (show ¬ (false = true) by decide)] at H; exact H
      clear H
      have H := H1
      clear H1
      obtain rfl := Option.some.inj H
      go_enter Tryd.func39, Tryd.ntmps39
      try go_wp2_with (first | ((with_reducible refine gate_dst (N := 1) rfl ?_); refine box_event ?hg (N := 1) ?hd (cs := #[.int .i64 a0_0, .int .i64 a0_1, .int .i64 a0_2, .int .i64 a0_3, .int .i64 a0_4, .int .i64 a0_5, .int .i64 a0_6, .int .i64 a0_7, .string a0_8]) (t := 36) ?hr ?_; (case hd => rfl); (case hg => rfl); (case hr => first | (go_simp; done) | (go_simp; rfl)); intro gb262 hg w42 hbox hb; have n0_ := Aside0.mk (below_step (by repeat (with_reducible first | exact HB.out | apply below_alloc | apply pw_below_drewN | apply below_drew1)) hb); have n1_ := Aside0.mk (hbox); have n2_ := Aside0.mk ((by rw [hg]; exact (below_size (by repeat (with_reducible first | exact HB.out | apply below_alloc | apply pw_below_drewN | apply below_drew1))) : w.heap.size ≤ gb262)); have n3_ := n2_; clear HB; have HB := n0_; have BK262 := n1_; have GW262 := n2_; have GE262 := n3_; clear n0_ n1_ n2_ n3_; clear hb hbox hg; have hcz43 := blk_cell BK262.out))
      have n0_ := Aside0.mk (blk_drew BK262.out)
      have n1_ := Aside0.mk (below_drew1 HB.out)
      clear BK262
      clear HB
      have BK262 := n0_
      have HB := n1_
      clear n0_ n1_
      refine start_ (n := 37) (S := fun w' => w'.cell? ⟨gb262, 0, none⟩ = some (.int .i64 a0_0) ∧ w'.cell? ⟨gb262, 1, none⟩ = some (.int .i64 a0_1) ∧ w'.cell? ⟨gb262, 2, none⟩ = some (.int .i64 a0_2) ∧ w'.cell? ⟨gb262, 3, none⟩ = some (.int .i64 a0_3) ∧ w'.cell? ⟨gb262, 4, none⟩ = some (.int .i64 a0_4) ∧ w'.cell? ⟨gb262, 5, none⟩ = some (.int .i64 a0_5) ∧ w'.cell? ⟨gb262, 6, none⟩ = some (.int .i64 a0_6) ∧ w'.cell? ⟨gb262, 7, none⟩ = some (.int .i64 a0_7) ∧ w'.cell? ⟨gb262, 8, none⟩ = some (.string a0_8)) (ds := []) zb22_0 (by kernel_rfl) rfl rfl ⟨(blk_cell BK262.out 0).trans rfl, (blk_cell BK262.out 1).trans rfl, (blk_cell BK262.out 2).trans rfl, (blk_cell BK262.out 3).trans rfl, (blk_cell BK262.out 4).trans rfl, (blk_cell BK262.out 5).trans rfl, (blk_cell BK262.out 6).trans rfl, (blk_cell BK262.out 7).trans rfl, (blk_cell BK262.out 8).trans rfl⟩ (fun hHeld => ?_); refine with_tabW corebankref42_fits.tab7 corebankref42_fits.bits7 (fun HT_ HW_ => ?_)
      generalize w42.drew = w44 at BK262 HB hHeld ⊢
      refine pV 0 37 zb22_1 rfl rfl HT_.out (by kernel_rfl) (fun _ _ _ h => h) (Or.inl ⟨by rfl, by intro w'; go_simp; with_reducible rfl⟩) (by simp only [zA, zS, zC, zD, i64_w, i32_w]; rfl) ?_
      refine take_ (i := 1) (N := some 38) (v := ?_) (a' := ?_) zb22_2 rfl rfl (take_ofW HT_.out HW_.out (by kernel_rfl)) (fun _ _ _ h => h) (Or.inl ⟨by rfl, ?_⟩) hHeld ?_ ?_
      rotate_left
      ·rintro w' ⟨s0, s1, s2, s3, s4, s5, s6, s7, s8⟩
       go_simp
       with_reducible rfl
      rotate_left
      ·simp only [Act.put, List.setIfInBounds_toArray, List.set_cons_zero, List.set_cons_succ, i64_w, i32_w]
       rfl
      refine one_ (i := 2) (N := some 39) zb22_3 rfl rfl (one_of HT_.out (by kernel_rfl)) (by decide) (fun K hK => ?_)
      refine goes_ Tryd.func41 (by kernel_rfl) rfl #[.int .i64 a0_4] (by rfl) rfl rfl (by (try simp only [List.map_toArray, List.map_cons, List.map_nil]); first | done | rfl | (simp only [List.length_drop, List.length_take]; rfl)) ?_
      with_reducible refine (corebankref04_Valid.calls a0_4 true _ A22.out).mono ?_
      rintro e w' ⟨rfl, ⟨nd, rfl⟩⟩
      refine ⟨_, rfl, ?_⟩
      refine hK.out _ _ ⟨(blk_cell BK262.out 0).trans rfl, (blk_cell BK262.out 1).trans rfl, (blk_cell BK262.out 2).trans rfl, (blk_cell BK262.out 3).trans rfl, (blk_cell BK262.out 4).trans rfl, (blk_cell BK262.out 5).trans rfl, (blk_cell BK262.out 6).trans rfl, (blk_cell BK262.out 7).trans rfl, (blk_cell BK262.out 8).trans rfl⟩ (fun hHeld => ?_)
      clear hK K
      refine norm_ (a' := ?_) ?_ ?_
      rotate_left
      ·show Act.put _ (some 39) _ = _
       simp only [Act.put, List.setIfInBounds_toArray, List.set_cons_zero, List.set_cons_succ, i64_w, i32_w]
       rfl
      refine pV 3 40 zb22_4 rfl rfl HT_.out (by kernel_rfl) (fun _ _ _ h => h) (Or.inl ⟨by rfl, by intro w'; go_simp; with_reducible rfl⟩) (by simp only [zA, zS, zC, zD, i64_w, i32_w]; rfl) ?_
      refine pV 4 41 zb22_5 rfl rfl HT_.out (by kernel_rfl) (fun _ _ _ h => h) (Or.inl ⟨by rfl, by intro w'; go_simp; with_reducible rfl⟩) (by simp only [zA, zS, zC, zD, i64_w, i32_w]; rfl) ?_
      refine take_ (i := 5) (N := some 42) (v := ?_) (a' := ?_) zb22_6 rfl rfl (take_ofW HT_.out HW_.out (by kernel_rfl)) (fun _ _ _ h => h) (Or.inl ⟨by rfl, ?_⟩) hHeld ?_ ?_
      rotate_left
      ·rintro w' ⟨s0, s1, s2, s3, s4, s5, s6, s7, s8⟩
       go_simp
       with_reducible rfl
      rotate_left
      ·simp only [Act.put, List.setIfInBounds_toArray, List.set_cons_zero, List.set_cons_succ, i64_w, i32_w]
       rfl
      refine one_ (i := 6) (N := some 43) zb22_7 rfl rfl (one_of HT_.out (by kernel_rfl)) (by decide) (fun K hK => ?_)
      refine goes_ Tryd.func41 (by kernel_rfl) rfl #[.int .i64 a0_5] (by rfl) rfl rfl (by (try simp only [List.map_toArray, List.map_cons, List.map_nil]); first | done | rfl | (simp only [List.length_drop, List.length_take]; rfl)) ?_
      with_reducible refine (corebankref04_Valid.calls a0_5 false _ A24.out).mono ?_
      rintro e w' ⟨rfl, ⟨nd, rfl⟩⟩
      refine ⟨_, rfl, ?_⟩
      refine hK.out _ _ ⟨(blk_cell BK262.out 0).trans rfl, (blk_cell BK262.out 1).trans rfl, (blk_cell BK262.out 2).trans rfl, (blk_cell BK262.out 3).trans rfl, (blk_cell BK262.out 4).trans rfl, (blk_cell BK262.out 5).trans rfl, (blk_cell BK262.out 6).trans rfl, (blk_cell BK262.out 7).trans rfl, (blk_cell BK262.out 8).trans rfl⟩ (fun hHeld => ?_)
      clear hK K
      refine norm_ (a' := ?_) ?_ ?_
      rotate_left
      ·show Act.put _ (some 43) _ = _
       simp only [Act.put, List.setIfInBounds_toArray, List.set_cons_zero, List.set_cons_succ, i64_w, i32_w]
       rfl
      refine pV 7 44 zb22_8 rfl rfl HT_.out (by kernel_rfl) (fun _ _ _ h => h) (Or.inl ⟨by rfl, by intro w'; go_simp; with_reducible rfl⟩) (by simp only [zA, zS, zC, zD, i64_w, i32_w]; rfl) ?_
      refine pV 8 45 zb22_9 rfl rfl HT_.out (by kernel_rfl) (fun _ _ _ h => h) (Or.inl ⟨by rfl, by intro w'; go_simp; with_reducible rfl⟩) (by simp only [zA, zS, zC, zD, i64_w, i32_w]; rfl) ?_
      refine pV 9 46 zb22_10 rfl rfl HT_.out (by kernel_rfl) (fun _ _ _ h => h) (Or.inr ⟨by rfl, rfl⟩) (by simp only [zA, zS, zC, zD, i64_w, i32_w]; rfl) ?_
      refine pV 10 47 zb22_11 rfl rfl HT_.out (by kernel_rfl) (fun _ _ _ h => h) (Or.inr ⟨by rfl, rfl⟩) (by simp only [zA, zS, zC, zD, i64_w, i32_w]; rfl) ?_
      refine pV 11 48 zb22_12 rfl rfl HT_.out (by kernel_rfl) (fun _ _ _ h => h) (Or.inr ⟨by rfl, rfl⟩) (by simp only [zA, zS, zC, zD, i64_w, i32_w]; rfl) ?_
      refine pV 12 49 zb22_13 rfl rfl HT_.out (by kernel_rfl) (fun _ _ _ h => h) (Or.inl ⟨by rfl, by intro w'; go_simp; with_reducible rfl⟩) (by simp only [zA, zS, zC, zD, i64_w, i32_w]; rfl) ?_
      refine pV 13 50 zb22_14 rfl rfl HT_.out (by kernel_rfl) (fun _ _ _ h => h) (Or.inl ⟨by rfl, by intro w'; go_simp; with_reducible rfl⟩) (by simp only [zA, zS, zC, zD, i64_w, i32_w]; rfl) ?_
      refine pV 14 51 zb22_15 rfl rfl HT_.out (by kernel_rfl) (fun _ _ _ h => h) (Or.inr ⟨by rfl, rfl⟩) (by simp only [zA, zS, zC, zD, i64_w, i32_w]; rfl) ?_
      refine pV 15 52 zb22_16 rfl rfl HT_.out (by kernel_rfl) (fun _ _ _ h => h) (Or.inr ⟨by rfl, rfl⟩) (by simp only [zA, zS, zC, zD, i64_w, i32_w]; rfl) ?_
      refine pV 16 53 zb22_17 rfl rfl HT_.out (by kernel_rfl) (fun _ _ _ h => h) (Or.inr ⟨by rfl, rfl⟩) (by simp only [zA, zS, zC, zD, i64_w, i32_w]; rfl) ?_
      refine pV 17 54 zb22_18 rfl rfl HT_.out (by kernel_rfl) (fun _ _ _ h => h) (Or.inl ⟨by rfl, by intro w'; go_simp; with_reducible rfl⟩) (by simp only [zA, zS, zC, zD, i64_w, i32_w]; rfl) ?_
      refine pV 18 55 zb22_19 rfl rfl HT_.out (by kernel_rfl) (fun _ _ _ h => h) (Or.inl ⟨by rfl, by intro w'; go_simp; with_reducible rfl⟩) (by simp only [zA, zS, zC, zD, i64_w, i32_w]; rfl) ?_
      refine pV 19 56 zb22_20 rfl rfl HT_.out (by kernel_rfl) (fun _ _ _ h => h) (Or.inr ⟨by rfl, rfl⟩) (by simp only [zA, zS, zC, zD, i64_w, i32_w]; rfl) ?_
      refine pV 20 57 zb22_38 rfl rfl HT_.out (by kernel_rfl) (fun _ _ _ h => h) (Or.inr ⟨by rfl, rfl⟩) (by simp only [zA, zS, zC, zD, i64_w, i32_w]; rfl) ?_
      refine pV 21 58 zb22_22 rfl rfl HT_.out (by kernel_rfl) (fun _ _ _ h => h) (Or.inr ⟨by rfl, rfl⟩) (by simp only [zA, zS, zC, zD, i64_w, i32_w]; rfl) ?_
      refine pV 22 59 zb22_23 rfl rfl HT_.out (by kernel_rfl) (fun _ _ _ h => h) (Or.inr ⟨by rfl, rfl⟩) (by simp only [zA, zS, zC, zD, i64_w, i32_w]; rfl) ?_
      refine pV 23 60 zb22_24 rfl rfl HT_.out (by kernel_rfl) (fun _ _ _ h => h) (Or.inr ⟨by rfl, rfl⟩) (by simp only [zA, zS, zC, zD, i64_w, i32_w]; rfl) ?_
      refine pV 24 61 zb22_25 rfl rfl HT_.out (by kernel_rfl) (fun _ _ _ h => h) (Or.inl ⟨by rfl, by intro w'; go_simp; with_reducible rfl⟩) (by simp only [zA, zS, zC, zD, i64_w, i32_w]; rfl) ?_
      refine pV 25 62 zb22_26 rfl rfl HT_.out (by kernel_rfl) (fun _ _ _ h => h) (Or.inl ⟨by rfl, by intro w'; go_simp; with_reducible rfl⟩) (by simp only [zA, zS, zC, zD, i64_w, i32_w]; rfl) ?_
      refine pV 26 63 zb22_27 rfl rfl HT_.out (by kernel_rfl) (fun _ _ _ h => h) (Or.inr ⟨by rfl, rfl⟩) (by simp only [zA, zS, zC, zD, i64_w, i32_w]; rfl) ?_
      refine pV 27 64 zb22_35 rfl rfl HT_.out (by kernel_rfl) (fun _ _ _ h => h) (Or.inr ⟨by rfl, rfl⟩) (by simp only [zA, zS, zC, zD, i64_w, i32_w]; rfl) ?_
      refine pV 28 65 zb22_36 rfl rfl HT_.out (by kernel_rfl) (fun _ _ _ h => h) (Or.inr ⟨by rfl, rfl⟩) (by simp only [zA, zS, zC, zD, i64_w, i32_w]; rfl) ?_
      refine pV 29 66 zb22_37 rfl rfl HT_.out (by kernel_rfl) (fun _ _ _ h => h) (Or.inr ⟨by rfl, rfl⟩) (by simp only [zA, zS, zC, zD, i64_w, i32_w]; rfl) ?_
      refine pV 30 67 zb22_28 rfl rfl HT_.out (by kernel_rfl) (fun _ _ _ h => h) (Or.inr ⟨by rfl, rfl⟩) (by simp only [zA, zS, zC, zD, i64_w, i32_w]; rfl) ?_
      refine pV 31 68 zb22_29 rfl rfl HT_.out (by kernel_rfl) (fun _ _ _ h => h) (Or.inr ⟨by rfl, rfl⟩) (by simp only [zA, zS, zC, zD, i64_w, i32_w]; rfl) ?_
      refine pV 32 69 zb22_30 rfl rfl HT_.out (by kernel_rfl) (fun _ _ _ h => h) (Or.inr ⟨by rfl, rfl⟩) (by simp only [zA, zS, zC, zD, i64_w, i32_w]; rfl) ?_
      refine pV 33 70 zb22_31 rfl rfl HT_.out (by kernel_rfl) (fun _ _ _ h => h) (Or.inr ⟨by rfl, rfl⟩) (by simp only [zA, zS, zC, zD, i64_w, i32_w]; rfl) ?_
      refine pV 34 71 zb22_32 rfl rfl HT_.out (by kernel_rfl) (fun _ _ _ h => h) (Or.inr ⟨by rfl, rfl⟩) (by simp only [zA, zS, zC, zD, i64_w, i32_w]; rfl) ?_
      refine pV 35 72 zb22_33 rfl rfl HT_.out (by kernel_rfl) (fun _ _ _ h => h) (Or.inl ⟨by rfl, by intro w'; go_simp; with_reducible rfl⟩) (by simp only [zA, zS, zC, zD, i64_w, i32_w]; rfl) ?_
      refine pV 36 2 zb22_34 rfl rfl HT_.out (by kernel_rfl) (fun _ _ _ h => h) (Or.inl ⟨by rfl, by intro w'; go_simp; with_reducible rfl⟩) (by simp only [zA, zS, zC, zD, i64_w, i32_w]; rfl) ?_
      refine done_ (done_of HT_.out (by kernel_rfl)) ?_
      try go_wp2
      go_ret
      exact ⟨by first | rfl | (simp [errW_none, errW_some] <;> rfl) | (simp [*, errW_none, errW_some] <;> rfl), by repeat (with_reducible first | exact HB.out | apply below_alloc | apply pw_below_drewN | apply below_drew1 | refine below_set ?_ GE262.out)⟩
    ·replace c23 := Bool.eq_false_iff.mpr c23
     subst c23
     have H1 : (some false) = some r := by rw [if_neg (show ¬ (false = true) by decide)] at H; exact H
     clear H
     have H := H1
     clear H1
     obtain rfl := Option.some.inj H
     go_enter Tryd.func39, Tryd.ntmps39
     try go_wp2_with (first | ((with_reducible refine gate_dst (N := 1) rfl ?_); refine box_event ?hg (N := 1) ?hd (cs := #[.int .i64 a0_0, .int .i64 a0_1, .int .i64 a0_2, .int .i64 a0_3, .int .i64 a0_4, .int .i64 a0_5, .int .i64 a0_6, .int .i64 a0_7, .string a0_8]) (t := 36) ?hr ?_; (case hd => rfl); (case hg => rfl); (case hr => first | (go_simp; done) | (go_simp; rfl)); intro gb262 hg w45 hbox hb; have n0_ := Aside0.mk (below_step (by repeat (with_reducible first | exact HB.out | apply below_alloc | apply pw_below_drewN | apply below_drew1)) hb); have n1_ := Aside0.mk (hbox); have n2_ := Aside0.mk ((by rw [hg]; exact (below_size (by repeat (with_reducible first | exact HB.out | apply below_alloc | apply pw_below_drewN | apply below_drew1))) : w.heap.size ≤ gb262)); have n3_ := n2_; clear HB; have HB := n0_; have BK262 := n1_; have GW262 := n2_; have GE262 := n3_; clear n0_ n1_ n2_ n3_; clear hb hbox hg; have hcz46 := blk_cell BK262.out))
     have n0_ := Aside0.mk (blk_drew BK262.out)
     have n1_ := Aside0.mk (below_drew1 HB.out)
     clear BK262
     clear HB
     have BK262 := n0_
     have HB := n1_
     clear n0_ n1_
     refine start_ (n := 37) (S := fun w' => w'.cell? ⟨gb262, 0, none⟩ = some (.int .i64 a0_0) ∧ w'.cell? ⟨gb262, 1, none⟩ = some (.int .i64 a0_1) ∧ w'.cell? ⟨gb262, 2, none⟩ = some (.int .i64 a0_2) ∧ w'.cell? ⟨gb262, 3, none⟩ = some (.int .i64 a0_3) ∧ w'.cell? ⟨gb262, 4, none⟩ = some (.int .i64 a0_4) ∧ w'.cell? ⟨gb262, 5, none⟩ = some (.int .i64 a0_5) ∧ w'.cell? ⟨gb262, 6, none⟩ = some (.int .i64 a0_6) ∧ w'.cell? ⟨gb262, 7, none⟩ = some (.int .i64 a0_7) ∧ w'.cell? ⟨gb262, 8, none⟩ = some (.string a0_8)) (ds := []) zb22_0 (by kernel_rfl) rfl rfl ⟨(blk_cell BK262.out 0).trans rfl, (blk_cell BK262.out 1).trans rfl, (blk_cell BK262.out 2).trans rfl, (blk_cell BK262.out 3).trans rfl, (blk_cell BK262.out 4).trans rfl, (blk_cell BK262.out 5).trans rfl, (blk_cell BK262.out 6).trans rfl, (blk_cell BK262.out 7).trans rfl, (blk_cell BK262.out 8).trans rfl⟩ (fun hHeld => ?_); refine with_tabW corebankref42_fits.tab7 corebankref42_fits.bits7 (fun HT_ HW_ => ?_)
     generalize w45.drew = w47 at BK262 HB hHeld ⊢
     refine pV 0 37 zb22_1 rfl rfl HT_.out (by kernel_rfl) (fun _ _ _ h => h) (Or.inl ⟨by rfl, by intro w'; go_simp; with_reducible rfl⟩) (by simp only [zA, zS, zC, zD, i64_w, i32_w]; rfl) ?_
     refine take_ (i := 1) (N := some 38) (v := ?_) (a' := ?_) zb22_2 rfl rfl (take_ofW HT_.out HW_.out (by kernel_rfl)) (fun _ _ _ h => h) (Or.inl ⟨by rfl, ?_⟩) hHeld ?_ ?_
     rotate_left
     ·rintro w' ⟨s0, s1, s2, s3, s4, s5, s6, s7, s8⟩
      go_simp
      with_reducible rfl
     rotate_left
     ·simp only [Act.put, List.setIfInBounds_toArray, List.set_cons_zero, List.set_cons_succ, i64_w, i32_w]
      rfl
     refine one_ (i := 2) (N := some 39) zb22_3 rfl rfl (one_of HT_.out (by kernel_rfl)) (by decide) (fun K hK => ?_)
     refine goes_ Tryd.func41 (by kernel_rfl) rfl #[.int .i64 a0_4] (by rfl) rfl rfl (by (try simp only [List.map_toArray, List.map_cons, List.map_nil]); first | done | rfl | (simp only [List.length_drop, List.length_take]; rfl)) ?_
     with_reducible refine (corebankref04_Valid.calls a0_4 false _ A22.out).mono ?_
     rintro e w' ⟨rfl, ⟨nd, rfl⟩⟩
     refine ⟨_, rfl, ?_⟩
     refine hK.out _ _ ⟨(blk_cell BK262.out 0).trans rfl, (blk_cell BK262.out 1).trans rfl, (blk_cell BK262.out 2).trans rfl, (blk_cell BK262.out 3).trans rfl, (blk_cell BK262.out 4).trans rfl, (blk_cell BK262.out 5).trans rfl, (blk_cell BK262.out 6).trans rfl, (blk_cell BK262.out 7).trans rfl, (blk_cell BK262.out 8).trans rfl⟩ (fun hHeld => ?_)
     clear hK K
     refine norm_ (a' := ?_) ?_ ?_
     rotate_left
     ·show Act.put _ (some 39) _ = _
      simp only [Act.put, List.setIfInBounds_toArray, List.set_cons_zero, List.set_cons_succ, i64_w, i32_w]
      rfl
     refine pV 3 40 zb22_4 rfl rfl HT_.out (by kernel_rfl) (fun _ _ _ h => h) (Or.inl ⟨by rfl, by intro w'; go_simp; with_reducible rfl⟩) (by simp only [zA, zS, zC, zD, i64_w, i32_w]; rfl) ?_
     refine pV 4 41 zb22_5 rfl rfl HT_.out (by kernel_rfl) (fun _ _ _ h => h) (Or.inr ⟨by rfl, rfl⟩) (by simp only [zA, zS, zC, zD, i64_w, i32_w]; rfl) ?_
     refine pV 5 42 zb22_6 rfl rfl HT_.out (by kernel_rfl) (fun _ _ _ h => h) (Or.inr ⟨by rfl, rfl⟩) (by simp only [zA, zS, zC, zD, i64_w, i32_w]; rfl) ?_
     refine pV 6 43 zb22_7 rfl rfl HT_.out (by kernel_rfl) (fun _ _ _ h => h) (Or.inr ⟨by rfl, rfl⟩) (by simp only [zA, zS, zC, zD, i64_w, i32_w]; rfl) ?_
     refine pV 7 44 zb22_8 rfl rfl HT_.out (by kernel_rfl) (fun _ _ _ h => h) (Or.inl ⟨by rfl, by intro w'; go_simp; with_reducible rfl⟩) (by simp only [zA, zS, zC, zD, i64_w, i32_w]; rfl) ?_
     refine pV 8 45 zb22_9 rfl rfl HT_.out (by kernel_rfl) (fun _ _ _ h => h) (Or.inl ⟨by rfl, by intro w'; go_simp; with_reducible rfl⟩) (by simp only [zA, zS, zC, zD, i64_w, i32_w]; rfl) ?_
     refine pV 9 46 zb22_10 rfl rfl HT_.out (by kernel_rfl) (fun _ _ _ h => h) (Or.inr ⟨by rfl, rfl⟩) (by simp only [zA, zS, zC, zD, i64_w, i32_w]; rfl) ?_
     refine pV 10 47 zb22_11 rfl rfl HT_.out (by kernel_rfl) (fun _ _ _ h => h) (Or.inr ⟨by rfl, rfl⟩) (by simp only [zA, zS, zC, zD, i64_w, i32_w]; rfl) ?_
     refine pV 11 48 zb22_12 rfl rfl HT_.out (by kernel_rfl) (fun _ _ _ h => h) (Or.inr ⟨by rfl, rfl⟩) (by simp only [zA, zS, zC, zD, i64_w, i32_w]; rfl) ?_
     refine pV 12 49 zb22_13 rfl rfl HT_.out (by kernel_rfl) (fun _ _ _ h => h) (Or.inl ⟨by rfl, by intro w'; go_simp; with_reducible rfl⟩) (by simp only [zA, zS, zC, zD, i64_w, i32_w]; rfl) ?_
     refine pV 13 50 zb22_14 rfl rfl HT_.out (by kernel_rfl) (fun _ _ _ h => h) (Or.inl ⟨by rfl, by intro w'; go_simp; with_reducible rfl⟩) (by simp only [zA, zS, zC, zD, i64_w, i32_w]; rfl) ?_
     refine pV 14 51 zb22_15 rfl rfl HT_.out (by kernel_rfl) (fun _ _ _ h => h) (Or.inr ⟨by rfl, rfl⟩) (by simp only [zA, zS, zC, zD, i64_w, i32_w]; rfl) ?_
     refine pV 15 52 zb22_16 rfl rfl HT_.out (by kernel_rfl) (fun _ _ _ h => h) (Or.inr ⟨by rfl, rfl⟩) (by simp only [zA, zS, zC, zD, i64_w, i32_w]; rfl) ?_
     refine pV 16 53 zb22_17 rfl rfl HT_.out (by kernel_rfl) (fun _ _ _ h => h) (Or.inr ⟨by rfl, rfl⟩) (by simp only [zA, zS, zC, zD, i64_w, i32_w]; rfl) ?_
     refine pV 17 54 zb22_18 rfl rfl HT_.out (by kernel_rfl) (fun _ _ _ h => h) (Or.inl ⟨by rfl, by intro w'; go_simp; with_reducible rfl⟩) (by simp only [zA, zS, zC, zD, i64_w, i32_w]; rfl) ?_
     refine pV 18 55 zb22_19 rfl rfl HT_.out (by kernel_rfl) (fun _ _ _ h => h) (Or.inl ⟨by rfl, by intro w'; go_simp; with_reducible rfl⟩) (by simp only [zA, zS, zC, zD, i64_w, i32_w]; rfl) ?_
     refine pV 19 56 zb22_20 rfl rfl HT_.out (by kernel_rfl) (fun _ _ _ h => h) (Or.inr ⟨by rfl, rfl⟩) (by simp only [zA, zS, zC, zD, i64_w, i32_w]; rfl) ?_
     refine pV 20 57 zb22_38 rfl rfl HT_.out (by kernel_rfl) (fun _ _ _ h => h) (Or.inr ⟨by rfl, rfl⟩) (by simp only [zA, zS, zC, zD, i64_w, i32_w]; rfl) ?_
     refine pV 21 58 zb22_22 rfl rfl HT_.out (by kernel_rfl) (fun _ _ _ h => h) (Or.inr ⟨by rfl, rfl⟩) (by simp only [zA, zS, zC, zD, i64_w, i32_w]; rfl) ?_
     refine pV 22 59 zb22_23 rfl rfl HT_.out (by kernel_rfl) (fun _ _ _ h => h) (Or.inr ⟨by rfl, rfl⟩) (by simp only [zA, zS, zC, zD, i64_w, i32_w]; rfl) ?_
     refine pV 23 60 zb22_24 rfl rfl HT_.out (by kernel_rfl) (fun _ _ _ h => h) (Or.inr ⟨by rfl, rfl⟩) (by simp only [zA, zS, zC, zD, i64_w, i32_w]; rfl) ?_
     refine pV 24 61 zb22_25 rfl rfl HT_.out (by kernel_rfl) (fun _ _ _ h => h) (Or.inl ⟨by rfl, by intro w'; go_simp; with_reducible rfl⟩) (by simp only [zA, zS, zC, zD, i64_w, i32_w]; rfl) ?_
     refine pV 25 62 zb22_26 rfl rfl HT_.out (by kernel_rfl) (fun _ _ _ h => h) (Or.inl ⟨by rfl, by intro w'; go_simp; with_reducible rfl⟩) (by simp only [zA, zS, zC, zD, i64_w, i32_w]; rfl) ?_
     refine pV 26 63 zb22_27 rfl rfl HT_.out (by kernel_rfl) (fun _ _ _ h => h) (Or.inr ⟨by rfl, rfl⟩) (by simp only [zA, zS, zC, zD, i64_w, i32_w]; rfl) ?_
     refine pV 27 64 zb22_35 rfl rfl HT_.out (by kernel_rfl) (fun _ _ _ h => h) (Or.inr ⟨by rfl, rfl⟩) (by simp only [zA, zS, zC, zD, i64_w, i32_w]; rfl) ?_
     refine pV 28 65 zb22_36 rfl rfl HT_.out (by kernel_rfl) (fun _ _ _ h => h) (Or.inr ⟨by rfl, rfl⟩) (by simp only [zA, zS, zC, zD, i64_w, i32_w]; rfl) ?_
     refine pV 29 66 zb22_37 rfl rfl HT_.out (by kernel_rfl) (fun _ _ _ h => h) (Or.inr ⟨by rfl, rfl⟩) (by simp only [zA, zS, zC, zD, i64_w, i32_w]; rfl) ?_
     refine pV 30 67 zb22_28 rfl rfl HT_.out (by kernel_rfl) (fun _ _ _ h => h) (Or.inr ⟨by rfl, rfl⟩) (by simp only [zA, zS, zC, zD, i64_w, i32_w]; rfl) ?_
     refine pV 31 68 zb22_29 rfl rfl HT_.out (by kernel_rfl) (fun _ _ _ h => h) (Or.inr ⟨by rfl, rfl⟩) (by simp only [zA, zS, zC, zD, i64_w, i32_w]; rfl) ?_
     refine pV 32 69 zb22_30 rfl rfl HT_.out (by kernel_rfl) (fun _ _ _ h => h) (Or.inr ⟨by rfl, rfl⟩) (by simp only [zA, zS, zC, zD, i64_w, i32_w]; rfl) ?_
     refine pV 33 70 zb22_31 rfl rfl HT_.out (by kernel_rfl) (fun _ _ _ h => h) (Or.inr ⟨by rfl, rfl⟩) (by simp only [zA, zS, zC, zD, i64_w, i32_w]; rfl) ?_
     refine pV 34 71 zb22_32 rfl rfl HT_.out (by kernel_rfl) (fun _ _ _ h => h) (Or.inr ⟨by rfl, rfl⟩) (by simp only [zA, zS, zC, zD, i64_w, i32_w]; rfl) ?_
     refine pV 35 72 zb22_33 rfl rfl HT_.out (by kernel_rfl) (fun _ _ _ h => h) (Or.inl ⟨by rfl, by intro w'; go_simp; with_reducible rfl⟩) (by simp only [zA, zS, zC, zD, i64_w, i32_w]; rfl) ?_
     refine pV 36 2 zb22_34 rfl rfl HT_.out (by kernel_rfl) (fun _ _ _ h => h) (Or.inl ⟨by rfl, by intro w'; go_simp; with_reducible rfl⟩) (by simp only [zA, zS, zC, zD, i64_w, i32_w]; rfl) ?_
     refine done_ (done_of HT_.out (by kernel_rfl)) ?_
     try go_wp2
     go_ret
     exact ⟨by first | rfl | (simp [errW_none, errW_some] <;> rfl) | (simp [*, errW_none, errW_some] <;> rfl), by repeat (with_reducible first | exact HB.out | apply below_alloc | apply pw_below_drewN | apply below_drew1 | refine below_set ?_ GE262.out)⟩
   ·rw [if_neg c21] at H
    have c21b0 : (a0_7 == 3) = false := beq_eq_false_iff_ne.mpr c21
    have c21b1 : (a0_7 != 3) = true := bne_iff_ne.mpr c21
    by_cases c48 : a0_7 = 4
    ·rw [if_pos c48] at H
     have c48b0 : (a0_7 == 4) = true := beq_iff_eq.mpr c48
     have c48b1 : (a0_7 != 4) = false := bne_eq_false_iff_eq.mpr c48
     clear c48
     by_cases c49 : a0_4 = 0
     ·rw [if_pos c49] at H
      have c49b0 : (a0_4 == 0) = true := beq_iff_eq.mpr c49
      have c49b1 : (a0_4 != 0) = false := bne_eq_false_iff_eq.mpr c49
      clear c49
      by_cases c50 : a0_5 = 0
      ·rw [if_pos c50] at H
       have c50b0 : (a0_5 == 0) = true := beq_iff_eq.mpr c50
       have c50b1 : (a0_5 != 0) = false := bne_eq_false_iff_eq.mpr c50
       clear c50
       by_cases c51 : a0_6 ≥ 1
       ·rw [if_pos c51] at H
        have c51b0 : decide (1 ≤ a0_6) = true := decide_eq_true c51
        clear c51
        obtain rfl := Option.some.inj H
        go_enter Tryd.func39, Tryd.ntmps39
        go_wp2_with (first | ((with_reducible refine gate_dst (N := 1) rfl ?_); refine box_event ?hg (N := 1) ?hd (cs := #[.int .i64 a0_0, .int .i64 a0_1, .int .i64 a0_2, .int .i64 a0_3, .int .i64 a0_4, .int .i64 a0_5, .int .i64 a0_6, .int .i64 a0_7, .string a0_8]) (t := 36) ?hr ?_; (case hd => rfl); (case hg => rfl); (case hr => first | (go_simp; done) | (go_simp; rfl)); intro gb262 hg w52 hbox hb; have n0_ := Aside0.mk (below_step (by repeat (with_reducible first | exact HB.out | apply below_alloc | apply pw_below_drewN | apply below_drew1)) hb); have n1_ := Aside0.mk (hbox); have n2_ := Aside0.mk ((by rw [hg]; exact (below_size (by repeat (with_reducible first | exact HB.out | apply below_alloc | apply pw_below_drewN | apply below_drew1))) : w.heap.size ≤ gb262)); have n3_ := n2_; clear HB; have HB := n0_; have BK262 := n1_; have GW262 := n2_; have GE262 := n3_; clear n0_ n1_ n2_ n3_; clear hb hbox hg; have hcz53 := blk_cell BK262.out))
        go_ret
        exact ⟨by first | rfl | (simp [errW_none, errW_some] <;> rfl) | (simp [*, errW_none, errW_some] <;> rfl), by repeat (with_reducible first | exact HB.out | apply below_alloc | apply pw_below_drewN | apply below_drew1 | refine below_set ?_ GE262.out)⟩
       ·rw [if_neg c51] at H
        have c51b0 : decide (1 ≤ a0_6) = false := decide_eq_false c51
        clear c51
        obtain rfl := Option.some.inj H
        go_enter Tryd.func39, Tryd.ntmps39
        go_wp2_with (first | ((with_reducible refine gate_dst (N := 1) rfl ?_); refine box_event ?hg (N := 1) ?hd (cs := #[.int .i64 a0_0, .int .i64 a0_1, .int .i64 a0_2, .int .i64 a0_3, .int .i64 a0_4, .int .i64 a0_5, .int .i64 a0_6, .int .i64 a0_7, .string a0_8]) (t := 36) ?hr ?_; (case hd => rfl); (case hg => rfl); (case hr => first | (go_simp; done) | (go_simp; rfl)); intro gb262 hg w54 hbox hb; have n0_ := Aside0.mk (below_step (by repeat (with_reducible first | exact HB.out | apply below_alloc | apply pw_below_drewN | apply below_drew1)) hb); have n1_ := Aside0.mk (hbox); have n2_ := Aside0.mk ((by rw [hg]; exact (below_size (by repeat (with_reducible first | exact HB.out | apply below_alloc | apply pw_below_drewN | apply below_drew1))) : w.heap.size ≤ gb262)); have n3_ := n2_; clear HB; have HB := n0_; have BK262 := n1_; have GW262 := n2_; have GE262 := n3_; clear n0_ n1_ n2_ n3_; clear hb hbox hg; have hcz55 := blk_cell BK262.out))
        go_ret
        exact ⟨by first | rfl | (simp [errW_none, errW_some] <;> rfl) | (simp [*, errW_none, errW_some] <;> rfl), by repeat (with_reducible first | exact HB.out | apply below_alloc | apply pw_below_drewN | apply below_drew1 | refine below_set ?_ GE262.out)⟩
      ·rw [if_neg c50] at H
       have c50b0 : (a0_5 == 0) = false := beq_eq_false_iff_ne.mpr c50
       have c50b1 : (a0_5 != 0) = true := bne_iff_ne.mpr c50
       obtain rfl := Option.some.inj H
       go_enter Tryd.func39, Tryd.ntmps39
       go_wp2_with (first | ((with_reducible refine gate_dst (N := 1) rfl ?_); refine box_event ?hg (N := 1) ?hd (cs := #[.int .i64 a0_0, .int .i64 a0_1, .int .i64 a0_2, .int .i64 a0_3, .int .i64 a0_4, .int .i64 a0_5, .int .i64 a0_6, .int .i64 a0_7, .string a0_8]) (t := 36) ?hr ?_; (case hd => rfl); (case hg => rfl); (case hr => first | (go_simp; done) | (go_simp; rfl)); intro gb262 hg w56 hbox hb; have n0_ := Aside0.mk (below_step (by repeat (with_reducible first | exact HB.out | apply below_alloc | apply pw_below_drewN | apply below_drew1)) hb); have n1_ := Aside0.mk (hbox); have n2_ := Aside0.mk ((by rw [hg]; exact (below_size (by repeat (with_reducible first | exact HB.out | apply below_alloc | apply pw_below_drewN | apply below_drew1))) : w.heap.size ≤ gb262)); have n3_ := n2_; clear HB; have HB := n0_; have BK262 := n1_; have GW262 := n2_; have GE262 := n3_; clear n0_ n1_ n2_ n3_; clear hb hbox hg; have hcz57 := blk_cell BK262.out))
       go_ret
       exact ⟨by first | rfl | (simp [errW_none, errW_some] <;> rfl) | (simp [*, errW_none, errW_some] <;> rfl), by repeat (with_reducible first | exact HB.out | apply below_alloc | apply pw_below_drewN | apply below_drew1 | refine below_set ?_ GE262.out)⟩
     ·rw [if_neg c49] at H
      have c49b0 : (a0_4 == 0) = false := beq_eq_false_iff_ne.mpr c49
      have c49b1 : (a0_4 != 0) = true := bne_iff_ne.mpr c49
      obtain rfl := Option.some.inj H
      go_enter Tryd.func39, Tryd.ntmps39
      go_wp2_with (first | ((with_reducible refine gate_dst (N := 1) rfl ?_); refine box_event ?hg (N := 1) ?hd (cs := #[.int .i64 a0_0, .int .i64 a0_1, .int .i64 a0_2, .int .i64 a0_3, .int .i64 a0_4, .int .i64 a0_5, .int .i64 a0_6, .int .i64 a0_7, .string a0_8]) (t := 36) ?hr ?_; (case hd => rfl); (case hg => rfl); (case hr => first | (go_simp; done) | (go_simp; rfl)); intro gb262 hg w58 hbox hb; have n0_ := Aside0.mk (below_step (by repeat (with_reducible first | exact HB.out | apply below_alloc | apply pw_below_drewN | apply below_drew1)) hb); have n1_ := Aside0.mk (hbox); have n2_ := Aside0.mk ((by rw [hg]; exact (below_size (by repeat (with_reducible first | exact HB.out | apply below_alloc | apply pw_below_drewN | apply below_drew1))) : w.heap.size ≤ gb262)); have n3_ := n2_; clear HB; have HB := n0_; have BK262 := n1_; have GW262 := n2_; have GE262 := n3_; clear n0_ n1_ n2_ n3_; clear hb hbox hg; have hcz59 := blk_cell BK262.out))
      go_ret
      exact ⟨by first | rfl | (simp [errW_none, errW_some] <;> rfl) | (simp [*, errW_none, errW_some] <;> rfl), by repeat (with_reducible first | exact HB.out | apply below_alloc | apply pw_below_drewN | apply below_drew1 | refine below_set ?_ GE262.out)⟩
    ·rw [if_neg c48] at H
     have c48b0 : (a0_7 == 4) = false := beq_eq_false_iff_ne.mpr c48
     have c48b1 : (a0_7 != 4) = true := bne_iff_ne.mpr c48
     obtain rfl := Option.some.inj H
     go_enter Tryd.func39, Tryd.ntmps39
     go_wp2_with (first | ((with_reducible refine gate_dst (N := 1) rfl ?_); refine box_event ?hg (N := 1) ?hd (cs := #[.int .i64 a0_0, .int .i64 a0_1, .int .i64 a0_2, .int .i64 a0_3, .int .i64 a0_4, .int .i64 a0_5, .int .i64 a0_6, .int .i64 a0_7, .string a0_8]) (t := 36) ?hr ?_; (case hd => rfl); (case hg => rfl); (case hr => first | (go_simp; done) | (go_simp; rfl)); intro gb262 hg w60 hbox hb; have n0_ := Aside0.mk (below_step (by repeat (with_reducible first | exact HB.out | apply below_alloc | apply pw_below_drewN | apply below_drew1)) hb); have n1_ := Aside0.mk (hbox); have n2_ := Aside0.mk ((by rw [hg]; exact (below_size (by repeat (with_reducible first | exact HB.out | apply below_alloc | apply pw_below_drewN | apply below_drew1))) : w.heap.size ≤ gb262)); have n3_ := n2_; clear HB; have HB := n0_; have BK262 := n1_; have GW262 := n2_; have GE262 := n3_; clear n0_ n1_ n2_ n3_; clear hb hbox hg; have hcz61 := blk_cell BK262.out))
     go_ret
     exact ⟨by first | rfl | (simp [errW_none, errW_some] <;> rfl) | (simp [*, errW_none, errW_some] <;> rfl), by repeat (with_reducible first | exact HB.out | apply below_alloc | apply pw_below_drewN | apply below_drew1 | refine below_set ?_ GE262.out)⟩

end Go.Proofs.YtfdjgdjmllkdcaaDoor.X
