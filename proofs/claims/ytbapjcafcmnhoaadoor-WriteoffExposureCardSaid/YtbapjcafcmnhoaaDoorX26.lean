-- Written by program (wip/tools/xprint.sh) for this seat; not trusted: Lean checks it.
import Derived.Test.YtbapjcafcmnhoaaDoorX0
import Derived.Test.YtbapjcafcmnhoaaDoorX1
import Derived.Test.YtbapjcafcmnhoaaDoorX5
import Derived.Test.YtbapjcafcmnhoaaDoorX9
import Derived.Test.YtbapjcafcmnhoaaDoorX15
import Derived.Test.YtbapjcafcmnhoaaDoorX16
import Derived.Test.YtbapjcafcmnhoaaDoorX25
namespace Go.Proofs.YtbapjcafcmnhoaaDoor.X
open Go.RowKit Go.Proofs.YtbapjcafcmnhoaaDoorW.PrintWords Go.Proofs.YtbapjcafcmnhoaaDoorW.PrintLast Go.Proofs.YtbapjcafcmnhoaaDoorW.PrintMore
attribute [local go_sem] max2_int min2_int   -- for this text's walks alone
set_option linter.unusedVariables false
set_option linter.unusedSimpArgs false

/-! ### corebanklaw39_WriteoffExposure: function 5 -/
def corebanklaw39_WriteoffExposure.l0 : Nat → List (S27) → Int → Option (Bool)
  | 0, _, _ => none
  | k + 1, x0, x3 => if x3 < (x0.length : Int) then (if 0 ≤ x3 then ((corebanklaw39_few.f ((rd_T27 x0 x3).f0) ((rd_T27 x0 x3).f1) ((rd_T27 x0 x3).f2) ((rd_T27 x0 x3).f3) ((rd_T27 x0 x3).f4) ((rd_T27 x0 x3).f5) ((rd_T27 x0 x3).f6) ((rd_T27 x0 x3).f7) ((rd_T27 x0 x3).f8) ((rd_T27 x0 x3).f9) ((rd_T27 x0 x3).f10) ((rd_T27 x0 x3).f11.f0) ((rd_T27 x0 x3).f11.f1) ((rd_T27 x0 x3).f11.f2) ((rd_T27 x0 x3).f11.f3) ((rd_T27 x0 x3).f11.f4) ((rd_T27 x0 x3).f11.f5) ((rd_T27 x0 x3).f11.f6) ((rd_T27 x0 x3).f11.f7) ((rd_T27 x0 x3).f11.f8) ((rd_T27 x0 x3).f11.f9) ((rd_T27 x0 x3).f11.f10) ((rd_T27 x0 x3).f11.f11) ((rd_T27 x0 x3).f12) ((rd_T27 x0 x3).f13)).bind fun t617 => (if t617 = true then ((corebankref34_Check.f k ((rd_T27 x0 x3).f0) ((rd_T27 x0 x3).f1) ((rd_T27 x0 x3).f2) ((rd_T27 x0 x3).f3) ((rd_T27 x0 x3).f4) ((rd_T27 x0 x3).f5) ((rd_T27 x0 x3).f6) ((rd_T27 x0 x3).f7) ((rd_T27 x0 x3).f8) ((rd_T27 x0 x3).f9) ((rd_T27 x0 x3).f10) ((rd_T27 x0 x3).f11.f0) ((rd_T27 x0 x3).f11.f1) ((rd_T27 x0 x3).f11.f2) ((rd_T27 x0 x3).f11.f3) ((rd_T27 x0 x3).f11.f4) ((rd_T27 x0 x3).f11.f5) ((rd_T27 x0 x3).f11.f6) ((rd_T27 x0 x3).f11.f7) ((rd_T27 x0 x3).f11.f8) ((rd_T27 x0 x3).f11.f9) ((rd_T27 x0 x3).f11.f10) ((rd_T27 x0 x3).f11.f11) ((rd_T27 x0 x3).f12) ((rd_T27 x0 x3).f13)).bind fun t619 => (if t619 = 0 then (corebanklaw39_WriteoffExposure.l0 k x0 (wrap64 (x3 + 1))) else ((corebanklaw39_Lives.f k).bind fun t620 => (some t620)))) else ((corebanklaw39_Lives.f k).bind fun t621 => (some t621)))) else (none)) else ((writeoff_Exposure.f k x0).bind fun t613 => ((corebankref39_Exposure.f k x0).bind fun t614 => (if t613 = t614 then ((corebanklaw39_Lives.f k).bind fun t615 => (some t615)) else (none))))
def corebanklaw39_WriteoffExposure.f (k : Nat) (l0 : List (S27)) : Option (Bool) := if (l0.length : Int) > 20 then ((corebanklaw39_Lives.f k).bind fun t612 => (some t612)) else (corebanklaw39_WriteoffExposure.l0 k l0 0)
theorem corebanklaw39_WriteoffExposure.mono_l : ∀ k, (∀ y0 y1, LeO (corebanklaw39_WriteoffExposure.l0 k y0 y1) (corebanklaw39_WriteoffExposure.l0 (k + 1) y0 y1))
  | 0 => fun _ _ r h => by simp [corebanklaw39_WriteoffExposure.l0] at h
  | k + 1 => by
    have ih0 := corebanklaw39_WriteoffExposure.mono_l k
    · intro y0 y1
      unfold corebanklaw39_WriteoffExposure.l0
      repeat' first
      | (with_reducible exact ih0 _ _)
      | (with_reducible exact corebanklaw39_Lives.mono _)
      | (with_reducible exact corebankref34_Check.mono _ _ _ _ _ _ _ _ _ _ _ _ _ _ _ _ _ _ _ _ _ _ _ _ _ _)
      | (with_reducible exact corebankref39_Exposure.mono _ _)
      | (with_reducible exact writeoff_Exposure.mono _ _)
      | (with_reducible exact LeO.refl _)
      | (with_reducible exact LeO.none _)
      | (with_reducible refine LeO.ite ?_ ?_)
      | (with_reducible refine LeO.bind ?_ (fun _ => ?_))
      | exact ih0 _ _
      | exact corebanklaw39_Lives.mono _
      | exact corebankref34_Check.mono _ _ _ _ _ _ _ _ _ _ _ _ _ _ _ _ _ _ _ _ _ _ _ _ _ _
      | exact corebankref39_Exposure.mono _ _
      | exact writeoff_Exposure.mono _ _
      | exact LeO.none _
      | refine LeO.ite ?_ ?_
      | refine LeO.bind ?_ (fun _ => ?_)
theorem corebanklaw39_WriteoffExposure.mono : ∀ a0 k, LeO (corebanklaw39_WriteoffExposure.f k a0) (corebanklaw39_WriteoffExposure.f (k + 1) a0) := by
  intro a0 k
  have ih0 := corebanklaw39_WriteoffExposure.mono_l k
  unfold corebanklaw39_WriteoffExposure.f
  repeat' first
      | (with_reducible exact ih0 _ _)
      | (with_reducible exact corebanklaw39_Lives.mono _)
      | (with_reducible exact corebankref34_Check.mono _ _ _ _ _ _ _ _ _ _ _ _ _ _ _ _ _ _ _ _ _ _ _ _ _ _)
      | (with_reducible exact corebankref39_Exposure.mono _ _)
      | (with_reducible exact writeoff_Exposure.mono _ _)
      | (with_reducible exact LeO.refl _)
      | (with_reducible exact LeO.none _)
      | (with_reducible refine LeO.ite ?_ ?_)
      | (with_reducible refine LeO.bind ?_ (fun _ => ?_))
      | exact ih0 _ _
      | exact corebanklaw39_Lives.mono _
      | exact corebankref34_Check.mono _ _ _ _ _ _ _ _ _ _ _ _ _ _ _ _ _ _ _ _ _ _ _ _ _ _
      | exact corebankref39_Exposure.mono _ _
      | exact writeoff_Exposure.mono _ _
      | exact LeO.none _
      | refine LeO.ite ?_ ?_
      | refine LeO.bind ?_ (fun _ => ?_)
set_option maxHeartbeats 8000000 in
set_option maxRecDepth 100000 in
theorem corebanklaw39_WriteoffExposure.calls (k : Nat) (A0 : Option Addr) (c0 : Nat) (l0 : List (S27)) (r : Bool) (w : World) (hV : VarOK w) (hr0 : Kd.C k27 w A0 l0.length l0) (hc0 : l0.length ≤ c0) (h : corebanklaw39_WriteoffExposure.f k l0 = some r) :
  Calls Tryd.prog 5 #[.slice A0 l0.length c0] w fun e w' => e = .returned (.bool r) ∧ Below w.heap.size w w' := by
 have HV := Aside0.mk hV
 clear hV
 have hu27 := Tryd.underlying27
 have HR0 := Aside0.mk hr0
 have HC0 := Aside0.mk hc0
 clear hr0 hc0
 have HB := Aside0.mk (Below.refl w.heap.size w)
 have H : (if (l0.length : Int) > 20 then ((corebanklaw39_Lives.f k).bind fun t612 => (some t612)) else (corebanklaw39_WriteoffExposure.l0 k l0 0)) = some r := h
 clear h
 by_cases c2 : (l0.length : Int) > 20
 ·rw [if_pos c2] at H
  have c2b0 : decide (20 < (l0.length : Int)) = true := decide_eq_true c2
  have c2b1 : decide (20 < l0.length) = true := decide_eq_true (by omega)
  clear c2
  replace H := Option.bind_eq_some_iff.mp H
  obtain ⟨t612, A30, H⟩ := H
  replace H : (some t612) = some r := H
  have A3 := Aside0.mk A30
  clear A30
  obtain rfl := Option.some.inj H
  go_enter Tryd.func5, Tryd.ntmps5
  go_wp2_with (first | ((with_reducible refine gate_ld (ty := 27) rfl ?_); apply ldE (qu := Tryd.underlying27); rfl; rfl; rfl; (with_reducible first | exact hel616 | exact hel618); rfl; exact siz27) | ((with_reducible refine gate_callee (f := 9) rfl ?_); refine goesL_ (some 7) rfl rfl Tryd.func9 (by kernel_rfl) rfl #[] rfl (by (try simp only [List.map_toArray, List.map_cons, List.map_nil]); first | done | rfl | (simp only [List.length_drop, List.length_take]; rfl)) ?_; (with_reducible refine (corebanklaw39_Lives.calls k  t612 _ ?sideV A3.out).mono ?_); (case sideV => exact VarOK.below HV.out (by repeat (with_reducible first | exact HB.out | apply below_alloc | apply pw_below_drewN | apply below_drew1))); rintro e w4 ⟨rfl, hb⟩; refine ⟨_, rfl, ?_⟩; have n0_ := Aside0.mk (below_step (by repeat (with_reducible first | exact HB.out | apply below_alloc | apply pw_below_drewN | apply below_drew1)) hb); clear HB; have HB := n0_; clear n0_; (try clear hb); (try clear hb2); (try clear hk); (try clear hi)))
  go_ret
  exact ⟨by first | rfl | (simp [errW_none, errW_some] <;> rfl) | (simp [*, errW_none, errW_some] <;> rfl), by repeat (with_reducible first | exact HB.out | apply below_alloc | apply pw_below_drewN | apply below_drew1)⟩
 ·rw [if_neg c2] at H
  have c2b0 : decide (20 < (l0.length : Int)) = false := decide_eq_false c2
  have c2b1 : decide (20 < l0.length) = false := decide_eq_false (by omega)
  clear c2
  have H' := Aside0.mk H
  clear H
  go_enter Tryd.func5, Tryd.ntmps5
  go_wp2_with (first | ((with_reducible refine gate_ld (ty := 27) rfl ?_); apply ldE (qu := Tryd.underlying27); rfl; rfl; rfl; (with_reducible first | exact hel616 | exact hel618); rfl; exact siz27))
  go_loopg [3] k (fun kq v3 w' => ∃ (x3_1 : Int), v3 = .int .i64 x3_1 ∧ Aside0 (corebanklaw39_WriteoffExposure.l0 kq l0 x3_1 = some r) ∧ Aside0 (kq ≤ k) ∧ Aside0 (Below w.heap.size w w'))
  case atStart => exact ⟨(0), (by first | rfl | (simp [*]; done)), H', ⟨Nat.le_refl _⟩, ⟨by repeat (with_reducible first | exact HB.out | apply below_alloc | apply pw_below_drewN | apply below_drew1)⟩⟩
  case round =>
   clear H'
   try clear c2
   try clear c2b0
   try clear c2b1
   try clear p2
   obtain ⟨x3_1, rfl, HA, HK1, HB⟩ := hrel
   cases gk with
   | zero => exact absurd HA.out (by simp [corebanklaw39_WriteoffExposure.l0])
   | succ k1 =>
    have H := HA.out
    clear HA
    simp only [corebanklaw39_WriteoffExposure.l0] at H
    by_cases c5 : x3_1 < (l0.length : Int)
    ·rw [if_pos c5] at H
     have c5b0 : decide (x3_1 < (l0.length : Int)) = true := decide_eq_true c5
     clear c5
     by_cases c6 : 0 ≤ x3_1
     ·rw [if_pos c6] at H
      have c6b0 : decide (0 ≤ x3_1) = true := decide_eq_true c6
      clear c6
      replace H := Option.bind_eq_some_iff.mp H
      obtain ⟨t617, A70, H⟩ := H
      replace H : (if t617 = true then ((corebankref34_Check.f k1 ((rd_T27 l0 x3_1).f0) ((rd_T27 l0 x3_1).f1) ((rd_T27 l0 x3_1).f2) ((rd_T27 l0 x3_1).f3) ((rd_T27 l0 x3_1).f4) ((rd_T27 l0 x3_1).f5) ((rd_T27 l0 x3_1).f6) ((rd_T27 l0 x3_1).f7) ((rd_T27 l0 x3_1).f8) ((rd_T27 l0 x3_1).f9) ((rd_T27 l0 x3_1).f10) ((rd_T27 l0 x3_1).f11.f0) ((rd_T27 l0 x3_1).f11.f1) ((rd_T27 l0 x3_1).f11.f2) ((rd_T27 l0 x3_1).f11.f3) ((rd_T27 l0 x3_1).f11.f4) ((rd_T27 l0 x3_1).f11.f5) ((rd_T27 l0 x3_1).f11.f6) ((rd_T27 l0 x3_1).f11.f7) ((rd_T27 l0 x3_1).f11.f8) ((rd_T27 l0 x3_1).f11.f9) ((rd_T27 l0 x3_1).f11.f10) ((rd_T27 l0 x3_1).f11.f11) ((rd_T27 l0 x3_1).f12) ((rd_T27 l0 x3_1).f13)).bind fun t619 => (if t619 = 0 then (corebanklaw39_WriteoffExposure.l0 k1 l0 (wrap64 (x3_1 + 1))) else ((corebanklaw39_Lives.f k1).bind fun t620 => (some t620)))) else ((corebanklaw39_Lives.f k1).bind fun t621 => (some t621))) = some r := H
      have A7 := Aside0.mk A70
      clear A70
      by_cases c8 : t617 = true
      ·subst c8
       have H1 : ((corebankref34_Check.f k1 ((rd_T27 l0 x3_1).f0) ((rd_T27 l0 x3_1).f1) ((rd_T27 l0 x3_1).f2) ((rd_T27 l0 x3_1).f3) ((rd_T27 l0 x3_1).f4) ((rd_T27 l0 x3_1).f5) ((rd_T27 l0 x3_1).f6) ((rd_T27 l0 x3_1).f7) ((rd_T27 l0 x3_1).f8) ((rd_T27 l0 x3_1).f9) ((rd_T27 l0 x3_1).f10) ((rd_T27 l0 x3_1).f11.f0) ((rd_T27 l0 x3_1).f11.f1) ((rd_T27 l0 x3_1).f11.f2) ((rd_T27 l0 x3_1).f11.f3) ((rd_T27 l0 x3_1).f11.f4) ((rd_T27 l0 x3_1).f11.f5) ((rd_T27 l0 x3_1).f11.f6) ((rd_T27 l0 x3_1).f11.f7) ((rd_T27 l0 x3_1).f11.f8) ((rd_T27 l0 x3_1).f11.f9) ((rd_T27 l0 x3_1).f11.f10) ((rd_T27 l0 x3_1).f11.f11) ((rd_T27 l0 x3_1).f12) ((rd_T27 l0 x3_1).f13)).bind fun t619 => (if t619 = 0 then (corebanklaw39_WriteoffExposure.l0 k1 l0 (wrap64 (x3_1 + 1))) else ((corebanklaw39_Lives.f k1).bind fun t620 => (some t620)))) = some r := by rw [if_pos rfl] at H; exact H
       clear H
       have H := H1
       clear H1
       replace H := Option.bind_eq_some_iff.mp H
       obtain ⟨t619, A90, H⟩ := H
       replace H : (if t619 = 0 then (corebanklaw39_WriteoffExposure.l0 k1 l0 (wrap64 (x3_1 + 1))) else ((corebanklaw39_Lives.f k1).bind fun t620 => (some t620))) = some r := H
       have A9 := Aside0.mk A90
       clear A90
       by_cases c10 : t619 = 0
       ·rw [if_pos c10] at H
        have c10b0 : (t619 == 0) = true := beq_iff_eq.mpr c10
        have c10b1 : (t619 != 0) = false := bne_eq_false_iff_eq.mpr c10
        clear c10
        have H' := Aside0.mk H
        clear H
        have p616 : 0 ≤ (x3_1 : Int) := of_decide_eq_true (by assumption)
        have q616 : x3_1 < (l0.length : Int) := of_decide_eq_true (by assumption)
        obtain ⟨ad616, A616_23, c616_23, A616_24, c616_24, e616, hx616_0, hx616_1, hx616_2, hx616_3, hx616_4, hx616_5, hx616_6, hx616_7, hx616_8, hx616_9, hx616_10, hx616_11, hx616_12, hx616_13, hx616_14, hx616_15, hx616_16, hx616_17, hx616_18, hx616_19, hx616_20, hx616_21, hx616_22, hx616_23, hx616_24, hl616_23, hi616_23, hl616_24, hi616_24⟩ := at_T27 HR0.out x3_1 p616 q616
        have hel616 := Aside0.mk (el25 hx616_0 hx616_1 hx616_2 hx616_3 hx616_4 hx616_5 hx616_6 hx616_7 hx616_8 hx616_9 hx616_10 hx616_11 hx616_12 hx616_13 hx616_14 hx616_15 hx616_16 hx616_17 hx616_18 hx616_19 hx616_20 hx616_21 hx616_22 hx616_23 hx616_24)
        cases e616
        replace hx616_0 := (HB.out.cell (World.block_lt_of_cell? w _ hx616_0)).trans hx616_0
        replace hx616_1 := (HB.out.cell (World.block_lt_of_cell? w _ hx616_1)).trans hx616_1
        replace hx616_2 := (HB.out.cell (World.block_lt_of_cell? w _ hx616_2)).trans hx616_2
        replace hx616_3 := (HB.out.cell (World.block_lt_of_cell? w _ hx616_3)).trans hx616_3
        replace hx616_4 := (HB.out.cell (World.block_lt_of_cell? w _ hx616_4)).trans hx616_4
        replace hx616_5 := (HB.out.cell (World.block_lt_of_cell? w _ hx616_5)).trans hx616_5
        replace hx616_6 := (HB.out.cell (World.block_lt_of_cell? w _ hx616_6)).trans hx616_6
        replace hx616_7 := (HB.out.cell (World.block_lt_of_cell? w _ hx616_7)).trans hx616_7
        replace hx616_8 := (HB.out.cell (World.block_lt_of_cell? w _ hx616_8)).trans hx616_8
        replace hx616_9 := (HB.out.cell (World.block_lt_of_cell? w _ hx616_9)).trans hx616_9
        replace hx616_10 := (HB.out.cell (World.block_lt_of_cell? w _ hx616_10)).trans hx616_10
        replace hx616_11 := (HB.out.cell (World.block_lt_of_cell? w _ hx616_11)).trans hx616_11
        replace hx616_12 := (HB.out.cell (World.block_lt_of_cell? w _ hx616_12)).trans hx616_12
        replace hx616_13 := (HB.out.cell (World.block_lt_of_cell? w _ hx616_13)).trans hx616_13
        replace hx616_14 := (HB.out.cell (World.block_lt_of_cell? w _ hx616_14)).trans hx616_14
        replace hx616_15 := (HB.out.cell (World.block_lt_of_cell? w _ hx616_15)).trans hx616_15
        replace hx616_16 := (HB.out.cell (World.block_lt_of_cell? w _ hx616_16)).trans hx616_16
        replace hx616_17 := (HB.out.cell (World.block_lt_of_cell? w _ hx616_17)).trans hx616_17
        replace hx616_18 := (HB.out.cell (World.block_lt_of_cell? w _ hx616_18)).trans hx616_18
        replace hx616_19 := (HB.out.cell (World.block_lt_of_cell? w _ hx616_19)).trans hx616_19
        replace hx616_20 := (HB.out.cell (World.block_lt_of_cell? w _ hx616_20)).trans hx616_20
        replace hx616_21 := (HB.out.cell (World.block_lt_of_cell? w _ hx616_21)).trans hx616_21
        replace hx616_22 := (HB.out.cell (World.block_lt_of_cell? w _ hx616_22)).trans hx616_22
        replace hx616_23 := (HB.out.cell (World.block_lt_of_cell? w _ hx616_23)).trans hx616_23
        replace hx616_24 := (HB.out.cell (World.block_lt_of_cell? w _ hx616_24)).trans hx616_24
        (try clear hel616)
        have hel616 := Aside0.mk (el25 hx616_0 hx616_1 hx616_2 hx616_3 hx616_4 hx616_5 hx616_6 hx616_7 hx616_8 hx616_9 hx616_10 hx616_11 hx616_12 hx616_13 hx616_14 hx616_15 hx616_16 hx616_17 hx616_18 hx616_19 hx616_20 hx616_21 hx616_22 hx616_23 hx616_24)
        have HR616_23 := Aside0.mk hi616_23
        have HC616_23 := Aside0.mk hl616_23
        clear hi616_23 hl616_23
        have HR616_24 := Aside0.mk hi616_24
        have HC616_24 := Aside0.mk hl616_24
        clear hi616_24 hl616_24
        replace p616 := eq_true p616
        replace q616 := eq_true q616
        go_wp2_with (first | ((with_reducible refine gate_ld (ty := 27) rfl ?_); apply ldE (qu := Tryd.underlying27); rfl; rfl; rfl; (with_reducible first | exact hel616 | exact hel618); rfl; exact siz27) | ((with_reducible refine gate_callee (f := 7) rfl ?_); refine goesL_ (some 18) rfl rfl Tryd.func7 (by kernel_rfl) rfl #[.agg #[.int .i64 ((rd_T27 l0 x3_1).f0), .int .i64 ((rd_T27 l0 x3_1).f1), .int .i64 ((rd_T27 l0 x3_1).f2), .int .i64 ((rd_T27 l0 x3_1).f3), .int .i64 ((rd_T27 l0 x3_1).f4), .int .i64 ((rd_T27 l0 x3_1).f5), .int .i64 ((rd_T27 l0 x3_1).f6), .int .i64 ((rd_T27 l0 x3_1).f7), .int .i64 ((rd_T27 l0 x3_1).f8), .int .i64 ((rd_T27 l0 x3_1).f9), .int .i64 ((rd_T27 l0 x3_1).f10), .int .i64 ((rd_T27 l0 x3_1).f11.f0), .int .i64 ((rd_T27 l0 x3_1).f11.f1), .int .i64 ((rd_T27 l0 x3_1).f11.f2), .int .i64 ((rd_T27 l0 x3_1).f11.f3), .int .i64 ((rd_T27 l0 x3_1).f11.f4), .int .i64 ((rd_T27 l0 x3_1).f11.f5), .int .i64 ((rd_T27 l0 x3_1).f11.f6), .int .i64 ((rd_T27 l0 x3_1).f11.f7), .int .i64 ((rd_T27 l0 x3_1).f11.f8), .int .i64 ((rd_T27 l0 x3_1).f11.f9), .string ((rd_T27 l0 x3_1).f11.f10), .string ((rd_T27 l0 x3_1).f11.f11), .slice A616_23 ((rd_T27 l0 x3_1).f12).length c616_23, .slice A616_24 ((rd_T27 l0 x3_1).f13).length c616_24]] rfl (by (try simp only [List.map_toArray, List.map_cons, List.map_nil]); first | done | rfl | (simp only [List.length_drop, List.length_take]; rfl)) ?_; (with_reducible refine (corebanklaw39_few.calls ((rd_T27 l0 x3_1).f0) ((rd_T27 l0 x3_1).f1) ((rd_T27 l0 x3_1).f2) ((rd_T27 l0 x3_1).f3) ((rd_T27 l0 x3_1).f4) ((rd_T27 l0 x3_1).f5) ((rd_T27 l0 x3_1).f6) ((rd_T27 l0 x3_1).f7) ((rd_T27 l0 x3_1).f8) ((rd_T27 l0 x3_1).f9) ((rd_T27 l0 x3_1).f10) ((rd_T27 l0 x3_1).f11.f0) ((rd_T27 l0 x3_1).f11.f1) ((rd_T27 l0 x3_1).f11.f2) ((rd_T27 l0 x3_1).f11.f3) ((rd_T27 l0 x3_1).f11.f4) ((rd_T27 l0 x3_1).f11.f5) ((rd_T27 l0 x3_1).f11.f6) ((rd_T27 l0 x3_1).f11.f7) ((rd_T27 l0 x3_1).f11.f8) ((rd_T27 l0 x3_1).f11.f9) ((rd_T27 l0 x3_1).f11.f10) ((rd_T27 l0 x3_1).f11.f11) _ _ ((rd_T27 l0 x3_1).f12) _ _ ((rd_T27 l0 x3_1).f13) true _ ?side1 ?side2 ?side3 ?side4 A7.out).mono ?_); (case side1 => repeat (first | exact (Kd.C_below HR616_23.out HB.out) | (with_reducible refine Kd.C_alloc ?_ _) | (with_reducible refine Kd.C_drewN ?_ _) | (with_reducible refine Kd.C_drew ?_))); (case side2 => exact HC616_23.out); (case side3 => repeat (first | exact (Kd.C_below HR616_24.out HB.out) | (with_reducible refine Kd.C_alloc ?_ _) | (with_reducible refine Kd.C_drewN ?_ _) | (with_reducible refine Kd.C_drew ?_))); (case side4 => exact HC616_24.out); rintro e w11 ⟨rfl, hb⟩; refine ⟨_, rfl, ?_⟩; have n0_ := Aside0.mk (below_step (by repeat (with_reducible first | exact HB.out | apply below_alloc | apply pw_below_drewN | apply below_drew1)) hb); clear HB; have HB := n0_; clear n0_; (try clear hb); (try clear hb2); (try clear hk); (try clear hi); have p618 : 0 ≤ (x3_1 : Int) := of_decide_eq_true (by assumption); have q618 : x3_1 < (l0.length : Int) := of_decide_eq_true (by assumption); obtain ⟨ad618, A618_23, c618_23, A618_24, c618_24, e618, hx618_0, hx618_1, hx618_2, hx618_3, hx618_4, hx618_5, hx618_6, hx618_7, hx618_8, hx618_9, hx618_10, hx618_11, hx618_12, hx618_13, hx618_14, hx618_15, hx618_16, hx618_17, hx618_18, hx618_19, hx618_20, hx618_21, hx618_22, hx618_23, hx618_24, hl618_23, hi618_23, hl618_24, hi618_24⟩ := at_T27 HR0.out x3_1 p618 q618; obtain rfl : ad616 = ad618 := (by injection e618); replace hx618_0 := (HB.out.cell (World.block_lt_of_cell? w _ hx618_0)).trans hx618_0; replace hx618_1 := (HB.out.cell (World.block_lt_of_cell? w _ hx618_1)).trans hx618_1; replace hx618_2 := (HB.out.cell (World.block_lt_of_cell? w _ hx618_2)).trans hx618_2; replace hx618_3 := (HB.out.cell (World.block_lt_of_cell? w _ hx618_3)).trans hx618_3; replace hx618_4 := (HB.out.cell (World.block_lt_of_cell? w _ hx618_4)).trans hx618_4; replace hx618_5 := (HB.out.cell (World.block_lt_of_cell? w _ hx618_5)).trans hx618_5; replace hx618_6 := (HB.out.cell (World.block_lt_of_cell? w _ hx618_6)).trans hx618_6; replace hx618_7 := (HB.out.cell (World.block_lt_of_cell? w _ hx618_7)).trans hx618_7; replace hx618_8 := (HB.out.cell (World.block_lt_of_cell? w _ hx618_8)).trans hx618_8; replace hx618_9 := (HB.out.cell (World.block_lt_of_cell? w _ hx618_9)).trans hx618_9; replace hx618_10 := (HB.out.cell (World.block_lt_of_cell? w _ hx618_10)).trans hx618_10; replace hx618_11 := (HB.out.cell (World.block_lt_of_cell? w _ hx618_11)).trans hx618_11; replace hx618_12 := (HB.out.cell (World.block_lt_of_cell? w _ hx618_12)).trans hx618_12; replace hx618_13 := (HB.out.cell (World.block_lt_of_cell? w _ hx618_13)).trans hx618_13; replace hx618_14 := (HB.out.cell (World.block_lt_of_cell? w _ hx618_14)).trans hx618_14; replace hx618_15 := (HB.out.cell (World.block_lt_of_cell? w _ hx618_15)).trans hx618_15; replace hx618_16 := (HB.out.cell (World.block_lt_of_cell? w _ hx618_16)).trans hx618_16; replace hx618_17 := (HB.out.cell (World.block_lt_of_cell? w _ hx618_17)).trans hx618_17; replace hx618_18 := (HB.out.cell (World.block_lt_of_cell? w _ hx618_18)).trans hx618_18; replace hx618_19 := (HB.out.cell (World.block_lt_of_cell? w _ hx618_19)).trans hx618_19; replace hx618_20 := (HB.out.cell (World.block_lt_of_cell? w _ hx618_20)).trans hx618_20; replace hx618_21 := (HB.out.cell (World.block_lt_of_cell? w _ hx618_21)).trans hx618_21; replace hx618_22 := (HB.out.cell (World.block_lt_of_cell? w _ hx618_22)).trans hx618_22; replace hx618_23 := (HB.out.cell (World.block_lt_of_cell? w _ hx618_23)).trans hx618_23; replace hx618_24 := (HB.out.cell (World.block_lt_of_cell? w _ hx618_24)).trans hx618_24; (try clear hel618); have hel618 := Aside0.mk (el25 hx618_0 hx618_1 hx618_2 hx618_3 hx618_4 hx618_5 hx618_6 hx618_7 hx618_8 hx618_9 hx618_10 hx618_11 hx618_12 hx618_13 hx618_14 hx618_15 hx618_16 hx618_17 hx618_18 hx618_19 hx618_20 hx618_21 hx618_22 hx618_23 hx618_24); have HR618_23 := Aside0.mk hi618_23; have HC618_23 := Aside0.mk hl618_23; clear hi618_23 hl618_23; have HR618_24 := Aside0.mk hi618_24; have HC618_24 := Aside0.mk hl618_24; clear hi618_24 hl618_24; replace p618 := eq_true p618; replace q618 := eq_true q618) | (go_at_call 8; (with_reducible refine (corebankref34_Check.calls k1 ((rd_T27 l0 x3_1).f0) ((rd_T27 l0 x3_1).f1) ((rd_T27 l0 x3_1).f2) ((rd_T27 l0 x3_1).f3) ((rd_T27 l0 x3_1).f4) ((rd_T27 l0 x3_1).f5) ((rd_T27 l0 x3_1).f6) ((rd_T27 l0 x3_1).f7) ((rd_T27 l0 x3_1).f8) ((rd_T27 l0 x3_1).f9) ((rd_T27 l0 x3_1).f10) ((rd_T27 l0 x3_1).f11.f0) ((rd_T27 l0 x3_1).f11.f1) ((rd_T27 l0 x3_1).f11.f2) ((rd_T27 l0 x3_1).f11.f3) ((rd_T27 l0 x3_1).f11.f4) ((rd_T27 l0 x3_1).f11.f5) ((rd_T27 l0 x3_1).f11.f6) ((rd_T27 l0 x3_1).f11.f7) ((rd_T27 l0 x3_1).f11.f8) ((rd_T27 l0 x3_1).f11.f9) ((rd_T27 l0 x3_1).f11.f10) ((rd_T27 l0 x3_1).f11.f11) _ _ ((rd_T27 l0 x3_1).f12) _ _ ((rd_T27 l0 x3_1).f13) t619 _ ?side1 ?side2 ?side3 ?side4 A9.out).mono ?_); (case side1 => repeat (first | exact (Kd.C_below HR618_23.out HB.out) | (with_reducible refine Kd.C_alloc ?_ _) | (with_reducible refine Kd.C_drewN ?_ _) | (with_reducible refine Kd.C_drew ?_))); (case side2 => exact HC618_23.out); (case side3 => repeat (first | exact (Kd.C_below HR618_24.out HB.out) | (with_reducible refine Kd.C_alloc ?_ _) | (with_reducible refine Kd.C_drewN ?_ _) | (with_reducible refine Kd.C_drew ?_))); (case side4 => exact HC618_24.out); rintro e w12 ⟨rfl, hb⟩; have n0_ := Aside0.mk (below_step (by repeat (with_reducible first | exact HB.out | apply below_alloc | apply pw_below_drewN | apply below_drew1)) hb); clear HB; have HB := n0_; clear n0_; (try clear hb); (try clear hb2); (try clear hk); (try clear hi)))
        go_roundg k1
        case measure => have := HK1.out; omega
        case rel => exact ⟨(wrap64 (x3_1 + 1)), (by first | rfl | (simp [*]; done)), H', ⟨by have := HK1.out; omega⟩, ⟨by repeat (with_reducible first | exact HB.out | apply below_alloc | apply pw_below_drewN | apply below_drew1)⟩⟩
       ·rw [if_neg c10] at H
        have c10b0 : (t619 == 0) = false := beq_eq_false_iff_ne.mpr c10
        have c10b1 : (t619 != 0) = true := bne_iff_ne.mpr c10
        replace H := Option.bind_eq_some_iff.mp H
        obtain ⟨t620, A130, H⟩ := H
        replace H : (some t620) = some r := H
        have A13 := Aside0.mk A130
        clear A130
        obtain rfl := Option.some.inj H
        have p616 : 0 ≤ (x3_1 : Int) := of_decide_eq_true (by assumption)
        have q616 : x3_1 < (l0.length : Int) := of_decide_eq_true (by assumption)
        obtain ⟨ad616, A616_23, c616_23, A616_24, c616_24, e616, hx616_0, hx616_1, hx616_2, hx616_3, hx616_4, hx616_5, hx616_6, hx616_7, hx616_8, hx616_9, hx616_10, hx616_11, hx616_12, hx616_13, hx616_14, hx616_15, hx616_16, hx616_17, hx616_18, hx616_19, hx616_20, hx616_21, hx616_22, hx616_23, hx616_24, hl616_23, hi616_23, hl616_24, hi616_24⟩ := at_T27 HR0.out x3_1 p616 q616
        have hel616 := Aside0.mk (el25 hx616_0 hx616_1 hx616_2 hx616_3 hx616_4 hx616_5 hx616_6 hx616_7 hx616_8 hx616_9 hx616_10 hx616_11 hx616_12 hx616_13 hx616_14 hx616_15 hx616_16 hx616_17 hx616_18 hx616_19 hx616_20 hx616_21 hx616_22 hx616_23 hx616_24)
        cases e616
        replace hx616_0 := (HB.out.cell (World.block_lt_of_cell? w _ hx616_0)).trans hx616_0
        replace hx616_1 := (HB.out.cell (World.block_lt_of_cell? w _ hx616_1)).trans hx616_1
        replace hx616_2 := (HB.out.cell (World.block_lt_of_cell? w _ hx616_2)).trans hx616_2
        replace hx616_3 := (HB.out.cell (World.block_lt_of_cell? w _ hx616_3)).trans hx616_3
        replace hx616_4 := (HB.out.cell (World.block_lt_of_cell? w _ hx616_4)).trans hx616_4
        replace hx616_5 := (HB.out.cell (World.block_lt_of_cell? w _ hx616_5)).trans hx616_5
        replace hx616_6 := (HB.out.cell (World.block_lt_of_cell? w _ hx616_6)).trans hx616_6
        replace hx616_7 := (HB.out.cell (World.block_lt_of_cell? w _ hx616_7)).trans hx616_7
        replace hx616_8 := (HB.out.cell (World.block_lt_of_cell? w _ hx616_8)).trans hx616_8
        replace hx616_9 := (HB.out.cell (World.block_lt_of_cell? w _ hx616_9)).trans hx616_9
        replace hx616_10 := (HB.out.cell (World.block_lt_of_cell? w _ hx616_10)).trans hx616_10
        replace hx616_11 := (HB.out.cell (World.block_lt_of_cell? w _ hx616_11)).trans hx616_11
        replace hx616_12 := (HB.out.cell (World.block_lt_of_cell? w _ hx616_12)).trans hx616_12
        replace hx616_13 := (HB.out.cell (World.block_lt_of_cell? w _ hx616_13)).trans hx616_13
        replace hx616_14 := (HB.out.cell (World.block_lt_of_cell? w _ hx616_14)).trans hx616_14
        replace hx616_15 := (HB.out.cell (World.block_lt_of_cell? w _ hx616_15)).trans hx616_15
        replace hx616_16 := (HB.out.cell (World.block_lt_of_cell? w _ hx616_16)).trans hx616_16
        replace hx616_17 := (HB.out.cell (World.block_lt_of_cell? w _ hx616_17)).trans hx616_17
        replace hx616_18 := (HB.out.cell (World.block_lt_of_cell? w _ hx616_18)).trans hx616_18
        replace hx616_19 := (HB.out.cell (World.block_lt_of_cell? w _ hx616_19)).trans hx616_19
        replace hx616_20 := (HB.out.cell (World.block_lt_of_cell? w _ hx616_20)).trans hx616_20
        replace hx616_21 := (HB.out.cell (World.block_lt_of_cell? w _ hx616_21)).trans hx616_21
        replace hx616_22 := (HB.out.cell (World.block_lt_of_cell? w _ hx616_22)).trans hx616_22
        replace hx616_23 := (HB.out.cell (World.block_lt_of_cell? w _ hx616_23)).trans hx616_23
        replace hx616_24 := (HB.out.cell (World.block_lt_of_cell? w _ hx616_24)).trans hx616_24
        (try clear hel616)
        have hel616 := Aside0.mk (el25 hx616_0 hx616_1 hx616_2 hx616_3 hx616_4 hx616_5 hx616_6 hx616_7 hx616_8 hx616_9 hx616_10 hx616_11 hx616_12 hx616_13 hx616_14 hx616_15 hx616_16 hx616_17 hx616_18 hx616_19 hx616_20 hx616_21 hx616_22 hx616_23 hx616_24)
        have HR616_23 := Aside0.mk hi616_23
        have HC616_23 := Aside0.mk hl616_23
        clear hi616_23 hl616_23
        have HR616_24 := Aside0.mk hi616_24
        have HC616_24 := Aside0.mk hl616_24
        clear hi616_24 hl616_24
        replace p616 := eq_true p616
        replace q616 := eq_true q616
        go_wp2_with (first | ((with_reducible refine gate_ld (ty := 27) rfl ?_); apply ldE (qu := Tryd.underlying27); rfl; rfl; rfl; (with_reducible first | exact hel616 | exact hel618); rfl; exact siz27) | ((with_reducible refine gate_callee (f := 7) rfl ?_); refine goesL_ (some 18) rfl rfl Tryd.func7 (by kernel_rfl) rfl #[.agg #[.int .i64 ((rd_T27 l0 x3_1).f0), .int .i64 ((rd_T27 l0 x3_1).f1), .int .i64 ((rd_T27 l0 x3_1).f2), .int .i64 ((rd_T27 l0 x3_1).f3), .int .i64 ((rd_T27 l0 x3_1).f4), .int .i64 ((rd_T27 l0 x3_1).f5), .int .i64 ((rd_T27 l0 x3_1).f6), .int .i64 ((rd_T27 l0 x3_1).f7), .int .i64 ((rd_T27 l0 x3_1).f8), .int .i64 ((rd_T27 l0 x3_1).f9), .int .i64 ((rd_T27 l0 x3_1).f10), .int .i64 ((rd_T27 l0 x3_1).f11.f0), .int .i64 ((rd_T27 l0 x3_1).f11.f1), .int .i64 ((rd_T27 l0 x3_1).f11.f2), .int .i64 ((rd_T27 l0 x3_1).f11.f3), .int .i64 ((rd_T27 l0 x3_1).f11.f4), .int .i64 ((rd_T27 l0 x3_1).f11.f5), .int .i64 ((rd_T27 l0 x3_1).f11.f6), .int .i64 ((rd_T27 l0 x3_1).f11.f7), .int .i64 ((rd_T27 l0 x3_1).f11.f8), .int .i64 ((rd_T27 l0 x3_1).f11.f9), .string ((rd_T27 l0 x3_1).f11.f10), .string ((rd_T27 l0 x3_1).f11.f11), .slice A616_23 ((rd_T27 l0 x3_1).f12).length c616_23, .slice A616_24 ((rd_T27 l0 x3_1).f13).length c616_24]] rfl (by (try simp only [List.map_toArray, List.map_cons, List.map_nil]); first | done | rfl | (simp only [List.length_drop, List.length_take]; rfl)) ?_; (with_reducible refine (corebanklaw39_few.calls ((rd_T27 l0 x3_1).f0) ((rd_T27 l0 x3_1).f1) ((rd_T27 l0 x3_1).f2) ((rd_T27 l0 x3_1).f3) ((rd_T27 l0 x3_1).f4) ((rd_T27 l0 x3_1).f5) ((rd_T27 l0 x3_1).f6) ((rd_T27 l0 x3_1).f7) ((rd_T27 l0 x3_1).f8) ((rd_T27 l0 x3_1).f9) ((rd_T27 l0 x3_1).f10) ((rd_T27 l0 x3_1).f11.f0) ((rd_T27 l0 x3_1).f11.f1) ((rd_T27 l0 x3_1).f11.f2) ((rd_T27 l0 x3_1).f11.f3) ((rd_T27 l0 x3_1).f11.f4) ((rd_T27 l0 x3_1).f11.f5) ((rd_T27 l0 x3_1).f11.f6) ((rd_T27 l0 x3_1).f11.f7) ((rd_T27 l0 x3_1).f11.f8) ((rd_T27 l0 x3_1).f11.f9) ((rd_T27 l0 x3_1).f11.f10) ((rd_T27 l0 x3_1).f11.f11) _ _ ((rd_T27 l0 x3_1).f12) _ _ ((rd_T27 l0 x3_1).f13) true _ ?side1 ?side2 ?side3 ?side4 A7.out).mono ?_); (case side1 => repeat (first | exact (Kd.C_below HR616_23.out HB.out) | (with_reducible refine Kd.C_alloc ?_ _) | (with_reducible refine Kd.C_drewN ?_ _) | (with_reducible refine Kd.C_drew ?_))); (case side2 => exact HC616_23.out); (case side3 => repeat (first | exact (Kd.C_below HR616_24.out HB.out) | (with_reducible refine Kd.C_alloc ?_ _) | (with_reducible refine Kd.C_drewN ?_ _) | (with_reducible refine Kd.C_drew ?_))); (case side4 => exact HC616_24.out); rintro e w14 ⟨rfl, hb⟩; refine ⟨_, rfl, ?_⟩; have n0_ := Aside0.mk (below_step (by repeat (with_reducible first | exact HB.out | apply below_alloc | apply pw_below_drewN | apply below_drew1)) hb); clear HB; have HB := n0_; clear n0_; (try clear hb); (try clear hb2); (try clear hk); (try clear hi); have p618 : 0 ≤ (x3_1 : Int) := of_decide_eq_true (by assumption); have q618 : x3_1 < (l0.length : Int) := of_decide_eq_true (by assumption); obtain ⟨ad618, A618_23, c618_23, A618_24, c618_24, e618, hx618_0, hx618_1, hx618_2, hx618_3, hx618_4, hx618_5, hx618_6, hx618_7, hx618_8, hx618_9, hx618_10, hx618_11, hx618_12, hx618_13, hx618_14, hx618_15, hx618_16, hx618_17, hx618_18, hx618_19, hx618_20, hx618_21, hx618_22, hx618_23, hx618_24, hl618_23, hi618_23, hl618_24, hi618_24⟩ := at_T27 HR0.out x3_1 p618 q618; obtain rfl : ad616 = ad618 := (by injection e618); replace hx618_0 := (HB.out.cell (World.block_lt_of_cell? w _ hx618_0)).trans hx618_0; replace hx618_1 := (HB.out.cell (World.block_lt_of_cell? w _ hx618_1)).trans hx618_1; replace hx618_2 := (HB.out.cell (World.block_lt_of_cell? w _ hx618_2)).trans hx618_2; replace hx618_3 := (HB.out.cell (World.block_lt_of_cell? w _ hx618_3)).trans hx618_3; replace hx618_4 := (HB.out.cell (World.block_lt_of_cell? w _ hx618_4)).trans hx618_4; replace hx618_5 := (HB.out.cell (World.block_lt_of_cell? w _ hx618_5)).trans hx618_5; replace hx618_6 := (HB.out.cell (World.block_lt_of_cell? w _ hx618_6)).trans hx618_6; replace hx618_7 := (HB.out.cell (World.block_lt_of_cell? w _ hx618_7)).trans hx618_7; replace hx618_8 := (HB.out.cell (World.block_lt_of_cell? w _ hx618_8)).trans hx618_8; replace hx618_9 := (HB.out.cell (World.block_lt_of_cell? w _ hx618_9)).trans hx618_9; replace hx618_10 := (HB.out.cell (World.block_lt_of_cell? w _ hx618_10)).trans hx618_10; replace hx618_11 := (HB.out.cell (World.block_lt_of_cell? w _ hx618_11)).trans hx618_11; replace hx618_12 := (HB.out.cell (World.block_lt_of_cell? w _ hx618_12)).trans hx618_12; replace hx618_13 := (HB.out.cell (World.block_lt_of_cell? w _ hx618_13)).trans hx618_13; replace hx618_14 := (HB.out.cell (World.block_lt_of_cell? w _ hx618_14)).trans hx618_14; replace hx618_15 := (HB.out.cell (World.block_lt_of_cell? w _ hx618_15)).trans hx618_15; replace hx618_16 := (HB.out.cell (World.block_lt_of_cell? w _ hx618_16)).trans hx618_16; replace hx618_17 := (HB.out.cell (World.block_lt_of_cell? w _ hx618_17)).trans hx618_17; replace hx618_18 := (HB.out.cell (World.block_lt_of_cell? w _ hx618_18)).trans hx618_18; replace hx618_19 := (HB.out.cell (World.block_lt_of_cell? w _ hx618_19)).trans hx618_19; replace hx618_20 := (HB.out.cell (World.block_lt_of_cell? w _ hx618_20)).trans hx618_20; replace hx618_21 := (HB.out.cell (World.block_lt_of_cell? w _ hx618_21)).trans hx618_21; replace hx618_22 := (HB.out.cell (World.block_lt_of_cell? w _ hx618_22)).trans hx618_22; replace hx618_23 := (HB.out.cell (World.block_lt_of_cell? w _ hx618_23)).trans hx618_23; replace hx618_24 := (HB.out.cell (World.block_lt_of_cell? w _ hx618_24)).trans hx618_24; (try clear hel618); have hel618 := Aside0.mk (el25 hx618_0 hx618_1 hx618_2 hx618_3 hx618_4 hx618_5 hx618_6 hx618_7 hx618_8 hx618_9 hx618_10 hx618_11 hx618_12 hx618_13 hx618_14 hx618_15 hx618_16 hx618_17 hx618_18 hx618_19 hx618_20 hx618_21 hx618_22 hx618_23 hx618_24); have HR618_23 := Aside0.mk hi618_23; have HC618_23 := Aside0.mk hl618_23; clear hi618_23 hl618_23; have HR618_24 := Aside0.mk hi618_24; have HC618_24 := Aside0.mk hl618_24; clear hi618_24 hl618_24; replace p618 := eq_true p618; replace q618 := eq_true q618) | (go_at_call 8; (with_reducible refine (corebankref34_Check.calls k1 ((rd_T27 l0 x3_1).f0) ((rd_T27 l0 x3_1).f1) ((rd_T27 l0 x3_1).f2) ((rd_T27 l0 x3_1).f3) ((rd_T27 l0 x3_1).f4) ((rd_T27 l0 x3_1).f5) ((rd_T27 l0 x3_1).f6) ((rd_T27 l0 x3_1).f7) ((rd_T27 l0 x3_1).f8) ((rd_T27 l0 x3_1).f9) ((rd_T27 l0 x3_1).f10) ((rd_T27 l0 x3_1).f11.f0) ((rd_T27 l0 x3_1).f11.f1) ((rd_T27 l0 x3_1).f11.f2) ((rd_T27 l0 x3_1).f11.f3) ((rd_T27 l0 x3_1).f11.f4) ((rd_T27 l0 x3_1).f11.f5) ((rd_T27 l0 x3_1).f11.f6) ((rd_T27 l0 x3_1).f11.f7) ((rd_T27 l0 x3_1).f11.f8) ((rd_T27 l0 x3_1).f11.f9) ((rd_T27 l0 x3_1).f11.f10) ((rd_T27 l0 x3_1).f11.f11) _ _ ((rd_T27 l0 x3_1).f12) _ _ ((rd_T27 l0 x3_1).f13) t619 _ ?side1 ?side2 ?side3 ?side4 A9.out).mono ?_); (case side1 => repeat (first | exact (Kd.C_below HR618_23.out HB.out) | (with_reducible refine Kd.C_alloc ?_ _) | (with_reducible refine Kd.C_drewN ?_ _) | (with_reducible refine Kd.C_drew ?_))); (case side2 => exact HC618_23.out); (case side3 => repeat (first | exact (Kd.C_below HR618_24.out HB.out) | (with_reducible refine Kd.C_alloc ?_ _) | (with_reducible refine Kd.C_drewN ?_ _) | (with_reducible refine Kd.C_drew ?_))); (case side4 => exact HC618_24.out); rintro e w15 ⟨rfl, hb⟩; have n0_ := Aside0.mk (below_step (by repeat (with_reducible first | exact HB.out | apply below_alloc | apply pw_below_drewN | apply below_drew1)) hb); clear HB; have HB := n0_; clear n0_; (try clear hb); (try clear hb2); (try clear hk); (try clear hi)) | ((with_reducible refine gate_callee (f := 9) rfl ?_); refine goesL_ (some 28) rfl rfl Tryd.func9 (by kernel_rfl) rfl #[] rfl (by (try simp only [List.map_toArray, List.map_cons, List.map_nil]); first | done | rfl | (simp only [List.length_drop, List.length_take]; rfl)) ?_; (with_reducible refine (corebanklaw39_Lives.calls k1  t620 _ ?sideV A13.out).mono ?_); (case sideV => exact VarOK.below HV.out (by repeat (with_reducible first | exact HB.out | apply below_alloc | apply pw_below_drewN | apply below_drew1))); rintro e w16 ⟨rfl, hb⟩; refine ⟨_, rfl, ?_⟩; have n0_ := Aside0.mk (below_step (by repeat (with_reducible first | exact HB.out | apply below_alloc | apply pw_below_drewN | apply below_drew1)) hb); clear HB; have HB := n0_; clear n0_; (try clear hb); (try clear hb2); (try clear hk); (try clear hi)))
        go_ret
        exact ⟨by first | rfl | (simp [errW_none, errW_some] <;> rfl) | (simp [*, errW_none, errW_some] <;> rfl), by repeat (with_reducible first | exact HB.out | apply below_alloc | apply pw_below_drewN | apply below_drew1)⟩
      ·replace c8 := Bool.eq_false_iff.mpr c8
       subst c8
       have H1 : ((corebanklaw39_Lives.f k1).bind fun t621 => (some t621)) = some r := by rw [if_neg (show ¬ (false = true) by decide)] at H; exact H
       clear H
       have H := H1
       clear H1
       replace H := Option.bind_eq_some_iff.mp H
       obtain ⟨t621, A170, H⟩ := H
       replace H : (some t621) = some r := H
       have A17 := Aside0.mk A170
       clear A170
       obtain rfl := Option.some.inj H
       have p616 : 0 ≤ (x3_1 : Int) := of_decide_eq_true (by assumption)
       have q616 : x3_1 < (l0.length : Int) := of_decide_eq_true (by assumption)
       obtain ⟨ad616, A616_23, c616_23, A616_24, c616_24, e616, hx616_0, hx616_1, hx616_2, hx616_3, hx616_4, hx616_5, hx616_6, hx616_7, hx616_8, hx616_9, hx616_10, hx616_11, hx616_12, hx616_13, hx616_14, hx616_15, hx616_16, hx616_17, hx616_18, hx616_19, hx616_20, hx616_21, hx616_22, hx616_23, hx616_24, hl616_23, hi616_23, hl616_24, hi616_24⟩ := at_T27 HR0.out x3_1 p616 q616
       have hel616 := Aside0.mk (el25 hx616_0 hx616_1 hx616_2 hx616_3 hx616_4 hx616_5 hx616_6 hx616_7 hx616_8 hx616_9 hx616_10 hx616_11 hx616_12 hx616_13 hx616_14 hx616_15 hx616_16 hx616_17 hx616_18 hx616_19 hx616_20 hx616_21 hx616_22 hx616_23 hx616_24)
       cases e616
       replace hx616_0 := (HB.out.cell (World.block_lt_of_cell? w _ hx616_0)).trans hx616_0
       replace hx616_1 := (HB.out.cell (World.block_lt_of_cell? w _ hx616_1)).trans hx616_1
       replace hx616_2 := (HB.out.cell (World.block_lt_of_cell? w _ hx616_2)).trans hx616_2
       replace hx616_3 := (HB.out.cell (World.block_lt_of_cell? w _ hx616_3)).trans hx616_3
       replace hx616_4 := (HB.out.cell (World.block_lt_of_cell? w _ hx616_4)).trans hx616_4
       replace hx616_5 := (HB.out.cell (World.block_lt_of_cell? w _ hx616_5)).trans hx616_5
       replace hx616_6 := (HB.out.cell (World.block_lt_of_cell? w _ hx616_6)).trans hx616_6
       replace hx616_7 := (HB.out.cell (World.block_lt_of_cell? w _ hx616_7)).trans hx616_7
       replace hx616_8 := (HB.out.cell (World.block_lt_of_cell? w _ hx616_8)).trans hx616_8
       replace hx616_9 := (HB.out.cell (World.block_lt_of_cell? w _ hx616_9)).trans hx616_9
       replace hx616_10 := (HB.out.cell (World.block_lt_of_cell? w _ hx616_10)).trans hx616_10
       replace hx616_11 := (HB.out.cell (World.block_lt_of_cell? w _ hx616_11)).trans hx616_11
       replace hx616_12 := (HB.out.cell (World.block_lt_of_cell? w _ hx616_12)).trans hx616_12
       replace hx616_13 := (HB.out.cell (World.block_lt_of_cell? w _ hx616_13)).trans hx616_13
       replace hx616_14 := (HB.out.cell (World.block_lt_of_cell? w _ hx616_14)).trans hx616_14
       replace hx616_15 := (HB.out.cell (World.block_lt_of_cell? w _ hx616_15)).trans hx616_15
       replace hx616_16 := (HB.out.cell (World.block_lt_of_cell? w _ hx616_16)).trans hx616_16
       replace hx616_17 := (HB.out.cell (World.block_lt_of_cell? w _ hx616_17)).trans hx616_17
       replace hx616_18 := (HB.out.cell (World.block_lt_of_cell? w _ hx616_18)).trans hx616_18
       replace hx616_19 := (HB.out.cell (World.block_lt_of_cell? w _ hx616_19)).trans hx616_19
       replace hx616_20 := (HB.out.cell (World.block_lt_of_cell? w _ hx616_20)).trans hx616_20
       replace hx616_21 := (HB.out.cell (World.block_lt_of_cell? w _ hx616_21)).trans hx616_21
       replace hx616_22 := (HB.out.cell (World.block_lt_of_cell? w _ hx616_22)).trans hx616_22
       replace hx616_23 := (HB.out.cell (World.block_lt_of_cell? w _ hx616_23)).trans hx616_23
       replace hx616_24 := (HB.out.cell (World.block_lt_of_cell? w _ hx616_24)).trans hx616_24
       (try clear hel616)
       have hel616 := Aside0.mk (el25 hx616_0 hx616_1 hx616_2 hx616_3 hx616_4 hx616_5 hx616_6 hx616_7 hx616_8 hx616_9 hx616_10 hx616_11 hx616_12 hx616_13 hx616_14 hx616_15 hx616_16 hx616_17 hx616_18 hx616_19 hx616_20 hx616_21 hx616_22 hx616_23 hx616_24)
       have HR616_23 := Aside0.mk hi616_23
       have HC616_23 := Aside0.mk hl616_23
       clear hi616_23 hl616_23
       have HR616_24 := Aside0.mk hi616_24
       have HC616_24 := Aside0.mk hl616_24
       clear hi616_24 hl616_24
       replace p616 := eq_true p616
       replace q616 := eq_true q616
       go_wp2_with (first | ((with_reducible refine gate_ld (ty := 27) rfl ?_); apply ldE (qu := Tryd.underlying27); rfl; rfl; rfl; (with_reducible first | exact hel616 | exact hel618); rfl; exact siz27) | ((with_reducible refine gate_callee (f := 7) rfl ?_); refine goesL_ (some 18) rfl rfl Tryd.func7 (by kernel_rfl) rfl #[.agg #[.int .i64 ((rd_T27 l0 x3_1).f0), .int .i64 ((rd_T27 l0 x3_1).f1), .int .i64 ((rd_T27 l0 x3_1).f2), .int .i64 ((rd_T27 l0 x3_1).f3), .int .i64 ((rd_T27 l0 x3_1).f4), .int .i64 ((rd_T27 l0 x3_1).f5), .int .i64 ((rd_T27 l0 x3_1).f6), .int .i64 ((rd_T27 l0 x3_1).f7), .int .i64 ((rd_T27 l0 x3_1).f8), .int .i64 ((rd_T27 l0 x3_1).f9), .int .i64 ((rd_T27 l0 x3_1).f10), .int .i64 ((rd_T27 l0 x3_1).f11.f0), .int .i64 ((rd_T27 l0 x3_1).f11.f1), .int .i64 ((rd_T27 l0 x3_1).f11.f2), .int .i64 ((rd_T27 l0 x3_1).f11.f3), .int .i64 ((rd_T27 l0 x3_1).f11.f4), .int .i64 ((rd_T27 l0 x3_1).f11.f5), .int .i64 ((rd_T27 l0 x3_1).f11.f6), .int .i64 ((rd_T27 l0 x3_1).f11.f7), .int .i64 ((rd_T27 l0 x3_1).f11.f8), .int .i64 ((rd_T27 l0 x3_1).f11.f9), .string ((rd_T27 l0 x3_1).f11.f10), .string ((rd_T27 l0 x3_1).f11.f11), .slice A616_23 ((rd_T27 l0 x3_1).f12).length c616_23, .slice A616_24 ((rd_T27 l0 x3_1).f13).length c616_24]] rfl (by (try simp only [List.map_toArray, List.map_cons, List.map_nil]); first | done | rfl | (simp only [List.length_drop, List.length_take]; rfl)) ?_; (with_reducible refine (corebanklaw39_few.calls ((rd_T27 l0 x3_1).f0) ((rd_T27 l0 x3_1).f1) ((rd_T27 l0 x3_1).f2) ((rd_T27 l0 x3_1).f3) ((rd_T27 l0 x3_1).f4) ((rd_T27 l0 x3_1).f5) ((rd_T27 l0 x3_1).f6) ((rd_T27 l0 x3_1).f7) ((rd_T27 l0 x3_1).f8) ((rd_T27 l0 x3_1).f9) ((rd_T27 l0 x3_1).f10) ((rd_T27 l0 x3_1).f11.f0) ((rd_T27 l0 x3_1).f11.f1) ((rd_T27 l0 x3_1).f11.f2) ((rd_T27 l0 x3_1).f11.f3) ((rd_T27 l0 x3_1).f11.f4) ((rd_T27 l0 x3_1).f11.f5) ((rd_T27 l0 x3_1).f11.f6) ((rd_T27 l0 x3_1).f11.f7) ((rd_T27 l0 x3_1).f11.f8) ((rd_T27 l0 x3_1).f11.f9) ((rd_T27 l0 x3_1).f11.f10) ((rd_T27 l0 x3_1).f11.f11) _ _ ((rd_T27 l0 x3_1).f12) _ _ ((rd_T27 l0 x3_1).f13) false _ ?side1 ?side2 ?side3 ?side4 A7.out).mono ?_); (case side1 => repeat (first | exact (Kd.C_below HR616_23.out HB.out) | (with_reducible refine Kd.C_alloc ?_ _) | (with_reducible refine Kd.C_drewN ?_ _) | (with_reducible refine Kd.C_drew ?_))); (case side2 => exact HC616_23.out); (case side3 => repeat (first | exact (Kd.C_below HR616_24.out HB.out) | (with_reducible refine Kd.C_alloc ?_ _) | (with_reducible refine Kd.C_drewN ?_ _) | (with_reducible refine Kd.C_drew ?_))); (case side4 => exact HC616_24.out); rintro e w18 ⟨rfl, hb⟩; refine ⟨_, rfl, ?_⟩; have n0_ := Aside0.mk (below_step (by repeat (with_reducible first | exact HB.out | apply below_alloc | apply pw_below_drewN | apply below_drew1)) hb); clear HB; have HB := n0_; clear n0_; (try clear hb); (try clear hb2); (try clear hk); (try clear hi)) | ((with_reducible refine gate_callee (f := 9) rfl ?_); refine goesL_ (some 28) rfl rfl Tryd.func9 (by kernel_rfl) rfl #[] rfl (by (try simp only [List.map_toArray, List.map_cons, List.map_nil]); first | done | rfl | (simp only [List.length_drop, List.length_take]; rfl)) ?_; (with_reducible refine (corebanklaw39_Lives.calls k1  t621 _ ?sideV A17.out).mono ?_); (case sideV => exact VarOK.below HV.out (by repeat (with_reducible first | exact HB.out | apply below_alloc | apply pw_below_drewN | apply below_drew1))); rintro e w19 ⟨rfl, hb⟩; refine ⟨_, rfl, ?_⟩; have n0_ := Aside0.mk (below_step (by repeat (with_reducible first | exact HB.out | apply below_alloc | apply pw_below_drewN | apply below_drew1)) hb); clear HB; have HB := n0_; clear n0_; (try clear hb); (try clear hb2); (try clear hk); (try clear hi)))
       go_ret
       exact ⟨by first | rfl | (simp [errW_none, errW_some] <;> rfl) | (simp [*, errW_none, errW_some] <;> rfl), by repeat (with_reducible first | exact HB.out | apply below_alloc | apply pw_below_drewN | apply below_drew1)⟩
     ·rw [if_neg c6] at H
      exact absurd H (by simp)
    ·rw [if_neg c5] at H
     have c5b0 : decide (x3_1 < (l0.length : Int)) = false := decide_eq_false c5
     clear c5
     replace H := Option.bind_eq_some_iff.mp H
     obtain ⟨t613, A200, H⟩ := H
     replace H : ((corebankref39_Exposure.f k1 l0).bind fun t614 => (if t613 = t614 then ((corebanklaw39_Lives.f k1).bind fun t615 => (some t615)) else (none))) = some r := H
     have A20 := Aside0.mk A200
     clear A200
     replace H := Option.bind_eq_some_iff.mp H
     obtain ⟨t614, A210, H⟩ := H
     replace H : (if t613 = t614 then ((corebanklaw39_Lives.f k1).bind fun t615 => (some t615)) else (none)) = some r := H
     have A21 := Aside0.mk A210
     clear A210
     by_cases c22 : t613 = t614
     ·rw [if_pos c22] at H
      have c22b0 : (t613 == t614) = true := beq_iff_eq.mpr c22
      have c22b1 : (t613 != t614) = false := bne_eq_false_iff_eq.mpr c22
      clear c22
      replace H := Option.bind_eq_some_iff.mp H
      obtain ⟨t615, A230, H⟩ := H
      replace H : (some t615) = some r := H
      have A23 := Aside0.mk A230
      clear A230
      obtain rfl := Option.some.inj H
      go_wp2_with (first | ((with_reducible refine gate_ld (ty := 27) rfl ?_); apply ldE (qu := Tryd.underlying27); rfl; rfl; rfl; (with_reducible first | exact hel616 | exact hel618); rfl; exact siz27) | ((with_reducible refine gate_callee (f := 15) rfl ?_); refine goesL_ (some 30) rfl rfl Tryd.func15 (by kernel_rfl) rfl #[.slice A0 l0.length c0] rfl (by (try simp only [List.map_toArray, List.map_cons, List.map_nil]); first | done | rfl | (simp only [List.length_drop, List.length_take]; rfl)) ?_; (with_reducible refine (writeoff_Exposure.calls k1 _ _ l0 t613 _ ?side1 ?side2 A20.out).mono ?_); (case side1 => repeat (first | exact (Kd.C_below HR0.out HB.out) | (with_reducible refine Kd.C_alloc ?_ _) | (with_reducible refine Kd.C_drewN ?_ _) | (with_reducible refine Kd.C_drew ?_))); (case side2 => exact HC0.out); rintro e w24 ⟨rfl, hb⟩; refine ⟨_, rfl, ?_⟩; have n0_ := Aside0.mk (below_step (by repeat (with_reducible first | exact HB.out | apply below_alloc | apply pw_below_drewN | apply below_drew1)) hb); clear HB; have HB := n0_; clear n0_; (try clear hb); (try clear hb2); (try clear hk); (try clear hi)) | ((with_reducible refine gate_callee (f := 16) rfl ?_); refine goesL_ (some 32) rfl rfl Tryd.func16 (by kernel_rfl) rfl #[.slice A0 l0.length c0] rfl (by (try simp only [List.map_toArray, List.map_cons, List.map_nil]); first | done | rfl | (simp only [List.length_drop, List.length_take]; rfl)) ?_; (with_reducible refine (corebankref39_Exposure.calls k1 _ _ l0 t614 _ ?side1 ?side2 A21.out).mono ?_); (case side1 => repeat (first | exact (Kd.C_below HR0.out HB.out) | (with_reducible refine Kd.C_alloc ?_ _) | (with_reducible refine Kd.C_drewN ?_ _) | (with_reducible refine Kd.C_drew ?_))); (case side2 => exact HC0.out); rintro e w25 ⟨rfl, hb⟩; refine ⟨_, rfl, ?_⟩; have n0_ := Aside0.mk (below_step (by repeat (with_reducible first | exact HB.out | apply below_alloc | apply pw_below_drewN | apply below_drew1)) hb); clear HB; have HB := n0_; clear n0_; (try clear hb); (try clear hb2); (try clear hk); (try clear hi)) | (go_at_call 9; (with_reducible refine (corebanklaw39_Lives.calls k1  t615 _ ?sideV A23.out).mono ?_); (case sideV => exact VarOK.below HV.out (by repeat (with_reducible first | exact HB.out | apply below_alloc | apply pw_below_drewN | apply below_drew1))); rintro e w26 ⟨rfl, hb⟩; have n0_ := Aside0.mk (below_step (by repeat (with_reducible first | exact HB.out | apply below_alloc | apply pw_below_drewN | apply below_drew1)) hb); clear HB; have HB := n0_; clear n0_; (try clear hb); (try clear hb2); (try clear hk); (try clear hi)))
      go_ret
      exact ⟨by first | rfl | (simp [errW_none, errW_some] <;> rfl) | (simp [*, errW_none, errW_some] <;> rfl), by repeat (with_reducible first | exact HB.out | apply below_alloc | apply pw_below_drewN | apply below_drew1)⟩
     ·rw [if_neg c22] at H
      exact absurd H (by simp)

end Go.Proofs.YtbapjcafcmnhoaaDoor.X
