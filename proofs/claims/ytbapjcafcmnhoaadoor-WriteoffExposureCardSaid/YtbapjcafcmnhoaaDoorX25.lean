-- Written by program (wip/tools/xprint.sh) for this seat; not trusted: Lean checks it.
import Derived.Test.YtbapjcafcmnhoaaDoorX0
import Derived.Test.YtbapjcafcmnhoaaDoorX1
import Derived.Test.YtbapjcafcmnhoaaDoorX17
namespace Go.Proofs.YtbapjcafcmnhoaaDoor.X
open Go.RowKit Go.Proofs.YtbapjcafcmnhoaaDoorW.PrintWords Go.Proofs.YtbapjcafcmnhoaaDoorW.PrintLast Go.Proofs.YtbapjcafcmnhoaaDoorW.PrintMore
attribute [local go_sem] max2_int min2_int   -- for this text's walks alone
set_option linter.unusedVariables false
set_option linter.unusedSimpArgs false

/-! ### corebankref39_Exposure: function 16 -/
mutual
def corebankref39_Exposure.l0 : Nat → List (S27) → Int → Int → Option (Int)
  | 0, _, _, _ => none
  | k + 1, x0, x3, x4 => if x4 < (x0.length : Int) then (if 0 ≤ x4 then (if ((rd_T27 x0 x4).f2) = 1 then ((corebankref34_Outstanding.f k ((rd_T27 x0 x4).f0) ((rd_T27 x0 x4).f1) ((rd_T27 x0 x4).f2) ((rd_T27 x0 x4).f3) ((rd_T27 x0 x4).f4) ((rd_T27 x0 x4).f5) ((rd_T27 x0 x4).f6) ((rd_T27 x0 x4).f7) ((rd_T27 x0 x4).f8) ((rd_T27 x0 x4).f9) ((rd_T27 x0 x4).f10) ((rd_T27 x0 x4).f11.f0) ((rd_T27 x0 x4).f11.f1) ((rd_T27 x0 x4).f11.f2) ((rd_T27 x0 x4).f11.f3) ((rd_T27 x0 x4).f11.f4) ((rd_T27 x0 x4).f11.f5) ((rd_T27 x0 x4).f11.f6) ((rd_T27 x0 x4).f11.f7) ((rd_T27 x0 x4).f11.f8) ((rd_T27 x0 x4).f11.f9) ((rd_T27 x0 x4).f11.f10) ((rd_T27 x0 x4).f11.f11) ((rd_T27 x0 x4).f12) ((rd_T27 x0 x4).f13)).bind fun t608 => (corebankref39_Exposure.j1 k x0 (wrap64 (x3 + t608)) x4)) else (corebankref39_Exposure.j1 k x0 x3 x4)) else (none)) else (some x3)
def corebankref39_Exposure.j2 : Nat → List (S27) → Int → Int → Option (Int)
  | 0, _, _, _ => none
  | k + 1, x0, x3, x4 => corebankref39_Exposure.l0 k x0 x3 (wrap64 (x4 + 1))
def corebankref39_Exposure.j1 : Nat → List (S27) → Int → Int → Option (Int)
  | 0, _, _, _ => none
  | k + 1, x0, x3, x4 => if 0 ≤ x4 then (if x4 < (x0.length : Int) then (if ((rd_T27 x0 x4).f2) = 3 then (corebankref39_Exposure.j2 k x0 (wrap64 ((wrap64 (x3 + ((rd_T27 x0 x4).f9))) - ((rd_T27 x0 x4).f10))) x4) else (corebankref39_Exposure.j2 k x0 x3 x4)) else (none)) else (none)
end
def corebankref39_Exposure.f (k : Nat) (l0 : List (S27)) : Option (Int) := corebankref39_Exposure.l0 k l0 0 0
theorem corebankref39_Exposure.mono_l : ∀ k, (∀ y0 y1 y2, LeO (corebankref39_Exposure.l0 k y0 y1 y2) (corebankref39_Exposure.l0 (k + 1) y0 y1 y2)) ∧ (∀ y0 y1 y2, LeO (corebankref39_Exposure.j2 k y0 y1 y2) (corebankref39_Exposure.j2 (k + 1) y0 y1 y2)) ∧ (∀ y0 y1 y2, LeO (corebankref39_Exposure.j1 k y0 y1 y2) (corebankref39_Exposure.j1 (k + 1) y0 y1 y2))
  | 0 => ⟨fun _ _ _ r h => by simp [corebankref39_Exposure.l0] at h, fun _ _ _ r h => by simp [corebankref39_Exposure.j2] at h, fun _ _ _ r h => by simp [corebankref39_Exposure.j1] at h⟩
  | k + 1 => by
    obtain ⟨ih0, ih1, ih2⟩ := corebankref39_Exposure.mono_l k
    refine ⟨?_, ?_, ?_⟩
    · intro y0 y1 y2
      unfold corebankref39_Exposure.l0
      repeat' first
      | (with_reducible exact ih0 _ _ _)
      | (with_reducible exact ih1 _ _ _)
      | (with_reducible exact ih2 _ _ _)
      | (with_reducible exact corebankref34_Outstanding.mono _ _ _ _ _ _ _ _ _ _ _ _ _ _ _ _ _ _ _ _ _ _ _ _ _ _)
      | (with_reducible exact LeO.refl _)
      | (with_reducible exact LeO.none _)
      | (with_reducible refine LeO.ite ?_ ?_)
      | (with_reducible refine LeO.bind ?_ (fun _ => ?_))
      | exact ih0 _ _ _
      | exact ih1 _ _ _
      | exact ih2 _ _ _
      | exact corebankref34_Outstanding.mono _ _ _ _ _ _ _ _ _ _ _ _ _ _ _ _ _ _ _ _ _ _ _ _ _ _
      | exact LeO.none _
      | refine LeO.ite ?_ ?_
      | refine LeO.bind ?_ (fun _ => ?_)
    · intro y0 y1 y2
      unfold corebankref39_Exposure.j2
      repeat' first
      | (with_reducible exact ih0 _ _ _)
      | (with_reducible exact ih1 _ _ _)
      | (with_reducible exact ih2 _ _ _)
      | (with_reducible exact corebankref34_Outstanding.mono _ _ _ _ _ _ _ _ _ _ _ _ _ _ _ _ _ _ _ _ _ _ _ _ _ _)
      | (with_reducible exact LeO.refl _)
      | (with_reducible exact LeO.none _)
      | (with_reducible refine LeO.ite ?_ ?_)
      | (with_reducible refine LeO.bind ?_ (fun _ => ?_))
      | exact ih0 _ _ _
      | exact ih1 _ _ _
      | exact ih2 _ _ _
      | exact corebankref34_Outstanding.mono _ _ _ _ _ _ _ _ _ _ _ _ _ _ _ _ _ _ _ _ _ _ _ _ _ _
      | exact LeO.none _
      | refine LeO.ite ?_ ?_
      | refine LeO.bind ?_ (fun _ => ?_)
    · intro y0 y1 y2
      unfold corebankref39_Exposure.j1
      repeat' first
      | (with_reducible exact ih0 _ _ _)
      | (with_reducible exact ih1 _ _ _)
      | (with_reducible exact ih2 _ _ _)
      | (with_reducible exact corebankref34_Outstanding.mono _ _ _ _ _ _ _ _ _ _ _ _ _ _ _ _ _ _ _ _ _ _ _ _ _ _)
      | (with_reducible exact LeO.refl _)
      | (with_reducible exact LeO.none _)
      | (with_reducible refine LeO.ite ?_ ?_)
      | (with_reducible refine LeO.bind ?_ (fun _ => ?_))
      | exact ih0 _ _ _
      | exact ih1 _ _ _
      | exact ih2 _ _ _
      | exact corebankref34_Outstanding.mono _ _ _ _ _ _ _ _ _ _ _ _ _ _ _ _ _ _ _ _ _ _ _ _ _ _
      | exact LeO.none _
      | refine LeO.ite ?_ ?_
      | refine LeO.bind ?_ (fun _ => ?_)
theorem corebankref39_Exposure.mono : ∀ a0 k, LeO (corebankref39_Exposure.f k a0) (corebankref39_Exposure.f (k + 1) a0) := by
  intro a0 k
  obtain ⟨ih0, ih1, ih2⟩ := corebankref39_Exposure.mono_l k
  unfold corebankref39_Exposure.f
  repeat' first
      | (with_reducible exact ih0 _ _ _)
      | (with_reducible exact ih1 _ _ _)
      | (with_reducible exact ih2 _ _ _)
      | (with_reducible exact corebankref34_Outstanding.mono _ _ _ _ _ _ _ _ _ _ _ _ _ _ _ _ _ _ _ _ _ _ _ _ _ _)
      | (with_reducible exact LeO.refl _)
      | (with_reducible exact LeO.none _)
      | (with_reducible refine LeO.ite ?_ ?_)
      | (with_reducible refine LeO.bind ?_ (fun _ => ?_))
      | exact ih0 _ _ _
      | exact ih1 _ _ _
      | exact ih2 _ _ _
      | exact corebankref34_Outstanding.mono _ _ _ _ _ _ _ _ _ _ _ _ _ _ _ _ _ _ _ _ _ _ _ _ _ _
      | exact LeO.none _
      | refine LeO.ite ?_ ?_
      | refine LeO.bind ?_ (fun _ => ?_)
set_option maxHeartbeats 8000000 in
set_option maxRecDepth 100000 in
theorem corebankref39_Exposure.calls (k : Nat) (A0 : Option Addr) (c0 : Nat) (l0 : List (S27)) (r : Int) (w : World) (hr0 : Kd.C k27 w A0 l0.length l0) (hc0 : l0.length ≤ c0) (h : corebankref39_Exposure.f k l0 = some r) :
  Calls Tryd.prog 16 #[.slice A0 l0.length c0] w fun e w' => e = .returned (.int .i64 r) ∧ Below w.heap.size w w' := by
 have hu27 := Tryd.underlying27
 have HR0 := Aside0.mk hr0
 have HC0 := Aside0.mk hc0
 clear hr0 hc0
 have HB := Aside0.mk (Below.refl w.heap.size w)
 have H : (corebankref39_Exposure.l0 k l0 0 0) = some r := h
 clear h
 have H' := Aside0.mk H
 clear H
 go_enter Tryd.func16, Tryd.ntmps16
 go_wp2_with (first | ((with_reducible refine gate_ld (ty := 27) rfl ?_); apply ldE (qu := Tryd.underlying27); rfl; rfl; rfl; (with_reducible first | exact hel606 | exact hel607 | exact hel609 | exact hel610 | exact hel611); rfl; exact siz27))
 repeat (go_quiet (fail); try go_wp2_with (first | ((with_reducible refine gate_ld (ty := 27) rfl ?_); apply ldE (qu := Tryd.underlying27); rfl; rfl; rfl; (with_reducible first | exact hel606 | exact hel607 | exact hel609 | exact hel610 | exact hel611); rfl; exact siz27)))
 go_loopg [3, 4] k (fun kq v3 v4 w' => ∃ (x3_1 : Int) (x4_1 : Int), v3 = .int .i64 x3_1 ∧ v4 = .int .i64 x4_1 ∧ Aside0 (corebankref39_Exposure.l0 kq l0 x3_1 x4_1 = some r) ∧ Aside0 (kq ≤ k) ∧ Aside0 (Below w.heap.size w w'))
 case atStart => exact ⟨(0), (0), (by first | rfl | (simp [*]; done)), (by first | rfl | (simp [*]; done)), H', ⟨Nat.le_refl _⟩, ⟨by repeat (with_reducible first | exact HB.out | apply below_alloc | apply pw_below_drewN | apply below_drew1)⟩⟩
 case round =>
  clear H'
  try clear c1
  obtain ⟨x3_1, x4_1, rfl, rfl, HA, HK1, HB⟩ := hrel
  cases gk with
  | zero => exact absurd HA.out (by simp [corebankref39_Exposure.l0])
  | succ k1 =>
   have H := HA.out
   clear HA
   simp only [corebankref39_Exposure.l0] at H
   by_cases c2 : x4_1 < (l0.length : Int)
   ·rw [if_pos c2] at H
    have c2b0 : decide (x4_1 < (l0.length : Int)) = true := decide_eq_true c2
    clear c2
    have HC3 := Aside0.mk H
    clear H
    go_upto_block 1 with (fail)
    repeat (go_quiet (fail); go_upto_block 1 with (fail))
    go_cut [3] (fun v3 wc => ∃ (kq : Nat) (x3_2 : Int), v3 = .int .i64 x3_2 ∧ Aside0 (corebankref39_Exposure.j2 kq l0 x3_2 x4_1 = some r) ∧ Aside0 (kq ≤ k1) ∧ Aside0 (Below w.heap.size w wc))
    case first =>
     have H := HC3.out
     clear HC3
     by_cases c4 : 0 ≤ x4_1
     ·rw [if_pos c4] at H
      have c4b0 : decide (0 ≤ x4_1) = true := decide_eq_true c4
      clear c4
      (first | rw [c4b0] | (simp only [i64_w, i32_w]; rw [c4b0]) | skip)
      have HC5 := Aside0.mk H
      clear H
      have p606 : 0 ≤ (x4_1 : Int) := of_decide_eq_true (by assumption)
      have q606 : x4_1 < (l0.length : Int) := of_decide_eq_true (by assumption)
      obtain ⟨ad606, A606_23, c606_23, A606_24, c606_24, e606, hx606_0, hx606_1, hx606_2, hx606_3, hx606_4, hx606_5, hx606_6, hx606_7, hx606_8, hx606_9, hx606_10, hx606_11, hx606_12, hx606_13, hx606_14, hx606_15, hx606_16, hx606_17, hx606_18, hx606_19, hx606_20, hx606_21, hx606_22, hx606_23, hx606_24, hl606_23, hi606_23, hl606_24, hi606_24⟩ := at_T27 HR0.out x4_1 p606 q606
      have hel606 := Aside0.mk (el25 hx606_0 hx606_1 hx606_2 hx606_3 hx606_4 hx606_5 hx606_6 hx606_7 hx606_8 hx606_9 hx606_10 hx606_11 hx606_12 hx606_13 hx606_14 hx606_15 hx606_16 hx606_17 hx606_18 hx606_19 hx606_20 hx606_21 hx606_22 hx606_23 hx606_24)
      cases e606
      replace hx606_0 := (HB.out.cell (World.block_lt_of_cell? w _ hx606_0)).trans hx606_0
      replace hx606_1 := (HB.out.cell (World.block_lt_of_cell? w _ hx606_1)).trans hx606_1
      replace hx606_2 := (HB.out.cell (World.block_lt_of_cell? w _ hx606_2)).trans hx606_2
      replace hx606_3 := (HB.out.cell (World.block_lt_of_cell? w _ hx606_3)).trans hx606_3
      replace hx606_4 := (HB.out.cell (World.block_lt_of_cell? w _ hx606_4)).trans hx606_4
      replace hx606_5 := (HB.out.cell (World.block_lt_of_cell? w _ hx606_5)).trans hx606_5
      replace hx606_6 := (HB.out.cell (World.block_lt_of_cell? w _ hx606_6)).trans hx606_6
      replace hx606_7 := (HB.out.cell (World.block_lt_of_cell? w _ hx606_7)).trans hx606_7
      replace hx606_8 := (HB.out.cell (World.block_lt_of_cell? w _ hx606_8)).trans hx606_8
      replace hx606_9 := (HB.out.cell (World.block_lt_of_cell? w _ hx606_9)).trans hx606_9
      replace hx606_10 := (HB.out.cell (World.block_lt_of_cell? w _ hx606_10)).trans hx606_10
      replace hx606_11 := (HB.out.cell (World.block_lt_of_cell? w _ hx606_11)).trans hx606_11
      replace hx606_12 := (HB.out.cell (World.block_lt_of_cell? w _ hx606_12)).trans hx606_12
      replace hx606_13 := (HB.out.cell (World.block_lt_of_cell? w _ hx606_13)).trans hx606_13
      replace hx606_14 := (HB.out.cell (World.block_lt_of_cell? w _ hx606_14)).trans hx606_14
      replace hx606_15 := (HB.out.cell (World.block_lt_of_cell? w _ hx606_15)).trans hx606_15
      replace hx606_16 := (HB.out.cell (World.block_lt_of_cell? w _ hx606_16)).trans hx606_16
      replace hx606_17 := (HB.out.cell (World.block_lt_of_cell? w _ hx606_17)).trans hx606_17
      replace hx606_18 := (HB.out.cell (World.block_lt_of_cell? w _ hx606_18)).trans hx606_18
      replace hx606_19 := (HB.out.cell (World.block_lt_of_cell? w _ hx606_19)).trans hx606_19
      replace hx606_20 := (HB.out.cell (World.block_lt_of_cell? w _ hx606_20)).trans hx606_20
      replace hx606_21 := (HB.out.cell (World.block_lt_of_cell? w _ hx606_21)).trans hx606_21
      replace hx606_22 := (HB.out.cell (World.block_lt_of_cell? w _ hx606_22)).trans hx606_22
      replace hx606_23 := (HB.out.cell (World.block_lt_of_cell? w _ hx606_23)).trans hx606_23
      replace hx606_24 := (HB.out.cell (World.block_lt_of_cell? w _ hx606_24)).trans hx606_24
      (try clear hel606)
      have hel606 := Aside0.mk (el25 hx606_0 hx606_1 hx606_2 hx606_3 hx606_4 hx606_5 hx606_6 hx606_7 hx606_8 hx606_9 hx606_10 hx606_11 hx606_12 hx606_13 hx606_14 hx606_15 hx606_16 hx606_17 hx606_18 hx606_19 hx606_20 hx606_21 hx606_22 hx606_23 hx606_24)
      have HR606_23 := Aside0.mk hi606_23
      have HC606_23 := Aside0.mk hl606_23
      clear hi606_23 hl606_23
      have HR606_24 := Aside0.mk hi606_24
      have HC606_24 := Aside0.mk hl606_24
      clear hi606_24 hl606_24
      replace p606 := eq_true p606
      replace q606 := eq_true q606
      go_upto_if 16 with (fail)
      repeat (go_quiet (fail); go_upto_if 16 with (fail))
      go_cut [3] (fun v3 wc => ∃ (kq : Nat) (x3_4 : Int), v3 = .int .i64 x3_4 ∧ Aside0 (corebankref39_Exposure.j1 kq l0 x3_4 x4_1 = some r) ∧ Aside0 (kq ≤ k1) ∧ Aside0 (Below w.heap.size w wc))
      case first =>
       have H := HC5.out
       clear HC5
       by_cases c6 : ((rd_T27 l0 x4_1).f2) = 1
       ·rw [if_pos c6] at H
        have c6b0 : (((rd_T27 l0 x4_1).f2) == 1) = true := beq_iff_eq.mpr c6
        have c6b1 : (((rd_T27 l0 x4_1).f2) != 1) = false := bne_eq_false_iff_eq.mpr c6
        clear c6
        (first | rw [c6b0] | (simp only [i64_w, i32_w]; rw [c6b0]) | skip)
        replace H := Option.bind_eq_some_iff.mp H
        obtain ⟨t608, A70, H⟩ := H
        replace H : (corebankref39_Exposure.j1 k1 l0 (wrap64 (x3_1 + t608)) x4_1) = some r := H
        have A7 := Aside0.mk A70
        clear A70
        have H' := Aside0.mk H
        clear H
        have p607 : 0 ≤ (x4_1 : Int) := of_decide_eq_true (by assumption)
        have q607 : x4_1 < (l0.length : Int) := of_decide_eq_true (by assumption)
        obtain ⟨ad607, A607_23, c607_23, A607_24, c607_24, e607, hx607_0, hx607_1, hx607_2, hx607_3, hx607_4, hx607_5, hx607_6, hx607_7, hx607_8, hx607_9, hx607_10, hx607_11, hx607_12, hx607_13, hx607_14, hx607_15, hx607_16, hx607_17, hx607_18, hx607_19, hx607_20, hx607_21, hx607_22, hx607_23, hx607_24, hl607_23, hi607_23, hl607_24, hi607_24⟩ := at_T27 HR0.out x4_1 p607 q607
        have hel607 := Aside0.mk (el25 hx607_0 hx607_1 hx607_2 hx607_3 hx607_4 hx607_5 hx607_6 hx607_7 hx607_8 hx607_9 hx607_10 hx607_11 hx607_12 hx607_13 hx607_14 hx607_15 hx607_16 hx607_17 hx607_18 hx607_19 hx607_20 hx607_21 hx607_22 hx607_23 hx607_24)
        obtain rfl : ad606 = ad607 := (by injection e607)
        replace hx607_0 := (HB.out.cell (World.block_lt_of_cell? w _ hx607_0)).trans hx607_0
        replace hx607_1 := (HB.out.cell (World.block_lt_of_cell? w _ hx607_1)).trans hx607_1
        replace hx607_2 := (HB.out.cell (World.block_lt_of_cell? w _ hx607_2)).trans hx607_2
        replace hx607_3 := (HB.out.cell (World.block_lt_of_cell? w _ hx607_3)).trans hx607_3
        replace hx607_4 := (HB.out.cell (World.block_lt_of_cell? w _ hx607_4)).trans hx607_4
        replace hx607_5 := (HB.out.cell (World.block_lt_of_cell? w _ hx607_5)).trans hx607_5
        replace hx607_6 := (HB.out.cell (World.block_lt_of_cell? w _ hx607_6)).trans hx607_6
        replace hx607_7 := (HB.out.cell (World.block_lt_of_cell? w _ hx607_7)).trans hx607_7
        replace hx607_8 := (HB.out.cell (World.block_lt_of_cell? w _ hx607_8)).trans hx607_8
        replace hx607_9 := (HB.out.cell (World.block_lt_of_cell? w _ hx607_9)).trans hx607_9
        replace hx607_10 := (HB.out.cell (World.block_lt_of_cell? w _ hx607_10)).trans hx607_10
        replace hx607_11 := (HB.out.cell (World.block_lt_of_cell? w _ hx607_11)).trans hx607_11
        replace hx607_12 := (HB.out.cell (World.block_lt_of_cell? w _ hx607_12)).trans hx607_12
        replace hx607_13 := (HB.out.cell (World.block_lt_of_cell? w _ hx607_13)).trans hx607_13
        replace hx607_14 := (HB.out.cell (World.block_lt_of_cell? w _ hx607_14)).trans hx607_14
        replace hx607_15 := (HB.out.cell (World.block_lt_of_cell? w _ hx607_15)).trans hx607_15
        replace hx607_16 := (HB.out.cell (World.block_lt_of_cell? w _ hx607_16)).trans hx607_16
        replace hx607_17 := (HB.out.cell (World.block_lt_of_cell? w _ hx607_17)).trans hx607_17
        replace hx607_18 := (HB.out.cell (World.block_lt_of_cell? w _ hx607_18)).trans hx607_18
        replace hx607_19 := (HB.out.cell (World.block_lt_of_cell? w _ hx607_19)).trans hx607_19
        replace hx607_20 := (HB.out.cell (World.block_lt_of_cell? w _ hx607_20)).trans hx607_20
        replace hx607_21 := (HB.out.cell (World.block_lt_of_cell? w _ hx607_21)).trans hx607_21
        replace hx607_22 := (HB.out.cell (World.block_lt_of_cell? w _ hx607_22)).trans hx607_22
        replace hx607_23 := (HB.out.cell (World.block_lt_of_cell? w _ hx607_23)).trans hx607_23
        replace hx607_24 := (HB.out.cell (World.block_lt_of_cell? w _ hx607_24)).trans hx607_24
        (try clear hel607)
        have hel607 := Aside0.mk (el25 hx607_0 hx607_1 hx607_2 hx607_3 hx607_4 hx607_5 hx607_6 hx607_7 hx607_8 hx607_9 hx607_10 hx607_11 hx607_12 hx607_13 hx607_14 hx607_15 hx607_16 hx607_17 hx607_18 hx607_19 hx607_20 hx607_21 hx607_22 hx607_23 hx607_24)
        have HR607_23 := Aside0.mk hi607_23
        have HC607_23 := Aside0.mk hl607_23
        clear hi607_23 hl607_23
        have HR607_24 := Aside0.mk hi607_24
        have HC607_24 := Aside0.mk hl607_24
        clear hi607_24 hl607_24
        replace p607 := eq_true p607
        replace q607 := eq_true q607
        (try (have ea_ := Option.some.inj (hx606_23.symm.trans hx607_23); injection ea_ with ea_ en_ ec_; (try subst ea_); (try subst ec_); (try clear en_)))
        (try (have ea_ := Option.some.inj (hx606_24.symm.trans hx607_24); injection ea_ with ea_ en_ ec_; (try subst ea_); (try subst ec_); (try clear en_)))
        go_wp2_with (first | ((with_reducible refine gate_ld (ty := 27) rfl ?_); apply ldE (qu := Tryd.underlying27); rfl; rfl; rfl; (with_reducible first | exact hel606 | exact hel607 | exact hel609 | exact hel610 | exact hel611); rfl; exact siz27) | (go_at_call 17; (with_reducible refine (corebankref34_Outstanding.calls k1 ((rd_T27 l0 x4_1).f0) ((rd_T27 l0 x4_1).f1) ((rd_T27 l0 x4_1).f2) ((rd_T27 l0 x4_1).f3) ((rd_T27 l0 x4_1).f4) ((rd_T27 l0 x4_1).f5) ((rd_T27 l0 x4_1).f6) ((rd_T27 l0 x4_1).f7) ((rd_T27 l0 x4_1).f8) ((rd_T27 l0 x4_1).f9) ((rd_T27 l0 x4_1).f10) ((rd_T27 l0 x4_1).f11.f0) ((rd_T27 l0 x4_1).f11.f1) ((rd_T27 l0 x4_1).f11.f2) ((rd_T27 l0 x4_1).f11.f3) ((rd_T27 l0 x4_1).f11.f4) ((rd_T27 l0 x4_1).f11.f5) ((rd_T27 l0 x4_1).f11.f6) ((rd_T27 l0 x4_1).f11.f7) ((rd_T27 l0 x4_1).f11.f8) ((rd_T27 l0 x4_1).f11.f9) ((rd_T27 l0 x4_1).f11.f10) ((rd_T27 l0 x4_1).f11.f11) _ _ ((rd_T27 l0 x4_1).f12) _ _ ((rd_T27 l0 x4_1).f13) t608 _ ?side1 ?side2 ?side3 ?side4 A7.out).mono ?_); (case side1 => repeat (first | exact (Kd.C_below HR607_23.out HB.out) | (with_reducible refine Kd.C_alloc ?_ _) | (with_reducible refine Kd.C_drewN ?_ _) | (with_reducible refine Kd.C_drew ?_))); (case side2 => exact HC607_23.out); (case side3 => repeat (first | exact (Kd.C_below HR607_24.out HB.out) | (with_reducible refine Kd.C_alloc ?_ _) | (with_reducible refine Kd.C_drewN ?_ _) | (with_reducible refine Kd.C_drew ?_))); (case side4 => exact HC607_24.out); rintro e w8 ⟨rfl, hb⟩; have n0_ := Aside0.mk (below_step (by repeat (with_reducible first | exact HB.out | apply below_alloc | apply pw_below_drewN | apply below_drew1)) hb); clear HB; have HB := n0_; clear n0_; (try clear hb); (try clear hb2); (try clear hk); (try clear hi)))
        repeat (go_quiet (first | (go_at_call 17; (with_reducible refine (corebankref34_Outstanding.calls k1 ((rd_T27 l0 x4_1).f0) ((rd_T27 l0 x4_1).f1) ((rd_T27 l0 x4_1).f2) ((rd_T27 l0 x4_1).f3) ((rd_T27 l0 x4_1).f4) ((rd_T27 l0 x4_1).f5) ((rd_T27 l0 x4_1).f6) ((rd_T27 l0 x4_1).f7) ((rd_T27 l0 x4_1).f8) ((rd_T27 l0 x4_1).f9) ((rd_T27 l0 x4_1).f10) ((rd_T27 l0 x4_1).f11.f0) ((rd_T27 l0 x4_1).f11.f1) ((rd_T27 l0 x4_1).f11.f2) ((rd_T27 l0 x4_1).f11.f3) ((rd_T27 l0 x4_1).f11.f4) ((rd_T27 l0 x4_1).f11.f5) ((rd_T27 l0 x4_1).f11.f6) ((rd_T27 l0 x4_1).f11.f7) ((rd_T27 l0 x4_1).f11.f8) ((rd_T27 l0 x4_1).f11.f9) ((rd_T27 l0 x4_1).f11.f10) ((rd_T27 l0 x4_1).f11.f11) _ _ ((rd_T27 l0 x4_1).f12) _ _ ((rd_T27 l0 x4_1).f13) t608 _ ?side1 ?side2 ?side3 ?side4 A7.out).mono ?_); (case side1 => repeat (first | exact (Kd.C_below HR607_23.out HB.out) | (with_reducible refine Kd.C_alloc ?_ _) | (with_reducible refine Kd.C_drewN ?_ _) | (with_reducible refine Kd.C_drew ?_))); (case side2 => exact HC607_23.out); (case side3 => repeat (first | exact (Kd.C_below HR607_24.out HB.out) | (with_reducible refine Kd.C_alloc ?_ _) | (with_reducible refine Kd.C_drewN ?_ _) | (with_reducible refine Kd.C_drew ?_))); (case side4 => exact HC607_24.out); rintro e w8 ⟨rfl, hb⟩; have n0_ := Aside0.mk (below_step (by repeat (with_reducible first | exact HB.out | apply below_alloc | apply pw_below_drewN | apply below_drew1)) hb); clear HB; have HB := n0_; clear n0_; (try clear hb); (try clear hb2); (try clear hk); (try clear hi))); try go_wp2_with (first | ((with_reducible refine gate_ld (ty := 27) rfl ?_); apply ldE (qu := Tryd.underlying27); rfl; rfl; rfl; (with_reducible first | exact hel606 | exact hel607 | exact hel609 | exact hel610 | exact hel611); rfl; exact siz27) | (go_at_call 17; (with_reducible refine (corebankref34_Outstanding.calls k1 ((rd_T27 l0 x4_1).f0) ((rd_T27 l0 x4_1).f1) ((rd_T27 l0 x4_1).f2) ((rd_T27 l0 x4_1).f3) ((rd_T27 l0 x4_1).f4) ((rd_T27 l0 x4_1).f5) ((rd_T27 l0 x4_1).f6) ((rd_T27 l0 x4_1).f7) ((rd_T27 l0 x4_1).f8) ((rd_T27 l0 x4_1).f9) ((rd_T27 l0 x4_1).f10) ((rd_T27 l0 x4_1).f11.f0) ((rd_T27 l0 x4_1).f11.f1) ((rd_T27 l0 x4_1).f11.f2) ((rd_T27 l0 x4_1).f11.f3) ((rd_T27 l0 x4_1).f11.f4) ((rd_T27 l0 x4_1).f11.f5) ((rd_T27 l0 x4_1).f11.f6) ((rd_T27 l0 x4_1).f11.f7) ((rd_T27 l0 x4_1).f11.f8) ((rd_T27 l0 x4_1).f11.f9) ((rd_T27 l0 x4_1).f11.f10) ((rd_T27 l0 x4_1).f11.f11) _ _ ((rd_T27 l0 x4_1).f12) _ _ ((rd_T27 l0 x4_1).f13) t608 _ ?side1 ?side2 ?side3 ?side4 A7.out).mono ?_); (case side1 => repeat (first | exact (Kd.C_below HR607_23.out HB.out) | (with_reducible refine Kd.C_alloc ?_ _) | (with_reducible refine Kd.C_drewN ?_ _) | (with_reducible refine Kd.C_drew ?_))); (case side2 => exact HC607_23.out); (case side3 => repeat (first | exact (Kd.C_below HR607_24.out HB.out) | (with_reducible refine Kd.C_alloc ?_ _) | (with_reducible refine Kd.C_drewN ?_ _) | (with_reducible refine Kd.C_drew ?_))); (case side4 => exact HC607_24.out); rintro e w8 ⟨rfl, hb⟩; have n0_ := Aside0.mk (below_step (by repeat (with_reducible first | exact HB.out | apply below_alloc | apply pw_below_drewN | apply below_drew1)) hb); clear HB; have HB := n0_; clear n0_; (try clear hb); (try clear hb2); (try clear hk); (try clear hi))))
        go_meet
        case rel => exact ⟨_, (wrap64 (x3_1 + t608)), (by first | rfl | (simp [*]; done)), H', ⟨by have := HK1.out; first | omega | exact Nat.le_refl _⟩, ⟨by repeat (with_reducible first | exact HB.out | apply below_alloc | apply pw_below_drewN | apply below_drew1)⟩⟩
       ·rw [if_neg c6] at H
        have c6b0 : (((rd_T27 l0 x4_1).f2) == 1) = false := beq_eq_false_iff_ne.mpr c6
        have c6b1 : (((rd_T27 l0 x4_1).f2) != 1) = true := bne_iff_ne.mpr c6
        (first | rw [c6b0] | (simp only [i64_w, i32_w]; rw [c6b0]) | skip)
        have H' := Aside0.mk H
        clear H
        go_wp2_with (first | ((with_reducible refine gate_ld (ty := 27) rfl ?_); apply ldE (qu := Tryd.underlying27); rfl; rfl; rfl; (with_reducible first | exact hel606 | exact hel607 | exact hel609 | exact hel610 | exact hel611); rfl; exact siz27))
        repeat (go_quiet (fail); try go_wp2_with (first | ((with_reducible refine gate_ld (ty := 27) rfl ?_); apply ldE (qu := Tryd.underlying27); rfl; rfl; rfl; (with_reducible first | exact hel606 | exact hel607 | exact hel609 | exact hel610 | exact hel611); rfl; exact siz27)))
        go_meet
        case rel => exact ⟨_, (x3_1), (by first | rfl | (simp [*]; done)), H', ⟨by have := HK1.out; first | omega | exact Nat.le_refl _⟩, ⟨by repeat (with_reducible first | exact HB.out | apply below_alloc | apply pw_below_drewN | apply below_drew1)⟩⟩
      case rest =>
       clear HC5
       try clear c1
       try clear c2
       try clear c2b0
       try clear p2
       try clear c4
       try clear c4b0
       try clear c6
       try clear c6b0
       try clear c6b1
       try clear p6
       try clear q6
       try clear hx6
       try clear hx606_0
       try clear hx606_1
       try clear hx606_10
       try clear hx606_11
       try clear hx606_12
       try clear hx606_13
       try clear hx606_14
       try clear hx606_15
       try clear hx606_16
       try clear hx606_17
       try clear hx606_18
       try clear hx606_19
       try clear hx606_2
       try clear hx606_20
       try clear hx606_21
       try clear hx606_22
       try clear hx606_23
       try clear hx606_24
       try clear hx606_3
       try clear hx606_4
       try clear hx606_5
       try clear hx606_6
       try clear hx606_7
       try clear hx606_8
       try clear hx606_9
       try clear hx607_0
       try clear hx607_1
       try clear hx607_10
       try clear hx607_11
       try clear hx607_12
       try clear hx607_13
       try clear hx607_14
       try clear hx607_15
       try clear hx607_16
       try clear hx607_17
       try clear hx607_18
       try clear hx607_19
       try clear hx607_2
       try clear hx607_20
       try clear hx607_21
       try clear hx607_22
       try clear hx607_23
       try clear hx607_24
       try clear hx607_3
       try clear hx607_4
       try clear hx607_5
       try clear hx607_6
       try clear hx607_7
       try clear hx607_8
       try clear hx607_9
       try clear p606
       try clear p607
       try clear q606
       try clear q607
       obtain ⟨kq, x3_4, rfl, HA, HJ4, HB⟩ := hcut
       cases kq with
       | zero => exact absurd HA.out (by simp [corebankref39_Exposure.j1])
       | succ kj4 =>
        have H := HA.out
        clear HA
        simp only [corebankref39_Exposure.j1] at H
        by_cases c9 : 0 ≤ x4_1
        ·rw [if_pos c9] at H
         have c9b0 : decide (0 ≤ x4_1) = true := decide_eq_true c9
         clear c9
         by_cases c10 : x4_1 < (l0.length : Int)
         ·rw [if_pos c10] at H
          have c10b0 : decide (x4_1 < (l0.length : Int)) = true := decide_eq_true c10
          clear c10
          by_cases c11 : ((rd_T27 l0 x4_1).f2) = 3
          ·rw [if_pos c11] at H
           have c11b0 : (((rd_T27 l0 x4_1).f2) == 3) = true := beq_iff_eq.mpr c11
           have c11b1 : (((rd_T27 l0 x4_1).f2) != 3) = false := bne_eq_false_iff_eq.mpr c11
           clear c11
           have H' := Aside0.mk H
           clear H
           have p609 : 0 ≤ (x4_1 : Int) := of_decide_eq_true (by assumption)
           have q609 : x4_1 < (l0.length : Int) := of_decide_eq_true (by assumption)
           obtain ⟨ad609, A609_23, c609_23, A609_24, c609_24, e609, hx609_0, hx609_1, hx609_2, hx609_3, hx609_4, hx609_5, hx609_6, hx609_7, hx609_8, hx609_9, hx609_10, hx609_11, hx609_12, hx609_13, hx609_14, hx609_15, hx609_16, hx609_17, hx609_18, hx609_19, hx609_20, hx609_21, hx609_22, hx609_23, hx609_24, hl609_23, hi609_23, hl609_24, hi609_24⟩ := at_T27 HR0.out x4_1 p609 q609
           have hel609 := Aside0.mk (el25 hx609_0 hx609_1 hx609_2 hx609_3 hx609_4 hx609_5 hx609_6 hx609_7 hx609_8 hx609_9 hx609_10 hx609_11 hx609_12 hx609_13 hx609_14 hx609_15 hx609_16 hx609_17 hx609_18 hx609_19 hx609_20 hx609_21 hx609_22 hx609_23 hx609_24)
           obtain rfl : ad606 = ad609 := (by injection e609)
           replace hx609_0 := (HB.out.cell (World.block_lt_of_cell? w _ hx609_0)).trans hx609_0
           replace hx609_1 := (HB.out.cell (World.block_lt_of_cell? w _ hx609_1)).trans hx609_1
           replace hx609_2 := (HB.out.cell (World.block_lt_of_cell? w _ hx609_2)).trans hx609_2
           replace hx609_3 := (HB.out.cell (World.block_lt_of_cell? w _ hx609_3)).trans hx609_3
           replace hx609_4 := (HB.out.cell (World.block_lt_of_cell? w _ hx609_4)).trans hx609_4
           replace hx609_5 := (HB.out.cell (World.block_lt_of_cell? w _ hx609_5)).trans hx609_5
           replace hx609_6 := (HB.out.cell (World.block_lt_of_cell? w _ hx609_6)).trans hx609_6
           replace hx609_7 := (HB.out.cell (World.block_lt_of_cell? w _ hx609_7)).trans hx609_7
           replace hx609_8 := (HB.out.cell (World.block_lt_of_cell? w _ hx609_8)).trans hx609_8
           replace hx609_9 := (HB.out.cell (World.block_lt_of_cell? w _ hx609_9)).trans hx609_9
           replace hx609_10 := (HB.out.cell (World.block_lt_of_cell? w _ hx609_10)).trans hx609_10
           replace hx609_11 := (HB.out.cell (World.block_lt_of_cell? w _ hx609_11)).trans hx609_11
           replace hx609_12 := (HB.out.cell (World.block_lt_of_cell? w _ hx609_12)).trans hx609_12
           replace hx609_13 := (HB.out.cell (World.block_lt_of_cell? w _ hx609_13)).trans hx609_13
           replace hx609_14 := (HB.out.cell (World.block_lt_of_cell? w _ hx609_14)).trans hx609_14
           replace hx609_15 := (HB.out.cell (World.block_lt_of_cell? w _ hx609_15)).trans hx609_15
           replace hx609_16 := (HB.out.cell (World.block_lt_of_cell? w _ hx609_16)).trans hx609_16
           replace hx609_17 := (HB.out.cell (World.block_lt_of_cell? w _ hx609_17)).trans hx609_17
           replace hx609_18 := (HB.out.cell (World.block_lt_of_cell? w _ hx609_18)).trans hx609_18
           replace hx609_19 := (HB.out.cell (World.block_lt_of_cell? w _ hx609_19)).trans hx609_19
           replace hx609_20 := (HB.out.cell (World.block_lt_of_cell? w _ hx609_20)).trans hx609_20
           replace hx609_21 := (HB.out.cell (World.block_lt_of_cell? w _ hx609_21)).trans hx609_21
           replace hx609_22 := (HB.out.cell (World.block_lt_of_cell? w _ hx609_22)).trans hx609_22
           replace hx609_23 := (HB.out.cell (World.block_lt_of_cell? w _ hx609_23)).trans hx609_23
           replace hx609_24 := (HB.out.cell (World.block_lt_of_cell? w _ hx609_24)).trans hx609_24
           (try clear hel609)
           have hel609 := Aside0.mk (el25 hx609_0 hx609_1 hx609_2 hx609_3 hx609_4 hx609_5 hx609_6 hx609_7 hx609_8 hx609_9 hx609_10 hx609_11 hx609_12 hx609_13 hx609_14 hx609_15 hx609_16 hx609_17 hx609_18 hx609_19 hx609_20 hx609_21 hx609_22 hx609_23 hx609_24)
           have HR609_23 := Aside0.mk hi609_23
           have HC609_23 := Aside0.mk hl609_23
           clear hi609_23 hl609_23
           have HR609_24 := Aside0.mk hi609_24
           have HC609_24 := Aside0.mk hl609_24
           clear hi609_24 hl609_24
           replace p609 := eq_true p609
           replace q609 := eq_true q609
           (try (have ea_ := Option.some.inj (hx606_23.symm.trans hx609_23); injection ea_ with ea_ en_ ec_; (try subst ea_); (try subst ec_); (try clear en_)))
           (try (have ea_ := Option.some.inj (hx606_24.symm.trans hx609_24); injection ea_ with ea_ en_ ec_; (try subst ea_); (try subst ec_); (try clear en_)))
           have p610 : 0 ≤ (x4_1 : Int) := of_decide_eq_true (by assumption)
           have q610 : x4_1 < (l0.length : Int) := of_decide_eq_true (by assumption)
           obtain ⟨ad610, A610_23, c610_23, A610_24, c610_24, e610, hx610_0, hx610_1, hx610_2, hx610_3, hx610_4, hx610_5, hx610_6, hx610_7, hx610_8, hx610_9, hx610_10, hx610_11, hx610_12, hx610_13, hx610_14, hx610_15, hx610_16, hx610_17, hx610_18, hx610_19, hx610_20, hx610_21, hx610_22, hx610_23, hx610_24, hl610_23, hi610_23, hl610_24, hi610_24⟩ := at_T27 HR0.out x4_1 p610 q610
           have hel610 := Aside0.mk (el25 hx610_0 hx610_1 hx610_2 hx610_3 hx610_4 hx610_5 hx610_6 hx610_7 hx610_8 hx610_9 hx610_10 hx610_11 hx610_12 hx610_13 hx610_14 hx610_15 hx610_16 hx610_17 hx610_18 hx610_19 hx610_20 hx610_21 hx610_22 hx610_23 hx610_24)
           obtain rfl : ad606 = ad610 := (by injection e610)
           replace hx610_0 := (HB.out.cell (World.block_lt_of_cell? w _ hx610_0)).trans hx610_0
           replace hx610_1 := (HB.out.cell (World.block_lt_of_cell? w _ hx610_1)).trans hx610_1
           replace hx610_2 := (HB.out.cell (World.block_lt_of_cell? w _ hx610_2)).trans hx610_2
           replace hx610_3 := (HB.out.cell (World.block_lt_of_cell? w _ hx610_3)).trans hx610_3
           replace hx610_4 := (HB.out.cell (World.block_lt_of_cell? w _ hx610_4)).trans hx610_4
           replace hx610_5 := (HB.out.cell (World.block_lt_of_cell? w _ hx610_5)).trans hx610_5
           replace hx610_6 := (HB.out.cell (World.block_lt_of_cell? w _ hx610_6)).trans hx610_6
           replace hx610_7 := (HB.out.cell (World.block_lt_of_cell? w _ hx610_7)).trans hx610_7
           replace hx610_8 := (HB.out.cell (World.block_lt_of_cell? w _ hx610_8)).trans hx610_8
           replace hx610_9 := (HB.out.cell (World.block_lt_of_cell? w _ hx610_9)).trans hx610_9
           replace hx610_10 := (HB.out.cell (World.block_lt_of_cell? w _ hx610_10)).trans hx610_10
           replace hx610_11 := (HB.out.cell (World.block_lt_of_cell? w _ hx610_11)).trans hx610_11
           replace hx610_12 := (HB.out.cell (World.block_lt_of_cell? w _ hx610_12)).trans hx610_12
           replace hx610_13 := (HB.out.cell (World.block_lt_of_cell? w _ hx610_13)).trans hx610_13
           replace hx610_14 := (HB.out.cell (World.block_lt_of_cell? w _ hx610_14)).trans hx610_14
           replace hx610_15 := (HB.out.cell (World.block_lt_of_cell? w _ hx610_15)).trans hx610_15
           replace hx610_16 := (HB.out.cell (World.block_lt_of_cell? w _ hx610_16)).trans hx610_16
           replace hx610_17 := (HB.out.cell (World.block_lt_of_cell? w _ hx610_17)).trans hx610_17
           replace hx610_18 := (HB.out.cell (World.block_lt_of_cell? w _ hx610_18)).trans hx610_18
           replace hx610_19 := (HB.out.cell (World.block_lt_of_cell? w _ hx610_19)).trans hx610_19
           replace hx610_20 := (HB.out.cell (World.block_lt_of_cell? w _ hx610_20)).trans hx610_20
           replace hx610_21 := (HB.out.cell (World.block_lt_of_cell? w _ hx610_21)).trans hx610_21
           replace hx610_22 := (HB.out.cell (World.block_lt_of_cell? w _ hx610_22)).trans hx610_22
           replace hx610_23 := (HB.out.cell (World.block_lt_of_cell? w _ hx610_23)).trans hx610_23
           replace hx610_24 := (HB.out.cell (World.block_lt_of_cell? w _ hx610_24)).trans hx610_24
           (try clear hel610)
           have hel610 := Aside0.mk (el25 hx610_0 hx610_1 hx610_2 hx610_3 hx610_4 hx610_5 hx610_6 hx610_7 hx610_8 hx610_9 hx610_10 hx610_11 hx610_12 hx610_13 hx610_14 hx610_15 hx610_16 hx610_17 hx610_18 hx610_19 hx610_20 hx610_21 hx610_22 hx610_23 hx610_24)
           have HR610_23 := Aside0.mk hi610_23
           have HC610_23 := Aside0.mk hl610_23
           clear hi610_23 hl610_23
           have HR610_24 := Aside0.mk hi610_24
           have HC610_24 := Aside0.mk hl610_24
           clear hi610_24 hl610_24
           replace p610 := eq_true p610
           replace q610 := eq_true q610
           have ea_ := Option.some.inj (hx609_23.symm.trans hx610_23)
           injection ea_ with ea_ en_ ec_
           subst ea_
           subst ec_
           clear en_
           have ea_ := Option.some.inj (hx609_24.symm.trans hx610_24)
           injection ea_ with ea_ en_ ec_
           subst ea_
           subst ec_
           clear en_
           have p611 : 0 ≤ (x4_1 : Int) := of_decide_eq_true (by assumption)
           have q611 : x4_1 < (l0.length : Int) := of_decide_eq_true (by assumption)
           obtain ⟨ad611, A611_23, c611_23, A611_24, c611_24, e611, hx611_0, hx611_1, hx611_2, hx611_3, hx611_4, hx611_5, hx611_6, hx611_7, hx611_8, hx611_9, hx611_10, hx611_11, hx611_12, hx611_13, hx611_14, hx611_15, hx611_16, hx611_17, hx611_18, hx611_19, hx611_20, hx611_21, hx611_22, hx611_23, hx611_24, hl611_23, hi611_23, hl611_24, hi611_24⟩ := at_T27 HR0.out x4_1 p611 q611
           have hel611 := Aside0.mk (el25 hx611_0 hx611_1 hx611_2 hx611_3 hx611_4 hx611_5 hx611_6 hx611_7 hx611_8 hx611_9 hx611_10 hx611_11 hx611_12 hx611_13 hx611_14 hx611_15 hx611_16 hx611_17 hx611_18 hx611_19 hx611_20 hx611_21 hx611_22 hx611_23 hx611_24)
           obtain rfl : ad606 = ad611 := (by injection e611)
           replace hx611_0 := (HB.out.cell (World.block_lt_of_cell? w _ hx611_0)).trans hx611_0
           replace hx611_1 := (HB.out.cell (World.block_lt_of_cell? w _ hx611_1)).trans hx611_1
           replace hx611_2 := (HB.out.cell (World.block_lt_of_cell? w _ hx611_2)).trans hx611_2
           replace hx611_3 := (HB.out.cell (World.block_lt_of_cell? w _ hx611_3)).trans hx611_3
           replace hx611_4 := (HB.out.cell (World.block_lt_of_cell? w _ hx611_4)).trans hx611_4
           replace hx611_5 := (HB.out.cell (World.block_lt_of_cell? w _ hx611_5)).trans hx611_5
           replace hx611_6 := (HB.out.cell (World.block_lt_of_cell? w _ hx611_6)).trans hx611_6
           replace hx611_7 := (HB.out.cell (World.block_lt_of_cell? w _ hx611_7)).trans hx611_7
           replace hx611_8 := (HB.out.cell (World.block_lt_of_cell? w _ hx611_8)).trans hx611_8
           replace hx611_9 := (HB.out.cell (World.block_lt_of_cell? w _ hx611_9)).trans hx611_9
           replace hx611_10 := (HB.out.cell (World.block_lt_of_cell? w _ hx611_10)).trans hx611_10
           replace hx611_11 := (HB.out.cell (World.block_lt_of_cell? w _ hx611_11)).trans hx611_11
           replace hx611_12 := (HB.out.cell (World.block_lt_of_cell? w _ hx611_12)).trans hx611_12
           replace hx611_13 := (HB.out.cell (World.block_lt_of_cell? w _ hx611_13)).trans hx611_13
           replace hx611_14 := (HB.out.cell (World.block_lt_of_cell? w _ hx611_14)).trans hx611_14
           replace hx611_15 := (HB.out.cell (World.block_lt_of_cell? w _ hx611_15)).trans hx611_15
           replace hx611_16 := (HB.out.cell (World.block_lt_of_cell? w _ hx611_16)).trans hx611_16
           replace hx611_17 := (HB.out.cell (World.block_lt_of_cell? w _ hx611_17)).trans hx611_17
           replace hx611_18 := (HB.out.cell (World.block_lt_of_cell? w _ hx611_18)).trans hx611_18
           replace hx611_19 := (HB.out.cell (World.block_lt_of_cell? w _ hx611_19)).trans hx611_19
           replace hx611_20 := (HB.out.cell (World.block_lt_of_cell? w _ hx611_20)).trans hx611_20
           replace hx611_21 := (HB.out.cell (World.block_lt_of_cell? w _ hx611_21)).trans hx611_21
           replace hx611_22 := (HB.out.cell (World.block_lt_of_cell? w _ hx611_22)).trans hx611_22
           replace hx611_23 := (HB.out.cell (World.block_lt_of_cell? w _ hx611_23)).trans hx611_23
           replace hx611_24 := (HB.out.cell (World.block_lt_of_cell? w _ hx611_24)).trans hx611_24
           (try clear hel611)
           have hel611 := Aside0.mk (el25 hx611_0 hx611_1 hx611_2 hx611_3 hx611_4 hx611_5 hx611_6 hx611_7 hx611_8 hx611_9 hx611_10 hx611_11 hx611_12 hx611_13 hx611_14 hx611_15 hx611_16 hx611_17 hx611_18 hx611_19 hx611_20 hx611_21 hx611_22 hx611_23 hx611_24)
           have HR611_23 := Aside0.mk hi611_23
           have HC611_23 := Aside0.mk hl611_23
           clear hi611_23 hl611_23
           have HR611_24 := Aside0.mk hi611_24
           have HC611_24 := Aside0.mk hl611_24
           clear hi611_24 hl611_24
           replace p611 := eq_true p611
           replace q611 := eq_true q611
           have ea_ := Option.some.inj (hx609_23.symm.trans hx611_23)
           injection ea_ with ea_ en_ ec_
           subst ea_
           subst ec_
           clear en_
           have ea_ := Option.some.inj (hx609_24.symm.trans hx611_24)
           injection ea_ with ea_ en_ ec_
           subst ea_
           subst ec_
           clear en_
           go_wp2_with (first | ((with_reducible refine gate_ld (ty := 27) rfl ?_); apply ldE (qu := Tryd.underlying27); rfl; rfl; rfl; (with_reducible first | exact hel606 | exact hel607 | exact hel609 | exact hel610 | exact hel611); rfl; exact siz27))
           repeat (go_quiet (fail); try go_wp2_with (first | ((with_reducible refine gate_ld (ty := 27) rfl ?_); apply ldE (qu := Tryd.underlying27); rfl; rfl; rfl; (with_reducible first | exact hel606 | exact hel607 | exact hel609 | exact hel610 | exact hel611); rfl; exact siz27)))
           go_meet
           case rel => exact ⟨_, (wrap64 ((wrap64 (x3_4 + ((rd_T27 l0 x4_1).f9))) - ((rd_T27 l0 x4_1).f10))), (by first | rfl | (simp [*]; done)), H', ⟨by have := HK1.out; have := HJ4.out; first | omega | exact Nat.le_refl _⟩, ⟨by repeat (with_reducible first | exact HB.out | apply below_alloc | apply pw_below_drewN | apply below_drew1)⟩⟩
          ·rw [if_neg c11] at H
           have c11b0 : (((rd_T27 l0 x4_1).f2) == 3) = false := beq_eq_false_iff_ne.mpr c11
           have c11b1 : (((rd_T27 l0 x4_1).f2) != 3) = true := bne_iff_ne.mpr c11
           have H' := Aside0.mk H
           clear H
           have p609 : 0 ≤ (x4_1 : Int) := of_decide_eq_true (by assumption)
           have q609 : x4_1 < (l0.length : Int) := of_decide_eq_true (by assumption)
           obtain ⟨ad609, A609_23, c609_23, A609_24, c609_24, e609, hx609_0, hx609_1, hx609_2, hx609_3, hx609_4, hx609_5, hx609_6, hx609_7, hx609_8, hx609_9, hx609_10, hx609_11, hx609_12, hx609_13, hx609_14, hx609_15, hx609_16, hx609_17, hx609_18, hx609_19, hx609_20, hx609_21, hx609_22, hx609_23, hx609_24, hl609_23, hi609_23, hl609_24, hi609_24⟩ := at_T27 HR0.out x4_1 p609 q609
           have hel609 := Aside0.mk (el25 hx609_0 hx609_1 hx609_2 hx609_3 hx609_4 hx609_5 hx609_6 hx609_7 hx609_8 hx609_9 hx609_10 hx609_11 hx609_12 hx609_13 hx609_14 hx609_15 hx609_16 hx609_17 hx609_18 hx609_19 hx609_20 hx609_21 hx609_22 hx609_23 hx609_24)
           obtain rfl : ad606 = ad609 := (by injection e609)
           replace hx609_0 := (HB.out.cell (World.block_lt_of_cell? w _ hx609_0)).trans hx609_0
           replace hx609_1 := (HB.out.cell (World.block_lt_of_cell? w _ hx609_1)).trans hx609_1
           replace hx609_2 := (HB.out.cell (World.block_lt_of_cell? w _ hx609_2)).trans hx609_2
           replace hx609_3 := (HB.out.cell (World.block_lt_of_cell? w _ hx609_3)).trans hx609_3
           replace hx609_4 := (HB.out.cell (World.block_lt_of_cell? w _ hx609_4)).trans hx609_4
           replace hx609_5 := (HB.out.cell (World.block_lt_of_cell? w _ hx609_5)).trans hx609_5
           replace hx609_6 := (HB.out.cell (World.block_lt_of_cell? w _ hx609_6)).trans hx609_6
           replace hx609_7 := (HB.out.cell (World.block_lt_of_cell? w _ hx609_7)).trans hx609_7
           replace hx609_8 := (HB.out.cell (World.block_lt_of_cell? w _ hx609_8)).trans hx609_8
           replace hx609_9 := (HB.out.cell (World.block_lt_of_cell? w _ hx609_9)).trans hx609_9
           replace hx609_10 := (HB.out.cell (World.block_lt_of_cell? w _ hx609_10)).trans hx609_10
           replace hx609_11 := (HB.out.cell (World.block_lt_of_cell? w _ hx609_11)).trans hx609_11
           replace hx609_12 := (HB.out.cell (World.block_lt_of_cell? w _ hx609_12)).trans hx609_12
           replace hx609_13 := (HB.out.cell (World.block_lt_of_cell? w _ hx609_13)).trans hx609_13
           replace hx609_14 := (HB.out.cell (World.block_lt_of_cell? w _ hx609_14)).trans hx609_14
           replace hx609_15 := (HB.out.cell (World.block_lt_of_cell? w _ hx609_15)).trans hx609_15
           replace hx609_16 := (HB.out.cell (World.block_lt_of_cell? w _ hx609_16)).trans hx609_16
           replace hx609_17 := (HB.out.cell (World.block_lt_of_cell? w _ hx609_17)).trans hx609_17
           replace hx609_18 := (HB.out.cell (World.block_lt_of_cell? w _ hx609_18)).trans hx609_18
           replace hx609_19 := (HB.out.cell (World.block_lt_of_cell? w _ hx609_19)).trans hx609_19
           replace hx609_20 := (HB.out.cell (World.block_lt_of_cell? w _ hx609_20)).trans hx609_20
           replace hx609_21 := (HB.out.cell (World.block_lt_of_cell? w _ hx609_21)).trans hx609_21
           replace hx609_22 := (HB.out.cell (World.block_lt_of_cell? w _ hx609_22)).trans hx609_22
           replace hx609_23 := (HB.out.cell (World.block_lt_of_cell? w _ hx609_23)).trans hx609_23
           replace hx609_24 := (HB.out.cell (World.block_lt_of_cell? w _ hx609_24)).trans hx609_24
           (try clear hel609)
           have hel609 := Aside0.mk (el25 hx609_0 hx609_1 hx609_2 hx609_3 hx609_4 hx609_5 hx609_6 hx609_7 hx609_8 hx609_9 hx609_10 hx609_11 hx609_12 hx609_13 hx609_14 hx609_15 hx609_16 hx609_17 hx609_18 hx609_19 hx609_20 hx609_21 hx609_22 hx609_23 hx609_24)
           have HR609_23 := Aside0.mk hi609_23
           have HC609_23 := Aside0.mk hl609_23
           clear hi609_23 hl609_23
           have HR609_24 := Aside0.mk hi609_24
           have HC609_24 := Aside0.mk hl609_24
           clear hi609_24 hl609_24
           replace p609 := eq_true p609
           replace q609 := eq_true q609
           (try (have ea_ := Option.some.inj (hx606_23.symm.trans hx609_23); injection ea_ with ea_ en_ ec_; (try subst ea_); (try subst ec_); (try clear en_)))
           (try (have ea_ := Option.some.inj (hx606_24.symm.trans hx609_24); injection ea_ with ea_ en_ ec_; (try subst ea_); (try subst ec_); (try clear en_)))
           go_wp2_with (first | ((with_reducible refine gate_ld (ty := 27) rfl ?_); apply ldE (qu := Tryd.underlying27); rfl; rfl; rfl; (with_reducible first | exact hel606 | exact hel607 | exact hel609 | exact hel610 | exact hel611); rfl; exact siz27))
           repeat (go_quiet (fail); try go_wp2_with (first | ((with_reducible refine gate_ld (ty := 27) rfl ?_); apply ldE (qu := Tryd.underlying27); rfl; rfl; rfl; (with_reducible first | exact hel606 | exact hel607 | exact hel609 | exact hel610 | exact hel611); rfl; exact siz27)))
           go_meet
           case rel => exact ⟨_, (x3_4), (by first | rfl | (simp [*]; done)), H', ⟨by have := HK1.out; have := HJ4.out; first | omega | exact Nat.le_refl _⟩, ⟨by repeat (with_reducible first | exact HB.out | apply below_alloc | apply pw_below_drewN | apply below_drew1)⟩⟩
         ·rw [if_neg c10] at H
          exact absurd H (by simp)
        ·rw [if_neg c9] at H
         exact absurd H (by simp)
     ·rw [if_neg c4] at H
      exact absurd H (by simp)
    case rest =>
     clear HC3
     try clear c1
     try clear c2
     try clear c2b0
     try clear p2
     try clear c4
     try clear c4b0
     try clear c6
     try clear c6b0
     try clear c6b1
     try clear p6
     try clear q6
     try clear hx6
     try clear c9
     try clear c9b0
     try clear c10
     try clear c10b0
     try clear c11
     try clear c11b0
     try clear c11b1
     try clear hx606_0
     try clear hx606_1
     try clear hx606_10
     try clear hx606_11
     try clear hx606_12
     try clear hx606_13
     try clear hx606_14
     try clear hx606_15
     try clear hx606_16
     try clear hx606_17
     try clear hx606_18
     try clear hx606_19
     try clear hx606_2
     try clear hx606_20
     try clear hx606_21
     try clear hx606_22
     try clear hx606_23
     try clear hx606_24
     try clear hx606_3
     try clear hx606_4
     try clear hx606_5
     try clear hx606_6
     try clear hx606_7
     try clear hx606_8
     try clear hx606_9
     try clear hx607_0
     try clear hx607_1
     try clear hx607_10
     try clear hx607_11
     try clear hx607_12
     try clear hx607_13
     try clear hx607_14
     try clear hx607_15
     try clear hx607_16
     try clear hx607_17
     try clear hx607_18
     try clear hx607_19
     try clear hx607_2
     try clear hx607_20
     try clear hx607_21
     try clear hx607_22
     try clear hx607_23
     try clear hx607_24
     try clear hx607_3
     try clear hx607_4
     try clear hx607_5
     try clear hx607_6
     try clear hx607_7
     try clear hx607_8
     try clear hx607_9
     try clear hx609_0
     try clear hx609_1
     try clear hx609_10
     try clear hx609_11
     try clear hx609_12
     try clear hx609_13
     try clear hx609_14
     try clear hx609_15
     try clear hx609_16
     try clear hx609_17
     try clear hx609_18
     try clear hx609_19
     try clear hx609_2
     try clear hx609_20
     try clear hx609_21
     try clear hx609_22
     try clear hx609_23
     try clear hx609_24
     try clear hx609_3
     try clear hx609_4
     try clear hx609_5
     try clear hx609_6
     try clear hx609_7
     try clear hx609_8
     try clear hx609_9
     try clear hx610_0
     try clear hx610_1
     try clear hx610_10
     try clear hx610_11
     try clear hx610_12
     try clear hx610_13
     try clear hx610_14
     try clear hx610_15
     try clear hx610_16
     try clear hx610_17
     try clear hx610_18
     try clear hx610_19
     try clear hx610_2
     try clear hx610_20
     try clear hx610_21
     try clear hx610_22
     try clear hx610_23
     try clear hx610_24
     try clear hx610_3
     try clear hx610_4
     try clear hx610_5
     try clear hx610_6
     try clear hx610_7
     try clear hx610_8
     try clear hx610_9
     try clear hx611_0
     try clear hx611_1
     try clear hx611_10
     try clear hx611_11
     try clear hx611_12
     try clear hx611_13
     try clear hx611_14
     try clear hx611_15
     try clear hx611_16
     try clear hx611_17
     try clear hx611_18
     try clear hx611_19
     try clear hx611_2
     try clear hx611_20
     try clear hx611_21
     try clear hx611_22
     try clear hx611_23
     try clear hx611_24
     try clear hx611_3
     try clear hx611_4
     try clear hx611_5
     try clear hx611_6
     try clear hx611_7
     try clear hx611_8
     try clear hx611_9
     try clear p2
     try clear p6
     try clear p606
     try clear p607
     try clear p609
     try clear p610
     try clear p611
     try clear q6
     try clear q606
     try clear q607
     try clear q609
     try clear q610
     try clear q611
     obtain ⟨kq, x3_2, rfl, HA, HJ2, HB⟩ := hcut
     cases kq with
     | zero => exact absurd HA.out (by simp [corebankref39_Exposure.j2])
     | succ kj2 =>
      have H := HA.out
      clear HA
      simp only [corebankref39_Exposure.j2] at H
      have H' := Aside0.mk H
      clear H
      go_wp2_with (first | ((with_reducible refine gate_ld (ty := 27) rfl ?_); apply ldE (qu := Tryd.underlying27); rfl; rfl; rfl; (with_reducible first | exact hel606 | exact hel607 | exact hel609 | exact hel610 | exact hel611); rfl; exact siz27))
      repeat (go_quiet (fail); try go_wp2_with (first | ((with_reducible refine gate_ld (ty := 27) rfl ?_); apply ldE (qu := Tryd.underlying27); rfl; rfl; rfl; (with_reducible first | exact hel606 | exact hel607 | exact hel609 | exact hel610 | exact hel611); rfl; exact siz27)))
      go_roundg kj2
      case measure => have := HK1.out; have := HJ2.out; omega
      case rel => exact ⟨(x3_2), (wrap64 (x4_1 + 1)), (by first | rfl | (simp [*]; done)), (by first | rfl | (simp [*]; done)), H', ⟨by have := HK1.out; have := HJ2.out; omega⟩, ⟨by repeat (with_reducible first | exact HB.out | apply below_alloc | apply pw_below_drewN | apply below_drew1)⟩⟩
   ·rw [if_neg c2] at H
    have c2b0 : decide (x4_1 < (l0.length : Int)) = false := decide_eq_false c2
    clear c2
    obtain rfl := Option.some.inj H
    go_wp2_with (first | ((with_reducible refine gate_ld (ty := 27) rfl ?_); apply ldE (qu := Tryd.underlying27); rfl; rfl; rfl; (with_reducible first | exact hel606 | exact hel607 | exact hel609 | exact hel610 | exact hel611); rfl; exact siz27))
    repeat (go_quiet (fail); try go_wp2_with (first | ((with_reducible refine gate_ld (ty := 27) rfl ?_); apply ldE (qu := Tryd.underlying27); rfl; rfl; rfl; (with_reducible first | exact hel606 | exact hel607 | exact hel609 | exact hel610 | exact hel611); rfl; exact siz27)))
    go_ret
    exact ⟨by first | rfl | (simp [errW_none, errW_some] <;> rfl) | (simp [*, errW_none, errW_some] <;> rfl), by repeat (with_reducible first | exact HB.out | apply below_alloc | apply pw_below_drewN | apply below_drew1)⟩

end Go.Proofs.YtbapjcafcmnhoaaDoor.X
