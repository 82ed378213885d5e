-- Written by program (wip/tools/xprint.sh) for this seat; not trusted: Lean checks it.
import Derived.Test.YtfdjgdjmllkdcaaDoorX0
import Derived.Test.YtfdjgdjmllkdcaaDoorX1
import Derived.Test.YtfdjgdjmllkdcaaDoorX3
import Derived.Test.YtfdjgdjmllkdcaaDoorX8
namespace Go.Proofs.YtfdjgdjmllkdcaaDoor.X
open Go.RowKit Go.Proofs.YtfdjgdjmllkdcaaDoorW.PrintWords Go.Proofs.YtfdjgdjmllkdcaaDoorW.PrintLast Go.Proofs.YtfdjgdjmllkdcaaDoorW.PrintMore
attribute [local go_sem] max2_int min2_int   -- for this text's walks alone
set_option linter.unusedVariables false
set_option linter.unusedSimpArgs false

def zb10_0 : Array Bool := bz 11 0
def zb10_1 : Array Bool := bz 11 1
def zb10_2 : Array Bool := bz 11 3
def zb10_3 : Array Bool := bz 11 7
def zb10_4 : Array Bool := bz 11 15
def zb10_5 : Array Bool := bz 11 47
def zb10_6 : Array Bool := bz 11 111
def zb10_7 : Array Bool := bz 11 127
def zb10_8 : Array Bool := bz 11 255
def zb10_9 : Array Bool := bz 11 511
def zb10_10 : Array Bool := bz 11 1023
def zb10_11 : Array Bool := bz 11 2047
/-! ### collect_Return: function 14 -/
def collect_Return.j0 : Nat → List (S36) → Int → Int → Int → Bool → Option ((List (S36)) × Int)
  | 0, _, _, _, _, _ => none
  | k + 1, x0, x2, x3, x10, x25 => if x25 = true then (some (([] : List (S36)), 1)) else (if 0 ≤ x10 then (if x10 < (x0.length : Int) then ((collect_Window.f x2).bind fun t130 => (if ((rd_T36 x0 x10).f4) < (wrap64 (x3 - t130)) then (some (([] : List (S36)), 23)) else ((api_Debit_32.f x0).bind fun t131 => (if x10 < (t131.length : Int) then ((some (t131.set (x10 : Int).toNat (⟨(rd_T36 t131 x10).f0, (rd_T36 t131 x10).f1, (rd_T36 t131 x10).f2, (rd_T36 t131 x10).f3, (rd_T36 t131 x10).f4, (rd_T36 t131 x10).f5, (rd_T36 t131 x10).f6, 3, (rd_T36 t131 x10).f8⟩ : S36) : List (S36))).bind fun y134 => ((some (y134.set (x10 : Int).toNat (⟨(rd_T36 y134 x10).f0, (rd_T36 y134 x10).f1, (rd_T36 y134 x10).f2, (rd_T36 y134 x10).f3, (rd_T36 y134 x10).f4, x3, (rd_T36 y134 x10).f6, (rd_T36 y134 x10).f7, (rd_T36 y134 x10).f8⟩ : S36) : List (S36))).bind fun y135 => (some ((y135.set (x10 : Int).toNat (⟨(rd_T36 y135 x10).f0, (rd_T36 y135 x10).f1, (rd_T36 y135 x10).f2, (rd_T36 y135 x10).f3, (rd_T36 y135 x10).f4, (rd_T36 y135 x10).f5, x2, (rd_T36 y135 x10).f7, (rd_T36 y135 x10).f8⟩ : S36)), 0)))) else (none))))) else (none)) else (none))
def collect_Return.f (k : Nat) (l0 : List (S36)) (a1 : Int) (a2 : Int) (a3 : Int) : Option ((List (S36)) × Int) := (collect_index.f k l0 a1).bind fun t125 => (if t125 < 0 then (some (([] : List (S36)), 11)) else (if 0 ≤ t125 then (if t125 < (l0.length : Int) then (if ((rd_T36 l0 t125).f7) = 2 then (if a2 < 1 then (collect_Return.j0 k l0 a2 a3 t125 true) else (if a2 > 4 then (collect_Return.j0 k l0 a2 a3 t125 true) else ((date_Valid.f a3).bind fun t127 => (if t127 = true then (collect_Return.j0 k l0 a2 a3 t125 (decide (a3 < ((rd_T36 l0 t125).f4)))) else (collect_Return.j0 k l0 a2 a3 t125 true))))) else (some (([] : List (S36)), 17))) else (none)) else (none)))
theorem collect_Return.mono_l : ∀ k, (∀ y0 y1 y2 y3 y4, LeO (collect_Return.j0 k y0 y1 y2 y3 y4) (collect_Return.j0 (k + 1) y0 y1 y2 y3 y4))
  | 0 => fun _ _ _ _ _ r h => by simp [collect_Return.j0] at h
  | k + 1 => by
    have ih0 := collect_Return.mono_l k
    · intro y0 y1 y2 y3 y4
      unfold collect_Return.j0
      repeat' first
      | (with_reducible exact ih0 _ _ _ _ _)
      | (with_reducible exact collect_index.mono _ _ _)
      | (with_reducible exact LeO.refl _)
      | (with_reducible exact LeO.none _)
      | (with_reducible refine LeO.ite ?_ ?_)
      | (with_reducible refine LeO.bind ?_ (fun _ => ?_))
      | exact ih0 _ _ _ _ _
      | exact collect_index.mono _ _ _
      | exact LeO.none _
      | refine LeO.ite ?_ ?_
      | refine LeO.bind ?_ (fun _ => ?_)
theorem collect_Return.mono : ∀ a0 a1 a2 a3 k, LeO (collect_Return.f k a0 a1 a2 a3) (collect_Return.f (k + 1) a0 a1 a2 a3) := by
  intro a0 a1 a2 a3 k
  have ih0 := collect_Return.mono_l k
  unfold collect_Return.f
  repeat' first
      | (with_reducible exact ih0 _ _ _ _ _)
      | (with_reducible exact collect_index.mono _ _ _)
      | (with_reducible exact LeO.refl _)
      | (with_reducible exact LeO.none _)
      | (with_reducible refine LeO.ite ?_ ?_)
      | (with_reducible refine LeO.bind ?_ (fun _ => ?_))
      | exact ih0 _ _ _ _ _
      | exact collect_index.mono _ _ _
      | exact LeO.none _
      | refine LeO.ite ?_ ?_
      | refine LeO.bind ?_ (fun _ => ?_)
def collect_Return.T8 : Bool × List (List Nat × List Nat) := (true, [([], []), ([], []), ([0, 1], [0, 1]), ([2], [2]), ([3], [3]), ([], []), ([], []), ([6], [6]), ([5, 7], [5, 7]), ([4, 8], [4, 8]), ([9, 7], [9])])
def collect_Return.B8 : List Nat := [0, 0, 3, 7, 15, 0, 0, 64, 224, 511, 1023]
theorem collect_Return.tab8 : rtab .any (opsOf Tryd.f14 8) = collect_Return.T8 := by kernel_rfl
theorem collect_Return.bits8 : waitsOk collect_Return.T8.2 collect_Return.B8 = true := by kernel_rfl
set_option maxHeartbeats 8000000 in
set_option maxRecDepth 100000 in
theorem collect_Return.calls (k : Nat) (A0 : Option Addr) (c0 : Nat) (l0 : List (S36)) (a1 : Int) (a2 : Int) (a3 : Int) (r1 : List (S36)) (r2 : Int) (w : World) (hV : VarOK w) (hr0 : Kd.C k36 w A0 l0.length l0) (hc0 : l0.length ≤ c0) (h : collect_Return.f k l0 a1 a2 a3 = some (r1, r2)) :
  Calls Tryd.prog 14 #[.slice A0 l0.length c0, .int .i64 a1, .int .i64 a2, .int .i64 a3] w fun e w' => ∃ v0_ : Value, e = .returned (.tuple #[v0_, .int .i64 r2]) ∧ Kd.R k36 36 w' w.heap.size (fun _ => True) v0_ r1 ∧ Below w.heap.size w w' := by
 have HV := Aside0.mk hV
 clear hV
 have HR0 := Aside0.mk hr0
 have HC0 := Aside0.mk hc0
 clear hr0 hc0
 have HB := Aside0.mk (Below.refl w.heap.size w)
 have H : ((collect_index.f k l0 a1).bind fun t125 => (if t125 < 0 then (some (([] : List (S36)), 11)) else (if 0 ≤ t125 then (if t125 < (l0.length : Int) then (if ((rd_T36 l0 t125).f7) = 2 then (if a2 < 1 then (collect_Return.j0 k l0 a2 a3 t125 true) else (if a2 > 4 then (collect_Return.j0 k l0 a2 a3 t125 true) else ((date_Valid.f a3).bind fun t127 => (if t127 = true then (collect_Return.j0 k l0 a2 a3 t125 (decide (a3 < ((rd_T36 l0 t125).f4)))) else (collect_Return.j0 k l0 a2 a3 t125 true))))) else (some (([] : List (S36)), 17))) else (none)) else (none)))) = some (r1, r2) := h
 clear h
 replace H := Option.bind_eq_some_iff.mp H
 obtain ⟨t125, A50, H⟩ := H
 replace H : (if t125 < 0 then (some (([] : List (S36)), 11)) else (if 0 ≤ t125 then (if t125 < (l0.length : Int) then (if ((rd_T36 l0 t125).f7) = 2 then (if a2 < 1 then (collect_Return.j0 k l0 a2 a3 t125 true) else (if a2 > 4 then (collect_Return.j0 k l0 a2 a3 t125 true) else ((date_Valid.f a3).bind fun t127 => (if t127 = true then (collect_Return.j0 k l0 a2 a3 t125 (decide (a3 < ((rd_T36 l0 t125).f4)))) else (collect_Return.j0 k l0 a2 a3 t125 true))))) else (some (([] : List (S36)), 17))) else (none)) else (none))) = some (r1, r2) := H
 have A5 := Aside0.mk A50
 clear A50
 by_cases c6 : t125 < 0
 ·rw [if_pos c6] at H
  have c6b0 : decide (t125 < 0) = true := decide_eq_true c6
  clear c6
  simp only [Option.some.injEq, Prod.mk.injEq] at H
  obtain ⟨rfl, rfl⟩ := H
  go_enter Tryd.func14, Tryd.ntmps14
  go_wp2_with (first | ((with_reducible refine gate_callee (f := 31) rfl ?_); refine goesL_ (some 14) rfl rfl Tryd.func31 (by kernel_rfl) rfl #[.slice A0 l0.length c0, .int .i64 a1] rfl (by (try simp only [List.map_toArray, List.map_cons, List.map_nil]); first | done | rfl | (simp only [List.length_drop, List.length_take]; rfl)) ?_; (with_reducible refine (collect_index.calls k _ _ l0 a1 t125 _ ?side1 ?side2 A5.out).mono ?_); (case side1 => repeat (first | exact HR0.out | (with_reducible refine Kd.C_alloc ?_ _) | (with_reducible refine Kd.C_drewN ?_ _) | (with_reducible refine Kd.C_drew ?_))); (case side2 => exact HC0.out); rintro e w7 ⟨rfl, hb⟩; refine ⟨_, rfl, ?_⟩; have n0_ := Aside0.mk (below_step (by repeat (with_reducible first | exact HB.out | apply below_alloc | apply pw_below_drewN | apply below_drew1)) hb); clear HB; have HB := n0_; clear n0_; (try clear hb); (try clear hb2); (try clear hk); (try clear hi)))
  go_ret2
  exact ⟨_, by first | rfl | (simp [errW_none, errW_some] <;> rfl) | (simp [*, errW_none, errW_some] <;> rfl), by first | exact Kd.R_nil _ _ _ _ _ | exact Kd.N_nil _ _ _ _ _ | exact Kd.V_nil _ _ _ _ _ | exact Kd.Q_nil _ _ _ _ _ | exact Kd.S_nil _ _ _ _ _, by repeat (with_reducible first | exact HB.out | apply below_alloc | apply pw_below_drewN | apply below_drew1)⟩
 ·rw [if_neg c6] at H
  have c6b0 : decide (t125 < 0) = false := decide_eq_false c6
  clear c6
  by_cases c8 : 0 ≤ t125
  ·rw [if_pos c8] at H
   have c8b0 : decide (0 ≤ t125) = true := decide_eq_true c8
   clear c8
   by_cases c9 : t125 < (l0.length : Int)
   ·rw [if_pos c9] at H
    have c9b0 : decide (t125 < (l0.length : Int)) = true := decide_eq_true c9
    clear c9
    by_cases c10 : ((rd_T36 l0 t125).f7) = 2
    ·rw [if_pos c10] at H
     have c10b0 : (((rd_T36 l0 t125).f7) == 2) = true := beq_iff_eq.mpr c10
     have c10b1 : (((rd_T36 l0 t125).f7) != 2) = false := bne_eq_false_iff_eq.mpr c10
     clear c10
     have HC11 := Aside0.mk H
     clear H
     go_enter Tryd.func14, Tryd.ntmps14
     go_upto_region 6 with (first | ((with_reducible refine gate_callee (f := 31) rfl ?_); refine goesL_ (some 14) rfl rfl Tryd.func31 (by kernel_rfl) rfl #[.slice A0 l0.length c0, .int .i64 a1] rfl (by (try simp only [List.map_toArray, List.map_cons, List.map_nil]); first | done | rfl | (simp only [List.length_drop, List.length_take]; rfl)) ?_; (with_reducible refine (collect_index.calls k _ _ l0 a1 t125 _ ?side1 ?side2 A5.out).mono ?_); (case side1 => repeat (first | exact HR0.out | (with_reducible refine Kd.C_alloc ?_ _) | (with_reducible refine Kd.C_drewN ?_ _) | (with_reducible refine Kd.C_drew ?_))); (case side2 => exact HC0.out); rintro e w12 ⟨rfl, hb⟩; refine ⟨_, rfl, ?_⟩; have n0_ := Aside0.mk (below_step (by repeat (with_reducible first | exact HB.out | apply below_alloc | apply pw_below_drewN | apply below_drew1)) hb); clear HB; have HB := n0_; clear n0_; (try clear hb); (try clear hb2); (try clear hk); (try clear hi); have p126 : 0 ≤ (t125 : Int) := of_decide_eq_true (by assumption); have q126 : t125 < (l0.length : Int) := of_decide_eq_true (by assumption); obtain ⟨ad126, e126, hx126_0, hx126_1, hx126_2, hx126_3, hx126_4, hx126_5, hx126_6, hx126_7, hx126_8⟩ := at_T36 HR0.out t125 p126 q126; cases e126; replace hx126_0 := (HB.out.cell (World.block_lt_of_cell? w _ hx126_0)).trans hx126_0; replace hx126_1 := (HB.out.cell (World.block_lt_of_cell? w _ hx126_1)).trans hx126_1; replace hx126_2 := (HB.out.cell (World.block_lt_of_cell? w _ hx126_2)).trans hx126_2; replace hx126_3 := (HB.out.cell (World.block_lt_of_cell? w _ hx126_3)).trans hx126_3; replace hx126_4 := (HB.out.cell (World.block_lt_of_cell? w _ hx126_4)).trans hx126_4; replace hx126_5 := (HB.out.cell (World.block_lt_of_cell? w _ hx126_5)).trans hx126_5; replace hx126_6 := (HB.out.cell (World.block_lt_of_cell? w _ hx126_6)).trans hx126_6; replace hx126_7 := (HB.out.cell (World.block_lt_of_cell? w _ hx126_7)).trans hx126_7; replace hx126_8 := (HB.out.cell (World.block_lt_of_cell? w _ hx126_8)).trans hx126_8; replace p126 := eq_true p126; replace q126 := eq_true q126))
     (try simp only [Act.put, List.setIfInBounds_toArray, List.set_cons_zero, List.set_cons_succ])
     go_cut [25] (fun v25 wc => ∃ (kq : Nat) (x25_10 : Bool), v25 = .bool x25_10 ∧ Aside0 (collect_Return.j0 kq l0 a2 a3 t125 x25_10 = some (r1, r2)) ∧ Aside0 (kq ≤ k) ∧ Aside0 (Below w.heap.size w wc))
     case first =>
      have H := HC11.out
      clear HC11
      by_cases c13 : a2 < 1
      ·rw [if_pos c13] at H
       have c13b0 : decide (a2 < 1) = true := decide_eq_true c13
       clear c13
       (first | rw [c13b0] | (simp only [i64_w, i32_w]; rw [c13b0]) | skip)
       have H' := Aside0.mk H
       clear H
       go_wp2
       go_meet
       case rel => exact ⟨_, (true), (by first | rfl | (simp [*]; done)), H', ⟨by first | omega | exact Nat.le_refl _⟩, ⟨by repeat (with_reducible first | exact HB.out | apply below_alloc | apply pw_below_drewN | apply below_drew1)⟩⟩
      ·rw [if_neg c13] at H
       have c13b0 : decide (a2 < 1) = false := decide_eq_false c13
       clear c13
       (first | rw [c13b0] | (simp only [i64_w, i32_w]; rw [c13b0]) | skip)
       by_cases c14 : a2 > 4
       ·rw [if_pos c14] at H
        have c14b0 : decide (4 < a2) = true := decide_eq_true c14
        clear c14
        have H' := Aside0.mk H
        clear H
        go_wp2
        go_meet
        case rel => exact ⟨_, (true), (by first | rfl | (simp [*]; done)), H', ⟨by first | omega | exact Nat.le_refl _⟩, ⟨by repeat (with_reducible first | exact HB.out | apply below_alloc | apply pw_below_drewN | apply below_drew1)⟩⟩
       ·rw [if_neg c14] at H
        have c14b0 : decide (4 < a2) = false := decide_eq_false c14
        clear c14
        replace H := Option.bind_eq_some_iff.mp H
        obtain ⟨t127, A150, H⟩ := H
        replace H : (if t127 = true then (collect_Return.j0 k l0 a2 a3 t125 (decide (a3 < ((rd_T36 l0 t125).f4)))) else (collect_Return.j0 k l0 a2 a3 t125 true)) = some (r1, r2) := H
        have A15 := Aside0.mk A150
        clear A150
        by_cases c16 : t127 = true
        ·subst c16
         have H1 : (collect_Return.j0 k l0 a2 a3 t125 (decide (a3 < ((rd_T36 l0 t125).f4)))) = some (r1, r2) := by rw [if_pos rfl] at H; exact H
         clear H
         have H := H1
         clear H1
         have H' := Aside0.mk H
         clear H
         go_wp2_with (first | (go_at_call 28; (with_reducible refine (date_Valid.calls a3 true _ A15.out).mono ?_); rintro e w' ⟨rfl, ⟨nd, rfl⟩⟩; have p128 : 0 ≤ (t125 : Int) := of_decide_eq_true (by assumption); have q128 : t125 < (l0.length : Int) := of_decide_eq_true (by assumption); obtain ⟨ad128, e128, hx128_0, hx128_1, hx128_2, hx128_3, hx128_4, hx128_5, hx128_6, hx128_7, hx128_8⟩ := at_T36 HR0.out t125 p128 q128; obtain rfl : ad126 = ad128 := (by injection e128); replace hx128_0 := (HB.out.cell (World.block_lt_of_cell? w _ hx128_0)).trans hx128_0; replace hx128_1 := (HB.out.cell (World.block_lt_of_cell? w _ hx128_1)).trans hx128_1; replace hx128_2 := (HB.out.cell (World.block_lt_of_cell? w _ hx128_2)).trans hx128_2; replace hx128_3 := (HB.out.cell (World.block_lt_of_cell? w _ hx128_3)).trans hx128_3; replace hx128_4 := (HB.out.cell (World.block_lt_of_cell? w _ hx128_4)).trans hx128_4; replace hx128_5 := (HB.out.cell (World.block_lt_of_cell? w _ hx128_5)).trans hx128_5; replace hx128_6 := (HB.out.cell (World.block_lt_of_cell? w _ hx128_6)).trans hx128_6; replace hx128_7 := (HB.out.cell (World.block_lt_of_cell? w _ hx128_7)).trans hx128_7; replace hx128_8 := (HB.out.cell (World.block_lt_of_cell? w _ hx128_8)).trans hx128_8; replace p128 := eq_true p128; replace q128 := eq_true q128))
         go_meet
         case rel => exact ⟨_, (decide (a3 < ((rd_T36 l0 t125).f4))), (by first | rfl | (simp [*]; done)), H', ⟨by first | omega | exact Nat.le_refl _⟩, ⟨by repeat (with_reducible first | exact HB.out | apply below_alloc | apply pw_below_drewN | apply below_drew1)⟩⟩
        ·replace c16 := Bool.eq_false_iff.mpr c16
         subst c16
         have H1 : (collect_Return.j0 k l0 a2 a3 t125 true) = some (r1, r2) := by rw [if_neg (show ¬ (false = true) by decide)] at H; exact H
         clear H
         have H := H1
         clear H1
         have H' := Aside0.mk H
         clear H
         go_wp2_with (first | (go_at_call 28; (with_reducible refine (date_Valid.calls a3 false _ A15.out).mono ?_); rintro e w' ⟨rfl, ⟨nd, rfl⟩⟩))
         go_meet
         case rel => exact ⟨_, (true), (by first | rfl | (simp [*]; done)), H', ⟨by first | omega | exact Nat.le_refl _⟩, ⟨by repeat (with_reducible first | exact HB.out | apply below_alloc | apply pw_below_drewN | apply below_drew1)⟩⟩
     case rest =>
      clear HC11
      try clear c1
      try clear p1
      try clear q1
      try clear hx1
      try clear p2
      try clear c3
      try clear c6
      try clear c6b0
      try clear c8
      try clear c8b0
      try clear c9
      try clear c9b0
      try clear c10
      try clear c10b0
      try clear c10b1
      try clear p12
      try clear q12
      try clear hx12
      try clear c13
      try clear c13b0
      try clear c14
      try clear c14b0
      try clear c16
      try clear hx126_0
      try clear hx126_1
      try clear hx126_2
      try clear hx126_3
      try clear hx126_4
      try clear hx126_5
      try clear hx126_6
      try clear hx126_7
      try clear hx126_8
      try clear hx128_0
      try clear hx128_1
      try clear hx128_2
      try clear hx128_3
      try clear hx128_4
      try clear hx128_5
      try clear hx128_6
      try clear hx128_7
      try clear hx128_8
      try clear p126
      try clear p128
      try clear q126
      try clear q128
      obtain ⟨kq, x25_10, rfl, HA, HJ10, HB⟩ := hcut
      cases kq with
      | zero => exact absurd HA.out (by simp [collect_Return.j0])
      | succ kj10 =>
       have H := HA.out
       clear HA
       simp only [collect_Return.j0] at H
       by_cases c17 : x25_10 = true
       ·subst c17
        have H1 : (some (([] : List (S36)), 1)) = some (r1, r2) := by rw [if_pos rfl] at H; exact H
        clear H
        have H := H1
        clear H1
        simp only [Option.some.injEq, Prod.mk.injEq] at H
        obtain ⟨rfl, rfl⟩ := H
        go_wp2
        go_ret2
        exact ⟨_, by first | rfl | (simp [errW_none, errW_some] <;> rfl) | (simp [*, errW_none, errW_some] <;> rfl), by first | exact Kd.R_nil _ _ _ _ _ | exact Kd.N_nil _ _ _ _ _ | exact Kd.V_nil _ _ _ _ _ | exact Kd.Q_nil _ _ _ _ _ | exact Kd.S_nil _ _ _ _ _, by repeat (with_reducible first | exact HB.out | apply below_alloc | apply pw_below_drewN | apply below_drew1)⟩
       ·replace c17 := Bool.eq_false_iff.mpr c17
        subst c17
        have H1 : (if 0 ≤ t125 then (if t125 < (l0.length : Int) then ((collect_Window.f a2).bind fun t130 => (if ((rd_T36 l0 t125).f4) < (wrap64 (a3 - t130)) then (some (([] : List (S36)), 23)) else ((api_Debit_32.f l0).bind fun t131 => (if t125 < (t131.length : Int) then ((some (t131.set (t125 : Int).toNat (⟨(rd_T36 t131 t125).f0, (rd_T36 t131 t125).f1, (rd_T36 t131 t125).f2, (rd_T36 t131 t125).f3, (rd_T36 t131 t125).f4, (rd_T36 t131 t125).f5, (rd_T36 t131 t125).f6, 3, (rd_T36 t131 t125).f8⟩ : S36) : List (S36))).bind fun y134 => ((some (y134.set (t125 : Int).toNat (⟨(rd_T36 y134 t125).f0, (rd_T36 y134 t125).f1, (rd_T36 y134 t125).f2, (rd_T36 y134 t125).f3, (rd_T36 y134 t125).f4, a3, (rd_T36 y134 t125).f6, (rd_T36 y134 t125).f7, (rd_T36 y134 t125).f8⟩ : S36) : List (S36))).bind fun y135 => (some ((y135.set (t125 : Int).toNat (⟨(rd_T36 y135 t125).f0, (rd_T36 y135 t125).f1, (rd_T36 y135 t125).f2, (rd_T36 y135 t125).f3, (rd_T36 y135 t125).f4, (rd_T36 y135 t125).f5, a2, (rd_T36 y135 t125).f7, (rd_T36 y135 t125).f8⟩ : S36)), 0)))) else (none))))) else (none)) else (none)) = some (r1, r2) := by rw [if_neg (show ¬ (false = true) by decide)] at H; exact H
        clear H
        have H := H1
        clear H1
        by_cases c18 : 0 ≤ t125
        ·rw [if_pos c18] at H
         have c18b0 : decide (0 ≤ t125) = true := decide_eq_true c18
         clear c18
         by_cases c19 : t125 < (l0.length : Int)
         ·rw [if_pos c19] at H
          have c19b0 : decide (t125 < (l0.length : Int)) = true := decide_eq_true c19
          clear c19
          replace H := Option.bind_eq_some_iff.mp H
          obtain ⟨t130, A200, H⟩ := H
          replace H : (if ((rd_T36 l0 t125).f4) < (wrap64 (a3 - t130)) then (some (([] : List (S36)), 23)) else ((api_Debit_32.f l0).bind fun t131 => (if t125 < (t131.length : Int) then ((some (t131.set (t125 : Int).toNat (⟨(rd_T36 t131 t125).f0, (rd_T36 t131 t125).f1, (rd_T36 t131 t125).f2, (rd_T36 t131 t125).f3, (rd_T36 t131 t125).f4, (rd_T36 t131 t125).f5, (rd_T36 t131 t125).f6, 3, (rd_T36 t131 t125).f8⟩ : S36) : List (S36))).bind fun y134 => ((some (y134.set (t125 : Int).toNat (⟨(rd_T36 y134 t125).f0, (rd_T36 y134 t125).f1, (rd_T36 y134 t125).f2, (rd_T36 y134 t125).f3, (rd_T36 y134 t125).f4, a3, (rd_T36 y134 t125).f6, (rd_T36 y134 t125).f7, (rd_T36 y134 t125).f8⟩ : S36) : List (S36))).bind fun y135 => (some ((y135.set (t125 : Int).toNat (⟨(rd_T36 y135 t125).f0, (rd_T36 y135 t125).f1, (rd_T36 y135 t125).f2, (rd_T36 y135 t125).f3, (rd_T36 y135 t125).f4, (rd_T36 y135 t125).f5, a2, (rd_T36 y135 t125).f7, (rd_T36 y135 t125).f8⟩ : S36)), 0)))) else (none)))) = some (r1, r2) := H
          have A20 := Aside0.mk A200
          clear A200
          by_cases c21 : ((rd_T36 l0 t125).f4) < (wrap64 (a3 - t130))
          ·rw [if_pos c21] at H
           have c21b0 : decide (((rd_T36 l0 t125).f4) < (wrap64 (a3 - t130))) = true := decide_eq_true c21
           clear c21
           simp only [Option.some.injEq, Prod.mk.injEq] at H
           obtain ⟨rfl, rfl⟩ := H
           try go_wp2
           have n0_ := Aside0.mk (below_drew1 HB.out)
           clear HB
           have HB := n0_
           clear n0_
           have p129 : 0 ≤ (t125 : Int) := of_decide_eq_true (by assumption)
           have q129 : t125 < (l0.length : Int) := of_decide_eq_true (by assumption)
           obtain ⟨ad129, e129, hx129_0, hx129_1, hx129_2, hx129_3, hx129_4, hx129_5, hx129_6, hx129_7, hx129_8⟩ := at_T36 HR0.out t125 p129 q129
           have hw129_8 := hx129_8
           have hw129_7 := hx129_7
           have hw129_6 := hx129_6
           have hw129_5 := hx129_5
           have hw129_4 := hx129_4
           have hw129_3 := hx129_3
           have hw129_2 := hx129_2
           have hw129_1 := hx129_1
           have hw129_0 := hx129_0
           obtain rfl : ad126 = ad129 := (by injection e129)
           replace hx129_0 := (HB.out.cell (World.block_lt_of_cell? w _ hx129_0)).trans hx129_0
           replace hx129_1 := (HB.out.cell (World.block_lt_of_cell? w _ hx129_1)).trans hx129_1
           replace hx129_2 := (HB.out.cell (World.block_lt_of_cell? w _ hx129_2)).trans hx129_2
           replace hx129_3 := (HB.out.cell (World.block_lt_of_cell? w _ hx129_3)).trans hx129_3
           replace hx129_4 := (HB.out.cell (World.block_lt_of_cell? w _ hx129_4)).trans hx129_4
           replace hx129_5 := (HB.out.cell (World.block_lt_of_cell? w _ hx129_5)).trans hx129_5
           replace hx129_6 := (HB.out.cell (World.block_lt_of_cell? w _ hx129_6)).trans hx129_6
           replace hx129_7 := (HB.out.cell (World.block_lt_of_cell? w _ hx129_7)).trans hx129_7
           replace hx129_8 := (HB.out.cell (World.block_lt_of_cell? w _ hx129_8)).trans hx129_8
           replace p129 := eq_true p129
           replace q129 := eq_true q129
           refine start_ (n := 11) (S := fun w' => w'.cell? (ad126.add ((t125).toNat * 9)) = some (.int .i64 ((rd_T36 l0 t125).f0)) ∧ w'.cell? ⟨(ad126.add ((t125).toNat * 9)).block, (ad126.add ((t125).toNat * 9)).off + 1, none⟩ = some (.int .i64 ((rd_T36 l0 t125).f1)) ∧ w'.cell? ⟨(ad126.add ((t125).toNat * 9)).block, (ad126.add ((t125).toNat * 9)).off + 2, none⟩ = some (.int .i64 ((rd_T36 l0 t125).f2)) ∧ w'.cell? ⟨(ad126.add ((t125).toNat * 9)).block, (ad126.add ((t125).toNat * 9)).off + 3, none⟩ = some (.int .i64 ((rd_T36 l0 t125).f3)) ∧ w'.cell? ⟨(ad126.add ((t125).toNat * 9)).block, (ad126.add ((t125).toNat * 9)).off + 4, none⟩ = some (.int .i64 ((rd_T36 l0 t125).f4)) ∧ w'.cell? ⟨(ad126.add ((t125).toNat * 9)).block, (ad126.add ((t125).toNat * 9)).off + 5, none⟩ = some (.int .i64 ((rd_T36 l0 t125).f5)) ∧ w'.cell? ⟨(ad126.add ((t125).toNat * 9)).block, (ad126.add ((t125).toNat * 9)).off + 6, none⟩ = some (.int .i64 ((rd_T36 l0 t125).f6)) ∧ w'.cell? ⟨(ad126.add ((t125).toNat * 9)).block, (ad126.add ((t125).toNat * 9)).off + 7, none⟩ = some (.int .i64 ((rd_T36 l0 t125).f7)) ∧ w'.cell? ⟨(ad126.add ((t125).toNat * 9)).block, (ad126.add ((t125).toNat * 9)).off + 8, none⟩ = some (.string ((rd_T36 l0 t125).f8))) (ds := []) zb10_0 (by kernel_rfl) rfl rfl ⟨((HB.out.cell (World.block_lt_of_cell? w _ hw129_0)).trans hw129_0), ((HB.out.cell (World.block_lt_of_cell? w _ hw129_1)).trans hw129_1), ((HB.out.cell (World.block_lt_of_cell? w _ hw129_2)).trans hw129_2), ((HB.out.cell (World.block_lt_of_cell? w _ hw129_3)).trans hw129_3), ((HB.out.cell (World.block_lt_of_cell? w _ hw129_4)).trans hw129_4), ((HB.out.cell (World.block_lt_of_cell? w _ hw129_5)).trans hw129_5), ((HB.out.cell (World.block_lt_of_cell? w _ hw129_6)).trans hw129_6), ((HB.out.cell (World.block_lt_of_cell? w _ hw129_7)).trans hw129_7), ((HB.out.cell (World.block_lt_of_cell? w _ hw129_8)).trans hw129_8)⟩ (fun hHeld => ?_); refine with_tabW collect_Return.tab8 collect_Return.bits8 (fun HT_ HW_ => ?_)
           generalize wc.drew = w22 at HB hx129_0 hx129_1 hx129_2 hx129_3 hx129_4 hx129_5 hx129_6 hx129_7 hx129_8 hHeld ⊢
           refine pV 0 47 zb10_1 rfl rfl HT_.out (by kernel_rfl) (fun _ _ _ h => h) (Or.inl ⟨by rfl, by intro w'; go_simp; with_reducible rfl⟩) (by simp only [zA, zS, zC, zD, i64_w, i32_w]; rfl) ?_
           refine pV 1 48 zb10_2 rfl rfl HT_.out (by kernel_rfl) (fun _ _ _ h => h) (Or.inl ⟨by rfl, by intro w'; go_simp; with_reducible rfl⟩) (by simp only [zA, zS, zC, zD, i64_w, i32_w]; rfl) ?_
           refine pV 2 49 zb10_3 rfl rfl HT_.out (by kernel_rfl) (fun _ _ _ h => h) (Or.inl ⟨by rfl, by intro w'; go_simp; with_reducible rfl⟩) (by simp only [zA, zS, zC, zD, i64_w, i32_w]; rfl) ?_
           refine pV 3 50 zb10_4 rfl rfl HT_.out (by kernel_rfl) (fun _ _ _ h => h) (Or.inl ⟨by rfl, by intro w'; go_simp; with_reducible rfl⟩) (by simp only [zA, zS, zC, zD, i64_w, i32_w]; rfl) ?_
           refine pV 5 52 zb10_5 rfl rfl HT_.out (by kernel_rfl) (fun _ _ _ h => h) (Or.inl ⟨by rfl, by intro w'; go_simp; with_reducible rfl⟩) (by simp only [zA, zS, zC, zD, i64_w, i32_w]; rfl) ?_
           refine pV 6 53 zb10_6 rfl rfl HT_.out (by kernel_rfl) (fun _ _ _ h => h) (Or.inl ⟨by rfl, by intro w'; go_simp; with_reducible rfl⟩) (by simp only [zA, zS, zC, zD, i64_w, i32_w]; rfl) ?_
           refine take_ (i := 4) (N := some 51) (v := ?_) (a' := ?_) zb10_7 rfl rfl (take_ofW HT_.out HW_.out (by kernel_rfl)) (fun _ _ _ h => h) (Or.inl ⟨by rfl, ?_⟩) hHeld ?_ ?_
           rotate_left
           ·rintro w' ⟨s0, s1, s2, s3, s4, s5, s6, s7, s8⟩
            go_simp
            with_reducible rfl
           rotate_left
           ·simp only [Act.put, List.setIfInBounds_toArray, List.set_cons_zero, List.set_cons_succ, i64_w, i32_w]
            rfl
           refine one_ (i := 7) (N := some 54) zb10_8 rfl rfl (one_of HT_.out (by kernel_rfl)) (by decide) (fun K hK => ?_)
           refine goes_ Tryd.func23 (by kernel_rfl) rfl #[.int .i64 a2] (by rfl) rfl rfl (by (try simp only [List.map_toArray, List.map_cons, List.map_nil]); first | done | rfl | (simp only [List.length_drop, List.length_take]; rfl)) ?_
           with_reducible refine (collect_Window.calls a2 t130 _ ?sideV A20.out).mono ?_
           case sideV => exact VarOK.below HV.out (by repeat (with_reducible first | exact HB.out | apply below_alloc | apply pw_below_drewN | apply below_drew1))
           rintro e w23 ⟨rfl, hb⟩
           refine ⟨_, rfl, ?_⟩
           have n0_ := Aside0.mk (below_step (by repeat (with_reducible first | exact HB.out | apply below_alloc | apply pw_below_drewN | apply below_drew1)) hb)
           clear HB
           have HB := n0_
           clear n0_
           (try clear hb)
           (try clear hb2)
           (try clear hk)
           (try clear hi)
           refine hK.out _ _ ⟨((HB.out.cell (World.block_lt_of_cell? w _ hw129_0)).trans hw129_0), ((HB.out.cell (World.block_lt_of_cell? w _ hw129_1)).trans hw129_1), ((HB.out.cell (World.block_lt_of_cell? w _ hw129_2)).trans hw129_2), ((HB.out.cell (World.block_lt_of_cell? w _ hw129_3)).trans hw129_3), ((HB.out.cell (World.block_lt_of_cell? w _ hw129_4)).trans hw129_4), ((HB.out.cell (World.block_lt_of_cell? w _ hw129_5)).trans hw129_5), ((HB.out.cell (World.block_lt_of_cell? w _ hw129_6)).trans hw129_6), ((HB.out.cell (World.block_lt_of_cell? w _ hw129_7)).trans hw129_7), ((HB.out.cell (World.block_lt_of_cell? w _ hw129_8)).trans hw129_8)⟩ (fun hHeld => ?_)
           clear hK K
           refine norm_ (a' := ?_) ?_ ?_
           rotate_left
           ·show Act.put _ (some 54) _ = _
            simp only [Act.put, List.setIfInBounds_toArray, List.set_cons_zero, List.set_cons_succ, i64_w, i32_w]
            rfl
           refine pV 8 55 zb10_9 rfl rfl HT_.out (by kernel_rfl) (fun _ _ _ h => h) (Or.inl ⟨by rfl, by intro w'; go_simp; with_reducible rfl⟩) (by simp only [zA, zS, zC, zD, i64_w, i32_w]; rfl) ?_
           refine pV 9 56 zb10_10 rfl rfl HT_.out (by kernel_rfl) (fun _ _ _ h => h) (Or.inl ⟨by rfl, by intro w'; go_simp; with_reducible rfl⟩) (by simp only [zA, zS, zC, zD, i64_w, i32_w]; rfl) ?_
           refine pV 10 46 zb10_11 rfl rfl HT_.out (by kernel_rfl) (fun _ _ _ h => h) (Or.inl ⟨by rfl, by intro w'; go_simp; with_reducible rfl⟩) (by simp only [zA, zS, zC, zD, i64_w, i32_w]; rfl) ?_
           refine done_ (done_of HT_.out (by kernel_rfl)) ?_
           try go_wp2
           go_ret2
           exact ⟨_, by first | rfl | (simp [errW_none, errW_some] <;> rfl) | (simp [*, errW_none, errW_some] <;> rfl), by first | exact Kd.R_nil _ _ _ _ _ | exact Kd.N_nil _ _ _ _ _ | exact Kd.V_nil _ _ _ _ _ | exact Kd.Q_nil _ _ _ _ _ | exact Kd.S_nil _ _ _ _ _, by repeat (with_reducible first | exact HB.out | apply below_alloc | apply pw_below_drewN | apply below_drew1)⟩
          ·rw [if_neg c21] at H
           have c21b0 : decide (((rd_T36 l0 t125).f4) < (wrap64 (a3 - t130))) = false := decide_eq_false c21
           clear c21
           replace H := Option.bind_eq_some_iff.mp H
           obtain ⟨t131, A240, H⟩ := H
           replace H : (if t125 < (t131.length : Int) then ((some (t131.set (t125 : Int).toNat (⟨(rd_T36 t131 t125).f0, (rd_T36 t131 t125).f1, (rd_T36 t131 t125).f2, (rd_T36 t131 t125).f3, (rd_T36 t131 t125).f4, (rd_T36 t131 t125).f5, (rd_T36 t131 t125).f6, 3, (rd_T36 t131 t125).f8⟩ : S36) : List (S36))).bind fun y134 => ((some (y134.set (t125 : Int).toNat (⟨(rd_T36 y134 t125).f0, (rd_T36 y134 t125).f1, (rd_T36 y134 t125).f2, (rd_T36 y134 t125).f3, (rd_T36 y134 t125).f4, a3, (rd_T36 y134 t125).f6, (rd_T36 y134 t125).f7, (rd_T36 y134 t125).f8⟩ : S36) : List (S36))).bind fun y135 => (some ((y135.set (t125 : Int).toNat (⟨(rd_T36 y135 t125).f0, (rd_T36 y135 t125).f1, (rd_T36 y135 t125).f2, (rd_T36 y135 t125).f3, (rd_T36 y135 t125).f4, (rd_T36 y135 t125).f5, a2, (rd_T36 y135 t125).f7, (rd_T36 y135 t125).f8⟩ : S36)), 0)))) else (none)) = some (r1, r2) := H
           have A24 := Aside0.mk A240
           clear A240
           by_cases c25 : t125 < (t131.length : Int)
           ·rw [if_pos c25] at H
            have c25b0 : decide (t125 < (t131.length : Int)) = true := decide_eq_true c25
            clear c25
            obtain ⟨y134, hy134⟩ : ∃ y_ : List (S36), y_ = (t131.set (t125 : Int).toNat (⟨(rd_T36 t131 t125).f0, (rd_T36 t131 t125).f1, (rd_T36 t131 t125).f2, (rd_T36 t131 t125).f3, (rd_T36 t131 t125).f4, (rd_T36 t131 t125).f5, (rd_T36 t131 t125).f6, 3, (rd_T36 t131 t125).f8⟩ : S36)) := ⟨_, rfl⟩
            replace H : ((some (y134.set (t125 : Int).toNat (⟨(rd_T36 y134 t125).f0, (rd_T36 y134 t125).f1, (rd_T36 y134 t125).f2, (rd_T36 y134 t125).f3, (rd_T36 y134 t125).f4, a3, (rd_T36 y134 t125).f6, (rd_T36 y134 t125).f7, (rd_T36 y134 t125).f8⟩ : S36) : List (S36))).bind fun y135 => (some ((y135.set (t125 : Int).toNat (⟨(rd_T36 y135 t125).f0, (rd_T36 y135 t125).f1, (rd_T36 y135 t125).f2, (rd_T36 y135 t125).f3, (rd_T36 y135 t125).f4, (rd_T36 y135 t125).f5, a2, (rd_T36 y135 t125).f7, (rd_T36 y135 t125).f8⟩ : S36)), 0))) = some (r1, r2) := by first | (rw [hy134]; with_reducible exact H) | (have H2_ := (Option.bind_some _ _).symm.trans H; rw [hy134]; with_reducible exact H2_) | (have H2_ := (Option.bind_some _ _).symm.trans H; with_reducible exact H2_) | with_reducible exact H | (rw [hy134]; exact H) | exact H
            have Ny134 := Aside0.mk hy134
            clear hy134
            obtain ⟨y135, hy135⟩ : ∃ y_ : List (S36), y_ = (y134.set (t125 : Int).toNat (⟨(rd_T36 y134 t125).f0, (rd_T36 y134 t125).f1, (rd_T36 y134 t125).f2, (rd_T36 y134 t125).f3, (rd_T36 y134 t125).f4, a3, (rd_T36 y134 t125).f6, (rd_T36 y134 t125).f7, (rd_T36 y134 t125).f8⟩ : S36)) := ⟨_, rfl⟩
            replace H : (some ((y135.set (t125 : Int).toNat (⟨(rd_T36 y135 t125).f0, (rd_T36 y135 t125).f1, (rd_T36 y135 t125).f2, (rd_T36 y135 t125).f3, (rd_T36 y135 t125).f4, (rd_T36 y135 t125).f5, a2, (rd_T36 y135 t125).f7, (rd_T36 y135 t125).f8⟩ : S36)), 0)) = some (r1, r2) := by first | (rw [hy135]; with_reducible exact H) | (have H2_ := (Option.bind_some _ _).symm.trans H; rw [hy135]; with_reducible exact H2_) | (have H2_ := (Option.bind_some _ _).symm.trans H; with_reducible exact H2_) | with_reducible exact H | (rw [hy135]; exact H) | exact H
            have Ny135 := Aside0.mk hy135
            clear hy135
            obtain ⟨y136, hy136⟩ : ∃ y_ : List (S36), y_ = (y135.set (t125 : Int).toNat (⟨(rd_T36 y135 t125).f0, (rd_T36 y135 t125).f1, (rd_T36 y135 t125).f2, (rd_T36 y135 t125).f3, (rd_T36 y135 t125).f4, (rd_T36 y135 t125).f5, a2, (rd_T36 y135 t125).f7, (rd_T36 y135 t125).f8⟩ : S36)) := ⟨_, rfl⟩
            replace H : (some (y136, 0)) = some (r1, r2) := by first | (rw [hy136]; with_reducible exact H) | (have H2_ := (Option.bind_some _ _).symm.trans H; rw [hy136]; with_reducible exact H2_) | (have H2_ := (Option.bind_some _ _).symm.trans H; with_reducible exact H2_) | with_reducible exact H | (rw [hy136]; exact H) | exact H
            have Ny136 := Aside0.mk hy136
            clear hy136
            simp only [Option.some.injEq, Prod.mk.injEq] at H
            obtain ⟨rfl, rfl⟩ := H
            try go_wp2
            have n0_ := Aside0.mk (below_drew1 HB.out)
            clear HB
            have HB := n0_
            clear n0_
            have p129 : 0 ≤ (t125 : Int) := of_decide_eq_true (by assumption)
            have q129 : t125 < (l0.length : Int) := of_decide_eq_true (by assumption)
            obtain ⟨ad129, e129, hx129_0, hx129_1, hx129_2, hx129_3, hx129_4, hx129_5, hx129_6, hx129_7, hx129_8⟩ := at_T36 HR0.out t125 p129 q129
            have hw129_8 := hx129_8
            have hw129_7 := hx129_7
            have hw129_6 := hx129_6
            have hw129_5 := hx129_5
            have hw129_4 := hx129_4
            have hw129_3 := hx129_3
            have hw129_2 := hx129_2
            have hw129_1 := hx129_1
            have hw129_0 := hx129_0
            obtain rfl : ad126 = ad129 := (by injection e129)
            replace hx129_0 := (HB.out.cell (World.block_lt_of_cell? w _ hx129_0)).trans hx129_0
            replace hx129_1 := (HB.out.cell (World.block_lt_of_cell? w _ hx129_1)).trans hx129_1
            replace hx129_2 := (HB.out.cell (World.block_lt_of_cell? w _ hx129_2)).trans hx129_2
            replace hx129_3 := (HB.out.cell (World.block_lt_of_cell? w _ hx129_3)).trans hx129_3
            replace hx129_4 := (HB.out.cell (World.block_lt_of_cell? w _ hx129_4)).trans hx129_4
            replace hx129_5 := (HB.out.cell (World.block_lt_of_cell? w _ hx129_5)).trans hx129_5
            replace hx129_6 := (HB.out.cell (World.block_lt_of_cell? w _ hx129_6)).trans hx129_6
            replace hx129_7 := (HB.out.cell (World.block_lt_of_cell? w _ hx129_7)).trans hx129_7
            replace hx129_8 := (HB.out.cell (World.block_lt_of_cell? w _ hx129_8)).trans hx129_8
            replace p129 := eq_true p129
            replace q129 := eq_true q129
            refine start_ (n := 11) (S := fun w' => w'.cell? (ad126.add ((t125).toNat * 9)) = some (.int .i64 ((rd_T36 l0 t125).f0)) ∧ w'.cell? ⟨(ad126.add ((t125).toNat * 9)).block, (ad126.add ((t125).toNat * 9)).off + 1, none⟩ = some (.int .i64 ((rd_T36 l0 t125).f1)) ∧ w'.cell? ⟨(ad126.add ((t125).toNat * 9)).block, (ad126.add ((t125).toNat * 9)).off + 2, none⟩ = some (.int .i64 ((rd_T36 l0 t125).f2)) ∧ w'.cell? ⟨(ad126.add ((t125).toNat * 9)).block, (ad126.add ((t125).toNat * 9)).off + 3, none⟩ = some (.int .i64 ((rd_T36 l0 t125).f3)) ∧ w'.cell? ⟨(ad126.add ((t125).toNat * 9)).block, (ad126.add ((t125).toNat * 9)).off + 4, none⟩ = some (.int .i64 ((rd_T36 l0 t125).f4)) ∧ w'.cell? ⟨(ad126.add ((t125).toNat * 9)).block, (ad126.add ((t125).toNat * 9)).off + 5, none⟩ = some (.int .i64 ((rd_T36 l0 t125).f5)) ∧ w'.cell? ⟨(ad126.add ((t125).toNat * 9)).block, (ad126.add ((t125).toNat * 9)).off + 6, none⟩ = some (.int .i64 ((rd_T36 l0 t125).f6)) ∧ w'.cell? ⟨(ad126.add ((t125).toNat * 9)).block, (ad126.add ((t125).toNat * 9)).off + 7, none⟩ = some (.int .i64 ((rd_T36 l0 t125).f7)) ∧ w'.cell? ⟨(ad126.add ((t125).toNat * 9)).block, (ad126.add ((t125).toNat * 9)).off + 8, none⟩ = some (.string ((rd_T36 l0 t125).f8))) (ds := []) zb10_0 (by kernel_rfl) rfl rfl ⟨((HB.out.cell (World.block_lt_of_cell? w _ hw129_0)).trans hw129_0), ((HB.out.cell (World.block_lt_of_cell? w _ hw129_1)).trans hw129_1), ((HB.out.cell (World.block_lt_of_cell? w _ hw129_2)).trans hw129_2), ((HB.out.cell (World.block_lt_of_cell? w _ hw129_3)).trans hw129_3), ((HB.out.cell (World.block_lt_of_cell? w _ hw129_4)).trans hw129_4), ((HB.out.cell (World.block_lt_of_cell? w _ hw129_5)).trans hw129_5), ((HB.out.cell (World.block_lt_of_cell? w _ hw129_6)).trans hw129_6), ((HB.out.cell (World.block_lt_of_cell? w _ hw129_7)).trans hw129_7), ((HB.out.cell (World.block_lt_of_cell? w _ hw129_8)).trans hw129_8)⟩ (fun hHeld => ?_); refine with_tabW collect_Return.tab8 collect_Return.bits8 (fun HT_ HW_ => ?_)
            generalize wc.drew = w29 at HB hx129_0 hx129_1 hx129_2 hx129_3 hx129_4 hx129_5 hx129_6 hx129_7 hx129_8 hHeld ⊢
            refine pV 0 47 zb10_1 rfl rfl HT_.out (by kernel_rfl) (fun _ _ _ h => h) (Or.inl ⟨by rfl, by intro w'; go_simp; with_reducible rfl⟩) (by simp only [zA, zS, zC, zD, i64_w, i32_w]; rfl) ?_
            refine pV 1 48 zb10_2 rfl rfl HT_.out (by kernel_rfl) (fun _ _ _ h => h) (Or.inl ⟨by rfl, by intro w'; go_simp; with_reducible rfl⟩) (by simp only [zA, zS, zC, zD, i64_w, i32_w]; rfl) ?_
            refine pV 2 49 zb10_3 rfl rfl HT_.out (by kernel_rfl) (fun _ _ _ h => h) (Or.inl ⟨by rfl, by intro w'; go_simp; with_reducible rfl⟩) (by simp only [zA, zS, zC, zD, i64_w, i32_w]; rfl) ?_
            refine pV 3 50 zb10_4 rfl rfl HT_.out (by kernel_rfl) (fun _ _ _ h => h) (Or.inl ⟨by rfl, by intro w'; go_simp; with_reducible rfl⟩) (by simp only [zA, zS, zC, zD, i64_w, i32_w]; rfl) ?_
            refine pV 5 52 zb10_5 rfl rfl HT_.out (by kernel_rfl) (fun _ _ _ h => h) (Or.inl ⟨by rfl, by intro w'; go_simp; with_reducible rfl⟩) (by simp only [zA, zS, zC, zD, i64_w, i32_w]; rfl) ?_
            refine pV 6 53 zb10_6 rfl rfl HT_.out (by kernel_rfl) (fun _ _ _ h => h) (Or.inl ⟨by rfl, by intro w'; go_simp; with_reducible rfl⟩) (by simp only [zA, zS, zC, zD, i64_w, i32_w]; rfl) ?_
            refine take_ (i := 4) (N := some 51) (v := ?_) (a' := ?_) zb10_7 rfl rfl (take_ofW HT_.out HW_.out (by kernel_rfl)) (fun _ _ _ h => h) (Or.inl ⟨by rfl, ?_⟩) hHeld ?_ ?_
            rotate_left
            ·rintro w' ⟨s0, s1, s2, s3, s4, s5, s6, s7, s8⟩
             go_simp
             with_reducible rfl
            rotate_left
            ·simp only [Act.put, List.setIfInBounds_toArray, List.set_cons_zero, List.set_cons_succ, i64_w, i32_w]
             rfl
            refine one_ (i := 7) (N := some 54) zb10_8 rfl rfl (one_of HT_.out (by kernel_rfl)) (by decide) (fun K hK => ?_)
            refine goes_ Tryd.func23 (by kernel_rfl) rfl #[.int .i64 a2] (by rfl) rfl rfl (by (try simp only [List.map_toArray, List.map_cons, List.map_nil]); first | done | rfl | (simp only [List.length_drop, List.length_take]; rfl)) ?_
            with_reducible refine (collect_Window.calls a2 t130 _ ?sideV A20.out).mono ?_
            case sideV => exact VarOK.below HV.out (by repeat (with_reducible first | exact HB.out | apply below_alloc | apply pw_below_drewN | apply below_drew1))
            rintro e w30 ⟨rfl, hb⟩
            refine ⟨_, rfl, ?_⟩
            have n0_ := Aside0.mk (below_step (by repeat (with_reducible first | exact HB.out | apply below_alloc | apply pw_below_drewN | apply below_drew1)) hb)
            clear HB
            have HB := n0_
            clear n0_
            (try clear hb)
            (try clear hb2)
            (try clear hk)
            (try clear hi)
            refine hK.out _ _ ⟨((HB.out.cell (World.block_lt_of_cell? w _ hw129_0)).trans hw129_0), ((HB.out.cell (World.block_lt_of_cell? w _ hw129_1)).trans hw129_1), ((HB.out.cell (World.block_lt_of_cell? w _ hw129_2)).trans hw129_2), ((HB.out.cell (World.block_lt_of_cell? w _ hw129_3)).trans hw129_3), ((HB.out.cell (World.block_lt_of_cell? w _ hw129_4)).trans hw129_4), ((HB.out.cell (World.block_lt_of_cell? w _ hw129_5)).trans hw129_5), ((HB.out.cell (World.block_lt_of_cell? w _ hw129_6)).trans hw129_6), ((HB.out.cell (World.block_lt_of_cell? w _ hw129_7)).trans hw129_7), ((HB.out.cell (World.block_lt_of_cell? w _ hw129_8)).trans hw129_8)⟩ (fun hHeld => ?_)
            clear hK K
            refine norm_ (a' := ?_) ?_ ?_
            rotate_left
            ·show Act.put _ (some 54) _ = _
             simp only [Act.put, List.setIfInBounds_toArray, List.set_cons_zero, List.set_cons_succ, i64_w, i32_w]
             rfl
            refine pV 8 55 zb10_9 rfl rfl HT_.out (by kernel_rfl) (fun _ _ _ h => h) (Or.inl ⟨by rfl, by intro w'; go_simp; with_reducible rfl⟩) (by simp only [zA, zS, zC, zD, i64_w, i32_w]; rfl) ?_
            refine pV 9 56 zb10_10 rfl rfl HT_.out (by kernel_rfl) (fun _ _ _ h => h) (Or.inl ⟨by rfl, by intro w'; go_simp; with_reducible rfl⟩) (by simp only [zA, zS, zC, zD, i64_w, i32_w]; rfl) ?_
            refine pV 10 46 zb10_11 rfl rfl HT_.out (by kernel_rfl) (fun _ _ _ h => h) (Or.inl ⟨by rfl, by intro w'; go_simp; with_reducible rfl⟩) (by simp only [zA, zS, zC, zD, i64_w, i32_w]; rfl) ?_
            refine done_ (done_of HT_.out (by kernel_rfl)) ?_
            try go_wp2_with (first | ((with_reducible refine gate_callee (f := 32) rfl ?_); refine goesL_ (some 58) rfl rfl Tryd.func32 (by kernel_rfl) rfl #[.slice (some ad126) l0.length c0] rfl (by (try simp only [List.map_toArray, List.map_cons, List.map_nil]); first | done | rfl | (simp only [List.length_drop, List.length_take]; rfl)) ?_; (with_reducible refine (api_Debit_32.calls _ _ l0 t131 _ ?side1 ?side2 A24.out).mono ?_); (case side1 => repeat (first | exact (Kd.C_below HR0.out HB.out) | (with_reducible refine Kd.C_alloc ?_ _) | (with_reducible refine Kd.C_drewN ?_ _) | (with_reducible refine Kd.C_drew ?_))); (case side2 => exact HC0.out); rintro e w31 ⟨v132, rfl, ho0, hb⟩; refine ⟨_, rfl, ?_⟩; have n0_ := Aside0.mk (Kd.R_lower ho0 (below_size (by repeat (with_reducible first | exact HB.out | apply below_alloc | apply pw_below_drewN | apply below_drew1)))); have n1_ := Aside0.mk (below_step (by repeat (with_reducible first | exact HB.out | apply below_alloc | apply pw_below_drewN | apply below_drew1)) hb); clear HB; have HO133 := n0_; have HB := n1_; clear n0_ n1_; (try clear hb); (try clear hb2); (try clear hk); (try clear hi); (try clear ho0); have p26 : 0 ≤ (t125 : Int) := of_decide_eq_true (by assumption); have q26 : (t125 : Int) < ((t131.length : Int) : Int) := of_decide_eq_true (by assumption); obtain ⟨go26, co26, eo26, gb26, gl26, cl26, HG26⟩ := Kd.R_form HO133.out (by omega); (first | cases eo26 | (injection eo26 with ea_ en_ ec_; (first | subst ea_ | (injection ea_ with ea_; subst ea_)); subst ec_; clear en_)); have GB26 := Aside0.mk gb26; have GG26 := Aside0.mk HG26; clear gb26 gl26 HG26; obtain ⟨ce26, hcl26, hM26, hcc26, hfr26⟩ := Kd.R_elem HO133.out z36 (t125 : Int) p26 q26; obtain rfl := k36_openM hM26; have hx26_0 : w31.cell? ⟨go26, (t125 : Int).toNat * 9, none⟩ = some (.int .i64 ((rd_T36 t131 t125).f0)) := hcc26 0 _ rfl; have hx26_1 : w31.cell? ⟨go26, (t125 : Int).toNat * 9 + 1, none⟩ = some (.int .i64 ((rd_T36 t131 t125).f1)) := hcc26 1 _ rfl; have hx26_2 : w31.cell? ⟨go26, (t125 : Int).toNat * 9 + 2, none⟩ = some (.int .i64 ((rd_T36 t131 t125).f2)) := hcc26 2 _ rfl; have hx26_3 : w31.cell? ⟨go26, (t125 : Int).toNat * 9 + 3, none⟩ = some (.int .i64 ((rd_T36 t131 t125).f3)) := hcc26 3 _ rfl; have hx26_4 : w31.cell? ⟨go26, (t125 : Int).toNat * 9 + 4, none⟩ = some (.int .i64 ((rd_T36 t131 t125).f4)) := hcc26 4 _ rfl; have hx26_5 : w31.cell? ⟨go26, (t125 : Int).toNat * 9 + 5, none⟩ = some (.int .i64 ((rd_T36 t131 t125).f5)) := hcc26 5 _ rfl; have hx26_6 : w31.cell? ⟨go26, (t125 : Int).toNat * 9 + 6, none⟩ = some (.int .i64 ((rd_T36 t131 t125).f6)) := hcc26 6 _ rfl; have hx26_7 : w31.cell? ⟨go26, (t125 : Int).toNat * 9 + 7, none⟩ = some (.int .i64 ((rd_T36 t131 t125).f7)) := hcc26 7 _ rfl; have hx26_8 : w31.cell? ⟨go26, (t125 : Int).toNat * 9 + 8, none⟩ = some (.string ((rd_T36 t131 t125).f8)) := hcc26 8 _ rfl; have hf26_0 : w31.frozen? ⟨go26, (t125 : Int).toNat * 9, none⟩ = false := hfr26 0; have hf26_1 : w31.frozen? ⟨go26, (t125 : Int).toNat * 9 + 1, none⟩ = false := hfr26 1; have hf26_2 : w31.frozen? ⟨go26, (t125 : Int).toNat * 9 + 2, none⟩ = false := hfr26 2; have hf26_3 : w31.frozen? ⟨go26, (t125 : Int).toNat * 9 + 3, none⟩ = false := hfr26 3; have hf26_4 : w31.frozen? ⟨go26, (t125 : Int).toNat * 9 + 4, none⟩ = false := hfr26 4; have hf26_5 : w31.frozen? ⟨go26, (t125 : Int).toNat * 9 + 5, none⟩ = false := hfr26 5; have hf26_6 : w31.frozen? ⟨go26, (t125 : Int).toNat * 9 + 6, none⟩ = false := hfr26 6; have hf26_7 : w31.frozen? ⟨go26, (t125 : Int).toNat * 9 + 7, none⟩ = false := hfr26 7; have hf26_8 : w31.frozen? ⟨go26, (t125 : Int).toNat * 9 + 8, none⟩ = false := hfr26 8; clear hcl26 hcc26 hfr26 hM26; replace p26 := eq_true p26; replace q26 := eq_true q26; have HX32 := Aside0.mk (show Kd.R k36 36 w31 w.heap.size (fun _ => True) (.slice (some ⟨go26, 0, none⟩) t131.length co26) t131 from (by (with_reducible repeat (first | apply Kd.R_alloc | apply Kd.R_drewN | apply Kd.R_drew)); exact HO133.out)); obtain ⟨ce32, hcl32, hM32, hcc32, hfr32⟩ := Kd.R_elem HX32.out z36 (t125 : Int) (of_decide_eq_true (by assumption)) (by have h_ : (t125 : Int) < ((t131.length : Int) : Int) := of_decide_eq_true (by assumption); first | exact h_ | (have e_ := (Kd.R_reads' HO133.out).1; omega) | simpa using h_); obtain rfl := k36_openM hM32; have HP32 := Kd.R_seg HX32.out (t125 : Int) (of_decide_eq_true (by assumption)) (by have h_ : (t125 : Int) < ((t131.length : Int) : Int) := of_decide_eq_true (by assumption); first | exact h_ | (have e_ := (Kd.R_reads' HO133.out).1; omega) | simpa using h_) (seg := [.int .i64 3]) (j := 7) hcl32 hcc32 (show 8 ≤ 9 from by decide) (x' := (⟨(rd_T36 t131 t125).f0, (rd_T36 t131 t125).f1, (rd_T36 t131 t125).f2, (rd_T36 t131 t125).f3, (rd_T36 t131 t125).f4, (rd_T36 t131 t125).f5, (rd_T36 t131 t125).f6, 3, (rd_T36 t131 t125).f8⟩ : S36)) (k36_mkM _ _ _ (⟨(rd_T36 t131 t125).f0, (rd_T36 t131 t125).f1, (rd_T36 t131 t125).f2, (rd_T36 t131 t125).f3, (rd_T36 t131 t125).f4, (rd_T36 t131 t125).f5, (rd_T36 t131 t125).f6, 3, (rd_T36 t131 t125).f8⟩ : S36) ) (fun _ hk => hk); have hx32_7 := hcc32 7 _ rfl; (try simp only [show (k36).sz = 9 from rfl, Nat.mul_one, Nat.add_zero] at hx32_7); have hf32_7 := hfr32 7; (try simp only [show (k36).sz = 9 from rfl, Nat.mul_one, Nat.add_zero] at hf32_7); clear hcl32 hcc32 hfr32 hM32) | ((with_reducible refine gate_store (t := 3) (p := 68) rfl ?_); refine store_event (t := 3) (p := 68) (v := ?vo_w33) (w1 := (w31.setCell ⟨go26, (t125 : Int).toNat * 9 + 7, none⟩ (.int .i64 3))) ?hg ?ho ?hn ?hr ?_; (case ho => rfl); (case hg => rfl); (case hn => rfl); (case hr => first | (go_simp; done) | (go_simp; rfl)); intro w33 hw; have hg : w31.grownBy w33 (some go26) := (by rw [hw]; exact HP32.2); have hp_ : Kd.R k36 36 w33 w.heap.size (fun _ => True) (.slice (some ⟨go26, 0, none⟩) t131.length co26) y134 := (by rw [hw, Ny134.out]; exact HP32.1); clear HP32; have n0_ := Aside0.mk (hp_); have n1_ := Aside0.mk ((by rw [hw]; exact below_set (HB.out) GB26.out : Below w.heap.size w w33)); clear HO133; clear HB; have HO133 := n0_; have HB := n1_; clear n0_ n1_; clear hg hw hp_; have p27 : 0 ≤ (t125 : Int) := of_decide_eq_true (by assumption); have q27 : (t125 : Int) < ((t131.length : Int) : Int) := of_decide_eq_true (by assumption); obtain ⟨ce27, hcl27, hM27, hcc27, hfr27⟩ := Kd.R_elem HO133.out z36 (t125 : Int) p27 q27; obtain rfl := k36_openM hM27; have hx27_0 : w33.cell? ⟨go26, (t125 : Int).toNat * 9, none⟩ = some (.int .i64 ((rd_T36 y134 t125).f0)) := hcc27 0 _ rfl; have hx27_1 : w33.cell? ⟨go26, (t125 : Int).toNat * 9 + 1, none⟩ = some (.int .i64 ((rd_T36 y134 t125).f1)) := hcc27 1 _ rfl; have hx27_2 : w33.cell? ⟨go26, (t125 : Int).toNat * 9 + 2, none⟩ = some (.int .i64 ((rd_T36 y134 t125).f2)) := hcc27 2 _ rfl; have hx27_3 : w33.cell? ⟨go26, (t125 : Int).toNat * 9 + 3, none⟩ = some (.int .i64 ((rd_T36 y134 t125).f3)) := hcc27 3 _ rfl; have hx27_4 : w33.cell? ⟨go26, (t125 : Int).toNat * 9 + 4, none⟩ = some (.int .i64 ((rd_T36 y134 t125).f4)) := hcc27 4 _ rfl; have hx27_5 : w33.cell? ⟨go26, (t125 : Int).toNat * 9 + 5, none⟩ = some (.int .i64 ((rd_T36 y134 t125).f5)) := hcc27 5 _ rfl; have hx27_6 : w33.cell? ⟨go26, (t125 : Int).toNat * 9 + 6, none⟩ = some (.int .i64 ((rd_T36 y134 t125).f6)) := hcc27 6 _ rfl; have hx27_7 : w33.cell? ⟨go26, (t125 : Int).toNat * 9 + 7, none⟩ = some (.int .i64 ((rd_T36 y134 t125).f7)) := hcc27 7 _ rfl; have hx27_8 : w33.cell? ⟨go26, (t125 : Int).toNat * 9 + 8, none⟩ = some (.string ((rd_T36 y134 t125).f8)) := hcc27 8 _ rfl; have hf27_0 : w33.frozen? ⟨go26, (t125 : Int).toNat * 9, none⟩ = false := hfr27 0; have hf27_1 : w33.frozen? ⟨go26, (t125 : Int).toNat * 9 + 1, none⟩ = false := hfr27 1; have hf27_2 : w33.frozen? ⟨go26, (t125 : Int).toNat * 9 + 2, none⟩ = false := hfr27 2; have hf27_3 : w33.frozen? ⟨go26, (t125 : Int).toNat * 9 + 3, none⟩ = false := hfr27 3; have hf27_4 : w33.frozen? ⟨go26, (t125 : Int).toNat * 9 + 4, none⟩ = false := hfr27 4; have hf27_5 : w33.frozen? ⟨go26, (t125 : Int).toNat * 9 + 5, none⟩ = false := hfr27 5; have hf27_6 : w33.frozen? ⟨go26, (t125 : Int).toNat * 9 + 6, none⟩ = false := hfr27 6; have hf27_7 : w33.frozen? ⟨go26, (t125 : Int).toNat * 9 + 7, none⟩ = false := hfr27 7; have hf27_8 : w33.frozen? ⟨go26, (t125 : Int).toNat * 9 + 8, none⟩ = false := hfr27 8; clear hcl27 hcc27 hfr27 hM27; replace p27 := eq_true p27; replace q27 := eq_true q27; have HX34 := Aside0.mk (show Kd.R k36 36 w33 w.heap.size (fun _ => True) (.slice (some ⟨go26, 0, none⟩) t131.length co26) y134 from (by (with_reducible repeat (first | apply Kd.R_alloc | apply Kd.R_drewN | apply Kd.R_drew)); exact HO133.out)); obtain ⟨ce34, hcl34, hM34, hcc34, hfr34⟩ := Kd.R_elem HX34.out z36 (t125 : Int) (of_decide_eq_true (by assumption)) (by have h_ : (t125 : Int) < ((t131.length : Int) : Int) := of_decide_eq_true (by assumption); first | exact h_ | (have e_ := (Kd.R_reads' HO133.out).1; omega) | simpa using h_); obtain rfl := k36_openM hM34; have HP34 := Kd.R_seg HX34.out (t125 : Int) (of_decide_eq_true (by assumption)) (by have h_ : (t125 : Int) < ((t131.length : Int) : Int) := of_decide_eq_true (by assumption); first | exact h_ | (have e_ := (Kd.R_reads' HO133.out).1; omega) | simpa using h_) (seg := [.int .i64 a3]) (j := 5) hcl34 hcc34 (show 6 ≤ 9 from by decide) (x' := (⟨(rd_T36 y134 t125).f0, (rd_T36 y134 t125).f1, (rd_T36 y134 t125).f2, (rd_T36 y134 t125).f3, (rd_T36 y134 t125).f4, a3, (rd_T36 y134 t125).f6, (rd_T36 y134 t125).f7, (rd_T36 y134 t125).f8⟩ : S36)) (k36_mkM _ _ _ (⟨(rd_T36 y134 t125).f0, (rd_T36 y134 t125).f1, (rd_T36 y134 t125).f2, (rd_T36 y134 t125).f3, (rd_T36 y134 t125).f4, a3, (rd_T36 y134 t125).f6, (rd_T36 y134 t125).f7, (rd_T36 y134 t125).f8⟩ : S36) ) (fun _ hk => hk); have hx34_5 := hcc34 5 _ rfl; (try simp only [show (k36).sz = 9 from rfl, Nat.mul_one, Nat.add_zero] at hx34_5); have hf34_5 := hfr34 5; (try simp only [show (k36).sz = 9 from rfl, Nat.mul_one, Nat.add_zero] at hf34_5); clear hcl34 hcc34 hfr34 hM34) | ((with_reducible refine gate_store (t := 3) (p := 70) rfl ?_); refine store_event (t := 3) (p := 70) (v := ?vo_w35) (w1 := (w33.setCell ⟨go26, (t125 : Int).toNat * 9 + 5, none⟩ (.int .i64 a3))) ?hg ?ho ?hn ?hr ?_; (case ho => rfl); (case hg => rfl); (case hn => rfl); (case hr => first | (go_simp; done) | (go_simp; rfl)); intro w35 hw; have hg : w33.grownBy w35 (some go26) := (by rw [hw]; exact HP34.2); have hp_ : Kd.R k36 36 w35 w.heap.size (fun _ => True) (.slice (some ⟨go26, 0, none⟩) t131.length co26) y135 := (by rw [hw, Ny135.out]; exact HP34.1); clear HP34; have n0_ := Aside0.mk (hp_); have n1_ := Aside0.mk ((by rw [hw]; exact below_set (HB.out) GB26.out : Below w.heap.size w w35)); clear HO133; clear HB; have HO133 := n0_; have HB := n1_; clear n0_ n1_; clear hg hw hp_; have p28 : 0 ≤ (t125 : Int) := of_decide_eq_true (by assumption); have q28 : (t125 : Int) < ((t131.length : Int) : Int) := of_decide_eq_true (by assumption); obtain ⟨ce28, hcl28, hM28, hcc28, hfr28⟩ := Kd.R_elem HO133.out z36 (t125 : Int) p28 q28; obtain rfl := k36_openM hM28; have hx28_0 : w35.cell? ⟨go26, (t125 : Int).toNat * 9, none⟩ = some (.int .i64 ((rd_T36 y135 t125).f0)) := hcc28 0 _ rfl; have hx28_1 : w35.cell? ⟨go26, (t125 : Int).toNat * 9 + 1, none⟩ = some (.int .i64 ((rd_T36 y135 t125).f1)) := hcc28 1 _ rfl; have hx28_2 : w35.cell? ⟨go26, (t125 : Int).toNat * 9 + 2, none⟩ = some (.int .i64 ((rd_T36 y135 t125).f2)) := hcc28 2 _ rfl; have hx28_3 : w35.cell? ⟨go26, (t125 : Int).toNat * 9 + 3, none⟩ = some (.int .i64 ((rd_T36 y135 t125).f3)) := hcc28 3 _ rfl; have hx28_4 : w35.cell? ⟨go26, (t125 : Int).toNat * 9 + 4, none⟩ = some (.int .i64 ((rd_T36 y135 t125).f4)) := hcc28 4 _ rfl; have hx28_5 : w35.cell? ⟨go26, (t125 : Int).toNat * 9 + 5, none⟩ = some (.int .i64 ((rd_T36 y135 t125).f5)) := hcc28 5 _ rfl; have hx28_6 : w35.cell? ⟨go26, (t125 : Int).toNat * 9 + 6, none⟩ = some (.int .i64 ((rd_T36 y135 t125).f6)) := hcc28 6 _ rfl; have hx28_7 : w35.cell? ⟨go26, (t125 : Int).toNat * 9 + 7, none⟩ = some (.int .i64 ((rd_T36 y135 t125).f7)) := hcc28 7 _ rfl; have hx28_8 : w35.cell? ⟨go26, (t125 : Int).toNat * 9 + 8, none⟩ = some (.string ((rd_T36 y135 t125).f8)) := hcc28 8 _ rfl; have hf28_0 : w35.frozen? ⟨go26, (t125 : Int).toNat * 9, none⟩ = false := hfr28 0; have hf28_1 : w35.frozen? ⟨go26, (t125 : Int).toNat * 9 + 1, none⟩ = false := hfr28 1; have hf28_2 : w35.frozen? ⟨go26, (t125 : Int).toNat * 9 + 2, none⟩ = false := hfr28 2; have hf28_3 : w35.frozen? ⟨go26, (t125 : Int).toNat * 9 + 3, none⟩ = false := hfr28 3; have hf28_4 : w35.frozen? ⟨go26, (t125 : Int).toNat * 9 + 4, none⟩ = false := hfr28 4; have hf28_5 : w35.frozen? ⟨go26, (t125 : Int).toNat * 9 + 5, none⟩ = false := hfr28 5; have hf28_6 : w35.frozen? ⟨go26, (t125 : Int).toNat * 9 + 6, none⟩ = false := hfr28 6; have hf28_7 : w35.frozen? ⟨go26, (t125 : Int).toNat * 9 + 7, none⟩ = false := hfr28 7; have hf28_8 : w35.frozen? ⟨go26, (t125 : Int).toNat * 9 + 8, none⟩ = false := hfr28 8; clear hcl28 hcc28 hfr28 hM28; replace p28 := eq_true p28; replace q28 := eq_true q28; have HX36 := Aside0.mk (show Kd.R k36 36 w35 w.heap.size (fun _ => True) (.slice (some ⟨go26, 0, none⟩) t131.length co26) y135 from (by (with_reducible repeat (first | apply Kd.R_alloc | apply Kd.R_drewN | apply Kd.R_drew)); exact HO133.out)); obtain ⟨ce36, hcl36, hM36, hcc36, hfr36⟩ := Kd.R_elem HX36.out z36 (t125 : Int) (of_decide_eq_true (by assumption)) (by have h_ : (t125 : Int) < ((t131.length : Int) : Int) := of_decide_eq_true (by assumption); first | exact h_ | (have e_ := (Kd.R_reads' HO133.out).1; omega) | simpa using h_); obtain rfl := k36_openM hM36; have HP36 := Kd.R_seg HX36.out (t125 : Int) (of_decide_eq_true (by assumption)) (by have h_ : (t125 : Int) < ((t131.length : Int) : Int) := of_decide_eq_true (by assumption); first | exact h_ | (have e_ := (Kd.R_reads' HO133.out).1; omega) | simpa using h_) (seg := [.int .i64 a2]) (j := 6) hcl36 hcc36 (show 7 ≤ 9 from by decide) (x' := (⟨(rd_T36 y135 t125).f0, (rd_T36 y135 t125).f1, (rd_T36 y135 t125).f2, (rd_T36 y135 t125).f3, (rd_T36 y135 t125).f4, (rd_T36 y135 t125).f5, a2, (rd_T36 y135 t125).f7, (rd_T36 y135 t125).f8⟩ : S36)) (k36_mkM _ _ _ (⟨(rd_T36 y135 t125).f0, (rd_T36 y135 t125).f1, (rd_T36 y135 t125).f2, (rd_T36 y135 t125).f3, (rd_T36 y135 t125).f4, (rd_T36 y135 t125).f5, a2, (rd_T36 y135 t125).f7, (rd_T36 y135 t125).f8⟩ : S36) ) (fun _ hk => hk); have hx36_6 := hcc36 6 _ rfl; (try simp only [show (k36).sz = 9 from rfl, Nat.mul_one, Nat.add_zero] at hx36_6); have hf36_6 := hfr36 6; (try simp only [show (k36).sz = 9 from rfl, Nat.mul_one, Nat.add_zero] at hf36_6); clear hcl36 hcc36 hfr36 hM36) | ((with_reducible refine gate_store (t := 3) (p := 72) rfl ?_); refine store_event (t := 3) (p := 72) (v := ?vo_w37) (w1 := (w35.setCell ⟨go26, (t125 : Int).toNat * 9 + 6, none⟩ (.int .i64 a2))) ?hg ?ho ?hn ?hr ?_; (case ho => rfl); (case hg => rfl); (case hn => rfl); (case hr => first | (go_simp; done) | (go_simp; rfl)); intro w37 hw; have hg : w35.grownBy w37 (some go26) := (by rw [hw]; exact HP36.2); have hp_ : Kd.R k36 36 w37 w.heap.size (fun _ => True) (.slice (some ⟨go26, 0, none⟩) t131.length co26) y136 := (by rw [hw, Ny136.out]; exact HP36.1); clear HP36; have n0_ := Aside0.mk (hp_); have n1_ := Aside0.mk ((by rw [hw]; exact below_set (HB.out) GB26.out : Below w.heap.size w w37)); clear HO133; clear HB; have HO133 := n0_; have HB := n1_; clear n0_ n1_; clear hg hw hp_))
            go_ret2
            exact ⟨_, by first | rfl | (simp [errW_none, errW_some] <;> rfl) | (simp [*, errW_none, errW_some] <;> rfl), by (with_reducible repeat (first | apply Kd.R_alloc | apply Kd.R_drewN | apply Kd.R_drew)); exact HO133.out, by repeat (with_reducible first | exact HB.out | apply below_alloc | apply pw_below_drewN | apply below_drew1)⟩
           ·rw [if_neg c25] at H
            exact absurd H (by simp)
         ·rw [if_neg c19] at H
          exact absurd H (by simp)
        ·rw [if_neg c18] at H
         exact absurd H (by simp)
    ·rw [if_neg c10] at H
     have c10b0 : (((rd_T36 l0 t125).f7) == 2) = false := beq_eq_false_iff_ne.mpr c10
     have c10b1 : (((rd_T36 l0 t125).f7) != 2) = true := bne_iff_ne.mpr c10
     simp only [Option.some.injEq, Prod.mk.injEq] at H
     obtain ⟨rfl, rfl⟩ := H
     go_enter Tryd.func14, Tryd.ntmps14
     go_wp2_with (first | ((with_reducible refine gate_callee (f := 31) rfl ?_); refine goesL_ (some 14) rfl rfl Tryd.func31 (by kernel_rfl) rfl #[.slice A0 l0.length c0, .int .i64 a1] rfl (by (try simp only [List.map_toArray, List.map_cons, List.map_nil]); first | done | rfl | (simp only [List.length_drop, List.length_take]; rfl)) ?_; (with_reducible refine (collect_index.calls k _ _ l0 a1 t125 _ ?side1 ?side2 A5.out).mono ?_); (case side1 => repeat (first | exact HR0.out | (with_reducible refine Kd.C_alloc ?_ _) | (with_reducible refine Kd.C_drewN ?_ _) | (with_reducible refine Kd.C_drew ?_))); (case side2 => exact HC0.out); rintro e w38 ⟨rfl, hb⟩; refine ⟨_, rfl, ?_⟩; have n0_ := Aside0.mk (below_step (by repeat (with_reducible first | exact HB.out | apply below_alloc | apply pw_below_drewN | apply below_drew1)) hb); clear HB; have HB := n0_; clear n0_; (try clear hb); (try clear hb2); (try clear hk); (try clear hi); have p126 : 0 ≤ (t125 : Int) := of_decide_eq_true (by assumption); have q126 : t125 < (l0.length : Int) := of_decide_eq_true (by assumption); obtain ⟨ad126, e126, hx126_0, hx126_1, hx126_2, hx126_3, hx126_4, hx126_5, hx126_6, hx126_7, hx126_8⟩ := at_T36 HR0.out t125 p126 q126; cases e126; replace hx126_0 := (HB.out.cell (World.block_lt_of_cell? w _ hx126_0)).trans hx126_0; replace hx126_1 := (HB.out.cell (World.block_lt_of_cell? w _ hx126_1)).trans hx126_1; replace hx126_2 := (HB.out.cell (World.block_lt_of_cell? w _ hx126_2)).trans hx126_2; replace hx126_3 := (HB.out.cell (World.block_lt_of_cell? w _ hx126_3)).trans hx126_3; replace hx126_4 := (HB.out.cell (World.block_lt_of_cell? w _ hx126_4)).trans hx126_4; replace hx126_5 := (HB.out.cell (World.block_lt_of_cell? w _ hx126_5)).trans hx126_5; replace hx126_6 := (HB.out.cell (World.block_lt_of_cell? w _ hx126_6)).trans hx126_6; replace hx126_7 := (HB.out.cell (World.block_lt_of_cell? w _ hx126_7)).trans hx126_7; replace hx126_8 := (HB.out.cell (World.block_lt_of_cell? w _ hx126_8)).trans hx126_8; replace p126 := eq_true p126; replace q126 := eq_true q126))
     go_ret2
     exact ⟨_, by first | rfl | (simp [errW_none, errW_some] <;> rfl) | (simp [*, errW_none, errW_some] <;> rfl), by first | exact Kd.R_nil _ _ _ _ _ | exact Kd.N_nil _ _ _ _ _ | exact Kd.V_nil _ _ _ _ _ | exact Kd.Q_nil _ _ _ _ _ | exact Kd.S_nil _ _ _ _ _, by repeat (with_reducible first | exact HB.out | apply below_alloc | apply pw_below_drewN | apply below_drew1)⟩
   ·rw [if_neg c9] at H
    exact absurd H (by simp)
  ·rw [if_neg c8] at H
   exact absurd H (by simp)

end Go.Proofs.YtfdjgdjmllkdcaaDoor.X
