-- Written by program (wip/tools/xprint.sh) for this seat; not trusted: Lean checks it.
import Derived.Test.YtfgcachcbhkkoaaX0
import Derived.Test.YtfgcachcbhkkoaaX9
import Derived.Test.YtfgcachcbhkkoaaX11
namespace Go.Proofs.Ytfgcachcbhkkoaa.X
open Go.RowKit Go.Proofs.YtfgcachcbhkkoaaW.PrintWords Go.Proofs.YtfgcachcbhkkoaaW.PrintLast Go.Proofs.YtfgcachcbhkkoaaW.PrintMore
attribute [local go_sem] max2_int min2_int max_two min_two max_three min_three max_four min_four   -- for this text's walks alone
set_option linter.unusedVariables false
set_option linter.unusedSimpArgs false

/-! ### mandate_Use: function 18 -/
def mandate_Use.j0 : Nat → List (S28) → Int → Int → Bool → Option ((List (S28)) × Int)
  | 0, _, _, _, _ => none
  | k + 1, x0, x2, x8, x20 => if x20 = true then (some (([] : List (S28)), 1)) else (if 0 ≤ x8 then (if x8 < (x0.length : Int) then (if x2 < (mx ((rd_T28 x0 x8).f3) ((rd_T28 x0 x8).f4)) then (some (([] : List (S28)), 10)) else ((api_Mandate_28.f x0).bind fun t153 => (if x8 < (t153.length : Int) then (some ((t153.set (x8 : Int).toNat (⟨(rd_T28 t153 x8).f0, (rd_T28 t153 x8).f1, (rd_T28 t153 x8).f2, (rd_T28 t153 x8).f3, x2, (rd_T28 t153 x8).f5, (rd_T28 t153 x8).f6⟩ : S28)), 0)) else (none)))) else (none)) else (none))
def mandate_Use.f (k : Nat) (l0 : List (S28)) (a1 : Int) (a2 : Int) : Option ((List (S28)) × Int) := (mandate_find.f k l0 a1).bind fun bt149 => (if bt149.2 = true then (if a2 < 1 then (mandate_Use.j0 k l0 a2 bt149.1 true) else (mandate_Use.j0 k l0 a2 bt149.1 (decide (a2 > 73048)))) else (some (([] : List (S28)), 11)))
theorem mandate_Use.mono_l : ∀ k, (∀ y0 y1 y2 y3, LeO (mandate_Use.j0 k y0 y1 y2 y3) (mandate_Use.j0 (k + 1) y0 y1 y2 y3))
  | 0 => fun _ _ _ _ r h => by simp [mandate_Use.j0] at h
  | k + 1 => by
    have ih0 := mandate_Use.mono_l k
    · intro y0 y1 y2 y3
      unfold mandate_Use.j0
      repeat' first
      | (with_reducible exact ih0 _ _ _ _)
      | (with_reducible exact mandate_find.mono _ _ _)
      | (with_reducible exact LeO.refl _)
      | (with_reducible exact LeO.none _)
      | (with_reducible refine LeO.ite ?_ ?_)
      | (with_reducible refine LeO.bind ?_ (fun _ => ?_))
      | exact ih0 _ _ _ _
      | exact mandate_find.mono _ _ _
      | exact LeO.none _
      | refine LeO.ite ?_ ?_
      | refine LeO.bind ?_ (fun _ => ?_)
theorem mandate_Use.mono : ∀ a0 a1 a2 k, LeO (mandate_Use.f k a0 a1 a2) (mandate_Use.f (k + 1) a0 a1 a2) := by
  intro a0 a1 a2 k
  have ih0 := mandate_Use.mono_l k
  unfold mandate_Use.f
  repeat' first
      | (with_reducible exact ih0 _ _ _ _)
      | (with_reducible exact mandate_find.mono _ _ _)
      | (with_reducible exact LeO.refl _)
      | (with_reducible exact LeO.none _)
      | (with_reducible refine LeO.ite ?_ ?_)
      | (with_reducible refine LeO.bind ?_ (fun _ => ?_))
      | exact ih0 _ _ _ _
      | exact mandate_find.mono _ _ _
      | exact LeO.none _
      | refine LeO.ite ?_ ?_
      | refine LeO.bind ?_ (fun _ => ?_)
set_option maxHeartbeats 8000000 in
set_option maxRecDepth 100000 in
theorem mandate_Use.calls (k : Nat) (A0 : Option Addr) (c0 : Nat) (l0 : List (S28)) (a1 : Int) (a2 : Int) (r1 : List (S28)) (r2 : Int) (w : World) (hr0 : Kd.C k28 w A0 l0.length l0) (hc0 : l0.length ≤ c0) (h : mandate_Use.f k l0 a1 a2 = some (r1, r2)) :
  Calls Try.prog 18 #[.slice A0 l0.length c0, .int .i64 a1, .int .i64 a2] w fun e w' => ∃ v0_ : Value, e = .returned (.tuple #[v0_, .int .i64 r2]) ∧ Kd.R k28 28 w' w.heap.size (fun _ => True) v0_ r1 ∧ Below w.heap.size w w' := by
 have HR0 := Aside0.mk hr0
 have HC0 := Aside0.mk hc0
 clear hr0 hc0
 have HB := Aside0.mk (Below.refl w.heap.size w)
 have H : ((mandate_find.f k l0 a1).bind fun bt149 => (if bt149.2 = true then (if a2 < 1 then (mandate_Use.j0 k l0 a2 bt149.1 true) else (mandate_Use.j0 k l0 a2 bt149.1 (decide (a2 > 73048)))) else (some (([] : List (S28)), 11)))) = some (r1, r2) := h
 clear h
 replace H := Option.bind_eq_some_iff.mp H
 obtain ⟨⟨t149, t150⟩, A40, H⟩ := H
 replace H : (if t150 = true then (if a2 < 1 then (mandate_Use.j0 k l0 a2 t149 true) else (mandate_Use.j0 k l0 a2 t149 (decide (a2 > 73048)))) else (some (([] : List (S28)), 11))) = some (r1, r2) := H
 have A4 := Aside0.mk A40
 clear A40
 by_cases c5 : t150 = true
 ·subst c5
  have H1 : (if a2 < 1 then (mandate_Use.j0 k l0 a2 t149 true) else (mandate_Use.j0 k l0 a2 t149 (decide (a2 > 73048)))) = some (r1, r2) := by rw [if_pos rfl] at H; exact H
  clear H
  have H := H1
  clear H1
  have HC6 := Aside0.mk H
  clear H
  go_enter Try.func18, Try.ntmps18
  go_upto_region 4 with (first | (go_at_call 29; (with_reducible refine (mandate_find.calls k _ _ l0 a1 t149 true _ ?side1 ?side2 A4.out).mono ?_); (case side1 => repeat (first | exact HR0.out | (with_reducible refine Kd.C_alloc ?_ _) | (with_reducible refine Kd.C_drewN ?_ _) | (with_reducible refine Kd.C_drew ?_))); (case side2 => exact HC0.out); rintro e w7 ⟨rfl, hb⟩; have n0_ := Aside0.mk (below_step (by repeat (with_reducible first | exact HB.out | apply below_alloc | apply pw_below_drewN | apply below_drew1)) hb); clear HB; have HB := n0_; clear n0_; (try clear hb); (try clear hb2); (try clear hk); (try clear hi)))
  repeat (go_quiet (first | (go_at_call 29; (with_reducible refine (mandate_find.calls k _ _ l0 a1 t149 true _ ?side1 ?side2 A4.out).mono ?_); (case side1 => repeat (first | exact HR0.out | (with_reducible refine Kd.C_alloc ?_ _) | (with_reducible refine Kd.C_drewN ?_ _) | (with_reducible refine Kd.C_drew ?_))); (case side2 => exact HC0.out); rintro e w7 ⟨rfl, hb⟩; have n0_ := Aside0.mk (below_step (by repeat (with_reducible first | exact HB.out | apply below_alloc | apply pw_below_drewN | apply below_drew1)) hb); clear HB; have HB := n0_; clear n0_; (try clear hb); (try clear hb2); (try clear hk); (try clear hi))); go_upto_region 4 with (first | (go_at_call 29; (with_reducible refine (mandate_find.calls k _ _ l0 a1 t149 true _ ?side1 ?side2 A4.out).mono ?_); (case side1 => repeat (first | exact HR0.out | (with_reducible refine Kd.C_alloc ?_ _) | (with_reducible refine Kd.C_drewN ?_ _) | (with_reducible refine Kd.C_drew ?_))); (case side2 => exact HC0.out); rintro e w7 ⟨rfl, hb⟩; have n0_ := Aside0.mk (below_step (by repeat (with_reducible first | exact HB.out | apply below_alloc | apply pw_below_drewN | apply below_drew1)) hb); clear HB; have HB := n0_; clear n0_; (try clear hb); (try clear hb2); (try clear hk); (try clear hi))))
  (try simp only [Act.put, List.setIfInBounds_toArray, List.set_cons_zero, List.set_cons_succ])
  go_cut [20] (fun v20 wc => ∃ (kq : Nat) (x20_5 : Bool), v20 = .bool x20_5 ∧ Aside0 (mandate_Use.j0 kq l0 a2 t149 x20_5 = some (r1, r2)) ∧ Aside0 (kq ≤ k) ∧ Aside0 (Below w.heap.size w wc))
  case first =>
   have H := HC6.out
   clear HC6
   by_cases c8 : a2 < 1
   ·rw [if_pos c8] at H
    have c8b0 : decide (a2 < 1) = true := decide_eq_true c8
    clear c8
    (first | rw [c8b0] | (simp only [i64_w, i32_w]; rw [c8b0]) | skip)
    have H' := Aside0.mk H
    clear H
    go_wp2
    repeat (go_quiet (fail); try go_wp2)
    go_meet
    case rel => exact ⟨_, (true), (by first | rfl | (simp [*]; done)), H', ⟨by first | omega | exact Nat.le_refl _⟩, ⟨by repeat (with_reducible first | exact HB.out | apply below_alloc | apply pw_below_drewN | apply below_drew1)⟩⟩
   ·rw [if_neg c8] at H
    have c8b0 : decide (a2 < 1) = false := decide_eq_false c8
    clear c8
    (first | rw [c8b0] | (simp only [i64_w, i32_w]; rw [c8b0]) | skip)
    have H' := Aside0.mk H
    clear H
    go_wp2
    repeat (go_quiet (fail); try go_wp2)
    go_meet
    case rel => exact ⟨_, (decide (a2 > 73048)), (by first | rfl | (simp [*]; done)), H', ⟨by first | omega | exact Nat.le_refl _⟩, ⟨by repeat (with_reducible first | exact HB.out | apply below_alloc | apply pw_below_drewN | apply below_drew1)⟩⟩
  case rest =>
   clear HC6
   try clear c1
   try clear p2
   try clear c5
   try clear c8
   try clear c8b0
   obtain ⟨kq, x20_5, rfl, HA, HJ5, HB⟩ := hcut
   cases kq with
   | zero => exact absurd HA.out (by simp [mandate_Use.j0])
   | succ kj5 =>
    have H := HA.out
    clear HA
    simp only [mandate_Use.j0] at H
    by_cases c9 : x20_5 = true
    ·subst c9
     have H1 : (some (([] : List (S28)), 1)) = some (r1, r2) := by rw [if_pos rfl] at H; exact H
     clear H
     have H := H1
     clear H1
     simp only [Option.some.injEq, Prod.mk.injEq] at H
     obtain ⟨rfl, rfl⟩ := H
     go_wp2
     repeat (go_quiet (fail); try go_wp2)
     go_ret2
     exact ⟨_, by first | rfl | (simp [errW_none, errW_some] <;> rfl) | (simp [*, errW_none, errW_some] <;> rfl), by first | exact Kd.R_nil _ _ _ _ _ | exact Kd.N_nil _ _ _ _ _ | exact Kd.V_nil _ _ _ _ _ | exact Kd.Q_nil _ _ _ _ _ | exact Kd.S_nil _ _ _ _ _, by repeat (with_reducible first | exact HB.out | apply below_alloc | apply pw_below_drewN | apply below_drew1)⟩
    ·replace c9 := Bool.eq_false_iff.mpr c9
     subst c9
     have H1 : (if 0 ≤ t149 then (if t149 < (l0.length : Int) then (if a2 < (mx ((rd_T28 l0 t149).f3) ((rd_T28 l0 t149).f4)) then (some (([] : List (S28)), 10)) else ((api_Mandate_28.f l0).bind fun t153 => (if t149 < (t153.length : Int) then (some ((t153.set (t149 : Int).toNat (⟨(rd_T28 t153 t149).f0, (rd_T28 t153 t149).f1, (rd_T28 t153 t149).f2, (rd_T28 t153 t149).f3, a2, (rd_T28 t153 t149).f5, (rd_T28 t153 t149).f6⟩ : S28)), 0)) else (none)))) else (none)) else (none)) = some (r1, r2) := by rw [if_neg (show ¬ (false = true) by decide)] at H; exact H
     clear H
     have H := H1
     clear H1
     by_cases c10 : 0 ≤ t149
     ·rw [if_pos c10] at H
      have c10b0 : decide (0 ≤ t149) = true := decide_eq_true c10
      clear c10
      by_cases c11 : t149 < (l0.length : Int)
      ·rw [if_pos c11] at H
       have c11b0 : decide (t149 < (l0.length : Int)) = true := decide_eq_true c11
       clear c11
       obtain ⟨ji12, hji12⟩ : ∃ j_ : Int, (mx ((rd_T28 l0 t149).f3) ((rd_T28 l0 t149).f4)) = j_ := ⟨_, rfl⟩
       replace H : (if a2 < (ji12) then (some (([] : List (S28)), 10)) else ((api_Mandate_28.f l0).bind fun t153 => (if t149 < (t153.length : Int) then (some ((t153.set (t149 : Int).toNat (⟨(rd_T28 t153 t149).f0, (rd_T28 t153 t149).f1, (rd_T28 t153 t149).f2, (rd_T28 t153 t149).f3, a2, (rd_T28 t153 t149).f5, (rd_T28 t153 t149).f6⟩ : S28)), 0)) else (none)))) = some (r1, r2) := by first | (rw [hji12] at H; exact H) | (simp only [hji12] at H ⊢; exact H)
       have hji12_ : (if ((rd_T28 l0 t149).f3) < ((rd_T28 l0 t149).f4) then ((rd_T28 l0 t149).f4) else ((rd_T28 l0 t149).f3)) = ji12 := hji12
       by_cases c13 : a2 < (ji12)
       ·rw [if_pos c13] at H
        have c13b0 : decide (a2 < (ji12)) = true := decide_eq_true c13
        clear c13
        simp only [Option.some.injEq, Prod.mk.injEq] at H
        obtain ⟨rfl, rfl⟩ := H
        have p151 : 0 ≤ (t149 : Int) := of_decide_eq_true (by assumption)
        have q151 : t149 < (l0.length : Int) := of_decide_eq_true (by assumption)
        obtain ⟨ad151, e151, hx151_0, hx151_1, hx151_2, hx151_3, hx151_4, hx151_5, hx151_6⟩ := at_T28 HR0.out t149 p151 q151
        cases e151
        replace hx151_0 := (HB.out.cell (World.block_lt_of_cell? w _ hx151_0)).trans hx151_0
        replace hx151_1 := (HB.out.cell (World.block_lt_of_cell? w _ hx151_1)).trans hx151_1
        replace hx151_2 := (HB.out.cell (World.block_lt_of_cell? w _ hx151_2)).trans hx151_2
        replace hx151_3 := (HB.out.cell (World.block_lt_of_cell? w _ hx151_3)).trans hx151_3
        replace hx151_4 := (HB.out.cell (World.block_lt_of_cell? w _ hx151_4)).trans hx151_4
        replace hx151_5 := (HB.out.cell (World.block_lt_of_cell? w _ hx151_5)).trans hx151_5
        replace hx151_6 := (HB.out.cell (World.block_lt_of_cell? w _ hx151_6)).trans hx151_6
        replace p151 := eq_true p151
        replace q151 := eq_true q151
        have p152 : 0 ≤ (t149 : Int) := of_decide_eq_true (by assumption)
        have q152 : t149 < (l0.length : Int) := of_decide_eq_true (by assumption)
        obtain ⟨ad152, e152, hx152_0, hx152_1, hx152_2, hx152_3, hx152_4, hx152_5, hx152_6⟩ := at_T28 HR0.out t149 p152 q152
        obtain rfl : ad151 = ad152 := (by injection e152)
        replace hx152_0 := (HB.out.cell (World.block_lt_of_cell? w _ hx152_0)).trans hx152_0
        replace hx152_1 := (HB.out.cell (World.block_lt_of_cell? w _ hx152_1)).trans hx152_1
        replace hx152_2 := (HB.out.cell (World.block_lt_of_cell? w _ hx152_2)).trans hx152_2
        replace hx152_3 := (HB.out.cell (World.block_lt_of_cell? w _ hx152_3)).trans hx152_3
        replace hx152_4 := (HB.out.cell (World.block_lt_of_cell? w _ hx152_4)).trans hx152_4
        replace hx152_5 := (HB.out.cell (World.block_lt_of_cell? w _ hx152_5)).trans hx152_5
        replace hx152_6 := (HB.out.cell (World.block_lt_of_cell? w _ hx152_6)).trans hx152_6
        replace p152 := eq_true p152
        replace q152 := eq_true q152
        go_wp2
        repeat (go_quiet (fail); try go_wp2)
        go_ret2
        exact ⟨_, by first | rfl | (simp [errW_none, errW_some] <;> rfl) | (simp only [← hji12]; first | rfl | (simp [errW_none, errW_some] <;> rfl)) | (simp [*, errW_none, errW_some] <;> rfl), by first | exact Kd.R_nil _ _ _ _ _ | exact Kd.N_nil _ _ _ _ _ | exact Kd.V_nil _ _ _ _ _ | exact Kd.Q_nil _ _ _ _ _ | exact Kd.S_nil _ _ _ _ _, by repeat (with_reducible first | exact HB.out | apply below_alloc | apply pw_below_drewN | apply below_drew1)⟩
       ·rw [if_neg c13] at H
        have c13b0 : decide (a2 < (ji12)) = false := decide_eq_false c13
        clear c13
        replace H := Option.bind_eq_some_iff.mp H
        obtain ⟨t153, A140, H⟩ := H
        replace H : (if t149 < (t153.length : Int) then (some ((t153.set (t149 : Int).toNat (⟨(rd_T28 t153 t149).f0, (rd_T28 t153 t149).f1, (rd_T28 t153 t149).f2, (rd_T28 t153 t149).f3, a2, (rd_T28 t153 t149).f5, (rd_T28 t153 t149).f6⟩ : S28)), 0)) else (none)) = some (r1, r2) := H
        have A14 := Aside0.mk A140
        clear A140
        by_cases c15 : t149 < (t153.length : Int)
        ·rw [if_pos c15] at H
         have c15b0 : decide (t149 < (t153.length : Int)) = true := decide_eq_true c15
         clear c15
         obtain ⟨y156, hy156⟩ : ∃ y_ : List (S28), y_ = (t153.set (t149 : Int).toNat (⟨(rd_T28 t153 t149).f0, (rd_T28 t153 t149).f1, (rd_T28 t153 t149).f2, (rd_T28 t153 t149).f3, a2, (rd_T28 t153 t149).f5, (rd_T28 t153 t149).f6⟩ : S28)) := ⟨_, rfl⟩
         replace H : (some (y156, 0)) = some (r1, r2) := by first | (rw [hy156]; with_reducible exact H) | (have H2_ := (Option.bind_some _ _).symm.trans H; rw [hy156]; with_reducible exact H2_) | (have H2_ := (Option.bind_some _ _).symm.trans H; with_reducible exact H2_) | with_reducible exact H | (rw [hy156]; exact H) | exact H
         have Ny156 := Aside0.mk hy156
         clear hy156
         simp only [Option.some.injEq, Prod.mk.injEq] at H
         obtain ⟨rfl, rfl⟩ := H
         have p151 : 0 ≤ (t149 : Int) := of_decide_eq_true (by assumption)
         have q151 : t149 < (l0.length : Int) := of_decide_eq_true (by assumption)
         obtain ⟨ad151, e151, hx151_0, hx151_1, hx151_2, hx151_3, hx151_4, hx151_5, hx151_6⟩ := at_T28 HR0.out t149 p151 q151
         cases e151
         replace hx151_0 := (HB.out.cell (World.block_lt_of_cell? w _ hx151_0)).trans hx151_0
         replace hx151_1 := (HB.out.cell (World.block_lt_of_cell? w _ hx151_1)).trans hx151_1
         replace hx151_2 := (HB.out.cell (World.block_lt_of_cell? w _ hx151_2)).trans hx151_2
         replace hx151_3 := (HB.out.cell (World.block_lt_of_cell? w _ hx151_3)).trans hx151_3
         replace hx151_4 := (HB.out.cell (World.block_lt_of_cell? w _ hx151_4)).trans hx151_4
         replace hx151_5 := (HB.out.cell (World.block_lt_of_cell? w _ hx151_5)).trans hx151_5
         replace hx151_6 := (HB.out.cell (World.block_lt_of_cell? w _ hx151_6)).trans hx151_6
         replace p151 := eq_true p151
         replace q151 := eq_true q151
         have p152 : 0 ≤ (t149 : Int) := of_decide_eq_true (by assumption)
         have q152 : t149 < (l0.length : Int) := of_decide_eq_true (by assumption)
         obtain ⟨ad152, e152, hx152_0, hx152_1, hx152_2, hx152_3, hx152_4, hx152_5, hx152_6⟩ := at_T28 HR0.out t149 p152 q152
         obtain rfl : ad151 = ad152 := (by injection e152)
         replace hx152_0 := (HB.out.cell (World.block_lt_of_cell? w _ hx152_0)).trans hx152_0
         replace hx152_1 := (HB.out.cell (World.block_lt_of_cell? w _ hx152_1)).trans hx152_1
         replace hx152_2 := (HB.out.cell (World.block_lt_of_cell? w _ hx152_2)).trans hx152_2
         replace hx152_3 := (HB.out.cell (World.block_lt_of_cell? w _ hx152_3)).trans hx152_3
         replace hx152_4 := (HB.out.cell (World.block_lt_of_cell? w _ hx152_4)).trans hx152_4
         replace hx152_5 := (HB.out.cell (World.block_lt_of_cell? w _ hx152_5)).trans hx152_5
         replace hx152_6 := (HB.out.cell (World.block_lt_of_cell? w _ hx152_6)).trans hx152_6
         replace p152 := eq_true p152
         replace q152 := eq_true q152
         go_wp2_with (first | (go_at_call 28; (with_reducible refine (api_Mandate_28.calls _ _ l0 t153 _ ?side1 ?side2 A14.out).mono ?_); (case side1 => repeat (first | exact (Kd.C_below HR0.out HB.out) | (with_reducible refine Kd.C_alloc ?_ _) | (with_reducible refine Kd.C_drewN ?_ _) | (with_reducible refine Kd.C_drew ?_))); (case side2 => exact HC0.out); rintro e w17 ⟨v154, rfl, ho0, hb⟩; have n0_ := Aside0.mk (Kd.R_lower ho0 (below_size (by repeat (with_reducible first | exact HB.out | apply below_alloc | apply pw_below_drewN | apply below_drew1)))); have n1_ := Aside0.mk (below_step (by repeat (with_reducible first | exact HB.out | apply below_alloc | apply pw_below_drewN | apply below_drew1)) hb); clear HB; have HO155 := n0_; have HB := n1_; clear n0_ n1_; (try clear hb); (try clear hb2); (try clear hk); (try clear hi); (try clear ho0); have p16 : 0 ≤ (t149 : Int) := of_decide_eq_true (by assumption); have q16 : (t149 : Int) < ((t153.length : Int) : Int) := of_decide_eq_true (by assumption); obtain ⟨go16, co16, eo16, gb16, gl16, cl16, HG16⟩ := Kd.R_form HO155.out (by omega); (first | cases eo16 | (injection eo16 with ea_ en_ ec_; (first | subst ea_ | (injection ea_ with ea_; subst ea_)); subst ec_; clear en_)); have GB16 := Aside0.mk gb16; have GG16 := Aside0.mk HG16; clear gb16 gl16 HG16; obtain ⟨ce16, hcl16, hM16, hcc16, hfr16⟩ := Kd.R_elem HO155.out z28 (t149 : Int) p16 q16; obtain rfl := k28_openM hM16; have hx16_0 : w17.cell? ⟨go16, (t149 : Int).toNat * 7, none⟩ = some (.int .i64 ((rd_T28 t153 t149).f0)) := hcc16 0 _ rfl; have hx16_1 : w17.cell? ⟨go16, (t149 : Int).toNat * 7 + 1, none⟩ = some (.int .i64 ((rd_T28 t153 t149).f1)) := hcc16 1 _ rfl; have hx16_2 : w17.cell? ⟨go16, (t149 : Int).toNat * 7 + 2, none⟩ = some (.int .i64 ((rd_T28 t153 t149).f2)) := hcc16 2 _ rfl; have hx16_3 : w17.cell? ⟨go16, (t149 : Int).toNat * 7 + 3, none⟩ = some (.int .i64 ((rd_T28 t153 t149).f3)) := hcc16 3 _ rfl; have hx16_4 : w17.cell? ⟨go16, (t149 : Int).toNat * 7 + 4, none⟩ = some (.int .i64 ((rd_T28 t153 t149).f4)) := hcc16 4 _ rfl; have hx16_5 : w17.cell? ⟨go16, (t149 : Int).toNat * 7 + 5, none⟩ = some (.int .i64 ((rd_T28 t153 t149).f5)) := hcc16 5 _ rfl; have hx16_6 : w17.cell? ⟨go16, (t149 : Int).toNat * 7 + 6, none⟩ = some (.string ((rd_T28 t153 t149).f6)) := hcc16 6 _ rfl; have hf16_0 : w17.frozen? ⟨go16, (t149 : Int).toNat * 7, none⟩ = false := hfr16 0; have hf16_1 : w17.frozen? ⟨go16, (t149 : Int).toNat * 7 + 1, none⟩ = false := hfr16 1; have hf16_2 : w17.frozen? ⟨go16, (t149 : Int).toNat * 7 + 2, none⟩ = false := hfr16 2; have hf16_3 : w17.frozen? ⟨go16, (t149 : Int).toNat * 7 + 3, none⟩ = false := hfr16 3; have hf16_4 : w17.frozen? ⟨go16, (t149 : Int).toNat * 7 + 4, none⟩ = false := hfr16 4; have hf16_5 : w17.frozen? ⟨go16, (t149 : Int).toNat * 7 + 5, none⟩ = false := hfr16 5; have hf16_6 : w17.frozen? ⟨go16, (t149 : Int).toNat * 7 + 6, none⟩ = false := hfr16 6; clear hcl16 hcc16 hfr16 hM16; replace p16 := eq_true p16; replace q16 := eq_true q16; have HX18 := Aside0.mk (show Kd.R k28 28 w17 w.heap.size (fun _ => True) (.slice (some ⟨go16, 0, none⟩) t153.length co16) t153 from (by (with_reducible repeat (first | apply Kd.R_alloc | apply Kd.R_drewN | apply Kd.R_drew)); exact HO155.out)); obtain ⟨ce18, hcl18, hM18, hcc18, hfr18⟩ := Kd.R_elem HX18.out z28 (t149 : Int) (of_decide_eq_true (by assumption)) (by have h_ : (t149 : Int) < ((t153.length : Int) : Int) := of_decide_eq_true (by assumption); first | exact h_ | (have e_ := (Kd.R_reads' HO155.out).1; omega) | simpa using h_); obtain rfl := k28_openM hM18; have HP18 := Kd.R_seg HX18.out (t149 : Int) (of_decide_eq_true (by assumption)) (by have h_ : (t149 : Int) < ((t153.length : Int) : Int) := of_decide_eq_true (by assumption); first | exact h_ | (have e_ := (Kd.R_reads' HO155.out).1; omega) | simpa using h_) (seg := [.int .i64 a2]) (j := 4) hcl18 hcc18 (show 5 ≤ 7 from by decide) (x' := (⟨(rd_T28 t153 t149).f0, (rd_T28 t153 t149).f1, (rd_T28 t153 t149).f2, (rd_T28 t153 t149).f3, a2, (rd_T28 t153 t149).f5, (rd_T28 t153 t149).f6⟩ : S28)) (k28_mkM _ _ _ (⟨(rd_T28 t153 t149).f0, (rd_T28 t153 t149).f1, (rd_T28 t153 t149).f2, (rd_T28 t153 t149).f3, a2, (rd_T28 t153 t149).f5, (rd_T28 t153 t149).f6⟩ : S28) ) (fun _ hk => hk); have hx18_4 := hcc18 4 _ rfl; (try simp only [show (k28).sz = 7 from rfl, Nat.mul_one, Nat.add_zero] at hx18_4); have hf18_4 := hfr18 4; (try simp only [show (k28).sz = 7 from rfl, Nat.mul_one, Nat.add_zero] at hf18_4); clear hcl18 hcc18 hfr18 hM18) | ((with_reducible refine gate_store (t := 3) (p := 47) rfl ?_); (try (rw [drewN_self w17]; generalize hq_ : World.drewN w17 _ = w17; have n0_ := Aside0.mk (Kd.R_at hq_ HO155.out); have n1_ := Aside0.mk (below_at hq_ HB.out); clear hq_ HO155 HB; have HO155 := n0_; have HB := n1_; clear n0_ n1_; (try (have HX18 := Aside0.mk (show Kd.R k28 28 w17 w.heap.size (fun _ => True) (.slice (some ⟨go16, 0, none⟩) t153.length co16) t153 from (by (with_reducible repeat (first | apply Kd.R_alloc | apply Kd.R_drewN | apply Kd.R_drew)); exact HO155.out)))); (try (obtain ⟨ce18, hcl18, hM18, hcc18, hfr18⟩ := Kd.R_elem HX18.out z28 (t149 : Int) (of_decide_eq_true (by assumption)) (by have h_ : (t149 : Int) < ((t153.length : Int) : Int) := of_decide_eq_true (by assumption); first | exact h_ | (have e_ := (Kd.R_reads' HO155.out).1; omega) | simpa using h_))); (try (obtain rfl := k28_openM hM18)); (try (have HP18 := Kd.R_seg HX18.out (t149 : Int) (of_decide_eq_true (by assumption)) (by have h_ : (t149 : Int) < ((t153.length : Int) : Int) := of_decide_eq_true (by assumption); first | exact h_ | (have e_ := (Kd.R_reads' HO155.out).1; omega) | simpa using h_) (seg := [.int .i64 a2]) (j := 4) hcl18 hcc18 (show 5 ≤ 7 from by decide) (x' := (⟨(rd_T28 t153 t149).f0, (rd_T28 t153 t149).f1, (rd_T28 t153 t149).f2, (rd_T28 t153 t149).f3, a2, (rd_T28 t153 t149).f5, (rd_T28 t153 t149).f6⟩ : S28)) (k28_mkM _ _ _ (⟨(rd_T28 t153 t149).f0, (rd_T28 t153 t149).f1, (rd_T28 t153 t149).f2, (rd_T28 t153 t149).f3, a2, (rd_T28 t153 t149).f5, (rd_T28 t153 t149).f6⟩ : S28) ) (fun _ hk => hk))); (try (have hx18_4 := hcc18 4 _ rfl)); (try (try simp only [show (k28).sz = 7 from rfl, Nat.mul_one, Nat.add_zero] at hx18_4)); (try (have hf18_4 := hfr18 4)); (try (try simp only [show (k28).sz = 7 from rfl, Nat.mul_one, Nat.add_zero] at hf18_4)); (try (clear hcl18 hcc18 hfr18 hM18)))); refine store_event (t := 3) (p := 47) (v := ?vo_w19) (w1 := (w17.setCell ⟨go16, (t149 : Int).toNat * 7 + 4, none⟩ (.int .i64 a2))) ?hg ?ho ?hn ?hr ?_; (case ho => rfl); (case hg => rfl); (case hn => rfl); (case hr => first | (go_simp; done) | (go_simp; rfl)); intro w19 hw; have hg : w17.grownBy w19 (some go16) := (by rw [hw]; exact HP18.2); have hp_ : Kd.R k28 28 w19 w.heap.size (fun _ => True) (.slice (some ⟨go16, 0, none⟩) t153.length co16) y156 := (by rw [hw, Ny156.out]; exact HP18.1); clear HP18; have n0_ := Aside0.mk (hp_); have n1_ := Aside0.mk ((by rw [hw]; exact below_set (HB.out) GB16.out : Below w.heap.size w w19)); clear HO155; clear HB; have HO155 := n0_; have HB := n1_; clear n0_ n1_; clear hg hw hp_))
         repeat (go_quiet (first | (go_at_call 28; (with_reducible refine (api_Mandate_28.calls _ _ l0 t153 _ ?side1 ?side2 A14.out).mono ?_); (case side1 => repeat (first | exact (Kd.C_below HR0.out HB.out) | (with_reducible refine Kd.C_alloc ?_ _) | (with_reducible refine Kd.C_drewN ?_ _) | (with_reducible refine Kd.C_drew ?_))); (case side2 => exact HC0.out); rintro e w17 ⟨v154, rfl, ho0, hb⟩; have n0_ := Aside0.mk (Kd.R_lower ho0 (below_size (by repeat (with_reducible first | exact HB.out | apply below_alloc | apply pw_below_drewN | apply below_drew1)))); have n1_ := Aside0.mk (below_step (by repeat (with_reducible first | exact HB.out | apply below_alloc | apply pw_below_drewN | apply below_drew1)) hb); clear HB; have HO155 := n0_; have HB := n1_; clear n0_ n1_; (try clear hb); (try clear hb2); (try clear hk); (try clear hi); (try clear ho0); have p16 : 0 ≤ (t149 : Int) := of_decide_eq_true (by assumption); have q16 : (t149 : Int) < ((t153.length : Int) : Int) := of_decide_eq_true (by assumption); obtain ⟨go16, co16, eo16, gb16, gl16, cl16, HG16⟩ := Kd.R_form HO155.out (by omega); (first | cases eo16 | (injection eo16 with ea_ en_ ec_; (first | subst ea_ | (injection ea_ with ea_; subst ea_)); subst ec_; clear en_)); have GB16 := Aside0.mk gb16; have GG16 := Aside0.mk HG16; clear gb16 gl16 HG16; obtain ⟨ce16, hcl16, hM16, hcc16, hfr16⟩ := Kd.R_elem HO155.out z28 (t149 : Int) p16 q16; obtain rfl := k28_openM hM16; have hx16_0 : w17.cell? ⟨go16, (t149 : Int).toNat * 7, none⟩ = some (.int .i64 ((rd_T28 t153 t149).f0)) := hcc16 0 _ rfl; have hx16_1 : w17.cell? ⟨go16, (t149 : Int).toNat * 7 + 1, none⟩ = some (.int .i64 ((rd_T28 t153 t149).f1)) := hcc16 1 _ rfl; have hx16_2 : w17.cell? ⟨go16, (t149 : Int).toNat * 7 + 2, none⟩ = some (.int .i64 ((rd_T28 t153 t149).f2)) := hcc16 2 _ rfl; have hx16_3 : w17.cell? ⟨go16, (t149 : Int).toNat * 7 + 3, none⟩ = some (.int .i64 ((rd_T28 t153 t149).f3)) := hcc16 3 _ rfl; have hx16_4 : w17.cell? ⟨go16, (t149 : Int).toNat * 7 + 4, none⟩ = some (.int .i64 ((rd_T28 t153 t149).f4)) := hcc16 4 _ rfl; have hx16_5 : w17.cell? ⟨go16, (t149 : Int).toNat * 7 + 5, none⟩ = some (.int .i64 ((rd_T28 t153 t149).f5)) := hcc16 5 _ rfl; have hx16_6 : w17.cell? ⟨go16, (t149 : Int).toNat * 7 + 6, none⟩ = some (.string ((rd_T28 t153 t149).f6)) := hcc16 6 _ rfl; have hf16_0 : w17.frozen? ⟨go16, (t149 : Int).toNat * 7, none⟩ = false := hfr16 0; have hf16_1 : w17.frozen? ⟨go16, (t149 : Int).toNat * 7 + 1, none⟩ = false := hfr16 1; have hf16_2 : w17.frozen? ⟨go16, (t149 : Int).toNat * 7 + 2, none⟩ = false := hfr16 2; have hf16_3 : w17.frozen? ⟨go16, (t149 : Int).toNat * 7 + 3, none⟩ = false := hfr16 3; have hf16_4 : w17.frozen? ⟨go16, (t149 : Int).toNat * 7 + 4, none⟩ = false := hfr16 4; have hf16_5 : w17.frozen? ⟨go16, (t149 : Int).toNat * 7 + 5, none⟩ = false := hfr16 5; have hf16_6 : w17.frozen? ⟨go16, (t149 : Int).toNat * 7 + 6, none⟩ = false := hfr16 6; clear hcl16 hcc16 hfr16 hM16; replace p16 := eq_true p16; replace q16 := eq_true q16; have HX18 := Aside0.mk (show Kd.R k28 28 w17 w.heap.size (fun _ => True) (.slice (some ⟨go16, 0, none⟩) t153.length co16) t153 from (by (with_reducible repeat (first | apply Kd.R_alloc | apply Kd.R_drewN | apply Kd.R_drew)); exact HO155.out)); obtain ⟨ce18, hcl18, hM18, hcc18, hfr18⟩ := Kd.R_elem HX18.out z28 (t149 : Int) (of_decide_eq_true (by assumption)) (by have h_ : (t149 : Int) < ((t153.length : Int) : Int) := of_decide_eq_true (by assumption); first | exact h_ | (have e_ := (Kd.R_reads' HO155.out).1; omega) | simpa using h_); obtain rfl := k28_openM hM18; have HP18 := Kd.R_seg HX18.out (t149 : Int) (of_decide_eq_true (by assumption)) (by have h_ : (t149 : Int) < ((t153.length : Int) : Int) := of_decide_eq_true (by assumption); first | exact h_ | (have e_ := (Kd.R_reads' HO155.out).1; omega) | simpa using h_) (seg := [.int .i64 a2]) (j := 4) hcl18 hcc18 (show 5 ≤ 7 from by decide) (x' := (⟨(rd_T28 t153 t149).f0, (rd_T28 t153 t149).f1, (rd_T28 t153 t149).f2, (rd_T28 t153 t149).f3, a2, (rd_T28 t153 t149).f5, (rd_T28 t153 t149).f6⟩ : S28)) (k28_mkM _ _ _ (⟨(rd_T28 t153 t149).f0, (rd_T28 t153 t149).f1, (rd_T28 t153 t149).f2, (rd_T28 t153 t149).f3, a2, (rd_T28 t153 t149).f5, (rd_T28 t153 t149).f6⟩ : S28) ) (fun _ hk => hk); have hx18_4 := hcc18 4 _ rfl; (try simp only [show (k28).sz = 7 from rfl, Nat.mul_one, Nat.add_zero] at hx18_4); have hf18_4 := hfr18 4; (try simp only [show (k28).sz = 7 from rfl, Nat.mul_one, Nat.add_zero] at hf18_4); clear hcl18 hcc18 hfr18 hM18) | ((with_reducible refine gate_store (t := 3) (p := 47) rfl ?_); (try (rw [drewN_self w17]; generalize hq_ : World.drewN w17 _ = w17; have n0_ := Aside0.mk (Kd.R_at hq_ HO155.out); have n1_ := Aside0.mk (below_at hq_ HB.out); clear hq_ HO155 HB; have HO155 := n0_; have HB := n1_; clear n0_ n1_; (try (have HX18 := Aside0.mk (show Kd.R k28 28 w17 w.heap.size (fun _ => True) (.slice (some ⟨go16, 0, none⟩) t153.length co16) t153 from (by (with_reducible repeat (first | apply Kd.R_alloc | apply Kd.R_drewN | apply Kd.R_drew)); exact HO155.out)))); (try (obtain ⟨ce18, hcl18, hM18, hcc18, hfr18⟩ := Kd.R_elem HX18.out z28 (t149 : Int) (of_decide_eq_true (by assumption)) (by have h_ : (t149 : Int) < ((t153.length : Int) : Int) := of_decide_eq_true (by assumption); first | exact h_ | (have e_ := (Kd.R_reads' HO155.out).1; omega) | simpa using h_))); (try (obtain rfl := k28_openM hM18)); (try (have HP18 := Kd.R_seg HX18.out (t149 : Int) (of_decide_eq_true (by assumption)) (by have h_ : (t149 : Int) < ((t153.length : Int) : Int) := of_decide_eq_true (by assumption); first | exact h_ | (have e_ := (Kd.R_reads' HO155.out).1; omega) | simpa using h_) (seg := [.int .i64 a2]) (j := 4) hcl18 hcc18 (show 5 ≤ 7 from by decide) (x' := (⟨(rd_T28 t153 t149).f0, (rd_T28 t153 t149).f1, (rd_T28 t153 t149).f2, (rd_T28 t153 t149).f3, a2, (rd_T28 t153 t149).f5, (rd_T28 t153 t149).f6⟩ : S28)) (k28_mkM _ _ _ (⟨(rd_T28 t153 t149).f0, (rd_T28 t153 t149).f1, (rd_T28 t153 t149).f2, (rd_T28 t153 t149).f3, a2, (rd_T28 t153 t149).f5, (rd_T28 t153 t149).f6⟩ : S28) ) (fun _ hk => hk))); (try (have hx18_4 := hcc18 4 _ rfl)); (try (try simp only [show (k28).sz = 7 from rfl, Nat.mul_one, Nat.add_zero] at hx18_4)); (try (have hf18_4 := hfr18 4)); (try (try simp only [show (k28).sz = 7 from rfl, Nat.mul_one, Nat.add_zero] at hf18_4)); (try (clear hcl18 hcc18 hfr18 hM18)))); refine store_event (t := 3) (p := 47) (v := ?vo_w19) (w1 := (w17.setCell ⟨go16, (t149 : Int).toNat * 7 + 4, none⟩ (.int .i64 a2))) ?hg ?ho ?hn ?hr ?_; (case ho => rfl); (case hg => rfl); (case hn => rfl); (case hr => first | (go_simp; done) | (go_simp; rfl)); intro w19 hw; have hg : w17.grownBy w19 (some go16) := (by rw [hw]; exact HP18.2); have hp_ : Kd.R k28 28 w19 w.heap.size (fun _ => True) (.slice (some ⟨go16, 0, none⟩) t153.length co16) y156 := (by rw [hw, Ny156.out]; exact HP18.1); clear HP18; have n0_ := Aside0.mk (hp_); have n1_ := Aside0.mk ((by rw [hw]; exact below_set (HB.out) GB16.out : Below w.heap.size w w19)); clear HO155; clear HB; have HO155 := n0_; have HB := n1_; clear n0_ n1_; clear hg hw hp_)); try go_wp2_with (first | (go_at_call 28; (with_reducible refine (api_Mandate_28.calls _ _ l0 t153 _ ?side1 ?side2 A14.out).mono ?_); (case side1 => repeat (first | exact (Kd.C_below HR0.out HB.out) | (with_reducible refine Kd.C_alloc ?_ _) | (with_reducible refine Kd.C_drewN ?_ _) | (with_reducible refine Kd.C_drew ?_))); (case side2 => exact HC0.out); rintro e w17 ⟨v154, rfl, ho0, hb⟩; have n0_ := Aside0.mk (Kd.R_lower ho0 (below_size (by repeat (with_reducible first | exact HB.out | apply below_alloc | apply pw_below_drewN | apply below_drew1)))); have n1_ := Aside0.mk (below_step (by repeat (with_reducible first | exact HB.out | apply below_alloc | apply pw_below_drewN | apply below_drew1)) hb); clear HB; have HO155 := n0_; have HB := n1_; clear n0_ n1_; (try clear hb); (try clear hb2); (try clear hk); (try clear hi); (try clear ho0); have p16 : 0 ≤ (t149 : Int) := of_decide_eq_true (by assumption); have q16 : (t149 : Int) < ((t153.length : Int) : Int) := of_decide_eq_true (by assumption); obtain ⟨go16, co16, eo16, gb16, gl16, cl16, HG16⟩ := Kd.R_form HO155.out (by omega); (first | cases eo16 | (injection eo16 with ea_ en_ ec_; (first | subst ea_ | (injection ea_ with ea_; subst ea_)); subst ec_; clear en_)); have GB16 := Aside0.mk gb16; have GG16 := Aside0.mk HG16; clear gb16 gl16 HG16; obtain ⟨ce16, hcl16, hM16, hcc16, hfr16⟩ := Kd.R_elem HO155.out z28 (t149 : Int) p16 q16; obtain rfl := k28_openM hM16; have hx16_0 : w17.cell? ⟨go16, (t149 : Int).toNat * 7, none⟩ = some (.int .i64 ((rd_T28 t153 t149).f0)) := hcc16 0 _ rfl; have hx16_1 : w17.cell? ⟨go16, (t149 : Int).toNat * 7 + 1, none⟩ = some (.int .i64 ((rd_T28 t153 t149).f1)) := hcc16 1 _ rfl; have hx16_2 : w17.cell? ⟨go16, (t149 : Int).toNat * 7 + 2, none⟩ = some (.int .i64 ((rd_T28 t153 t149).f2)) := hcc16 2 _ rfl; have hx16_3 : w17.cell? ⟨go16, (t149 : Int).toNat * 7 + 3, none⟩ = some (.int .i64 ((rd_T28 t153 t149).f3)) := hcc16 3 _ rfl; have hx16_4 : w17.cell? ⟨go16, (t149 : Int).toNat * 7 + 4, none⟩ = some (.int .i64 ((rd_T28 t153 t149).f4)) := hcc16 4 _ rfl; have hx16_5 : w17.cell? ⟨go16, (t149 : Int).toNat * 7 + 5, none⟩ = some (.int .i64 ((rd_T28 t153 t149).f5)) := hcc16 5 _ rfl; have hx16_6 : w17.cell? ⟨go16, (t149 : Int).toNat * 7 + 6, none⟩ = some (.string ((rd_T28 t153 t149).f6)) := hcc16 6 _ rfl; have hf16_0 : w17.frozen? ⟨go16, (t149 : Int).toNat * 7, none⟩ = false := hfr16 0; have hf16_1 : w17.frozen? ⟨go16, (t149 : Int).toNat * 7 + 1, none⟩ = false := hfr16 1; have hf16_2 : w17.frozen? ⟨go16, (t149 : Int).toNat * 7 + 2, none⟩ = false := hfr16 2; have hf16_3 : w17.frozen? ⟨go16, (t149 : Int).toNat * 7 + 3, none⟩ = false := hfr16 3; have hf16_4 : w17.frozen? ⟨go16, (t149 : Int).toNat * 7 + 4, none⟩ = false := hfr16 4; have hf16_5 : w17.frozen? ⟨go16, (t149 : Int).toNat * 7 + 5, none⟩ = false := hfr16 5; have hf16_6 : w17.frozen? ⟨go16, (t149 : Int).toNat * 7 + 6, none⟩ = false := hfr16 6; clear hcl16 hcc16 hfr16 hM16; replace p16 := eq_true p16; replace q16 := eq_true q16; have HX18 := Aside0.mk (show Kd.R k28 28 w17 w.heap.size (fun _ => True) (.slice (some ⟨go16, 0, none⟩) t153.length co16) t153 from (by (with_reducible repeat (first | apply Kd.R_alloc | apply Kd.R_drewN | apply Kd.R_drew)); exact HO155.out)); obtain ⟨ce18, hcl18, hM18, hcc18, hfr18⟩ := Kd.R_elem HX18.out z28 (t149 : Int) (of_decide_eq_true (by assumption)) (by have h_ : (t149 : Int) < ((t153.length : Int) : Int) := of_decide_eq_true (by assumption); first | exact h_ | (have e_ := (Kd.R_reads' HO155.out).1; omega) | simpa using h_); obtain rfl := k28_openM hM18; have HP18 := Kd.R_seg HX18.out (t149 : Int) (of_decide_eq_true (by assumption)) (by have h_ : (t149 : Int) < ((t153.length : Int) : Int) := of_decide_eq_true (by assumption); first | exact h_ | (have e_ := (Kd.R_reads' HO155.out).1; omega) | simpa using h_) (seg := [.int .i64 a2]) (j := 4) hcl18 hcc18 (show 5 ≤ 7 from by decide) (x' := (⟨(rd_T28 t153 t149).f0, (rd_T28 t153 t149).f1, (rd_T28 t153 t149).f2, (rd_T28 t153 t149).f3, a2, (rd_T28 t153 t149).f5, (rd_T28 t153 t149).f6⟩ : S28)) (k28_mkM _ _ _ (⟨(rd_T28 t153 t149).f0, (rd_T28 t153 t149).f1, (rd_T28 t153 t149).f2, (rd_T28 t153 t149).f3, a2, (rd_T28 t153 t149).f5, (rd_T28 t153 t149).f6⟩ : S28) ) (fun _ hk => hk); have hx18_4 := hcc18 4 _ rfl; (try simp only [show (k28).sz = 7 from rfl, Nat.mul_one, Nat.add_zero] at hx18_4); have hf18_4 := hfr18 4; (try simp only [show (k28).sz = 7 from rfl, Nat.mul_one, Nat.add_zero] at hf18_4); clear hcl18 hcc18 hfr18 hM18) | ((with_reducible refine gate_store (t := 3) (p := 47) rfl ?_); (try (rw [drewN_self w17]; generalize hq_ : World.drewN w17 _ = w17; have n0_ := Aside0.mk (Kd.R_at hq_ HO155.out); have n1_ := Aside0.mk (below_at hq_ HB.out); clear hq_ HO155 HB; have HO155 := n0_; have HB := n1_; clear n0_ n1_; (try (have HX18 := Aside0.mk (show Kd.R k28 28 w17 w.heap.size (fun _ => True) (.slice (some ⟨go16, 0, none⟩) t153.length co16) t153 from (by (with_reducible repeat (first | apply Kd.R_alloc | apply Kd.R_drewN | apply Kd.R_drew)); exact HO155.out)))); (try (obtain ⟨ce18, hcl18, hM18, hcc18, hfr18⟩ := Kd.R_elem HX18.out z28 (t149 : Int) (of_decide_eq_true (by assumption)) (by have h_ : (t149 : Int) < ((t153.length : Int) : Int) := of_decide_eq_true (by assumption); first | exact h_ | (have e_ := (Kd.R_reads' HO155.out).1; omega) | simpa using h_))); (try (obtain rfl := k28_openM hM18)); (try (have HP18 := Kd.R_seg HX18.out (t149 : Int) (of_decide_eq_true (by assumption)) (by have h_ : (t149 : Int) < ((t153.length : Int) : Int) := of_decide_eq_true (by assumption); first | exact h_ | (have e_ := (Kd.R_reads' HO155.out).1; omega) | simpa using h_) (seg := [.int .i64 a2]) (j := 4) hcl18 hcc18 (show 5 ≤ 7 from by decide) (x' := (⟨(rd_T28 t153 t149).f0, (rd_T28 t153 t149).f1, (rd_T28 t153 t149).f2, (rd_T28 t153 t149).f3, a2, (rd_T28 t153 t149).f5, (rd_T28 t153 t149).f6⟩ : S28)) (k28_mkM _ _ _ (⟨(rd_T28 t153 t149).f0, (rd_T28 t153 t149).f1, (rd_T28 t153 t149).f2, (rd_T28 t153 t149).f3, a2, (rd_T28 t153 t149).f5, (rd_T28 t153 t149).f6⟩ : S28) ) (fun _ hk => hk))); (try (have hx18_4 := hcc18 4 _ rfl)); (try (try simp only [show (k28).sz = 7 from rfl, Nat.mul_one, Nat.add_zero] at hx18_4)); (try (have hf18_4 := hfr18 4)); (try (try simp only [show (k28).sz = 7 from rfl, Nat.mul_one, Nat.add_zero] at hf18_4)); (try (clear hcl18 hcc18 hfr18 hM18)))); refine store_event (t := 3) (p := 47) (v := ?vo_w19) (w1 := (w17.setCell ⟨go16, (t149 : Int).toNat * 7 + 4, none⟩ (.int .i64 a2))) ?hg ?ho ?hn ?hr ?_; (case ho => rfl); (case hg => rfl); (case hn => rfl); (case hr => first | (go_simp; done) | (go_simp; rfl)); intro w19 hw; have hg : w17.grownBy w19 (some go16) := (by rw [hw]; exact HP18.2); have hp_ : Kd.R k28 28 w19 w.heap.size (fun _ => True) (.slice (some ⟨go16, 0, none⟩) t153.length co16) y156 := (by rw [hw, Ny156.out]; exact HP18.1); clear HP18; have n0_ := Aside0.mk (hp_); have n1_ := Aside0.mk ((by rw [hw]; exact below_set (HB.out) GB16.out : Below w.heap.size w w19)); clear HO155; clear HB; have HO155 := n0_; have HB := n1_; clear n0_ n1_; clear hg hw hp_)))
         go_ret2
         exact ⟨_, by first | rfl | (simp [errW_none, errW_some] <;> rfl) | (simp only [← hji12]; first | rfl | (simp [errW_none, errW_some] <;> rfl)) | (simp [*, errW_none, errW_some] <;> rfl), by (with_reducible repeat (first | apply Kd.R_alloc | apply Kd.R_drewN | apply Kd.R_drew)); exact HO155.out, by repeat (with_reducible first | exact HB.out | apply below_alloc | apply pw_below_drewN | apply below_drew1)⟩
        ·rw [if_neg c15] at H
         exact absurd H (by simp)
      ·rw [if_neg c11] at H
       exact absurd H (by simp)
     ·rw [if_neg c10] at H
      exact absurd H (by simp)
 ·replace c5 := Bool.eq_false_iff.mpr c5
  subst c5
  have H1 : (some (([] : List (S28)), 11)) = some (r1, r2) := by rw [if_neg (show ¬ (false = true) by decide)] at H; exact H
  clear H
  have H := H1
  clear H1
  simp only [Option.some.injEq, Prod.mk.injEq] at H
  obtain ⟨rfl, rfl⟩ := H
  go_enter Try.func18, Try.ntmps18
  go_wp2_with (first | (go_at_call 29; (with_reducible refine (mandate_find.calls k _ _ l0 a1 t149 false _ ?side1 ?side2 A4.out).mono ?_); (case side1 => repeat (first | exact HR0.out | (with_reducible refine Kd.C_alloc ?_ _) | (with_reducible refine Kd.C_drewN ?_ _) | (with_reducible refine Kd.C_drew ?_))); (case side2 => exact HC0.out); rintro e w20 ⟨rfl, hb⟩; have n0_ := Aside0.mk (below_step (by repeat (with_reducible first | exact HB.out | apply below_alloc | apply pw_below_drewN | apply below_drew1)) hb); clear HB; have HB := n0_; clear n0_; (try clear hb); (try clear hb2); (try clear hk); (try clear hi)))
  repeat (go_quiet (first | (go_at_call 29; (with_reducible refine (mandate_find.calls k _ _ l0 a1 t149 false _ ?side1 ?side2 A4.out).mono ?_); (case side1 => repeat (first | exact HR0.out | (with_reducible refine Kd.C_alloc ?_ _) | (with_reducible refine Kd.C_drewN ?_ _) | (with_reducible refine Kd.C_drew ?_))); (case side2 => exact HC0.out); rintro e w20 ⟨rfl, hb⟩; have n0_ := Aside0.mk (below_step (by repeat (with_reducible first | exact HB.out | apply below_alloc | apply pw_below_drewN | apply below_drew1)) hb); clear HB; have HB := n0_; clear n0_; (try clear hb); (try clear hb2); (try clear hk); (try clear hi))); try go_wp2_with (first | (go_at_call 29; (with_reducible refine (mandate_find.calls k _ _ l0 a1 t149 false _ ?side1 ?side2 A4.out).mono ?_); (case side1 => repeat (first | exact HR0.out | (with_reducible refine Kd.C_alloc ?_ _) | (with_reducible refine Kd.C_drewN ?_ _) | (with_reducible refine Kd.C_drew ?_))); (case side2 => exact HC0.out); rintro e w20 ⟨rfl, hb⟩; have n0_ := Aside0.mk (below_step (by repeat (with_reducible first | exact HB.out | apply below_alloc | apply pw_below_drewN | apply below_drew1)) hb); clear HB; have HB := n0_; clear n0_; (try clear hb); (try clear hb2); (try clear hk); (try clear hi))))
  go_ret2
  exact ⟨_, by first | rfl | (simp [errW_none, errW_some] <;> rfl) | (simp [*, errW_none, errW_some] <;> rfl), by first | exact Kd.R_nil _ _ _ _ _ | exact Kd.N_nil _ _ _ _ _ | exact Kd.V_nil _ _ _ _ _ | exact Kd.Q_nil _ _ _ _ _ | exact Kd.S_nil _ _ _ _ _, by repeat (with_reducible first | exact HB.out | apply below_alloc | apply pw_below_drewN | apply below_drew1)⟩

/-! ### mandate_more: function 31 -/
def mandate_more.f (a0 : Int) (a1 : Int) (a2 : Int) : Option (Bool) := if a0 > a1 then (some (decide ((IntKind.u64.wrap ((IntKind.u64.wrap (a0)) - (IntKind.u64.wrap (a1)))) > (IntKind.u64.wrap (a2))))) else (some false)
set_option maxHeartbeats 8000000 in
set_option maxRecDepth 100000 in
theorem mandate_more.calls (a0 : Int) (a1 : Int) (a2 : Int) (r : Bool) (w : World) (h : mandate_more.f a0 a1 a2 = some r) :
    Calls Try.prog 31 #[.int .i64 a0, .int .i64 a1, .int .i64 a2] w fun e w' => e = .returned (.bool r) ∧ Drawn0 w w' := by
  have H : (if a0 > a1 then (some (decide ((IntKind.u64.wrap ((IntKind.u64.wrap (a0)) - (IntKind.u64.wrap (a1)))) > (IntKind.u64.wrap (a2))))) else (some false)) = some r := h
  clear h
  by_cases c4 : a0 > a1
  · rw [if_pos c4] at H
    have c4b0 : decide (a1 < a0) = true := decide_eq_true c4
    clear c4
    obtain rfl := Option.some.inj H
    go_enter Try.func31, Try.ntmps31
    go_wp2
    go_ret
    exact ⟨by first | rfl | (simp; done) | (simp [*]; done), by repeat (first | exact Drawn0.refl _ | apply Drawn0.step)⟩
  · rw [if_neg c4] at H
    have c4b0 : decide (a1 < a0) = false := decide_eq_false c4
    clear c4
    obtain rfl := Option.some.inj H
    go_enter Try.func31, Try.ntmps31
    go_wp2
    go_ret
    exact ⟨by first | rfl | (simp; done) | (simp [*]; done), by repeat (first | exact Drawn0.refl _ | apply Drawn0.step)⟩

/-! ### mandate_Expired: function 20 -/
def mandate_Expired.f (a0_0 : Int) (a0_1 : Int) (a0_2 : Int) (a0_3 : Int) (a0_4 : Int) (a0_5 : Int) (a0_6 : ByteArray) (a1 : Int) : Option (Bool) := if a0_4 = 0 then ((mandate_more.f a1 a0_3 1096).bind fun t158 => (some t158)) else ((mandate_more.f a1 a0_4 1096).bind fun t159 => (some t159))
set_option maxHeartbeats 8000000 in
set_option maxRecDepth 100000 in
theorem mandate_Expired.calls (a0_0 : Int) (a0_1 : Int) (a0_2 : Int) (a0_3 : Int) (a0_4 : Int) (a0_5 : Int) (a0_6 : ByteArray) (a1 : Int) (r : Bool) (w : World) (h : mandate_Expired.f a0_0 a0_1 a0_2 a0_3 a0_4 a0_5 a0_6 a1 = some r) :
    Calls Try.prog 20 #[.agg #[.int .i64 a0_0, .int .i64 a0_1, .int .i64 a0_2, .int .i64 a0_3, .int .i64 a0_4, .int .i64 a0_5, .string a0_6], .int .i64 a1] w fun e w' => e = .returned (.bool r) ∧ Below w.heap.size w w' := by
  have hu28 := Try.underlying28
  have HB := Aside0.mk (Below.refl w.heap.size w)
  have H : (if a0_4 = 0 then ((mandate_more.f a1 a0_3 1096).bind fun t158 => (some t158)) else ((mandate_more.f a1 a0_4 1096).bind fun t159 => (some t159))) = some r := h
  clear h
  by_cases c3 : a0_4 = 0
  · rw [if_pos c3] at H
    have c3b0 : (a0_4 == 0) = true := beq_iff_eq.mpr c3
    have c3b1 : (a0_4 != 0) = false := bne_eq_false_iff_eq.mpr c3
    clear c3
    replace H := Option.bind_eq_some_iff.mp H
    obtain ⟨t158, A40, H⟩ := H
    replace H : (some t158) = some r := H
    have A4 := Aside0.mk A40
    clear A40
    obtain rfl := Option.some.inj H
    go_enter Try.func20, Try.ntmps20
    go_wp2_with (first | ((with_reducible refine gate_dst (N := 2) rfl ?_); refine box_event ?hg (N := 2) ?hd (cs := #[.int .i64 a0_0, .int .i64 a0_1, .int .i64 a0_2, .int .i64 a0_3, .int .i64 a0_4, .int .i64 a0_5, .string a0_6]) (t := 28) ?hr ?_; (case hd => rfl); (case hg => rfl); (case hr => first | (go_simp; done) | (go_simp; rfl)); intro gb157 hg w5 hbox hb; have n0_ := Aside0.mk (below_step (by repeat (first | (with_reducible first | exact HB.out | apply below_alloc | apply pw_below_drewN | apply below_drew1) | exact HB.out)) hb); have n1_ := Aside0.mk (hbox); have n2_ := Aside0.mk ((by rw [hg]; exact (below_size (by repeat (first | (with_reducible first | exact HB.out | apply below_alloc | apply pw_below_drewN | apply below_drew1) | exact HB.out))) : w.heap.size ≤ gb157)); have n3_ := Aside0.mk ((by rw [hg]; exact (below_size (by repeat (first | (with_reducible first | exact HB.out | apply below_alloc | apply pw_below_drewN | apply below_drew1) | exact HB.out))) : w.heap.size ≤ gb157)); clear HB; have HB := n0_; have BK157 := n1_; have GW157 := n2_; have GE157 := n3_; clear n0_ n1_ n2_ n3_; clear hb hbox hg; have hcz6 := blk_cell BK157.out; have hfz6 := blk_frozen BK157.out) | ((with_reducible refine gate_callee (f := 31) rfl ?_); refine goesL_ (some 14) rfl rfl Try.func31 (by kernel_rfl) rfl #[.int .i64 a1, .int .i64 a0_3, .int .i64 1096] rfl (by (try simp only [List.map_toArray, List.map_cons, List.map_nil]); first | done | rfl | (simp only [List.length_drop, List.length_take]; rfl)) ?_; (with_reducible refine (mandate_more.calls a1 a0_3 1096 t158 _ A4.out).mono ?_); rintro e w' ⟨rfl, ⟨nd, rfl⟩⟩; refine ⟨_, rfl, ?_⟩))
    go_ret
    exact ⟨by first | rfl | (simp [errW_none, errW_some] <;> rfl) | (simp [*, errW_none, errW_some] <;> rfl), by repeat (first | (with_reducible first | exact HB.out | apply below_alloc | apply pw_below_drewN | apply below_drew1 | refine below_set ?_ GE157.out) | exact HB.out)⟩
  · rw [if_neg c3] at H
    have c3b0 : (a0_4 == 0) = false := beq_eq_false_iff_ne.mpr c3
    have c3b1 : (a0_4 != 0) = true := bne_iff_ne.mpr c3
    replace H := Option.bind_eq_some_iff.mp H
    obtain ⟨t159, A70, H⟩ := H
    replace H : (some t159) = some r := H
    have A7 := Aside0.mk A70
    clear A70
    obtain rfl := Option.some.inj H
    go_enter Try.func20, Try.ntmps20
    go_wp2_with (first | ((with_reducible refine gate_dst (N := 2) rfl ?_); refine box_event ?hg (N := 2) ?hd (cs := #[.int .i64 a0_0, .int .i64 a0_1, .int .i64 a0_2, .int .i64 a0_3, .int .i64 a0_4, .int .i64 a0_5, .string a0_6]) (t := 28) ?hr ?_; (case hd => rfl); (case hg => rfl); (case hr => first | (go_simp; done) | (go_simp; rfl)); intro gb157 hg w8 hbox hb; have n0_ := Aside0.mk (below_step (by repeat (first | (with_reducible first | exact HB.out | apply below_alloc | apply pw_below_drewN | apply below_drew1) | exact HB.out)) hb); have n1_ := Aside0.mk (hbox); have n2_ := Aside0.mk ((by rw [hg]; exact (below_size (by repeat (first | (with_reducible first | exact HB.out | apply below_alloc | apply pw_below_drewN | apply below_drew1) | exact HB.out))) : w.heap.size ≤ gb157)); have n3_ := Aside0.mk ((by rw [hg]; exact (below_size (by repeat (first | (with_reducible first | exact HB.out | apply below_alloc | apply pw_below_drewN | apply below_drew1) | exact HB.out))) : w.heap.size ≤ gb157)); clear HB; have HB := n0_; have BK157 := n1_; have GW157 := n2_; have GE157 := n3_; clear n0_ n1_ n2_ n3_; clear hb hbox hg; have hcz9 := blk_cell BK157.out; have hfz9 := blk_frozen BK157.out) | ((with_reducible refine gate_callee (f := 31) rfl ?_); refine goesL_ (some 14) rfl rfl Try.func31 (by kernel_rfl) rfl #[.int .i64 a1, .int .i64 a0_4, .int .i64 1096] rfl (by (try simp only [List.map_toArray, List.map_cons, List.map_nil]); first | done | rfl | (simp only [List.length_drop, List.length_take]; rfl)) ?_; (with_reducible refine (mandate_more.calls a1 a0_4 1096 t159 _ A7.out).mono ?_); rintro e w' ⟨rfl, ⟨nd, rfl⟩⟩; refine ⟨_, rfl, ?_⟩))
    go_ret
    exact ⟨by first | rfl | (simp [errW_none, errW_some] <;> rfl) | (simp [*, errW_none, errW_some] <;> rfl), by repeat (first | (with_reducible first | exact HB.out | apply below_alloc | apply pw_below_drewN | apply below_drew1 | refine below_set ?_ GE157.out) | exact HB.out)⟩

end Go.Proofs.Ytfgcachcbhkkoaa.X
