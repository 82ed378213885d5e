-- Written by program (wip/tools/xprint.sh) for this seat; not trusted: Lean checks it.
import Derived.Test.YtfgcachcbhkkoaaX0
import Derived.Test.YtfgcachcbhkkoaaX9
import Derived.Test.YtfgcachcbhkkoaaX11
namespace Go.Proofs.Ytfgcachcbhkkoaa.X
open Go.RowKit Go.Proofs.YtfgcachcbhkkoaaW.PrintWords Go.Proofs.YtfgcachcbhkkoaaW.PrintLast Go.Proofs.YtfgcachcbhkkoaaW.PrintMore
attribute [local go_sem] max2_int min2_int max_two min_two max_three min_three max_four min_four   -- for this text's walks alone
set_option linter.unusedVariables false
set_option linter.unusedSimpArgs false

/-! ### mandate_Revoke: function 16 -/
def mandate_Revoke.f (k : Nat) (l0 : List (S28)) (a1 : Int) (a2 : Int) : Option ((List (S28)) × Int) := (mandate_find.f k l0 a1).bind fun bt141 => (if bt141.2 = true then (if 0 ≤ bt141.1 then (if bt141.1 < (l0.length : Int) then (if ((rd_T28 l0 bt141.1).f5) = 0 then (if a2 < 1 then (some (([] : List (S28)), 1)) else (if a2 > 73048 then (some (([] : List (S28)), 1)) else (if a2 < ((rd_T28 l0 bt141.1).f3) then (some (([] : List (S28)), 1)) else ((api_Mandate_28.f l0).bind fun t145 => (if bt141.1 < (t145.length : Int) then (some ((t145.set (bt141.1 : Int).toNat (⟨(rd_T28 t145 bt141.1).f0, (rd_T28 t145 bt141.1).f1, (rd_T28 t145 bt141.1).f2, (rd_T28 t145 bt141.1).f3, (rd_T28 t145 bt141.1).f4, a2, (rd_T28 t145 bt141.1).f6⟩ : S28)), 0)) else (none)))))) else (some (([] : List (S28)), 17))) else (none)) else (none)) else (some (([] : List (S28)), 11)))
theorem mandate_Revoke.mono : ∀ a0 a1 a2 k, LeO (mandate_Revoke.f k a0 a1 a2) (mandate_Revoke.f (k + 1) a0 a1 a2) := by
  intro a0 a1 a2 k
  unfold mandate_Revoke.f
  repeat' first
      | (with_reducible exact mandate_find.mono _ _ _)
      | (with_reducible exact LeO.refl _)
      | (with_reducible exact LeO.none _)
      | (with_reducible refine LeO.ite ?_ ?_)
      | (with_reducible refine LeO.bind ?_ (fun _ => ?_))
      | exact mandate_find.mono _ _ _
      | exact LeO.none _
      | refine LeO.ite ?_ ?_
      | refine LeO.bind ?_ (fun _ => ?_)
set_option maxHeartbeats 8000000 in
set_option maxRecDepth 100000 in
theorem mandate_Revoke.calls (k : Nat) (A0 : Option Addr) (c0 : Nat) (l0 : List (S28)) (a1 : Int) (a2 : Int) (r1 : List (S28)) (r2 : Int) (w : World) (hr0 : Kd.C k28 w A0 l0.length l0) (hc0 : l0.length ≤ c0) (h : mandate_Revoke.f k l0 a1 a2 = some (r1, r2)) :
  Calls Try.prog 16 #[.slice A0 l0.length c0, .int .i64 a1, .int .i64 a2] w fun e w' => ∃ v0_ : Value, e = .returned (.tuple #[v0_, .int .i64 r2]) ∧ Kd.R k28 28 w' w.heap.size (fun _ => True) v0_ r1 ∧ Below w.heap.size w w' := by
 have HR0 := Aside0.mk hr0
 have HC0 := Aside0.mk hc0
 clear hr0 hc0
 have HB := Aside0.mk (Below.refl w.heap.size w)
 have H : ((mandate_find.f k l0 a1).bind fun bt141 => (if bt141.2 = true then (if 0 ≤ bt141.1 then (if bt141.1 < (l0.length : Int) then (if ((rd_T28 l0 bt141.1).f5) = 0 then (if a2 < 1 then (some (([] : List (S28)), 1)) else (if a2 > 73048 then (some (([] : List (S28)), 1)) else (if a2 < ((rd_T28 l0 bt141.1).f3) then (some (([] : List (S28)), 1)) else ((api_Mandate_28.f l0).bind fun t145 => (if bt141.1 < (t145.length : Int) then (some ((t145.set (bt141.1 : Int).toNat (⟨(rd_T28 t145 bt141.1).f0, (rd_T28 t145 bt141.1).f1, (rd_T28 t145 bt141.1).f2, (rd_T28 t145 bt141.1).f3, (rd_T28 t145 bt141.1).f4, a2, (rd_T28 t145 bt141.1).f6⟩ : S28)), 0)) else (none)))))) else (some (([] : List (S28)), 17))) else (none)) else (none)) else (some (([] : List (S28)), 11)))) = some (r1, r2) := h
 clear h
 replace H := Option.bind_eq_some_iff.mp H
 obtain ⟨⟨t141, t142⟩, A40, H⟩ := H
 replace H : (if t142 = true then (if 0 ≤ t141 then (if t141 < (l0.length : Int) then (if ((rd_T28 l0 t141).f5) = 0 then (if a2 < 1 then (some (([] : List (S28)), 1)) else (if a2 > 73048 then (some (([] : List (S28)), 1)) else (if a2 < ((rd_T28 l0 t141).f3) then (some (([] : List (S28)), 1)) else ((api_Mandate_28.f l0).bind fun t145 => (if t141 < (t145.length : Int) then (some ((t145.set (t141 : Int).toNat (⟨(rd_T28 t145 t141).f0, (rd_T28 t145 t141).f1, (rd_T28 t145 t141).f2, (rd_T28 t145 t141).f3, (rd_T28 t145 t141).f4, a2, (rd_T28 t145 t141).f6⟩ : S28)), 0)) else (none)))))) else (some (([] : List (S28)), 17))) else (none)) else (none)) else (some (([] : List (S28)), 11))) = some (r1, r2) := H
 have A4 := Aside0.mk A40
 clear A40
 by_cases c5 : t142 = true
 ·subst c5
  have H1 : (if 0 ≤ t141 then (if t141 < (l0.length : Int) then (if ((rd_T28 l0 t141).f5) = 0 then (if a2 < 1 then (some (([] : List (S28)), 1)) else (if a2 > 73048 then (some (([] : List (S28)), 1)) else (if a2 < ((rd_T28 l0 t141).f3) then (some (([] : List (S28)), 1)) else ((api_Mandate_28.f l0).bind fun t145 => (if t141 < (t145.length : Int) then (some ((t145.set (t141 : Int).toNat (⟨(rd_T28 t145 t141).f0, (rd_T28 t145 t141).f1, (rd_T28 t145 t141).f2, (rd_T28 t145 t141).f3, (rd_T28 t145 t141).f4, a2, (rd_T28 t145 t141).f6⟩ : S28)), 0)) else (none)))))) else (some (([] : List (S28)), 17))) else (none)) else (none)) = some (r1, r2) := by rw [if_pos rfl] at H; exact H
  clear H
  have H := H1
  clear H1
  by_cases c6 : 0 ≤ t141
  ·rw [if_pos c6] at H
   have c6b0 : decide (0 ≤ t141) = true := decide_eq_true c6
   clear c6
   by_cases c7 : t141 < (l0.length : Int)
   ·rw [if_pos c7] at H
    have c7b0 : decide (t141 < (l0.length : Int)) = true := decide_eq_true c7
    clear c7
    by_cases c8 : ((rd_T28 l0 t141).f5) = 0
    ·rw [if_pos c8] at H
     have c8b0 : (((rd_T28 l0 t141).f5) == 0) = true := beq_iff_eq.mpr c8
     have c8b1 : (((rd_T28 l0 t141).f5) != 0) = false := bne_eq_false_iff_eq.mpr c8
     clear c8
     by_cases c9 : a2 < 1
     ·rw [if_pos c9] at H
      have c9b0 : decide (a2 < 1) = true := decide_eq_true c9
      clear c9
      simp only [Option.some.injEq, Prod.mk.injEq] at H
      obtain ⟨rfl, rfl⟩ := H
      go_enter Try.func16, Try.ntmps16
      go_wp2_with (first | ((with_reducible refine gate_callee (f := 29) rfl ?_); refine goesL_ (some 14) rfl rfl Try.func29 (by kernel_rfl) rfl #[.slice A0 l0.length c0, .int .i64 a1] rfl (by (try simp only [List.map_toArray, List.map_cons, List.map_nil]); first | done | rfl | (simp only [List.length_drop, List.length_take]; rfl)) ?_; (with_reducible refine (mandate_find.calls k _ _ l0 a1 t141 true _ ?side1 ?side2 A4.out).mono ?_); (case side1 => repeat (first | exact HR0.out | (with_reducible refine Kd.C_alloc ?_ _) | (with_reducible refine Kd.C_drewN ?_ _) | (with_reducible refine Kd.C_drew ?_))); (case side2 => exact HC0.out); rintro e w10 ⟨rfl, hb⟩; refine ⟨_, rfl, ?_⟩; have n0_ := Aside0.mk (below_step (by repeat (with_reducible first | exact HB.out | apply below_alloc | apply pw_below_drewN | apply below_drew1)) hb); clear HB; have HB := n0_; clear n0_; (try clear hb); (try clear hb2); (try clear hk); (try clear hi); have p143 : 0 ≤ (t141 : Int) := of_decide_eq_true (by assumption); have q143 : t141 < (l0.length : Int) := of_decide_eq_true (by assumption); obtain ⟨ad143, e143, hx143_0, hx143_1, hx143_2, hx143_3, hx143_4, hx143_5, hx143_6⟩ := at_T28 HR0.out t141 p143 q143; cases e143; replace hx143_0 := (HB.out.cell (World.block_lt_of_cell? w _ hx143_0)).trans hx143_0; replace hx143_1 := (HB.out.cell (World.block_lt_of_cell? w _ hx143_1)).trans hx143_1; replace hx143_2 := (HB.out.cell (World.block_lt_of_cell? w _ hx143_2)).trans hx143_2; replace hx143_3 := (HB.out.cell (World.block_lt_of_cell? w _ hx143_3)).trans hx143_3; replace hx143_4 := (HB.out.cell (World.block_lt_of_cell? w _ hx143_4)).trans hx143_4; replace hx143_5 := (HB.out.cell (World.block_lt_of_cell? w _ hx143_5)).trans hx143_5; replace hx143_6 := (HB.out.cell (World.block_lt_of_cell? w _ hx143_6)).trans hx143_6; replace p143 := eq_true p143; replace q143 := eq_true q143))
      go_ret2
      exact ⟨_, by first | rfl | (simp [errW_none, errW_some] <;> rfl) | (simp [*, errW_none, errW_some] <;> rfl), by first | exact Kd.R_nil _ _ _ _ _ | exact Kd.N_nil _ _ _ _ _ | exact Kd.V_nil _ _ _ _ _ | exact Kd.Q_nil _ _ _ _ _ | exact Kd.S_nil _ _ _ _ _, by repeat (with_reducible first | exact HB.out | apply below_alloc | apply pw_below_drewN | apply below_drew1)⟩
     ·rw [if_neg c9] at H
      have c9b0 : decide (a2 < 1) = false := decide_eq_false c9
      clear c9
      by_cases c11 : a2 > 73048
      ·rw [if_pos c11] at H
       have c11b0 : decide (73048 < a2) = true := decide_eq_true c11
       clear c11
       simp only [Option.some.injEq, Prod.mk.injEq] at H
       obtain ⟨rfl, rfl⟩ := H
       go_enter Try.func16, Try.ntmps16
       go_wp2_with (first | ((with_reducible refine gate_callee (f := 29) rfl ?_); refine goesL_ (some 14) rfl rfl Try.func29 (by kernel_rfl) rfl #[.slice A0 l0.length c0, .int .i64 a1] rfl (by (try simp only [List.map_toArray, List.map_cons, List.map_nil]); first | done | rfl | (simp only [List.length_drop, List.length_take]; rfl)) ?_; (with_reducible refine (mandate_find.calls k _ _ l0 a1 t141 true _ ?side1 ?side2 A4.out).mono ?_); (case side1 => repeat (first | exact HR0.out | (with_reducible refine Kd.C_alloc ?_ _) | (with_reducible refine Kd.C_drewN ?_ _) | (with_reducible refine Kd.C_drew ?_))); (case side2 => exact HC0.out); rintro e w12 ⟨rfl, hb⟩; refine ⟨_, rfl, ?_⟩; have n0_ := Aside0.mk (below_step (by repeat (with_reducible first | exact HB.out | apply below_alloc | apply pw_below_drewN | apply below_drew1)) hb); clear HB; have HB := n0_; clear n0_; (try clear hb); (try clear hb2); (try clear hk); (try clear hi); have p143 : 0 ≤ (t141 : Int) := of_decide_eq_true (by assumption); have q143 : t141 < (l0.length : Int) := of_decide_eq_true (by assumption); obtain ⟨ad143, e143, hx143_0, hx143_1, hx143_2, hx143_3, hx143_4, hx143_5, hx143_6⟩ := at_T28 HR0.out t141 p143 q143; cases e143; replace hx143_0 := (HB.out.cell (World.block_lt_of_cell? w _ hx143_0)).trans hx143_0; replace hx143_1 := (HB.out.cell (World.block_lt_of_cell? w _ hx143_1)).trans hx143_1; replace hx143_2 := (HB.out.cell (World.block_lt_of_cell? w _ hx143_2)).trans hx143_2; replace hx143_3 := (HB.out.cell (World.block_lt_of_cell? w _ hx143_3)).trans hx143_3; replace hx143_4 := (HB.out.cell (World.block_lt_of_cell? w _ hx143_4)).trans hx143_4; replace hx143_5 := (HB.out.cell (World.block_lt_of_cell? w _ hx143_5)).trans hx143_5; replace hx143_6 := (HB.out.cell (World.block_lt_of_cell? w _ hx143_6)).trans hx143_6; replace p143 := eq_true p143; replace q143 := eq_true q143))
       go_ret2
       exact ⟨_, by first | rfl | (simp [errW_none, errW_some] <;> rfl) | (simp [*, errW_none, errW_some] <;> rfl), by first | exact Kd.R_nil _ _ _ _ _ | exact Kd.N_nil _ _ _ _ _ | exact Kd.V_nil _ _ _ _ _ | exact Kd.Q_nil _ _ _ _ _ | exact Kd.S_nil _ _ _ _ _, by repeat (with_reducible first | exact HB.out | apply below_alloc | apply pw_below_drewN | apply below_drew1)⟩
      ·rw [if_neg c11] at H
       have c11b0 : decide (73048 < a2) = false := decide_eq_false c11
       clear c11
       by_cases c13 : a2 < ((rd_T28 l0 t141).f3)
       ·rw [if_pos c13] at H
        have c13b0 : decide (a2 < ((rd_T28 l0 t141).f3)) = true := decide_eq_true c13
        clear c13
        simp only [Option.some.injEq, Prod.mk.injEq] at H
        obtain ⟨rfl, rfl⟩ := H
        go_enter Try.func16, Try.ntmps16
        go_wp2_with (first | ((with_reducible refine gate_callee (f := 29) rfl ?_); refine goesL_ (some 14) rfl rfl Try.func29 (by kernel_rfl) rfl #[.slice A0 l0.length c0, .int .i64 a1] rfl (by (try simp only [List.map_toArray, List.map_cons, List.map_nil]); first | done | rfl | (simp only [List.length_drop, List.length_take]; rfl)) ?_; (with_reducible refine (mandate_find.calls k _ _ l0 a1 t141 true _ ?side1 ?side2 A4.out).mono ?_); (case side1 => repeat (first | exact HR0.out | (with_reducible refine Kd.C_alloc ?_ _) | (with_reducible refine Kd.C_drewN ?_ _) | (with_reducible refine Kd.C_drew ?_))); (case side2 => exact HC0.out); rintro e w14 ⟨rfl, hb⟩; refine ⟨_, rfl, ?_⟩; have n0_ := Aside0.mk (below_step (by repeat (with_reducible first | exact HB.out | apply below_alloc | apply pw_below_drewN | apply below_drew1)) hb); clear HB; have HB := n0_; clear n0_; (try clear hb); (try clear hb2); (try clear hk); (try clear hi); have p143 : 0 ≤ (t141 : Int) := of_decide_eq_true (by assumption); have q143 : t141 < (l0.length : Int) := of_decide_eq_true (by assumption); obtain ⟨ad143, e143, hx143_0, hx143_1, hx143_2, hx143_3, hx143_4, hx143_5, hx143_6⟩ := at_T28 HR0.out t141 p143 q143; cases e143; replace hx143_0 := (HB.out.cell (World.block_lt_of_cell? w _ hx143_0)).trans hx143_0; replace hx143_1 := (HB.out.cell (World.block_lt_of_cell? w _ hx143_1)).trans hx143_1; replace hx143_2 := (HB.out.cell (World.block_lt_of_cell? w _ hx143_2)).trans hx143_2; replace hx143_3 := (HB.out.cell (World.block_lt_of_cell? w _ hx143_3)).trans hx143_3; replace hx143_4 := (HB.out.cell (World.block_lt_of_cell? w _ hx143_4)).trans hx143_4; replace hx143_5 := (HB.out.cell (World.block_lt_of_cell? w _ hx143_5)).trans hx143_5; replace hx143_6 := (HB.out.cell (World.block_lt_of_cell? w _ hx143_6)).trans hx143_6; replace p143 := eq_true p143; replace q143 := eq_true q143; have p144 : 0 ≤ (t141 : Int) := of_decide_eq_true (by assumption); have q144 : t141 < (l0.length : Int) := of_decide_eq_true (by assumption); obtain ⟨ad144, e144, hx144_0, hx144_1, hx144_2, hx144_3, hx144_4, hx144_5, hx144_6⟩ := at_T28 HR0.out t141 p144 q144; obtain rfl : ad143 = ad144 := (by injection e144); replace hx144_0 := (HB.out.cell (World.block_lt_of_cell? w _ hx144_0)).trans hx144_0; replace hx144_1 := (HB.out.cell (World.block_lt_of_cell? w _ hx144_1)).trans hx144_1; replace hx144_2 := (HB.out.cell (World.block_lt_of_cell? w _ hx144_2)).trans hx144_2; replace hx144_3 := (HB.out.cell (World.block_lt_of_cell? w _ hx144_3)).trans hx144_3; replace hx144_4 := (HB.out.cell (World.block_lt_of_cell? w _ hx144_4)).trans hx144_4; replace hx144_5 := (HB.out.cell (World.block_lt_of_cell? w _ hx144_5)).trans hx144_5; replace hx144_6 := (HB.out.cell (World.block_lt_of_cell? w _ hx144_6)).trans hx144_6; replace p144 := eq_true p144; replace q144 := eq_true q144))
        go_ret2
        exact ⟨_, by first | rfl | (simp [errW_none, errW_some] <;> rfl) | (simp [*, errW_none, errW_some] <;> rfl), by first | exact Kd.R_nil _ _ _ _ _ | exact Kd.N_nil _ _ _ _ _ | exact Kd.V_nil _ _ _ _ _ | exact Kd.Q_nil _ _ _ _ _ | exact Kd.S_nil _ _ _ _ _, by repeat (with_reducible first | exact HB.out | apply below_alloc | apply pw_below_drewN | apply below_drew1)⟩
       ·rw [if_neg c13] at H
        have c13b0 : decide (a2 < ((rd_T28 l0 t141).f3)) = false := decide_eq_false c13
        clear c13
        replace H := Option.bind_eq_some_iff.mp H
        obtain ⟨t145, A150, H⟩ := H
        replace H : (if t141 < (t145.length : Int) then (some ((t145.set (t141 : Int).toNat (⟨(rd_T28 t145 t141).f0, (rd_T28 t145 t141).f1, (rd_T28 t145 t141).f2, (rd_T28 t145 t141).f3, (rd_T28 t145 t141).f4, a2, (rd_T28 t145 t141).f6⟩ : S28)), 0)) else (none)) = some (r1, r2) := H
        have A15 := Aside0.mk A150
        clear A150
        by_cases c16 : t141 < (t145.length : Int)
        ·rw [if_pos c16] at H
         have c16b0 : decide (t141 < (t145.length : Int)) = true := decide_eq_true c16
         clear c16
         obtain ⟨y148, hy148⟩ : ∃ y_ : List (S28), y_ = (t145.set (t141 : Int).toNat (⟨(rd_T28 t145 t141).f0, (rd_T28 t145 t141).f1, (rd_T28 t145 t141).f2, (rd_T28 t145 t141).f3, (rd_T28 t145 t141).f4, a2, (rd_T28 t145 t141).f6⟩ : S28)) := ⟨_, rfl⟩
         replace H : (some (y148, 0)) = some (r1, r2) := by first | (rw [hy148]; with_reducible exact H) | (have H2_ := (Option.bind_some _ _).symm.trans H; rw [hy148]; with_reducible exact H2_) | (have H2_ := (Option.bind_some _ _).symm.trans H; with_reducible exact H2_) | with_reducible exact H | (rw [hy148]; exact H) | exact H
         have Ny148 := Aside0.mk hy148
         clear hy148
         simp only [Option.some.injEq, Prod.mk.injEq] at H
         obtain ⟨rfl, rfl⟩ := H
         go_enter Try.func16, Try.ntmps16
         go_wp2_with (first | ((with_reducible refine gate_callee (f := 29) rfl ?_); refine goesL_ (some 14) rfl rfl Try.func29 (by kernel_rfl) rfl #[.slice A0 l0.length c0, .int .i64 a1] rfl (by (try simp only [List.map_toArray, List.map_cons, List.map_nil]); first | done | rfl | (simp only [List.length_drop, List.length_take]; rfl)) ?_; (with_reducible refine (mandate_find.calls k _ _ l0 a1 t141 true _ ?side1 ?side2 A4.out).mono ?_); (case side1 => repeat (first | exact HR0.out | (with_reducible refine Kd.C_alloc ?_ _) | (with_reducible refine Kd.C_drewN ?_ _) | (with_reducible refine Kd.C_drew ?_))); (case side2 => exact HC0.out); rintro e w18 ⟨rfl, hb⟩; refine ⟨_, rfl, ?_⟩; have n0_ := Aside0.mk (below_step (by repeat (with_reducible first | exact HB.out | apply below_alloc | apply pw_below_drewN | apply below_drew1)) hb); clear HB; have HB := n0_; clear n0_; (try clear hb); (try clear hb2); (try clear hk); (try clear hi); have p143 : 0 ≤ (t141 : Int) := of_decide_eq_true (by assumption); have q143 : t141 < (l0.length : Int) := of_decide_eq_true (by assumption); obtain ⟨ad143, e143, hx143_0, hx143_1, hx143_2, hx143_3, hx143_4, hx143_5, hx143_6⟩ := at_T28 HR0.out t141 p143 q143; cases e143; replace hx143_0 := (HB.out.cell (World.block_lt_of_cell? w _ hx143_0)).trans hx143_0; replace hx143_1 := (HB.out.cell (World.block_lt_of_cell? w _ hx143_1)).trans hx143_1; replace hx143_2 := (HB.out.cell (World.block_lt_of_cell? w _ hx143_2)).trans hx143_2; replace hx143_3 := (HB.out.cell (World.block_lt_of_cell? w _ hx143_3)).trans hx143_3; replace hx143_4 := (HB.out.cell (World.block_lt_of_cell? w _ hx143_4)).trans hx143_4; replace hx143_5 := (HB.out.cell (World.block_lt_of_cell? w _ hx143_5)).trans hx143_5; replace hx143_6 := (HB.out.cell (World.block_lt_of_cell? w _ hx143_6)).trans hx143_6; replace p143 := eq_true p143; replace q143 := eq_true q143; have p144 : 0 ≤ (t141 : Int) := of_decide_eq_true (by assumption); have q144 : t141 < (l0.length : Int) := of_decide_eq_true (by assumption); obtain ⟨ad144, e144, hx144_0, hx144_1, hx144_2, hx144_3, hx144_4, hx144_5, hx144_6⟩ := at_T28 HR0.out t141 p144 q144; obtain rfl : ad143 = ad144 := (by injection e144); replace hx144_0 := (HB.out.cell (World.block_lt_of_cell? w _ hx144_0)).trans hx144_0; replace hx144_1 := (HB.out.cell (World.block_lt_of_cell? w _ hx144_1)).trans hx144_1; replace hx144_2 := (HB.out.cell (World.block_lt_of_cell? w _ hx144_2)).trans hx144_2; replace hx144_3 := (HB.out.cell (World.block_lt_of_cell? w _ hx144_3)).trans hx144_3; replace hx144_4 := (HB.out.cell (World.block_lt_of_cell? w _ hx144_4)).trans hx144_4; replace hx144_5 := (HB.out.cell (World.block_lt_of_cell? w _ hx144_5)).trans hx144_5; replace hx144_6 := (HB.out.cell (World.block_lt_of_cell? w _ hx144_6)).trans hx144_6; replace p144 := eq_true p144; replace q144 := eq_true q144) | ((with_reducible refine gate_callee (f := 28) rfl ?_); refine goesL_ (some 44) rfl rfl Try.func28 (by kernel_rfl) rfl #[.slice (some ad143) l0.length c0] rfl (by (try simp only [List.map_toArray, List.map_cons, List.map_nil]); first | done | rfl | (simp only [List.length_drop, List.length_take]; rfl)) ?_; (with_reducible refine (api_Mandate_28.calls _ _ l0 t145 _ ?side1 ?side2 A15.out).mono ?_); (case side1 => repeat (first | exact (Kd.C_below HR0.out HB.out) | (with_reducible refine Kd.C_alloc ?_ _) | (with_reducible refine Kd.C_drewN ?_ _) | (with_reducible refine Kd.C_drew ?_))); (case side2 => exact HC0.out); rintro e w19 ⟨v146, rfl, ho0, hb⟩; refine ⟨_, rfl, ?_⟩; have n0_ := Aside0.mk (Kd.R_lower ho0 (below_size (by repeat (with_reducible first | exact HB.out | apply below_alloc | apply pw_below_drewN | apply below_drew1)))); have n1_ := Aside0.mk (below_step (by repeat (with_reducible first | exact HB.out | apply below_alloc | apply pw_below_drewN | apply below_drew1)) hb); clear HB; have HO147 := n0_; have HB := n1_; clear n0_ n1_; (try clear hb); (try clear hb2); (try clear hk); (try clear hi); (try clear ho0); have p17 : 0 ≤ (t141 : Int) := of_decide_eq_true (by assumption); have q17 : (t141 : Int) < ((t145.length : Int) : Int) := of_decide_eq_true (by assumption); obtain ⟨go17, co17, eo17, gb17, gl17, cl17, HG17⟩ := Kd.R_form HO147.out (by omega); (first | cases eo17 | (injection eo17 with ea_ en_ ec_; (first | subst ea_ | (injection ea_ with ea_; subst ea_)); subst ec_; clear en_)); have GB17 := Aside0.mk gb17; have GG17 := Aside0.mk HG17; clear gb17 gl17 HG17; obtain ⟨ce17, hcl17, hM17, hcc17, hfr17⟩ := Kd.R_elem HO147.out z28 (t141 : Int) p17 q17; obtain rfl := k28_openM hM17; have hx17_0 : w19.cell? ⟨go17, (t141 : Int).toNat * 7, none⟩ = some (.int .i64 ((rd_T28 t145 t141).f0)) := hcc17 0 _ rfl; have hx17_1 : w19.cell? ⟨go17, (t141 : Int).toNat * 7 + 1, none⟩ = some (.int .i64 ((rd_T28 t145 t141).f1)) := hcc17 1 _ rfl; have hx17_2 : w19.cell? ⟨go17, (t141 : Int).toNat * 7 + 2, none⟩ = some (.int .i64 ((rd_T28 t145 t141).f2)) := hcc17 2 _ rfl; have hx17_3 : w19.cell? ⟨go17, (t141 : Int).toNat * 7 + 3, none⟩ = some (.int .i64 ((rd_T28 t145 t141).f3)) := hcc17 3 _ rfl; have hx17_4 : w19.cell? ⟨go17, (t141 : Int).toNat * 7 + 4, none⟩ = some (.int .i64 ((rd_T28 t145 t141).f4)) := hcc17 4 _ rfl; have hx17_5 : w19.cell? ⟨go17, (t141 : Int).toNat * 7 + 5, none⟩ = some (.int .i64 ((rd_T28 t145 t141).f5)) := hcc17 5 _ rfl; have hx17_6 : w19.cell? ⟨go17, (t141 : Int).toNat * 7 + 6, none⟩ = some (.string ((rd_T28 t145 t141).f6)) := hcc17 6 _ rfl; have hf17_0 : w19.frozen? ⟨go17, (t141 : Int).toNat * 7, none⟩ = false := hfr17 0; have hf17_1 : w19.frozen? ⟨go17, (t141 : Int).toNat * 7 + 1, none⟩ = false := hfr17 1; have hf17_2 : w19.frozen? ⟨go17, (t141 : Int).toNat * 7 + 2, none⟩ = false := hfr17 2; have hf17_3 : w19.frozen? ⟨go17, (t141 : Int).toNat * 7 + 3, none⟩ = false := hfr17 3; have hf17_4 : w19.frozen? ⟨go17, (t141 : Int).toNat * 7 + 4, none⟩ = false := hfr17 4; have hf17_5 : w19.frozen? ⟨go17, (t141 : Int).toNat * 7 + 5, none⟩ = false := hfr17 5; have hf17_6 : w19.frozen? ⟨go17, (t141 : Int).toNat * 7 + 6, none⟩ = false := hfr17 6; clear hcl17 hcc17 hfr17 hM17; replace p17 := eq_true p17; replace q17 := eq_true q17; have HX20 := Aside0.mk (show Kd.R k28 28 w19 w.heap.size (fun _ => True) (.slice (some ⟨go17, 0, none⟩) t145.length co17) t145 from (by (with_reducible repeat (first | apply Kd.R_alloc | apply Kd.R_drewN | apply Kd.R_drew)); exact HO147.out)); obtain ⟨ce20, hcl20, hM20, hcc20, hfr20⟩ := Kd.R_elem HX20.out z28 (t141 : Int) (of_decide_eq_true (by assumption)) (by have h_ : (t141 : Int) < ((t145.length : Int) : Int) := of_decide_eq_true (by assumption); first | exact h_ | (have e_ := (Kd.R_reads' HO147.out).1; omega) | simpa using h_); obtain rfl := k28_openM hM20; have HP20 := Kd.R_seg HX20.out (t141 : Int) (of_decide_eq_true (by assumption)) (by have h_ : (t141 : Int) < ((t145.length : Int) : Int) := of_decide_eq_true (by assumption); first | exact h_ | (have e_ := (Kd.R_reads' HO147.out).1; omega) | simpa using h_) (seg := [.int .i64 a2]) (j := 5) hcl20 hcc20 (show 6 ≤ 7 from by decide) (x' := (⟨(rd_T28 t145 t141).f0, (rd_T28 t145 t141).f1, (rd_T28 t145 t141).f2, (rd_T28 t145 t141).f3, (rd_T28 t145 t141).f4, a2, (rd_T28 t145 t141).f6⟩ : S28)) (k28_mkM _ _ _ (⟨(rd_T28 t145 t141).f0, (rd_T28 t145 t141).f1, (rd_T28 t145 t141).f2, (rd_T28 t145 t141).f3, (rd_T28 t145 t141).f4, a2, (rd_T28 t145 t141).f6⟩ : S28) ) (fun _ hk => hk); have hx20_5 := hcc20 5 _ rfl; (try simp only [show (k28).sz = 7 from rfl, Nat.mul_one, Nat.add_zero] at hx20_5); have hf20_5 := hfr20 5; (try simp only [show (k28).sz = 7 from rfl, Nat.mul_one, Nat.add_zero] at hf20_5); clear hcl20 hcc20 hfr20 hM20) | ((with_reducible refine gate_store (t := 3) (p := 49) rfl ?_); refine store_event (t := 3) (p := 49) (v := ?vo_w21) (w1 := (w19.setCell ⟨go17, (t141 : Int).toNat * 7 + 5, none⟩ (.int .i64 a2))) ?hg ?ho ?hn ?hr ?_; (case ho => rfl); (case hg => rfl); (case hn => rfl); (case hr => first | (go_simp; done) | (go_simp; rfl)); intro w21 hw; have hg : w19.grownBy w21 (some go17) := (by rw [hw]; exact HP20.2); have hp_ : Kd.R k28 28 w21 w.heap.size (fun _ => True) (.slice (some ⟨go17, 0, none⟩) t145.length co17) y148 := (by rw [hw, Ny148.out]; exact HP20.1); clear HP20; have n0_ := Aside0.mk (hp_); have n1_ := Aside0.mk ((by rw [hw]; exact below_set (HB.out) GB17.out : Below w.heap.size w w21)); clear HO147; clear HB; have HO147 := n0_; have HB := n1_; clear n0_ n1_; clear hg hw hp_))
         go_ret2
         exact ⟨_, by first | rfl | (simp [errW_none, errW_some] <;> rfl) | (simp [*, errW_none, errW_some] <;> rfl), by (with_reducible repeat (first | apply Kd.R_alloc | apply Kd.R_drewN | apply Kd.R_drew)); exact HO147.out, by repeat (with_reducible first | exact HB.out | apply below_alloc | apply pw_below_drewN | apply below_drew1)⟩
        ·rw [if_neg c16] at H
         exact absurd H (by simp)
    ·rw [if_neg c8] at H
     have c8b0 : (((rd_T28 l0 t141).f5) == 0) = false := beq_eq_false_iff_ne.mpr c8
     have c8b1 : (((rd_T28 l0 t141).f5) != 0) = true := bne_iff_ne.mpr c8
     simp only [Option.some.injEq, Prod.mk.injEq] at H
     obtain ⟨rfl, rfl⟩ := H
     go_enter Try.func16, Try.ntmps16
     go_wp2_with (first | ((with_reducible refine gate_callee (f := 29) rfl ?_); refine goesL_ (some 14) rfl rfl Try.func29 (by kernel_rfl) rfl #[.slice A0 l0.length c0, .int .i64 a1] rfl (by (try simp only [List.map_toArray, List.map_cons, List.map_nil]); first | done | rfl | (simp only [List.length_drop, List.length_take]; rfl)) ?_; (with_reducible refine (mandate_find.calls k _ _ l0 a1 t141 true _ ?side1 ?side2 A4.out).mono ?_); (case side1 => repeat (first | exact HR0.out | (with_reducible refine Kd.C_alloc ?_ _) | (with_reducible refine Kd.C_drewN ?_ _) | (with_reducible refine Kd.C_drew ?_))); (case side2 => exact HC0.out); rintro e w22 ⟨rfl, hb⟩; refine ⟨_, rfl, ?_⟩; have n0_ := Aside0.mk (below_step (by repeat (with_reducible first | exact HB.out | apply below_alloc | apply pw_below_drewN | apply below_drew1)) hb); clear HB; have HB := n0_; clear n0_; (try clear hb); (try clear hb2); (try clear hk); (try clear hi); have p143 : 0 ≤ (t141 : Int) := of_decide_eq_true (by assumption); have q143 : t141 < (l0.length : Int) := of_decide_eq_true (by assumption); obtain ⟨ad143, e143, hx143_0, hx143_1, hx143_2, hx143_3, hx143_4, hx143_5, hx143_6⟩ := at_T28 HR0.out t141 p143 q143; cases e143; replace hx143_0 := (HB.out.cell (World.block_lt_of_cell? w _ hx143_0)).trans hx143_0; replace hx143_1 := (HB.out.cell (World.block_lt_of_cell? w _ hx143_1)).trans hx143_1; replace hx143_2 := (HB.out.cell (World.block_lt_of_cell? w _ hx143_2)).trans hx143_2; replace hx143_3 := (HB.out.cell (World.block_lt_of_cell? w _ hx143_3)).trans hx143_3; replace hx143_4 := (HB.out.cell (World.block_lt_of_cell? w _ hx143_4)).trans hx143_4; replace hx143_5 := (HB.out.cell (World.block_lt_of_cell? w _ hx143_5)).trans hx143_5; replace hx143_6 := (HB.out.cell (World.block_lt_of_cell? w _ hx143_6)).trans hx143_6; replace p143 := eq_true p143; replace q143 := eq_true q143))
     go_ret2
     exact ⟨_, by first | rfl | (simp [errW_none, errW_some] <;> rfl) | (simp [*, errW_none, errW_some] <;> rfl), by first | exact Kd.R_nil _ _ _ _ _ | exact Kd.N_nil _ _ _ _ _ | exact Kd.V_nil _ _ _ _ _ | exact Kd.Q_nil _ _ _ _ _ | exact Kd.S_nil _ _ _ _ _, by repeat (with_reducible first | exact HB.out | apply below_alloc | apply pw_below_drewN | apply below_drew1)⟩
   ·rw [if_neg c7] at H
    exact absurd H (by simp)
  ·rw [if_neg c6] at H
   exact absurd H (by simp)
 ·replace c5 := Bool.eq_false_iff.mpr c5
  subst c5
  have H1 : (some (([] : List (S28)), 11)) = some (r1, r2) := by rw [if_neg (show ¬ (false = true) by decide)] at H; exact H
  clear H
  have H := H1
  clear H1
  simp only [Option.some.injEq, Prod.mk.injEq] at H
  obtain ⟨rfl, rfl⟩ := H
  go_enter Try.func16, Try.ntmps16
  go_wp2_with (first | ((with_reducible refine gate_callee (f := 29) rfl ?_); refine goesL_ (some 14) rfl rfl Try.func29 (by kernel_rfl) rfl #[.slice A0 l0.length c0, .int .i64 a1] rfl (by (try simp only [List.map_toArray, List.map_cons, List.map_nil]); first | done | rfl | (simp only [List.length_drop, List.length_take]; rfl)) ?_; (with_reducible refine (mandate_find.calls k _ _ l0 a1 t141 false _ ?side1 ?side2 A4.out).mono ?_); (case side1 => repeat (first | exact HR0.out | (with_reducible refine Kd.C_alloc ?_ _) | (with_reducible refine Kd.C_drewN ?_ _) | (with_reducible refine Kd.C_drew ?_))); (case side2 => exact HC0.out); rintro e w23 ⟨rfl, hb⟩; refine ⟨_, rfl, ?_⟩; have n0_ := Aside0.mk (below_step (by repeat (with_reducible first | exact HB.out | apply below_alloc | apply pw_below_drewN | apply below_drew1)) hb); clear HB; have HB := n0_; clear n0_; (try clear hb); (try clear hb2); (try clear hk); (try clear hi)))
  go_ret2
  exact ⟨_, by first | rfl | (simp [errW_none, errW_some] <;> rfl) | (simp [*, errW_none, errW_some] <;> rfl), by first | exact Kd.R_nil _ _ _ _ _ | exact Kd.N_nil _ _ _ _ _ | exact Kd.V_nil _ _ _ _ _ | exact Kd.Q_nil _ _ _ _ _ | exact Kd.S_nil _ _ _ _ _, by repeat (with_reducible first | exact HB.out | apply below_alloc | apply pw_below_drewN | apply below_drew1)⟩

end Go.Proofs.Ytfgcachcbhkkoaa.X
