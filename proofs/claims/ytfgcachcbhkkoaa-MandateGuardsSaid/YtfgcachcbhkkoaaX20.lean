-- Written by program (wip/tools/xprint.sh) for this seat; not trusted: Lean checks it.
import Derived.Test.YtfgcachcbhkkoaaX0
namespace Go.Proofs.Ytfgcachcbhkkoaa.X
open Go.RowKit Go.Proofs.YtfgcachcbhkkoaaW.PrintWords Go.Proofs.YtfgcachcbhkkoaaW.PrintLast Go.Proofs.YtfgcachcbhkkoaaW.PrintMore
attribute [local go_sem] max2_int min2_int max_two min_two max_three min_three max_four min_four   -- for this text's walks alone
set_option linter.unusedVariables false
set_option linter.unusedSimpArgs false

/-! ### corebankref41_Place: function 30 -/
def corebankref41_Place.l0 : Nat → List (S28) → Int → Int → Option (Int)
  | 0, _, _, _ => none
  | k + 1, x0, x1, x5 => if x5 < (x0.length : Int) then (if 0 ≤ x5 then (if ((rd_T28 x0 x5).f0) = x1 then (some x5) else (corebankref41_Place.l0 k x0 x1 (wrap64 (x5 + 1)))) else (none)) else (some (-1))
def corebankref41_Place.f (k : Nat) (l0 : List (S28)) (a1 : Int) : Option (Int) := corebankref41_Place.l0 k l0 a1 0
theorem corebankref41_Place.mono_l : ∀ k, (∀ y0 y1 y2, LeO (corebankref41_Place.l0 k y0 y1 y2) (corebankref41_Place.l0 (k + 1) y0 y1 y2))
  | 0 => fun _ _ _ r h => by simp [corebankref41_Place.l0] at h
  | k + 1 => by
    have ih0 := corebankref41_Place.mono_l k
    · intro y0 y1 y2
      unfold corebankref41_Place.l0
      repeat' first
      | (with_reducible exact ih0 _ _ _)
      | (with_reducible exact LeO.refl _)
      | (with_reducible exact LeO.none _)
      | (with_reducible refine LeO.ite ?_ ?_)
      | (with_reducible refine LeO.bind ?_ (fun _ => ?_))
      | exact ih0 _ _ _
      | exact LeO.none _
      | refine LeO.ite ?_ ?_
      | refine LeO.bind ?_ (fun _ => ?_)
theorem corebankref41_Place.mono : ∀ a0 a1 k, LeO (corebankref41_Place.f k a0 a1) (corebankref41_Place.f (k + 1) a0 a1) := by
  intro a0 a1 k
  have ih0 := corebankref41_Place.mono_l k
  unfold corebankref41_Place.f
  repeat' first
      | (with_reducible exact ih0 _ _ _)
      | (with_reducible exact LeO.refl _)
      | (with_reducible exact LeO.none _)
      | (with_reducible refine LeO.ite ?_ ?_)
      | (with_reducible refine LeO.bind ?_ (fun _ => ?_))
      | exact ih0 _ _ _
      | exact LeO.none _
      | refine LeO.ite ?_ ?_
      | refine LeO.bind ?_ (fun _ => ?_)
set_option maxHeartbeats 8000000 in
set_option maxRecDepth 100000 in
theorem corebankref41_Place.calls (k : Nat) (A0 : Option Addr) (c0 : Nat) (l0 : List (S28)) (a1 : Int) (r : Int) (w : World) (hr0 : Kd.C k28 w A0 l0.length l0) (hc0 : l0.length ≤ c0) (h : corebankref41_Place.f k l0 a1 = some r) :
    Calls Try.prog 30 #[.slice A0 l0.length c0, .int .i64 a1] w fun e w' => e = .returned (.int .i64 r) ∧ Drawn0 w w' := by
  have HR0 := Aside0.mk hr0
  have HC0 := Aside0.mk hc0
  clear hr0 hc0
  have H : (corebankref41_Place.l0 k l0 a1 0) = some r := h
  clear h
  have H' := Aside0.mk H
  clear H
  go_enter Try.func30, Try.ntmps30
  go_wp2
  go_loopg [5] k (fun kq v5 w' => ∃ (x5_1 : Int), v5 = .int .i64 x5_1 ∧ Aside0 (corebankref41_Place.l0 kq l0 a1 x5_1 = some r) ∧ Aside0 (kq ≤ k) ∧ Drawn0 w w')
  case atStart => exact ⟨(0), (by first | rfl | (simp; done) | (simp [*]; done)), H', ⟨Nat.le_refl _⟩, by repeat (first | exact Drawn0.refl _ | apply Drawn0.step)⟩
  case round =>
    clear H'
    try clear p2
    obtain ⟨x5_1, rfl, HA, HK1, ⟨m1, rfl⟩⟩ := hrel
    cases gk with
    | zero => exact absurd HA.out (by simp [corebankref41_Place.l0])
    | succ k1 =>
      have H := HA.out
      clear HA
      simp only [corebankref41_Place.l0] at H
      by_cases c3 : x5_1 < (l0.length : Int)
      · rw [if_pos c3] at H
        have c3b0 : decide (x5_1 < (l0.length : Int)) = true := decide_eq_true c3
        clear c3
        by_cases c4 : 0 ≤ x5_1
        · rw [if_pos c4] at H
          have c4b0 : decide (0 ≤ x5_1) = true := decide_eq_true c4
          clear c4
          by_cases c5 : ((rd_T28 l0 x5_1).f0) = a1
          · rw [if_pos c5] at H
            have c5b0 : (((rd_T28 l0 x5_1).f0) == a1) = true := beq_iff_eq.mpr c5
            have c5b1 : (((rd_T28 l0 x5_1).f0) != a1) = false := bne_eq_false_iff_eq.mpr c5
            clear c5
            obtain rfl := Option.some.inj H
            have p229 : 0 ≤ (x5_1 : Int) := of_decide_eq_true (by first | (with_reducible assumption) | assumption)
            have q229 : x5_1 < (l0.length : Int) := of_decide_eq_true (by first | (with_reducible assumption) | assumption)
            obtain ⟨ad229, e229, hx229_0, hx229_1, hx229_2, hx229_3, hx229_4, hx229_5, hx229_6⟩ := at_T28 HR0.out x5_1 p229 q229
            cases e229
            replace p229 := eq_true p229
            replace q229 := eq_true q229
            go_wp2
            go_ret
            exact ⟨by first | rfl | (simp; done) | (simp [*]; done), by repeat (first | exact Drawn0.refl _ | apply Drawn0.step)⟩
          · rw [if_neg c5] at H
            have c5b0 : (((rd_T28 l0 x5_1).f0) == a1) = false := beq_eq_false_iff_ne.mpr c5
            have c5b1 : (((rd_T28 l0 x5_1).f0) != a1) = true := bne_iff_ne.mpr c5
            have H' := Aside0.mk H
            clear H
            have p229 : 0 ≤ (x5_1 : Int) := of_decide_eq_true (by first | (with_reducible assumption) | assumption)
            have q229 : x5_1 < (l0.length : Int) := of_decide_eq_true (by first | (with_reducible assumption) | assumption)
            obtain ⟨ad229, e229, hx229_0, hx229_1, hx229_2, hx229_3, hx229_4, hx229_5, hx229_6⟩ := at_T28 HR0.out x5_1 p229 q229
            cases e229
            replace p229 := eq_true p229
            replace q229 := eq_true q229
            go_wp2
            go_roundg k1
            case measure => have := HK1.out; omega
            case rel => exact ⟨(wrap64 (x5_1 + 1)), (by first | rfl | (simp; done) | (simp [*]; done)), H', ⟨by have := HK1.out; omega⟩, by repeat (first | exact Drawn0.refl _ | apply Drawn0.step)⟩
        · rw [if_neg c4] at H
          exact absurd H (by simp)
      · rw [if_neg c3] at H
        have c3b0 : decide (x5_1 < (l0.length : Int)) = false := decide_eq_false c3
        clear c3
        obtain rfl := Option.some.inj H
        go_wp2
        go_ret
        exact ⟨by first | rfl | (simp; done) | (simp [*]; done), by repeat (first | exact Drawn0.refl _ | apply Drawn0.step)⟩

/-! ### corebankref41_Revoke: function 17 -/
def corebankref41_Revoke.f (k : Nat) (l0 : List (S28)) (a1 : Int) (a2 : Int) : Option ((List (S28)) × Int) := (corebankref41_Place.f k l0 a1).bind fun t230 => (if t230 < 0 then (some (([] : List (S28)), 11)) else (if 0 ≤ t230 then (if t230 < (l0.length : Int) then (if ((rd_T28 l0 t230).f5) = 0 then (if a2 < 1 then (some (([] : List (S28)), 1)) else (if a2 > 73048 then (some (([] : List (S28)), 1)) else (if a2 < ((rd_T28 l0 t230).f3) then (some (([] : List (S28)), 1)) else ((some (([] : List (S28)) : List (S28))).bind fun y233 => (if y233.length + l0.length < 2199023255552 then ((some (y233 ++ l0 : List (S28))).bind fun y236 => (if t230 < (y236.length : Int) then (some ((y236.set (t230 : Int).toNat (⟨(rd_T28 y236 t230).f0, (rd_T28 y236 t230).f1, (rd_T28 y236 t230).f2, (rd_T28 y236 t230).f3, (rd_T28 y236 t230).f4, a2, (rd_T28 y236 t230).f6⟩ : S28)), 0)) else (none))) else (none)))))) else (some (([] : List (S28)), 17))) else (none)) else (none)))
theorem corebankref41_Revoke.mono : ∀ a0 a1 a2 k, LeO (corebankref41_Revoke.f k a0 a1 a2) (corebankref41_Revoke.f (k + 1) a0 a1 a2) := by
  intro a0 a1 a2 k
  unfold corebankref41_Revoke.f
  repeat' first
      | (with_reducible exact corebankref41_Place.mono _ _ _)
      | (with_reducible exact LeO.refl _)
      | (with_reducible exact LeO.none _)
      | (with_reducible refine LeO.ite ?_ ?_)
      | (with_reducible refine LeO.bind ?_ (fun _ => ?_))
      | exact corebankref41_Place.mono _ _ _
      | exact LeO.none _
      | refine LeO.ite ?_ ?_
      | refine LeO.bind ?_ (fun _ => ?_)
set_option maxHeartbeats 8000000 in
set_option maxRecDepth 100000 in
theorem corebankref41_Revoke.calls (k : Nat) (A0 : Option Addr) (c0 : Nat) (l0 : List (S28)) (a1 : Int) (a2 : Int) (r1 : List (S28)) (r2 : Int) (w : World) (hr0 : Kd.C k28 w A0 l0.length l0) (hc0 : l0.length ≤ c0) (h : corebankref41_Revoke.f k l0 a1 a2 = some (r1, r2)) :
  Calls Try.prog 17 #[.slice A0 l0.length c0, .int .i64 a1, .int .i64 a2] w fun e w' => ∃ v0_ : Value, e = .returned (.tuple #[v0_, .int .i64 r2]) ∧ Kd.R k28 28 w' w.heap.size (fun _ => True) v0_ r1 ∧ Below w.heap.size w w' := by
 have HR0 := Aside0.mk hr0
 have HC0 := Aside0.mk hc0
 clear hr0 hc0
 have HB := Aside0.mk (Below.refl w.heap.size w)
 have H : ((corebankref41_Place.f k l0 a1).bind fun t230 => (if t230 < 0 then (some (([] : List (S28)), 11)) else (if 0 ≤ t230 then (if t230 < (l0.length : Int) then (if ((rd_T28 l0 t230).f5) = 0 then (if a2 < 1 then (some (([] : List (S28)), 1)) else (if a2 > 73048 then (some (([] : List (S28)), 1)) else (if a2 < ((rd_T28 l0 t230).f3) then (some (([] : List (S28)), 1)) else ((some (([] : List (S28)) : List (S28))).bind fun y233 => (if y233.length + l0.length < 2199023255552 then ((some (y233 ++ l0 : List (S28))).bind fun y236 => (if t230 < (y236.length : Int) then (some ((y236.set (t230 : Int).toNat (⟨(rd_T28 y236 t230).f0, (rd_T28 y236 t230).f1, (rd_T28 y236 t230).f2, (rd_T28 y236 t230).f3, (rd_T28 y236 t230).f4, a2, (rd_T28 y236 t230).f6⟩ : S28)), 0)) else (none))) else (none)))))) else (some (([] : List (S28)), 17))) else (none)) else (none)))) = some (r1, r2) := h
 clear h
 replace H := Option.bind_eq_some_iff.mp H
 obtain ⟨t230, A40, H⟩ := H
 replace H : (if t230 < 0 then (some (([] : List (S28)), 11)) else (if 0 ≤ t230 then (if t230 < (l0.length : Int) then (if ((rd_T28 l0 t230).f5) = 0 then (if a2 < 1 then (some (([] : List (S28)), 1)) else (if a2 > 73048 then (some (([] : List (S28)), 1)) else (if a2 < ((rd_T28 l0 t230).f3) then (some (([] : List (S28)), 1)) else ((some (([] : List (S28)) : List (S28))).bind fun y233 => (if y233.length + l0.length < 2199023255552 then ((some (y233 ++ l0 : List (S28))).bind fun y236 => (if t230 < (y236.length : Int) then (some ((y236.set (t230 : Int).toNat (⟨(rd_T28 y236 t230).f0, (rd_T28 y236 t230).f1, (rd_T28 y236 t230).f2, (rd_T28 y236 t230).f3, (rd_T28 y236 t230).f4, a2, (rd_T28 y236 t230).f6⟩ : S28)), 0)) else (none))) else (none)))))) else (some (([] : List (S28)), 17))) else (none)) else (none))) = some (r1, r2) := H
 have A4 := Aside0.mk A40
 clear A40
 by_cases c5 : t230 < 0
 ·rw [if_pos c5] at H
  have c5b0 : decide (t230 < 0) = true := decide_eq_true c5
  clear c5
  simp only [Option.some.injEq, Prod.mk.injEq] at H
  obtain ⟨rfl, rfl⟩ := H
  go_enter Try.func17, Try.ntmps17
  go_wp2_with (first | ((with_reducible refine gate_callee (f := 30) rfl ?_); refine goesL_ (some 12) rfl rfl Try.func30 (by kernel_rfl) rfl #[.slice A0 l0.length c0, .int .i64 a1] rfl (by (try simp only [List.map_toArray, List.map_cons, List.map_nil]); first | done | rfl | (simp only [List.length_drop, List.length_take]; rfl)) ?_; (with_reducible refine (corebankref41_Place.calls k _ _ l0 a1 t230 _ ?side1 ?side2 A4.out).mono ?_); (case side1 => repeat (first | exact HR0.out | (with_reducible refine Kd.C_alloc ?_ _) | (with_reducible refine Kd.C_drewN ?_ _) | (with_reducible refine Kd.C_drew ?_))); (case side2 => exact HC0.out); rintro e w' ⟨rfl, ⟨nd, rfl⟩⟩; refine ⟨_, rfl, ?_⟩))
  go_ret2
  exact ⟨_, by first | rfl | (simp [errW_none, errW_some] <;> rfl) | (simp [*, errW_none, errW_some] <;> rfl), by first | exact Kd.R_nil _ _ _ _ _ | exact Kd.N_nil _ _ _ _ _ | exact Kd.V_nil _ _ _ _ _ | exact Kd.Q_nil _ _ _ _ _ | exact Kd.S_nil _ _ _ _ _, by repeat (with_reducible first | exact HB.out | apply below_alloc | apply pw_below_drewN | apply below_drew1)⟩
 ·rw [if_neg c5] at H
  have c5b0 : decide (t230 < 0) = false := decide_eq_false c5
  clear c5
  by_cases c6 : 0 ≤ t230
  ·rw [if_pos c6] at H
   have c6b0 : decide (0 ≤ t230) = true := decide_eq_true c6
   clear c6
   by_cases c7 : t230 < (l0.length : Int)
   ·rw [if_pos c7] at H
    have c7b0 : decide (t230 < (l0.length : Int)) = true := decide_eq_true c7
    clear c7
    by_cases c8 : ((rd_T28 l0 t230).f5) = 0
    ·rw [if_pos c8] at H
     have c8b0 : (((rd_T28 l0 t230).f5) == 0) = true := beq_iff_eq.mpr c8
     have c8b1 : (((rd_T28 l0 t230).f5) != 0) = false := bne_eq_false_iff_eq.mpr c8
     clear c8
     by_cases c9 : a2 < 1
     ·rw [if_pos c9] at H
      have c9b0 : decide (a2 < 1) = true := decide_eq_true c9
      clear c9
      simp only [Option.some.injEq, Prod.mk.injEq] at H
      obtain ⟨rfl, rfl⟩ := H
      go_enter Try.func17, Try.ntmps17
      go_wp2_with (first | ((with_reducible refine gate_callee (f := 30) rfl ?_); refine goesL_ (some 12) rfl rfl Try.func30 (by kernel_rfl) rfl #[.slice A0 l0.length c0, .int .i64 a1] rfl (by (try simp only [List.map_toArray, List.map_cons, List.map_nil]); first | done | rfl | (simp only [List.length_drop, List.length_take]; rfl)) ?_; (with_reducible refine (corebankref41_Place.calls k _ _ l0 a1 t230 _ ?side1 ?side2 A4.out).mono ?_); (case side1 => repeat (first | exact HR0.out | (with_reducible refine Kd.C_alloc ?_ _) | (with_reducible refine Kd.C_drewN ?_ _) | (with_reducible refine Kd.C_drew ?_))); (case side2 => exact HC0.out); rintro e w' ⟨rfl, ⟨nd, rfl⟩⟩; refine ⟨_, rfl, ?_⟩; have p231 : 0 ≤ (t230 : Int) := of_decide_eq_true (by assumption); have q231 : t230 < (l0.length : Int) := of_decide_eq_true (by assumption); obtain ⟨ad231, e231, hx231_0, hx231_1, hx231_2, hx231_3, hx231_4, hx231_5, hx231_6⟩ := at_T28 HR0.out t230 p231 q231; cases e231; replace p231 := eq_true p231; replace q231 := eq_true q231))
      go_ret2
      exact ⟨_, by first | rfl | (simp [errW_none, errW_some] <;> rfl) | (simp [*, errW_none, errW_some] <;> rfl), by first | exact Kd.R_nil _ _ _ _ _ | exact Kd.N_nil _ _ _ _ _ | exact Kd.V_nil _ _ _ _ _ | exact Kd.Q_nil _ _ _ _ _ | exact Kd.S_nil _ _ _ _ _, by repeat (with_reducible first | exact HB.out | apply below_alloc | apply pw_below_drewN | apply below_drew1)⟩
     ·rw [if_neg c9] at H
      have c9b0 : decide (a2 < 1) = false := decide_eq_false c9
      clear c9
      by_cases c10 : a2 > 73048
      ·rw [if_pos c10] at H
       have c10b0 : decide (73048 < a2) = true := decide_eq_true c10
       clear c10
       simp only [Option.some.injEq, Prod.mk.injEq] at H
       obtain ⟨rfl, rfl⟩ := H
       go_enter Try.func17, Try.ntmps17
       go_wp2_with (first | ((with_reducible refine gate_callee (f := 30) rfl ?_); refine goesL_ (some 12) rfl rfl Try.func30 (by kernel_rfl) rfl #[.slice A0 l0.length c0, .int .i64 a1] rfl (by (try simp only [List.map_toArray, List.map_cons, List.map_nil]); first | done | rfl | (simp only [List.length_drop, List.length_take]; rfl)) ?_; (with_reducible refine (corebankref41_Place.calls k _ _ l0 a1 t230 _ ?side1 ?side2 A4.out).mono ?_); (case side1 => repeat (first | exact HR0.out | (with_reducible refine Kd.C_alloc ?_ _) | (with_reducible refine Kd.C_drewN ?_ _) | (with_reducible refine Kd.C_drew ?_))); (case side2 => exact HC0.out); rintro e w' ⟨rfl, ⟨nd, rfl⟩⟩; refine ⟨_, rfl, ?_⟩; have p231 : 0 ≤ (t230 : Int) := of_decide_eq_true (by assumption); have q231 : t230 < (l0.length : Int) := of_decide_eq_true (by assumption); obtain ⟨ad231, e231, hx231_0, hx231_1, hx231_2, hx231_3, hx231_4, hx231_5, hx231_6⟩ := at_T28 HR0.out t230 p231 q231; cases e231; replace p231 := eq_true p231; replace q231 := eq_true q231))
       go_ret2
       exact ⟨_, by first | rfl | (simp [errW_none, errW_some] <;> rfl) | (simp [*, errW_none, errW_some] <;> rfl), by first | exact Kd.R_nil _ _ _ _ _ | exact Kd.N_nil _ _ _ _ _ | exact Kd.V_nil _ _ _ _ _ | exact Kd.Q_nil _ _ _ _ _ | exact Kd.S_nil _ _ _ _ _, by repeat (with_reducible first | exact HB.out | apply below_alloc | apply pw_below_drewN | apply below_drew1)⟩
      ·rw [if_neg c10] at H
       have c10b0 : decide (73048 < a2) = false := decide_eq_false c10
       clear c10
       by_cases c11 : a2 < ((rd_T28 l0 t230).f3)
       ·rw [if_pos c11] at H
        have c11b0 : decide (a2 < ((rd_T28 l0 t230).f3)) = true := decide_eq_true c11
        clear c11
        simp only [Option.some.injEq, Prod.mk.injEq] at H
        obtain ⟨rfl, rfl⟩ := H
        go_enter Try.func17, Try.ntmps17
        go_wp2_with (first | ((with_reducible refine gate_callee (f := 30) rfl ?_); refine goesL_ (some 12) rfl rfl Try.func30 (by kernel_rfl) rfl #[.slice A0 l0.length c0, .int .i64 a1] rfl (by (try simp only [List.map_toArray, List.map_cons, List.map_nil]); first | done | rfl | (simp only [List.length_drop, List.length_take]; rfl)) ?_; (with_reducible refine (corebankref41_Place.calls k _ _ l0 a1 t230 _ ?side1 ?side2 A4.out).mono ?_); (case side1 => repeat (first | exact HR0.out | (with_reducible refine Kd.C_alloc ?_ _) | (with_reducible refine Kd.C_drewN ?_ _) | (with_reducible refine Kd.C_drew ?_))); (case side2 => exact HC0.out); rintro e w' ⟨rfl, ⟨nd, rfl⟩⟩; refine ⟨_, rfl, ?_⟩; have p231 : 0 ≤ (t230 : Int) := of_decide_eq_true (by assumption); have q231 : t230 < (l0.length : Int) := of_decide_eq_true (by assumption); obtain ⟨ad231, e231, hx231_0, hx231_1, hx231_2, hx231_3, hx231_4, hx231_5, hx231_6⟩ := at_T28 HR0.out t230 p231 q231; cases e231; replace p231 := eq_true p231; replace q231 := eq_true q231; have p232 : 0 ≤ (t230 : Int) := of_decide_eq_true (by assumption); have q232 : t230 < (l0.length : Int) := of_decide_eq_true (by assumption); obtain ⟨ad232, e232, hx232_0, hx232_1, hx232_2, hx232_3, hx232_4, hx232_5, hx232_6⟩ := at_T28 HR0.out t230 p232 q232; obtain rfl : ad231 = ad232 := (by injection e232); replace p232 := eq_true p232; replace q232 := eq_true q232))
        go_ret2
        exact ⟨_, by first | rfl | (simp [errW_none, errW_some] <;> rfl) | (simp [*, errW_none, errW_some] <;> rfl), by first | exact Kd.R_nil _ _ _ _ _ | exact Kd.N_nil _ _ _ _ _ | exact Kd.V_nil _ _ _ _ _ | exact Kd.Q_nil _ _ _ _ _ | exact Kd.S_nil _ _ _ _ _, by repeat (with_reducible first | exact HB.out | apply below_alloc | apply pw_below_drewN | apply below_drew1)⟩
       ·rw [if_neg c11] at H
        have c11b0 : decide (a2 < ((rd_T28 l0 t230).f3)) = false := decide_eq_false c11
        clear c11
        obtain ⟨y233, hy233⟩ : ∃ y_ : List (S28), y_ = (([] : List (S28))) := ⟨_, rfl⟩
        replace H : (if y233.length + l0.length < 2199023255552 then ((some (y233 ++ l0 : List (S28))).bind fun y236 => (if t230 < (y236.length : Int) then (some ((y236.set (t230 : Int).toNat (⟨(rd_T28 y236 t230).f0, (rd_T28 y236 t230).f1, (rd_T28 y236 t230).f2, (rd_T28 y236 t230).f3, (rd_T28 y236 t230).f4, a2, (rd_T28 y236 t230).f6⟩ : S28)), 0)) else (none))) else (none)) = some (r1, r2) := by first | (rw [hy233]; with_reducible exact H) | (have H2_ := (Option.bind_some _ _).symm.trans H; rw [hy233]; with_reducible exact H2_) | (have H2_ := (Option.bind_some _ _).symm.trans H; with_reducible exact H2_) | with_reducible exact H | (rw [hy233]; exact H) | exact H
        have Ny233 := Aside0.mk hy233
        clear hy233
        by_cases c12 : y233.length + l0.length < 2199023255552
        ·rw [if_pos c12] at H
         have LMc12 := Aside0.mk c12
         clear c12
         obtain ⟨y236, hy236⟩ : ∃ y_ : List (S28), y_ = (y233 ++ l0) := ⟨_, rfl⟩
         replace H : (if t230 < (y236.length : Int) then (some ((y236.set (t230 : Int).toNat (⟨(rd_T28 y236 t230).f0, (rd_T28 y236 t230).f1, (rd_T28 y236 t230).f2, (rd_T28 y236 t230).f3, (rd_T28 y236 t230).f4, a2, (rd_T28 y236 t230).f6⟩ : S28)), 0)) else (none)) = some (r1, r2) := by first | (rw [hy236]; with_reducible exact H) | (have H2_ := (Option.bind_some _ _).symm.trans H; rw [hy236]; with_reducible exact H2_) | (have H2_ := (Option.bind_some _ _).symm.trans H; with_reducible exact H2_) | with_reducible exact H | (rw [hy236]; exact H) | exact H
         have Ny236 := Aside0.mk hy236
         clear hy236
         by_cases c13 : t230 < (y236.length : Int)
         ·rw [if_pos c13] at H
          have c13b0 : decide (t230 < (y236.length : Int)) = true := decide_eq_true c13
          clear c13
          obtain ⟨y239, hy239⟩ : ∃ y_ : List (S28), y_ = (y236.set (t230 : Int).toNat (⟨(rd_T28 y236 t230).f0, (rd_T28 y236 t230).f1, (rd_T28 y236 t230).f2, (rd_T28 y236 t230).f3, (rd_T28 y236 t230).f4, a2, (rd_T28 y236 t230).f6⟩ : S28)) := ⟨_, rfl⟩
          replace H : (some (y239, 0)) = some (r1, r2) := by first | (rw [hy239]; with_reducible exact H) | (have H2_ := (Option.bind_some _ _).symm.trans H; rw [hy239]; with_reducible exact H2_) | (have H2_ := (Option.bind_some _ _).symm.trans H; with_reducible exact H2_) | with_reducible exact H | (rw [hy239]; exact H) | exact H
          have Ny239 := Aside0.mk hy239
          clear hy239
          simp only [Option.some.injEq, Prod.mk.injEq] at H
          obtain ⟨rfl, rfl⟩ := H
          go_enter Try.func17, Try.ntmps17
          go_wp2_with (first | ((with_reducible refine gate_callee (f := 30) rfl ?_); refine goesL_ (some 12) rfl rfl Try.func30 (by kernel_rfl) rfl #[.slice A0 l0.length c0, .int .i64 a1] rfl (by (try simp only [List.map_toArray, List.map_cons, List.map_nil]); first | done | rfl | (simp only [List.length_drop, List.length_take]; rfl)) ?_; (with_reducible refine (corebankref41_Place.calls k _ _ l0 a1 t230 _ ?side1 ?side2 A4.out).mono ?_); (case side1 => repeat (first | exact HR0.out | (with_reducible refine Kd.C_alloc ?_ _) | (with_reducible refine Kd.C_drewN ?_ _) | (with_reducible refine Kd.C_drew ?_))); (case side2 => exact HC0.out); rintro e w' ⟨rfl, ⟨nd, rfl⟩⟩; refine ⟨_, rfl, ?_⟩; have p231 : 0 ≤ (t230 : Int) := of_decide_eq_true (by assumption); have q231 : t230 < (l0.length : Int) := of_decide_eq_true (by assumption); obtain ⟨ad231, e231, hx231_0, hx231_1, hx231_2, hx231_3, hx231_4, hx231_5, hx231_6⟩ := at_T28 HR0.out t230 p231 q231; cases e231; replace p231 := eq_true p231; replace q231 := eq_true q231; have p232 : 0 ≤ (t230 : Int) := of_decide_eq_true (by assumption); have q232 : t230 < (l0.length : Int) := of_decide_eq_true (by assumption); obtain ⟨ad232, e232, hx232_0, hx232_1, hx232_2, hx232_3, hx232_4, hx232_5, hx232_6⟩ := at_T28 HR0.out t230 p232 q232; obtain rfl : ad231 = ad232 := (by injection e232); replace p232 := eq_true p232; replace q232 := eq_true q232) | ((with_reducible refine gate_dst (N := 36) rfl ?_); refine Kd.R_lit k28 _ 28 ?hg (N := 36) ?hd (xs := ([] : List (S28))) (inner := []) (ok := fun _ => True) (okp := fun _ => True) ?hr ?hp (fun _ hk => hk) trivial (Below.refl _ _) (Nat.le_refl _) (by simp) ?_; (case hd => rfl); (case hg => rfl); (case hr => first | (go_simp; done) | (go_simp; rfl)); (case hp => exact (Reps.none _ _)); intro v234 w15 ho16 hb hg_ hnew_; clear hg_ hnew_; (first | rw [← Ny233.out] at ho16 | (simp only [Int.reduceToNat] at ho16; rw [← Ny233.out] at ho16)); have n0_ := Aside0.mk (Kd.R_lower ho16 (below_size (by repeat (with_reducible first | exact HB.out | apply below_alloc | apply pw_below_drewN | apply below_drew1)))); have n1_ := Aside0.mk (below_step (by repeat (with_reducible first | exact HB.out | apply below_alloc | apply pw_below_drewN | apply below_drew1)) hb); clear HB; have HO235 := n0_; have HB := n1_; clear n0_ n1_; clear hb ho16) | ((with_reducible refine gate_builtin (b := .append) (xs := #[.tmp 36, .tmp 37]) rfl ?_); at_builtin; refine Kd.R_append_rows k28 (w0 := w) w.heap.size rfl (.tmp 36) (.tmp 37) 22 28 (.agg #[(.int .i64 0), (.int .i64 0), (.int .i64 0), (.int .i64 0), (.int .i64 0), (.int .i64 0), (.string ⟨#[]⟩)]) 64 rfl Try.underlying22 info28 rfl (by decide) (by omega) v234 y233 l0 _ _ _ (fun _ => True) (fun _ => False) rfl rfl ?aO ?aR (fun _ _ h => h) (fun _ h => h.elim) ?aF ?aB ?aS ?aL ?_; (case aR => repeat (first | exact (Kd.C_below HR0.out HB.out) | (with_reducible refine Kd.C_alloc ?_ _) | (with_reducible refine Kd.C_drewN ?_ _) | (with_reducible refine Kd.C_drew ?_))); (case aB => exact (by repeat (with_reducible first | exact HB.out | apply below_alloc | apply pw_below_drewN | apply below_drew1))); (case aF => exact (fun _ _ => trivial)); (case aO => exact (by (with_reducible repeat (first | apply Kd.R_alloc | apply Kd.R_drewN | apply Kd.R_drew)); exact HO235.out)); (case aS => exact (below_size (by repeat (with_reducible first | exact HB.out | apply below_alloc | apply pw_below_drewN | apply below_drew1)))); (case aL => have := LMc12.out; omega); intro v237 w17 ho hb hg hat; rw [← Ny236.out] at ho; have n0_ := Aside0.mk (hb); have n1_ := Aside0.mk (ho); clear HB; clear HO235; have HB := n0_; have HO238 := n1_; clear n0_ n1_; clear ho hb hg hat; have p14 : 0 ≤ (t230 : Int) := of_decide_eq_true (by assumption); have q14 : (t230 : Int) < ((y236.length : Int) : Int) := of_decide_eq_true (by assumption); obtain ⟨go14, co14, eo14, gb14, gl14, cl14, HG14⟩ := Kd.R_form HO238.out (by omega); (first | cases eo14 | (injection eo14 with ea_ en_ ec_; (first | subst ea_ | (injection ea_ with ea_; subst ea_)); subst ec_; clear en_)); have GB14 := Aside0.mk gb14; have GG14 := Aside0.mk HG14; clear gb14 gl14 HG14; obtain ⟨ce14, hcl14, hM14, hcc14, hfr14⟩ := Kd.R_elem HO238.out z28 (t230 : Int) p14 q14; obtain rfl := k28_openM hM14; have hx14_0 : w17.cell? ⟨go14, (t230 : Int).toNat * 7, none⟩ = some (.int .i64 ((rd_T28 y236 t230).f0)) := hcc14 0 _ rfl; have hx14_1 : w17.cell? ⟨go14, (t230 : Int).toNat * 7 + 1, none⟩ = some (.int .i64 ((rd_T28 y236 t230).f1)) := hcc14 1 _ rfl; have hx14_2 : w17.cell? ⟨go14, (t230 : Int).toNat * 7 + 2, none⟩ = some (.int .i64 ((rd_T28 y236 t230).f2)) := hcc14 2 _ rfl; have hx14_3 : w17.cell? ⟨go14, (t230 : Int).toNat * 7 + 3, none⟩ = some (.int .i64 ((rd_T28 y236 t230).f3)) := hcc14 3 _ rfl; have hx14_4 : w17.cell? ⟨go14, (t230 : Int).toNat * 7 + 4, none⟩ = some (.int .i64 ((rd_T28 y236 t230).f4)) := hcc14 4 _ rfl; have hx14_5 : w17.cell? ⟨go14, (t230 : Int).toNat * 7 + 5, none⟩ = some (.int .i64 ((rd_T28 y236 t230).f5)) := hcc14 5 _ rfl; have hx14_6 : w17.cell? ⟨go14, (t230 : Int).toNat * 7 + 6, none⟩ = some (.string ((rd_T28 y236 t230).f6)) := hcc14 6 _ rfl; have hf14_0 : w17.frozen? ⟨go14, (t230 : Int).toNat * 7, none⟩ = false := hfr14 0; have hf14_1 : w17.frozen? ⟨go14, (t230 : Int).toNat * 7 + 1, none⟩ = false := hfr14 1; have hf14_2 : w17.frozen? ⟨go14, (t230 : Int).toNat * 7 + 2, none⟩ = false := hfr14 2; have hf14_3 : w17.frozen? ⟨go14, (t230 : Int).toNat * 7 + 3, none⟩ = false := hfr14 3; have hf14_4 : w17.frozen? ⟨go14, (t230 : Int).toNat * 7 + 4, none⟩ = false := hfr14 4; have hf14_5 : w17.frozen? ⟨go14, (t230 : Int).toNat * 7 + 5, none⟩ = false := hfr14 5; have hf14_6 : w17.frozen? ⟨go14, (t230 : Int).toNat * 7 + 6, none⟩ = false := hfr14 6; clear hcl14 hcc14 hfr14 hM14; replace p14 := eq_true p14; replace q14 := eq_true q14; have HX18 := Aside0.mk (show Kd.R k28 28 w17 w.heap.size (fun _ => True) (.slice (some ⟨go14, 0, none⟩) y236.length co14) y236 from (by (with_reducible repeat (first | apply Kd.R_alloc | apply Kd.R_drewN | apply Kd.R_drew)); exact HO238.out)); obtain ⟨ce18, hcl18, hM18, hcc18, hfr18⟩ := Kd.R_elem HX18.out z28 (t230 : Int) (of_decide_eq_true (by assumption)) (by have h_ : (t230 : Int) < ((y236.length : Int) : Int) := of_decide_eq_true (by assumption); first | exact h_ | (have e_ := (Kd.R_reads' HO238.out).1; omega) | simpa using h_); obtain rfl := k28_openM hM18; have HP18 := Kd.R_seg HX18.out (t230 : Int) (of_decide_eq_true (by assumption)) (by have h_ : (t230 : Int) < ((y236.length : Int) : Int) := of_decide_eq_true (by assumption); first | exact h_ | (have e_ := (Kd.R_reads' HO238.out).1; omega) | simpa using h_) (seg := [.int .i64 a2]) (j := 5) hcl18 hcc18 (show 6 ≤ 7 from by decide) (x' := (⟨(rd_T28 y236 t230).f0, (rd_T28 y236 t230).f1, (rd_T28 y236 t230).f2, (rd_T28 y236 t230).f3, (rd_T28 y236 t230).f4, a2, (rd_T28 y236 t230).f6⟩ : S28)) (k28_mkM _ _ _ (⟨(rd_T28 y236 t230).f0, (rd_T28 y236 t230).f1, (rd_T28 y236 t230).f2, (rd_T28 y236 t230).f3, (rd_T28 y236 t230).f4, a2, (rd_T28 y236 t230).f6⟩ : S28) ) (fun _ hk => hk); have hx18_5 := hcc18 5 _ rfl; (try simp only [show (k28).sz = 7 from rfl, Nat.mul_one, Nat.add_zero] at hx18_5); have hf18_5 := hfr18 5; (try simp only [show (k28).sz = 7 from rfl, Nat.mul_one, Nat.add_zero] at hf18_5); clear hcl18 hcc18 hfr18 hM18) | ((with_reducible refine gate_store (t := 3) (p := 43) rfl ?_); refine store_event (t := 3) (p := 43) (v := ?vo_w19) (w1 := (w17.setCell ⟨go14, (t230 : Int).toNat * 7 + 5, none⟩ (.int .i64 a2))) ?hg ?ho ?hn ?hr ?_; (case ho => rfl); (case hg => rfl); (case hn => rfl); (case hr => first | (go_simp; done) | (go_simp; rfl)); intro w19 hw; have hg : w17.grownBy w19 (some go14) := (by rw [hw]; exact HP18.2); have hp_ : Kd.R k28 28 w19 w.heap.size (fun _ => True) (.slice (some ⟨go14, 0, none⟩) y236.length co14) y239 := (by rw [hw, Ny239.out]; exact HP18.1); clear HP18; have n0_ := Aside0.mk (hp_); have n1_ := Aside0.mk ((by rw [hw]; exact below_set (HB.out) GB14.out : Below w.heap.size w w19)); clear HO238; clear HB; have HO238 := n0_; have HB := n1_; clear n0_ n1_; clear hg hw hp_))
          go_ret2
          exact ⟨_, by first | rfl | (simp [errW_none, errW_some] <;> rfl) | (simp [*, errW_none, errW_some] <;> rfl), by (with_reducible repeat (first | apply Kd.R_alloc | apply Kd.R_drewN | apply Kd.R_drew)); exact HO238.out, by repeat (with_reducible first | exact HB.out | apply below_alloc | apply pw_below_drewN | apply below_drew1)⟩
         ·rw [if_neg c13] at H
          exact absurd H (by simp)
        ·rw [if_neg c12] at H
         exact absurd H (by simp)
    ·rw [if_neg c8] at H
     have c8b0 : (((rd_T28 l0 t230).f5) == 0) = false := beq_eq_false_iff_ne.mpr c8
     have c8b1 : (((rd_T28 l0 t230).f5) != 0) = true := bne_iff_ne.mpr c8
     simp only [Option.some.injEq, Prod.mk.injEq] at H
     obtain ⟨rfl, rfl⟩ := H
     go_enter Try.func17, Try.ntmps17
     go_wp2_with (first | ((with_reducible refine gate_callee (f := 30) rfl ?_); refine goesL_ (some 12) rfl rfl Try.func30 (by kernel_rfl) rfl #[.slice A0 l0.length c0, .int .i64 a1] rfl (by (try simp only [List.map_toArray, List.map_cons, List.map_nil]); first | done | rfl | (simp only [List.length_drop, List.length_take]; rfl)) ?_; (with_reducible refine (corebankref41_Place.calls k _ _ l0 a1 t230 _ ?side1 ?side2 A4.out).mono ?_); (case side1 => repeat (first | exact HR0.out | (with_reducible refine Kd.C_alloc ?_ _) | (with_reducible refine Kd.C_drewN ?_ _) | (with_reducible refine Kd.C_drew ?_))); (case side2 => exact HC0.out); rintro e w' ⟨rfl, ⟨nd, rfl⟩⟩; refine ⟨_, rfl, ?_⟩; have p231 : 0 ≤ (t230 : Int) := of_decide_eq_true (by assumption); have q231 : t230 < (l0.length : Int) := of_decide_eq_true (by assumption); obtain ⟨ad231, e231, hx231_0, hx231_1, hx231_2, hx231_3, hx231_4, hx231_5, hx231_6⟩ := at_T28 HR0.out t230 p231 q231; cases e231; replace p231 := eq_true p231; replace q231 := eq_true q231))
     go_ret2
     exact ⟨_, by first | rfl | (simp [errW_none, errW_some] <;> rfl) | (simp [*, errW_none, errW_some] <;> rfl), by first | exact Kd.R_nil _ _ _ _ _ | exact Kd.N_nil _ _ _ _ _ | exact Kd.V_nil _ _ _ _ _ | exact Kd.Q_nil _ _ _ _ _ | exact Kd.S_nil _ _ _ _ _, by repeat (with_reducible first | exact HB.out | apply below_alloc | apply pw_below_drewN | apply below_drew1)⟩
   ·rw [if_neg c7] at H
    exact absurd H (by simp)
  ·rw [if_neg c6] at H
   exact absurd H (by simp)

end Go.Proofs.Ytfgcachcbhkkoaa.X
