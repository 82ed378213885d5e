-- Written by program (wip/tools/xprint.sh) for this seat; not trusted: Lean checks it.
import Derived.Test.YtclllkbngkohlaaX0
import Derived.Test.YtclllkbngkohlaaX3
import Derived.Test.YtclllkbngkohlaaX14
import Derived.Test.YtclllkbngkohlaaX15
import Derived.Test.YtclllkbngkohlaaX20
import Derived.Test.YtclllkbngkohlaaX23
import Derived.Test.YtclllkbngkohlaaX24
namespace Go.Proofs.Ytclllkbngkohlaa.X
open Go.RowKit Go.Proofs.YtclllkbngkohlaaW.PrintWords Go.Proofs.YtclllkbngkohlaaW.PrintLast Go.Proofs.YtclllkbngkohlaaW.PrintMore
attribute [local go_sem] max2_int min2_int max_two min_two max_three min_three max_four min_four   -- for this text's walks alone
set_option linter.unusedVariables false
set_option linter.unusedSimpArgs false

/-! ### corebanklaw46_AccessDecides: function 4 -/
mutual
def corebanklaw46_AccessDecides.l0 : Nat → List (S25) → Int → Int → Int → Option (Bool)
  | 0, _, _, _, _ => none
  | k + 1, x0, x1, x2, x7 => if x7 ≤ (x0.length : Int) then (if x7 < (x0.length : Int) then (if 0 ≤ x7 then (corebanklaw46_AccessDecides.j1 k x0 x1 x2 x7 ((rd_T25 x0 x7).f0)) else (none)) else (corebanklaw46_AccessDecides.j1 k x0 x1 x2 x7 (⟨#[110, 111, 98, 111, 100, 121]⟩ : ByteArray))) else ((corebanklaw46_live.f k).bind fun t191 => (some t191))
def corebanklaw46_AccessDecides.j1 : Nat → List (S25) → Int → Int → Int → ByteArray → Option (Bool)
  | 0, _, _, _, _, _ => none
  | k + 1, x0, x1, x2, x7, x8 => (access_Alone.f x0 x8 x1 x2).bind fun t193 => ((access_Has.f x0 x8 x1).bind fun t194 => ((corebankref46_Has.f k x0 x8 x1).bind fun t195 => (if (t194 != t195) = true then (none) else ((corebankref46_Alone.f k x0 x8 x1 x2).bind fun t196 => (if (t193 != t196) = true then (none) else (if t193 = true then ((access_Alone.f x0 x8 x1 (wrap64 (Int.tdiv x2 2))).bind fun t197 => (if t197 = true then (corebanklaw46_AccessDecides.l0 k x0 x1 x2 (wrap64 (x7 + 1))) else (none))) else (corebanklaw46_AccessDecides.l0 k x0 x1 x2 (wrap64 (x7 + 1)))))))))
end
def corebanklaw46_AccessDecides.f (k : Nat) (l0 : List (S25)) (a1 : Int) (a2 : Int) : Option (Bool) := (corebankref46_Great.f k l0).bind fun t190 => (if t190 = true then (some true) else (corebanklaw46_AccessDecides.l0 k l0 a1 a2 0))
theorem corebanklaw46_AccessDecides.mono_l : ∀ k, (∀ y0 y1 y2 y3, LeO (corebanklaw46_AccessDecides.l0 k y0 y1 y2 y3) (corebanklaw46_AccessDecides.l0 (k + 1) y0 y1 y2 y3)) ∧ (∀ y0 y1 y2 y3 y4, LeO (corebanklaw46_AccessDecides.j1 k y0 y1 y2 y3 y4) (corebanklaw46_AccessDecides.j1 (k + 1) y0 y1 y2 y3 y4))
  | 0 => ⟨fun _ _ _ _ r h => by simp [corebanklaw46_AccessDecides.l0] at h, fun _ _ _ _ _ r h => by simp [corebanklaw46_AccessDecides.j1] at h⟩
  | k + 1 => by
    obtain ⟨ih0, ih1⟩ := corebanklaw46_AccessDecides.mono_l k
    refine ⟨?_, ?_⟩
    · intro y0 y1 y2 y3
      unfold corebanklaw46_AccessDecides.l0
      repeat' first
      | (with_reducible exact ih0 _ _ _ _)
      | (with_reducible exact ih1 _ _ _ _ _)
      | (with_reducible exact corebanklaw46_live.mono _)
      | (with_reducible exact corebankref46_Alone.mono _ _ _ _ _)
      | (with_reducible exact corebankref46_Great.mono _ _)
      | (with_reducible exact corebankref46_Has.mono _ _ _ _)
      | (with_reducible exact LeO.refl _)
      | (with_reducible exact LeO.none _)
      | (with_reducible refine LeO.ite ?_ ?_)
      | (with_reducible refine LeO.bind ?_ (fun _ => ?_))
      | exact ih0 _ _ _ _
      | exact ih1 _ _ _ _ _
      | exact corebanklaw46_live.mono _
      | exact corebankref46_Alone.mono _ _ _ _ _
      | exact corebankref46_Great.mono _ _
      | exact corebankref46_Has.mono _ _ _ _
      | exact LeO.none _
      | refine LeO.ite ?_ ?_
      | refine LeO.bind ?_ (fun _ => ?_)
    · intro y0 y1 y2 y3 y4
      unfold corebanklaw46_AccessDecides.j1
      repeat' first
      | (with_reducible exact ih0 _ _ _ _)
      | (with_reducible exact ih1 _ _ _ _ _)
      | (with_reducible exact corebanklaw46_live.mono _)
      | (with_reducible exact corebankref46_Alone.mono _ _ _ _ _)
      | (with_reducible exact corebankref46_Great.mono _ _)
      | (with_reducible exact corebankref46_Has.mono _ _ _ _)
      | (with_reducible exact LeO.refl _)
      | (with_reducible exact LeO.none _)
      | (with_reducible refine LeO.ite ?_ ?_)
      | (with_reducible refine LeO.bind ?_ (fun _ => ?_))
      | exact ih0 _ _ _ _
      | exact ih1 _ _ _ _ _
      | exact corebanklaw46_live.mono _
      | exact corebankref46_Alone.mono _ _ _ _ _
      | exact corebankref46_Great.mono _ _
      | exact corebankref46_Has.mono _ _ _ _
      | exact LeO.none _
      | refine LeO.ite ?_ ?_
      | refine LeO.bind ?_ (fun _ => ?_)
theorem corebanklaw46_AccessDecides.mono : ∀ a0 a1 a2 k, LeO (corebanklaw46_AccessDecides.f k a0 a1 a2) (corebanklaw46_AccessDecides.f (k + 1) a0 a1 a2) := by
  intro a0 a1 a2 k
  obtain ⟨ih0, ih1⟩ := corebanklaw46_AccessDecides.mono_l k
  unfold corebanklaw46_AccessDecides.f
  repeat' first
      | (with_reducible exact ih0 _ _ _ _)
      | (with_reducible exact ih1 _ _ _ _ _)
      | (with_reducible exact corebanklaw46_live.mono _)
      | (with_reducible exact corebankref46_Alone.mono _ _ _ _ _)
      | (with_reducible exact corebankref46_Great.mono _ _)
      | (with_reducible exact corebankref46_Has.mono _ _ _ _)
      | (with_reducible exact LeO.refl _)
      | (with_reducible exact LeO.none _)
      | (with_reducible refine LeO.ite ?_ ?_)
      | (with_reducible refine LeO.bind ?_ (fun _ => ?_))
      | exact ih0 _ _ _ _
      | exact ih1 _ _ _ _ _
      | exact corebanklaw46_live.mono _
      | exact corebankref46_Alone.mono _ _ _ _ _
      | exact corebankref46_Great.mono _ _
      | exact corebankref46_Has.mono _ _ _ _
      | exact LeO.none _
      | refine LeO.ite ?_ ?_
      | refine LeO.bind ?_ (fun _ => ?_)
set_option maxHeartbeats 8000000 in
set_option maxRecDepth 100000 in
theorem corebanklaw46_AccessDecides.calls (k : Nat) (A0 : Option Addr) (c0 : Nat) (l0 : List (S25)) (a1 : Int) (a2 : Int) (r : Bool) (w : World) (hr0 : Kd.C k25 w A0 l0.length l0) (hc0 : l0.length ≤ c0) (h : corebanklaw46_AccessDecides.f k l0 a1 a2 = some r) :
    Calls Try.prog 4 #[.slice A0 l0.length c0, .int .i64 a1, .int .i64 a2] w fun e w' => e = .returned (.bool r) ∧ Below w.heap.size w w' := by
  have HR0 := Aside0.mk hr0
  have HC0 := Aside0.mk hc0
  clear hr0 hc0
  have HB := Aside0.mk (Below.refl w.heap.size w)
  have H : ((corebankref46_Great.f k l0).bind fun t190 => (if t190 = true then (some true) else (corebanklaw46_AccessDecides.l0 k l0 a1 a2 0))) = some r := h
  clear h
  replace H := Option.bind_eq_some_iff.mp H
  obtain ⟨t190, A40, H⟩ := H
  replace H : (if t190 = true then (some true) else (corebanklaw46_AccessDecides.l0 k l0 a1 a2 0)) = some r := H
  have A4 := Aside0.mk A40
  clear A40
  by_cases c5 : t190 = true
  · subst c5
    have H1 : (some true) = some r := by rw [if_pos rfl] at H; exact H
    clear H
    have H := H1
    clear H1
    obtain rfl := Option.some.inj H
    go_enter Try.func4, Try.ntmps4
    go_wp2_with (first | ((with_reducible refine gate_callee (f := 7) rfl ?_); refine goesL_ (some 11) rfl rfl Try.func7 (by kernel_rfl) rfl #[.slice A0 l0.length c0] rfl (by (try simp only [List.map_toArray, List.map_cons, List.map_nil]); first | done | rfl | (simp only [List.length_drop, List.length_take]; rfl)) ?_; (with_reducible refine (corebankref46_Great.calls k _ _ l0 true _ ?side1 ?side2 A4.out).mono ?_); (case side1 => repeat (first | exact HR0.out | (with_reducible refine Kd.C_alloc ?_ _) | (with_reducible refine Kd.C_drewN ?_ _) | (with_reducible refine Kd.C_drew ?_))); (case side2 => exact HC0.out); rintro e w' ⟨rfl, ⟨nd, rfl⟩⟩; refine ⟨_, rfl, ?_⟩))
    go_ret
    exact ⟨by first | rfl | (simp [errW_none, errW_some] <;> rfl) | (simp [*, errW_none, errW_some] <;> rfl), by repeat (first | (with_reducible first | exact HB.out | apply below_alloc | apply pw_below_drewN | apply below_drew1) | exact HB.out)⟩
  · replace c5 := Bool.eq_false_iff.mpr c5
    subst c5
    have H1 : (corebanklaw46_AccessDecides.l0 k l0 a1 a2 0) = some r := by rw [if_neg (show ¬ (false = true) by decide)] at H; exact H
    clear H
    have H := H1
    clear H1
    have H' := Aside0.mk H
    clear H
    go_enter Try.func4, Try.ntmps4
    go_wp2_with (first | ((with_reducible refine gate_callee (f := 7) rfl ?_); refine goesL_ (some 11) rfl rfl Try.func7 (by kernel_rfl) rfl #[.slice A0 l0.length c0] rfl (by (try simp only [List.map_toArray, List.map_cons, List.map_nil]); first | done | rfl | (simp only [List.length_drop, List.length_take]; rfl)) ?_; (with_reducible refine (corebankref46_Great.calls k _ _ l0 false _ ?side1 ?side2 A4.out).mono ?_); (case side1 => repeat (first | exact HR0.out | (with_reducible refine Kd.C_alloc ?_ _) | (with_reducible refine Kd.C_drewN ?_ _) | (with_reducible refine Kd.C_drew ?_))); (case side2 => exact HC0.out); rintro e w' ⟨rfl, ⟨nd, rfl⟩⟩; refine ⟨_, rfl, ?_⟩))
    go_loopg [7] k (fun kq v7 w' => ∃ (x7_1 : Int), v7 = .int .i64 x7_1 ∧ Aside0 (corebanklaw46_AccessDecides.l0 kq l0 a1 a2 x7_1 = some r) ∧ Aside0 (kq ≤ k) ∧ Aside0 (Below w.heap.size w w'))
    case atStart => exact ⟨(0), (by first | rfl | (simp; done) | (simp [*]; done)), H', ⟨Nat.le_refl _⟩, ⟨by repeat (first | (with_reducible first | exact HB.out | apply below_alloc | apply pw_below_drewN | apply below_drew1) | exact HB.out)⟩⟩
    case round =>
      clear H'
      try clear p2
      try clear c4
      try clear c5
      obtain ⟨x7_1, rfl, HA, HK1, HB⟩ := hrel
      cases gk with
      | zero => exact absurd HA.out (by simp [corebanklaw46_AccessDecides.l0])
      | succ k1 =>
        have H := HA.out
        clear HA
        simp only [corebanklaw46_AccessDecides.l0] at H
        by_cases c6 : x7_1 ≤ (l0.length : Int)
        · rw [if_pos c6] at H
          have c6b0 : decide (x7_1 ≤ (l0.length : Int)) = true := decide_eq_true c6
          clear c6
          have HC7 := Aside0.mk H
          clear H
          go_upto_if 21 with (fail)
          go_cut [8] (fun v8 wc => ∃ (kq : Nat) (x8_6 : ByteArray), v8 = .string x8_6 ∧ Aside0 (corebanklaw46_AccessDecides.j1 kq l0 a1 a2 x7_1 x8_6 = some r) ∧ Aside0 (kq ≤ k1) ∧ Aside0 (Below w.heap.size w wc))
          case first =>
            have H := HC7.out
            clear HC7
            by_cases c8 : x7_1 < (l0.length : Int)
            · rw [if_pos c8] at H
              have c8b0 : decide (x7_1 < (l0.length : Int)) = true := decide_eq_true c8
              clear c8
              (first | rw [c8b0] | (simp only [i64_w, i32_w]; rw [c8b0]) | skip)
              by_cases c9 : 0 ≤ x7_1
              · rw [if_pos c9] at H
                have c9b0 : decide (0 ≤ x7_1) = true := decide_eq_true c9
                clear c9
                have H' := Aside0.mk H
                clear H
                have p192 : 0 ≤ (x7_1 : Int) := of_decide_eq_true (by first | (with_reducible assumption) | assumption)
                have q192 : x7_1 < (l0.length : Int) := of_decide_eq_true (by first | (with_reducible assumption) | assumption)
                obtain ⟨ad192, e192, hx192_0, hx192_1, hx192_2⟩ := at_T25 HR0.out x7_1 p192 q192
                cases e192
                replace hx192_0 := (HB.out.cell (World.block_lt_of_cell? w _ hx192_0)).trans hx192_0
                replace hx192_1 := (HB.out.cell (World.block_lt_of_cell? w _ hx192_1)).trans hx192_1
                replace hx192_2 := (HB.out.cell (World.block_lt_of_cell? w _ hx192_2)).trans hx192_2
                replace p192 := eq_true p192
                replace q192 := eq_true q192
                go_wp2
                go_meet
                case rel => exact ⟨_, ((rd_T25 l0 x7_1).f0), (by first | rfl | (simp; done) | (simp [*]; done)), H', ⟨by have := HK1.out; first | omega | exact Nat.le_refl _⟩, ⟨by repeat (first | (with_reducible first | exact HB.out | apply below_alloc | apply pw_below_drewN | apply below_drew1) | exact HB.out)⟩⟩
              · rw [if_neg c9] at H
                exact absurd H (by simp)
            · rw [if_neg c8] at H
              have c8b0 : decide (x7_1 < (l0.length : Int)) = false := decide_eq_false c8
              clear c8
              (first | rw [c8b0] | (simp only [i64_w, i32_w]; rw [c8b0]) | skip)
              have H' := Aside0.mk H
              clear H
              go_wp2
              go_meet
              case rel => exact ⟨_, ((⟨#[110, 111, 98, 111, 100, 121]⟩ : ByteArray)), (by first | rfl | (simp; done) | (simp [*]; done)), H', ⟨by have := HK1.out; first | omega | exact Nat.le_refl _⟩, ⟨by repeat (first | (with_reducible first | exact HB.out | apply below_alloc | apply pw_below_drewN | apply below_drew1) | exact HB.out)⟩⟩
          case rest =>
            clear HC7
            try clear p1
            try clear q1
            try clear hx1
            try clear p2
            try clear c4
            try clear c5
            try clear c6
            try clear c6b0
            try clear c7
            try clear c8
            try clear c8b0
            try clear c9
            try clear c9b0
            try clear hx192_0
            try clear hx192_1
            try clear hx192_2
            try clear p192
            try clear p2
            try clear q192
            obtain ⟨kq, x8_6, rfl, HA, HJ6, HB⟩ := hcut
            cases kq with
            | zero => exact absurd HA.out (by simp [corebanklaw46_AccessDecides.j1])
            | succ kj6 =>
              have H := HA.out
              clear HA
              simp only [corebanklaw46_AccessDecides.j1] at H
              replace H := Option.bind_eq_some_iff.mp H
              obtain ⟨t193, A100, H⟩ := H
              replace H : ((access_Has.f l0 x8_6 a1).bind fun t194 => ((corebankref46_Has.f kj6 l0 x8_6 a1).bind fun t195 => (if (t194 != t195) = true then (none) else ((corebankref46_Alone.f kj6 l0 x8_6 a1 a2).bind fun t196 => (if (t193 != t196) = true then (none) else (if t193 = true then ((access_Alone.f l0 x8_6 a1 (wrap64 (Int.tdiv a2 2))).bind fun t197 => (if t197 = true then (corebanklaw46_AccessDecides.l0 kj6 l0 a1 a2 (wrap64 (x7_1 + 1))) else (none))) else (corebanklaw46_AccessDecides.l0 kj6 l0 a1 a2 (wrap64 (x7_1 + 1))))))))) = some r := H
              have A10 := Aside0.mk A100
              clear A100
              replace H := Option.bind_eq_some_iff.mp H
              obtain ⟨t194, A110, H⟩ := H
              replace H : ((corebankref46_Has.f kj6 l0 x8_6 a1).bind fun t195 => (if (t194 != t195) = true then (none) else ((corebankref46_Alone.f kj6 l0 x8_6 a1 a2).bind fun t196 => (if (t193 != t196) = true then (none) else (if t193 = true then ((access_Alone.f l0 x8_6 a1 (wrap64 (Int.tdiv a2 2))).bind fun t197 => (if t197 = true then (corebanklaw46_AccessDecides.l0 kj6 l0 a1 a2 (wrap64 (x7_1 + 1))) else (none))) else (corebanklaw46_AccessDecides.l0 kj6 l0 a1 a2 (wrap64 (x7_1 + 1)))))))) = some r := H
              have A11 := Aside0.mk A110
              clear A110
              replace H := Option.bind_eq_some_iff.mp H
              obtain ⟨t195, A120, H⟩ := H
              replace H : (if (t194 != t195) = true then (none) else ((corebankref46_Alone.f kj6 l0 x8_6 a1 a2).bind fun t196 => (if (t193 != t196) = true then (none) else (if t193 = true then ((access_Alone.f l0 x8_6 a1 (wrap64 (Int.tdiv a2 2))).bind fun t197 => (if t197 = true then (corebanklaw46_AccessDecides.l0 kj6 l0 a1 a2 (wrap64 (x7_1 + 1))) else (none))) else (corebanklaw46_AccessDecides.l0 kj6 l0 a1 a2 (wrap64 (x7_1 + 1))))))) = some r := H
              have A12 := Aside0.mk A120
              clear A120
              by_cases c13 : (t194 != t195) = true
              · rw [if_pos c13] at H
                exact absurd H (by simp)
              · rw [if_neg c13] at H
                have c13b0 : (t194 != t195) = false := by simpa using c13
                (try (have c13b1 : decide (t194 = t195) = true := by revert c13; generalize (t194) = p_; generalize (t195) = q_; cases p_ <;> cases q_ <;> simp))
                (try (have c13b2 : (t194 == t195) = true := by revert c13; generalize (t194) = p_; generalize (t195) = q_; cases p_ <;> cases q_ <;> simp))
                clear c13
                replace H := Option.bind_eq_some_iff.mp H
                obtain ⟨t196, A140, H⟩ := H
                replace H : (if (t193 != t196) = true then (none) else (if t193 = true then ((access_Alone.f l0 x8_6 a1 (wrap64 (Int.tdiv a2 2))).bind fun t197 => (if t197 = true then (corebanklaw46_AccessDecides.l0 kj6 l0 a1 a2 (wrap64 (x7_1 + 1))) else (none))) else (corebanklaw46_AccessDecides.l0 kj6 l0 a1 a2 (wrap64 (x7_1 + 1))))) = some r := H
                have A14 := Aside0.mk A140
                clear A140
                by_cases c15 : (t193 != t196) = true
                · rw [if_pos c15] at H
                  exact absurd H (by simp)
                · rw [if_neg c15] at H
                  have c15b0 : (t193 != t196) = false := by simpa using c15
                  (try (have c15b1 : decide (t193 = t196) = true := by revert c15; generalize (t193) = p_; generalize (t196) = q_; cases p_ <;> cases q_ <;> simp))
                  (try (have c15b2 : (t193 == t196) = true := by revert c15; generalize (t193) = p_; generalize (t196) = q_; cases p_ <;> cases q_ <;> simp))
                  clear c15
                  by_cases c16 : t193 = true
                  · subst c16
                    have H1 : ((access_Alone.f l0 x8_6 a1 (wrap64 (Int.tdiv a2 2))).bind fun t197 => (if t197 = true then (corebanklaw46_AccessDecides.l0 kj6 l0 a1 a2 (wrap64 (x7_1 + 1))) else (none))) = some r := by rw [if_pos rfl] at H; exact H
                    clear H
                    have H := H1
                    clear H1
                    replace H := Option.bind_eq_some_iff.mp H
                    obtain ⟨t197, A170, H⟩ := H
                    replace H : (if t197 = true then (corebanklaw46_AccessDecides.l0 kj6 l0 a1 a2 (wrap64 (x7_1 + 1))) else (none)) = some r := H
                    have A17 := Aside0.mk A170
                    clear A170
                    by_cases c18 : t197 = true
                    · subst c18
                      have H1 : (corebanklaw46_AccessDecides.l0 kj6 l0 a1 a2 (wrap64 (x7_1 + 1))) = some r := by rw [if_pos rfl] at H; exact H
                      clear H
                      have H := H1
                      clear H1
                      have H' := Aside0.mk H
                      clear H
                      go_wp2_with (first | ((with_reducible refine gate_callee (f := 13) rfl ?_); refine goesL_ (some 31) rfl rfl Try.func13 (by kernel_rfl) rfl #[.slice A0 l0.length c0, .string x8_6, .int .i64 a1, .int .i64 a2] rfl (by (try simp only [List.map_toArray, List.map_cons, List.map_nil]); first | done | rfl | (simp only [List.length_drop, List.length_take]; rfl)) ?_; (with_reducible refine (access_Alone.calls _ _ l0 x8_6 a1 a2 true _ ?side1 ?side2 A10.out).mono ?_); (case side1 => repeat (first | exact (Kd.C_below HR0.out HB.out) | (with_reducible refine Kd.C_alloc ?_ _) | (with_reducible refine Kd.C_drewN ?_ _) | (with_reducible refine Kd.C_drew ?_))); (case side2 => exact HC0.out); rintro e w19 ⟨rfl, hb⟩; refine ⟨_, rfl, ?_⟩; have n0_ := Aside0.mk (below_step (by repeat (first | (with_reducible first | exact HB.out | apply below_alloc | apply pw_below_drewN | apply below_drew1) | exact HB.out)) hb); clear HB; have HB := n0_; clear n0_; (try clear hb); (try clear hb2); (try clear hk); (try clear hi)) | ((with_reducible refine gate_callee (f := 14) rfl ?_); refine goesL_ (some 35) rfl rfl Try.func14 (by kernel_rfl) rfl #[.slice A0 l0.length c0, .string x8_6, .int .i64 a1] rfl (by (try simp only [List.map_toArray, List.map_cons, List.map_nil]); first | done | rfl | (simp only [List.length_drop, List.length_take]; rfl)) ?_; (with_reducible refine (access_Has.calls _ _ l0 x8_6 a1 t194 _ ?side1 ?side2 A11.out).mono ?_); (case side1 => repeat (first | exact (Kd.C_below HR0.out HB.out) | (with_reducible refine Kd.C_alloc ?_ _) | (with_reducible refine Kd.C_drewN ?_ _) | (with_reducible refine Kd.C_drew ?_))); (case side2 => exact HC0.out); rintro e w20 ⟨rfl, hb⟩; refine ⟨_, rfl, ?_⟩; have n0_ := Aside0.mk (below_step (by repeat (first | (with_reducible first | exact HB.out | apply below_alloc | apply pw_below_drewN | apply below_drew1) | exact HB.out)) hb); clear HB; have HB := n0_; clear n0_; (try clear hb); (try clear hb2); (try clear hk); (try clear hi)) | ((with_reducible refine gate_callee (f := 15) rfl ?_); refine goesL_ (some 39) rfl rfl Try.func15 (by kernel_rfl) rfl #[.slice A0 l0.length c0, .string x8_6, .int .i64 a1] rfl (by (try simp only [List.map_toArray, List.map_cons, List.map_nil]); first | done | rfl | (simp only [List.length_drop, List.length_take]; rfl)) ?_; (with_reducible refine (corebankref46_Has.calls kj6 _ _ l0 x8_6 a1 t195 _ ?side1 ?side2 A12.out).mono ?_); (case side1 => repeat (first | exact (Kd.C_below HR0.out HB.out) | (with_reducible refine Kd.C_alloc ?_ _) | (with_reducible refine Kd.C_drewN ?_ _) | (with_reducible refine Kd.C_drew ?_))); (case side2 => exact HC0.out); rintro e w21 ⟨rfl, hb⟩; refine ⟨_, rfl, ?_⟩; have n0_ := Aside0.mk (below_step (by repeat (first | (with_reducible first | exact HB.out | apply below_alloc | apply pw_below_drewN | apply below_drew1) | exact HB.out)) hb); clear HB; have HB := n0_; clear n0_; (try clear hb); (try clear hb2); (try clear hk); (try clear hi)) | (go_at_call 16; (with_reducible refine (corebankref46_Alone.calls kj6 _ _ l0 x8_6 a1 a2 t196 _ ?side1 ?side2 A14.out).mono ?_); (case side1 => repeat (first | exact (Kd.C_below HR0.out HB.out) | (with_reducible refine Kd.C_alloc ?_ _) | (with_reducible refine Kd.C_drewN ?_ _) | (with_reducible refine Kd.C_drew ?_))); (case side2 => exact HC0.out); rintro e w22 ⟨rfl, hb⟩; have n0_ := Aside0.mk (below_step (by repeat (first | (with_reducible first | exact HB.out | apply below_alloc | apply pw_below_drewN | apply below_drew1) | exact HB.out)) hb); clear HB; have HB := n0_; clear n0_; (try clear hb); (try clear hb2); (try clear hk); (try clear hi)) | (go_at_call 13; (with_reducible refine (access_Alone.calls _ _ l0 x8_6 a1 (wrap64 (Int.tdiv a2 2)) true _ ?side1 ?side2 A17.out).mono ?_); (case side1 => repeat (first | exact (Kd.C_below HR0.out HB.out) | (with_reducible refine Kd.C_alloc ?_ _) | (with_reducible refine Kd.C_drewN ?_ _) | (with_reducible refine Kd.C_drew ?_))); (case side2 => exact HC0.out); rintro e w23 ⟨rfl, hb⟩; have n0_ := Aside0.mk (below_step (by repeat (first | (with_reducible first | exact HB.out | apply below_alloc | apply pw_below_drewN | apply below_drew1) | exact HB.out)) hb); clear HB; have HB := n0_; clear n0_; (try clear hb); (try clear hb2); (try clear hk); (try clear hi)))
                      go_roundg kj6
                      case measure => have := HK1.out; have := HJ6.out; omega
                      case rel => exact ⟨(wrap64 (x7_1 + 1)), (by first | rfl | (simp; done) | (simp [*]; done)), H', ⟨by have := HK1.out; have := HJ6.out; omega⟩, ⟨by repeat (first | (with_reducible first | exact HB.out | apply below_alloc | apply pw_below_drewN | apply below_drew1) | exact HB.out)⟩⟩
                    · replace c18 := Bool.eq_false_iff.mpr c18
                      subst c18
                      have H1 : (none) = some r := by rw [if_neg (show ¬ (false = true) by decide)] at H; exact H
                      clear H
                      have H := H1
                      clear H1
                      exact absurd H (by simp)
                  · replace c16 := Bool.eq_false_iff.mpr c16
                    subst c16
                    have H1 : (corebanklaw46_AccessDecides.l0 kj6 l0 a1 a2 (wrap64 (x7_1 + 1))) = some r := by rw [if_neg (show ¬ (false = true) by decide)] at H; exact H
                    clear H
                    have H := H1
                    clear H1
                    have H' := Aside0.mk H
                    clear H
                    go_wp2_with (first | ((with_reducible refine gate_callee (f := 13) rfl ?_); refine goesL_ (some 31) rfl rfl Try.func13 (by kernel_rfl) rfl #[.slice A0 l0.length c0, .string x8_6, .int .i64 a1, .int .i64 a2] rfl (by (try simp only [List.map_toArray, List.map_cons, List.map_nil]); first | done | rfl | (simp only [List.length_drop, List.length_take]; rfl)) ?_; (with_reducible refine (access_Alone.calls _ _ l0 x8_6 a1 a2 false _ ?side1 ?side2 A10.out).mono ?_); (case side1 => repeat (first | exact (Kd.C_below HR0.out HB.out) | (with_reducible refine Kd.C_alloc ?_ _) | (with_reducible refine Kd.C_drewN ?_ _) | (with_reducible refine Kd.C_drew ?_))); (case side2 => exact HC0.out); rintro e w24 ⟨rfl, hb⟩; refine ⟨_, rfl, ?_⟩; have n0_ := Aside0.mk (below_step (by repeat (first | (with_reducible first | exact HB.out | apply below_alloc | apply pw_below_drewN | apply below_drew1) | exact HB.out)) hb); clear HB; have HB := n0_; clear n0_; (try clear hb); (try clear hb2); (try clear hk); (try clear hi)) | ((with_reducible refine gate_callee (f := 14) rfl ?_); refine goesL_ (some 35) rfl rfl Try.func14 (by kernel_rfl) rfl #[.slice A0 l0.length c0, .string x8_6, .int .i64 a1] rfl (by (try simp only [List.map_toArray, List.map_cons, List.map_nil]); first | done | rfl | (simp only [List.length_drop, List.length_take]; rfl)) ?_; (with_reducible refine (access_Has.calls _ _ l0 x8_6 a1 t194 _ ?side1 ?side2 A11.out).mono ?_); (case side1 => repeat (first | exact (Kd.C_below HR0.out HB.out) | (with_reducible refine Kd.C_alloc ?_ _) | (with_reducible refine Kd.C_drewN ?_ _) | (with_reducible refine Kd.C_drew ?_))); (case side2 => exact HC0.out); rintro e w25 ⟨rfl, hb⟩; refine ⟨_, rfl, ?_⟩; have n0_ := Aside0.mk (below_step (by repeat (first | (with_reducible first | exact HB.out | apply below_alloc | apply pw_below_drewN | apply below_drew1) | exact HB.out)) hb); clear HB; have HB := n0_; clear n0_; (try clear hb); (try clear hb2); (try clear hk); (try clear hi)) | ((with_reducible refine gate_callee (f := 15) rfl ?_); refine goesL_ (some 39) rfl rfl Try.func15 (by kernel_rfl) rfl #[.slice A0 l0.length c0, .string x8_6, .int .i64 a1] rfl (by (try simp only [List.map_toArray, List.map_cons, List.map_nil]); first | done | rfl | (simp only [List.length_drop, List.length_take]; rfl)) ?_; (with_reducible refine (corebankref46_Has.calls kj6 _ _ l0 x8_6 a1 t195 _ ?side1 ?side2 A12.out).mono ?_); (case side1 => repeat (first | exact (Kd.C_below HR0.out HB.out) | (with_reducible refine Kd.C_alloc ?_ _) | (with_reducible refine Kd.C_drewN ?_ _) | (with_reducible refine Kd.C_drew ?_))); (case side2 => exact HC0.out); rintro e w26 ⟨rfl, hb⟩; refine ⟨_, rfl, ?_⟩; have n0_ := Aside0.mk (below_step (by repeat (first | (with_reducible first | exact HB.out | apply below_alloc | apply pw_below_drewN | apply below_drew1) | exact HB.out)) hb); clear HB; have HB := n0_; clear n0_; (try clear hb); (try clear hb2); (try clear hk); (try clear hi)) | (go_at_call 16; (with_reducible refine (corebankref46_Alone.calls kj6 _ _ l0 x8_6 a1 a2 t196 _ ?side1 ?side2 A14.out).mono ?_); (case side1 => repeat (first | exact (Kd.C_below HR0.out HB.out) | (with_reducible refine Kd.C_alloc ?_ _) | (with_reducible refine Kd.C_drewN ?_ _) | (with_reducible refine Kd.C_drew ?_))); (case side2 => exact HC0.out); rintro e w27 ⟨rfl, hb⟩; have n0_ := Aside0.mk (below_step (by repeat (first | (with_reducible first | exact HB.out | apply below_alloc | apply pw_below_drewN | apply below_drew1) | exact HB.out)) hb); clear HB; have HB := n0_; clear n0_; (try clear hb); (try clear hb2); (try clear hk); (try clear hi)))
                    go_roundg kj6
                    case measure => have := HK1.out; have := HJ6.out; omega
                    case rel => exact ⟨(wrap64 (x7_1 + 1)), (by first | rfl | (simp; done) | (simp [*]; done)), H', ⟨by have := HK1.out; have := HJ6.out; omega⟩, ⟨by repeat (first | (with_reducible first | exact HB.out | apply below_alloc | apply pw_below_drewN | apply below_drew1) | exact HB.out)⟩⟩
        · rw [if_neg c6] at H
          have c6b0 : decide (x7_1 ≤ (l0.length : Int)) = false := decide_eq_false c6
          clear c6
          replace H := Option.bind_eq_some_iff.mp H
          obtain ⟨t191, A280, H⟩ := H
          replace H : (some t191) = some r := H
          have A28 := Aside0.mk A280
          clear A280
          obtain rfl := Option.some.inj H
          go_wp2_with (first | ((with_reducible refine gate_callee (f := 12) rfl ?_); refine goesL_ (some 62) rfl rfl Try.func12 (by kernel_rfl) rfl #[] rfl (by (try simp only [List.map_toArray, List.map_cons, List.map_nil]); first | done | rfl | (simp only [List.length_drop, List.length_take]; rfl)) ?_; (with_reducible refine (corebanklaw46_live.calls k1  t191 _ A28.out).mono ?_); rintro e w29 ⟨rfl, hb⟩; refine ⟨_, rfl, ?_⟩; have n0_ := Aside0.mk (below_step (by repeat (first | (with_reducible first | exact HB.out | apply below_alloc | apply pw_below_drewN | apply below_drew1) | exact HB.out)) hb); clear HB; have HB := n0_; clear n0_; (try clear hb); (try clear hb2); (try clear hk); (try clear hi)))
          go_ret
          exact ⟨by first | rfl | (simp [errW_none, errW_some] <;> rfl) | (simp [*, errW_none, errW_some] <;> rfl), by repeat (first | (with_reducible first | exact HB.out | apply below_alloc | apply pw_below_drewN | apply below_drew1) | exact HB.out)⟩

end Go.Proofs.Ytclllkbngkohlaa.X
