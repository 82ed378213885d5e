-- Written by program (wip/tools/xprint.sh) for this seat; not trusted: Lean checks it.
import Derived.Test.YtfdjgdjmllkdcaaDoorX0
import Derived.Test.YtfdjgdjmllkdcaaDoorX1
import Derived.Test.YtfdjgdjmllkdcaaDoorX3
import Derived.Test.YtfdjgdjmllkdcaaDoorX7
import Derived.Test.YtfdjgdjmllkdcaaDoorX15
import Derived.Test.YtfdjgdjmllkdcaaDoorX21
namespace Go.Proofs.YtfdjgdjmllkdcaaDoor.X
open Go.RowKit Go.Proofs.YtfdjgdjmllkdcaaDoorW.PrintWords Go.Proofs.YtfdjgdjmllkdcaaDoorW.PrintLast Go.Proofs.YtfdjgdjmllkdcaaDoorW.PrintMore
attribute [local go_sem] max2_int min2_int   -- for this text's walks alone
set_option linter.unusedVariables false
set_option linter.unusedSimpArgs false

/-! ### corebankref42_Reason: function 22 -/
def corebankref42_Reason.j0 : Nat → Int → Bool → Option (Int)
 | 0, _, _ => none
 | k + 1, x3, x6 => if x6 = true then (some 1) else (if x3 = 16 then (some 2) else (if x3 = 19 then (some 2) else (some 3)))
def corebankref42_Reason.f (k : Nat) (a0 : Int) : Option (Int) := if a0 = 0 then (some 0) else (if a0 = 18 then (corebankref42_Reason.j0 k a0 (a0 == 18)) else (corebankref42_Reason.j0 k a0 (a0 == 20)))
theorem corebankref42_Reason.mono_l : ∀ k, (∀ y0 y1, LeO (corebankref42_Reason.j0 k y0 y1) (corebankref42_Reason.j0 (k + 1) y0 y1))
 | 0 => fun _ _ r h => by simp [corebankref42_Reason.j0] at h
 | k + 1 => by
  have ih0 := corebankref42_Reason.mono_l k
  ·intro y0 y1
   unfold corebankref42_Reason.j0
   repeat' first
   | (with_reducible exact ih0 _ _)
   | (with_reducible exact LeO.refl _)
   | (with_reducible exact LeO.none _)
   | (with_reducible refine LeO.ite ?_ ?_)
   | (with_reducible refine LeO.bind ?_ (fun _ => ?_))
   | exact ih0 _ _
   | exact LeO.none _
   | refine LeO.ite ?_ ?_
   | refine LeO.bind ?_ (fun _ => ?_)
theorem corebankref42_Reason.mono : ∀ a0 k, LeO (corebankref42_Reason.f k a0) (corebankref42_Reason.f (k + 1) a0) := by
 intro a0 k
 have ih0 := corebankref42_Reason.mono_l k
 unfold corebankref42_Reason.f
 repeat' first
   | (with_reducible exact ih0 _ _)
   | (with_reducible exact LeO.refl _)
   | (with_reducible exact LeO.none _)
   | (with_reducible refine LeO.ite ?_ ?_)
   | (with_reducible refine LeO.bind ?_ (fun _ => ?_))
   | exact ih0 _ _
   | exact LeO.none _
   | refine LeO.ite ?_ ?_
   | refine LeO.bind ?_ (fun _ => ?_)
set_option maxHeartbeats 8000000 in
set_option maxRecDepth 100000 in
theorem corebankref42_Reason.calls (k : Nat) (a0 : Int) (r : Int) (w : World) (h : corebankref42_Reason.f k a0 = some r) :
  Calls Tryd.prog 22 #[.int .i64 a0] w fun e w' => e = .returned (.int .i64 r) ∧ Drawn0 w w' := by
 have H : (if a0 = 0 then (some 0) else (if a0 = 18 then (corebankref42_Reason.j0 k a0 (a0 == 18)) else (corebankref42_Reason.j0 k a0 (a0 == 20)))) = some r := h
 clear h
 by_cases c2 : a0 = 0
 ·rw [if_pos c2] at H
  have c2b0 : (a0 == 0) = true := beq_iff_eq.mpr c2
  have c2b1 : (a0 != 0) = false := bne_eq_false_iff_eq.mpr c2
  clear c2
  obtain rfl := Option.some.inj H
  go_enter Tryd.func22, Tryd.ntmps22
  go_wp2
  go_ret
  exact ⟨by first | rfl | (simp; done) | (simp [*]; done), by repeat (first | exact Drawn0.refl _ | apply Drawn0.step)⟩
 ·rw [if_neg c2] at H
  have c2b0 : (a0 == 0) = false := beq_eq_false_iff_ne.mpr c2
  have c2b1 : (a0 != 0) = true := bne_iff_ne.mpr c2
  have HC3 := Aside0.mk H
  clear H
  go_enter Tryd.func22, Tryd.ntmps22
  go_upto_if 6 with (fail)
  go_cut [6] (fun v6 wc => ∃ (kq : Nat) (x6_2 : Bool), v6 = .bool x6_2 ∧ Aside0 (corebankref42_Reason.j0 kq a0 x6_2 = some r) ∧ Aside0 (kq ≤ k) ∧ Drawn0 w wc)
  case first =>
   have H := HC3.out
   clear HC3
   by_cases c4 : a0 = 18
   ·rw [if_pos c4] at H
    have c4b0 : (a0 == 18) = true := beq_iff_eq.mpr c4
    have c4b1 : (a0 != 18) = false := bne_eq_false_iff_eq.mpr c4
    clear c4
    (first | rw [c4b0] | (simp only [i64_w, i32_w]; rw [c4b0]) | skip)
    have H' := Aside0.mk H
    clear H
    go_wp2
    go_meet
    case rel => exact ⟨_, ((a0 == 18)), (by first | rfl | (simp; done) | (simp [*]; done)), H', ⟨by first | omega | exact Nat.le_refl _⟩, by repeat (first | exact Drawn0.refl _ | apply Drawn0.step)⟩
   ·rw [if_neg c4] at H
    have c4b0 : (a0 == 18) = false := beq_eq_false_iff_ne.mpr c4
    have c4b1 : (a0 != 18) = true := bne_iff_ne.mpr c4
    (first | rw [c4b0] | (simp only [i64_w, i32_w]; rw [c4b0]) | skip)
    have H' := Aside0.mk H
    clear H
    go_wp2
    go_meet
    case rel => exact ⟨_, ((a0 == 20)), (by first | rfl | (simp; done) | (simp [*]; done)), H', ⟨by first | omega | exact Nat.le_refl _⟩, by repeat (first | exact Drawn0.refl _ | apply Drawn0.step)⟩
  case rest =>
   clear HC3
   try clear c2
   try clear c2b0
   try clear c2b1
   try clear p2
   try clear c4
   try clear c4b0
   try clear c4b1
   obtain ⟨kq, x6_2, rfl, HA, HJ2, ⟨mc2, rfl⟩⟩ := hcut
   cases kq with
   | zero => exact absurd HA.out (by simp [corebankref42_Reason.j0])
   | succ kj2 =>
    have H := HA.out
    clear HA
    simp only [corebankref42_Reason.j0] at H
    by_cases c5 : x6_2 = true
    ·subst c5
     have H1 : (some 1) = some r := by rw [if_pos rfl] at H; exact H
     clear H
     have H := H1
     clear H1
     obtain rfl := Option.some.inj H
     go_wp2
     go_ret
     exact ⟨by first | rfl | (simp; done) | (simp [*]; done), by repeat (first | exact Drawn0.refl _ | apply Drawn0.step)⟩
    ·replace c5 := Bool.eq_false_iff.mpr c5
     subst c5
     have H1 : (if a0 = 16 then (some 2) else (if a0 = 19 then (some 2) else (some 3))) = some r := by rw [if_neg (show ¬ (false = true) by decide)] at H; exact H
     clear H
     have H := H1
     clear H1
     by_cases c6 : a0 = 16
     ·rw [if_pos c6] at H
      have c6b0 : (a0 == 16) = true := beq_iff_eq.mpr c6
      have c6b1 : (a0 != 16) = false := bne_eq_false_iff_eq.mpr c6
      clear c6
      obtain rfl := Option.some.inj H
      go_wp2
      go_ret
      exact ⟨by first | rfl | (simp; done) | (simp [*]; done), by repeat (first | exact Drawn0.refl _ | apply Drawn0.step)⟩
     ·rw [if_neg c6] at H
      have c6b0 : (a0 == 16) = false := beq_eq_false_iff_ne.mpr c6
      have c6b1 : (a0 != 16) = true := bne_iff_ne.mpr c6
      by_cases c7 : a0 = 19
      ·rw [if_pos c7] at H
       have c7b0 : (a0 == 19) = true := beq_iff_eq.mpr c7
       have c7b1 : (a0 != 19) = false := bne_eq_false_iff_eq.mpr c7
       clear c7
       obtain rfl := Option.some.inj H
       go_wp2
       go_ret
       exact ⟨by first | rfl | (simp; done) | (simp [*]; done), by repeat (first | exact Drawn0.refl _ | apply Drawn0.step)⟩
      ·rw [if_neg c7] at H
       have c7b0 : (a0 == 19) = false := beq_eq_false_iff_ne.mpr c7
       have c7b1 : (a0 != 19) = true := bne_iff_ne.mpr c7
       obtain rfl := Option.some.inj H
       go_wp2
       go_ret
       exact ⟨by first | rfl | (simp; done) | (simp [*]; done), by repeat (first | exact Drawn0.refl _ | apply Drawn0.step)⟩

/-! ### corebanklaw42_CollectReasons: function 7 -/
def corebanklaw42_CollectReasons.f (k : Nat) (a0 : Int) (a1 : Int) : Option (Bool) := (collect_Reason.f k a0).bind fun t334 => ((corebankref42_Reason.f k a0).bind fun t335 => (if t334 = t335 then ((collect_Window.f a1).bind fun t336 => ((corebankref42_Window.f k a1).bind fun t337 => (if t336 = t337 then ((corebanklaw42_lives.f k).bind fun t338 => (some t338)) else (none)))) else (none)))
theorem corebanklaw42_CollectReasons.mono : ∀ a0 a1 k, LeO (corebanklaw42_CollectReasons.f k a0 a1) (corebanklaw42_CollectReasons.f (k + 1) a0 a1) := by
 intro a0 a1 k
 unfold corebanklaw42_CollectReasons.f
 repeat' first
   | (with_reducible exact collect_Reason.mono _ _)
   | (with_reducible exact corebanklaw42_lives.mono _)
   | (with_reducible exact corebankref42_Reason.mono _ _)
   | (with_reducible exact corebankref42_Window.mono _ _)
   | (with_reducible exact LeO.refl _)
   | (with_reducible exact LeO.none _)
   | (with_reducible refine LeO.ite ?_ ?_)
   | (with_reducible refine LeO.bind ?_ (fun _ => ?_))
   | exact collect_Reason.mono _ _
   | exact corebanklaw42_lives.mono _
   | exact corebankref42_Reason.mono _ _
   | exact corebankref42_Window.mono _ _
   | exact LeO.none _
   | refine LeO.ite ?_ ?_
   | refine LeO.bind ?_ (fun _ => ?_)
set_option maxHeartbeats 8000000 in
set_option maxRecDepth 100000 in
theorem corebanklaw42_CollectReasons.calls (k : Nat) (a0 : Int) (a1 : Int) (r : Bool) (w : World) (hV : VarOK w) (h : corebanklaw42_CollectReasons.f k a0 a1 = some r) :
  Calls Tryd.prog 7 #[.int .i64 a0, .int .i64 a1] w fun e w' => e = .returned (.bool r) ∧ Below w.heap.size w w' := by
 have HV := Aside0.mk hV
 clear hV
 have HB := Aside0.mk (Below.refl w.heap.size w)
 have H : ((collect_Reason.f k a0).bind fun t334 => ((corebankref42_Reason.f k a0).bind fun t335 => (if t334 = t335 then ((collect_Window.f a1).bind fun t336 => ((corebankref42_Window.f k a1).bind fun t337 => (if t336 = t337 then ((corebanklaw42_lives.f k).bind fun t338 => (some t338)) else (none)))) else (none)))) = some r := h
 clear h
 replace H := Option.bind_eq_some_iff.mp H
 obtain ⟨t334, A30, H⟩ := H
 replace H : ((corebankref42_Reason.f k a0).bind fun t335 => (if t334 = t335 then ((collect_Window.f a1).bind fun t336 => ((corebankref42_Window.f k a1).bind fun t337 => (if t336 = t337 then ((corebanklaw42_lives.f k).bind fun t338 => (some t338)) else (none)))) else (none))) = some r := H
 have A3 := Aside0.mk A30
 clear A30
 replace H := Option.bind_eq_some_iff.mp H
 obtain ⟨t335, A40, H⟩ := H
 replace H : (if t334 = t335 then ((collect_Window.f a1).bind fun t336 => ((corebankref42_Window.f k a1).bind fun t337 => (if t336 = t337 then ((corebanklaw42_lives.f k).bind fun t338 => (some t338)) else (none)))) else (none)) = some r := H
 have A4 := Aside0.mk A40
 clear A40
 by_cases c5 : t334 = t335
 ·rw [if_pos c5] at H
  have c5b0 : (t334 == t335) = true := beq_iff_eq.mpr c5
  have c5b1 : (t334 != t335) = false := bne_eq_false_iff_eq.mpr c5
  clear c5
  replace H := Option.bind_eq_some_iff.mp H
  obtain ⟨t336, A60, H⟩ := H
  replace H : ((corebankref42_Window.f k a1).bind fun t337 => (if t336 = t337 then ((corebanklaw42_lives.f k).bind fun t338 => (some t338)) else (none))) = some r := H
  have A6 := Aside0.mk A60
  clear A60
  replace H := Option.bind_eq_some_iff.mp H
  obtain ⟨t337, A70, H⟩ := H
  replace H : (if t336 = t337 then ((corebanklaw42_lives.f k).bind fun t338 => (some t338)) else (none)) = some r := H
  have A7 := Aside0.mk A70
  clear A70
  by_cases c8 : t336 = t337
  ·rw [if_pos c8] at H
   have c8b0 : (t336 == t337) = true := beq_iff_eq.mpr c8
   have c8b1 : (t336 != t337) = false := bne_eq_false_iff_eq.mpr c8
   clear c8
   replace H := Option.bind_eq_some_iff.mp H
   obtain ⟨t338, A90, H⟩ := H
   replace H : (some t338) = some r := H
   have A9 := Aside0.mk A90
   clear A90
   obtain rfl := Option.some.inj H
   go_enter Tryd.func7, Tryd.ntmps7
   go_wp2_with (first | ((with_reducible refine gate_callee (f := 21) rfl ?_); refine goesL_ (some 6) rfl rfl Tryd.func21 (by kernel_rfl) rfl #[.int .i64 a0] rfl (by (try simp only [List.map_toArray, List.map_cons, List.map_nil]); first | done | rfl | (simp only [List.length_drop, List.length_take]; rfl)) ?_; (with_reducible refine (collect_Reason.calls k a0 t334 _ A3.out).mono ?_); rintro e w' ⟨rfl, ⟨nd, rfl⟩⟩; refine ⟨_, rfl, ?_⟩) | ((with_reducible refine gate_callee (f := 22) rfl ?_); refine goesL_ (some 8) rfl rfl Tryd.func22 (by kernel_rfl) rfl #[.int .i64 a0] rfl (by (try simp only [List.map_toArray, List.map_cons, List.map_nil]); first | done | rfl | (simp only [List.length_drop, List.length_take]; rfl)) ?_; (with_reducible refine (corebankref42_Reason.calls k a0 t335 _ A4.out).mono ?_); rintro e w' ⟨rfl, ⟨nd, rfl⟩⟩; refine ⟨_, rfl, ?_⟩) | (go_at_call 23; (with_reducible refine (collect_Window.calls a1 t336 _ ?sideV A6.out).mono ?_); (case sideV => exact VarOK.below HV.out (by repeat (first | (with_reducible first | exact HB.out | apply below_alloc | apply pw_below_drewN | apply below_drew1) | exact HB.out))); rintro e w10 ⟨rfl, hb⟩; have n0_ := Aside0.mk (below_step (by repeat (first | (with_reducible first | exact HB.out | apply below_alloc | apply pw_below_drewN | apply below_drew1) | exact HB.out)) hb); clear HB; have HB := n0_; clear n0_; (try clear hb); (try clear hb2); (try clear hk); (try clear hi)) | (go_at_call 24; (with_reducible refine (corebankref42_Window.calls k a1 t337 _ A7.out).mono ?_); rintro e w' ⟨rfl, ⟨nd, rfl⟩⟩) | (go_at_call 11; (with_reducible refine (corebanklaw42_lives.calls k  t338 _ ?sideV A9.out).mono ?_); (case sideV => exact VarOK.below HV.out (by repeat (first | (with_reducible first | exact HB.out | apply below_alloc | apply pw_below_drewN | apply below_drew1) | exact HB.out))); rintro e w11 ⟨rfl, hb⟩; have n0_ := Aside0.mk (below_step (by repeat (first | (with_reducible first | exact HB.out | apply below_alloc | apply pw_below_drewN | apply below_drew1) | exact HB.out)) hb); clear HB; have HB := n0_; clear n0_; (try clear hb); (try clear hb2); (try clear hk); (try clear hi)))
   go_ret
   exact ⟨by first | rfl | (simp [errW_none, errW_some] <;> rfl) | (simp [*, errW_none, errW_some] <;> rfl), by repeat (first | (with_reducible first | exact HB.out | apply below_alloc | apply pw_below_drewN | apply below_drew1) | exact HB.out)⟩
  ·rw [if_neg c8] at H
   exact absurd H (by simp)
 ·rw [if_neg c5] at H
  exact absurd H (by simp)

/-- THE ONE PURE STATEMENT of corebanklaw42_CollectReasons: yours. -/
def corebanklaw42_CollectReasons.Pure : Prop := ∀ (a0 : Int) (a1 : Int), (Lit.int .i64 a0).wf = true → (Lit.int .i64 a1).wf = true → ∃ k, corebanklaw42_CollectReasons.f k a0 a1 = some true
theorem corebanklaw42_CollectReasons.walk (P : corebanklaw42_CollectReasons.Pure) (a0 : Int) (a1 : Int) (w : World) (hV : VarOK w) (w0 : (Lit.int .i64 a0).wf = true) (w1 : (Lit.int .i64 a1).wf = true) :
  Calls Tryd.prog 7 #[.int .i64 a0, .int .i64 a1] w fun e w' => e = .returned (.bool true) ∧ Below w.heap.size w w' := by
 obtain ⟨k, h⟩ := P a0 a1 w0 w1
 refine (corebanklaw42_CollectReasons.calls k a0 a1 true w hV h).mono ?_
 rintro e w' ⟨rfl, hd⟩
 exact ⟨rfl, hd⟩

end Go.Proofs.YtfdjgdjmllkdcaaDoor.X
