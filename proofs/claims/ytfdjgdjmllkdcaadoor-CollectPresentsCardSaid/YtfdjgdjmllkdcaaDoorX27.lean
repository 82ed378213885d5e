-- Written by program (wip/tools/xprint.sh) for this seat; not trusted: Lean checks it.
import Derived.Test.YtfdjgdjmllkdcaaDoorX0
import Derived.Test.YtfdjgdjmllkdcaaDoorX26
namespace Go.Proofs.YtfdjgdjmllkdcaaDoor.X
open Go.RowKit Go.Proofs.YtfdjgdjmllkdcaaDoorW.PrintWords Go.Proofs.YtfdjgdjmllkdcaaDoorW.PrintLast Go.Proofs.YtfdjgdjmllkdcaaDoorW.PrintMore
attribute [local go_sem] max2_int min2_int   -- for this text's walks alone
set_option linter.unusedVariables false
set_option linter.unusedSimpArgs false

/-! ### corebankref41_Allows: function 42 -/
def corebankref41_Allows.j0 : Nat → Int → Int → Bool → Int → Int → Int → Int → Int → Int → ByteArray → Option (Int)
  | 0, _, _, _, _, _, _, _, _, _, _ => none
  | k + 1, x2, x3, x34, x304000, x304001, x304002, x304003, x304004, x304005, x304006 => if x34 = true then (some 17) else ((corebankref41_Expired.f x304000 x304001 x304002 x304003 x304004 x304005 x304006 x3).bind fun t304 => (if t304 = true then (some 23) else (if x304002 = 0 then (some 0) else (if x2 > x304002 then (some 18) else (some 0)))))
def corebankref41_Allows.f (k : Nat) (l0 : List (S53)) (a1 : Int) (a2 : Int) (a3 : Int) : Option (Int) := (corebankref41_Place.f k l0 a1).bind fun t301 => (if t301 < 0 then (some 11) else (if 0 ≤ t301 then (if t301 < (l0.length : Int) then (if ((rd_T53 l0 t301).f5) = 0 then (corebankref41_Allows.j0 k a2 a3 (decide (((rd_T53 l0 t301).f3) > a3)) ((rd_T53 l0 t301).f0) ((rd_T53 l0 t301).f1) ((rd_T53 l0 t301).f2) ((rd_T53 l0 t301).f3) ((rd_T53 l0 t301).f4) ((rd_T53 l0 t301).f5) ((rd_T53 l0 t301).f6)) else (if ((rd_T53 l0 t301).f5) ≤ a3 then (corebankref41_Allows.j0 k a2 a3 true ((rd_T53 l0 t301).f0) ((rd_T53 l0 t301).f1) ((rd_T53 l0 t301).f2) ((rd_T53 l0 t301).f3) ((rd_T53 l0 t301).f4) ((rd_T53 l0 t301).f5) ((rd_T53 l0 t301).f6)) else (corebankref41_Allows.j0 k a2 a3 (decide (((rd_T53 l0 t301).f3) > a3)) ((rd_T53 l0 t301).f0) ((rd_T53 l0 t301).f1) ((rd_T53 l0 t301).f2) ((rd_T53 l0 t301).f3) ((rd_T53 l0 t301).f4) ((rd_T53 l0 t301).f5) ((rd_T53 l0 t301).f6)))) else (none)) else (none)))
theorem corebankref41_Allows.mono_l : ∀ k, (∀ y0 y1 y2 y3 y4 y5 y6 y7 y8 y9, LeO (corebankref41_Allows.j0 k y0 y1 y2 y3 y4 y5 y6 y7 y8 y9) (corebankref41_Allows.j0 (k + 1) y0 y1 y2 y3 y4 y5 y6 y7 y8 y9))
  | 0 => fun _ _ _ _ _ _ _ _ _ _ r h => by simp [corebankref41_Allows.j0] at h
  | k + 1 => by
    have ih0 := corebankref41_Allows.mono_l k
    · intro y0 y1 y2 y3 y4 y5 y6 y7 y8 y9
      unfold corebankref41_Allows.j0
      repeat' first
      | (with_reducible exact ih0 _ _ _ _ _ _ _ _ _ _)
      | (with_reducible exact corebankref41_Place.mono _ _ _)
      | (with_reducible exact LeO.refl _)
      | (with_reducible exact LeO.none _)
      | (with_reducible refine LeO.ite ?_ ?_)
      | (with_reducible refine LeO.bind ?_ (fun _ => ?_))
      | exact ih0 _ _ _ _ _ _ _ _ _ _
      | exact corebankref41_Place.mono _ _ _
      | exact LeO.none _
      | refine LeO.ite ?_ ?_
      | refine LeO.bind ?_ (fun _ => ?_)
theorem corebankref41_Allows.mono : ∀ a0 a1 a2 a3 k, LeO (corebankref41_Allows.f k a0 a1 a2 a3) (corebankref41_Allows.f (k + 1) a0 a1 a2 a3) := by
  intro a0 a1 a2 a3 k
  have ih0 := corebankref41_Allows.mono_l k
  unfold corebankref41_Allows.f
  repeat' first
      | (with_reducible exact ih0 _ _ _ _ _ _ _ _ _ _)
      | (with_reducible exact corebankref41_Place.mono _ _ _)
      | (with_reducible exact LeO.refl _)
      | (with_reducible exact LeO.none _)
      | (with_reducible refine LeO.ite ?_ ?_)
      | (with_reducible refine LeO.bind ?_ (fun _ => ?_))
      | exact ih0 _ _ _ _ _ _ _ _ _ _
      | exact corebankref41_Place.mono _ _ _
      | exact LeO.none _
      | refine LeO.ite ?_ ?_
      | refine LeO.bind ?_ (fun _ => ?_)
set_option maxHeartbeats 8000000 in
set_option maxRecDepth 100000 in
theorem corebankref41_Allows.calls (k : Nat) (A0 : Option Addr) (c0 : Nat) (l0 : List (S53)) (a1 : Int) (a2 : Int) (a3 : Int) (r : Int) (w : World) (hr0 : Kd.C k53 w A0 l0.length l0) (hc0 : l0.length ≤ c0) (h : corebankref41_Allows.f k l0 a1 a2 a3 = some r) :
  Calls Tryd.prog 42 #[.slice A0 l0.length c0, .int .i64 a1, .int .i64 a2, .int .i64 a3] w fun e w' => e = .returned (.int .i64 r) ∧ Below w.heap.size w w' := by
 have hu53 := Tryd.underlying53
 have HR0 := Aside0.mk hr0
 have HC0 := Aside0.mk hc0
 clear hr0 hc0
 have HB := Aside0.mk (Below.refl w.heap.size w)
 have H : ((corebankref41_Place.f k l0 a1).bind fun t301 => (if t301 < 0 then (some 11) else (if 0 ≤ t301 then (if t301 < (l0.length : Int) then (if ((rd_T53 l0 t301).f5) = 0 then (corebankref41_Allows.j0 k a2 a3 (decide (((rd_T53 l0 t301).f3) > a3)) ((rd_T53 l0 t301).f0) ((rd_T53 l0 t301).f1) ((rd_T53 l0 t301).f2) ((rd_T53 l0 t301).f3) ((rd_T53 l0 t301).f4) ((rd_T53 l0 t301).f5) ((rd_T53 l0 t301).f6)) else (if ((rd_T53 l0 t301).f5) ≤ a3 then (corebankref41_Allows.j0 k a2 a3 true ((rd_T53 l0 t301).f0) ((rd_T53 l0 t301).f1) ((rd_T53 l0 t301).f2) ((rd_T53 l0 t301).f3) ((rd_T53 l0 t301).f4) ((rd_T53 l0 t301).f5) ((rd_T53 l0 t301).f6)) else (corebankref41_Allows.j0 k a2 a3 (decide (((rd_T53 l0 t301).f3) > a3)) ((rd_T53 l0 t301).f0) ((rd_T53 l0 t301).f1) ((rd_T53 l0 t301).f2) ((rd_T53 l0 t301).f3) ((rd_T53 l0 t301).f4) ((rd_T53 l0 t301).f5) ((rd_T53 l0 t301).f6)))) else (none)) else (none)))) = some r := h
 clear h
 replace H := Option.bind_eq_some_iff.mp H
 obtain ⟨t301, A50, H⟩ := H
 replace H : (if t301 < 0 then (some 11) else (if 0 ≤ t301 then (if t301 < (l0.length : Int) then (if ((rd_T53 l0 t301).f5) = 0 then (corebankref41_Allows.j0 k a2 a3 (decide (((rd_T53 l0 t301).f3) > a3)) ((rd_T53 l0 t301).f0) ((rd_T53 l0 t301).f1) ((rd_T53 l0 t301).f2) ((rd_T53 l0 t301).f3) ((rd_T53 l0 t301).f4) ((rd_T53 l0 t301).f5) ((rd_T53 l0 t301).f6)) else (if ((rd_T53 l0 t301).f5) ≤ a3 then (corebankref41_Allows.j0 k a2 a3 true ((rd_T53 l0 t301).f0) ((rd_T53 l0 t301).f1) ((rd_T53 l0 t301).f2) ((rd_T53 l0 t301).f3) ((rd_T53 l0 t301).f4) ((rd_T53 l0 t301).f5) ((rd_T53 l0 t301).f6)) else (corebankref41_Allows.j0 k a2 a3 (decide (((rd_T53 l0 t301).f3) > a3)) ((rd_T53 l0 t301).f0) ((rd_T53 l0 t301).f1) ((rd_T53 l0 t301).f2) ((rd_T53 l0 t301).f3) ((rd_T53 l0 t301).f4) ((rd_T53 l0 t301).f5) ((rd_T53 l0 t301).f6)))) else (none)) else (none))) = some r := H
 have A5 := Aside0.mk A50
 clear A50
 by_cases c6 : t301 < 0
 ·rw [if_pos c6] at H
  have c6b0 : decide (t301 < 0) = true := decide_eq_true c6
  clear c6
  obtain rfl := Option.some.inj H
  go_enter Tryd.func42, Tryd.ntmps42
  go_wp2_with (first | ((with_reducible refine gate_callee (f := 50) rfl ?_); refine goesL_ (some 13) rfl rfl Tryd.func50 (by kernel_rfl) rfl #[.slice A0 l0.length c0, .int .i64 a1] rfl (by (try simp only [List.map_toArray, List.map_cons, List.map_nil]); first | done | rfl | (simp only [List.length_drop, List.length_take]; rfl)) ?_; (with_reducible refine (corebankref41_Place.calls k _ _ l0 a1 t301 _ ?side1 ?side2 A5.out).mono ?_); (case side1 => repeat (first | exact HR0.out | (with_reducible refine Kd.C_alloc ?_ _) | (with_reducible refine Kd.C_drewN ?_ _) | (with_reducible refine Kd.C_drew ?_))); (case side2 => exact HC0.out); rintro e w' ⟨rfl, ⟨nd, rfl⟩⟩; refine ⟨_, rfl, ?_⟩))
  go_ret
  exact ⟨by first | rfl | (simp [errW_none, errW_some] <;> rfl) | (simp [*, errW_none, errW_some] <;> rfl), by repeat (with_reducible first | exact HB.out | apply below_alloc | apply pw_below_drewN | apply below_drew1)⟩
 ·rw [if_neg c6] at H
  have c6b0 : decide (t301 < 0) = false := decide_eq_false c6
  clear c6
  by_cases c7 : 0 ≤ t301
  ·rw [if_pos c7] at H
   have c7b0 : decide (0 ≤ t301) = true := decide_eq_true c7
   clear c7
   by_cases c8 : t301 < (l0.length : Int)
   ·rw [if_pos c8] at H
    have c8b0 : decide (t301 < (l0.length : Int)) = true := decide_eq_true c8
    clear c8
    have HC9 := Aside0.mk H
    clear H
    go_enter Tryd.func42, Tryd.ntmps42
    go_upto_region 5 with (first | ((with_reducible refine gate_callee (f := 50) rfl ?_); refine goesL_ (some 13) rfl rfl Tryd.func50 (by kernel_rfl) rfl #[.slice A0 l0.length c0, .int .i64 a1] rfl (by (try simp only [List.map_toArray, List.map_cons, List.map_nil]); first | done | rfl | (simp only [List.length_drop, List.length_take]; rfl)) ?_; (with_reducible refine (corebankref41_Place.calls k _ _ l0 a1 t301 _ ?side1 ?side2 A5.out).mono ?_); (case side1 => repeat (first | exact HR0.out | (with_reducible refine Kd.C_alloc ?_ _) | (with_reducible refine Kd.C_drewN ?_ _) | (with_reducible refine Kd.C_drew ?_))); (case side2 => exact HC0.out); rintro e w' ⟨rfl, ⟨nd, rfl⟩⟩; refine ⟨_, rfl, ?_⟩; have p302 : 0 ≤ (t301 : Int) := of_decide_eq_true (by assumption); have q302 : t301 < (l0.length : Int) := of_decide_eq_true (by assumption); obtain ⟨ad302, e302, hx302_0, hx302_1, hx302_2, hx302_3, hx302_4, hx302_5, hx302_6⟩ := at_T53 HR0.out t301 p302 q302; cases e302; replace p302 := eq_true p302; replace q302 := eq_true q302) | ((with_reducible refine gate_dst (N := 10) rfl ?_); refine box_event ?hg (N := 10) ?hd (cs := #[.int .i64 0, .int .i64 0, .int .i64 0, .int .i64 0, .int .i64 0, .int .i64 0, .string (⟨#[]⟩ : ByteArray)]) (t := 53) ?hr ?_; (case hd => rfl); (case hg => rfl); (case hr => first | (go_simp; done) | (go_simp; rfl)); intro gb303 hg w10 hbox hb; have n0_ := Aside0.mk (below_step (by repeat (with_reducible first | exact HB.out | apply below_alloc | apply pw_below_drewN | apply below_drew1)) hb); have n1_ := Aside0.mk (hbox); have n2_ := Aside0.mk ((by rw [hg]; exact (below_size (by repeat (with_reducible first | exact HB.out | apply below_alloc | apply pw_below_drewN | apply below_drew1))) : w.heap.size ≤ gb303)); have n3_ := n2_; clear HB; have HB := n0_; have BK303 := n1_; have GW303 := n2_; have GE303 := n3_; clear n0_ n1_ n2_ n3_; clear hb hbox hg; have hcz11 := blk_cell BK303.out; have hfz11 := blk_frozen BK303.out))
    (try simp only [Act.put, List.setIfInBounds_toArray, List.set_cons_zero, List.set_cons_succ])
    go_cut [34] (fun v34 wc => ∃ (kq : Nat) (x34_8 : Bool), v34 = .bool x34_8 ∧ Aside0 (corebankref41_Allows.j0 kq a2 a3 x34_8 ((rd_T53 l0 t301).f0) ((rd_T53 l0 t301).f1) ((rd_T53 l0 t301).f2) ((rd_T53 l0 t301).f3) ((rd_T53 l0 t301).f4) ((rd_T53 l0 t301).f5) ((rd_T53 l0 t301).f6) = some r) ∧ Aside0 (kq ≤ k) ∧ Aside0 (wc.heap[gb303]? = some (.cells #[.int .i64 ((rd_T53 l0 t301).f0), .int .i64 ((rd_T53 l0 t301).f1), .int .i64 ((rd_T53 l0 t301).f2), .int .i64 ((rd_T53 l0 t301).f3), .int .i64 ((rd_T53 l0 t301).f4), .int .i64 ((rd_T53 l0 t301).f5), .string ((rd_T53 l0 t301).f6)] 53 (0, 0))) ∧ Aside0 (Below w.heap.size w wc))
    case first =>
     have H := HC9.out
     clear HC9
     by_cases c12 : ((rd_T53 l0 t301).f5) = 0
     ·rw [if_pos c12] at H
      have c12b0 : (((rd_T53 l0 t301).f5) == 0) = true := beq_iff_eq.mpr c12
      have c12b1 : (((rd_T53 l0 t301).f5) != 0) = false := bne_eq_false_iff_eq.mpr c12
      clear c12
      (first | rw [c12b0] | (simp only [i64_w, i32_w]; rw [c12b0]) | skip)
      have H' := Aside0.mk H
      clear H
      have hcz13 := blk_cell BK303.out
      have hfz13 := blk_frozen BK303.out
      go_wp2
      go_meet
      case rel => exact ⟨_, (decide (((rd_T53 l0 t301).f3) > a3)), (by first | rfl | (simp [*]; done)), H', ⟨by first | omega | exact Nat.le_refl _⟩, ⟨by exact blk_seq (by repeat (with_reducible first | exact BK303.out | apply blk_drewN | apply blk_drew | apply blk_alloc | apply blk_set)) (by first | (simp only [zS, zC, zD]; done) | rfl)⟩, ⟨by repeat (with_reducible first | exact HB.out | apply below_alloc | apply pw_below_drewN | apply below_drew1 | refine below_set ?_ GE303.out)⟩⟩
     ·rw [if_neg c12] at H
      have c12b0 : (((rd_T53 l0 t301).f5) == 0) = false := beq_eq_false_iff_ne.mpr c12
      have c12b1 : (((rd_T53 l0 t301).f5) != 0) = true := bne_iff_ne.mpr c12
      (first | rw [c12b0] | (simp only [i64_w, i32_w]; rw [c12b0]) | skip)
      by_cases c14 : ((rd_T53 l0 t301).f5) ≤ a3
      ·rw [if_pos c14] at H
       have c14b0 : decide (((rd_T53 l0 t301).f5) ≤ a3) = true := decide_eq_true c14
       clear c14
       have H' := Aside0.mk H
       clear H
       have hcz15 := blk_cell BK303.out
       have hfz15 := blk_frozen BK303.out
       go_wp2
       go_meet
       case rel => exact ⟨_, (true), (by first | rfl | (simp [*]; done)), H', ⟨by first | omega | exact Nat.le_refl _⟩, ⟨by exact blk_seq (by repeat (with_reducible first | exact BK303.out | apply blk_drewN | apply blk_drew | apply blk_alloc | apply blk_set)) (by first | (simp only [zS, zC, zD]; done) | rfl)⟩, ⟨by repeat (with_reducible first | exact HB.out | apply below_alloc | apply pw_below_drewN | apply below_drew1 | refine below_set ?_ GE303.out)⟩⟩
      ·rw [if_neg c14] at H
       have c14b0 : decide (((rd_T53 l0 t301).f5) ≤ a3) = false := decide_eq_false c14
       clear c14
       have H' := Aside0.mk H
       clear H
       have hcz16 := blk_cell BK303.out
       have hfz16 := blk_frozen BK303.out
       go_wp2
       go_meet
       case rel => exact ⟨_, (decide (((rd_T53 l0 t301).f3) > a3)), (by first | rfl | (simp [*]; done)), H', ⟨by first | omega | exact Nat.le_refl _⟩, ⟨by exact blk_seq (by repeat (with_reducible first | exact BK303.out | apply blk_drewN | apply blk_drew | apply blk_alloc | apply blk_set)) (by first | (simp only [zS, zC, zD]; done) | rfl)⟩, ⟨by repeat (with_reducible first | exact HB.out | apply below_alloc | apply pw_below_drewN | apply below_drew1 | refine below_set ?_ GE303.out)⟩⟩
    case rest =>
     clear HC9
     try clear c1
     try clear p2
     try clear p3
     try clear q3
     try clear hx3
     try clear c4
     try clear c5
     try clear c6
     try clear c6b0
     try clear c7
     try clear c7b0
     try clear c8
     try clear c8b0
     try clear c12
     try clear c12b0
     try clear c12b1
     try clear c14
     try clear c14b0
     try clear hcz11
     try clear hcz13
     try clear hcz15
     try clear hcz16
     try clear hfz11
     try clear hfz13
     try clear hfz15
     try clear hfz16
     try clear hx302_0
     try clear hx302_1
     try clear hx302_2
     try clear hx302_3
     try clear hx302_4
     try clear hx302_5
     try clear hx302_6
     try clear p302
     try clear q302
     obtain ⟨kq, x34_8, rfl, HA, HJ8, BK303, HB⟩ := hcut
     cases kq with
     | zero => exact absurd HA.out (by simp [corebankref41_Allows.j0])
     | succ kj8 =>
      have H := HA.out
      clear HA
      simp only [corebankref41_Allows.j0] at H
      by_cases c17 : x34_8 = true
      ·subst c17
       have H1 : (some 17) = some r := by rw [if_pos rfl] at H; exact H
       clear H
       have H := H1
       clear H1
       obtain rfl := Option.some.inj H
       go_wp2
       go_ret
       exact ⟨by first | rfl | (simp [errW_none, errW_some] <;> rfl) | (simp [*, errW_none, errW_some] <;> rfl), by repeat (with_reducible first | exact HB.out | apply below_alloc | apply pw_below_drewN | apply below_drew1 | refine below_set ?_ GE303.out)⟩
      ·replace c17 := Bool.eq_false_iff.mpr c17
       subst c17
       have H1 : ((corebankref41_Expired.f ((rd_T53 l0 t301).f0) ((rd_T53 l0 t301).f1) ((rd_T53 l0 t301).f2) ((rd_T53 l0 t301).f3) ((rd_T53 l0 t301).f4) ((rd_T53 l0 t301).f5) ((rd_T53 l0 t301).f6) a3).bind fun t304 => (if t304 = true then (some 23) else (if ((rd_T53 l0 t301).f2) = 0 then (some 0) else (if a2 > ((rd_T53 l0 t301).f2) then (some 18) else (some 0))))) = some r := by rw [if_neg (show ¬ (false = true) by decide)] at H; exact H
       clear H
       have H := H1
       clear H1
       replace H := Option.bind_eq_some_iff.mp H
       obtain ⟨t304, A180, H⟩ := H
       replace H : (if t304 = true then (some 23) else (if ((rd_T53 l0 t301).f2) = 0 then (some 0) else (if a2 > ((rd_T53 l0 t301).f2) then (some 18) else (some 0)))) = some r := H
       have A18 := Aside0.mk A180
       clear A180
       by_cases c19 : t304 = true
       ·subst c19
        have H1 : (some 23) = some r := by rw [if_pos rfl] at H; exact H
        clear H
        have H := H1
        clear H1
        obtain rfl := Option.some.inj H
        have hcz20 := blk_cell BK303.out
        have hfz20 := blk_frozen BK303.out
        go_wp2_with (first | ((with_reducible refine gate_callee (f := 51) rfl ?_); refine goesL_ (some 37) rfl rfl Tryd.func51 (by kernel_rfl) rfl #[.agg #[.int .i64 ((rd_T53 l0 t301).f0), .int .i64 ((rd_T53 l0 t301).f1), .int .i64 ((rd_T53 l0 t301).f2), .int .i64 ((rd_T53 l0 t301).f3), .int .i64 ((rd_T53 l0 t301).f4), .int .i64 ((rd_T53 l0 t301).f5), .string ((rd_T53 l0 t301).f6)], .int .i64 a3] rfl (by (try simp only [List.map_toArray, List.map_cons, List.map_nil]); first | done | rfl | (simp only [List.length_drop, List.length_take]; rfl)) ?_; (with_reducible refine (corebankref41_Expired.calls ((rd_T53 l0 t301).f0) ((rd_T53 l0 t301).f1) ((rd_T53 l0 t301).f2) ((rd_T53 l0 t301).f3) ((rd_T53 l0 t301).f4) ((rd_T53 l0 t301).f5) ((rd_T53 l0 t301).f6) a3 true _ A18.out).mono ?_); rintro e w21 ⟨rfl, hb⟩; refine ⟨_, rfl, ?_⟩; have n0_ := Aside0.mk (blk_below (g := gb303) (by (with_reducible repeat (first | refine blk_drewN ?_ _ | refine blk_drew ?_ | refine blk_alloc ?_ _)); exact BK303.out) hb); have n1_ := Aside0.mk (below_step (by repeat (with_reducible first | exact HB.out | apply below_alloc | apply pw_below_drewN | apply below_drew1 | refine below_set ?_ GE303.out)) hb); clear BK303; clear HB; have BK303 := n0_; have HB := n1_; clear n0_ n1_; (try clear hb); (try clear hb2); (try clear hk); (try clear hi)))
        go_ret
        exact ⟨by first | rfl | (simp [errW_none, errW_some] <;> rfl) | (simp [*, errW_none, errW_some] <;> rfl), by repeat (with_reducible first | exact HB.out | apply below_alloc | apply pw_below_drewN | apply below_drew1 | refine below_set ?_ GE303.out)⟩
       ·replace c19 := Bool.eq_false_iff.mpr c19
        subst c19
        have H1 : (if ((rd_T53 l0 t301).f2) = 0 then (some 0) else (if a2 > ((rd_T53 l0 t301).f2) then (some 18) else (some 0))) = some r := by rw [if_neg (show ¬ (false = true) by decide)] at H; exact H
        clear H
        have H := H1
        clear H1
        by_cases c22 : ((rd_T53 l0 t301).f2) = 0
        ·rw [if_pos c22] at H
         have c22b0 : (((rd_T53 l0 t301).f2) == 0) = true := beq_iff_eq.mpr c22
         have c22b1 : (((rd_T53 l0 t301).f2) != 0) = false := bne_eq_false_iff_eq.mpr c22
         clear c22
         obtain rfl := Option.some.inj H
         have hcz23 := blk_cell BK303.out
         have hfz23 := blk_frozen BK303.out
         go_wp2_with (first | ((with_reducible refine gate_callee (f := 51) rfl ?_); refine goesL_ (some 37) rfl rfl Tryd.func51 (by kernel_rfl) rfl #[.agg #[.int .i64 ((rd_T53 l0 t301).f0), .int .i64 ((rd_T53 l0 t301).f1), .int .i64 ((rd_T53 l0 t301).f2), .int .i64 ((rd_T53 l0 t301).f3), .int .i64 ((rd_T53 l0 t301).f4), .int .i64 ((rd_T53 l0 t301).f5), .string ((rd_T53 l0 t301).f6)], .int .i64 a3] rfl (by (try simp only [List.map_toArray, List.map_cons, List.map_nil]); first | done | rfl | (simp only [List.length_drop, List.length_take]; rfl)) ?_; (with_reducible refine (corebankref41_Expired.calls ((rd_T53 l0 t301).f0) ((rd_T53 l0 t301).f1) ((rd_T53 l0 t301).f2) ((rd_T53 l0 t301).f3) ((rd_T53 l0 t301).f4) ((rd_T53 l0 t301).f5) ((rd_T53 l0 t301).f6) a3 false _ A18.out).mono ?_); rintro e w24 ⟨rfl, hb⟩; refine ⟨_, rfl, ?_⟩; have n0_ := Aside0.mk (blk_below (g := gb303) (by (with_reducible repeat (first | refine blk_drewN ?_ _ | refine blk_drew ?_ | refine blk_alloc ?_ _)); exact BK303.out) hb); have n1_ := Aside0.mk (below_step (by repeat (with_reducible first | exact HB.out | apply below_alloc | apply pw_below_drewN | apply below_drew1 | refine below_set ?_ GE303.out)) hb); clear BK303; clear HB; have BK303 := n0_; have HB := n1_; clear n0_ n1_; (try clear hb); (try clear hb2); (try clear hk); (try clear hi); have hcz25 := blk_cell BK303.out; have hfz25 := blk_frozen BK303.out))
         go_ret
         exact ⟨by first | rfl | (simp [errW_none, errW_some] <;> rfl) | (simp [*, errW_none, errW_some] <;> rfl), by repeat (with_reducible first | exact HB.out | apply below_alloc | apply pw_below_drewN | apply below_drew1 | refine below_set ?_ GE303.out)⟩
        ·rw [if_neg c22] at H
         have c22b0 : (((rd_T53 l0 t301).f2) == 0) = false := beq_eq_false_iff_ne.mpr c22
         have c22b1 : (((rd_T53 l0 t301).f2) != 0) = true := bne_iff_ne.mpr c22
         by_cases c26 : a2 > ((rd_T53 l0 t301).f2)
         ·rw [if_pos c26] at H
          have c26b0 : decide (((rd_T53 l0 t301).f2) < a2) = true := decide_eq_true c26
          clear c26
          obtain rfl := Option.some.inj H
          have hcz27 := blk_cell BK303.out
          have hfz27 := blk_frozen BK303.out
          go_wp2_with (first | ((with_reducible refine gate_callee (f := 51) rfl ?_); refine goesL_ (some 37) rfl rfl Tryd.func51 (by kernel_rfl) rfl #[.agg #[.int .i64 ((rd_T53 l0 t301).f0), .int .i64 ((rd_T53 l0 t301).f1), .int .i64 ((rd_T53 l0 t301).f2), .int .i64 ((rd_T53 l0 t301).f3), .int .i64 ((rd_T53 l0 t301).f4), .int .i64 ((rd_T53 l0 t301).f5), .string ((rd_T53 l0 t301).f6)], .int .i64 a3] rfl (by (try simp only [List.map_toArray, List.map_cons, List.map_nil]); first | done | rfl | (simp only [List.length_drop, List.length_take]; rfl)) ?_; (with_reducible refine (corebankref41_Expired.calls ((rd_T53 l0 t301).f0) ((rd_T53 l0 t301).f1) ((rd_T53 l0 t301).f2) ((rd_T53 l0 t301).f3) ((rd_T53 l0 t301).f4) ((rd_T53 l0 t301).f5) ((rd_T53 l0 t301).f6) a3 false _ A18.out).mono ?_); rintro e w28 ⟨rfl, hb⟩; refine ⟨_, rfl, ?_⟩; have n0_ := Aside0.mk (blk_below (g := gb303) (by (with_reducible repeat (first | refine blk_drewN ?_ _ | refine blk_drew ?_ | refine blk_alloc ?_ _)); exact BK303.out) hb); have n1_ := Aside0.mk (below_step (by repeat (with_reducible first | exact HB.out | apply below_alloc | apply pw_below_drewN | apply below_drew1 | refine below_set ?_ GE303.out)) hb); clear BK303; clear HB; have BK303 := n0_; have HB := n1_; clear n0_ n1_; (try clear hb); (try clear hb2); (try clear hk); (try clear hi); have hcz29 := blk_cell BK303.out; have hfz29 := blk_frozen BK303.out))
          go_ret
          exact ⟨by first | rfl | (simp [errW_none, errW_some] <;> rfl) | (simp [*, errW_none, errW_some] <;> rfl), by repeat (with_reducible first | exact HB.out | apply below_alloc | apply pw_below_drewN | apply below_drew1 | refine below_set ?_ GE303.out)⟩
         ·rw [if_neg c26] at H
          have c26b0 : decide (((rd_T53 l0 t301).f2) < a2) = false := decide_eq_false c26
          clear c26
          obtain rfl := Option.some.inj H
          have hcz30 := blk_cell BK303.out
          have hfz30 := blk_frozen BK303.out
          go_wp2_with (first | ((with_reducible refine gate_callee (f := 51) rfl ?_); refine goesL_ (some 37) rfl rfl Tryd.func51 (by kernel_rfl) rfl #[.agg #[.int .i64 ((rd_T53 l0 t301).f0), .int .i64 ((rd_T53 l0 t301).f1), .int .i64 ((rd_T53 l0 t301).f2), .int .i64 ((rd_T53 l0 t301).f3), .int .i64 ((rd_T53 l0 t301).f4), .int .i64 ((rd_T53 l0 t301).f5), .string ((rd_T53 l0 t301).f6)], .int .i64 a3] rfl (by (try simp only [List.map_toArray, List.map_cons, List.map_nil]); first | done | rfl | (simp only [List.length_drop, List.length_take]; rfl)) ?_; (with_reducible refine (corebankref41_Expired.calls ((rd_T53 l0 t301).f0) ((rd_T53 l0 t301).f1) ((rd_T53 l0 t301).f2) ((rd_T53 l0 t301).f3) ((rd_T53 l0 t301).f4) ((rd_T53 l0 t301).f5) ((rd_T53 l0 t301).f6) a3 false _ A18.out).mono ?_); rintro e w31 ⟨rfl, hb⟩; refine ⟨_, rfl, ?_⟩; have n0_ := Aside0.mk (blk_below (g := gb303) (by (with_reducible repeat (first | refine blk_drewN ?_ _ | refine blk_drew ?_ | refine blk_alloc ?_ _)); exact BK303.out) hb); have n1_ := Aside0.mk (below_step (by repeat (with_reducible first | exact HB.out | apply below_alloc | apply pw_below_drewN | apply below_drew1 | refine below_set ?_ GE303.out)) hb); clear BK303; clear HB; have BK303 := n0_; have HB := n1_; clear n0_ n1_; (try clear hb); (try clear hb2); (try clear hk); (try clear hi); have hcz32 := blk_cell BK303.out; have hfz32 := blk_frozen BK303.out))
          go_ret
          exact ⟨by first | rfl | (simp [errW_none, errW_some] <;> rfl) | (simp [*, errW_none, errW_some] <;> rfl), by repeat (with_reducible first | exact HB.out | apply below_alloc | apply pw_below_drewN | apply below_drew1 | refine below_set ?_ GE303.out)⟩
   ·rw [if_neg c8] at H
    exact absurd H (by simp)
  ·rw [if_neg c7] at H
   exact absurd H (by simp)

end Go.Proofs.YtfdjgdjmllkdcaaDoor.X
