-- Written by program (wip/tools/xprint.sh) for this seat; not trusted: Lean checks it.
import Derived.Test.YtfgcachcbhkkoaaX0
import Derived.Test.YtfgcachcbhkkoaaX20
import Derived.Test.YtfgcachcbhkkoaaX22
namespace Go.Proofs.Ytfgcachcbhkkoaa.X
open Go.RowKit Go.Proofs.YtfgcachcbhkkoaaW.PrintWords Go.Proofs.YtfgcachcbhkkoaaW.PrintLast Go.Proofs.YtfgcachcbhkkoaaW.PrintMore
attribute [local go_sem] max2_int min2_int max_two min_two max_three min_three max_four min_four   -- for this text's walks alone
set_option linter.unusedVariables false
set_option linter.unusedSimpArgs false

/-! ### corebankref41_Allows: function 23 -/
def corebankref41_Allows.j0 : Nat → Int → Int → Bool → Int → Int → Int → Int → Int → Int → ByteArray → Option (Int)
  | 0, _, _, _, _, _, _, _, _, _, _ => none
  | k + 1, x2, x3, x34, x275000, x275001, x275002, x275003, x275004, x275005, x275006 => if x34 = true then (some 17) else ((corebankref41_Expired.f x275000 x275001 x275002 x275003 x275004 x275005 x275006 x3).bind fun t275 => (if t275 = true then (some 23) else (if x275002 = 0 then (some 0) else (if x2 > x275002 then (some 18) else (some 0)))))
def corebankref41_Allows.f (k : Nat) (l0 : List (S28)) (a1 : Int) (a2 : Int) (a3 : Int) : Option (Int) := (corebankref41_Place.f k l0 a1).bind fun t272 => (if t272 < 0 then (some 11) else (if 0 ≤ t272 then (if t272 < (l0.length : Int) then (if ((rd_T28 l0 t272).f5) = 0 then (corebankref41_Allows.j0 k a2 a3 (decide (((rd_T28 l0 t272).f3) > a3)) ((rd_T28 l0 t272).f0) ((rd_T28 l0 t272).f1) ((rd_T28 l0 t272).f2) ((rd_T28 l0 t272).f3) ((rd_T28 l0 t272).f4) ((rd_T28 l0 t272).f5) ((rd_T28 l0 t272).f6)) else (if ((rd_T28 l0 t272).f5) ≤ a3 then (corebankref41_Allows.j0 k a2 a3 true ((rd_T28 l0 t272).f0) ((rd_T28 l0 t272).f1) ((rd_T28 l0 t272).f2) ((rd_T28 l0 t272).f3) ((rd_T28 l0 t272).f4) ((rd_T28 l0 t272).f5) ((rd_T28 l0 t272).f6)) else (corebankref41_Allows.j0 k a2 a3 (decide (((rd_T28 l0 t272).f3) > a3)) ((rd_T28 l0 t272).f0) ((rd_T28 l0 t272).f1) ((rd_T28 l0 t272).f2) ((rd_T28 l0 t272).f3) ((rd_T28 l0 t272).f4) ((rd_T28 l0 t272).f5) ((rd_T28 l0 t272).f6)))) else (none)) else (none)))
theorem corebankref41_Allows.mono_l : ∀ k, (∀ y0 y1 y2 y3 y4 y5 y6 y7 y8 y9, LeO (corebankref41_Allows.j0 k y0 y1 y2 y3 y4 y5 y6 y7 y8 y9) (corebankref41_Allows.j0 (k + 1) y0 y1 y2 y3 y4 y5 y6 y7 y8 y9))
  | 0 => fun _ _ _ _ _ _ _ _ _ _ r h => by simp [corebankref41_Allows.j0] at h
  | k + 1 => by
    have ih0 := corebankref41_Allows.mono_l k
    · intro y0 y1 y2 y3 y4 y5 y6 y7 y8 y9
      unfold corebankref41_Allows.j0
      repeat' first
      | (with_reducible exact ih0 _ _ _ _ _ _ _ _ _ _)
      | (with_reducible exact corebankref41_Place.mono _ _ _)
      | (with_reducible exact LeO.refl _)
      | (with_reducible exact LeO.none _)
      | (with_reducible refine LeO.ite ?_ ?_)
      | (with_reducible refine LeO.bind ?_ (fun _ => ?_))
      | exact ih0 _ _ _ _ _ _ _ _ _ _
      | exact corebankref41_Place.mono _ _ _
      | exact LeO.none _
      | refine LeO.ite ?_ ?_
      | refine LeO.bind ?_ (fun _ => ?_)
theorem corebankref41_Allows.mono : ∀ a0 a1 a2 a3 k, LeO (corebankref41_Allows.f k a0 a1 a2 a3) (corebankref41_Allows.f (k + 1) a0 a1 a2 a3) := by
  intro a0 a1 a2 a3 k
  have ih0 := corebankref41_Allows.mono_l k
  unfold corebankref41_Allows.f
  repeat' first
      | (with_reducible exact ih0 _ _ _ _ _ _ _ _ _ _)
      | (with_reducible exact corebankref41_Place.mono _ _ _)
      | (with_reducible exact LeO.refl _)
      | (with_reducible exact LeO.none _)
      | (with_reducible refine LeO.ite ?_ ?_)
      | (with_reducible refine LeO.bind ?_ (fun _ => ?_))
      | exact ih0 _ _ _ _ _ _ _ _ _ _
      | exact corebankref41_Place.mono _ _ _
      | exact LeO.none _
      | refine LeO.ite ?_ ?_
      | refine LeO.bind ?_ (fun _ => ?_)
set_option maxHeartbeats 8000000 in
set_option maxRecDepth 100000 in
theorem corebankref41_Allows.calls (k : Nat) (A0 : Option Addr) (c0 : Nat) (l0 : List (S28)) (a1 : Int) (a2 : Int) (a3 : Int) (r : Int) (w : World) (hr0 : Kd.C k28 w A0 l0.length l0) (hc0 : l0.length ≤ c0) (h : corebankref41_Allows.f k l0 a1 a2 a3 = some r) :
    Calls Try.prog 23 #[.slice A0 l0.length c0, .int .i64 a1, .int .i64 a2, .int .i64 a3] w fun e w' => e = .returned (.int .i64 r) ∧ Below w.heap.size w w' := by
  have hu28 := Try.underlying28
  have HR0 := Aside0.mk hr0
  have HC0 := Aside0.mk hc0
  clear hr0 hc0
  have HB := Aside0.mk (Below.refl w.heap.size w)
  have H : ((corebankref41_Place.f k l0 a1).bind fun t272 => (if t272 < 0 then (some 11) else (if 0 ≤ t272 then (if t272 < (l0.length : Int) then (if ((rd_T28 l0 t272).f5) = 0 then (corebankref41_Allows.j0 k a2 a3 (decide (((rd_T28 l0 t272).f3) > a3)) ((rd_T28 l0 t272).f0) ((rd_T28 l0 t272).f1) ((rd_T28 l0 t272).f2) ((rd_T28 l0 t272).f3) ((rd_T28 l0 t272).f4) ((rd_T28 l0 t272).f5) ((rd_T28 l0 t272).f6)) else (if ((rd_T28 l0 t272).f5) ≤ a3 then (corebankref41_Allows.j0 k a2 a3 true ((rd_T28 l0 t272).f0) ((rd_T28 l0 t272).f1) ((rd_T28 l0 t272).f2) ((rd_T28 l0 t272).f3) ((rd_T28 l0 t272).f4) ((rd_T28 l0 t272).f5) ((rd_T28 l0 t272).f6)) else (corebankref41_Allows.j0 k a2 a3 (decide (((rd_T28 l0 t272).f3) > a3)) ((rd_T28 l0 t272).f0) ((rd_T28 l0 t272).f1) ((rd_T28 l0 t272).f2) ((rd_T28 l0 t272).f3) ((rd_T28 l0 t272).f4) ((rd_T28 l0 t272).f5) ((rd_T28 l0 t272).f6)))) else (none)) else (none)))) = some r := h
  clear h
  replace H := Option.bind_eq_some_iff.mp H
  obtain ⟨t272, A50, H⟩ := H
  replace H : (if t272 < 0 then (some 11) else (if 0 ≤ t272 then (if t272 < (l0.length : Int) then (if ((rd_T28 l0 t272).f5) = 0 then (corebankref41_Allows.j0 k a2 a3 (decide (((rd_T28 l0 t272).f3) > a3)) ((rd_T28 l0 t272).f0) ((rd_T28 l0 t272).f1) ((rd_T28 l0 t272).f2) ((rd_T28 l0 t272).f3) ((rd_T28 l0 t272).f4) ((rd_T28 l0 t272).f5) ((rd_T28 l0 t272).f6)) else (if ((rd_T28 l0 t272).f5) ≤ a3 then (corebankref41_Allows.j0 k a2 a3 true ((rd_T28 l0 t272).f0) ((rd_T28 l0 t272).f1) ((rd_T28 l0 t272).f2) ((rd_T28 l0 t272).f3) ((rd_T28 l0 t272).f4) ((rd_T28 l0 t272).f5) ((rd_T28 l0 t272).f6)) else (corebankref41_Allows.j0 k a2 a3 (decide (((rd_T28 l0 t272).f3) > a3)) ((rd_T28 l0 t272).f0) ((rd_T28 l0 t272).f1) ((rd_T28 l0 t272).f2) ((rd_T28 l0 t272).f3) ((rd_T28 l0 t272).f4) ((rd_T28 l0 t272).f5) ((rd_T28 l0 t272).f6)))) else (none)) else (none))) = some r := H
  have A5 := Aside0.mk A50
  clear A50
  by_cases c6 : t272 < 0
  · rw [if_pos c6] at H
    have c6b0 : decide (t272 < 0) = true := decide_eq_true c6
    clear c6
    obtain rfl := Option.some.inj H
    go_enter Try.func23, Try.ntmps23
    go_wp2_with (first | ((with_reducible refine gate_callee (f := 30) rfl ?_); refine goesL_ (some 13) rfl rfl Try.func30 (by kernel_rfl) rfl #[.slice A0 l0.length c0, .int .i64 a1] rfl (by (try simp only [List.map_toArray, List.map_cons, List.map_nil]); first | done | rfl | (simp only [List.length_drop, List.length_take]; rfl)) ?_; (with_reducible refine (corebankref41_Place.calls k _ _ l0 a1 t272 _ ?side1 ?side2 A5.out).mono ?_); (case side1 => repeat (first | exact HR0.out | (with_reducible refine Kd.C_alloc ?_ _) | (with_reducible refine Kd.C_drewN ?_ _) | (with_reducible refine Kd.C_drew ?_))); (case side2 => exact HC0.out); rintro e w' ⟨rfl, ⟨nd, rfl⟩⟩; refine ⟨_, rfl, ?_⟩))
    go_ret
    exact ⟨by first | rfl | (simp [errW_none, errW_some] <;> rfl) | (simp [*, errW_none, errW_some] <;> rfl), by repeat (first | (with_reducible first | exact HB.out | apply below_alloc | apply pw_below_drewN | apply below_drew1) | exact HB.out)⟩
  · rw [if_neg c6] at H
    have c6b0 : decide (t272 < 0) = false := decide_eq_false c6
    clear c6
    by_cases c7 : 0 ≤ t272
    · rw [if_pos c7] at H
      have c7b0 : decide (0 ≤ t272) = true := decide_eq_true c7
      clear c7
      by_cases c8 : t272 < (l0.length : Int)
      · rw [if_pos c8] at H
        have c8b0 : decide (t272 < (l0.length : Int)) = true := decide_eq_true c8
        clear c8
        have HC9 := Aside0.mk H
        clear H
        go_enter Try.func23, Try.ntmps23
        go_upto_region 5 with (first | ((with_reducible refine gate_callee (f := 30) rfl ?_); refine goesL_ (some 13) rfl rfl Try.func30 (by kernel_rfl) rfl #[.slice A0 l0.length c0, .int .i64 a1] rfl (by (try simp only [List.map_toArray, List.map_cons, List.map_nil]); first | done | rfl | (simp only [List.length_drop, List.length_take]; rfl)) ?_; (with_reducible refine (corebankref41_Place.calls k _ _ l0 a1 t272 _ ?side1 ?side2 A5.out).mono ?_); (case side1 => repeat (first | exact HR0.out | (with_reducible refine Kd.C_alloc ?_ _) | (with_reducible refine Kd.C_drewN ?_ _) | (with_reducible refine Kd.C_drew ?_))); (case side2 => exact HC0.out); rintro e w' ⟨rfl, ⟨nd, rfl⟩⟩; refine ⟨_, rfl, ?_⟩; have p273 : 0 ≤ (t272 : Int) := of_decide_eq_true (by first | (with_reducible assumption) | assumption); have q273 : t272 < (l0.length : Int) := of_decide_eq_true (by first | (with_reducible assumption) | assumption); obtain ⟨ad273, e273, hx273_0, hx273_1, hx273_2, hx273_3, hx273_4, hx273_5, hx273_6⟩ := at_T28 HR0.out t272 p273 q273; cases e273; replace p273 := eq_true p273; replace q273 := eq_true q273) | ((with_reducible refine gate_dst (N := 10) rfl ?_); refine box_event ?hg (N := 10) ?hd (cs := #[.int .i64 0, .int .i64 0, .int .i64 0, .int .i64 0, .int .i64 0, .int .i64 0, .string (⟨#[]⟩ : ByteArray)]) (t := 28) ?hr ?_; (case hd => rfl); (case hg => rfl); (case hr => first | (go_simp; done) | (go_simp; rfl)); intro gb274 hg w10 hbox hb; have n0_ := Aside0.mk (below_step (by repeat (first | (with_reducible first | exact HB.out | apply below_alloc | apply pw_below_drewN | apply below_drew1) | exact HB.out)) hb); have n1_ := Aside0.mk (hbox); have n2_ := Aside0.mk ((by rw [hg]; exact (below_size (by repeat (first | (with_reducible first | exact HB.out | apply below_alloc | apply pw_below_drewN | apply below_drew1) | exact HB.out))) : w.heap.size ≤ gb274)); have n3_ := Aside0.mk ((by rw [hg]; exact (below_size (by repeat (first | (with_reducible first | exact HB.out | apply below_alloc | apply pw_below_drewN | apply below_drew1) | exact HB.out))) : w.heap.size ≤ gb274)); clear HB; have HB := n0_; have BK274 := n1_; have GW274 := n2_; have GE274 := n3_; clear n0_ n1_ n2_ n3_; clear hb hbox hg; have hcz11_0 : w10.cell? ⟨gb274, 0, none⟩ = some (.int .i64 0) := (blk_cell BK274.out 0).trans rfl; have hcz11_1 : w10.cell? ⟨gb274, 1, none⟩ = some (.int .i64 0) := (blk_cell BK274.out 1).trans rfl; have hcz11_2 : w10.cell? ⟨gb274, 2, none⟩ = some (.int .i64 0) := (blk_cell BK274.out 2).trans rfl; have hcz11_3 : w10.cell? ⟨gb274, 3, none⟩ = some (.int .i64 0) := (blk_cell BK274.out 3).trans rfl; have hcz11_4 : w10.cell? ⟨gb274, 4, none⟩ = some (.int .i64 0) := (blk_cell BK274.out 4).trans rfl; have hcz11_5 : w10.cell? ⟨gb274, 5, none⟩ = some (.int .i64 0) := (blk_cell BK274.out 5).trans rfl; have hcz11_6 : w10.cell? ⟨gb274, 6, none⟩ = some (.string (⟨#[]⟩ : ByteArray)) := (blk_cell BK274.out 6).trans rfl; have hfz11_0 := blk_frozen BK274.out 0; have hfz11_1 := blk_frozen BK274.out 1; have hfz11_2 := blk_frozen BK274.out 2; have hfz11_3 := blk_frozen BK274.out 3; have hfz11_4 := blk_frozen BK274.out 4; have hfz11_5 := blk_frozen BK274.out 5; have hfz11_6 := blk_frozen BK274.out 6))
        (try simp only [Act.put, List.setIfInBounds_toArray, List.set_cons_zero, List.set_cons_succ])
        go_cut [34] (fun v34 wc => ∃ (kq : Nat) (x34_8 : Bool), v34 = .bool x34_8 ∧ Aside0 (corebankref41_Allows.j0 kq a2 a3 x34_8 ((rd_T28 l0 t272).f0) ((rd_T28 l0 t272).f1) ((rd_T28 l0 t272).f2) ((rd_T28 l0 t272).f3) ((rd_T28 l0 t272).f4) ((rd_T28 l0 t272).f5) ((rd_T28 l0 t272).f6) = some r) ∧ Aside0 (kq ≤ k) ∧ Aside0 (wc.heap[gb274]? = some (.cells #[.int .i64 ((rd_T28 l0 t272).f0), .int .i64 ((rd_T28 l0 t272).f1), .int .i64 ((rd_T28 l0 t272).f2), .int .i64 ((rd_T28 l0 t272).f3), .int .i64 ((rd_T28 l0 t272).f4), .int .i64 ((rd_T28 l0 t272).f5), .string ((rd_T28 l0 t272).f6)] 28 (0, 0))) ∧ Aside0 (Below w.heap.size w wc))
        case first =>
          have H := HC9.out
          clear HC9
          by_cases c12 : ((rd_T28 l0 t272).f5) = 0
          · rw [if_pos c12] at H
            have c12b0 : (((rd_T28 l0 t272).f5) == 0) = true := beq_iff_eq.mpr c12
            have c12b1 : (((rd_T28 l0 t272).f5) != 0) = false := bne_eq_false_iff_eq.mpr c12
            clear c12
            (first | rw [c12b0] | (simp only [i64_w, i32_w]; rw [c12b0]) | skip)
            have H' := Aside0.mk H
            clear H
            have hcz13_0 : w10.cell? ⟨gb274, 0, none⟩ = some (.int .i64 0) := (blk_cell BK274.out 0).trans rfl
            have hcz13_1 : w10.cell? ⟨gb274, 1, none⟩ = some (.int .i64 0) := (blk_cell BK274.out 1).trans rfl
            have hcz13_2 : w10.cell? ⟨gb274, 2, none⟩ = some (.int .i64 0) := (blk_cell BK274.out 2).trans rfl
            have hcz13_3 : w10.cell? ⟨gb274, 3, none⟩ = some (.int .i64 0) := (blk_cell BK274.out 3).trans rfl
            have hcz13_4 : w10.cell? ⟨gb274, 4, none⟩ = some (.int .i64 0) := (blk_cell BK274.out 4).trans rfl
            have hcz13_5 : w10.cell? ⟨gb274, 5, none⟩ = some (.int .i64 0) := (blk_cell BK274.out 5).trans rfl
            have hcz13_6 : w10.cell? ⟨gb274, 6, none⟩ = some (.string (⟨#[]⟩ : ByteArray)) := (blk_cell BK274.out 6).trans rfl
            have hfz13_0 := blk_frozen BK274.out 0
            have hfz13_1 := blk_frozen BK274.out 1
            have hfz13_2 := blk_frozen BK274.out 2
            have hfz13_3 := blk_frozen BK274.out 3
            have hfz13_4 := blk_frozen BK274.out 4
            have hfz13_5 := blk_frozen BK274.out 5
            have hfz13_6 := blk_frozen BK274.out 6
            go_wp2
            go_meet
            case rel => exact ⟨_, (decide (((rd_T28 l0 t272).f3) > a3)), (by first | rfl | (simp; done) | (simp [*]; done)), H', ⟨by first | omega | exact Nat.le_refl _⟩, ⟨by (with_reducible repeat (first | refine blk_drewN ?_ _ | refine blk_drew ?_ | refine blk_alloc ?_ _)); refine blk_put (cs := #[.int .i64 ((rd_T28 l0 t272).f0), .int .i64 ((rd_T28 l0 t272).f1), .int .i64 ((rd_T28 l0 t272).f2), .int .i64 ((rd_T28 l0 t272).f3), .int .i64 ((rd_T28 l0 t272).f4), .int .i64 ((rd_T28 l0 t272).f5), .string (⟨#[]⟩ : ByteArray)]) ?_ 6 _ rfl; (with_reducible repeat (first | refine blk_drewN ?_ _ | refine blk_drew ?_ | refine blk_alloc ?_ _)); refine blk_put (cs := #[.int .i64 ((rd_T28 l0 t272).f0), .int .i64 ((rd_T28 l0 t272).f1), .int .i64 ((rd_T28 l0 t272).f2), .int .i64 ((rd_T28 l0 t272).f3), .int .i64 ((rd_T28 l0 t272).f4), .int .i64 0, .string (⟨#[]⟩ : ByteArray)]) ?_ 5 _ rfl; (with_reducible repeat (first | refine blk_drewN ?_ _ | refine blk_drew ?_ | refine blk_alloc ?_ _)); refine blk_put (cs := #[.int .i64 ((rd_T28 l0 t272).f0), .int .i64 ((rd_T28 l0 t272).f1), .int .i64 ((rd_T28 l0 t272).f2), .int .i64 ((rd_T28 l0 t272).f3), .int .i64 0, .int .i64 0, .string (⟨#[]⟩ : ByteArray)]) ?_ 4 _ rfl; (with_reducible repeat (first | refine blk_drewN ?_ _ | refine blk_drew ?_ | refine blk_alloc ?_ _)); refine blk_put (cs := #[.int .i64 ((rd_T28 l0 t272).f0), .int .i64 ((rd_T28 l0 t272).f1), .int .i64 ((rd_T28 l0 t272).f2), .int .i64 0, .int .i64 0, .int .i64 0, .string (⟨#[]⟩ : ByteArray)]) ?_ 3 _ rfl; (with_reducible repeat (first | refine blk_drewN ?_ _ | refine blk_drew ?_ | refine blk_alloc ?_ _)); refine blk_put (cs := #[.int .i64 ((rd_T28 l0 t272).f0), .int .i64 ((rd_T28 l0 t272).f1), .int .i64 0, .int .i64 0, .int .i64 0, .int .i64 0, .string (⟨#[]⟩ : ByteArray)]) ?_ 2 _ rfl; (with_reducible repeat (first | refine blk_drewN ?_ _ | refine blk_drew ?_ | refine blk_alloc ?_ _)); refine blk_put (cs := #[.int .i64 ((rd_T28 l0 t272).f0), .int .i64 0, .int .i64 0, .int .i64 0, .int .i64 0, .int .i64 0, .string (⟨#[]⟩ : ByteArray)]) ?_ 1 _ rfl; (with_reducible repeat (first | refine blk_drewN ?_ _ | refine blk_drew ?_ | refine blk_alloc ?_ _)); refine blk_put (cs := #[.int .i64 0, .int .i64 0, .int .i64 0, .int .i64 0, .int .i64 0, .int .i64 0, .string (⟨#[]⟩ : ByteArray)]) ?_ 0 _ rfl; (with_reducible repeat (first | refine blk_drewN ?_ _ | refine blk_drew ?_ | refine blk_alloc ?_ _)); exact BK274.out⟩, ⟨by repeat (first | (with_reducible first | exact HB.out | apply below_alloc | apply pw_below_drewN | apply below_drew1 | refine below_set ?_ GE274.out) | exact HB.out)⟩⟩
          · rw [if_neg c12] at H
            have c12b0 : (((rd_T28 l0 t272).f5) == 0) = false := beq_eq_false_iff_ne.mpr c12
            have c12b1 : (((rd_T28 l0 t272).f5) != 0) = true := bne_iff_ne.mpr c12
            (first | rw [c12b0] | (simp only [i64_w, i32_w]; rw [c12b0]) | skip)
            by_cases c14 : ((rd_T28 l0 t272).f5) ≤ a3
            · rw [if_pos c14] at H
              have c14b0 : decide (((rd_T28 l0 t272).f5) ≤ a3) = true := decide_eq_true c14
              clear c14
              have H' := Aside0.mk H
              clear H
              have hcz15_0 : w10.cell? ⟨gb274, 0, none⟩ = some (.int .i64 0) := (blk_cell BK274.out 0).trans rfl
              have hcz15_1 : w10.cell? ⟨gb274, 1, none⟩ = some (.int .i64 0) := (blk_cell BK274.out 1).trans rfl
              have hcz15_2 : w10.cell? ⟨gb274, 2, none⟩ = some (.int .i64 0) := (blk_cell BK274.out 2).trans rfl
              have hcz15_3 : w10.cell? ⟨gb274, 3, none⟩ = some (.int .i64 0) := (blk_cell BK274.out 3).trans rfl
              have hcz15_4 : w10.cell? ⟨gb274, 4, none⟩ = some (.int .i64 0) := (blk_cell BK274.out 4).trans rfl
              have hcz15_5 : w10.cell? ⟨gb274, 5, none⟩ = some (.int .i64 0) := (blk_cell BK274.out 5).trans rfl
              have hcz15_6 : w10.cell? ⟨gb274, 6, none⟩ = some (.string (⟨#[]⟩ : ByteArray)) := (blk_cell BK274.out 6).trans rfl
              have hfz15_0 := blk_frozen BK274.out 0
              have hfz15_1 := blk_frozen BK274.out 1
              have hfz15_2 := blk_frozen BK274.out 2
              have hfz15_3 := blk_frozen BK274.out 3
              have hfz15_4 := blk_frozen BK274.out 4
              have hfz15_5 := blk_frozen BK274.out 5
              have hfz15_6 := blk_frozen BK274.out 6
              go_wp2
              go_meet
              case rel => exact ⟨_, (true), (by first | rfl | (simp; done) | (simp [*]; done)), H', ⟨by first | omega | exact Nat.le_refl _⟩, ⟨by (with_reducible repeat (first | refine blk_drewN ?_ _ | refine blk_drew ?_ | refine blk_alloc ?_ _)); refine blk_put (cs := #[.int .i64 ((rd_T28 l0 t272).f0), .int .i64 ((rd_T28 l0 t272).f1), .int .i64 ((rd_T28 l0 t272).f2), .int .i64 ((rd_T28 l0 t272).f3), .int .i64 ((rd_T28 l0 t272).f4), .int .i64 ((rd_T28 l0 t272).f5), .string (⟨#[]⟩ : ByteArray)]) ?_ 6 _ rfl; (with_reducible repeat (first | refine blk_drewN ?_ _ | refine blk_drew ?_ | refine blk_alloc ?_ _)); refine blk_put (cs := #[.int .i64 ((rd_T28 l0 t272).f0), .int .i64 ((rd_T28 l0 t272).f1), .int .i64 ((rd_T28 l0 t272).f2), .int .i64 ((rd_T28 l0 t272).f3), .int .i64 ((rd_T28 l0 t272).f4), .int .i64 0, .string (⟨#[]⟩ : ByteArray)]) ?_ 5 _ rfl; (with_reducible repeat (first | refine blk_drewN ?_ _ | refine blk_drew ?_ | refine blk_alloc ?_ _)); refine blk_put (cs := #[.int .i64 ((rd_T28 l0 t272).f0), .int .i64 ((rd_T28 l0 t272).f1), .int .i64 ((rd_T28 l0 t272).f2), .int .i64 ((rd_T28 l0 t272).f3), .int .i64 0, .int .i64 0, .string (⟨#[]⟩ : ByteArray)]) ?_ 4 _ rfl; (with_reducible repeat (first | refine blk_drewN ?_ _ | refine blk_drew ?_ | refine blk_alloc ?_ _)); refine blk_put (cs := #[.int .i64 ((rd_T28 l0 t272).f0), .int .i64 ((rd_T28 l0 t272).f1), .int .i64 ((rd_T28 l0 t272).f2), .int .i64 0, .int .i64 0, .int .i64 0, .string (⟨#[]⟩ : ByteArray)]) ?_ 3 _ rfl; (with_reducible repeat (first | refine blk_drewN ?_ _ | refine blk_drew ?_ | refine blk_alloc ?_ _)); refine blk_put (cs := #[.int .i64 ((rd_T28 l0 t272).f0), .int .i64 ((rd_T28 l0 t272).f1), .int .i64 0, .int .i64 0, .int .i64 0, .int .i64 0, .string (⟨#[]⟩ : ByteArray)]) ?_ 2 _ rfl; (with_reducible repeat (first | refine blk_drewN ?_ _ | refine blk_drew ?_ | refine blk_alloc ?_ _)); refine blk_put (cs := #[.int .i64 ((rd_T28 l0 t272).f0), .int .i64 0, .int .i64 0, .int .i64 0, .int .i64 0, .int .i64 0, .string (⟨#[]⟩ : ByteArray)]) ?_ 1 _ rfl; (with_reducible repeat (first | refine blk_drewN ?_ _ | refine blk_drew ?_ | refine blk_alloc ?_ _)); refine blk_put (cs := #[.int .i64 0, .int .i64 0, .int .i64 0, .int .i64 0, .int .i64 0, .int .i64 0, .string (⟨#[]⟩ : ByteArray)]) ?_ 0 _ rfl; (with_reducible repeat (first | refine blk_drewN ?_ _ | refine blk_drew ?_ | refine blk_alloc ?_ _)); exact BK274.out⟩, ⟨by repeat (first | (with_reducible first | exact HB.out | apply below_alloc | apply pw_below_drewN | apply below_drew1 | refine below_set ?_ GE274.out) | exact HB.out)⟩⟩
            · rw [if_neg c14] at H
              have c14b0 : decide (((rd_T28 l0 t272).f5) ≤ a3) = false := decide_eq_false c14
              clear c14
              have H' := Aside0.mk H
              clear H
              have hcz16_0 : w10.cell? ⟨gb274, 0, none⟩ = some (.int .i64 0) := (blk_cell BK274.out 0).trans rfl
              have hcz16_1 : w10.cell? ⟨gb274, 1, none⟩ = some (.int .i64 0) := (blk_cell BK274.out 1).trans rfl
              have hcz16_2 : w10.cell? ⟨gb274, 2, none⟩ = some (.int .i64 0) := (blk_cell BK274.out 2).trans rfl
              have hcz16_3 : w10.cell? ⟨gb274, 3, none⟩ = some (.int .i64 0) := (blk_cell BK274.out 3).trans rfl
              have hcz16_4 : w10.cell? ⟨gb274, 4, none⟩ = some (.int .i64 0) := (blk_cell BK274.out 4).trans rfl
              have hcz16_5 : w10.cell? ⟨gb274, 5, none⟩ = some (.int .i64 0) := (blk_cell BK274.out 5).trans rfl
              have hcz16_6 : w10.cell? ⟨gb274, 6, none⟩ = some (.string (⟨#[]⟩ : ByteArray)) := (blk_cell BK274.out 6).trans rfl
              have hfz16_0 := blk_frozen BK274.out 0
              have hfz16_1 := blk_frozen BK274.out 1
              have hfz16_2 := blk_frozen BK274.out 2
              have hfz16_3 := blk_frozen BK274.out 3
              have hfz16_4 := blk_frozen BK274.out 4
              have hfz16_5 := blk_frozen BK274.out 5
              have hfz16_6 := blk_frozen BK274.out 6
              go_wp2
              go_meet
              case rel => exact ⟨_, (decide (((rd_T28 l0 t272).f3) > a3)), (by first | rfl | (simp; done) | (simp [*]; done)), H', ⟨by first | omega | exact Nat.le_refl _⟩, ⟨by (with_reducible repeat (first | refine blk_drewN ?_ _ | refine blk_drew ?_ | refine blk_alloc ?_ _)); refine blk_put (cs := #[.int .i64 ((rd_T28 l0 t272).f0), .int .i64 ((rd_T28 l0 t272).f1), .int .i64 ((rd_T28 l0 t272).f2), .int .i64 ((rd_T28 l0 t272).f3), .int .i64 ((rd_T28 l0 t272).f4), .int .i64 ((rd_T28 l0 t272).f5), .string (⟨#[]⟩ : ByteArray)]) ?_ 6 _ rfl; (with_reducible repeat (first | refine blk_drewN ?_ _ | refine blk_drew ?_ | refine blk_alloc ?_ _)); refine blk_put (cs := #[.int .i64 ((rd_T28 l0 t272).f0), .int .i64 ((rd_T28 l0 t272).f1), .int .i64 ((rd_T28 l0 t272).f2), .int .i64 ((rd_T28 l0 t272).f3), .int .i64 ((rd_T28 l0 t272).f4), .int .i64 0, .string (⟨#[]⟩ : ByteArray)]) ?_ 5 _ rfl; (with_reducible repeat (first | refine blk_drewN ?_ _ | refine blk_drew ?_ | refine blk_alloc ?_ _)); refine blk_put (cs := #[.int .i64 ((rd_T28 l0 t272).f0), .int .i64 ((rd_T28 l0 t272).f1), .int .i64 ((rd_T28 l0 t272).f2), .int .i64 ((rd_T28 l0 t272).f3), .int .i64 0, .int .i64 0, .string (⟨#[]⟩ : ByteArray)]) ?_ 4 _ rfl; (with_reducible repeat (first | refine blk_drewN ?_ _ | refine blk_drew ?_ | refine blk_alloc ?_ _)); refine blk_put (cs := #[.int .i64 ((rd_T28 l0 t272).f0), .int .i64 ((rd_T28 l0 t272).f1), .int .i64 ((rd_T28 l0 t272).f2), .int .i64 0, .int .i64 0, .int .i64 0, .string (⟨#[]⟩ : ByteArray)]) ?_ 3 _ rfl; (with_reducible repeat (first | refine blk_drewN ?_ _ | refine blk_drew ?_ | refine blk_alloc ?_ _)); refine blk_put (cs := #[.int .i64 ((rd_T28 l0 t272).f0), .int .i64 ((rd_T28 l0 t272).f1), .int .i64 0, .int .i64 0, .int .i64 0, .int .i64 0, .string (⟨#[]⟩ : ByteArray)]) ?_ 2 _ rfl; (with_reducible repeat (first | refine blk_drewN ?_ _ | refine blk_drew ?_ | refine blk_alloc ?_ _)); refine blk_put (cs := #[.int .i64 ((rd_T28 l0 t272).f0), .int .i64 0, .int .i64 0, .int .i64 0, .int .i64 0, .int .i64 0, .string (⟨#[]⟩ : ByteArray)]) ?_ 1 _ rfl; (with_reducible repeat (first | refine blk_drewN ?_ _ | refine blk_drew ?_ | refine blk_alloc ?_ _)); refine blk_put (cs := #[.int .i64 0, .int .i64 0, .int .i64 0, .int .i64 0, .int .i64 0, .int .i64 0, .string (⟨#[]⟩ : ByteArray)]) ?_ 0 _ rfl; (with_reducible repeat (first | refine blk_drewN ?_ _ | refine blk_drew ?_ | refine blk_alloc ?_ _)); exact BK274.out⟩, ⟨by repeat (first | (with_reducible first | exact HB.out | apply below_alloc | apply pw_below_drewN | apply below_drew1 | refine below_set ?_ GE274.out) | exact HB.out)⟩⟩
        case rest =>
          clear HC9
          try clear c1
          try clear c2
          try clear p2
          try clear q2
          try clear hx2
          try clear c3
          try clear c6
          try clear c6b0
          try clear c7
          try clear c7b0
          try clear c8
          try clear c8b0
          try clear c12
          try clear c12b0
          try clear c12b1
          try clear c14
          try clear c14b0
          try clear hcz11_0
          try clear hcz11_1
          try clear hcz11_2
          try clear hcz11_3
          try clear hcz11_4
          try clear hcz11_5
          try clear hcz11_6
          try clear hcz13_0
          try clear hcz13_1
          try clear hcz13_2
          try clear hcz13_3
          try clear hcz13_4
          try clear hcz13_5
          try clear hcz13_6
          try clear hcz15_0
          try clear hcz15_1
          try clear hcz15_2
          try clear hcz15_3
          try clear hcz15_4
          try clear hcz15_5
          try clear hcz15_6
          try clear hcz16_0
          try clear hcz16_1
          try clear hcz16_2
          try clear hcz16_3
          try clear hcz16_4
          try clear hcz16_5
          try clear hcz16_6
          try clear hfz11_0
          try clear hfz11_1
          try clear hfz11_2
          try clear hfz11_3
          try clear hfz11_4
          try clear hfz11_5
          try clear hfz11_6
          try clear hfz13_0
          try clear hfz13_1
          try clear hfz13_2
          try clear hfz13_3
          try clear hfz13_4
          try clear hfz13_5
          try clear hfz13_6
          try clear hfz15_0
          try clear hfz15_1
          try clear hfz15_2
          try clear hfz15_3
          try clear hfz15_4
          try clear hfz15_5
          try clear hfz15_6
          try clear hfz16_0
          try clear hfz16_1
          try clear hfz16_2
          try clear hfz16_3
          try clear hfz16_4
          try clear hfz16_5
          try clear hfz16_6
          try clear hx273_0
          try clear hx273_1
          try clear hx273_2
          try clear hx273_3
          try clear hx273_4
          try clear hx273_5
          try clear hx273_6
          try clear p273
          try clear q273
          obtain ⟨kq, x34_8, rfl, HA, HJ8, BK274, HB⟩ := hcut
          cases kq with
          | zero => exact absurd HA.out (by simp [corebankref41_Allows.j0])
          | succ kj8 =>
            have H := HA.out
            clear HA
            simp only [corebankref41_Allows.j0] at H
            by_cases c17 : x34_8 = true
            · subst c17
              have H1 : (some 17) = some r := by rw [if_pos rfl] at H; exact H
              clear H
              have H := H1
              clear H1
              obtain rfl := Option.some.inj H
              go_wp2
              go_ret
              exact ⟨by first | rfl | (simp [errW_none, errW_some] <;> rfl) | (simp [*, errW_none, errW_some] <;> rfl), by repeat (first | (with_reducible first | exact HB.out | apply below_alloc | apply pw_below_drewN | apply below_drew1 | refine below_set ?_ GE274.out) | exact HB.out)⟩
            · replace c17 := Bool.eq_false_iff.mpr c17
              subst c17
              have H1 : ((corebankref41_Expired.f ((rd_T28 l0 t272).f0) ((rd_T28 l0 t272).f1) ((rd_T28 l0 t272).f2) ((rd_T28 l0 t272).f3) ((rd_T28 l0 t272).f4) ((rd_T28 l0 t272).f5) ((rd_T28 l0 t272).f6) a3).bind fun t275 => (if t275 = true then (some 23) else (if ((rd_T28 l0 t272).f2) = 0 then (some 0) else (if a2 > ((rd_T28 l0 t272).f2) then (some 18) else (some 0))))) = some r := by rw [if_neg (show ¬ (false = true) by decide)] at H; exact H
              clear H
              have H := H1
              clear H1
              replace H := Option.bind_eq_some_iff.mp H
              obtain ⟨t275, A180, H⟩ := H
              replace H : (if t275 = true then (some 23) else (if ((rd_T28 l0 t272).f2) = 0 then (some 0) else (if a2 > ((rd_T28 l0 t272).f2) then (some 18) else (some 0)))) = some r := H
              have A18 := Aside0.mk A180
              clear A180
              by_cases c19 : t275 = true
              · subst c19
                have H1 : (some 23) = some r := by rw [if_pos rfl] at H; exact H
                clear H
                have H := H1
                clear H1
                obtain rfl := Option.some.inj H
                have hcz20_0 : wc.cell? ⟨gb274, 0, none⟩ = some (.int .i64 ((rd_T28 l0 t272).f0)) := (blk_cell BK274.out 0).trans rfl
                have hcz20_1 : wc.cell? ⟨gb274, 1, none⟩ = some (.int .i64 ((rd_T28 l0 t272).f1)) := (blk_cell BK274.out 1).trans rfl
                have hcz20_2 : wc.cell? ⟨gb274, 2, none⟩ = some (.int .i64 ((rd_T28 l0 t272).f2)) := (blk_cell BK274.out 2).trans rfl
                have hcz20_3 : wc.cell? ⟨gb274, 3, none⟩ = some (.int .i64 ((rd_T28 l0 t272).f3)) := (blk_cell BK274.out 3).trans rfl
                have hcz20_4 : wc.cell? ⟨gb274, 4, none⟩ = some (.int .i64 ((rd_T28 l0 t272).f4)) := (blk_cell BK274.out 4).trans rfl
                have hcz20_5 : wc.cell? ⟨gb274, 5, none⟩ = some (.int .i64 ((rd_T28 l0 t272).f5)) := (blk_cell BK274.out 5).trans rfl
                have hcz20_6 : wc.cell? ⟨gb274, 6, none⟩ = some (.string ((rd_T28 l0 t272).f6)) := (blk_cell BK274.out 6).trans rfl
                have hfz20_0 := blk_frozen BK274.out 0
                have hfz20_1 := blk_frozen BK274.out 1
                have hfz20_2 := blk_frozen BK274.out 2
                have hfz20_3 := blk_frozen BK274.out 3
                have hfz20_4 := blk_frozen BK274.out 4
                have hfz20_5 := blk_frozen BK274.out 5
                have hfz20_6 := blk_frozen BK274.out 6
                go_wp2_with (first | ((with_reducible refine gate_callee (f := 21) rfl ?_); refine goesL_ (some 37) rfl rfl Try.func21 (by kernel_rfl) rfl #[.agg #[.int .i64 ((rd_T28 l0 t272).f0), .int .i64 ((rd_T28 l0 t272).f1), .int .i64 ((rd_T28 l0 t272).f2), .int .i64 ((rd_T28 l0 t272).f3), .int .i64 ((rd_T28 l0 t272).f4), .int .i64 ((rd_T28 l0 t272).f5), .string ((rd_T28 l0 t272).f6)], .int .i64 a3] rfl (by (try simp only [List.map_toArray, List.map_cons, List.map_nil]); first | done | rfl | (simp only [List.length_drop, List.length_take]; rfl)) ?_; (with_reducible refine (corebankref41_Expired.calls ((rd_T28 l0 t272).f0) ((rd_T28 l0 t272).f1) ((rd_T28 l0 t272).f2) ((rd_T28 l0 t272).f3) ((rd_T28 l0 t272).f4) ((rd_T28 l0 t272).f5) ((rd_T28 l0 t272).f6) a3 true _ A18.out).mono ?_); rintro e w21 ⟨rfl, hb⟩; refine ⟨_, rfl, ?_⟩; have n0_ := Aside0.mk (blk_below (g := gb274) (o := .cells #[.int .i64 ((rd_T28 l0 t272).f0), .int .i64 ((rd_T28 l0 t272).f1), .int .i64 ((rd_T28 l0 t272).f2), .int .i64 ((rd_T28 l0 t272).f3), .int .i64 ((rd_T28 l0 t272).f4), .int .i64 ((rd_T28 l0 t272).f5), .string ((rd_T28 l0 t272).f6)] 28 (0, 0)) (by (with_reducible repeat (first | refine blk_drewN ?_ _ | refine blk_drew ?_ | refine blk_alloc ?_ _)); exact BK274.out) hb); have n1_ := Aside0.mk (below_step (by repeat (first | (with_reducible first | exact HB.out | apply below_alloc | apply pw_below_drewN | apply below_drew1 | refine below_set ?_ GE274.out) | exact HB.out)) hb); clear BK274; clear HB; have BK274 := n0_; have HB := n1_; clear n0_ n1_; (try clear hb); (try clear hb2); (try clear hk); (try clear hi)))
                go_ret
                exact ⟨by first | rfl | (simp [errW_none, errW_some] <;> rfl) | (simp [*, errW_none, errW_some] <;> rfl), by repeat (first | (with_reducible first | exact HB.out | apply below_alloc | apply pw_below_drewN | apply below_drew1 | refine below_set ?_ GE274.out) | exact HB.out)⟩
              · replace c19 := Bool.eq_false_iff.mpr c19
                subst c19
                have H1 : (if ((rd_T28 l0 t272).f2) = 0 then (some 0) else (if a2 > ((rd_T28 l0 t272).f2) then (some 18) else (some 0))) = some r := by rw [if_neg (show ¬ (false = true) by decide)] at H; exact H
                clear H
                have H := H1
                clear H1
                by_cases c22 : ((rd_T28 l0 t272).f2) = 0
                · rw [if_pos c22] at H
                  have c22b0 : (((rd_T28 l0 t272).f2) == 0) = true := beq_iff_eq.mpr c22
                  have c22b1 : (((rd_T28 l0 t272).f2) != 0) = false := bne_eq_false_iff_eq.mpr c22
                  clear c22
                  obtain rfl := Option.some.inj H
                  have hcz23_0 : wc.cell? ⟨gb274, 0, none⟩ = some (.int .i64 ((rd_T28 l0 t272).f0)) := (blk_cell BK274.out 0).trans rfl
                  have hcz23_1 : wc.cell? ⟨gb274, 1, none⟩ = some (.int .i64 ((rd_T28 l0 t272).f1)) := (blk_cell BK274.out 1).trans rfl
                  have hcz23_2 : wc.cell? ⟨gb274, 2, none⟩ = some (.int .i64 ((rd_T28 l0 t272).f2)) := (blk_cell BK274.out 2).trans rfl
                  have hcz23_3 : wc.cell? ⟨gb274, 3, none⟩ = some (.int .i64 ((rd_T28 l0 t272).f3)) := (blk_cell BK274.out 3).trans rfl
                  have hcz23_4 : wc.cell? ⟨gb274, 4, none⟩ = some (.int .i64 ((rd_T28 l0 t272).f4)) := (blk_cell BK274.out 4).trans rfl
                  have hcz23_5 : wc.cell? ⟨gb274, 5, none⟩ = some (.int .i64 ((rd_T28 l0 t272).f5)) := (blk_cell BK274.out 5).trans rfl
                  have hcz23_6 : wc.cell? ⟨gb274, 6, none⟩ = some (.string ((rd_T28 l0 t272).f6)) := (blk_cell BK274.out 6).trans rfl
                  have hfz23_0 := blk_frozen BK274.out 0
                  have hfz23_1 := blk_frozen BK274.out 1
                  have hfz23_2 := blk_frozen BK274.out 2
                  have hfz23_3 := blk_frozen BK274.out 3
                  have hfz23_4 := blk_frozen BK274.out 4
                  have hfz23_5 := blk_frozen BK274.out 5
                  have hfz23_6 := blk_frozen BK274.out 6
                  go_wp2_with (first | ((with_reducible refine gate_callee (f := 21) rfl ?_); refine goesL_ (some 37) rfl rfl Try.func21 (by kernel_rfl) rfl #[.agg #[.int .i64 ((rd_T28 l0 t272).f0), .int .i64 ((rd_T28 l0 t272).f1), .int .i64 ((rd_T28 l0 t272).f2), .int .i64 ((rd_T28 l0 t272).f3), .int .i64 ((rd_T28 l0 t272).f4), .int .i64 ((rd_T28 l0 t272).f5), .string ((rd_T28 l0 t272).f6)], .int .i64 a3] rfl (by (try simp only [List.map_toArray, List.map_cons, List.map_nil]); first | done | rfl | (simp only [List.length_drop, List.length_take]; rfl)) ?_; (with_reducible refine (corebankref41_Expired.calls ((rd_T28 l0 t272).f0) ((rd_T28 l0 t272).f1) ((rd_T28 l0 t272).f2) ((rd_T28 l0 t272).f3) ((rd_T28 l0 t272).f4) ((rd_T28 l0 t272).f5) ((rd_T28 l0 t272).f6) a3 false _ A18.out).mono ?_); rintro e w24 ⟨rfl, hb⟩; refine ⟨_, rfl, ?_⟩; have n0_ := Aside0.mk (blk_below (g := gb274) (o := .cells #[.int .i64 ((rd_T28 l0 t272).f0), .int .i64 ((rd_T28 l0 t272).f1), .int .i64 ((rd_T28 l0 t272).f2), .int .i64 ((rd_T28 l0 t272).f3), .int .i64 ((rd_T28 l0 t272).f4), .int .i64 ((rd_T28 l0 t272).f5), .string ((rd_T28 l0 t272).f6)] 28 (0, 0)) (by (with_reducible repeat (first | refine blk_drewN ?_ _ | refine blk_drew ?_ | refine blk_alloc ?_ _)); exact BK274.out) hb); have n1_ := Aside0.mk (below_step (by repeat (first | (with_reducible first | exact HB.out | apply below_alloc | apply pw_below_drewN | apply below_drew1 | refine below_set ?_ GE274.out) | exact HB.out)) hb); clear BK274; clear HB; have BK274 := n0_; have HB := n1_; clear n0_ n1_; (try clear hb); (try clear hb2); (try clear hk); (try clear hi); have hcz25_0 : w24.cell? ⟨gb274, 0, none⟩ = some (.int .i64 ((rd_T28 l0 t272).f0)) := (blk_cell BK274.out 0).trans rfl; have hcz25_1 : w24.cell? ⟨gb274, 1, none⟩ = some (.int .i64 ((rd_T28 l0 t272).f1)) := (blk_cell BK274.out 1).trans rfl; have hcz25_2 : w24.cell? ⟨gb274, 2, none⟩ = some (.int .i64 ((rd_T28 l0 t272).f2)) := (blk_cell BK274.out 2).trans rfl; have hcz25_3 : w24.cell? ⟨gb274, 3, none⟩ = some (.int .i64 ((rd_T28 l0 t272).f3)) := (blk_cell BK274.out 3).trans rfl; have hcz25_4 : w24.cell? ⟨gb274, 4, none⟩ = some (.int .i64 ((rd_T28 l0 t272).f4)) := (blk_cell BK274.out 4).trans rfl; have hcz25_5 : w24.cell? ⟨gb274, 5, none⟩ = some (.int .i64 ((rd_T28 l0 t272).f5)) := (blk_cell BK274.out 5).trans rfl; have hcz25_6 : w24.cell? ⟨gb274, 6, none⟩ = some (.string ((rd_T28 l0 t272).f6)) := (blk_cell BK274.out 6).trans rfl; have hfz25_0 := blk_frozen BK274.out 0; have hfz25_1 := blk_frozen BK274.out 1; have hfz25_2 := blk_frozen BK274.out 2; have hfz25_3 := blk_frozen BK274.out 3; have hfz25_4 := blk_frozen BK274.out 4; have hfz25_5 := blk_frozen BK274.out 5; have hfz25_6 := blk_frozen BK274.out 6))
                  go_ret
                  exact ⟨by first | rfl | (simp [errW_none, errW_some] <;> rfl) | (simp [*, errW_none, errW_some] <;> rfl), by repeat (first | (with_reducible first | exact HB.out | apply below_alloc | apply pw_below_drewN | apply below_drew1 | refine below_set ?_ GE274.out) | exact HB.out)⟩
                · rw [if_neg c22] at H
                  have c22b0 : (((rd_T28 l0 t272).f2) == 0) = false := beq_eq_false_iff_ne.mpr c22
                  have c22b1 : (((rd_T28 l0 t272).f2) != 0) = true := bne_iff_ne.mpr c22
                  by_cases c26 : a2 > ((rd_T28 l0 t272).f2)
                  · rw [if_pos c26] at H
                    have c26b0 : decide (((rd_T28 l0 t272).f2) < a2) = true := decide_eq_true c26
                    clear c26
                    obtain rfl := Option.some.inj H
                    have hcz27_0 : wc.cell? ⟨gb274, 0, none⟩ = some (.int .i64 ((rd_T28 l0 t272).f0)) := (blk_cell BK274.out 0).trans rfl
                    have hcz27_1 : wc.cell? ⟨gb274, 1, none⟩ = some (.int .i64 ((rd_T28 l0 t272).f1)) := (blk_cell BK274.out 1).trans rfl
                    have hcz27_2 : wc.cell? ⟨gb274, 2, none⟩ = some (.int .i64 ((rd_T28 l0 t272).f2)) := (blk_cell BK274.out 2).trans rfl
                    have hcz27_3 : wc.cell? ⟨gb274, 3, none⟩ = some (.int .i64 ((rd_T28 l0 t272).f3)) := (blk_cell BK274.out 3).trans rfl
                    have hcz27_4 : wc.cell? ⟨gb274, 4, none⟩ = some (.int .i64 ((rd_T28 l0 t272).f4)) := (blk_cell BK274.out 4).trans rfl
                    have hcz27_5 : wc.cell? ⟨gb274, 5, none⟩ = some (.int .i64 ((rd_T28 l0 t272).f5)) := (blk_cell BK274.out 5).trans rfl
                    have hcz27_6 : wc.cell? ⟨gb274, 6, none⟩ = some (.string ((rd_T28 l0 t272).f6)) := (blk_cell BK274.out 6).trans rfl
                    have hfz27_0 := blk_frozen BK274.out 0
                    have hfz27_1 := blk_frozen BK274.out 1
                    have hfz27_2 := blk_frozen BK274.out 2
                    have hfz27_3 := blk_frozen BK274.out 3
                    have hfz27_4 := blk_frozen BK274.out 4
                    have hfz27_5 := blk_frozen BK274.out 5
                    have hfz27_6 := blk_frozen BK274.out 6
                    go_wp2_with (first | ((with_reducible refine gate_callee (f := 21) rfl ?_); refine goesL_ (some 37) rfl rfl Try.func21 (by kernel_rfl) rfl #[.agg #[.int .i64 ((rd_T28 l0 t272).f0), .int .i64 ((rd_T28 l0 t272).f1), .int .i64 ((rd_T28 l0 t272).f2), .int .i64 ((rd_T28 l0 t272).f3), .int .i64 ((rd_T28 l0 t272).f4), .int .i64 ((rd_T28 l0 t272).f5), .string ((rd_T28 l0 t272).f6)], .int .i64 a3] rfl (by (try simp only [List.map_toArray, List.map_cons, List.map_nil]); first | done | rfl | (simp only [List.length_drop, List.length_take]; rfl)) ?_; (with_reducible refine (corebankref41_Expired.calls ((rd_T28 l0 t272).f0) ((rd_T28 l0 t272).f1) ((rd_T28 l0 t272).f2) ((rd_T28 l0 t272).f3) ((rd_T28 l0 t272).f4) ((rd_T28 l0 t272).f5) ((rd_T28 l0 t272).f6) a3 false _ A18.out).mono ?_); rintro e w28 ⟨rfl, hb⟩; refine ⟨_, rfl, ?_⟩; have n0_ := Aside0.mk (blk_below (g := gb274) (o := .cells #[.int .i64 ((rd_T28 l0 t272).f0), .int .i64 ((rd_T28 l0 t272).f1), .int .i64 ((rd_T28 l0 t272).f2), .int .i64 ((rd_T28 l0 t272).f3), .int .i64 ((rd_T28 l0 t272).f4), .int .i64 ((rd_T28 l0 t272).f5), .string ((rd_T28 l0 t272).f6)] 28 (0, 0)) (by (with_reducible repeat (first | refine blk_drewN ?_ _ | refine blk_drew ?_ | refine blk_alloc ?_ _)); exact BK274.out) hb); have n1_ := Aside0.mk (below_step (by repeat (first | (with_reducible first | exact HB.out | apply below_alloc | apply pw_below_drewN | apply below_drew1 | refine below_set ?_ GE274.out) | exact HB.out)) hb); clear BK274; clear HB; have BK274 := n0_; have HB := n1_; clear n0_ n1_; (try clear hb); (try clear hb2); (try clear hk); (try clear hi); have hcz29_0 : w28.cell? ⟨gb274, 0, none⟩ = some (.int .i64 ((rd_T28 l0 t272).f0)) := (blk_cell BK274.out 0).trans rfl; have hcz29_1 : w28.cell? ⟨gb274, 1, none⟩ = some (.int .i64 ((rd_T28 l0 t272).f1)) := (blk_cell BK274.out 1).trans rfl; have hcz29_2 : w28.cell? ⟨gb274, 2, none⟩ = some (.int .i64 ((rd_T28 l0 t272).f2)) := (blk_cell BK274.out 2).trans rfl; have hcz29_3 : w28.cell? ⟨gb274, 3, none⟩ = some (.int .i64 ((rd_T28 l0 t272).f3)) := (blk_cell BK274.out 3).trans rfl; have hcz29_4 : w28.cell? ⟨gb274, 4, none⟩ = some (.int .i64 ((rd_T28 l0 t272).f4)) := (blk_cell BK274.out 4).trans rfl; have hcz29_5 : w28.cell? ⟨gb274, 5, none⟩ = some (.int .i64 ((rd_T28 l0 t272).f5)) := (blk_cell BK274.out 5).trans rfl; have hcz29_6 : w28.cell? ⟨gb274, 6, none⟩ = some (.string ((rd_T28 l0 t272).f6)) := (blk_cell BK274.out 6).trans rfl; have hfz29_0 := blk_frozen BK274.out 0; have hfz29_1 := blk_frozen BK274.out 1; have hfz29_2 := blk_frozen BK274.out 2; have hfz29_3 := blk_frozen BK274.out 3; have hfz29_4 := blk_frozen BK274.out 4; have hfz29_5 := blk_frozen BK274.out 5; have hfz29_6 := blk_frozen BK274.out 6))
                    go_ret
                    exact ⟨by first | rfl | (simp [errW_none, errW_some] <;> rfl) | (simp [*, errW_none, errW_some] <;> rfl), by repeat (first | (with_reducible first | exact HB.out | apply below_alloc | apply pw_below_drewN | apply below_drew1 | refine below_set ?_ GE274.out) | exact HB.out)⟩
                  · rw [if_neg c26] at H
                    have c26b0 : decide (((rd_T28 l0 t272).f2) < a2) = false := decide_eq_false c26
                    clear c26
                    obtain rfl := Option.some.inj H
                    have hcz30_0 : wc.cell? ⟨gb274, 0, none⟩ = some (.int .i64 ((rd_T28 l0 t272).f0)) := (blk_cell BK274.out 0).trans rfl
                    have hcz30_1 : wc.cell? ⟨gb274, 1, none⟩ = some (.int .i64 ((rd_T28 l0 t272).f1)) := (blk_cell BK274.out 1).trans rfl
                    have hcz30_2 : wc.cell? ⟨gb274, 2, none⟩ = some (.int .i64 ((rd_T28 l0 t272).f2)) := (blk_cell BK274.out 2).trans rfl
                    have hcz30_3 : wc.cell? ⟨gb274, 3, none⟩ = some (.int .i64 ((rd_T28 l0 t272).f3)) := (blk_cell BK274.out 3).trans rfl
                    have hcz30_4 : wc.cell? ⟨gb274, 4, none⟩ = some (.int .i64 ((rd_T28 l0 t272).f4)) := (blk_cell BK274.out 4).trans rfl
                    have hcz30_5 : wc.cell? ⟨gb274, 5, none⟩ = some (.int .i64 ((rd_T28 l0 t272).f5)) := (blk_cell BK274.out 5).trans rfl
                    have hcz30_6 : wc.cell? ⟨gb274, 6, none⟩ = some (.string ((rd_T28 l0 t272).f6)) := (blk_cell BK274.out 6).trans rfl
                    have hfz30_0 := blk_frozen BK274.out 0
                    have hfz30_1 := blk_frozen BK274.out 1
                    have hfz30_2 := blk_frozen BK274.out 2
                    have hfz30_3 := blk_frozen BK274.out 3
                    have hfz30_4 := blk_frozen BK274.out 4
                    have hfz30_5 := blk_frozen BK274.out 5
                    have hfz30_6 := blk_frozen BK274.out 6
                    go_wp2_with (first | ((with_reducible refine gate_callee (f := 21) rfl ?_); refine goesL_ (some 37) rfl rfl Try.func21 (by kernel_rfl) rfl #[.agg #[.int .i64 ((rd_T28 l0 t272).f0), .int .i64 ((rd_T28 l0 t272).f1), .int .i64 ((rd_T28 l0 t272).f2), .int .i64 ((rd_T28 l0 t272).f3), .int .i64 ((rd_T28 l0 t272).f4), .int .i64 ((rd_T28 l0 t272).f5), .string ((rd_T28 l0 t272).f6)], .int .i64 a3] rfl (by (try simp only [List.map_toArray, List.map_cons, List.map_nil]); first | done | rfl | (simp only [List.length_drop, List.length_take]; rfl)) ?_; (with_reducible refine (corebankref41_Expired.calls ((rd_T28 l0 t272).f0) ((rd_T28 l0 t272).f1) ((rd_T28 l0 t272).f2) ((rd_T28 l0 t272).f3) ((rd_T28 l0 t272).f4) ((rd_T28 l0 t272).f5) ((rd_T28 l0 t272).f6) a3 false _ A18.out).mono ?_); rintro e w31 ⟨rfl, hb⟩; refine ⟨_, rfl, ?_⟩; have n0_ := Aside0.mk (blk_below (g := gb274) (o := .cells #[.int .i64 ((rd_T28 l0 t272).f0), .int .i64 ((rd_T28 l0 t272).f1), .int .i64 ((rd_T28 l0 t272).f2), .int .i64 ((rd_T28 l0 t272).f3), .int .i64 ((rd_T28 l0 t272).f4), .int .i64 ((rd_T28 l0 t272).f5), .string ((rd_T28 l0 t272).f6)] 28 (0, 0)) (by (with_reducible repeat (first | refine blk_drewN ?_ _ | refine blk_drew ?_ | refine blk_alloc ?_ _)); exact BK274.out) hb); have n1_ := Aside0.mk (below_step (by repeat (first | (with_reducible first | exact HB.out | apply below_alloc | apply pw_below_drewN | apply below_drew1 | refine below_set ?_ GE274.out) | exact HB.out)) hb); clear BK274; clear HB; have BK274 := n0_; have HB := n1_; clear n0_ n1_; (try clear hb); (try clear hb2); (try clear hk); (try clear hi); have hcz32_0 : w31.cell? ⟨gb274, 0, none⟩ = some (.int .i64 ((rd_T28 l0 t272).f0)) := (blk_cell BK274.out 0).trans rfl; have hcz32_1 : w31.cell? ⟨gb274, 1, none⟩ = some (.int .i64 ((rd_T28 l0 t272).f1)) := (blk_cell BK274.out 1).trans rfl; have hcz32_2 : w31.cell? ⟨gb274, 2, none⟩ = some (.int .i64 ((rd_T28 l0 t272).f2)) := (blk_cell BK274.out 2).trans rfl; have hcz32_3 : w31.cell? ⟨gb274, 3, none⟩ = some (.int .i64 ((rd_T28 l0 t272).f3)) := (blk_cell BK274.out 3).trans rfl; have hcz32_4 : w31.cell? ⟨gb274, 4, none⟩ = some (.int .i64 ((rd_T28 l0 t272).f4)) := (blk_cell BK274.out 4).trans rfl; have hcz32_5 : w31.cell? ⟨gb274, 5, none⟩ = some (.int .i64 ((rd_T28 l0 t272).f5)) := (blk_cell BK274.out 5).trans rfl; have hcz32_6 : w31.cell? ⟨gb274, 6, none⟩ = some (.string ((rd_T28 l0 t272).f6)) := (blk_cell BK274.out 6).trans rfl; have hfz32_0 := blk_frozen BK274.out 0; have hfz32_1 := blk_frozen BK274.out 1; have hfz32_2 := blk_frozen BK274.out 2; have hfz32_3 := blk_frozen BK274.out 3; have hfz32_4 := blk_frozen BK274.out 4; have hfz32_5 := blk_frozen BK274.out 5; have hfz32_6 := blk_frozen BK274.out 6))
                    go_ret
                    exact ⟨by first | rfl | (simp [errW_none, errW_some] <;> rfl) | (simp [*, errW_none, errW_some] <;> rfl), by repeat (first | (with_reducible first | exact HB.out | apply below_alloc | apply pw_below_drewN | apply below_drew1 | refine below_set ?_ GE274.out) | exact HB.out)⟩
      · rw [if_neg c8] at H
        exact absurd H (by simp)
    · rw [if_neg c7] at H
      exact absurd H (by simp)

end Go.Proofs.Ytfgcachcbhkkoaa.X
