-- Written by program (wip/tools/xprint.sh) for this seat; not trusted: Lean checks it.
import Derived.Test.YtfdjgdjmllkdcaaDoorX0
import Derived.Test.YtfdjgdjmllkdcaaDoorX11
namespace Go.Proofs.YtfdjgdjmllkdcaaDoor.X
open Go.RowKit Go.Proofs.YtfdjgdjmllkdcaaDoorW.PrintWords Go.Proofs.YtfdjgdjmllkdcaaDoorW.PrintLast Go.Proofs.YtfdjgdjmllkdcaaDoorW.PrintMore
attribute [local go_sem] max2_int min2_int   -- for this text's walks alone
set_option linter.unusedVariables false
set_option linter.unusedSimpArgs false

/-! ### mandate_Allows: function 37 -/
def mandate_Allows.j0 : Nat → Int → Int → Bool → Int → Int → Int → Int → Int → Int → ByteArray → Option (Int)
  | 0, _, _, _, _, _, _, _, _, _, _ => none
  | k + 1, x2, x3, x24, x144000, x144001, x144002, x144003, x144004, x144005, x144006 => if x24 = true then (some 17) else ((mandate_Expired.f x144000 x144001 x144002 x144003 x144004 x144005 x144006 x3).bind fun t144 => (if t144 = true then (some 23) else (if x144002 = 0 then (some 0) else (if x2 > x144002 then (some 18) else (some 0)))))
def mandate_Allows.f (k : Nat) (l0 : List (S53)) (a1 : Int) (a2 : Int) (a3 : Int) : Option (Int) := (mandate_find.f k l0 a1).bind fun bt140 => (if bt140.2 = true then (if 0 ≤ bt140.1 then (if bt140.1 < (l0.length : Int) then (if ((rd_T53 l0 bt140.1).f5) = 0 then (mandate_Allows.j0 k a2 a3 (decide (((rd_T53 l0 bt140.1).f3) > a3)) ((rd_T53 l0 bt140.1).f0) ((rd_T53 l0 bt140.1).f1) ((rd_T53 l0 bt140.1).f2) ((rd_T53 l0 bt140.1).f3) ((rd_T53 l0 bt140.1).f4) ((rd_T53 l0 bt140.1).f5) ((rd_T53 l0 bt140.1).f6)) else (if ((rd_T53 l0 bt140.1).f5) ≤ a3 then (mandate_Allows.j0 k a2 a3 true ((rd_T53 l0 bt140.1).f0) ((rd_T53 l0 bt140.1).f1) ((rd_T53 l0 bt140.1).f2) ((rd_T53 l0 bt140.1).f3) ((rd_T53 l0 bt140.1).f4) ((rd_T53 l0 bt140.1).f5) ((rd_T53 l0 bt140.1).f6)) else (mandate_Allows.j0 k a2 a3 (decide (((rd_T53 l0 bt140.1).f3) > a3)) ((rd_T53 l0 bt140.1).f0) ((rd_T53 l0 bt140.1).f1) ((rd_T53 l0 bt140.1).f2) ((rd_T53 l0 bt140.1).f3) ((rd_T53 l0 bt140.1).f4) ((rd_T53 l0 bt140.1).f5) ((rd_T53 l0 bt140.1).f6)))) else (none)) else (none)) else (some 11))
theorem mandate_Allows.mono_l : ∀ k, (∀ y0 y1 y2 y3 y4 y5 y6 y7 y8 y9, LeO (mandate_Allows.j0 k y0 y1 y2 y3 y4 y5 y6 y7 y8 y9) (mandate_Allows.j0 (k + 1) y0 y1 y2 y3 y4 y5 y6 y7 y8 y9))
  | 0 => fun _ _ _ _ _ _ _ _ _ _ r h => by simp [mandate_Allows.j0] at h
  | k + 1 => by
    have ih0 := mandate_Allows.mono_l k
    · intro y0 y1 y2 y3 y4 y5 y6 y7 y8 y9
      unfold mandate_Allows.j0
      repeat' first
      | (with_reducible exact ih0 _ _ _ _ _ _ _ _ _ _)
      | (with_reducible exact mandate_find.mono _ _ _)
      | (with_reducible exact LeO.refl _)
      | (with_reducible exact LeO.none _)
      | (with_reducible refine LeO.ite ?_ ?_)
      | (with_reducible refine LeO.bind ?_ (fun _ => ?_))
      | exact ih0 _ _ _ _ _ _ _ _ _ _
      | exact mandate_find.mono _ _ _
      | exact LeO.none _
      | refine LeO.ite ?_ ?_
      | refine LeO.bind ?_ (fun _ => ?_)
theorem mandate_Allows.mono : ∀ a0 a1 a2 a3 k, LeO (mandate_Allows.f k a0 a1 a2 a3) (mandate_Allows.f (k + 1) a0 a1 a2 a3) := by
  intro a0 a1 a2 a3 k
  have ih0 := mandate_Allows.mono_l k
  unfold mandate_Allows.f
  repeat' first
      | (with_reducible exact ih0 _ _ _ _ _ _ _ _ _ _)
      | (with_reducible exact mandate_find.mono _ _ _)
      | (with_reducible exact LeO.refl _)
      | (with_reducible exact LeO.none _)
      | (with_reducible refine LeO.ite ?_ ?_)
      | (with_reducible refine LeO.bind ?_ (fun _ => ?_))
      | exact ih0 _ _ _ _ _ _ _ _ _ _
      | exact mandate_find.mono _ _ _
      | exact LeO.none _
      | refine LeO.ite ?_ ?_
      | refine LeO.bind ?_ (fun _ => ?_)
set_option maxHeartbeats 8000000 in
set_option maxRecDepth 100000 in
theorem mandate_Allows.calls (k : Nat) (A0 : Option Addr) (c0 : Nat) (l0 : List (S53)) (a1 : Int) (a2 : Int) (a3 : Int) (r : Int) (w : World) (hr0 : Kd.C k53 w A0 l0.length l0) (hc0 : l0.length ≤ c0) (h : mandate_Allows.f k l0 a1 a2 a3 = some r) :
  Calls Tryd.prog 37 #[.slice A0 l0.length c0, .int .i64 a1, .int .i64 a2, .int .i64 a3] w fun e w' => e = .returned (.int .i64 r) ∧ Below w.heap.size w w' := by
 have hu53 := Tryd.underlying53
 have HR0 := Aside0.mk hr0
 have HC0 := Aside0.mk hc0
 clear hr0 hc0
 have HB := Aside0.mk (Below.refl w.heap.size w)
 have H : ((mandate_find.f k l0 a1).bind fun bt140 => (if bt140.2 = true then (if 0 ≤ bt140.1 then (if bt140.1 < (l0.length : Int) then (if ((rd_T53 l0 bt140.1).f5) = 0 then (mandate_Allows.j0 k a2 a3 (decide (((rd_T53 l0 bt140.1).f3) > a3)) ((rd_T53 l0 bt140.1).f0) ((rd_T53 l0 bt140.1).f1) ((rd_T53 l0 bt140.1).f2) ((rd_T53 l0 bt140.1).f3) ((rd_T53 l0 bt140.1).f4) ((rd_T53 l0 bt140.1).f5) ((rd_T53 l0 bt140.1).f6)) else (if ((rd_T53 l0 bt140.1).f5) ≤ a3 then (mandate_Allows.j0 k a2 a3 true ((rd_T53 l0 bt140.1).f0) ((rd_T53 l0 bt140.1).f1) ((rd_T53 l0 bt140.1).f2) ((rd_T53 l0 bt140.1).f3) ((rd_T53 l0 bt140.1).f4) ((rd_T53 l0 bt140.1).f5) ((rd_T53 l0 bt140.1).f6)) else (mandate_Allows.j0 k a2 a3 (decide (((rd_T53 l0 bt140.1).f3) > a3)) ((rd_T53 l0 bt140.1).f0) ((rd_T53 l0 bt140.1).f1) ((rd_T53 l0 bt140.1).f2) ((rd_T53 l0 bt140.1).f3) ((rd_T53 l0 bt140.1).f4) ((rd_T53 l0 bt140.1).f5) ((rd_T53 l0 bt140.1).f6)))) else (none)) else (none)) else (some 11))) = some r := h
 clear h
 replace H := Option.bind_eq_some_iff.mp H
 obtain ⟨⟨t140, t141⟩, A50, H⟩ := H
 replace H : (if t141 = true then (if 0 ≤ t140 then (if t140 < (l0.length : Int) then (if ((rd_T53 l0 t140).f5) = 0 then (mandate_Allows.j0 k a2 a3 (decide (((rd_T53 l0 t140).f3) > a3)) ((rd_T53 l0 t140).f0) ((rd_T53 l0 t140).f1) ((rd_T53 l0 t140).f2) ((rd_T53 l0 t140).f3) ((rd_T53 l0 t140).f4) ((rd_T53 l0 t140).f5) ((rd_T53 l0 t140).f6)) else (if ((rd_T53 l0 t140).f5) ≤ a3 then (mandate_Allows.j0 k a2 a3 true ((rd_T53 l0 t140).f0) ((rd_T53 l0 t140).f1) ((rd_T53 l0 t140).f2) ((rd_T53 l0 t140).f3) ((rd_T53 l0 t140).f4) ((rd_T53 l0 t140).f5) ((rd_T53 l0 t140).f6)) else (mandate_Allows.j0 k a2 a3 (decide (((rd_T53 l0 t140).f3) > a3)) ((rd_T53 l0 t140).f0) ((rd_T53 l0 t140).f1) ((rd_T53 l0 t140).f2) ((rd_T53 l0 t140).f3) ((rd_T53 l0 t140).f4) ((rd_T53 l0 t140).f5) ((rd_T53 l0 t140).f6)))) else (none)) else (none)) else (some 11)) = some r := H
 have A5 := Aside0.mk A50
 clear A50
 by_cases c6 : t141 = true
 ·subst c6
  have H1 : (if 0 ≤ t140 then (if t140 < (l0.length : Int) then (if ((rd_T53 l0 t140).f5) = 0 then (mandate_Allows.j0 k a2 a3 (decide (((rd_T53 l0 t140).f3) > a3)) ((rd_T53 l0 t140).f0) ((rd_T53 l0 t140).f1) ((rd_T53 l0 t140).f2) ((rd_T53 l0 t140).f3) ((rd_T53 l0 t140).f4) ((rd_T53 l0 t140).f5) ((rd_T53 l0 t140).f6)) else (if ((rd_T53 l0 t140).f5) ≤ a3 then (mandate_Allows.j0 k a2 a3 true ((rd_T53 l0 t140).f0) ((rd_T53 l0 t140).f1) ((rd_T53 l0 t140).f2) ((rd_T53 l0 t140).f3) ((rd_T53 l0 t140).f4) ((rd_T53 l0 t140).f5) ((rd_T53 l0 t140).f6)) else (mandate_Allows.j0 k a2 a3 (decide (((rd_T53 l0 t140).f3) > a3)) ((rd_T53 l0 t140).f0) ((rd_T53 l0 t140).f1) ((rd_T53 l0 t140).f2) ((rd_T53 l0 t140).f3) ((rd_T53 l0 t140).f4) ((rd_T53 l0 t140).f5) ((rd_T53 l0 t140).f6)))) else (none)) else (none)) = some r := by rw [if_pos rfl] at H; exact H
  clear H
  have H := H1
  clear H1
  by_cases c7 : 0 ≤ t140
  ·rw [if_pos c7] at H
   have c7b0 : decide (0 ≤ t140) = true := decide_eq_true c7
   clear c7
   by_cases c8 : t140 < (l0.length : Int)
   ·rw [if_pos c8] at H
    have c8b0 : decide (t140 < (l0.length : Int)) = true := decide_eq_true c8
    clear c8
    have HC9 := Aside0.mk H
    clear H
    go_enter Tryd.func37, Tryd.ntmps37
    go_upto_region 5 with (first | ((with_reducible refine gate_callee (f := 46) rfl ?_); refine goesL_ (some 15) rfl rfl Tryd.func46 (by kernel_rfl) rfl #[.slice A0 l0.length c0, .int .i64 a1] rfl (by (try simp only [List.map_toArray, List.map_cons, List.map_nil]); first | done | rfl | (simp only [List.length_drop, List.length_take]; rfl)) ?_; (with_reducible refine (mandate_find.calls k _ _ l0 a1 t140 true _ ?side1 ?side2 A5.out).mono ?_); (case side1 => repeat (first | exact HR0.out | (with_reducible refine Kd.C_alloc ?_ _) | (with_reducible refine Kd.C_drewN ?_ _) | (with_reducible refine Kd.C_drew ?_))); (case side2 => exact HC0.out); rintro e w10 ⟨rfl, hb⟩; refine ⟨_, rfl, ?_⟩; have n0_ := Aside0.mk (below_step (by repeat (with_reducible first | exact HB.out | apply below_alloc | apply pw_below_drewN | apply below_drew1)) hb); clear HB; have HB := n0_; clear n0_; (try clear hb); (try clear hb2); (try clear hk); (try clear hi); have p142 : 0 ≤ (t140 : Int) := of_decide_eq_true (by assumption); have q142 : t140 < (l0.length : Int) := of_decide_eq_true (by assumption); obtain ⟨ad142, e142, hx142_0, hx142_1, hx142_2, hx142_3, hx142_4, hx142_5, hx142_6⟩ := at_T53 HR0.out t140 p142 q142; cases e142; replace hx142_0 := (HB.out.cell (World.block_lt_of_cell? w _ hx142_0)).trans hx142_0; replace hx142_1 := (HB.out.cell (World.block_lt_of_cell? w _ hx142_1)).trans hx142_1; replace hx142_2 := (HB.out.cell (World.block_lt_of_cell? w _ hx142_2)).trans hx142_2; replace hx142_3 := (HB.out.cell (World.block_lt_of_cell? w _ hx142_3)).trans hx142_3; replace hx142_4 := (HB.out.cell (World.block_lt_of_cell? w _ hx142_4)).trans hx142_4; replace hx142_5 := (HB.out.cell (World.block_lt_of_cell? w _ hx142_5)).trans hx142_5; replace hx142_6 := (HB.out.cell (World.block_lt_of_cell? w _ hx142_6)).trans hx142_6; replace p142 := eq_true p142; replace q142 := eq_true q142) | ((with_reducible refine gate_dst (N := 11) rfl ?_); refine box_event ?hg (N := 11) ?hd (cs := #[.int .i64 0, .int .i64 0, .int .i64 0, .int .i64 0, .int .i64 0, .int .i64 0, .string (⟨#[]⟩ : ByteArray)]) (t := 53) ?hr ?_; (case hd => rfl); (case hg => rfl); (case hr => first | (go_simp; done) | (go_simp; rfl)); intro gb143 hg w11 hbox hb; have n0_ := Aside0.mk (below_step (by repeat (with_reducible first | exact HB.out | apply below_alloc | apply pw_below_drewN | apply below_drew1)) hb); have n1_ := Aside0.mk (hbox); have n2_ := Aside0.mk ((by rw [hg]; exact (below_size (by repeat (with_reducible first | exact HB.out | apply below_alloc | apply pw_below_drewN | apply below_drew1))) : w.heap.size ≤ gb143)); have n3_ := n2_; clear HB; have HB := n0_; have BK143 := n1_; have GW143 := n2_; have GE143 := n3_; clear n0_ n1_ n2_ n3_; clear hb hbox hg; have hcz12 := blk_cell BK143.out; have hfz12 := blk_frozen BK143.out))
    (try simp only [Act.put, List.setIfInBounds_toArray, List.set_cons_zero, List.set_cons_succ])
    go_cut [24] (fun v24 wc => ∃ (kq : Nat) (x24_8 : Bool), v24 = .bool x24_8 ∧ Aside0 (mandate_Allows.j0 kq a2 a3 x24_8 ((rd_T53 l0 t140).f0) ((rd_T53 l0 t140).f1) ((rd_T53 l0 t140).f2) ((rd_T53 l0 t140).f3) ((rd_T53 l0 t140).f4) ((rd_T53 l0 t140).f5) ((rd_T53 l0 t140).f6) = some r) ∧ Aside0 (kq ≤ k) ∧ Aside0 (wc.heap[gb143]? = some (.cells #[.int .i64 ((rd_T53 l0 t140).f0), .int .i64 ((rd_T53 l0 t140).f1), .int .i64 ((rd_T53 l0 t140).f2), .int .i64 ((rd_T53 l0 t140).f3), .int .i64 ((rd_T53 l0 t140).f4), .int .i64 ((rd_T53 l0 t140).f5), .string ((rd_T53 l0 t140).f6)] 53 (0, 0))) ∧ Aside0 (Below w.heap.size w wc))
    case first =>
     have H := HC9.out
     clear HC9
     by_cases c13 : ((rd_T53 l0 t140).f5) = 0
     ·rw [if_pos c13] at H
      have c13b0 : (((rd_T53 l0 t140).f5) == 0) = true := beq_iff_eq.mpr c13
      have c13b1 : (((rd_T53 l0 t140).f5) != 0) = false := bne_eq_false_iff_eq.mpr c13
      clear c13
      (first | rw [c13b0] | (simp only [i64_w, i32_w]; rw [c13b0]) | skip)
      have H' := Aside0.mk H
      clear H
      have hcz14 := blk_cell BK143.out
      have hfz14 := blk_frozen BK143.out
      go_wp2
      go_meet
      case rel => exact ⟨_, (decide (((rd_T53 l0 t140).f3) > a3)), (by first | rfl | (simp [*]; done)), H', ⟨by first | omega | exact Nat.le_refl _⟩, ⟨by exact blk_seq (by repeat (with_reducible first | exact BK143.out | apply blk_drewN | apply blk_drew | apply blk_alloc | apply blk_set)) (by first | (simp only [zS, zC, zD]; done) | rfl)⟩, ⟨by repeat (with_reducible first | exact HB.out | apply below_alloc | apply pw_below_drewN | apply below_drew1 | refine below_set ?_ GE143.out)⟩⟩
     ·rw [if_neg c13] at H
      have c13b0 : (((rd_T53 l0 t140).f5) == 0) = false := beq_eq_false_iff_ne.mpr c13
      have c13b1 : (((rd_T53 l0 t140).f5) != 0) = true := bne_iff_ne.mpr c13
      (first | rw [c13b0] | (simp only [i64_w, i32_w]; rw [c13b0]) | skip)
      by_cases c15 : ((rd_T53 l0 t140).f5) ≤ a3
      ·rw [if_pos c15] at H
       have c15b0 : decide (((rd_T53 l0 t140).f5) ≤ a3) = true := decide_eq_true c15
       clear c15
       have H' := Aside0.mk H
       clear H
       have hcz16 := blk_cell BK143.out
       have hfz16 := blk_frozen BK143.out
       go_wp2
       go_meet
       case rel => exact ⟨_, (true), (by first | rfl | (simp [*]; done)), H', ⟨by first | omega | exact Nat.le_refl _⟩, ⟨by exact blk_seq (by repeat (with_reducible first | exact BK143.out | apply blk_drewN | apply blk_drew | apply blk_alloc | apply blk_set)) (by first | (simp only [zS, zC, zD]; done) | rfl)⟩, ⟨by repeat (with_reducible first | exact HB.out | apply below_alloc | apply pw_below_drewN | apply below_drew1 | refine below_set ?_ GE143.out)⟩⟩
      ·rw [if_neg c15] at H
       have c15b0 : decide (((rd_T53 l0 t140).f5) ≤ a3) = false := decide_eq_false c15
       clear c15
       have H' := Aside0.mk H
       clear H
       have hcz17 := blk_cell BK143.out
       have hfz17 := blk_frozen BK143.out
       go_wp2
       go_meet
       case rel => exact ⟨_, (decide (((rd_T53 l0 t140).f3) > a3)), (by first | rfl | (simp [*]; done)), H', ⟨by first | omega | exact Nat.le_refl _⟩, ⟨by exact blk_seq (by repeat (with_reducible first | exact BK143.out | apply blk_drewN | apply blk_drew | apply blk_alloc | apply blk_set)) (by first | (simp only [zS, zC, zD]; done) | rfl)⟩, ⟨by repeat (with_reducible first | exact HB.out | apply below_alloc | apply pw_below_drewN | apply below_drew1 | refine below_set ?_ GE143.out)⟩⟩
    case rest =>
     clear HC9
     try clear c1
     try clear p1
     try clear q1
     try clear hx1
     try clear p2
     try clear c3
     try clear c4
     try clear c6
     try clear c7
     try clear c7b0
     try clear c8
     try clear c8b0
     try clear c13
     try clear c13b0
     try clear c13b1
     try clear p14
     try clear q14
     try clear hx14
     try clear c15
     try clear c15b0
     try clear hcz12
     try clear hcz14
     try clear hcz16
     try clear hcz17
     try clear hfz12
     try clear hfz14
     try clear hfz16
     try clear hfz17
     try clear hx142_0
     try clear hx142_1
     try clear hx142_2
     try clear hx142_3
     try clear hx142_4
     try clear hx142_5
     try clear hx142_6
     try clear p142
     try clear q142
     obtain ⟨kq, x24_8, rfl, HA, HJ8, BK143, HB⟩ := hcut
     cases kq with
     | zero => exact absurd HA.out (by simp [mandate_Allows.j0])
     | succ kj8 =>
      have H := HA.out
      clear HA
      simp only [mandate_Allows.j0] at H
      by_cases c18 : x24_8 = true
      ·subst c18
       have H1 : (some 17) = some r := by rw [if_pos rfl] at H; exact H
       clear H
       have H := H1
       clear H1
       obtain rfl := Option.some.inj H
       go_wp2
       go_ret
       exact ⟨by first | rfl | (simp [errW_none, errW_some] <;> rfl) | (simp [*, errW_none, errW_some] <;> rfl), by repeat (with_reducible first | exact HB.out | apply below_alloc | apply pw_below_drewN | apply below_drew1 | refine below_set ?_ GE143.out)⟩
      ·replace c18 := Bool.eq_false_iff.mpr c18
       subst c18
       have H1 : ((mandate_Expired.f ((rd_T53 l0 t140).f0) ((rd_T53 l0 t140).f1) ((rd_T53 l0 t140).f2) ((rd_T53 l0 t140).f3) ((rd_T53 l0 t140).f4) ((rd_T53 l0 t140).f5) ((rd_T53 l0 t140).f6) a3).bind fun t144 => (if t144 = true then (some 23) else (if ((rd_T53 l0 t140).f2) = 0 then (some 0) else (if a2 > ((rd_T53 l0 t140).f2) then (some 18) else (some 0))))) = some r := by rw [if_neg (show ¬ (false = true) by decide)] at H; exact H
       clear H
       have H := H1
       clear H1
       replace H := Option.bind_eq_some_iff.mp H
       obtain ⟨t144, A190, H⟩ := H
       replace H : (if t144 = true then (some 23) else (if ((rd_T53 l0 t140).f2) = 0 then (some 0) else (if a2 > ((rd_T53 l0 t140).f2) then (some 18) else (some 0)))) = some r := H
       have A19 := Aside0.mk A190
       clear A190
       by_cases c20 : t144 = true
       ·subst c20
        have H1 : (some 23) = some r := by rw [if_pos rfl] at H; exact H
        clear H
        have H := H1
        clear H1
        obtain rfl := Option.some.inj H
        have hcz21 := blk_cell BK143.out
        have hfz21 := blk_frozen BK143.out
        go_wp2_with (first | ((with_reducible refine gate_callee (f := 47) rfl ?_); refine goesL_ (some 43) rfl rfl Tryd.func47 (by kernel_rfl) rfl #[.agg #[.int .i64 ((rd_T53 l0 t140).f0), .int .i64 ((rd_T53 l0 t140).f1), .int .i64 ((rd_T53 l0 t140).f2), .int .i64 ((rd_T53 l0 t140).f3), .int .i64 ((rd_T53 l0 t140).f4), .int .i64 ((rd_T53 l0 t140).f5), .string ((rd_T53 l0 t140).f6)], .int .i64 a3] rfl (by (try simp only [List.map_toArray, List.map_cons, List.map_nil]); first | done | rfl | (simp only [List.length_drop, List.length_take]; rfl)) ?_; (with_reducible refine (mandate_Expired.calls ((rd_T53 l0 t140).f0) ((rd_T53 l0 t140).f1) ((rd_T53 l0 t140).f2) ((rd_T53 l0 t140).f3) ((rd_T53 l0 t140).f4) ((rd_T53 l0 t140).f5) ((rd_T53 l0 t140).f6) a3 true _ A19.out).mono ?_); rintro e w22 ⟨rfl, hb⟩; refine ⟨_, rfl, ?_⟩; have n0_ := Aside0.mk (blk_below (g := gb143) (by (with_reducible repeat (first | refine blk_drewN ?_ _ | refine blk_drew ?_ | refine blk_alloc ?_ _)); exact BK143.out) hb); have n1_ := Aside0.mk (below_step (by repeat (with_reducible first | exact HB.out | apply below_alloc | apply pw_below_drewN | apply below_drew1 | refine below_set ?_ GE143.out)) hb); clear BK143; clear HB; have BK143 := n0_; have HB := n1_; clear n0_ n1_; (try clear hb); (try clear hb2); (try clear hk); (try clear hi)))
        go_ret
        exact ⟨by first | rfl | (simp [errW_none, errW_some] <;> rfl) | (simp [*, errW_none, errW_some] <;> rfl), by repeat (with_reducible first | exact HB.out | apply below_alloc | apply pw_below_drewN | apply below_drew1 | refine below_set ?_ GE143.out)⟩
       ·replace c20 := Bool.eq_false_iff.mpr c20
        subst c20
        have H1 : (if ((rd_T53 l0 t140).f2) = 0 then (some 0) else (if a2 > ((rd_T53 l0 t140).f2) then (some 18) else (some 0))) = some r := by rw [if_neg (show ¬ (false = true) by decide)] at H; exact H
        clear H
        have H := H1
        clear H1
        by_cases c23 : ((rd_T53 l0 t140).f2) = 0
        ·rw [if_pos c23] at H
         have c23b0 : (((rd_T53 l0 t140).f2) == 0) = true := beq_iff_eq.mpr c23
         have c23b1 : (((rd_T53 l0 t140).f2) != 0) = false := bne_eq_false_iff_eq.mpr c23
         clear c23
         obtain rfl := Option.some.inj H
         have hcz24 := blk_cell BK143.out
         have hfz24 := blk_frozen BK143.out
         go_wp2_with (first | ((with_reducible refine gate_callee (f := 47) rfl ?_); refine goesL_ (some 43) rfl rfl Tryd.func47 (by kernel_rfl) rfl #[.agg #[.int .i64 ((rd_T53 l0 t140).f0), .int .i64 ((rd_T53 l0 t140).f1), .int .i64 ((rd_T53 l0 t140).f2), .int .i64 ((rd_T53 l0 t140).f3), .int .i64 ((rd_T53 l0 t140).f4), .int .i64 ((rd_T53 l0 t140).f5), .string ((rd_T53 l0 t140).f6)], .int .i64 a3] rfl (by (try simp only [List.map_toArray, List.map_cons, List.map_nil]); first | done | rfl | (simp only [List.length_drop, List.length_take]; rfl)) ?_; (with_reducible refine (mandate_Expired.calls ((rd_T53 l0 t140).f0) ((rd_T53 l0 t140).f1) ((rd_T53 l0 t140).f2) ((rd_T53 l0 t140).f3) ((rd_T53 l0 t140).f4) ((rd_T53 l0 t140).f5) ((rd_T53 l0 t140).f6) a3 false _ A19.out).mono ?_); rintro e w25 ⟨rfl, hb⟩; refine ⟨_, rfl, ?_⟩; have n0_ := Aside0.mk (blk_below (g := gb143) (by (with_reducible repeat (first | refine blk_drewN ?_ _ | refine blk_drew ?_ | refine blk_alloc ?_ _)); exact BK143.out) hb); have n1_ := Aside0.mk (below_step (by repeat (with_reducible first | exact HB.out | apply below_alloc | apply pw_below_drewN | apply below_drew1 | refine below_set ?_ GE143.out)) hb); clear BK143; clear HB; have BK143 := n0_; have HB := n1_; clear n0_ n1_; (try clear hb); (try clear hb2); (try clear hk); (try clear hi); have hcz26 := blk_cell BK143.out; have hfz26 := blk_frozen BK143.out))
         go_ret
         exact ⟨by first | rfl | (simp [errW_none, errW_some] <;> rfl) | (simp [*, errW_none, errW_some] <;> rfl), by repeat (with_reducible first | exact HB.out | apply below_alloc | apply pw_below_drewN | apply below_drew1 | refine below_set ?_ GE143.out)⟩
        ·rw [if_neg c23] at H
         have c23b0 : (((rd_T53 l0 t140).f2) == 0) = false := beq_eq_false_iff_ne.mpr c23
         have c23b1 : (((rd_T53 l0 t140).f2) != 0) = true := bne_iff_ne.mpr c23
         by_cases c27 : a2 > ((rd_T53 l0 t140).f2)
         ·rw [if_pos c27] at H
          have c27b0 : decide (((rd_T53 l0 t140).f2) < a2) = true := decide_eq_true c27
          clear c27
          obtain rfl := Option.some.inj H
          have hcz28 := blk_cell BK143.out
          have hfz28 := blk_frozen BK143.out
          go_wp2_with (first | ((with_reducible refine gate_callee (f := 47) rfl ?_); refine goesL_ (some 43) rfl rfl Tryd.func47 (by kernel_rfl) rfl #[.agg #[.int .i64 ((rd_T53 l0 t140).f0), .int .i64 ((rd_T53 l0 t140).f1), .int .i64 ((rd_T53 l0 t140).f2), .int .i64 ((rd_T53 l0 t140).f3), .int .i64 ((rd_T53 l0 t140).f4), .int .i64 ((rd_T53 l0 t140).f5), .string ((rd_T53 l0 t140).f6)], .int .i64 a3] rfl (by (try simp only [List.map_toArray, List.map_cons, List.map_nil]); first | done | rfl | (simp only [List.length_drop, List.length_take]; rfl)) ?_; (with_reducible refine (mandate_Expired.calls ((rd_T53 l0 t140).f0) ((rd_T53 l0 t140).f1) ((rd_T53 l0 t140).f2) ((rd_T53 l0 t140).f3) ((rd_T53 l0 t140).f4) ((rd_T53 l0 t140).f5) ((rd_T53 l0 t140).f6) a3 false _ A19.out).mono ?_); rintro e w29 ⟨rfl, hb⟩; refine ⟨_, rfl, ?_⟩; have n0_ := Aside0.mk (blk_below (g := gb143) (by (with_reducible repeat (first | refine blk_drewN ?_ _ | refine blk_drew ?_ | refine blk_alloc ?_ _)); exact BK143.out) hb); have n1_ := Aside0.mk (below_step (by repeat (with_reducible first | exact HB.out | apply below_alloc | apply pw_below_drewN | apply below_drew1 | refine below_set ?_ GE143.out)) hb); clear BK143; clear HB; have BK143 := n0_; have HB := n1_; clear n0_ n1_; (try clear hb); (try clear hb2); (try clear hk); (try clear hi); have hcz30 := blk_cell BK143.out; have hfz30 := blk_frozen BK143.out))
          go_ret
          exact ⟨by first | rfl | (simp [errW_none, errW_some] <;> rfl) | (simp [*, errW_none, errW_some] <;> rfl), by repeat (with_reducible first | exact HB.out | apply below_alloc | apply pw_below_drewN | apply below_drew1 | refine below_set ?_ GE143.out)⟩
         ·rw [if_neg c27] at H
          have c27b0 : decide (((rd_T53 l0 t140).f2) < a2) = false := decide_eq_false c27
          clear c27
          obtain rfl := Option.some.inj H
          have hcz31 := blk_cell BK143.out
          have hfz31 := blk_frozen BK143.out
          go_wp2_with (first | ((with_reducible refine gate_callee (f := 47) rfl ?_); refine goesL_ (some 43) rfl rfl Tryd.func47 (by kernel_rfl) rfl #[.agg #[.int .i64 ((rd_T53 l0 t140).f0), .int .i64 ((rd_T53 l0 t140).f1), .int .i64 ((rd_T53 l0 t140).f2), .int .i64 ((rd_T53 l0 t140).f3), .int .i64 ((rd_T53 l0 t140).f4), .int .i64 ((rd_T53 l0 t140).f5), .string ((rd_T53 l0 t140).f6)], .int .i64 a3] rfl (by (try simp only [List.map_toArray, List.map_cons, List.map_nil]); first | done | rfl | (simp only [List.length_drop, List.length_take]; rfl)) ?_; (with_reducible refine (mandate_Expired.calls ((rd_T53 l0 t140).f0) ((rd_T53 l0 t140).f1) ((rd_T53 l0 t140).f2) ((rd_T53 l0 t140).f3) ((rd_T53 l0 t140).f4) ((rd_T53 l0 t140).f5) ((rd_T53 l0 t140).f6) a3 false _ A19.out).mono ?_); rintro e w32 ⟨rfl, hb⟩; refine ⟨_, rfl, ?_⟩; have n0_ := Aside0.mk (blk_below (g := gb143) (by (with_reducible repeat (first | refine blk_drewN ?_ _ | refine blk_drew ?_ | refine blk_alloc ?_ _)); exact BK143.out) hb); have n1_ := Aside0.mk (below_step (by repeat (with_reducible first | exact HB.out | apply below_alloc | apply pw_below_drewN | apply below_drew1 | refine below_set ?_ GE143.out)) hb); clear BK143; clear HB; have BK143 := n0_; have HB := n1_; clear n0_ n1_; (try clear hb); (try clear hb2); (try clear hk); (try clear hi); have hcz33 := blk_cell BK143.out; have hfz33 := blk_frozen BK143.out))
          go_ret
          exact ⟨by first | rfl | (simp [errW_none, errW_some] <;> rfl) | (simp [*, errW_none, errW_some] <;> rfl), by repeat (with_reducible first | exact HB.out | apply below_alloc | apply pw_below_drewN | apply below_drew1 | refine below_set ?_ GE143.out)⟩
   ·rw [if_neg c8] at H
    exact absurd H (by simp)
  ·rw [if_neg c7] at H
   exact absurd H (by simp)
 ·replace c6 := Bool.eq_false_iff.mpr c6
  subst c6
  have H1 : (some 11) = some r := by rw [if_neg (show ¬ (false = true) by decide)] at H; exact H
  clear H
  have H := H1
  clear H1
  obtain rfl := Option.some.inj H
  go_enter Tryd.func37, Tryd.ntmps37
  go_wp2_with (first | ((with_reducible refine gate_callee (f := 46) rfl ?_); refine goesL_ (some 15) rfl rfl Tryd.func46 (by kernel_rfl) rfl #[.slice A0 l0.length c0, .int .i64 a1] rfl (by (try simp only [List.map_toArray, List.map_cons, List.map_nil]); first | done | rfl | (simp only [List.length_drop, List.length_take]; rfl)) ?_; (with_reducible refine (mandate_find.calls k _ _ l0 a1 t140 false _ ?side1 ?side2 A5.out).mono ?_); (case side1 => repeat (first | exact HR0.out | (with_reducible refine Kd.C_alloc ?_ _) | (with_reducible refine Kd.C_drewN ?_ _) | (with_reducible refine Kd.C_drew ?_))); (case side2 => exact HC0.out); rintro e w34 ⟨rfl, hb⟩; refine ⟨_, rfl, ?_⟩; have n0_ := Aside0.mk (below_step (by repeat (with_reducible first | exact HB.out | apply below_alloc | apply pw_below_drewN | apply below_drew1)) hb); clear HB; have HB := n0_; clear n0_; (try clear hb); (try clear hb2); (try clear hk); (try clear hi)))
  go_ret
  exact ⟨by first | rfl | (simp [errW_none, errW_some] <;> rfl) | (simp [*, errW_none, errW_some] <;> rfl), by repeat (with_reducible first | exact HB.out | apply below_alloc | apply pw_below_drewN | apply below_drew1)⟩

end Go.Proofs.YtfdjgdjmllkdcaaDoor.X
