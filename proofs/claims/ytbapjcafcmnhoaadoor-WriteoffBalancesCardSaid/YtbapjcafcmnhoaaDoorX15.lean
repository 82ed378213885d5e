-- Written by program (wip/tools/xprint.sh) for this seat; not trusted: Lean checks it.
import Derived.Test.YtbapjcafcmnhoaaDoorX0
import Derived.Test.YtbapjcafcmnhoaaDoorX1
import Derived.Test.YtbapjcafcmnhoaaDoorWRepsOne
import Derived.Test.YtbapjcafcmnhoaaDoorX12
namespace Go.Proofs.YtbapjcafcmnhoaaDoor.X
open Go.RowKit Go.Proofs.YtbapjcafcmnhoaaDoorW.PrintWords Go.Proofs.YtbapjcafcmnhoaaDoorW.PrintLast Go.Proofs.YtbapjcafcmnhoaaDoorW.PrintMore
attribute [local go_sem] max2_int min2_int   -- for this text's walks alone
set_option linter.unusedVariables false
set_option linter.unusedSimpArgs false

/-! ### writeoff_Exposure: function 15 -/
def writeoff_Exposure.l0 : Nat → Int → List (S27) → Int → Int → Option (Int)
  | 0, _, _, _, _ => none
  | k + 1, x3, x6, x7, x8 => if x8 < x7 then (if 0 ≤ x8 then (if x8 < (x6.length : Int) then (if ((rd_T27 x6 x8).f2) = 1 then ((loan_Outstanding.f k ((rd_T27 x6 x8).f0) ((rd_T27 x6 x8).f1) ((rd_T27 x6 x8).f2) ((rd_T27 x6 x8).f3) ((rd_T27 x6 x8).f4) ((rd_T27 x6 x8).f5) ((rd_T27 x6 x8).f6) ((rd_T27 x6 x8).f7) ((rd_T27 x6 x8).f8) ((rd_T27 x6 x8).f9) ((rd_T27 x6 x8).f10) ((rd_T27 x6 x8).f11.f0) ((rd_T27 x6 x8).f11.f1) ((rd_T27 x6 x8).f11.f2) ((rd_T27 x6 x8).f11.f3) ((rd_T27 x6 x8).f11.f4) ((rd_T27 x6 x8).f11.f5) ((rd_T27 x6 x8).f11.f6) ((rd_T27 x6 x8).f11.f7) ((rd_T27 x6 x8).f11.f8) ((rd_T27 x6 x8).f11.f9) ((rd_T27 x6 x8).f11.f10) ((rd_T27 x6 x8).f11.f11) ((rd_T27 x6 x8).f12) ((rd_T27 x6 x8).f13)).bind fun t197 => (writeoff_Exposure.l0 k (wrap64 (x3 + t197)) x6 x7 (wrap64 (x8 + 1)))) else (if ((rd_T27 x6 x8).f2) = 3 then (writeoff_Exposure.l0 k (wrap64 (x3 + (wrap64 (((rd_T27 x6 x8).f9) - ((rd_T27 x6 x8).f10))))) x6 x7 (wrap64 (x8 + 1))) else (writeoff_Exposure.l0 k x3 x6 x7 (wrap64 (x8 + 1))))) else (none)) else (none)) else (some x3)
def writeoff_Exposure.f (k : Nat) (l0 : List (S27)) : Option (Int) := writeoff_Exposure.l0 k 0 l0 (l0.length : Int) 0
theorem writeoff_Exposure.mono_l : ∀ k, (∀ y0 y1 y2 y3, LeO (writeoff_Exposure.l0 k y0 y1 y2 y3) (writeoff_Exposure.l0 (k + 1) y0 y1 y2 y3))
  | 0 => fun _ _ _ _ r h => by simp [writeoff_Exposure.l0] at h
  | k + 1 => by
    have ih0 := writeoff_Exposure.mono_l k
    · intro y0 y1 y2 y3
      unfold writeoff_Exposure.l0
      repeat' first
      | (with_reducible exact ih0 _ _ _ _)
      | (with_reducible exact loan_Outstanding.mono _ _ _ _ _ _ _ _ _ _ _ _ _ _ _ _ _ _ _ _ _ _ _ _ _ _)
      | (with_reducible exact LeO.refl _)
      | (with_reducible exact LeO.none _)
      | (with_reducible refine LeO.ite ?_ ?_)
      | (with_reducible refine LeO.bind ?_ (fun _ => ?_))
      | exact ih0 _ _ _ _
      | exact loan_Outstanding.mono _ _ _ _ _ _ _ _ _ _ _ _ _ _ _ _ _ _ _ _ _ _ _ _ _ _
      | exact LeO.none _
      | refine LeO.ite ?_ ?_
      | refine LeO.bind ?_ (fun _ => ?_)
theorem writeoff_Exposure.mono : ∀ a0 k, LeO (writeoff_Exposure.f k a0) (writeoff_Exposure.f (k + 1) a0) := by
  intro a0 k
  have ih0 := writeoff_Exposure.mono_l k
  unfold writeoff_Exposure.f
  repeat' first
      | (with_reducible exact ih0 _ _ _ _)
      | (with_reducible exact loan_Outstanding.mono _ _ _ _ _ _ _ _ _ _ _ _ _ _ _ _ _ _ _ _ _ _ _ _ _ _)
      | (with_reducible exact LeO.refl _)
      | (with_reducible exact LeO.none _)
      | (with_reducible refine LeO.ite ?_ ?_)
      | (with_reducible refine LeO.bind ?_ (fun _ => ?_))
      | exact ih0 _ _ _ _
      | exact loan_Outstanding.mono _ _ _ _ _ _ _ _ _ _ _ _ _ _ _ _ _ _ _ _ _ _ _ _ _ _
      | exact LeO.none _
      | refine LeO.ite ?_ ?_
      | refine LeO.bind ?_ (fun _ => ?_)
set_option maxHeartbeats 8000000 in
set_option maxRecDepth 100000 in
theorem writeoff_Exposure.calls (k : Nat) (A0 : Option Addr) (c0 : Nat) (l0 : List (S27)) (r : Int) (w : World) (hr0 : Kd.C k27 w A0 l0.length l0) (hc0 : l0.length ≤ c0) (h : writeoff_Exposure.f k l0 = some r) :
  Calls Tryd.prog 15 #[.slice A0 l0.length c0] w fun e w' => e = .returned (.int .i64 r) ∧ Below w.heap.size w w' := by
 have hu27 := Tryd.underlying27
 have HR0 := Aside0.mk hr0
 have HC0 := Aside0.mk hc0
 clear hr0 hc0
 have HB := Aside0.mk (Below.refl w.heap.size w)
 have H : (writeoff_Exposure.l0 k 0 l0 (l0.length : Int) 0) = some r := h
 clear h
 have H' := Aside0.mk H
 clear H
 go_enter Tryd.func15, Tryd.ntmps15
 go_wp2_with (first | ((with_reducible refine gate_ld (ty := 27) rfl ?_); apply ldE (qu := Tryd.underlying27); rfl; rfl; rfl; (with_reducible first | exact hel195); rfl; exact siz27) | ((with_reducible refine gate_ld (ty := 27) rfl ?_); apply ldB (qu := Tryd.underlying27); rfl; rfl; rfl; (first | with_reducible exact BK196 | (apply Aside0.mk; apply blk_seq; (focus ((repeat (with_reducible first | exact BK196.out | apply blk_drewN | apply blk_drew | apply blk_alloc | apply blk_set)); done)); (first | (simp only [zS, zC, zD]; with_reducible rfl) | with_reducible rfl))); rfl; exact siz27) | ((with_reducible refine gate_st (ty := 27) rfl ?_); apply stB25 (qi := siz27); rfl; rfl; rfl; rfl; (apply Exists.intro; apply Exists.intro; apply And.intro; (focus ((repeat (with_reducible first | exact BK196.out | apply blk_drewN | apply blk_drew | apply blk_alloc | apply blk_set)); done)); (first | (simp only [Array.size_setIfInBounds]; rfl) | rfl)); rfl))
 go_loopg [3, 8] k (fun kq v3 v8 w' => ∃ (x3_1 : Int) (x8_1 : Int), v3 = .int .i64 x3_1 ∧ v8 = .int .i64 x8_1 ∧ Aside0 (writeoff_Exposure.l0 kq x3_1 l0 (l0.length : Int) x8_1 = some r) ∧ Aside0 (kq ≤ k) ∧ Aside0 (Below w.heap.size w w'))
 case atStart => exact ⟨(0), (0), (by first | rfl | (simp [*]; done)), (by first | rfl | (simp [*]; done)), H', ⟨Nat.le_refl _⟩, ⟨by repeat (with_reducible first | exact HB.out | apply below_alloc | apply pw_below_drewN | apply below_drew1)⟩⟩
 case round =>
  clear H'
  try clear c1
  obtain ⟨x3_1, x8_1, rfl, rfl, HA, HK1, HB⟩ := hrel
  cases gk with
  | zero => exact absurd HA.out (by simp [writeoff_Exposure.l0])
  | succ k1 =>
   have H := HA.out
   clear HA
   simp only [writeoff_Exposure.l0] at H
   by_cases c2 : x8_1 < (l0.length : Int)
   ·rw [if_pos c2] at H
    have c2b0 : decide (x8_1 < (l0.length : Int)) = true := decide_eq_true c2
    clear c2
    by_cases c3 : 0 ≤ x8_1
    ·rw [if_pos c3] at H
     have c3b0 : decide (0 ≤ x8_1) = true := decide_eq_true c3
     clear c3
     by_cases c4 : x8_1 < (l0.length : Int)
     ·rw [if_pos c4] at H
      have c4b0 : decide (x8_1 < (l0.length : Int)) = true := decide_eq_true c4
      clear c4
      by_cases c5 : ((rd_T27 l0 x8_1).f2) = 1
      ·rw [if_pos c5] at H
       have c5b0 : (((rd_T27 l0 x8_1).f2) == 1) = true := beq_iff_eq.mpr c5
       have c5b1 : (((rd_T27 l0 x8_1).f2) != 1) = false := bne_eq_false_iff_eq.mpr c5
       clear c5
       replace H := Option.bind_eq_some_iff.mp H
       obtain ⟨t197, A60, H⟩ := H
       replace H : (writeoff_Exposure.l0 k1 (wrap64 (x3_1 + t197)) l0 (l0.length : Int) (wrap64 (x8_1 + 1))) = some r := H
       have A6 := Aside0.mk A60
       clear A60
       have H' := Aside0.mk H
       clear H
       have p195 : 0 ≤ (x8_1 : Int) := of_decide_eq_true (by assumption)
       have q195 : x8_1 < (l0.length : Int) := of_decide_eq_true (by assumption)
       obtain ⟨ad195, A195_23, c195_23, A195_24, c195_24, e195, hx195_0, hx195_1, hx195_2, hx195_3, hx195_4, hx195_5, hx195_6, hx195_7, hx195_8, hx195_9, hx195_10, hx195_11, hx195_12, hx195_13, hx195_14, hx195_15, hx195_16, hx195_17, hx195_18, hx195_19, hx195_20, hx195_21, hx195_22, hx195_23, hx195_24, hl195_23, hi195_23, hl195_24, hi195_24⟩ := at_T27 HR0.out x8_1 p195 q195
       have hel195 := Aside0.mk (el25 hx195_0 hx195_1 hx195_2 hx195_3 hx195_4 hx195_5 hx195_6 hx195_7 hx195_8 hx195_9 hx195_10 hx195_11 hx195_12 hx195_13 hx195_14 hx195_15 hx195_16 hx195_17 hx195_18 hx195_19 hx195_20 hx195_21 hx195_22 hx195_23 hx195_24)
       cases e195
       replace hx195_0 := (HB.out.cell (World.block_lt_of_cell? w _ hx195_0)).trans hx195_0
       replace hx195_1 := (HB.out.cell (World.block_lt_of_cell? w _ hx195_1)).trans hx195_1
       replace hx195_2 := (HB.out.cell (World.block_lt_of_cell? w _ hx195_2)).trans hx195_2
       replace hx195_3 := (HB.out.cell (World.block_lt_of_cell? w _ hx195_3)).trans hx195_3
       replace hx195_4 := (HB.out.cell (World.block_lt_of_cell? w _ hx195_4)).trans hx195_4
       replace hx195_5 := (HB.out.cell (World.block_lt_of_cell? w _ hx195_5)).trans hx195_5
       replace hx195_6 := (HB.out.cell (World.block_lt_of_cell? w _ hx195_6)).trans hx195_6
       replace hx195_7 := (HB.out.cell (World.block_lt_of_cell? w _ hx195_7)).trans hx195_7
       replace hx195_8 := (HB.out.cell (World.block_lt_of_cell? w _ hx195_8)).trans hx195_8
       replace hx195_9 := (HB.out.cell (World.block_lt_of_cell? w _ hx195_9)).trans hx195_9
       replace hx195_10 := (HB.out.cell (World.block_lt_of_cell? w _ hx195_10)).trans hx195_10
       replace hx195_11 := (HB.out.cell (World.block_lt_of_cell? w _ hx195_11)).trans hx195_11
       replace hx195_12 := (HB.out.cell (World.block_lt_of_cell? w _ hx195_12)).trans hx195_12
       replace hx195_13 := (HB.out.cell (World.block_lt_of_cell? w _ hx195_13)).trans hx195_13
       replace hx195_14 := (HB.out.cell (World.block_lt_of_cell? w _ hx195_14)).trans hx195_14
       replace hx195_15 := (HB.out.cell (World.block_lt_of_cell? w _ hx195_15)).trans hx195_15
       replace hx195_16 := (HB.out.cell (World.block_lt_of_cell? w _ hx195_16)).trans hx195_16
       replace hx195_17 := (HB.out.cell (World.block_lt_of_cell? w _ hx195_17)).trans hx195_17
       replace hx195_18 := (HB.out.cell (World.block_lt_of_cell? w _ hx195_18)).trans hx195_18
       replace hx195_19 := (HB.out.cell (World.block_lt_of_cell? w _ hx195_19)).trans hx195_19
       replace hx195_20 := (HB.out.cell (World.block_lt_of_cell? w _ hx195_20)).trans hx195_20
       replace hx195_21 := (HB.out.cell (World.block_lt_of_cell? w _ hx195_21)).trans hx195_21
       replace hx195_22 := (HB.out.cell (World.block_lt_of_cell? w _ hx195_22)).trans hx195_22
       replace hx195_23 := (HB.out.cell (World.block_lt_of_cell? w _ hx195_23)).trans hx195_23
       replace hx195_24 := (HB.out.cell (World.block_lt_of_cell? w _ hx195_24)).trans hx195_24
       (try clear hel195)
       have hel195 := Aside0.mk (el25 hx195_0 hx195_1 hx195_2 hx195_3 hx195_4 hx195_5 hx195_6 hx195_7 hx195_8 hx195_9 hx195_10 hx195_11 hx195_12 hx195_13 hx195_14 hx195_15 hx195_16 hx195_17 hx195_18 hx195_19 hx195_20 hx195_21 hx195_22 hx195_23 hx195_24)
       have HR195_23 := Aside0.mk hi195_23
       have HC195_23 := Aside0.mk hl195_23
       clear hi195_23 hl195_23
       have HR195_24 := Aside0.mk hi195_24
       have HC195_24 := Aside0.mk hl195_24
       clear hi195_24 hl195_24
       replace p195 := eq_true p195
       replace q195 := eq_true q195
       go_wp2_with (first | ((with_reducible refine gate_ld (ty := 27) rfl ?_); apply ldE (qu := Tryd.underlying27); rfl; rfl; rfl; (with_reducible first | exact hel195); rfl; exact siz27) | ((with_reducible refine gate_ld (ty := 27) rfl ?_); apply ldB (qu := Tryd.underlying27); rfl; rfl; rfl; (first | with_reducible exact BK196 | (apply Aside0.mk; apply blk_seq; (focus ((repeat (with_reducible first | exact BK196.out | apply blk_drewN | apply blk_drew | apply blk_alloc | apply blk_set)); done)); (first | (simp only [zS, zC, zD]; with_reducible rfl) | with_reducible rfl))); rfl; exact siz27) | ((with_reducible refine gate_st (ty := 27) rfl ?_); apply stB25 (qi := siz27); rfl; rfl; rfl; rfl; (apply Exists.intro; apply Exists.intro; apply And.intro; (focus ((repeat (with_reducible first | exact BK196.out | apply blk_drewN | apply blk_drew | apply blk_alloc | apply blk_set)); done)); (first | (simp only [Array.size_setIfInBounds]; rfl) | rfl)); rfl) | ((with_reducible refine gate_dst (N := 5) rfl ?_); refine box_event ?hg (N := 5) ?hd (cs := #[.int .i64 0, .int .i64 0, .int .i64 0, .int .i64 0, .int .i64 0, .int .i64 0, .int .i64 0, .int .i64 0, .int .i64 0, .int .i64 0, .int .i64 0, .int .i64 0, .int .i64 0, .int .i64 0, .int .i64 0, .int .i64 0, .int .i64 0, .int .i64 0, .int .i64 0, .int .i64 0, .int .i64 0, .string (⟨#[]⟩ : ByteArray), .string (⟨#[]⟩ : ByteArray), .slice none 0 0, .slice none 0 0]) (t := 27) ?hr ?_; (case hd => rfl); (case hg => rfl); (case hr => first | (go_simp; done) | (go_simp; rfl)); intro gb196 hg w7 hbox hb; have n0_ := Aside0.mk (below_step (by repeat (with_reducible first | exact HB.out | apply below_alloc | apply pw_below_drewN | apply below_drew1)) hb); have n1_ := Aside0.mk (hbox); have n2_ := Aside0.mk ((by rw [hg]; exact (below_size (by repeat (with_reducible first | exact HB.out | apply below_alloc | apply pw_below_drewN | apply below_drew1))) : w.heap.size ≤ gb196)); have n3_ := n2_; clear HB; have HB := n0_; have BK196 := n1_; have GW196 := n2_; have GE196 := n3_; clear n0_ n1_ n2_ n3_; clear hb hbox hg; have hcz8 := bk25 BK196.out; have hfz8 := blk_frozen BK196.out) | ((with_reducible refine gate_callee (f := 27) rfl ?_); refine goesL_ (some 18) rfl rfl Tryd.func27 (by kernel_rfl) rfl #[.agg #[.int .i64 ((rd_T27 l0 x8_1).f0), .int .i64 ((rd_T27 l0 x8_1).f1), .int .i64 ((rd_T27 l0 x8_1).f2), .int .i64 ((rd_T27 l0 x8_1).f3), .int .i64 ((rd_T27 l0 x8_1).f4), .int .i64 ((rd_T27 l0 x8_1).f5), .int .i64 ((rd_T27 l0 x8_1).f6), .int .i64 ((rd_T27 l0 x8_1).f7), .int .i64 ((rd_T27 l0 x8_1).f8), .int .i64 ((rd_T27 l0 x8_1).f9), .int .i64 ((rd_T27 l0 x8_1).f10), .int .i64 ((rd_T27 l0 x8_1).f11.f0), .int .i64 ((rd_T27 l0 x8_1).f11.f1), .int .i64 ((rd_T27 l0 x8_1).f11.f2), .int .i64 ((rd_T27 l0 x8_1).f11.f3), .int .i64 ((rd_T27 l0 x8_1).f11.f4), .int .i64 ((rd_T27 l0 x8_1).f11.f5), .int .i64 ((rd_T27 l0 x8_1).f11.f6), .int .i64 ((rd_T27 l0 x8_1).f11.f7), .int .i64 ((rd_T27 l0 x8_1).f11.f8), .int .i64 ((rd_T27 l0 x8_1).f11.f9), .string ((rd_T27 l0 x8_1).f11.f10), .string ((rd_T27 l0 x8_1).f11.f11), .slice A195_23 ((rd_T27 l0 x8_1).f12).length c195_23, .slice A195_24 ((rd_T27 l0 x8_1).f13).length c195_24]] rfl (by (try simp only [List.map_toArray, List.map_cons, List.map_nil]); first | done | rfl | (simp only [List.length_drop, List.length_take]; rfl)) ?_; (with_reducible refine (loan_Outstanding.calls k1 ((rd_T27 l0 x8_1).f0) ((rd_T27 l0 x8_1).f1) ((rd_T27 l0 x8_1).f2) ((rd_T27 l0 x8_1).f3) ((rd_T27 l0 x8_1).f4) ((rd_T27 l0 x8_1).f5) ((rd_T27 l0 x8_1).f6) ((rd_T27 l0 x8_1).f7) ((rd_T27 l0 x8_1).f8) ((rd_T27 l0 x8_1).f9) ((rd_T27 l0 x8_1).f10) ((rd_T27 l0 x8_1).f11.f0) ((rd_T27 l0 x8_1).f11.f1) ((rd_T27 l0 x8_1).f11.f2) ((rd_T27 l0 x8_1).f11.f3) ((rd_T27 l0 x8_1).f11.f4) ((rd_T27 l0 x8_1).f11.f5) ((rd_T27 l0 x8_1).f11.f6) ((rd_T27 l0 x8_1).f11.f7) ((rd_T27 l0 x8_1).f11.f8) ((rd_T27 l0 x8_1).f11.f9) ((rd_T27 l0 x8_1).f11.f10) ((rd_T27 l0 x8_1).f11.f11) _ _ ((rd_T27 l0 x8_1).f12) _ _ ((rd_T27 l0 x8_1).f13) t197 _ ?side1 ?side2 ?side3 ?side4 A6.out).mono ?_); (case side1 => exact Kd.C_below HR195_23.out (by repeat (with_reducible first | exact HB.out | apply below_alloc | apply pw_below_drewN | apply below_drew1 | refine below_set ?_ GE196.out))); (case side2 => exact HC195_23.out); (case side3 => exact Kd.C_below HR195_24.out (by repeat (with_reducible first | exact HB.out | apply below_alloc | apply pw_below_drewN | apply below_drew1 | refine below_set ?_ GE196.out))); (case side4 => exact HC195_24.out); rintro e w9 ⟨rfl, hb⟩; refine ⟨_, rfl, ?_⟩; have n0_ := Aside0.mk (blk_below (g := gb196) (o := .cells #[.int .i64 ((rd_T27 l0 x8_1).f0), .int .i64 ((rd_T27 l0 x8_1).f1), .int .i64 ((rd_T27 l0 x8_1).f2), .int .i64 ((rd_T27 l0 x8_1).f3), .int .i64 ((rd_T27 l0 x8_1).f4), .int .i64 ((rd_T27 l0 x8_1).f5), .int .i64 ((rd_T27 l0 x8_1).f6), .int .i64 ((rd_T27 l0 x8_1).f7), .int .i64 ((rd_T27 l0 x8_1).f8), .int .i64 ((rd_T27 l0 x8_1).f9), .int .i64 ((rd_T27 l0 x8_1).f10), .int .i64 ((rd_T27 l0 x8_1).f11.f0), .int .i64 ((rd_T27 l0 x8_1).f11.f1), .int .i64 ((rd_T27 l0 x8_1).f11.f2), .int .i64 ((rd_T27 l0 x8_1).f11.f3), .int .i64 ((rd_T27 l0 x8_1).f11.f4), .int .i64 ((rd_T27 l0 x8_1).f11.f5), .int .i64 ((rd_T27 l0 x8_1).f11.f6), .int .i64 ((rd_T27 l0 x8_1).f11.f7), .int .i64 ((rd_T27 l0 x8_1).f11.f8), .int .i64 ((rd_T27 l0 x8_1).f11.f9), .string ((rd_T27 l0 x8_1).f11.f10), .string ((rd_T27 l0 x8_1).f11.f11), .slice A195_23 ((rd_T27 l0 x8_1).f12).length c195_23, .slice A195_24 ((rd_T27 l0 x8_1).f13).length c195_24] 27 (0, 0)) (by exact blk_seq (by repeat (with_reducible first | exact BK196.out | apply blk_drewN | apply blk_drew | apply blk_alloc | apply blk_set)) (by first | (simp only [zS, zC, zD]; done) | rfl)) hb); have n1_ := Aside0.mk (below_step (by repeat (with_reducible first | exact HB.out | apply below_alloc | apply pw_below_drewN | apply below_drew1 | refine below_set ?_ GE196.out)) hb); clear BK196; clear HB; have BK196 := n0_; have HB := n1_; clear n0_ n1_; (try clear hb); (try clear hb2); (try clear hk); (try clear hi)))
       go_roundg k1
       case measure => have := HK1.out; omega
       case rel => exact ⟨(wrap64 (x3_1 + t197)), (wrap64 (x8_1 + 1)), (by first | rfl | (simp [*]; done)), (by first | rfl | (simp [*]; done)), H', ⟨by have := HK1.out; omega⟩, ⟨by repeat (with_reducible first | exact HB.out | apply below_alloc | apply pw_below_drewN | apply below_drew1 | refine below_set ?_ GE196.out)⟩⟩
      ·rw [if_neg c5] at H
       have c5b0 : (((rd_T27 l0 x8_1).f2) == 1) = false := beq_eq_false_iff_ne.mpr c5
       have c5b1 : (((rd_T27 l0 x8_1).f2) != 1) = true := bne_iff_ne.mpr c5
       by_cases c10 : ((rd_T27 l0 x8_1).f2) = 3
       ·rw [if_pos c10] at H
        have c10b0 : (((rd_T27 l0 x8_1).f2) == 3) = true := beq_iff_eq.mpr c10
        have c10b1 : (((rd_T27 l0 x8_1).f2) != 3) = false := bne_eq_false_iff_eq.mpr c10
        clear c10
        have H' := Aside0.mk H
        clear H
        have p195 : 0 ≤ (x8_1 : Int) := of_decide_eq_true (by assumption)
        have q195 : x8_1 < (l0.length : Int) := of_decide_eq_true (by assumption)
        obtain ⟨ad195, A195_23, c195_23, A195_24, c195_24, e195, hx195_0, hx195_1, hx195_2, hx195_3, hx195_4, hx195_5, hx195_6, hx195_7, hx195_8, hx195_9, hx195_10, hx195_11, hx195_12, hx195_13, hx195_14, hx195_15, hx195_16, hx195_17, hx195_18, hx195_19, hx195_20, hx195_21, hx195_22, hx195_23, hx195_24, hl195_23, hi195_23, hl195_24, hi195_24⟩ := at_T27 HR0.out x8_1 p195 q195
        have hel195 := Aside0.mk (el25 hx195_0 hx195_1 hx195_2 hx195_3 hx195_4 hx195_5 hx195_6 hx195_7 hx195_8 hx195_9 hx195_10 hx195_11 hx195_12 hx195_13 hx195_14 hx195_15 hx195_16 hx195_17 hx195_18 hx195_19 hx195_20 hx195_21 hx195_22 hx195_23 hx195_24)
        cases e195
        replace hx195_0 := (HB.out.cell (World.block_lt_of_cell? w _ hx195_0)).trans hx195_0
        replace hx195_1 := (HB.out.cell (World.block_lt_of_cell? w _ hx195_1)).trans hx195_1
        replace hx195_2 := (HB.out.cell (World.block_lt_of_cell? w _ hx195_2)).trans hx195_2
        replace hx195_3 := (HB.out.cell (World.block_lt_of_cell? w _ hx195_3)).trans hx195_3
        replace hx195_4 := (HB.out.cell (World.block_lt_of_cell? w _ hx195_4)).trans hx195_4
        replace hx195_5 := (HB.out.cell (World.block_lt_of_cell? w _ hx195_5)).trans hx195_5
        replace hx195_6 := (HB.out.cell (World.block_lt_of_cell? w _ hx195_6)).trans hx195_6
        replace hx195_7 := (HB.out.cell (World.block_lt_of_cell? w _ hx195_7)).trans hx195_7
        replace hx195_8 := (HB.out.cell (World.block_lt_of_cell? w _ hx195_8)).trans hx195_8
        replace hx195_9 := (HB.out.cell (World.block_lt_of_cell? w _ hx195_9)).trans hx195_9
        replace hx195_10 := (HB.out.cell (World.block_lt_of_cell? w _ hx195_10)).trans hx195_10
        replace hx195_11 := (HB.out.cell (World.block_lt_of_cell? w _ hx195_11)).trans hx195_11
        replace hx195_12 := (HB.out.cell (World.block_lt_of_cell? w _ hx195_12)).trans hx195_12
        replace hx195_13 := (HB.out.cell (World.block_lt_of_cell? w _ hx195_13)).trans hx195_13
        replace hx195_14 := (HB.out.cell (World.block_lt_of_cell? w _ hx195_14)).trans hx195_14
        replace hx195_15 := (HB.out.cell (World.block_lt_of_cell? w _ hx195_15)).trans hx195_15
        replace hx195_16 := (HB.out.cell (World.block_lt_of_cell? w _ hx195_16)).trans hx195_16
        replace hx195_17 := (HB.out.cell (World.block_lt_of_cell? w _ hx195_17)).trans hx195_17
        replace hx195_18 := (HB.out.cell (World.block_lt_of_cell? w _ hx195_18)).trans hx195_18
        replace hx195_19 := (HB.out.cell (World.block_lt_of_cell? w _ hx195_19)).trans hx195_19
        replace hx195_20 := (HB.out.cell (World.block_lt_of_cell? w _ hx195_20)).trans hx195_20
        replace hx195_21 := (HB.out.cell (World.block_lt_of_cell? w _ hx195_21)).trans hx195_21
        replace hx195_22 := (HB.out.cell (World.block_lt_of_cell? w _ hx195_22)).trans hx195_22
        replace hx195_23 := (HB.out.cell (World.block_lt_of_cell? w _ hx195_23)).trans hx195_23
        replace hx195_24 := (HB.out.cell (World.block_lt_of_cell? w _ hx195_24)).trans hx195_24
        (try clear hel195)
        have hel195 := Aside0.mk (el25 hx195_0 hx195_1 hx195_2 hx195_3 hx195_4 hx195_5 hx195_6 hx195_7 hx195_8 hx195_9 hx195_10 hx195_11 hx195_12 hx195_13 hx195_14 hx195_15 hx195_16 hx195_17 hx195_18 hx195_19 hx195_20 hx195_21 hx195_22 hx195_23 hx195_24)
        have HR195_23 := Aside0.mk hi195_23
        have HC195_23 := Aside0.mk hl195_23
        clear hi195_23 hl195_23
        have HR195_24 := Aside0.mk hi195_24
        have HC195_24 := Aside0.mk hl195_24
        clear hi195_24 hl195_24
        replace p195 := eq_true p195
        replace q195 := eq_true q195
        go_wp2_with (first | ((with_reducible refine gate_ld (ty := 27) rfl ?_); apply ldE (qu := Tryd.underlying27); rfl; rfl; rfl; (with_reducible first | exact hel195); rfl; exact siz27) | ((with_reducible refine gate_ld (ty := 27) rfl ?_); apply ldB (qu := Tryd.underlying27); rfl; rfl; rfl; (first | with_reducible exact BK196 | (apply Aside0.mk; apply blk_seq; (focus ((repeat (with_reducible first | exact BK196.out | apply blk_drewN | apply blk_drew | apply blk_alloc | apply blk_set)); done)); (first | (simp only [zS, zC, zD]; with_reducible rfl) | with_reducible rfl))); rfl; exact siz27) | ((with_reducible refine gate_st (ty := 27) rfl ?_); apply stB25 (qi := siz27); rfl; rfl; rfl; rfl; (apply Exists.intro; apply Exists.intro; apply And.intro; (focus ((repeat (with_reducible first | exact BK196.out | apply blk_drewN | apply blk_drew | apply blk_alloc | apply blk_set)); done)); (first | (simp only [Array.size_setIfInBounds]; rfl) | rfl)); rfl) | ((with_reducible refine gate_dst (N := 5) rfl ?_); refine box_event ?hg (N := 5) ?hd (cs := #[.int .i64 0, .int .i64 0, .int .i64 0, .int .i64 0, .int .i64 0, .int .i64 0, .int .i64 0, .int .i64 0, .int .i64 0, .int .i64 0, .int .i64 0, .int .i64 0, .int .i64 0, .int .i64 0, .int .i64 0, .int .i64 0, .int .i64 0, .int .i64 0, .int .i64 0, .int .i64 0, .int .i64 0, .string (⟨#[]⟩ : ByteArray), .string (⟨#[]⟩ : ByteArray), .slice none 0 0, .slice none 0 0]) (t := 27) ?hr ?_; (case hd => rfl); (case hg => rfl); (case hr => first | (go_simp; done) | (go_simp; rfl)); intro gb196 hg w11 hbox hb; have n0_ := Aside0.mk (below_step (by repeat (with_reducible first | exact HB.out | apply below_alloc | apply pw_below_drewN | apply below_drew1)) hb); have n1_ := Aside0.mk (hbox); have n2_ := Aside0.mk ((by rw [hg]; exact (below_size (by repeat (with_reducible first | exact HB.out | apply below_alloc | apply pw_below_drewN | apply below_drew1))) : w.heap.size ≤ gb196)); have n3_ := n2_; clear HB; have HB := n0_; have BK196 := n1_; have GW196 := n2_; have GE196 := n3_; clear n0_ n1_ n2_ n3_; clear hb hbox hg; have hcz12 := bk25 BK196.out; have hfz12 := blk_frozen BK196.out))
        go_roundg k1
        case measure => have := HK1.out; omega
        case rel => exact ⟨(wrap64 (x3_1 + (wrap64 (((rd_T27 l0 x8_1).f9) - ((rd_T27 l0 x8_1).f10))))), (wrap64 (x8_1 + 1)), (by first | rfl | (simp [*]; done)), (by first | rfl | (simp [*]; done)), H', ⟨by have := HK1.out; omega⟩, ⟨by repeat (with_reducible first | exact HB.out | apply below_alloc | apply pw_below_drewN | apply below_drew1 | refine below_set ?_ GE196.out)⟩⟩
       ·rw [if_neg c10] at H
        have c10b0 : (((rd_T27 l0 x8_1).f2) == 3) = false := beq_eq_false_iff_ne.mpr c10
        have c10b1 : (((rd_T27 l0 x8_1).f2) != 3) = true := bne_iff_ne.mpr c10
        have H' := Aside0.mk H
        clear H
        have p195 : 0 ≤ (x8_1 : Int) := of_decide_eq_true (by assumption)
        have q195 : x8_1 < (l0.length : Int) := of_decide_eq_true (by assumption)
        obtain ⟨ad195, A195_23, c195_23, A195_24, c195_24, e195, hx195_0, hx195_1, hx195_2, hx195_3, hx195_4, hx195_5, hx195_6, hx195_7, hx195_8, hx195_9, hx195_10, hx195_11, hx195_12, hx195_13, hx195_14, hx195_15, hx195_16, hx195_17, hx195_18, hx195_19, hx195_20, hx195_21, hx195_22, hx195_23, hx195_24, hl195_23, hi195_23, hl195_24, hi195_24⟩ := at_T27 HR0.out x8_1 p195 q195
        have hel195 := Aside0.mk (el25 hx195_0 hx195_1 hx195_2 hx195_3 hx195_4 hx195_5 hx195_6 hx195_7 hx195_8 hx195_9 hx195_10 hx195_11 hx195_12 hx195_13 hx195_14 hx195_15 hx195_16 hx195_17 hx195_18 hx195_19 hx195_20 hx195_21 hx195_22 hx195_23 hx195_24)
        cases e195
        replace hx195_0 := (HB.out.cell (World.block_lt_of_cell? w _ hx195_0)).trans hx195_0
        replace hx195_1 := (HB.out.cell (World.block_lt_of_cell? w _ hx195_1)).trans hx195_1
        replace hx195_2 := (HB.out.cell (World.block_lt_of_cell? w _ hx195_2)).trans hx195_2
        replace hx195_3 := (HB.out.cell (World.block_lt_of_cell? w _ hx195_3)).trans hx195_3
        replace hx195_4 := (HB.out.cell (World.block_lt_of_cell? w _ hx195_4)).trans hx195_4
        replace hx195_5 := (HB.out.cell (World.block_lt_of_cell? w _ hx195_5)).trans hx195_5
        replace hx195_6 := (HB.out.cell (World.block_lt_of_cell? w _ hx195_6)).trans hx195_6
        replace hx195_7 := (HB.out.cell (World.block_lt_of_cell? w _ hx195_7)).trans hx195_7
        replace hx195_8 := (HB.out.cell (World.block_lt_of_cell? w _ hx195_8)).trans hx195_8
        replace hx195_9 := (HB.out.cell (World.block_lt_of_cell? w _ hx195_9)).trans hx195_9
        replace hx195_10 := (HB.out.cell (World.block_lt_of_cell? w _ hx195_10)).trans hx195_10
        replace hx195_11 := (HB.out.cell (World.block_lt_of_cell? w _ hx195_11)).trans hx195_11
        replace hx195_12 := (HB.out.cell (World.block_lt_of_cell? w _ hx195_12)).trans hx195_12
        replace hx195_13 := (HB.out.cell (World.block_lt_of_cell? w _ hx195_13)).trans hx195_13
        replace hx195_14 := (HB.out.cell (World.block_lt_of_cell? w _ hx195_14)).trans hx195_14
        replace hx195_15 := (HB.out.cell (World.block_lt_of_cell? w _ hx195_15)).trans hx195_15
        replace hx195_16 := (HB.out.cell (World.block_lt_of_cell? w _ hx195_16)).trans hx195_16
        replace hx195_17 := (HB.out.cell (World.block_lt_of_cell? w _ hx195_17)).trans hx195_17
        replace hx195_18 := (HB.out.cell (World.block_lt_of_cell? w _ hx195_18)).trans hx195_18
        replace hx195_19 := (HB.out.cell (World.block_lt_of_cell? w _ hx195_19)).trans hx195_19
        replace hx195_20 := (HB.out.cell (World.block_lt_of_cell? w _ hx195_20)).trans hx195_20
        replace hx195_21 := (HB.out.cell (World.block_lt_of_cell? w _ hx195_21)).trans hx195_21
        replace hx195_22 := (HB.out.cell (World.block_lt_of_cell? w _ hx195_22)).trans hx195_22
        replace hx195_23 := (HB.out.cell (World.block_lt_of_cell? w _ hx195_23)).trans hx195_23
        replace hx195_24 := (HB.out.cell (World.block_lt_of_cell? w _ hx195_24)).trans hx195_24
        (try clear hel195)
        have hel195 := Aside0.mk (el25 hx195_0 hx195_1 hx195_2 hx195_3 hx195_4 hx195_5 hx195_6 hx195_7 hx195_8 hx195_9 hx195_10 hx195_11 hx195_12 hx195_13 hx195_14 hx195_15 hx195_16 hx195_17 hx195_18 hx195_19 hx195_20 hx195_21 hx195_22 hx195_23 hx195_24)
        have HR195_23 := Aside0.mk hi195_23
        have HC195_23 := Aside0.mk hl195_23
        clear hi195_23 hl195_23
        have HR195_24 := Aside0.mk hi195_24
        have HC195_24 := Aside0.mk hl195_24
        clear hi195_24 hl195_24
        replace p195 := eq_true p195
        replace q195 := eq_true q195
        go_wp2_with (first | ((with_reducible refine gate_ld (ty := 27) rfl ?_); apply ldE (qu := Tryd.underlying27); rfl; rfl; rfl; (with_reducible first | exact hel195); rfl; exact siz27) | ((with_reducible refine gate_ld (ty := 27) rfl ?_); apply ldB (qu := Tryd.underlying27); rfl; rfl; rfl; (first | with_reducible exact BK196 | (apply Aside0.mk; apply blk_seq; (focus ((repeat (with_reducible first | exact BK196.out | apply blk_drewN | apply blk_drew | apply blk_alloc | apply blk_set)); done)); (first | (simp only [zS, zC, zD]; with_reducible rfl) | with_reducible rfl))); rfl; exact siz27) | ((with_reducible refine gate_st (ty := 27) rfl ?_); apply stB25 (qi := siz27); rfl; rfl; rfl; rfl; (apply Exists.intro; apply Exists.intro; apply And.intro; (focus ((repeat (with_reducible first | exact BK196.out | apply blk_drewN | apply blk_drew | apply blk_alloc | apply blk_set)); done)); (first | (simp only [Array.size_setIfInBounds]; rfl) | rfl)); rfl) | ((with_reducible refine gate_dst (N := 5) rfl ?_); refine box_event ?hg (N := 5) ?hd (cs := #[.int .i64 0, .int .i64 0, .int .i64 0, .int .i64 0, .int .i64 0, .int .i64 0, .int .i64 0, .int .i64 0, .int .i64 0, .int .i64 0, .int .i64 0, .int .i64 0, .int .i64 0, .int .i64 0, .int .i64 0, .int .i64 0, .int .i64 0, .int .i64 0, .int .i64 0, .int .i64 0, .int .i64 0, .string (⟨#[]⟩ : ByteArray), .string (⟨#[]⟩ : ByteArray), .slice none 0 0, .slice none 0 0]) (t := 27) ?hr ?_; (case hd => rfl); (case hg => rfl); (case hr => first | (go_simp; done) | (go_simp; rfl)); intro gb196 hg w13 hbox hb; have n0_ := Aside0.mk (below_step (by repeat (with_reducible first | exact HB.out | apply below_alloc | apply pw_below_drewN | apply below_drew1)) hb); have n1_ := Aside0.mk (hbox); have n2_ := Aside0.mk ((by rw [hg]; exact (below_size (by repeat (with_reducible first | exact HB.out | apply below_alloc | apply pw_below_drewN | apply below_drew1))) : w.heap.size ≤ gb196)); have n3_ := n2_; clear HB; have HB := n0_; have BK196 := n1_; have GW196 := n2_; have GE196 := n3_; clear n0_ n1_ n2_ n3_; clear hb hbox hg; have hcz14 := bk25 BK196.out; have hfz14 := blk_frozen BK196.out))
        go_roundg k1
        case measure => have := HK1.out; omega
        case rel => exact ⟨(x3_1), (wrap64 (x8_1 + 1)), (by first | rfl | (simp [*]; done)), (by first | rfl | (simp [*]; done)), H', ⟨by have := HK1.out; omega⟩, ⟨by repeat (with_reducible first | exact HB.out | apply below_alloc | apply pw_below_drewN | apply below_drew1 | refine below_set ?_ GE196.out)⟩⟩
     ·rw [if_neg c4] at H
      exact absurd H (by simp)
    ·rw [if_neg c3] at H
     exact absurd H (by simp)
   ·rw [if_neg c2] at H
    have c2b0 : decide (x8_1 < (l0.length : Int)) = false := decide_eq_false c2
    clear c2
    obtain rfl := Option.some.inj H
    go_wp2_with (first | ((with_reducible refine gate_ld (ty := 27) rfl ?_); apply ldE (qu := Tryd.underlying27); rfl; rfl; rfl; (with_reducible first | exact hel195); rfl; exact siz27) | ((with_reducible refine gate_ld (ty := 27) rfl ?_); apply ldB (qu := Tryd.underlying27); rfl; rfl; rfl; (first | with_reducible exact BK196 | (apply Aside0.mk; apply blk_seq; (focus ((repeat (with_reducible first | exact BK196.out | apply blk_drewN | apply blk_drew | apply blk_alloc | apply blk_set)); done)); (first | (simp only [zS, zC, zD]; with_reducible rfl) | with_reducible rfl))); rfl; exact siz27) | ((with_reducible refine gate_st (ty := 27) rfl ?_); apply stB25 (qi := siz27); rfl; rfl; rfl; rfl; (apply Exists.intro; apply Exists.intro; apply And.intro; (focus ((repeat (with_reducible first | exact BK196.out | apply blk_drewN | apply blk_drew | apply blk_alloc | apply blk_set)); done)); (first | (simp only [Array.size_setIfInBounds]; rfl) | rfl)); rfl))
    go_ret
    exact ⟨by first | rfl | (simp [errW_none, errW_some] <;> rfl) | (simp [*, errW_none, errW_some] <;> rfl), by repeat (with_reducible first | exact HB.out | apply below_alloc | apply pw_below_drewN | apply below_drew1)⟩

/-! ### corebanklaw39_sample: function 22 -/
def corebanklaw39_sample.f  : Option (Int × Int × Int × Int × Int × Int × Int × Int × Int × Int × Int × Int × Int × Int × Int × Int × Int × Int × Int × Int × Int × ByteArray × ByteArray × (List (S43)) × (List (S59))) := some (1, 1000, 1, 0, 0, 0, 4, 30, 315, 0, 0, 2, 700, 0, 30, 1, 1, 0, 1, 0, 0, (⟨#[104, 111, 109, 101]⟩ : ByteArray), (⟨#[69, 85, 82]⟩ : ByteArray), (([(⟨1, 59, 700, 0⟩ : S43)] : List (S43))), ([] : List (S59)))
set_option maxHeartbeats 8000000 in
set_option maxRecDepth 100000 in
theorem corebanklaw39_sample.calls  (r1 : Int) (r2 : Int) (r3 : Int) (r4 : Int) (r5 : Int) (r6 : Int) (r7 : Int) (r8 : Int) (r9 : Int) (r10 : Int) (r11 : Int) (r12 : Int) (r13 : Int) (r14 : Int) (r15 : Int) (r16 : Int) (r17 : Int) (r18 : Int) (r19 : Int) (r20 : Int) (r21 : Int) (r22 : ByteArray) (r23 : ByteArray) (r24 : List (S43)) (r25 : List (S59)) (w : World) (h : corebanklaw39_sample.f  = some (r1, r2, r3, r4, r5, r6, r7, r8, r9, r10, r11, r12, r13, r14, r15, r16, r17, r18, r19, r20, r21, r22, r23, r24, r25)) :
  Calls Tryd.prog 22 #[] w fun e w' => ∃ v23_ v24_ : Value, e = .returned (.agg #[.int .i64 r1, .int .i64 r2, .int .i64 r3, .int .i64 r4, .int .i64 r5, .int .i64 r6, .int .i64 r7, .int .i64 r8, .int .i64 r9, .int .i64 r10, .int .i64 r11, .int .i64 r12, .int .i64 r13, .int .i64 r14, .int .i64 r15, .int .i64 r16, .int .i64 r17, .int .i64 r18, .int .i64 r19, .int .i64 r20, .int .i64 r21, .string r22, .string r23, v23_, v24_]) ∧ Kd.R k43 43 w' w.heap.size (fun _ => True) v23_ r24 ∧ Kd.R k59 59 w' w.heap.size (fun _ => True) v24_ r25 ∧ Below w.heap.size w w' := by
 have hu27 := Tryd.underlying27
 have hu23 := Tryd.underlying23
 have hu43 := Tryd.underlying43
 have HB := Aside0.mk (Below.refl w.heap.size w)
 have H : (some (1, 1000, 1, 0, 0, 0, 4, 30, 315, 0, 0, 2, 700, 0, 30, 1, 1, 0, 1, 0, 0, (⟨#[104, 111, 109, 101]⟩ : ByteArray), (⟨#[69, 85, 82]⟩ : ByteArray), (([(⟨1, 59, 700, 0⟩ : S43)] : List (S43))), ([] : List (S59)))) = some (r1, r2, r3, r4, r5, r6, r7, r8, r9, r10, r11, r12, r13, r14, r15, r16, r17, r18, r19, r20, r21, r22, r23, r24, r25) := h
 clear h
 obtain ⟨y200, hy200⟩ : ∃ y_ : List (S43), y_ = (([(⟨1, 59, 700, 0⟩ : S43)] : List (S43))) := ⟨_, rfl⟩
 replace H : (some (1, 1000, 1, 0, 0, 0, 4, 30, 315, 0, 0, 2, 700, 0, 30, 1, 1, 0, 1, 0, 0, (⟨#[104, 111, 109, 101]⟩ : ByteArray), (⟨#[69, 85, 82]⟩ : ByteArray), y200, ([] : List (S59)))) = some (r1, r2, r3, r4, r5, r6, r7, r8, r9, r10, r11, r12, r13, r14, r15, r16, r17, r18, r19, r20, r21, r22, r23, r24, r25) := by first | (rw [hy200]; with_reducible exact H) | (have H2_ := (Option.bind_some _ _).symm.trans H; rw [hy200]; with_reducible exact H2_) | (have H2_ := (Option.bind_some _ _).symm.trans H; with_reducible exact H2_) | with_reducible exact H | (rw [hy200]; exact H) | exact H
 have Ny200 := Aside0.mk hy200
 clear hy200
 simp only [Option.some.injEq, Prod.mk.injEq] at H
 obtain ⟨rfl, rfl, rfl, rfl, rfl, rfl, rfl, rfl, rfl, rfl, rfl, rfl, rfl, rfl, rfl, rfl, rfl, rfl, rfl, rfl, rfl, rfl, rfl, rfl, rfl⟩ := H
 go_enter Tryd.func22, Tryd.ntmps22
 go_wp2_with (first | ((with_reducible refine gate_ld (ty := 27) rfl ?_); apply ldB (qu := Tryd.underlying27); rfl; rfl; rfl; (first | with_reducible exact BK198 | with_reducible exact BK199 | (apply Aside0.mk; apply blk_seq; (focus ((repeat (with_reducible first | exact BK198.out | exact BK199.out | apply blk_drewN | apply blk_drew | apply blk_alloc | apply blk_set | apply blk_farp NB198_199.out | apply blk_farp NB199_198.out)); done)); (first | (simp only [zS, zC, zD]; with_reducible rfl) | with_reducible rfl))); rfl; exact siz27) | ((with_reducible refine gate_st (ty := 27) rfl ?_); apply stB25 (qi := siz27); rfl; rfl; rfl; rfl; (apply Exists.intro; apply Exists.intro; apply And.intro; (focus ((repeat (with_reducible first | exact BK198.out | exact BK199.out | apply blk_drewN | apply blk_drew | apply blk_alloc | apply blk_set | apply blk_farp NB198_199.out | apply blk_farp NB199_198.out)); done)); (first | (simp only [Array.size_setIfInBounds]; rfl) | rfl)); rfl) | ((with_reducible refine gate_dst (N := 0) rfl ?_); refine box_event ?hg (N := 0) ?hd (cs := #[.int .i64 0, .int .i64 0, .int .i64 0, .int .i64 0, .int .i64 0, .int .i64 0, .int .i64 0, .int .i64 0, .int .i64 0, .int .i64 0, .int .i64 0, .int .i64 0, .int .i64 0, .int .i64 0, .int .i64 0, .int .i64 0, .int .i64 0, .int .i64 0, .int .i64 0, .int .i64 0, .int .i64 0, .string (⟨#[]⟩ : ByteArray), .string (⟨#[]⟩ : ByteArray), .slice none 0 0, .slice none 0 0]) (t := 27) ?hr ?_; (case hd => rfl); (case hg => rfl); (case hr => first | (go_simp; done) | (go_simp; rfl)); intro gb198 hg w1 hbox hb; have n0_ := Aside0.mk (below_step (by repeat (with_reducible first | exact HB.out | apply below_alloc | apply pw_below_drewN | apply below_drew1)) hb); have n1_ := Aside0.mk (hbox); have n2_ := Aside0.mk ((by rw [hg]; exact (below_size (by repeat (with_reducible first | exact HB.out | apply below_alloc | apply pw_below_drewN | apply below_drew1))) : w.heap.size ≤ gb198)); have n3_ := n2_; clear HB; have HB := n0_; have BK198 := n1_; have GW198 := n2_; have GE198 := n3_; clear n0_ n1_ n2_ n3_; clear hb hbox hg) | ((with_reducible refine gate_dst (N := 1) rfl ?_); refine box_event ?hg (N := 1) ?hd (cs := #[.int .i64 0, .int .i64 0, .int .i64 0, .int .i64 0, .int .i64 0, .int .i64 0, .int .i64 0, .int .i64 0, .int .i64 0, .int .i64 0, .string (⟨#[]⟩ : ByteArray), .string (⟨#[]⟩ : ByteArray)]) (t := 23) ?hr ?_; (case hd => rfl); (case hg => rfl); (case hr => first | (go_simp; done) | (go_simp; rfl)); intro gb199 hg w2 hbox hb; have n0_ := Aside0.mk (blk_below (g := gb198) (by (with_reducible repeat (first | refine blk_drewN ?_ _ | refine blk_drew ?_ | refine blk_alloc ?_ _)); exact BK198.out) hb); have n1_ := Aside0.mk (below_step (by repeat (with_reducible first | exact HB.out | apply below_alloc | apply pw_below_drewN | apply below_drew1 | refine below_set ?_ GE198.out)) hb); have n2_ := Aside0.mk (hbox); have n3_ := Aside0.mk ((by rw [hg]; exact (below_size (by repeat (with_reducible first | exact HB.out | apply below_alloc | apply pw_below_drewN | apply below_drew1 | refine below_set ?_ GE198.out))) : w.heap.size ≤ gb199)); have n4_ := n3_; have n5_ := Aside0.mk ((by rw [hg]; exact Nat.ne_of_lt (blk_lt (g := gb198) (by (with_reducible repeat (first | refine blk_drewN ?_ _ | refine blk_drew ?_ | refine blk_alloc ?_ _)); exact BK198.out)) : gb198 ≠ gb199)); have n6_ := Aside0.mk ((by rw [hg]; exact Nat.ne_of_gt (blk_lt (g := gb198) (by (with_reducible repeat (first | refine blk_drewN ?_ _ | refine blk_drew ?_ | refine blk_alloc ?_ _)); exact BK198.out)) : gb199 ≠ gb198)); clear BK198; clear HB; have BK198 := n0_; have HB := n1_; have BK199 := n2_; have GW199 := n3_; have GE199 := n4_; have NB198_199 := n5_; have NB199_198 := n6_; clear n0_ n1_ n2_ n3_ n4_ n5_ n6_; clear hb hbox hg; have hnb3 := NB199_198.out; have hnc3 := NB198_199.out; have hcz4 := blk_cell BK199.out; have hfz4 := blk_frozen BK199.out) | ((with_reducible refine gate_dst (N := 5) rfl ?_); refine Kd.R_lit k43 _ 43 ?hg (N := 5) ?hd (xs := ([(⟨1, 59, 700, 0⟩ : S43)] : List (S43))) (inner := [.int .i64 1, .int .i64 59, .int .i64 700, .int .i64 0]) (ok := fun _ => True) (okp := fun _ => True) ?hr ?hp (fun _ hk => hk) trivial (Below.refl _ _) (Nat.le_refl _) (by simp) ?_; (case hd => rfl); (case hg => rfl); (case hr => first | (go_simp; done) | (go_simp; rfl)); (case hp => exact (Reps.c4 (show Kd.M k43 _ _ _ (⟨1, 59, 700, 0⟩ : S43) [.int .i64 1, .int .i64 59, .int .i64 700, .int .i64 0] from (k43_mkM _ _ _ (⟨1, 59, 700, 0⟩ : S43) )) (Reps.none _ _))); intro v201 w5 ho6 hb hg_ hnew_; clear hg_ hnew_; (first | rw [← Ny200.out] at ho6 | (simp only [Int.reduceToNat] at ho6; rw [← Ny200.out] at ho6)); have n0_ := Aside0.mk (Kd.R_lower ho6 (below_size (by repeat (with_reducible first | exact HB.out | apply below_alloc | apply pw_below_drewN | apply below_drew1 | refine below_set ?_ GE198.out | refine below_set ?_ GE199.out)))); have n1_ := Aside0.mk (blk_below (g := gb198) (o := .cells #[.int .i64 0, .int .i64 0, .int .i64 0, .int .i64 0, .int .i64 0, .int .i64 0, .int .i64 0, .int .i64 0, .int .i64 0, .int .i64 0, .int .i64 0, .int .i64 0, .int .i64 0, .int .i64 0, .int .i64 0, .int .i64 0, .int .i64 0, .int .i64 0, .int .i64 0, .int .i64 0, .int .i64 0, .string (⟨#[]⟩ : ByteArray), .string (⟨#[]⟩ : ByteArray), .slice none 0 0, .slice none 0 0] 27 (0, 0)) (by (iterate 12 ((with_reducible repeat (first | refine blk_drewN ?_ _ | refine blk_drew ?_ | refine blk_alloc ?_ _)); refine blk_far ?_ NB198_199.out _)); (with_reducible repeat (first | refine blk_drewN ?_ _ | refine blk_drew ?_ | refine blk_alloc ?_ _)); exact BK198.out) hb); have n2_ := Aside0.mk (blk_below (g := gb199) (o := .cells #[.int .i64 2, .int .i64 700, .int .i64 0, .int .i64 30, .int .i64 1, .int .i64 1, .int .i64 0, .int .i64 1, .int .i64 0, .int .i64 0, .string (⟨#[104, 111, 109, 101]⟩ : ByteArray), .string (⟨#[69, 85, 82]⟩ : ByteArray)] 23 (0, 0)) (by (with_reducible repeat (first | refine blk_drewN ?_ _ | refine blk_drew ?_ | refine blk_alloc ?_ _)); refine blk_put (cs := #[.int .i64 2, .int .i64 700, .int .i64 0, .int .i64 30, .int .i64 1, .int .i64 1, .int .i64 0, .int .i64 1, .int .i64 0, .int .i64 0, .string (⟨#[104, 111, 109, 101]⟩ : ByteArray), .string (⟨#[]⟩ : ByteArray)]) ?_ 11 _ rfl; exact blk_seq (by repeat (with_reducible first | exact BK199.out | apply blk_drewN | apply blk_drew | apply blk_alloc | apply blk_set)) (by first | (simp only [zS, zC, zD]; done) | rfl)) hb); have n3_ := Aside0.mk (below_step (by repeat (with_reducible first | exact HB.out | apply below_alloc | apply pw_below_drewN | apply below_drew1 | refine below_set ?_ GE198.out | refine below_set ?_ GE199.out)) hb); clear BK198; clear BK199; clear HB; have HO202 := n0_; have BK198 := n1_; have BK199 := n2_; have HB := n3_; clear n0_ n1_ n2_ n3_; clear hb ho6; obtain ⟨Ao7, co7, eo7⟩ := Kd.R_slice HO202.out; subst eo7; have hcz8 := bk25 BK198.out; have hfz8 := blk_frozen BK198.out))
 refine bodyPost_ret (results_cell_row rfl _ _ gb198 27 #[.int .i64 1, .int .i64 1000, .int .i64 1, .int .i64 0, .int .i64 0, .int .i64 0, .int .i64 4, .int .i64 30, .int .i64 315, .int .i64 0, .int .i64 0, .int .i64 2, .int .i64 700, .int .i64 0, .int .i64 30, .int .i64 1, .int .i64 1, .int .i64 0, .int .i64 1, .int .i64 0, .int .i64 0, .string (⟨#[104, 111, 109, 101]⟩ : ByteArray), .string (⟨#[69, 85, 82]⟩ : ByteArray), .slice Ao7 y200.length co7, .slice none 0 0] (0, 0) _ rfl (by (with_reducible repeat (first | refine blk_drewN ?_ _ | refine blk_drew ?_ | refine blk_alloc ?_ _)); refine blk_put (cs := #[.int .i64 1, .int .i64 1000, .int .i64 1, .int .i64 0, .int .i64 0, .int .i64 0, .int .i64 4, .int .i64 30, .int .i64 315, .int .i64 0, .int .i64 0, .int .i64 2, .int .i64 700, .int .i64 0, .int .i64 30, .int .i64 1, .int .i64 1, .int .i64 0, .int .i64 1, .int .i64 0, .int .i64 0, .string (⟨#[104, 111, 109, 101]⟩ : ByteArray), .string (⟨#[69, 85, 82]⟩ : ByteArray), .slice Ao7 y200.length co7, .slice none 0 0]) ?_ 24 _ rfl; (with_reducible repeat (first | refine blk_drewN ?_ _ | refine blk_drew ?_ | refine blk_alloc ?_ _)); refine blk_put (cs := #[.int .i64 1, .int .i64 1000, .int .i64 1, .int .i64 0, .int .i64 0, .int .i64 0, .int .i64 4, .int .i64 30, .int .i64 315, .int .i64 0, .int .i64 0, .int .i64 2, .int .i64 700, .int .i64 0, .int .i64 30, .int .i64 1, .int .i64 1, .int .i64 0, .int .i64 1, .int .i64 0, .int .i64 0, .string (⟨#[104, 111, 109, 101]⟩ : ByteArray), .string (⟨#[69, 85, 82]⟩ : ByteArray), .slice none 0 0, .slice none 0 0]) ?_ 23 _ rfl; (with_reducible repeat (first | refine blk_drewN ?_ _ | refine blk_drew ?_ | refine blk_alloc ?_ _)); refine blk_put (cs := #[.int .i64 1, .int .i64 1000, .int .i64 1, .int .i64 0, .int .i64 0, .int .i64 0, .int .i64 4, .int .i64 30, .int .i64 315, .int .i64 0, .int .i64 0, .int .i64 2, .int .i64 700, .int .i64 0, .int .i64 30, .int .i64 1, .int .i64 1, .int .i64 0, .int .i64 1, .int .i64 0, .int .i64 0, .string (⟨#[104, 111, 109, 101]⟩ : ByteArray), .string (⟨#[]⟩ : ByteArray), .slice none 0 0, .slice none 0 0]) ?_ 22 _ rfl; exact blk_seq (by repeat (with_reducible first | exact BK198.out | apply blk_drewN | apply blk_drew | apply blk_alloc | apply blk_set)) (by first | (simp only [zS, zC, zD]; done) | rfl)) Tryd.underlying27 rfl (by kernel_rfl)) rfl ?_
 exact ⟨_, _, by first | rfl | (simp [errW_none, errW_some] <;> rfl) | (simp [*, errW_none, errW_some] <;> rfl), by (with_reducible repeat (first | apply Kd.R_alloc | apply Kd.R_drewN | apply Kd.R_drew)); exact Kd.R_mono (rf25 (g := gb198) (Kd.R_types HO202.out BK198.out (by decide)) (fun _ hk => hk.2)) (fun _ hk => trivial), by first | exact Kd.R_nil _ _ _ _ _ | exact Kd.N_nil _ _ _ _ _ | exact Kd.V_nil _ _ _ _ _ | exact Kd.Q_nil _ _ _ _ _ | exact Kd.S_nil _ _ _ _ _, by repeat (with_reducible first | exact HB.out | apply below_alloc | apply pw_below_drewN | apply below_drew1 | refine below_set ?_ GE198.out | refine below_set ?_ GE199.out)⟩

end Go.Proofs.YtbapjcafcmnhoaaDoor.X
