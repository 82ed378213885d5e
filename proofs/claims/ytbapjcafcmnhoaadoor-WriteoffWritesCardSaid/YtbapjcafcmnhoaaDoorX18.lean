-- Written by program (wip/tools/xprint.sh) for this seat; not trusted: Lean checks it.
import Derived.Test.YtbapjcafcmnhoaaDoorX0
import Derived.Test.YtbapjcafcmnhoaaDoorX1
namespace Go.Proofs.YtbapjcafcmnhoaaDoor.X
open Go.RowKit Go.Proofs.YtbapjcafcmnhoaaDoorW.PrintWords Go.Proofs.YtbapjcafcmnhoaaDoorW.PrintLast Go.Proofs.YtbapjcafcmnhoaaDoorW.PrintMore
attribute [local go_sem] max2_int min2_int   -- for this text's walks alone
set_option linter.unusedVariables false
set_option linter.unusedSimpArgs false

/-! ### corebankref37_Days: function 29 -/
def corebankref37_Days.l0 : Nat → Int → Int → Int → Int → Int → Int → Int → Int → Int → Int → Int → Int → Int → Int → Int → Int → Int → Int → Int → Int → Int → Int → Int → Int → Int → ByteArray → ByteArray → List (S43) → List (S59) → Option (Int)
  | 0, _, _, _, _, _, _, _, _, _, _, _, _, _, _, _, _, _, _, _, _, _, _, _, _, _, _, _, _, _ => none
  | k + 1, x1, x5, x6, x7, x425000, x425001, x425002, x425003, x425004, x425005, x425006, x425007, x425008, x425009, x425010, x425011, x425012, x425013, x425014, x425015, x425016, x425017, x425018, x425019, x425020, x425021, x425022, x425023, x425024 => if x7 < (x425023.length : Int) then (if 0 ≤ x7 then (if ((rd_T43 x425023 x7).f1) ≤ x1 then (if x425003 < (wrap64 (x5 + ((rd_T43 x425023 x7).f2))) then (some (wrap64 (x1 - ((rd_T43 x425023 x7).f1)))) else (if x425004 < (wrap64 (x6 + ((rd_T43 x425023 x7).f3))) then (some (wrap64 (x1 - ((rd_T43 x425023 x7).f1)))) else (corebankref37_Days.l0 k x1 (wrap64 (x5 + ((rd_T43 x425023 x7).f2))) (wrap64 (x6 + ((rd_T43 x425023 x7).f3))) (wrap64 (x7 + 1)) x425000 x425001 x425002 x425003 x425004 x425005 x425006 x425007 x425008 x425009 x425010 x425011 x425012 x425013 x425014 x425015 x425016 x425017 x425018 x425019 x425020 x425021 x425022 x425023 x425024))) else (corebankref37_Days.l0 k x1 (wrap64 (x5 + ((rd_T43 x425023 x7).f2))) (wrap64 (x6 + ((rd_T43 x425023 x7).f3))) (wrap64 (x7 + 1)) x425000 x425001 x425002 x425003 x425004 x425005 x425006 x425007 x425008 x425009 x425010 x425011 x425012 x425013 x425014 x425015 x425016 x425017 x425018 x425019 x425020 x425021 x425022 x425023 x425024)) else (none)) else (some 0)
def corebankref37_Days.f (k : Nat) (a0_0 : Int) (a0_1 : Int) (a0_2 : Int) (a0_3 : Int) (a0_4 : Int) (a0_5 : Int) (a0_6 : Int) (a0_7 : Int) (a0_8 : Int) (a0_9 : Int) (a0_10 : Int) (a0_11 : Int) (a0_12 : Int) (a0_13 : Int) (a0_14 : Int) (a0_15 : Int) (a0_16 : Int) (a0_17 : Int) (a0_18 : Int) (a0_19 : Int) (a0_20 : Int) (a0_21 : ByteArray) (a0_22 : ByteArray) (l0_23 : List (S43)) (l0_24 : List (S59)) (a1 : Int) : Option (Int) := corebankref37_Days.l0 k a1 0 0 0 a0_0 a0_1 a0_2 a0_3 a0_4 a0_5 a0_6 a0_7 a0_8 a0_9 a0_10 a0_11 a0_12 a0_13 a0_14 a0_15 a0_16 a0_17 a0_18 a0_19 a0_20 a0_21 a0_22 l0_23 l0_24
theorem corebankref37_Days.mono_l : ∀ k, (∀ y0 y1 y2 y3 y4 y5 y6 y7 y8 y9 y10 y11 y12 y13 y14 y15 y16 y17 y18 y19 y20 y21 y22 y23 y24 y25 y26 y27 y28, LeO (corebankref37_Days.l0 k y0 y1 y2 y3 y4 y5 y6 y7 y8 y9 y10 y11 y12 y13 y14 y15 y16 y17 y18 y19 y20 y21 y22 y23 y24 y25 y26 y27 y28) (corebankref37_Days.l0 (k + 1) y0 y1 y2 y3 y4 y5 y6 y7 y8 y9 y10 y11 y12 y13 y14 y15 y16 y17 y18 y19 y20 y21 y22 y23 y24 y25 y26 y27 y28))
  | 0 => fun _ _ _ _ _ _ _ _ _ _ _ _ _ _ _ _ _ _ _ _ _ _ _ _ _ _ _ _ _ r h => by simp [corebankref37_Days.l0] at h
  | k + 1 => by
    have ih0 := corebankref37_Days.mono_l k
    · intro y0 y1 y2 y3 y4 y5 y6 y7 y8 y9 y10 y11 y12 y13 y14 y15 y16 y17 y18 y19 y20 y21 y22 y23 y24 y25 y26 y27 y28
      unfold corebankref37_Days.l0
      repeat' first
      | (with_reducible exact ih0 _ _ _ _ _ _ _ _ _ _ _ _ _ _ _ _ _ _ _ _ _ _ _ _ _ _ _ _ _)
      | (with_reducible exact LeO.refl _)
      | (with_reducible exact LeO.none _)
      | (with_reducible refine LeO.ite ?_ ?_)
      | (with_reducible refine LeO.bind ?_ (fun _ => ?_))
      | exact ih0 _ _ _ _ _ _ _ _ _ _ _ _ _ _ _ _ _ _ _ _ _ _ _ _ _ _ _ _ _
      | exact LeO.none _
      | refine LeO.ite ?_ ?_
      | refine LeO.bind ?_ (fun _ => ?_)
theorem corebankref37_Days.mono : ∀ a0 a1 a2 a3 a4 a5 a6 a7 a8 a9 a10 a11 a12 a13 a14 a15 a16 a17 a18 a19 a20 a21 a22 a23 a24 a25 k, LeO (corebankref37_Days.f k a0 a1 a2 a3 a4 a5 a6 a7 a8 a9 a10 a11 a12 a13 a14 a15 a16 a17 a18 a19 a20 a21 a22 a23 a24 a25) (corebankref37_Days.f (k + 1) a0 a1 a2 a3 a4 a5 a6 a7 a8 a9 a10 a11 a12 a13 a14 a15 a16 a17 a18 a19 a20 a21 a22 a23 a24 a25) := by
  intro a0 a1 a2 a3 a4 a5 a6 a7 a8 a9 a10 a11 a12 a13 a14 a15 a16 a17 a18 a19 a20 a21 a22 a23 a24 a25 k
  have ih0 := corebankref37_Days.mono_l k
  unfold corebankref37_Days.f
  repeat' first
      | (with_reducible exact ih0 _ _ _ _ _ _ _ _ _ _ _ _ _ _ _ _ _ _ _ _ _ _ _ _ _ _ _ _ _)
      | (with_reducible exact LeO.refl _)
      | (with_reducible exact LeO.none _)
      | (with_reducible refine LeO.ite ?_ ?_)
      | (with_reducible refine LeO.bind ?_ (fun _ => ?_))
      | exact ih0 _ _ _ _ _ _ _ _ _ _ _ _ _ _ _ _ _ _ _ _ _ _ _ _ _ _ _ _ _
      | exact LeO.none _
      | refine LeO.ite ?_ ?_
      | refine LeO.bind ?_ (fun _ => ?_)
set_option maxHeartbeats 8000000 in
set_option maxRecDepth 100000 in
theorem corebankref37_Days.calls (k : Nat) (a0_0 : Int) (a0_1 : Int) (a0_2 : Int) (a0_3 : Int) (a0_4 : Int) (a0_5 : Int) (a0_6 : Int) (a0_7 : Int) (a0_8 : Int) (a0_9 : Int) (a0_10 : Int) (a0_11 : Int) (a0_12 : Int) (a0_13 : Int) (a0_14 : Int) (a0_15 : Int) (a0_16 : Int) (a0_17 : Int) (a0_18 : Int) (a0_19 : Int) (a0_20 : Int) (a0_21 : ByteArray) (a0_22 : ByteArray) (A0_23 : Option Addr) (c0_23 : Nat) (l0_23 : List (S43)) (A0_24 : Option Addr) (c0_24 : Nat) (l0_24 : List (S59)) (a1 : Int) (r : Int) (w : World) (hr0_23 : Kd.C k43 w A0_23 l0_23.length l0_23) (hc0_23 : l0_23.length ≤ c0_23) (hr0_24 : Kd.C k59 w A0_24 l0_24.length l0_24) (hc0_24 : l0_24.length ≤ c0_24) (h : corebankref37_Days.f k a0_0 a0_1 a0_2 a0_3 a0_4 a0_5 a0_6 a0_7 a0_8 a0_9 a0_10 a0_11 a0_12 a0_13 a0_14 a0_15 a0_16 a0_17 a0_18 a0_19 a0_20 a0_21 a0_22 l0_23 l0_24 a1 = some r) :
  Calls Tryd.prog 29 #[.agg #[.int .i64 a0_0, .int .i64 a0_1, .int .i64 a0_2, .int .i64 a0_3, .int .i64 a0_4, .int .i64 a0_5, .int .i64 a0_6, .int .i64 a0_7, .int .i64 a0_8, .int .i64 a0_9, .int .i64 a0_10, .int .i64 a0_11, .int .i64 a0_12, .int .i64 a0_13, .int .i64 a0_14, .int .i64 a0_15, .int .i64 a0_16, .int .i64 a0_17, .int .i64 a0_18, .int .i64 a0_19, .int .i64 a0_20, .string a0_21, .string a0_22, .slice A0_23 l0_23.length c0_23, .slice A0_24 l0_24.length c0_24], .int .i64 a1] w fun e w' => e = .returned (.int .i64 r) ∧ Below w.heap.size w w' := by
 have hu27 := Tryd.underlying27
 have hu43 := Tryd.underlying43
 have HR0_23 := Aside0.mk hr0_23
 have HC0_23 := Aside0.mk hc0_23
 clear hr0_23 hc0_23
 have HR0_24 := Aside0.mk hr0_24
 have HC0_24 := Aside0.mk hc0_24
 clear hr0_24 hc0_24
 have HB := Aside0.mk (Below.refl w.heap.size w)
 have H : (corebankref37_Days.l0 k a1 0 0 0 a0_0 a0_1 a0_2 a0_3 a0_4 a0_5 a0_6 a0_7 a0_8 a0_9 a0_10 a0_11 a0_12 a0_13 a0_14 a0_15 a0_16 a0_17 a0_18 a0_19 a0_20 a0_21 a0_22 l0_23 l0_24) = some r := h
 clear h
 have H' := Aside0.mk H
 clear H
 go_enter Tryd.func29, Tryd.ntmps29
 go_wp2_with (first | ((with_reducible refine gate_ld (ty := 27) rfl ?_); apply ldB (qu := Tryd.underlying27); rfl; rfl; rfl; (first | with_reducible exact BK424 | with_reducible exact BK426 | (apply Aside0.mk; apply blk_seq; (focus ((repeat (with_reducible first | exact BK424.out | exact BK426.out | apply blk_drewN | apply blk_drew | apply blk_alloc | apply blk_set | apply blk_farp NB424_426.out | apply blk_farp NB426_424.out)); done)); (first | (simp only [zS, zC, zD]; with_reducible rfl) | with_reducible rfl))); rfl; exact siz27) | ((with_reducible refine gate_st (ty := 27) rfl ?_); apply stB25 (qi := siz27); rfl; rfl; rfl; rfl; (apply Exists.intro; apply Exists.intro; apply And.intro; (focus ((repeat (with_reducible first | exact BK424.out | exact BK426.out | apply blk_drewN | apply blk_drew | apply blk_alloc | apply blk_set | apply blk_farp NB424_426.out | apply blk_farp NB426_424.out)); done)); (first | (simp only [Array.size_setIfInBounds]; rfl) | rfl)); rfl) | ((with_reducible refine gate_dst (N := 2) rfl ?_); refine box_event ?hg (N := 2) ?hd (cs := #[.int .i64 a0_0, .int .i64 a0_1, .int .i64 a0_2, .int .i64 a0_3, .int .i64 a0_4, .int .i64 a0_5, .int .i64 a0_6, .int .i64 a0_7, .int .i64 a0_8, .int .i64 a0_9, .int .i64 a0_10, .int .i64 a0_11, .int .i64 a0_12, .int .i64 a0_13, .int .i64 a0_14, .int .i64 a0_15, .int .i64 a0_16, .int .i64 a0_17, .int .i64 a0_18, .int .i64 a0_19, .int .i64 a0_20, .string a0_21, .string a0_22, .slice A0_23 l0_23.length c0_23, .slice A0_24 l0_24.length c0_24]) (t := 27) ?hr ?_; (case hd => rfl); (case hg => rfl); (case hr => first | (go_simp; done) | (go_simp; rfl)); intro gb424 hg w3 hbox hb; have n0_ := Aside0.mk (below_step (by repeat (with_reducible first | exact HB.out | apply below_alloc | apply pw_below_drewN | apply below_drew1)) hb); have n1_ := Aside0.mk (hbox); have n2_ := Aside0.mk ((by rw [hg]; exact (below_size (by repeat (with_reducible first | exact HB.out | apply below_alloc | apply pw_below_drewN | apply below_drew1))) : w.heap.size ≤ gb424)); have n3_ := n2_; clear HB; have HB := n0_; have BK424 := n1_; have GW424 := n2_; have GE424 := n3_; clear n0_ n1_ n2_ n3_; clear hb hbox hg))
 go_loopg [5, 6, 7] k (fun kq v5 v6 v7 w' => ∃ (x5_1 : Int) (x6_1 : Int) (x7_1 : Int), v5 = .int .i64 x5_1 ∧ v6 = .int .i64 x6_1 ∧ v7 = .int .i64 x7_1 ∧ Aside0 (corebankref37_Days.l0 kq a1 x5_1 x6_1 x7_1 a0_0 a0_1 a0_2 a0_3 a0_4 a0_5 a0_6 a0_7 a0_8 a0_9 a0_10 a0_11 a0_12 a0_13 a0_14 a0_15 a0_16 a0_17 a0_18 a0_19 a0_20 a0_21 a0_22 l0_23 l0_24 = some r) ∧ Aside0 (kq ≤ k) ∧ Aside0 (w'.heap[gb424]? = some (.cells #[.int .i64 a0_0, .int .i64 a0_1, .int .i64 a0_2, .int .i64 a0_3, .int .i64 a0_4, .int .i64 a0_5, .int .i64 a0_6, .int .i64 a0_7, .int .i64 a0_8, .int .i64 a0_9, .int .i64 a0_10, .int .i64 a0_11, .int .i64 a0_12, .int .i64 a0_13, .int .i64 a0_14, .int .i64 a0_15, .int .i64 a0_16, .int .i64 a0_17, .int .i64 a0_18, .int .i64 a0_19, .int .i64 a0_20, .string a0_21, .string a0_22, (.slice A0_23 l0_23.length c0_23), (.slice A0_24 l0_24.length c0_24)] 27 (0, 0))) ∧ Aside0 (Below w.heap.size w w'))
 case atStart => exact ⟨(0), (0), (0), (by first | rfl | (simp [*]; done)), (by first | rfl | (simp [*]; done)), (by first | rfl | (simp [*]; done)), H', ⟨Nat.le_refl _⟩, ⟨by (with_reducible repeat (first | refine blk_drewN ?_ _ | refine blk_drew ?_ | refine blk_alloc ?_ _)); exact BK424.out⟩, ⟨by repeat (with_reducible first | exact HB.out | apply below_alloc | apply pw_below_drewN | apply below_drew1 | refine below_set ?_ GE424.out)⟩⟩
 case round =>
  clear H'
  try clear c2
  try clear p2
  obtain ⟨x5_1, x6_1, x7_1, rfl, rfl, rfl, HA, HK1, BK424, HB⟩ := hrel
  cases gk with
  | zero => exact absurd HA.out (by simp [corebankref37_Days.l0])
  | succ k1 =>
   have H := HA.out
   clear HA
   simp only [corebankref37_Days.l0] at H
   by_cases c4 : x7_1 < (l0_23.length : Int)
   ·rw [if_pos c4] at H
    have c4b0 : decide (x7_1 < (l0_23.length : Int)) = true := decide_eq_true c4
    clear c4
    by_cases c5 : 0 ≤ x7_1
    ·rw [if_pos c5] at H
     have c5b0 : decide (0 ≤ x7_1) = true := decide_eq_true c5
     clear c5
     by_cases c6 : ((rd_T43 l0_23 x7_1).f1) ≤ a1
     ·rw [if_pos c6] at H
      have c6b0 : decide (((rd_T43 l0_23 x7_1).f1) ≤ a1) = true := decide_eq_true c6
      clear c6
      by_cases c7 : a0_3 < (wrap64 (x5_1 + ((rd_T43 l0_23 x7_1).f2)))
      ·rw [if_pos c7] at H
       have c7b0 : decide (a0_3 < (wrap64 (x5_1 + ((rd_T43 l0_23 x7_1).f2)))) = true := decide_eq_true c7
       clear c7
       obtain rfl := Option.some.inj H
       obtain ⟨hcz8_0, hcz8_1, hcz8_2, hcz8_3, hcz8_4, hcz8_5, hcz8_6, hcz8_7, hcz8_8, hcz8_9, hcz8_10, hcz8_11, hcz8_12, hcz8_13, hcz8_14, hcz8_15, hcz8_16, hcz8_17, hcz8_18, hcz8_19, hcz8_20, hcz8_21, hcz8_22, hcz8_23, hcz8_24⟩ := bk25 BK424.out
       have hfz8 := blk_frozen BK424.out
       have p425 : 0 ≤ (x7_1 : Int) := of_decide_eq_true (by assumption)
       have q425 : x7_1 < (l0_23.length : Int) := of_decide_eq_true (by assumption)
       obtain ⟨ad425, e425, hx425_0, hx425_1, hx425_2, hx425_3⟩ := at_T43 HR0_23.out x7_1 p425 q425
       cases e425
       replace hx425_0 := (HB.out.cell (World.block_lt_of_cell? w _ hx425_0)).trans hx425_0
       replace hx425_1 := (HB.out.cell (World.block_lt_of_cell? w _ hx425_1)).trans hx425_1
       replace hx425_2 := (HB.out.cell (World.block_lt_of_cell? w _ hx425_2)).trans hx425_2
       replace hx425_3 := (HB.out.cell (World.block_lt_of_cell? w _ hx425_3)).trans hx425_3
       replace p425 := eq_true p425
       replace q425 := eq_true q425
       go_wp2_with (first | ((with_reducible refine gate_ld (ty := 27) rfl ?_); apply ldB (qu := Tryd.underlying27); rfl; rfl; rfl; (first | with_reducible exact BK424 | with_reducible exact BK426 | (apply Aside0.mk; apply blk_seq; (focus ((repeat (with_reducible first | exact BK424.out | exact BK426.out | apply blk_drewN | apply blk_drew | apply blk_alloc | apply blk_set | apply blk_farp NB424_426.out | apply blk_farp NB426_424.out)); done)); (first | (simp only [zS, zC, zD]; with_reducible rfl) | with_reducible rfl))); rfl; exact siz27) | ((with_reducible refine gate_st (ty := 27) rfl ?_); apply stB25 (qi := siz27); rfl; rfl; rfl; rfl; (apply Exists.intro; apply Exists.intro; apply And.intro; (focus ((repeat (with_reducible first | exact BK424.out | exact BK426.out | apply blk_drewN | apply blk_drew | apply blk_alloc | apply blk_set | apply blk_farp NB424_426.out | apply blk_farp NB426_424.out)); done)); (first | (simp only [Array.size_setIfInBounds]; rfl) | rfl)); rfl) | ((with_reducible refine gate_dst (N := 8) rfl ?_); refine box_event ?hg (N := 8) ?hd (cs := #[.int .i64 0, .int .i64 0, .int .i64 0, .int .i64 0]) (t := 43) ?hr ?_; (case hd => rfl); (case hg => rfl); (case hr => first | (go_simp; done) | (go_simp; rfl)); intro gb426 hg w9 hbox hb; have n0_ := Aside0.mk (blk_below (g := gb424) (by (with_reducible repeat (first | refine blk_drewN ?_ _ | refine blk_drew ?_ | refine blk_alloc ?_ _)); exact BK424.out) hb); have n1_ := Aside0.mk (below_step (by repeat (with_reducible first | exact HB.out | apply below_alloc | apply pw_below_drewN | apply below_drew1 | refine below_set ?_ GE424.out)) hb); have n2_ := Aside0.mk (hbox); have n3_ := Aside0.mk ((by rw [hg]; exact (below_size (by repeat (with_reducible first | exact HB.out | apply below_alloc | apply pw_below_drewN | apply below_drew1 | refine below_set ?_ GE424.out))) : w.heap.size ≤ gb426)); have n4_ := n3_; have n5_ := Aside0.mk ((by rw [hg]; exact Nat.ne_of_lt (blk_lt (g := gb424) (by (with_reducible repeat (first | refine blk_drewN ?_ _ | refine blk_drew ?_ | refine blk_alloc ?_ _)); exact BK424.out)) : gb424 ≠ gb426)); have n6_ := Aside0.mk ((by rw [hg]; exact Nat.ne_of_gt (blk_lt (g := gb424) (by (with_reducible repeat (first | refine blk_drewN ?_ _ | refine blk_drew ?_ | refine blk_alloc ?_ _)); exact BK424.out)) : gb426 ≠ gb424)); clear BK424; clear HB; have BK424 := n0_; have HB := n1_; have BK426 := n2_; have GW426 := n3_; have GE426 := n4_; have NB424_426 := n5_; have NB426_424 := n6_; clear n0_ n1_ n2_ n3_ n4_ n5_ n6_; clear hb hbox hg; have hnb10 := NB426_424.out; have hnc10 := NB424_426.out; have hcz11 := blk_cell BK426.out; have hfz11 := blk_frozen BK426.out; obtain ⟨hcz12_0, hcz12_1, hcz12_2, hcz12_3, hcz12_4, hcz12_5, hcz12_6, hcz12_7, hcz12_8, hcz12_9, hcz12_10, hcz12_11, hcz12_12, hcz12_13, hcz12_14, hcz12_15, hcz12_16, hcz12_17, hcz12_18, hcz12_19, hcz12_20, hcz12_21, hcz12_22, hcz12_23, hcz12_24⟩ := bk25 BK424.out; have hfz12 := blk_frozen BK424.out))
       go_ret
       exact ⟨by first | rfl | (simp [errW_none, errW_some] <;> rfl) | (simp [*, errW_none, errW_some] <;> rfl), by repeat (with_reducible first | exact HB.out | apply below_alloc | apply pw_below_drewN | apply below_drew1 | refine below_set ?_ GE424.out | refine below_set ?_ GE426.out)⟩
      ·rw [if_neg c7] at H
       have c7b0 : decide (a0_3 < (wrap64 (x5_1 + ((rd_T43 l0_23 x7_1).f2)))) = false := decide_eq_false c7
       clear c7
       by_cases c13 : a0_4 < (wrap64 (x6_1 + ((rd_T43 l0_23 x7_1).f3)))
       ·rw [if_pos c13] at H
        have c13b0 : decide (a0_4 < (wrap64 (x6_1 + ((rd_T43 l0_23 x7_1).f3)))) = true := decide_eq_true c13
        clear c13
        obtain rfl := Option.some.inj H
        obtain ⟨hcz14_0, hcz14_1, hcz14_2, hcz14_3, hcz14_4, hcz14_5, hcz14_6, hcz14_7, hcz14_8, hcz14_9, hcz14_10, hcz14_11, hcz14_12, hcz14_13, hcz14_14, hcz14_15, hcz14_16, hcz14_17, hcz14_18, hcz14_19, hcz14_20, hcz14_21, hcz14_22, hcz14_23, hcz14_24⟩ := bk25 BK424.out
        have hfz14 := blk_frozen BK424.out
        have p425 : 0 ≤ (x7_1 : Int) := of_decide_eq_true (by assumption)
        have q425 : x7_1 < (l0_23.length : Int) := of_decide_eq_true (by assumption)
        obtain ⟨ad425, e425, hx425_0, hx425_1, hx425_2, hx425_3⟩ := at_T43 HR0_23.out x7_1 p425 q425
        cases e425
        replace hx425_0 := (HB.out.cell (World.block_lt_of_cell? w _ hx425_0)).trans hx425_0
        replace hx425_1 := (HB.out.cell (World.block_lt_of_cell? w _ hx425_1)).trans hx425_1
        replace hx425_2 := (HB.out.cell (World.block_lt_of_cell? w _ hx425_2)).trans hx425_2
        replace hx425_3 := (HB.out.cell (World.block_lt_of_cell? w _ hx425_3)).trans hx425_3
        replace p425 := eq_true p425
        replace q425 := eq_true q425
        go_wp2_with (first | ((with_reducible refine gate_ld (ty := 27) rfl ?_); apply ldB (qu := Tryd.underlying27); rfl; rfl; rfl; (first | with_reducible exact BK424 | with_reducible exact BK426 | (apply Aside0.mk; apply blk_seq; (focus ((repeat (with_reducible first | exact BK424.out | exact BK426.out | apply blk_drewN | apply blk_drew | apply blk_alloc | apply blk_set | apply blk_farp NB424_426.out | apply blk_farp NB426_424.out)); done)); (first | (simp only [zS, zC, zD]; with_reducible rfl) | with_reducible rfl))); rfl; exact siz27) | ((with_reducible refine gate_st (ty := 27) rfl ?_); apply stB25 (qi := siz27); rfl; rfl; rfl; rfl; (apply Exists.intro; apply Exists.intro; apply And.intro; (focus ((repeat (with_reducible first | exact BK424.out | exact BK426.out | apply blk_drewN | apply blk_drew | apply blk_alloc | apply blk_set | apply blk_farp NB424_426.out | apply blk_farp NB426_424.out)); done)); (first | (simp only [Array.size_setIfInBounds]; rfl) | rfl)); rfl) | ((with_reducible refine gate_dst (N := 8) rfl ?_); refine box_event ?hg (N := 8) ?hd (cs := #[.int .i64 0, .int .i64 0, .int .i64 0, .int .i64 0]) (t := 43) ?hr ?_; (case hd => rfl); (case hg => rfl); (case hr => first | (go_simp; done) | (go_simp; rfl)); intro gb426 hg w15 hbox hb; have n0_ := Aside0.mk (blk_below (g := gb424) (by (with_reducible repeat (first | refine blk_drewN ?_ _ | refine blk_drew ?_ | refine blk_alloc ?_ _)); exact BK424.out) hb); have n1_ := Aside0.mk (below_step (by repeat (with_reducible first | exact HB.out | apply below_alloc | apply pw_below_drewN | apply below_drew1 | refine below_set ?_ GE424.out)) hb); have n2_ := Aside0.mk (hbox); have n3_ := Aside0.mk ((by rw [hg]; exact (below_size (by repeat (with_reducible first | exact HB.out | apply below_alloc | apply pw_below_drewN | apply below_drew1 | refine below_set ?_ GE424.out))) : w.heap.size ≤ gb426)); have n4_ := n3_; have n5_ := Aside0.mk ((by rw [hg]; exact Nat.ne_of_lt (blk_lt (g := gb424) (by (with_reducible repeat (first | refine blk_drewN ?_ _ | refine blk_drew ?_ | refine blk_alloc ?_ _)); exact BK424.out)) : gb424 ≠ gb426)); have n6_ := Aside0.mk ((by rw [hg]; exact Nat.ne_of_gt (blk_lt (g := gb424) (by (with_reducible repeat (first | refine blk_drewN ?_ _ | refine blk_drew ?_ | refine blk_alloc ?_ _)); exact BK424.out)) : gb426 ≠ gb424)); clear BK424; clear HB; have BK424 := n0_; have HB := n1_; have BK426 := n2_; have GW426 := n3_; have GE426 := n4_; have NB424_426 := n5_; have NB426_424 := n6_; clear n0_ n1_ n2_ n3_ n4_ n5_ n6_; clear hb hbox hg; have hnb16 := NB426_424.out; have hnc16 := NB424_426.out; have hcz17 := blk_cell BK426.out; have hfz17 := blk_frozen BK426.out; obtain ⟨hcz18_0, hcz18_1, hcz18_2, hcz18_3, hcz18_4, hcz18_5, hcz18_6, hcz18_7, hcz18_8, hcz18_9, hcz18_10, hcz18_11, hcz18_12, hcz18_13, hcz18_14, hcz18_15, hcz18_16, hcz18_17, hcz18_18, hcz18_19, hcz18_20, hcz18_21, hcz18_22, hcz18_23, hcz18_24⟩ := bk25 BK424.out; have hfz18 := blk_frozen BK424.out))
        go_ret
        exact ⟨by first | rfl | (simp [errW_none, errW_some] <;> rfl) | (simp [*, errW_none, errW_some] <;> rfl), by repeat (with_reducible first | exact HB.out | apply below_alloc | apply pw_below_drewN | apply below_drew1 | refine below_set ?_ GE424.out | refine below_set ?_ GE426.out)⟩
       ·rw [if_neg c13] at H
        have c13b0 : decide (a0_4 < (wrap64 (x6_1 + ((rd_T43 l0_23 x7_1).f3)))) = false := decide_eq_false c13
        clear c13
        have H' := Aside0.mk H
        clear H
        obtain ⟨hcz19_0, hcz19_1, hcz19_2, hcz19_3, hcz19_4, hcz19_5, hcz19_6, hcz19_7, hcz19_8, hcz19_9, hcz19_10, hcz19_11, hcz19_12, hcz19_13, hcz19_14, hcz19_15, hcz19_16, hcz19_17, hcz19_18, hcz19_19, hcz19_20, hcz19_21, hcz19_22, hcz19_23, hcz19_24⟩ := bk25 BK424.out
        have hfz19 := blk_frozen BK424.out
        have p425 : 0 ≤ (x7_1 : Int) := of_decide_eq_true (by assumption)
        have q425 : x7_1 < (l0_23.length : Int) := of_decide_eq_true (by assumption)
        obtain ⟨ad425, e425, hx425_0, hx425_1, hx425_2, hx425_3⟩ := at_T43 HR0_23.out x7_1 p425 q425
        cases e425
        replace hx425_0 := (HB.out.cell (World.block_lt_of_cell? w _ hx425_0)).trans hx425_0
        replace hx425_1 := (HB.out.cell (World.block_lt_of_cell? w _ hx425_1)).trans hx425_1
        replace hx425_2 := (HB.out.cell (World.block_lt_of_cell? w _ hx425_2)).trans hx425_2
        replace hx425_3 := (HB.out.cell (World.block_lt_of_cell? w _ hx425_3)).trans hx425_3
        replace p425 := eq_true p425
        replace q425 := eq_true q425
        go_wp2_with (first | ((with_reducible refine gate_ld (ty := 27) rfl ?_); apply ldB (qu := Tryd.underlying27); rfl; rfl; rfl; (first | with_reducible exact BK424 | with_reducible exact BK426 | (apply Aside0.mk; apply blk_seq; (focus ((repeat (with_reducible first | exact BK424.out | exact BK426.out | apply blk_drewN | apply blk_drew | apply blk_alloc | apply blk_set | apply blk_farp NB424_426.out | apply blk_farp NB426_424.out)); done)); (first | (simp only [zS, zC, zD]; with_reducible rfl) | with_reducible rfl))); rfl; exact siz27) | ((with_reducible refine gate_st (ty := 27) rfl ?_); apply stB25 (qi := siz27); rfl; rfl; rfl; rfl; (apply Exists.intro; apply Exists.intro; apply And.intro; (focus ((repeat (with_reducible first | exact BK424.out | exact BK426.out | apply blk_drewN | apply blk_drew | apply blk_alloc | apply blk_set | apply blk_farp NB424_426.out | apply blk_farp NB426_424.out)); done)); (first | (simp only [Array.size_setIfInBounds]; rfl) | rfl)); rfl) | ((with_reducible refine gate_dst (N := 8) rfl ?_); refine box_event ?hg (N := 8) ?hd (cs := #[.int .i64 0, .int .i64 0, .int .i64 0, .int .i64 0]) (t := 43) ?hr ?_; (case hd => rfl); (case hg => rfl); (case hr => first | (go_simp; done) | (go_simp; rfl)); intro gb426 hg w20 hbox hb; have n0_ := Aside0.mk (blk_below (g := gb424) (by (with_reducible repeat (first | refine blk_drewN ?_ _ | refine blk_drew ?_ | refine blk_alloc ?_ _)); exact BK424.out) hb); have n1_ := Aside0.mk (below_step (by repeat (with_reducible first | exact HB.out | apply below_alloc | apply pw_below_drewN | apply below_drew1 | refine below_set ?_ GE424.out)) hb); have n2_ := Aside0.mk (hbox); have n3_ := Aside0.mk ((by rw [hg]; exact (below_size (by repeat (with_reducible first | exact HB.out | apply below_alloc | apply pw_below_drewN | apply below_drew1 | refine below_set ?_ GE424.out))) : w.heap.size ≤ gb426)); have n4_ := n3_; have n5_ := Aside0.mk ((by rw [hg]; exact Nat.ne_of_lt (blk_lt (g := gb424) (by (with_reducible repeat (first | refine blk_drewN ?_ _ | refine blk_drew ?_ | refine blk_alloc ?_ _)); exact BK424.out)) : gb424 ≠ gb426)); have n6_ := Aside0.mk ((by rw [hg]; exact Nat.ne_of_gt (blk_lt (g := gb424) (by (with_reducible repeat (first | refine blk_drewN ?_ _ | refine blk_drew ?_ | refine blk_alloc ?_ _)); exact BK424.out)) : gb426 ≠ gb424)); clear BK424; clear HB; have BK424 := n0_; have HB := n1_; have BK426 := n2_; have GW426 := n3_; have GE426 := n4_; have NB424_426 := n5_; have NB426_424 := n6_; clear n0_ n1_ n2_ n3_ n4_ n5_ n6_; clear hb hbox hg; have hnb21 := NB426_424.out; have hnc21 := NB424_426.out; have hcz22 := blk_cell BK426.out; have hfz22 := blk_frozen BK426.out; obtain ⟨hcz23_0, hcz23_1, hcz23_2, hcz23_3, hcz23_4, hcz23_5, hcz23_6, hcz23_7, hcz23_8, hcz23_9, hcz23_10, hcz23_11, hcz23_12, hcz23_13, hcz23_14, hcz23_15, hcz23_16, hcz23_17, hcz23_18, hcz23_19, hcz23_20, hcz23_21, hcz23_22, hcz23_23, hcz23_24⟩ := bk25 BK424.out; have hfz23 := blk_frozen BK424.out))
        go_roundg k1
        case measure => have := HK1.out; omega
        case rel => exact ⟨(wrap64 (x5_1 + ((rd_T43 l0_23 x7_1).f2))), (wrap64 (x6_1 + ((rd_T43 l0_23 x7_1).f3))), (wrap64 (x7_1 + 1)), (by first | rfl | (simp [*]; done)), (by first | rfl | (simp [*]; done)), (by first | rfl | (simp [*]; done)), H', ⟨by have := HK1.out; omega⟩, ⟨by (iterate 4 ((with_reducible repeat (first | refine blk_drewN ?_ _ | refine blk_drew ?_ | refine blk_alloc ?_ _)); refine blk_far ?_ NB424_426.out _)); (with_reducible repeat (first | refine blk_drewN ?_ _ | refine blk_drew ?_ | refine blk_alloc ?_ _)); exact BK424.out⟩, ⟨by repeat (with_reducible first | exact HB.out | apply below_alloc | apply pw_below_drewN | apply below_drew1 | refine below_set ?_ GE424.out | refine below_set ?_ GE426.out)⟩⟩
     ·rw [if_neg c6] at H
      have c6b0 : decide (((rd_T43 l0_23 x7_1).f1) ≤ a1) = false := decide_eq_false c6
      clear c6
      have H' := Aside0.mk H
      clear H
      obtain ⟨hcz24_0, hcz24_1, hcz24_2, hcz24_3, hcz24_4, hcz24_5, hcz24_6, hcz24_7, hcz24_8, hcz24_9, hcz24_10, hcz24_11, hcz24_12, hcz24_13, hcz24_14, hcz24_15, hcz24_16, hcz24_17, hcz24_18, hcz24_19, hcz24_20, hcz24_21, hcz24_22, hcz24_23, hcz24_24⟩ := bk25 BK424.out
      have hfz24 := blk_frozen BK424.out
      have p425 : 0 ≤ (x7_1 : Int) := of_decide_eq_true (by assumption)
      have q425 : x7_1 < (l0_23.length : Int) := of_decide_eq_true (by assumption)
      obtain ⟨ad425, e425, hx425_0, hx425_1, hx425_2, hx425_3⟩ := at_T43 HR0_23.out x7_1 p425 q425
      cases e425
      replace hx425_0 := (HB.out.cell (World.block_lt_of_cell? w _ hx425_0)).trans hx425_0
      replace hx425_1 := (HB.out.cell (World.block_lt_of_cell? w _ hx425_1)).trans hx425_1
      replace hx425_2 := (HB.out.cell (World.block_lt_of_cell? w _ hx425_2)).trans hx425_2
      replace hx425_3 := (HB.out.cell (World.block_lt_of_cell? w _ hx425_3)).trans hx425_3
      replace p425 := eq_true p425
      replace q425 := eq_true q425
      go_wp2_with (first | ((with_reducible refine gate_ld (ty := 27) rfl ?_); apply ldB (qu := Tryd.underlying27); rfl; rfl; rfl; (first | with_reducible exact BK424 | with_reducible exact BK426 | (apply Aside0.mk; apply blk_seq; (focus ((repeat (with_reducible first | exact BK424.out | exact BK426.out | apply blk_drewN | apply blk_drew | apply blk_alloc | apply blk_set | apply blk_farp NB424_426.out | apply blk_farp NB426_424.out)); done)); (first | (simp only [zS, zC, zD]; with_reducible rfl) | with_reducible rfl))); rfl; exact siz27) | ((with_reducible refine gate_st (ty := 27) rfl ?_); apply stB25 (qi := siz27); rfl; rfl; rfl; rfl; (apply Exists.intro; apply Exists.intro; apply And.intro; (focus ((repeat (with_reducible first | exact BK424.out | exact BK426.out | apply blk_drewN | apply blk_drew | apply blk_alloc | apply blk_set | apply blk_farp NB424_426.out | apply blk_farp NB426_424.out)); done)); (first | (simp only [Array.size_setIfInBounds]; rfl) | rfl)); rfl) | ((with_reducible refine gate_dst (N := 8) rfl ?_); refine box_event ?hg (N := 8) ?hd (cs := #[.int .i64 0, .int .i64 0, .int .i64 0, .int .i64 0]) (t := 43) ?hr ?_; (case hd => rfl); (case hg => rfl); (case hr => first | (go_simp; done) | (go_simp; rfl)); intro gb426 hg w25 hbox hb; have n0_ := Aside0.mk (blk_below (g := gb424) (by (with_reducible repeat (first | refine blk_drewN ?_ _ | refine blk_drew ?_ | refine blk_alloc ?_ _)); exact BK424.out) hb); have n1_ := Aside0.mk (below_step (by repeat (with_reducible first | exact HB.out | apply below_alloc | apply pw_below_drewN | apply below_drew1 | refine below_set ?_ GE424.out)) hb); have n2_ := Aside0.mk (hbox); have n3_ := Aside0.mk ((by rw [hg]; exact (below_size (by repeat (with_reducible first | exact HB.out | apply below_alloc | apply pw_below_drewN | apply below_drew1 | refine below_set ?_ GE424.out))) : w.heap.size ≤ gb426)); have n4_ := n3_; have n5_ := Aside0.mk ((by rw [hg]; exact Nat.ne_of_lt (blk_lt (g := gb424) (by (with_reducible repeat (first | refine blk_drewN ?_ _ | refine blk_drew ?_ | refine blk_alloc ?_ _)); exact BK424.out)) : gb424 ≠ gb426)); have n6_ := Aside0.mk ((by rw [hg]; exact Nat.ne_of_gt (blk_lt (g := gb424) (by (with_reducible repeat (first | refine blk_drewN ?_ _ | refine blk_drew ?_ | refine blk_alloc ?_ _)); exact BK424.out)) : gb426 ≠ gb424)); clear BK424; clear HB; have BK424 := n0_; have HB := n1_; have BK426 := n2_; have GW426 := n3_; have GE426 := n4_; have NB424_426 := n5_; have NB426_424 := n6_; clear n0_ n1_ n2_ n3_ n4_ n5_ n6_; clear hb hbox hg; have hnb26 := NB426_424.out; have hnc26 := NB424_426.out; have hcz27 := blk_cell BK426.out; have hfz27 := blk_frozen BK426.out))
      go_roundg k1
      case measure => have := HK1.out; omega
      case rel => exact ⟨(wrap64 (x5_1 + ((rd_T43 l0_23 x7_1).f2))), (wrap64 (x6_1 + ((rd_T43 l0_23 x7_1).f3))), (wrap64 (x7_1 + 1)), (by first | rfl | (simp [*]; done)), (by first | rfl | (simp [*]; done)), (by first | rfl | (simp [*]; done)), H', ⟨by have := HK1.out; omega⟩, ⟨by (iterate 4 ((with_reducible repeat (first | refine blk_drewN ?_ _ | refine blk_drew ?_ | refine blk_alloc ?_ _)); refine blk_far ?_ NB424_426.out _)); (with_reducible repeat (first | refine blk_drewN ?_ _ | refine blk_drew ?_ | refine blk_alloc ?_ _)); exact BK424.out⟩, ⟨by repeat (with_reducible first | exact HB.out | apply below_alloc | apply pw_below_drewN | apply below_drew1 | refine below_set ?_ GE424.out | refine below_set ?_ GE426.out)⟩⟩
    ·rw [if_neg c5] at H
     exact absurd H (by simp)
   ·rw [if_neg c4] at H
    have c4b0 : decide (x7_1 < (l0_23.length : Int)) = false := decide_eq_false c4
    clear c4
    obtain rfl := Option.some.inj H
    obtain ⟨hcz28_0, hcz28_1, hcz28_2, hcz28_3, hcz28_4, hcz28_5, hcz28_6, hcz28_7, hcz28_8, hcz28_9, hcz28_10, hcz28_11, hcz28_12, hcz28_13, hcz28_14, hcz28_15, hcz28_16, hcz28_17, hcz28_18, hcz28_19, hcz28_20, hcz28_21, hcz28_22, hcz28_23, hcz28_24⟩ := bk25 BK424.out
    have hfz28 := blk_frozen BK424.out
    go_wp2_with (first | ((with_reducible refine gate_ld (ty := 27) rfl ?_); apply ldB (qu := Tryd.underlying27); rfl; rfl; rfl; (first | with_reducible exact BK424 | with_reducible exact BK426 | (apply Aside0.mk; apply blk_seq; (focus ((repeat (with_reducible first | exact BK424.out | exact BK426.out | apply blk_drewN | apply blk_drew | apply blk_alloc | apply blk_set | apply blk_farp NB424_426.out | apply blk_farp NB426_424.out)); done)); (first | (simp only [zS, zC, zD]; with_reducible rfl) | with_reducible rfl))); rfl; exact siz27) | ((with_reducible refine gate_st (ty := 27) rfl ?_); apply stB25 (qi := siz27); rfl; rfl; rfl; rfl; (apply Exists.intro; apply Exists.intro; apply And.intro; (focus ((repeat (with_reducible first | exact BK424.out | exact BK426.out | apply blk_drewN | apply blk_drew | apply blk_alloc | apply blk_set | apply blk_farp NB424_426.out | apply blk_farp NB426_424.out)); done)); (first | (simp only [Array.size_setIfInBounds]; rfl) | rfl)); rfl))
    go_ret
    exact ⟨by first | rfl | (simp [errW_none, errW_some] <;> rfl) | (simp [*, errW_none, errW_some] <;> rfl), by repeat (with_reducible first | exact HB.out | apply below_alloc | apply pw_below_drewN | apply below_drew1 | refine below_set ?_ GE424.out)⟩

end Go.Proofs.YtbapjcafcmnhoaaDoor.X
