-- Written by program (wip/tools/xprint.sh) for this seat; not trusted: Lean checks it.
import Derived.Test.YtfgcachcbhkkoaaX0
import Derived.Test.YtfgcachcbhkkoaaX2
import Derived.Test.YtfgcachcbhkkoaaX8
import Derived.Test.YtfgcachcbhkkoaaX14
import Derived.Test.YtfgcachcbhkkoaaX15
namespace Go.Proofs.Ytfgcachcbhkkoaa.X
open Go.RowKit Go.Proofs.YtfgcachcbhkkoaaW.PrintWords Go.Proofs.YtfgcachcbhkkoaaW.PrintLast Go.Proofs.YtfgcachcbhkkoaaW.PrintMore
attribute [local go_sem] max2_int min2_int max_two min_two max_three min_three max_four min_four   -- for this text's walks alone
set_option linter.unusedVariables false
set_option linter.unusedSimpArgs false

/-! ### LG: function 7 -/
mutual
def LG.j0 : Nat → List (S28) → Bool → Int → Int → Int → Option (Bool)
  | 0, _, _, _, _, _ => none
  | k + 1, x0, x26, x287000, x287001, x287002 => if x26 = true then ((corebanklaw41_live.f k).bind fun t289 => (some t289)) else (LG.l0 k x0 false 0 x287000 x287001 x287002)
def LG.l0 : Nat → List (S28) → Bool → Int → Int → Int → Int → Option (Bool)
  | 0, _, _, _, _, _, _ => none
  | k + 1, x0, x5, x6, x287000, x287001, x287002 => if x6 < (x0.length : Int) then (if 0 ≤ x6 then (if x287002 ≤ (wrap64 (((rd_T28 x0 x6).f3) + 1096)) then (if ((rd_T28 x0 x6).f4) = 0 then (LG.j2 k x0 x5 x6 true x287000 x287001 x287002 ((rd_T28 x0 x6).f0) ((rd_T28 x0 x6).f1) ((rd_T28 x0 x6).f2) ((rd_T28 x0 x6).f3) ((rd_T28 x0 x6).f4) ((rd_T28 x0 x6).f5) ((rd_T28 x0 x6).f6)) else (if ((rd_T28 x0 x6).f4) > 0 then (LG.j2 k x0 x5 x6 (decide (x287002 ≤ (wrap64 (((rd_T28 x0 x6).f4) + 1096)))) x287000 x287001 x287002 ((rd_T28 x0 x6).f0) ((rd_T28 x0 x6).f1) ((rd_T28 x0 x6).f2) ((rd_T28 x0 x6).f3) ((rd_T28 x0 x6).f4) ((rd_T28 x0 x6).f5) ((rd_T28 x0 x6).f6)) else (LG.j2 k x0 x5 x6 false x287000 x287001 x287002 ((rd_T28 x0 x6).f0) ((rd_T28 x0 x6).f1) ((rd_T28 x0 x6).f2) ((rd_T28 x0 x6).f3) ((rd_T28 x0 x6).f4) ((rd_T28 x0 x6).f5) ((rd_T28 x0 x6).f6)))) else (if ((rd_T28 x0 x6).f4) > 0 then (LG.j2 k x0 x5 x6 (decide (x287002 ≤ (wrap64 (((rd_T28 x0 x6).f4) + 1096)))) x287000 x287001 x287002 ((rd_T28 x0 x6).f0) ((rd_T28 x0 x6).f1) ((rd_T28 x0 x6).f2) ((rd_T28 x0 x6).f3) ((rd_T28 x0 x6).f4) ((rd_T28 x0 x6).f5) ((rd_T28 x0 x6).f6)) else (LG.j2 k x0 x5 x6 false x287000 x287001 x287002 ((rd_T28 x0 x6).f0) ((rd_T28 x0 x6).f1) ((rd_T28 x0 x6).f2) ((rd_T28 x0 x6).f3) ((rd_T28 x0 x6).f4) ((rd_T28 x0 x6).f5) ((rd_T28 x0 x6).f6)))) else (none)) else ((mandate_Allows.f k x0 x287000 x287001 x287002).bind fun t292 => (if ((t292 == 0) == x5) = true then ((corebanklaw41_live.f k).bind fun t293 => (LG.j4 k t293)) else (LG.j4 k false)))
def LG.j3 : Nat → List (S28) → Bool → Int → Int → Int → Int → Option (Bool)
  | 0, _, _, _, _, _, _ => none
  | k + 1, x0, x5, x6, x287000, x287001, x287002 => LG.l0 k x0 x5 (wrap64 (x6 + 1)) x287000 x287001 x287002
def LG.j2 : Nat → List (S28) → Bool → Int → Bool → Int → Int → Int → Int → Int → Int → Int → Int → Int → ByteArray → Option (Bool)
  | 0, _, _, _, _, _, _, _, _, _, _, _, _, _, _ => none
  | k + 1, x0, x5, x6, x8, x287000, x287001, x287002, x292000, x292001, x292002, x292003, x292004, x292005, x292006 => if x5 = true then (LG.j3 k x0 true x6 x287000 x287001 x287002) else (if x292000 = x287000 then (if x292003 ≤ x287002 then (if x292005 = 0 then (if x8 = true then (if x292002 = 0 then (LG.j3 k x0 true x6 x287000 x287001 x287002) else (LG.j3 k x0 (decide (x287001 ≤ x292002)) x6 x287000 x287001 x287002)) else (LG.j3 k x0 false x6 x287000 x287001 x287002)) else (if x287002 < x292005 then (if x8 = true then (if x292002 = 0 then (LG.j3 k x0 true x6 x287000 x287001 x287002) else (LG.j3 k x0 (decide (x287001 ≤ x292002)) x6 x287000 x287001 x287002)) else (LG.j3 k x0 false x6 x287000 x287001 x287002)) else (LG.j3 k x0 false x6 x287000 x287001 x287002))) else (LG.j3 k x0 false x6 x287000 x287001 x287002)) else (LG.j3 k x0 false x6 x287000 x287001 x287002))
def LG.j4 : Nat → Bool → Option (Bool)
  | 0, _ => none
  | k + 1, x4 => some x4
end
def LG.f (k : Nat) (l0 : List (S28)) (a1_0 : Int) (a1_1 : Int) (a1_2 : Int) : Option (Bool) := (corebanklaw41_short.f k l0).bind fun t287 => (if t287 = true then ((corebankref41_Check.f k l0).bind fun t288 => (if t288 = 0 then (if a1_2 < 0 then (LG.j0 k l0 true a1_0 a1_1 a1_2) else (LG.j0 k l0 (decide (a1_2 > 73048)) a1_0 a1_1 a1_2)) else (LG.j0 k l0 true a1_0 a1_1 a1_2))) else (LG.j0 k l0 true a1_0 a1_1 a1_2))
theorem LG.mono_l : ∀ k, (∀ y0 y1 y2 y3 y4, LeO (LG.j0 k y0 y1 y2 y3 y4) (LG.j0 (k + 1) y0 y1 y2 y3 y4)) ∧ (∀ y0 y1 y2 y3 y4 y5, LeO (LG.l0 k y0 y1 y2 y3 y4 y5) (LG.l0 (k + 1) y0 y1 y2 y3 y4 y5)) ∧ (∀ y0 y1 y2 y3 y4 y5, LeO (LG.j3 k y0 y1 y2 y3 y4 y5) (LG.j3 (k + 1) y0 y1 y2 y3 y4 y5)) ∧ (∀ y0 y1 y2 y3 y4 y5 y6 y7 y8 y9 y10 y11 y12 y13, LeO (LG.j2 k y0 y1 y2 y3 y4 y5 y6 y7 y8 y9 y10 y11 y12 y13) (LG.j2 (k + 1) y0 y1 y2 y3 y4 y5 y6 y7 y8 y9 y10 y11 y12 y13)) ∧ (∀ y0, LeO (LG.j4 k y0) (LG.j4 (k + 1) y0))
  | 0 => ⟨fun _ _ _ _ _ r h => by simp [LG.j0] at h, fun _ _ _ _ _ _ r h => by simp [LG.l0] at h, fun _ _ _ _ _ _ r h => by simp [LG.j3] at h, fun _ _ _ _ _ _ _ _ _ _ _ _ _ _ r h => by simp [LG.j2] at h, fun _ r h => by simp [LG.j4] at h⟩
  | k + 1 => by
    obtain ⟨ih0, ih1, ih2, ih3, ih4⟩ := LG.mono_l k
    refine ⟨?_, ?_, ?_, ?_, ?_⟩
    · intro y0 y1 y2 y3 y4
      unfold LG.j0
      repeat' first
      | (with_reducible exact ih0 _ _ _ _ _)
      | (with_reducible exact ih1 _ _ _ _ _ _)
      | (with_reducible exact ih2 _ _ _ _ _ _)
      | (with_reducible exact ih3 _ _ _ _ _ _ _ _ _ _ _ _ _ _)
      | (with_reducible exact ih4 _)
      | (with_reducible exact corebanklaw41_live.mono _)
      | (with_reducible exact corebanklaw41_short.mono _ _)
      | (with_reducible exact corebankref41_Check.mono _ _)
      | (with_reducible exact mandate_Allows.mono _ _ _ _ _)
      | (with_reducible exact LeO.refl _)
      | (with_reducible exact LeO.none _)
      | (with_reducible refine LeO.ite ?_ ?_)
      | (with_reducible refine LeO.bind ?_ (fun _ => ?_))
      | exact ih0 _ _ _ _ _
      | exact ih1 _ _ _ _ _ _
      | exact ih2 _ _ _ _ _ _
      | exact ih3 _ _ _ _ _ _ _ _ _ _ _ _ _ _
      | exact ih4 _
      | exact corebanklaw41_live.mono _
      | exact corebanklaw41_short.mono _ _
      | exact corebankref41_Check.mono _ _
      | exact mandate_Allows.mono _ _ _ _ _
      | exact LeO.none _
      | refine LeO.ite ?_ ?_
      | refine LeO.bind ?_ (fun _ => ?_)
    · intro y0 y1 y2 y3 y4 y5
      unfold LG.l0
      repeat' first
      | (with_reducible exact ih0 _ _ _ _ _)
      | (with_reducible exact ih1 _ _ _ _ _ _)
      | (with_reducible exact ih2 _ _ _ _ _ _)
      | (with_reducible exact ih3 _ _ _ _ _ _ _ _ _ _ _ _ _ _)
      | (with_reducible exact ih4 _)
      | (with_reducible exact corebanklaw41_live.mono _)
      | (with_reducible exact corebanklaw41_short.mono _ _)
      | (with_reducible exact corebankref41_Check.mono _ _)
      | (with_reducible exact mandate_Allows.mono _ _ _ _ _)
      | (with_reducible exact LeO.refl _)
      | (with_reducible exact LeO.none _)
      | (with_reducible refine LeO.ite ?_ ?_)
      | (with_reducible refine LeO.bind ?_ (fun _ => ?_))
      | exact ih0 _ _ _ _ _
      | exact ih1 _ _ _ _ _ _
      | exact ih2 _ _ _ _ _ _
      | exact ih3 _ _ _ _ _ _ _ _ _ _ _ _ _ _
      | exact ih4 _
      | exact corebanklaw41_live.mono _
      | exact corebanklaw41_short.mono _ _
      | exact corebankref41_Check.mono _ _
      | exact mandate_Allows.mono _ _ _ _ _
      | exact LeO.none _
      | refine LeO.ite ?_ ?_
      | refine LeO.bind ?_ (fun _ => ?_)
    · intro y0 y1 y2 y3 y4 y5
      unfold LG.j3
      repeat' first
      | (with_reducible exact ih0 _ _ _ _ _)
      | (with_reducible exact ih1 _ _ _ _ _ _)
      | (with_reducible exact ih2 _ _ _ _ _ _)
      | (with_reducible exact ih3 _ _ _ _ _ _ _ _ _ _ _ _ _ _)
      | (with_reducible exact ih4 _)
      | (with_reducible exact corebanklaw41_live.mono _)
      | (with_reducible exact corebanklaw41_short.mono _ _)
      | (with_reducible exact corebankref41_Check.mono _ _)
      | (with_reducible exact mandate_Allows.mono _ _ _ _ _)
      | (with_reducible exact LeO.refl _)
      | (with_reducible exact LeO.none _)
      | (with_reducible refine LeO.ite ?_ ?_)
      | (with_reducible refine LeO.bind ?_ (fun _ => ?_))
      | exact ih0 _ _ _ _ _
      | exact ih1 _ _ _ _ _ _
      | exact ih2 _ _ _ _ _ _
      | exact ih3 _ _ _ _ _ _ _ _ _ _ _ _ _ _
      | exact ih4 _
      | exact corebanklaw41_live.mono _
      | exact corebanklaw41_short.mono _ _
      | exact corebankref41_Check.mono _ _
      | exact mandate_Allows.mono _ _ _ _ _
      | exact LeO.none _
      | refine LeO.ite ?_ ?_
      | refine LeO.bind ?_ (fun _ => ?_)
    · intro y0 y1 y2 y3 y4 y5 y6 y7 y8 y9 y10 y11 y12 y13
      unfold LG.j2
      repeat' first
      | (with_reducible exact ih0 _ _ _ _ _)
      | (with_reducible exact ih1 _ _ _ _ _ _)
      | (with_reducible exact ih2 _ _ _ _ _ _)
      | (with_reducible exact ih3 _ _ _ _ _ _ _ _ _ _ _ _ _ _)
      | (with_reducible exact ih4 _)
      | (with_reducible exact corebanklaw41_live.mono _)
      | (with_reducible exact corebanklaw41_short.mono _ _)
      | (with_reducible exact corebankref41_Check.mono _ _)
      | (with_reducible exact mandate_Allows.mono _ _ _ _ _)
      | (with_reducible exact LeO.refl _)
      | (with_reducible exact LeO.none _)
      | (with_reducible refine LeO.ite ?_ ?_)
      | (with_reducible refine LeO.bind ?_ (fun _ => ?_))
      | exact ih0 _ _ _ _ _
      | exact ih1 _ _ _ _ _ _
      | exact ih2 _ _ _ _ _ _
      | exact ih3 _ _ _ _ _ _ _ _ _ _ _ _ _ _
      | exact ih4 _
      | exact corebanklaw41_live.mono _
      | exact corebanklaw41_short.mono _ _
      | exact corebankref41_Check.mono _ _
      | exact mandate_Allows.mono _ _ _ _ _
      | exact LeO.none _
      | refine LeO.ite ?_ ?_
      | refine LeO.bind ?_ (fun _ => ?_)
    · intro y0
      unfold LG.j4
      repeat' first
      | (with_reducible exact ih0 _ _ _ _ _)
      | (with_reducible exact ih1 _ _ _ _ _ _)
      | (with_reducible exact ih2 _ _ _ _ _ _)
      | (with_reducible exact ih3 _ _ _ _ _ _ _ _ _ _ _ _ _ _)
      | (with_reducible exact ih4 _)
      | (with_reducible exact corebanklaw41_live.mono _)
      | (with_reducible exact corebanklaw41_short.mono _ _)
      | (with_reducible exact corebankref41_Check.mono _ _)
      | (with_reducible exact mandate_Allows.mono _ _ _ _ _)
      | (with_reducible exact LeO.refl _)
      | (with_reducible exact LeO.none _)
      | (with_reducible refine LeO.ite ?_ ?_)
      | (with_reducible refine LeO.bind ?_ (fun _ => ?_))
      | exact ih0 _ _ _ _ _
      | exact ih1 _ _ _ _ _ _
      | exact ih2 _ _ _ _ _ _
      | exact ih3 _ _ _ _ _ _ _ _ _ _ _ _ _ _
      | exact ih4 _
      | exact corebanklaw41_live.mono _
      | exact corebanklaw41_short.mono _ _
      | exact corebankref41_Check.mono _ _
      | exact mandate_Allows.mono _ _ _ _ _
      | exact LeO.none _
      | refine LeO.ite ?_ ?_
      | refine LeO.bind ?_ (fun _ => ?_)
theorem LG.mono : ∀ a0 a1 a2 a3 k, LeO (LG.f k a0 a1 a2 a3) (LG.f (k + 1) a0 a1 a2 a3) := by
  intro a0 a1 a2 a3 k
  obtain ⟨ih0, ih1, ih2, ih3, ih4⟩ := LG.mono_l k
  unfold LG.f
  repeat' first
      | (with_reducible exact ih0 _ _ _ _ _)
      | (with_reducible exact ih1 _ _ _ _ _ _)
      | (with_reducible exact ih2 _ _ _ _ _ _)
      | (with_reducible exact ih3 _ _ _ _ _ _ _ _ _ _ _ _ _ _)
      | (with_reducible exact ih4 _)
      | (with_reducible exact corebanklaw41_live.mono _)
      | (with_reducible exact corebanklaw41_short.mono _ _)
      | (with_reducible exact corebankref41_Check.mono _ _)
      | (with_reducible exact mandate_Allows.mono _ _ _ _ _)
      | (with_reducible exact LeO.refl _)
      | (with_reducible exact LeO.none _)
      | (with_reducible refine LeO.ite ?_ ?_)
      | (with_reducible refine LeO.bind ?_ (fun _ => ?_))
      | exact ih0 _ _ _ _ _
      | exact ih1 _ _ _ _ _ _
      | exact ih2 _ _ _ _ _ _
      | exact ih3 _ _ _ _ _ _ _ _ _ _ _ _ _ _
      | exact ih4 _
      | exact corebanklaw41_live.mono _
      | exact corebanklaw41_short.mono _ _
      | exact corebankref41_Check.mono _ _
      | exact mandate_Allows.mono _ _ _ _ _
      | exact LeO.none _
      | refine LeO.ite ?_ ?_
      | refine LeO.bind ?_ (fun _ => ?_)
set_option maxHeartbeats 8000000 in
set_option maxRecDepth 100000 in
theorem LG.calls (k : Nat) (A0 : Option Addr) (c0 : Nat) (l0 : List (S28)) (a1_0 : Int) (a1_1 : Int) (a1_2 : Int) (r : Bool) (w : World) (hr0 : Kd.C k28 w A0 l0.length l0) (hc0 : l0.length ≤ c0) (h : LG.f k l0 a1_0 a1_1 a1_2 = some r) :
  Calls Try.prog 7 #[.slice A0 l0.length c0, .agg #[.int .i64 a1_0, .int .i64 a1_1, .int .i64 a1_2]] w fun e w' => e = .returned (.bool r) ∧ Below w.heap.size w w' := by
 have hu36 := Try.underlying36
 have hu28 := Try.underlying28
 have HR0 := Aside0.mk hr0
 have HC0 := Aside0.mk hc0
 clear hr0 hc0
 have HB := Aside0.mk (Below.refl w.heap.size w)
 have H : ((corebanklaw41_short.f k l0).bind fun t287 => (if t287 = true then ((corebankref41_Check.f k l0).bind fun t288 => (if t288 = 0 then (if a1_2 < 0 then (LG.j0 k l0 true a1_0 a1_1 a1_2) else (LG.j0 k l0 (decide (a1_2 > 73048)) a1_0 a1_1 a1_2)) else (LG.j0 k l0 true a1_0 a1_1 a1_2))) else (LG.j0 k l0 true a1_0 a1_1 a1_2))) = some r := h
 clear h
 have HC3 := Aside0.mk H
 clear H
 go_enter Try.func7, Try.ntmps7
 go_upto_region 1 with (first | ((with_reducible refine gate_dst (N := 3) rfl ?_); refine box_event ?hg (N := 3) ?hd (cs := #[.int .i64 a1_0, .int .i64 a1_1, .int .i64 a1_2]) (t := 36) ?hr ?_; (case hd => rfl); (case hg => rfl); (case hr => first | (go_simp; done) | (go_simp; rfl)); intro gb286 hg w4 hbox hb; have n0_ := Aside0.mk (below_step (by repeat (with_reducible first | exact HB.out | apply below_alloc | apply pw_below_drewN | apply below_drew1)) hb); have n1_ := Aside0.mk (hbox); have n2_ := Aside0.mk ((by rw [hg]; exact (below_size (by repeat (with_reducible first | exact HB.out | apply below_alloc | apply pw_below_drewN | apply below_drew1))) : w.heap.size ≤ gb286)); have n3_ := n2_; clear HB; have HB := n0_; have BK286 := n1_; have GW286 := n2_; have GE286 := n3_; clear n0_ n1_ n2_ n3_; clear hb hbox hg))
 (try simp only [Act.put, List.setIfInBounds_toArray, List.set_cons_zero, List.set_cons_succ])
 go_cut [26] (fun v26 wc => ∃ (kq : Nat) (x26_2 : Bool), v26 = .bool x26_2 ∧ Aside0 (LG.j0 kq l0 x26_2 a1_0 a1_1 a1_2 = some r) ∧ Aside0 (kq ≤ k) ∧ Aside0 (wc.heap[gb286]? = some (.cells #[.int .i64 a1_0, .int .i64 a1_1, .int .i64 a1_2] 36 (0, 0))) ∧ Aside0 (Below w.heap.size w wc))
 case first =>
  have H := HC3.out
  clear HC3
  replace H := Option.bind_eq_some_iff.mp H
  obtain ⟨t287, A50, H⟩ := H
  replace H : (if t287 = true then ((corebankref41_Check.f k l0).bind fun t288 => (if t288 = 0 then (if a1_2 < 0 then (LG.j0 k l0 true a1_0 a1_1 a1_2) else (LG.j0 k l0 (decide (a1_2 > 73048)) a1_0 a1_1 a1_2)) else (LG.j0 k l0 true a1_0 a1_1 a1_2))) else (LG.j0 k l0 true a1_0 a1_1 a1_2)) = some r := H
  have A5 := Aside0.mk A50
  clear A50
  by_cases c6 : t287 = true
  ·subst c6
   have H1 : ((corebankref41_Check.f k l0).bind fun t288 => (if t288 = 0 then (if a1_2 < 0 then (LG.j0 k l0 true a1_0 a1_1 a1_2) else (LG.j0 k l0 (decide (a1_2 > 73048)) a1_0 a1_1 a1_2)) else (LG.j0 k l0 true a1_0 a1_1 a1_2))) = some r := by rw [if_pos rfl] at H; exact H
   clear H
   have H := H1
   clear H1
   replace H := Option.bind_eq_some_iff.mp H
   obtain ⟨t288, A70, H⟩ := H
   replace H : (if t288 = 0 then (if a1_2 < 0 then (LG.j0 k l0 true a1_0 a1_1 a1_2) else (LG.j0 k l0 (decide (a1_2 > 73048)) a1_0 a1_1 a1_2)) else (LG.j0 k l0 true a1_0 a1_1 a1_2)) = some r := H
   have A7 := Aside0.mk A70
   clear A70
   by_cases c8 : t288 = 0
   ·rw [if_pos c8] at H
    have c8b0 : (t288 == 0) = true := beq_iff_eq.mpr c8
    have c8b1 : (t288 != 0) = false := bne_eq_false_iff_eq.mpr c8
    clear c8
    (first | rw [c8b0] | (simp only [i64_w, i32_w]; rw [c8b0]) | skip)
    by_cases c9 : a1_2 < 0
    ·rw [if_pos c9] at H
     have c9b0 : decide (a1_2 < 0) = true := decide_eq_true c9
     clear c9
     have H' := Aside0.mk H
     clear H
     go_wp2_with (first | ((with_reducible refine gate_callee (f := 9) rfl ?_); refine goesL_ (some 10) rfl rfl Try.func9 (by kernel_rfl) rfl #[.slice A0 l0.length c0] rfl (by (try simp only [List.map_toArray, List.map_cons, List.map_nil]); first | done | rfl | (simp only [List.length_drop, List.length_take]; rfl)) ?_; (with_reducible refine (corebanklaw41_short.calls k _ _ l0 true _ ?side1 ?side2 A5.out).mono ?_); (case side1 => repeat (first | exact (Kd.C_below HR0.out HB.out) | (with_reducible refine Kd.C_alloc ?_ _) | (with_reducible refine Kd.C_drewN ?_ _) | (with_reducible refine Kd.C_drew ?_))); (case side2 => exact HC0.out); rintro e w' ⟨rfl, ⟨nd, rfl⟩⟩; refine ⟨_, rfl, ?_⟩) | (go_at_call 11; (with_reducible refine (corebankref41_Check.calls k _ _ l0 t288 _ ?side1 ?side2 A7.out).mono ?_); (case side1 => repeat (first | exact (Kd.C_below HR0.out (by repeat (with_reducible first | exact HB.out | apply below_alloc | apply pw_below_drewN | apply below_drew1 | refine below_set ?_ GE286.out))) | (with_reducible refine Kd.C_alloc ?_ _) | (with_reducible refine Kd.C_drewN ?_ _) | (with_reducible refine Kd.C_drew ?_))); (case side2 => exact HC0.out); rintro e w10 ⟨rfl, hb⟩; have n0_ := Aside0.mk (blk_below (g := gb286) (by (with_reducible repeat (first | refine blk_drewN ?_ _ | refine blk_drew ?_ | refine blk_alloc ?_ _)); exact BK286.out) hb); have n1_ := Aside0.mk (below_step (by repeat (with_reducible first | exact HB.out | apply below_alloc | apply pw_below_drewN | apply below_drew1 | refine below_set ?_ GE286.out)) hb); clear BK286; clear HB; have BK286 := n0_; have HB := n1_; clear n0_ n1_; (try clear hb); (try clear hb2); (try clear hk); (try clear hi); have hcz11 := blk_cell BK286.out))
     go_meet
     case rel => exact ⟨_, (true), (by first | rfl | (simp [*]; done)), H', ⟨by first | omega | exact Nat.le_refl _⟩, ⟨by (with_reducible repeat (first | refine blk_drewN ?_ _ | refine blk_drew ?_ | refine blk_alloc ?_ _)); exact BK286.out⟩, ⟨by repeat (with_reducible first | exact HB.out | apply below_alloc | apply pw_below_drewN | apply below_drew1 | refine below_set ?_ GE286.out)⟩⟩
    ·rw [if_neg c9] at H
     have c9b0 : decide (a1_2 < 0) = false := decide_eq_false c9
     clear c9
     have H' := Aside0.mk H
     clear H
     go_wp2_with (first | ((with_reducible refine gate_callee (f := 9) rfl ?_); refine goesL_ (some 10) rfl rfl Try.func9 (by kernel_rfl) rfl #[.slice A0 l0.length c0] rfl (by (try simp only [List.map_toArray, List.map_cons, List.map_nil]); first | done | rfl | (simp only [List.length_drop, List.length_take]; rfl)) ?_; (with_reducible refine (corebanklaw41_short.calls k _ _ l0 true _ ?side1 ?side2 A5.out).mono ?_); (case side1 => repeat (first | exact (Kd.C_below HR0.out HB.out) | (with_reducible refine Kd.C_alloc ?_ _) | (with_reducible refine Kd.C_drewN ?_ _) | (with_reducible refine Kd.C_drew ?_))); (case side2 => exact HC0.out); rintro e w' ⟨rfl, ⟨nd, rfl⟩⟩; refine ⟨_, rfl, ?_⟩) | (go_at_call 11; (with_reducible refine (corebankref41_Check.calls k _ _ l0 t288 _ ?side1 ?side2 A7.out).mono ?_); (case side1 => repeat (first | exact (Kd.C_below HR0.out (by repeat (with_reducible first | exact HB.out | apply below_alloc | apply pw_below_drewN | apply below_drew1 | refine below_set ?_ GE286.out))) | (with_reducible refine Kd.C_alloc ?_ _) | (with_reducible refine Kd.C_drewN ?_ _) | (with_reducible refine Kd.C_drew ?_))); (case side2 => exact HC0.out); rintro e w12 ⟨rfl, hb⟩; have n0_ := Aside0.mk (blk_below (g := gb286) (by (with_reducible repeat (first | refine blk_drewN ?_ _ | refine blk_drew ?_ | refine blk_alloc ?_ _)); exact BK286.out) hb); have n1_ := Aside0.mk (below_step (by repeat (with_reducible first | exact HB.out | apply below_alloc | apply pw_below_drewN | apply below_drew1 | refine below_set ?_ GE286.out)) hb); clear BK286; clear HB; have BK286 := n0_; have HB := n1_; clear n0_ n1_; (try clear hb); (try clear hb2); (try clear hk); (try clear hi); have hcz13 := blk_cell BK286.out))
     go_meet
     case rel => exact ⟨_, (decide (a1_2 > 73048)), (by first | rfl | (simp [*]; done)), H', ⟨by first | omega | exact Nat.le_refl _⟩, ⟨by (with_reducible repeat (first | refine blk_drewN ?_ _ | refine blk_drew ?_ | refine blk_alloc ?_ _)); exact BK286.out⟩, ⟨by repeat (with_reducible first | exact HB.out | apply below_alloc | apply pw_below_drewN | apply below_drew1 | refine below_set ?_ GE286.out)⟩⟩
   ·rw [if_neg c8] at H
    have c8b0 : (t288 == 0) = false := beq_eq_false_iff_ne.mpr c8
    have c8b1 : (t288 != 0) = true := bne_iff_ne.mpr c8
    (first | rw [c8b0] | (simp only [i64_w, i32_w]; rw [c8b0]) | skip)
    have H' := Aside0.mk H
    clear H
    go_wp2_with (first | ((with_reducible refine gate_callee (f := 9) rfl ?_); refine goesL_ (some 10) rfl rfl Try.func9 (by kernel_rfl) rfl #[.slice A0 l0.length c0] rfl (by (try simp only [List.map_toArray, List.map_cons, List.map_nil]); first | done | rfl | (simp only [List.length_drop, List.length_take]; rfl)) ?_; (with_reducible refine (corebanklaw41_short.calls k _ _ l0 true _ ?side1 ?side2 A5.out).mono ?_); (case side1 => repeat (first | exact (Kd.C_below HR0.out HB.out) | (with_reducible refine Kd.C_alloc ?_ _) | (with_reducible refine Kd.C_drewN ?_ _) | (with_reducible refine Kd.C_drew ?_))); (case side2 => exact HC0.out); rintro e w' ⟨rfl, ⟨nd, rfl⟩⟩; refine ⟨_, rfl, ?_⟩) | (go_at_call 11; (with_reducible refine (corebankref41_Check.calls k _ _ l0 t288 _ ?side1 ?side2 A7.out).mono ?_); (case side1 => repeat (first | exact (Kd.C_below HR0.out (by repeat (with_reducible first | exact HB.out | apply below_alloc | apply pw_below_drewN | apply below_drew1 | refine below_set ?_ GE286.out))) | (with_reducible refine Kd.C_alloc ?_ _) | (with_reducible refine Kd.C_drewN ?_ _) | (with_reducible refine Kd.C_drew ?_))); (case side2 => exact HC0.out); rintro e w14 ⟨rfl, hb⟩; have n0_ := Aside0.mk (blk_below (g := gb286) (by (with_reducible repeat (first | refine blk_drewN ?_ _ | refine blk_drew ?_ | refine blk_alloc ?_ _)); exact BK286.out) hb); have n1_ := Aside0.mk (below_step (by repeat (with_reducible first | exact HB.out | apply below_alloc | apply pw_below_drewN | apply below_drew1 | refine below_set ?_ GE286.out)) hb); clear BK286; clear HB; have BK286 := n0_; have HB := n1_; clear n0_ n1_; (try clear hb); (try clear hb2); (try clear hk); (try clear hi)))
    go_meet
    case rel => exact ⟨_, (true), (by first | rfl | (simp [*]; done)), H', ⟨by first | omega | exact Nat.le_refl _⟩, ⟨by (with_reducible repeat (first | refine blk_drewN ?_ _ | refine blk_drew ?_ | refine blk_alloc ?_ _)); exact BK286.out⟩, ⟨by repeat (with_reducible first | exact HB.out | apply below_alloc | apply pw_below_drewN | apply below_drew1 | refine below_set ?_ GE286.out)⟩⟩
  ·replace c6 := Bool.eq_false_iff.mpr c6
   subst c6
   have H1 : (LG.j0 k l0 true a1_0 a1_1 a1_2) = some r := by rw [if_neg (show ¬ (false = true) by decide)] at H; exact H
   clear H
   have H := H1
   clear H1
   have H' := Aside0.mk H
   clear H
   go_wp2_with (first | ((with_reducible refine gate_callee (f := 9) rfl ?_); refine goesL_ (some 10) rfl rfl Try.func9 (by kernel_rfl) rfl #[.slice A0 l0.length c0] rfl (by (try simp only [List.map_toArray, List.map_cons, List.map_nil]); first | done | rfl | (simp only [List.length_drop, List.length_take]; rfl)) ?_; (with_reducible refine (corebanklaw41_short.calls k _ _ l0 false _ ?side1 ?side2 A5.out).mono ?_); (case side1 => repeat (first | exact (Kd.C_below HR0.out HB.out) | (with_reducible refine Kd.C_alloc ?_ _) | (with_reducible refine Kd.C_drewN ?_ _) | (with_reducible refine Kd.C_drew ?_))); (case side2 => exact HC0.out); rintro e w' ⟨rfl, ⟨nd, rfl⟩⟩; refine ⟨_, rfl, ?_⟩))
   go_meet
   case rel => exact ⟨_, (true), (by first | rfl | (simp [*]; done)), H', ⟨by first | omega | exact Nat.le_refl _⟩, ⟨by (with_reducible repeat (first | refine blk_drewN ?_ _ | refine blk_drew ?_ | refine blk_alloc ?_ _)); exact BK286.out⟩, ⟨by repeat (with_reducible first | exact HB.out | apply below_alloc | apply pw_below_drewN | apply below_drew1 | refine below_set ?_ GE286.out)⟩⟩
 case rest =>
  clear HC3
  try clear p2
  try clear c6
  try clear c7
  try clear c8
  try clear c8b0
  try clear c8b1
  try clear c9
  try clear c9b0
  try clear hcz11
  try clear hcz13
  try clear hfz11
  try clear hfz13
  obtain ⟨kq, x26_2, rfl, HA, HJ2, BK286, HB⟩ := hcut
  cases kq with
  | zero => exact absurd HA.out (by simp [LG.j0])
  | succ kj2 =>
   have H := HA.out
   clear HA
   simp only [LG.j0] at H
   by_cases c15 : x26_2 = true
   ·subst c15
    have H1 : ((corebanklaw41_live.f kj2).bind fun t289 => (some t289)) = some r := by rw [if_pos rfl] at H; exact H
    clear H
    have H := H1
    clear H1
    replace H := Option.bind_eq_some_iff.mp H
    obtain ⟨t289, A160, H⟩ := H
    replace H : (some t289) = some r := H
    have A16 := Aside0.mk A160
    clear A160
    obtain rfl := Option.some.inj H
    go_wp2_with (first | ((with_reducible refine gate_callee (f := 12) rfl ?_); refine goesL_ (some 27) rfl rfl Try.func12 (by kernel_rfl) rfl #[] rfl (by (try simp only [List.map_toArray, List.map_cons, List.map_nil]); first | done | rfl | (simp only [List.length_drop, List.length_take]; rfl)) ?_; (with_reducible refine (corebanklaw41_live.calls kj2  t289 _ A16.out).mono ?_); rintro e w17 ⟨rfl, hb⟩; refine ⟨_, rfl, ?_⟩; have n0_ := Aside0.mk (blk_below (g := gb286) (by (with_reducible repeat (first | refine blk_drewN ?_ _ | refine blk_drew ?_ | refine blk_alloc ?_ _)); exact BK286.out) hb); have n1_ := Aside0.mk (below_step (by repeat (with_reducible first | exact HB.out | apply below_alloc | apply pw_below_drewN | apply below_drew1 | refine below_set ?_ GE286.out)) hb); clear BK286; clear HB; have BK286 := n0_; have HB := n1_; clear n0_ n1_; (try clear hb); (try clear hb2); (try clear hk); (try clear hi)))
    go_ret
    exact ⟨by first | rfl | (simp [errW_none, errW_some] <;> rfl) | (simp [*, errW_none, errW_some] <;> rfl), by repeat (with_reducible first | exact HB.out | apply below_alloc | apply pw_below_drewN | apply below_drew1 | refine below_set ?_ GE286.out)⟩
   ·replace c15 := Bool.eq_false_iff.mpr c15
    subst c15
    have H1 : (LG.l0 kj2 l0 false 0 a1_0 a1_1 a1_2) = some r := by rw [if_neg (show ¬ (false = true) by decide)] at H; exact H
    clear H
    have H := H1
    clear H1
    have H' := Aside0.mk H
    clear H
    go_wp2
    go_loopg [5, 6] kj2 (fun kq v5 v6 w' => ∃ (x5_2 : Bool) (x6_2 : Int), v5 = .bool x5_2 ∧ v6 = .int .i64 x6_2 ∧ Aside0 (LG.l0 kq l0 x5_2 x6_2 a1_0 a1_1 a1_2 = some r) ∧ Aside0 (kq ≤ kj2) ∧ Aside0 (w'.heap[gb286]? = some (.cells #[.int .i64 a1_0, .int .i64 a1_1, .int .i64 a1_2] 36 (0, 0))) ∧ Aside0 (Below w.heap.size w w'))
    case atStart => exact ⟨(false), (0), (by first | rfl | (simp [*]; done)), (by first | rfl | (simp [*]; done)), H', ⟨Nat.le_refl _⟩, ⟨by (with_reducible repeat (first | refine blk_drewN ?_ _ | refine blk_drew ?_ | refine blk_alloc ?_ _)); exact BK286.out⟩, ⟨by repeat (with_reducible first | exact HB.out | apply below_alloc | apply pw_below_drewN | apply below_drew1 | refine below_set ?_ GE286.out)⟩⟩
    case round =>
     clear H'
     try clear c1
     try clear p2
     try clear c6
     try clear c7
     try clear c8
     try clear c8b0
     try clear c8b1
     try clear c9
     try clear c9b0
     try clear c12
     try clear c15
     try clear hcz11
     try clear hcz13
     try clear hfz11
     try clear hfz13
     try clear p2
     obtain ⟨x5_2, x6_2, rfl, rfl, HA, HK2, BK286, HB⟩ := hrel
     cases gk with
     | zero => exact absurd HA.out (by simp [LG.l0])
     | succ k2 =>
      have H := HA.out
      clear HA
      simp only [LG.l0] at H
      by_cases c18 : x6_2 < (l0.length : Int)
      ·rw [if_pos c18] at H
       have c18b0 : decide (x6_2 < (l0.length : Int)) = true := decide_eq_true c18
       clear c18
       have HC19 := Aside0.mk H
       clear H
       go_upto_block 1 with (fail)
       go_cut [5] (fun v5 wc => ∃ (kq : Nat) (x5_18 : Bool), v5 = .bool x5_18 ∧ Aside0 (LG.j3 kq l0 x5_18 x6_2 a1_0 a1_1 a1_2 = some r) ∧ Aside0 (kq ≤ k2) ∧ Aside0 (wc.heap[gb286]? = some (.cells #[.int .i64 a1_0, .int .i64 a1_1, .int .i64 a1_2] 36 (0, 0))) ∧ Aside0 (Below w.heap.size w wc))
       case first =>
        have H := HC19.out
        clear HC19
        by_cases c20 : 0 ≤ x6_2
        ·rw [if_pos c20] at H
         have c20b0 : decide (0 ≤ x6_2) = true := decide_eq_true c20
         clear c20
         (first | rw [c20b0] | (simp only [i64_w, i32_w]; rw [c20b0]) | skip)
         have HC21 := Aside0.mk H
         clear H
         have p290 : 0 ≤ (x6_2 : Int) := of_decide_eq_true (by assumption)
         have q290 : x6_2 < (l0.length : Int) := of_decide_eq_true (by assumption)
         obtain ⟨ad290, e290, hx290_0, hx290_1, hx290_2, hx290_3, hx290_4, hx290_5, hx290_6⟩ := at_T28 HR0.out x6_2 p290 q290
         cases e290
         replace hx290_0 := (HB.out.cell (World.block_lt_of_cell? w _ hx290_0)).trans hx290_0
         replace hx290_1 := (HB.out.cell (World.block_lt_of_cell? w _ hx290_1)).trans hx290_1
         replace hx290_2 := (HB.out.cell (World.block_lt_of_cell? w _ hx290_2)).trans hx290_2
         replace hx290_3 := (HB.out.cell (World.block_lt_of_cell? w _ hx290_3)).trans hx290_3
         replace hx290_4 := (HB.out.cell (World.block_lt_of_cell? w _ hx290_4)).trans hx290_4
         replace hx290_5 := (HB.out.cell (World.block_lt_of_cell? w _ hx290_5)).trans hx290_5
         replace hx290_6 := (HB.out.cell (World.block_lt_of_cell? w _ hx290_6)).trans hx290_6
         replace p290 := eq_true p290
         replace q290 := eq_true q290
         go_upto_region 8 with (first | ((with_reducible refine gate_dst (N := 7) rfl ?_); refine box_event ?hg (N := 7) ?hd (cs := #[.int .i64 0, .int .i64 0, .int .i64 0, .int .i64 0, .int .i64 0, .int .i64 0, .string (⟨#[]⟩ : ByteArray)]) (t := 28) ?hr ?_; (case hd => rfl); (case hg => rfl); (case hr => first | (go_simp; done) | (go_simp; rfl)); intro gb291 hg w22 hbox hb; have n0_ := Aside0.mk (blk_below (g := gb286) (by (with_reducible repeat (first | refine blk_drewN ?_ _ | refine blk_drew ?_ | refine blk_alloc ?_ _)); exact BK286.out) hb); have n1_ := Aside0.mk (below_step (by repeat (with_reducible first | exact HB.out | apply below_alloc | apply pw_below_drewN | apply below_drew1 | refine below_set ?_ GE286.out)) hb); have n2_ := Aside0.mk (hbox); have n3_ := Aside0.mk ((by rw [hg]; exact (below_size (by repeat (with_reducible first | exact HB.out | apply below_alloc | apply pw_below_drewN | apply below_drew1 | refine below_set ?_ GE286.out))) : w.heap.size ≤ gb291)); have n4_ := n3_; have n5_ := Aside0.mk ((by rw [hg]; exact Nat.ne_of_lt (blk_lt (g := gb286) (by (with_reducible repeat (first | refine blk_drewN ?_ _ | refine blk_drew ?_ | refine blk_alloc ?_ _)); exact BK286.out)) : gb286 ≠ gb291)); have n6_ := Aside0.mk ((by rw [hg]; exact Nat.ne_of_gt (blk_lt (g := gb286) (by (with_reducible repeat (first | refine blk_drewN ?_ _ | refine blk_drew ?_ | refine blk_alloc ?_ _)); exact BK286.out)) : gb291 ≠ gb286)); clear BK286; clear HB; have BK286 := n0_; have HB := n1_; have BK291 := n2_; have GW291 := n3_; have GE291 := n4_; have NB286_291 := n5_; have NB291_286 := n6_; clear n0_ n1_ n2_ n3_ n4_ n5_ n6_; clear hb hbox hg; have hnb23 := NB291_286.out; have hnc23 := NB286_291.out; have hcz24 := blk_cell BK291.out; have hfz24 := blk_frozen BK291.out))
         (try simp only [Act.put, List.setIfInBounds_toArray, List.set_cons_zero, List.set_cons_succ])
         go_cut [8] (fun v8 wc => ∃ (kq : Nat) (x8_20 : Bool), v8 = .bool x8_20 ∧ Aside0 (LG.j2 kq l0 x5_2 x6_2 x8_20 a1_0 a1_1 a1_2 ((rd_T28 l0 x6_2).f0) ((rd_T28 l0 x6_2).f1) ((rd_T28 l0 x6_2).f2) ((rd_T28 l0 x6_2).f3) ((rd_T28 l0 x6_2).f4) ((rd_T28 l0 x6_2).f5) ((rd_T28 l0 x6_2).f6) = some r) ∧ Aside0 (kq ≤ k2) ∧ Aside0 (wc.heap[gb286]? = some (.cells #[.int .i64 a1_0, .int .i64 a1_1, .int .i64 a1_2] 36 (0, 0))) ∧ Aside0 (wc.heap[gb291]? = some (.cells #[.int .i64 ((rd_T28 l0 x6_2).f0), .int .i64 ((rd_T28 l0 x6_2).f1), .int .i64 ((rd_T28 l0 x6_2).f2), .int .i64 ((rd_T28 l0 x6_2).f3), .int .i64 ((rd_T28 l0 x6_2).f4), .int .i64 ((rd_T28 l0 x6_2).f5), .string ((rd_T28 l0 x6_2).f6)] 28 (0, 0))) ∧ Aside0 (Below w.heap.size w wc))
         case first =>
          have H := HC21.out
          clear HC21
          by_cases c25 : a1_2 ≤ (wrap64 (((rd_T28 l0 x6_2).f3) + 1096))
          ·rw [if_pos c25] at H
           have c25b0 : decide (a1_2 ≤ (wrap64 (((rd_T28 l0 x6_2).f3) + 1096))) = true := decide_eq_true c25
           clear c25
           (first | rw [c25b0] | (simp only [i64_w, i32_w]; rw [c25b0]) | skip)
           by_cases c26 : ((rd_T28 l0 x6_2).f4) = 0
           ·rw [if_pos c26] at H
            have c26b0 : (((rd_T28 l0 x6_2).f4) == 0) = true := beq_iff_eq.mpr c26
            have c26b1 : (((rd_T28 l0 x6_2).f4) != 0) = false := bne_eq_false_iff_eq.mpr c26
            clear c26
            have H' := Aside0.mk H
            clear H
            have hnb27 := NB286_291.out
            have hnc27 := NB291_286.out
            have hcz28 := blk_cell BK286.out
            have hfz28 := blk_frozen BK286.out
            have hcz29 := blk_cell BK291.out
            have hfz29 := blk_frozen BK291.out
            go_wp2
            go_meet
            case rel => exact ⟨_, (true), (by first | rfl | (simp [*]; done)), H', ⟨by have := HJ2.out; have := HK2.out; first | omega | exact Nat.le_refl _⟩, ⟨by (with_reducible repeat (first | refine blk_drewN ?_ _ | refine blk_drew ?_ | refine blk_alloc ?_ _)); refine blk_far ?_ NB286_291.out _; (with_reducible repeat (first | refine blk_drewN ?_ _ | refine blk_drew ?_ | refine blk_alloc ?_ _)); refine blk_far ?_ NB286_291.out _; (with_reducible repeat (first | refine blk_drewN ?_ _ | refine blk_drew ?_ | refine blk_alloc ?_ _)); refine blk_far ?_ NB286_291.out _; (with_reducible repeat (first | refine blk_drewN ?_ _ | refine blk_drew ?_ | refine blk_alloc ?_ _)); refine blk_far ?_ NB286_291.out _; (with_reducible repeat (first | refine blk_drewN ?_ _ | refine blk_drew ?_ | refine blk_alloc ?_ _)); refine blk_far ?_ NB286_291.out _; (with_reducible repeat (first | refine blk_drewN ?_ _ | refine blk_drew ?_ | refine blk_alloc ?_ _)); refine blk_far ?_ NB286_291.out _; (with_reducible repeat (first | refine blk_drewN ?_ _ | refine blk_drew ?_ | refine blk_alloc ?_ _)); refine blk_far ?_ NB286_291.out _; (with_reducible repeat (first | refine blk_drewN ?_ _ | refine blk_drew ?_ | refine blk_alloc ?_ _)); exact BK286.out⟩, ⟨by exact blk_seq (by repeat (with_reducible first | exact BK291.out | apply blk_drewN | apply blk_drew | apply blk_alloc | apply blk_set)) (by first | (simp only [zS, zC, zD]; done) | rfl)⟩, ⟨by repeat (with_reducible first | exact HB.out | apply below_alloc | apply pw_below_drewN | apply below_drew1 | refine below_set ?_ GE286.out | refine below_set ?_ GE291.out)⟩⟩
           ·rw [if_neg c26] at H
            have c26b0 : (((rd_T28 l0 x6_2).f4) == 0) = false := beq_eq_false_iff_ne.mpr c26
            have c26b1 : (((rd_T28 l0 x6_2).f4) != 0) = true := bne_iff_ne.mpr c26
            by_cases c30 : ((rd_T28 l0 x6_2).f4) > 0
            ·rw [if_pos c30] at H
             have c30b0 : decide (0 < ((rd_T28 l0 x6_2).f4)) = true := decide_eq_true c30
             clear c30
             have H' := Aside0.mk H
             clear H
             have hnb31 := NB286_291.out
             have hnc31 := NB291_286.out
             have hcz32 := blk_cell BK286.out
             have hfz32 := blk_frozen BK286.out
             have hcz33 := blk_cell BK291.out
             have hfz33 := blk_frozen BK291.out
             go_wp2
             go_meet
             case rel => exact ⟨_, (decide (a1_2 ≤ (wrap64 (((rd_T28 l0 x6_2).f4) + 1096)))), (by first | rfl | (simp [*]; done)), H', ⟨by have := HJ2.out; have := HK2.out; first | omega | exact Nat.le_refl _⟩, ⟨by (with_reducible repeat (first | refine blk_drewN ?_ _ | refine blk_drew ?_ | refine blk_alloc ?_ _)); refine blk_far ?_ NB286_291.out _; (with_reducible repeat (first | refine blk_drewN ?_ _ | refine blk_drew ?_ | refine blk_alloc ?_ _)); refine blk_far ?_ NB286_291.out _; (with_reducible repeat (first | refine blk_drewN ?_ _ | refine blk_drew ?_ | refine blk_alloc ?_ _)); refine blk_far ?_ NB286_291.out _; (with_reducible repeat (first | refine blk_drewN ?_ _ | refine blk_drew ?_ | refine blk_alloc ?_ _)); refine blk_far ?_ NB286_291.out _; (with_reducible repeat (first | refine blk_drewN ?_ _ | refine blk_drew ?_ | refine blk_alloc ?_ _)); refine blk_far ?_ NB286_291.out _; (with_reducible repeat (first | refine blk_drewN ?_ _ | refine blk_drew ?_ | refine blk_alloc ?_ _)); refine blk_far ?_ NB286_291.out _; (with_reducible repeat (first | refine blk_drewN ?_ _ | refine blk_drew ?_ | refine blk_alloc ?_ _)); refine blk_far ?_ NB286_291.out _; (with_reducible repeat (first | refine blk_drewN ?_ _ | refine blk_drew ?_ | refine blk_alloc ?_ _)); exact BK286.out⟩, ⟨by exact blk_seq (by repeat (with_reducible first | exact BK291.out | apply blk_drewN | apply blk_drew | apply blk_alloc | apply blk_set)) (by first | (simp only [zS, zC, zD]; done) | rfl)⟩, ⟨by repeat (with_reducible first | exact HB.out | apply below_alloc | apply pw_below_drewN | apply below_drew1 | refine below_set ?_ GE286.out | refine below_set ?_ GE291.out)⟩⟩
            ·rw [if_neg c30] at H
             have c30b0 : decide (0 < ((rd_T28 l0 x6_2).f4)) = false := decide_eq_false c30
             clear c30
             have H' := Aside0.mk H
             clear H
             have hnb34 := NB286_291.out
             have hnc34 := NB291_286.out
             have hcz35 := blk_cell BK286.out
             have hfz35 := blk_frozen BK286.out
             have hcz36 := blk_cell BK291.out
             have hfz36 := blk_frozen BK291.out
             go_wp2
             go_meet
             case rel => exact ⟨_, (false), (by first | rfl | (simp [*]; done)), H', ⟨by have := HJ2.out; have := HK2.out; first | omega | exact Nat.le_refl _⟩, ⟨by (with_reducible repeat (first | refine blk_drewN ?_ _ | refine blk_drew ?_ | refine blk_alloc ?_ _)); refine blk_far ?_ NB286_291.out _; (with_reducible repeat (first | refine blk_drewN ?_ _ | refine blk_drew ?_ | refine blk_alloc ?_ _)); refine blk_far ?_ NB286_291.out _; (with_reducible repeat (first | refine blk_drewN ?_ _ | refine blk_drew ?_ | refine blk_alloc ?_ _)); refine blk_far ?_ NB286_291.out _; (with_reducible repeat (first | refine blk_drewN ?_ _ | refine blk_drew ?_ | refine blk_alloc ?_ _)); refine blk_far ?_ NB286_291.out _; (with_reducible repeat (first | refine blk_drewN ?_ _ | refine blk_drew ?_ | refine blk_alloc ?_ _)); refine blk_far ?_ NB286_291.out _; (with_reducible repeat (first | refine blk_drewN ?_ _ | refine blk_drew ?_ | refine blk_alloc ?_ _)); refine blk_far ?_ NB286_291.out _; (with_reducible repeat (first | refine blk_drewN ?_ _ | refine blk_drew ?_ | refine blk_alloc ?_ _)); refine blk_far ?_ NB286_291.out _; (with_reducible repeat (first | refine blk_drewN ?_ _ | refine blk_drew ?_ | refine blk_alloc ?_ _)); exact BK286.out⟩, ⟨by exact blk_seq (by repeat (with_reducible first | exact BK291.out | apply blk_drewN | apply blk_drew | apply blk_alloc | apply blk_set)) (by first | (simp only [zS, zC, zD]; done) | rfl)⟩, ⟨by repeat (with_reducible first | exact HB.out | apply below_alloc | apply pw_below_drewN | apply below_drew1 | refine below_set ?_ GE286.out | refine below_set ?_ GE291.out)⟩⟩
          ·rw [if_neg c25] at H
           have c25b0 : decide (a1_2 ≤ (wrap64 (((rd_T28 l0 x6_2).f3) + 1096))) = false := decide_eq_false c25
           clear c25
           (first | rw [c25b0] | (simp only [i64_w, i32_w]; rw [c25b0]) | skip)
           by_cases c37 : ((rd_T28 l0 x6_2).f4) > 0
           ·rw [if_pos c37] at H
            have c37b0 : decide (0 < ((rd_T28 l0 x6_2).f4)) = true := decide_eq_true c37
            clear c37
            have H' := Aside0.mk H
            clear H
            have hnb38 := NB286_291.out
            have hnc38 := NB291_286.out
            have hcz39 := blk_cell BK286.out
            have hfz39 := blk_frozen BK286.out
            have hcz40 := blk_cell BK291.out
            have hfz40 := blk_frozen BK291.out
            go_wp2
            go_meet
            case rel => exact ⟨_, (decide (a1_2 ≤ (wrap64 (((rd_T28 l0 x6_2).f4) + 1096)))), (by first | rfl | (simp [*]; done)), H', ⟨by have := HJ2.out; have := HK2.out; first | omega | exact Nat.le_refl _⟩, ⟨by (with_reducible repeat (first | refine blk_drewN ?_ _ | refine blk_drew ?_ | refine blk_alloc ?_ _)); refine blk_far ?_ NB286_291.out _; (with_reducible repeat (first | refine blk_drewN ?_ _ | refine blk_drew ?_ | refine blk_alloc ?_ _)); refine blk_far ?_ NB286_291.out _; (with_reducible repeat (first | refine blk_drewN ?_ _ | refine blk_drew ?_ | refine blk_alloc ?_ _)); refine blk_far ?_ NB286_291.out _; (with_reducible repeat (first | refine blk_drewN ?_ _ | refine blk_drew ?_ | refine blk_alloc ?_ _)); refine blk_far ?_ NB286_291.out _; (with_reducible repeat (first | refine blk_drewN ?_ _ | refine blk_drew ?_ | refine blk_alloc ?_ _)); refine blk_far ?_ NB286_291.out _; (with_reducible repeat (first | refine blk_drewN ?_ _ | refine blk_drew ?_ | refine blk_alloc ?_ _)); refine blk_far ?_ NB286_291.out _; (with_reducible repeat (first | refine blk_drewN ?_ _ | refine blk_drew ?_ | refine blk_alloc ?_ _)); refine blk_far ?_ NB286_291.out _; (with_reducible repeat (first | refine blk_drewN ?_ _ | refine blk_drew ?_ | refine blk_alloc ?_ _)); exact BK286.out⟩, ⟨by exact blk_seq (by repeat (with_reducible first | exact BK291.out | apply blk_drewN | apply blk_drew | apply blk_alloc | apply blk_set)) (by first | (simp only [zS, zC, zD]; done) | rfl)⟩, ⟨by repeat (with_reducible first | exact HB.out | apply below_alloc | apply pw_below_drewN | apply below_drew1 | refine below_set ?_ GE286.out | refine below_set ?_ GE291.out)⟩⟩
           ·rw [if_neg c37] at H
            have c37b0 : decide (0 < ((rd_T28 l0 x6_2).f4)) = false := decide_eq_false c37
            clear c37
            have H' := Aside0.mk H
            clear H
            have hnb41 := NB286_291.out
            have hnc41 := NB291_286.out
            have hcz42 := blk_cell BK286.out
            have hfz42 := blk_frozen BK286.out
            have hcz43 := blk_cell BK291.out
            have hfz43 := blk_frozen BK291.out
            go_wp2
            go_meet
            case rel => exact ⟨_, (false), (by first | rfl | (simp [*]; done)), H', ⟨by have := HJ2.out; have := HK2.out; first | omega | exact Nat.le_refl _⟩, ⟨by (with_reducible repeat (first | refine blk_drewN ?_ _ | refine blk_drew ?_ | refine blk_alloc ?_ _)); refine blk_far ?_ NB286_291.out _; (with_reducible repeat (first | refine blk_drewN ?_ _ | refine blk_drew ?_ | refine blk_alloc ?_ _)); refine blk_far ?_ NB286_291.out _; (with_reducible repeat (first | refine blk_drewN ?_ _ | refine blk_drew ?_ | refine blk_alloc ?_ _)); refine blk_far ?_ NB286_291.out _; (with_reducible repeat (first | refine blk_drewN ?_ _ | refine blk_drew ?_ | refine blk_alloc ?_ _)); refine blk_far ?_ NB286_291.out _; (with_reducible repeat (first | refine blk_drewN ?_ _ | refine blk_drew ?_ | refine blk_alloc ?_ _)); refine blk_far ?_ NB286_291.out _; (with_reducible repeat (first | refine blk_drewN ?_ _ | refine blk_drew ?_ | refine blk_alloc ?_ _)); refine blk_far ?_ NB286_291.out _; (with_reducible repeat (first | refine blk_drewN ?_ _ | refine blk_drew ?_ | refine blk_alloc ?_ _)); refine blk_far ?_ NB286_291.out _; (with_reducible repeat (first | refine blk_drewN ?_ _ | refine blk_drew ?_ | refine blk_alloc ?_ _)); exact BK286.out⟩, ⟨by exact blk_seq (by repeat (with_reducible first | exact BK291.out | apply blk_drewN | apply blk_drew | apply blk_alloc | apply blk_set)) (by first | (simp only [zS, zC, zD]; done) | rfl)⟩, ⟨by repeat (with_reducible first | exact HB.out | apply below_alloc | apply pw_below_drewN | apply below_drew1 | refine below_set ?_ GE286.out | refine below_set ?_ GE291.out)⟩⟩
         case rest =>
          clear HC21
          try clear c1
          try clear c2
          try clear p2
          try clear q2
          try clear hx2
          try clear c3
          try clear c4
          try clear c6
          try clear p6
          try clear c7
          try clear c8
          try clear c8b0
          try clear c8b1
          try clear c9
          try clear c9b0
          try clear c12
          try clear c15
          try clear c18
          try clear c18b0
          try clear c20
          try clear c20b0
          try clear c23
          try clear c25
          try clear c25b0
          try clear c26
          try clear c26b0
          try clear c26b1
          try clear c27
          try clear p29
          try clear q29
          try clear hx29
          try clear c30
          try clear c30b0
          try clear c31
          try clear c34
          try clear c37
          try clear c37b0
          try clear c38
          try clear c41
          try clear hcz11
          try clear hcz13
          try clear hcz24
          try clear hcz28
          try clear hcz29
          try clear hcz32
          try clear hcz33
          try clear hcz35
          try clear hcz36
          try clear hcz39
          try clear hcz40
          try clear hcz42
          try clear hcz43
          try clear hfz11
          try clear hfz13
          try clear hfz24
          try clear hfz28
          try clear hfz29
          try clear hfz32
          try clear hfz33
          try clear hfz35
          try clear hfz36
          try clear hfz39
          try clear hfz40
          try clear hfz42
          try clear hfz43
          try clear hx290_0
          try clear hx290_1
          try clear hx290_2
          try clear hx290_3
          try clear hx290_4
          try clear hx290_5
          try clear hx290_6
          try clear p2
          try clear p290
          try clear q290
          obtain ⟨kq, x8_20, rfl, HA, HJ20, BK286, BK291, HB⟩ := hcut
          cases kq with
          | zero => exact absurd HA.out (by simp [LG.j2])
          | succ kj20 =>
           have H := HA.out
           clear HA
           simp only [LG.j2] at H
           by_cases c44 : x5_2 = true
           ·subst c44
            have H1 : (LG.j3 kj20 l0 true x6_2 a1_0 a1_1 a1_2) = some r := by rw [if_pos rfl] at H; exact H
            clear H
            have H := H1
            clear H1
            have H' := Aside0.mk H
            clear H
            go_wp2
            go_meet
            case rel => exact ⟨_, (true), (by first | rfl | (simp [*]; done)), H', ⟨by have := HJ2.out; have := HK2.out; have := HJ20.out; first | omega | exact Nat.le_refl _⟩, ⟨by (with_reducible repeat (first | refine blk_drewN ?_ _ | refine blk_drew ?_ | refine blk_alloc ?_ _)); exact BK286.out⟩, ⟨by repeat (with_reducible first | exact HB.out | apply below_alloc | apply pw_below_drewN | apply below_drew1 | refine below_set ?_ GE286.out | refine below_set ?_ GE291.out)⟩⟩
           ·replace c44 := Bool.eq_false_iff.mpr c44
            subst c44
            have H1 : (if ((rd_T28 l0 x6_2).f0) = a1_0 then (if ((rd_T28 l0 x6_2).f3) ≤ a1_2 then (if ((rd_T28 l0 x6_2).f5) = 0 then (if x8_20 = true then (if ((rd_T28 l0 x6_2).f2) = 0 then (LG.j3 kj20 l0 true x6_2 a1_0 a1_1 a1_2) else (LG.j3 kj20 l0 (decide (a1_1 ≤ ((rd_T28 l0 x6_2).f2))) x6_2 a1_0 a1_1 a1_2)) else (LG.j3 kj20 l0 false x6_2 a1_0 a1_1 a1_2)) else (if a1_2 < ((rd_T28 l0 x6_2).f5) then (if x8_20 = true then (if ((rd_T28 l0 x6_2).f2) = 0 then (LG.j3 kj20 l0 true x6_2 a1_0 a1_1 a1_2) else (LG.j3 kj20 l0 (decide (a1_1 ≤ ((rd_T28 l0 x6_2).f2))) x6_2 a1_0 a1_1 a1_2)) else (LG.j3 kj20 l0 false x6_2 a1_0 a1_1 a1_2)) else (LG.j3 kj20 l0 false x6_2 a1_0 a1_1 a1_2))) else (LG.j3 kj20 l0 false x6_2 a1_0 a1_1 a1_2)) else (LG.j3 kj20 l0 false x6_2 a1_0 a1_1 a1_2)) = some r := by rw [if_neg (show ¬ (false = true) by decide)] at H; exact H
            clear H
            have H := H1
            clear H1
            by_cases c45 : ((rd_T28 l0 x6_2).f0) = a1_0
            ·rw [if_pos c45] at H
             have c45b0 : (((rd_T28 l0 x6_2).f0) == a1_0) = true := beq_iff_eq.mpr c45
             have c45b1 : (((rd_T28 l0 x6_2).f0) != a1_0) = false := bne_eq_false_iff_eq.mpr c45
             clear c45
             by_cases c46 : ((rd_T28 l0 x6_2).f3) ≤ a1_2
             ·rw [if_pos c46] at H
              have c46b0 : decide (((rd_T28 l0 x6_2).f3) ≤ a1_2) = true := decide_eq_true c46
              clear c46
              by_cases c47 : ((rd_T28 l0 x6_2).f5) = 0
              ·rw [if_pos c47] at H
               have c47b0 : (((rd_T28 l0 x6_2).f5) == 0) = true := beq_iff_eq.mpr c47
               have c47b1 : (((rd_T28 l0 x6_2).f5) != 0) = false := bne_eq_false_iff_eq.mpr c47
               clear c47
               by_cases c48 : x8_20 = true
               ·subst c48
                have H1 : (if ((rd_T28 l0 x6_2).f2) = 0 then (LG.j3 kj20 l0 true x6_2 a1_0 a1_1 a1_2) else (LG.j3 kj20 l0 (decide (a1_1 ≤ ((rd_T28 l0 x6_2).f2))) x6_2 a1_0 a1_1 a1_2)) = some r := by rw [if_pos rfl] at H; exact H
                clear H
                have H := H1
                clear H1
                by_cases c49 : ((rd_T28 l0 x6_2).f2) = 0
                ·rw [if_pos c49] at H
                 have c49b0 : (((rd_T28 l0 x6_2).f2) == 0) = true := beq_iff_eq.mpr c49
                 have c49b1 : (((rd_T28 l0 x6_2).f2) != 0) = false := bne_eq_false_iff_eq.mpr c49
                 clear c49
                 have H' := Aside0.mk H
                 clear H
                 have hnb50 := NB291_286.out
                 have hnc50 := NB286_291.out
                 have hcz51 := blk_cell BK291.out
                 have hfz51 := blk_frozen BK291.out
                 have hcz52 := blk_cell BK286.out
                 have hfz52 := blk_frozen BK286.out
                 go_wp2
                 go_meet
                 case rel => exact ⟨_, (true), (by first | rfl | (simp [*]; done)), H', ⟨by have := HJ2.out; have := HK2.out; have := HJ20.out; first | omega | exact Nat.le_refl _⟩, ⟨by (with_reducible repeat (first | refine blk_drewN ?_ _ | refine blk_drew ?_ | refine blk_alloc ?_ _)); exact BK286.out⟩, ⟨by repeat (with_reducible first | exact HB.out | apply below_alloc | apply pw_below_drewN | apply below_drew1 | refine below_set ?_ GE286.out | refine below_set ?_ GE291.out)⟩⟩
                ·rw [if_neg c49] at H
                 have c49b0 : (((rd_T28 l0 x6_2).f2) == 0) = false := beq_eq_false_iff_ne.mpr c49
                 have c49b1 : (((rd_T28 l0 x6_2).f2) != 0) = true := bne_iff_ne.mpr c49
                 have H' := Aside0.mk H
                 clear H
                 have hnb53 := NB291_286.out
                 have hnc53 := NB286_291.out
                 have hcz54 := blk_cell BK291.out
                 have hfz54 := blk_frozen BK291.out
                 have hcz55 := blk_cell BK286.out
                 have hfz55 := blk_frozen BK286.out
                 go_wp2
                 go_meet
                 case rel => exact ⟨_, (decide (a1_1 ≤ ((rd_T28 l0 x6_2).f2))), (by first | rfl | (simp [*]; done)), H', ⟨by have := HJ2.out; have := HK2.out; have := HJ20.out; first | omega | exact Nat.le_refl _⟩, ⟨by (with_reducible repeat (first | refine blk_drewN ?_ _ | refine blk_drew ?_ | refine blk_alloc ?_ _)); exact BK286.out⟩, ⟨by repeat (with_reducible first | exact HB.out | apply below_alloc | apply pw_below_drewN | apply below_drew1 | refine below_set ?_ GE286.out | refine below_set ?_ GE291.out)⟩⟩
               ·replace c48 := Bool.eq_false_iff.mpr c48
                subst c48
                have H1 : (LG.j3 kj20 l0 false x6_2 a1_0 a1_1 a1_2) = some r := by rw [if_neg (show ¬ (false = true) by decide)] at H; exact H
                clear H
                have H := H1
                clear H1
                have H' := Aside0.mk H
                clear H
                have hnb56 := NB291_286.out
                have hnc56 := NB286_291.out
                have hcz57 := blk_cell BK291.out
                have hfz57 := blk_frozen BK291.out
                have hcz58 := blk_cell BK286.out
                have hfz58 := blk_frozen BK286.out
                go_wp2
                go_meet
                case rel => exact ⟨_, (false), (by first | rfl | (simp [*]; done)), H', ⟨by have := HJ2.out; have := HK2.out; have := HJ20.out; first | omega | exact Nat.le_refl _⟩, ⟨by (with_reducible repeat (first | refine blk_drewN ?_ _ | refine blk_drew ?_ | refine blk_alloc ?_ _)); exact BK286.out⟩, ⟨by repeat (with_reducible first | exact HB.out | apply below_alloc | apply pw_below_drewN | apply below_drew1 | refine below_set ?_ GE286.out | refine below_set ?_ GE291.out)⟩⟩
              ·rw [if_neg c47] at H
               have c47b0 : (((rd_T28 l0 x6_2).f5) == 0) = false := beq_eq_false_iff_ne.mpr c47
               have c47b1 : (((rd_T28 l0 x6_2).f5) != 0) = true := bne_iff_ne.mpr c47
               by_cases c59 : a1_2 < ((rd_T28 l0 x6_2).f5)
               ·rw [if_pos c59] at H
                have c59b0 : decide (a1_2 < ((rd_T28 l0 x6_2).f5)) = true := decide_eq_true c59
                clear c59
                by_cases c60 : x8_20 = true
                ·subst c60
                 have H1 : (if ((rd_T28 l0 x6_2).f2) = 0 then (LG.j3 kj20 l0 true x6_2 a1_0 a1_1 a1_2) else (LG.j3 kj20 l0 (decide (a1_1 ≤ ((rd_T28 l0 x6_2).f2))) x6_2 a1_0 a1_1 a1_2)) = some r := by rw [if_pos rfl] at H; exact H
                 clear H
                 have H := H1
                 clear H1
                 by_cases c61 : ((rd_T28 l0 x6_2).f2) = 0
                 ·rw [if_pos c61] at H
                  have c61b0 : (((rd_T28 l0 x6_2).f2) == 0) = true := beq_iff_eq.mpr c61
                  have c61b1 : (((rd_T28 l0 x6_2).f2) != 0) = false := bne_eq_false_iff_eq.mpr c61
                  clear c61
                  have H' := Aside0.mk H
                  clear H
                  have hnb62 := NB291_286.out
                  have hnc62 := NB286_291.out
                  have hcz63 := blk_cell BK291.out
                  have hfz63 := blk_frozen BK291.out
                  have hcz64 := blk_cell BK286.out
                  have hfz64 := blk_frozen BK286.out
                  go_wp2
                  go_meet
                  case rel => exact ⟨_, (true), (by first | rfl | (simp [*]; done)), H', ⟨by have := HJ2.out; have := HK2.out; have := HJ20.out; first | omega | exact Nat.le_refl _⟩, ⟨by (with_reducible repeat (first | refine blk_drewN ?_ _ | refine blk_drew ?_ | refine blk_alloc ?_ _)); exact BK286.out⟩, ⟨by repeat (with_reducible first | exact HB.out | apply below_alloc | apply pw_below_drewN | apply below_drew1 | refine below_set ?_ GE286.out | refine below_set ?_ GE291.out)⟩⟩
                 ·rw [if_neg c61] at H
                  have c61b0 : (((rd_T28 l0 x6_2).f2) == 0) = false := beq_eq_false_iff_ne.mpr c61
                  have c61b1 : (((rd_T28 l0 x6_2).f2) != 0) = true := bne_iff_ne.mpr c61
                  have H' := Aside0.mk H
                  clear H
                  have hnb65 := NB291_286.out
                  have hnc65 := NB286_291.out
                  have hcz66 := blk_cell BK291.out
                  have hfz66 := blk_frozen BK291.out
                  have hcz67 := blk_cell BK286.out
                  have hfz67 := blk_frozen BK286.out
                  go_wp2
                  go_meet
                  case rel => exact ⟨_, (decide (a1_1 ≤ ((rd_T28 l0 x6_2).f2))), (by first | rfl | (simp [*]; done)), H', ⟨by have := HJ2.out; have := HK2.out; have := HJ20.out; first | omega | exact Nat.le_refl _⟩, ⟨by (with_reducible repeat (first | refine blk_drewN ?_ _ | refine blk_drew ?_ | refine blk_alloc ?_ _)); exact BK286.out⟩, ⟨by repeat (with_reducible first | exact HB.out | apply below_alloc | apply pw_below_drewN | apply below_drew1 | refine below_set ?_ GE286.out | refine below_set ?_ GE291.out)⟩⟩
                ·replace c60 := Bool.eq_false_iff.mpr c60
                 subst c60
                 have H1 : (LG.j3 kj20 l0 false x6_2 a1_0 a1_1 a1_2) = some r := by rw [if_neg (show ¬ (false = true) by decide)] at H; exact H
                 clear H
                 have H := H1
                 clear H1
                 have H' := Aside0.mk H
                 clear H
                 have hnb68 := NB291_286.out
                 have hnc68 := NB286_291.out
                 have hcz69 := blk_cell BK291.out
                 have hfz69 := blk_frozen BK291.out
                 have hcz70 := blk_cell BK286.out
                 have hfz70 := blk_frozen BK286.out
                 go_wp2
                 go_meet
                 case rel => exact ⟨_, (false), (by first | rfl | (simp [*]; done)), H', ⟨by have := HJ2.out; have := HK2.out; have := HJ20.out; first | omega | exact Nat.le_refl _⟩, ⟨by (with_reducible repeat (first | refine blk_drewN ?_ _ | refine blk_drew ?_ | refine blk_alloc ?_ _)); exact BK286.out⟩, ⟨by repeat (with_reducible first | exact HB.out | apply below_alloc | apply pw_below_drewN | apply below_drew1 | refine below_set ?_ GE286.out | refine below_set ?_ GE291.out)⟩⟩
               ·rw [if_neg c59] at H
                have c59b0 : decide (a1_2 < ((rd_T28 l0 x6_2).f5)) = false := decide_eq_false c59
                clear c59
                have H' := Aside0.mk H
                clear H
                have hnb71 := NB291_286.out
                have hnc71 := NB286_291.out
                have hcz72 := blk_cell BK291.out
                have hfz72 := blk_frozen BK291.out
                have hcz73 := blk_cell BK286.out
                have hfz73 := blk_frozen BK286.out
                go_wp2
                go_meet
                case rel => exact ⟨_, (false), (by first | rfl | (simp [*]; done)), H', ⟨by have := HJ2.out; have := HK2.out; have := HJ20.out; first | omega | exact Nat.le_refl _⟩, ⟨by (with_reducible repeat (first | refine blk_drewN ?_ _ | refine blk_drew ?_ | refine blk_alloc ?_ _)); exact BK286.out⟩, ⟨by repeat (with_reducible first | exact HB.out | apply below_alloc | apply pw_below_drewN | apply below_drew1 | refine below_set ?_ GE286.out | refine below_set ?_ GE291.out)⟩⟩
             ·rw [if_neg c46] at H
              have c46b0 : decide (((rd_T28 l0 x6_2).f3) ≤ a1_2) = false := decide_eq_false c46
              clear c46
              have H' := Aside0.mk H
              clear H
              have hnb74 := NB291_286.out
              have hnc74 := NB286_291.out
              have hcz75 := blk_cell BK291.out
              have hfz75 := blk_frozen BK291.out
              have hcz76 := blk_cell BK286.out
              have hfz76 := blk_frozen BK286.out
              go_wp2
              go_meet
              case rel => exact ⟨_, (false), (by first | rfl | (simp [*]; done)), H', ⟨by have := HJ2.out; have := HK2.out; have := HJ20.out; first | omega | exact Nat.le_refl _⟩, ⟨by (with_reducible repeat (first | refine blk_drewN ?_ _ | refine blk_drew ?_ | refine blk_alloc ?_ _)); exact BK286.out⟩, ⟨by repeat (with_reducible first | exact HB.out | apply below_alloc | apply pw_below_drewN | apply below_drew1 | refine below_set ?_ GE286.out | refine below_set ?_ GE291.out)⟩⟩
            ·rw [if_neg c45] at H
             have c45b0 : (((rd_T28 l0 x6_2).f0) == a1_0) = false := beq_eq_false_iff_ne.mpr c45
             have c45b1 : (((rd_T28 l0 x6_2).f0) != a1_0) = true := bne_iff_ne.mpr c45
             have H' := Aside0.mk H
             clear H
             have hnb77 := NB291_286.out
             have hnc77 := NB286_291.out
             have hcz78 := blk_cell BK291.out
             have hfz78 := blk_frozen BK291.out
             have hcz79 := blk_cell BK286.out
             have hfz79 := blk_frozen BK286.out
             go_wp2
             go_meet
             case rel => exact ⟨_, (false), (by first | rfl | (simp [*]; done)), H', ⟨by have := HJ2.out; have := HK2.out; have := HJ20.out; first | omega | exact Nat.le_refl _⟩, ⟨by (with_reducible repeat (first | refine blk_drewN ?_ _ | refine blk_drew ?_ | refine blk_alloc ?_ _)); exact BK286.out⟩, ⟨by repeat (with_reducible first | exact HB.out | apply below_alloc | apply pw_below_drewN | apply below_drew1 | refine below_set ?_ GE286.out | refine below_set ?_ GE291.out)⟩⟩
        ·rw [if_neg c20] at H
         exact absurd H (by simp)
       case rest =>
        clear HC19
        try clear c1
        try clear c2
        try clear p2
        try clear q2
        try clear hx2
        try clear c3
        try clear c4
        try clear c5
        try clear c6
        try clear p6
        try clear c7
        try clear c8
        try clear c8b0
        try clear c8b1
        try clear c9
        try clear c9b0
        try clear c12
        try clear c15
        try clear c18
        try clear c18b0
        try clear c20
        try clear c20b0
        try clear c23
        try clear c25
        try clear c25b0
        try clear c26
        try clear c26b0
        try clear c26b1
        try clear c27
        try clear p29
        try clear q29
        try clear hx29
        try clear c30
        try clear c30b0
        try clear c31
        try clear c34
        try clear c37
        try clear c37b0
        try clear c38
        try clear c41
        try clear c44
        try clear c45
        try clear c45b0
        try clear c45b1
        try clear c46
        try clear c46b0
        try clear c47
        try clear c47b0
        try clear c47b1
        try clear c48
        try clear c49
        try clear c49b0
        try clear c49b1
        try clear c50
        try clear c53
        try clear c56
        try clear c59
        try clear c59b0
        try clear c60
        try clear c61
        try clear c61b0
        try clear c61b1
        try clear c62
        try clear p64
        try clear c65
        try clear c68
        try clear c71
        try clear c74
        try clear c77
        try clear hcz11
        try clear hcz13
        try clear hcz24
        try clear hcz28
        try clear hcz29
        try clear hcz32
        try clear hcz33
        try clear hcz35
        try clear hcz36
        try clear hcz39
        try clear hcz40
        try clear hcz42
        try clear hcz43
        try clear hcz51
        try clear hcz52
        try clear hcz54
        try clear hcz55
        try clear hcz57
        try clear hcz58
        try clear hcz63
        try clear hcz64
        try clear hcz66
        try clear hcz67
        try clear hcz69
        try clear hcz70
        try clear hcz72
        try clear hcz73
        try clear hcz75
        try clear hcz76
        try clear hcz78
        try clear hcz79
        try clear hfz11
        try clear hfz13
        try clear hfz24
        try clear hfz28
        try clear hfz29
        try clear hfz32
        try clear hfz33
        try clear hfz35
        try clear hfz36
        try clear hfz39
        try clear hfz40
        try clear hfz42
        try clear hfz43
        try clear hfz51
        try clear hfz52
        try clear hfz54
        try clear hfz55
        try clear hfz57
        try clear hfz58
        try clear hfz63
        try clear hfz64
        try clear hfz66
        try clear hfz67
        try clear hfz69
        try clear hfz70
        try clear hfz72
        try clear hfz73
        try clear hfz75
        try clear hfz76
        try clear hfz78
        try clear hfz79
        try clear hx290_0
        try clear hx290_1
        try clear hx290_2
        try clear hx290_3
        try clear hx290_4
        try clear hx290_5
        try clear hx290_6
        try clear p2
        try clear p29
        try clear p290
        try clear p6
        try clear q2
        try clear q29
        try clear q290
        obtain ⟨kq, x5_18, rfl, HA, HJ18, BK286, HB⟩ := hcut
        cases kq with
        | zero => exact absurd HA.out (by simp [LG.j3])
        | succ kj18 =>
         have H := HA.out
         clear HA
         simp only [LG.j3] at H
         have H' := Aside0.mk H
         clear H
         go_wp2
         go_roundg kj18
         case measure => have := HJ2.out; have := HK2.out; have := HJ18.out; omega
         case rel => exact ⟨(x5_18), (wrap64 (x6_2 + 1)), (by first | rfl | (simp [*]; done)), (by first | rfl | (simp [*]; done)), H', ⟨by have := HJ2.out; have := HK2.out; have := HJ18.out; omega⟩, ⟨by (with_reducible repeat (first | refine blk_drewN ?_ _ | refine blk_drew ?_ | refine blk_alloc ?_ _)); exact BK286.out⟩, ⟨by repeat (with_reducible first | exact HB.out | apply below_alloc | apply pw_below_drewN | apply below_drew1 | refine below_set ?_ GE286.out)⟩⟩
      ·rw [if_neg c18] at H
       have c18b0 : decide (x6_2 < (l0.length : Int)) = false := decide_eq_false c18
       clear c18
       have HC80 := Aside0.mk H
       clear H
       go_upto_region 10 with (fail)
       go_cut [4] (fun v4 wc => ∃ (kq : Nat) (x4_79 : Bool), v4 = .bool x4_79 ∧ Aside0 (LG.j4 kq x4_79 = some r) ∧ Aside0 (kq ≤ k2) ∧ Aside0 (wc.heap[gb286]? = some (.cells #[.int .i64 a1_0, .int .i64 a1_1, .int .i64 a1_2] 36 (0, 0))) ∧ Aside0 (Below w.heap.size w wc))
       case first =>
        have H := HC80.out
        clear HC80
        replace H := Option.bind_eq_some_iff.mp H
        obtain ⟨t292, A810, H⟩ := H
        replace H : (if ((t292 == 0) == x5_2) = true then ((corebanklaw41_live.f k2).bind fun t293 => (LG.j4 k2 t293)) else (LG.j4 k2 false)) = some r := H
        have A81 := Aside0.mk A810
        clear A810
        by_cases c82 : ((t292 == 0) == x5_2) = true
        ·rw [if_pos c82] at H
         have c82b0 : ((t292 == 0) == x5_2) = true := c82
         (try (have c82b1 : decide ((t292 == 0) = x5_2) = true := by revert c82; generalize ((t292 == 0)) = p_; generalize (x5_2) = q_; cases p_ <;> cases q_ <;> simp))
         (try (have c82b2 : ((t292 == 0) == x5_2) = true := by revert c82; generalize ((t292 == 0)) = p_; generalize (x5_2) = q_; cases p_ <;> cases q_ <;> simp))
         clear c82
         (first | rw [c82b0] | (simp only [i64_w, i32_w]; rw [c82b0]) | skip)
         replace H := Option.bind_eq_some_iff.mp H
         obtain ⟨t293, A830, H⟩ := H
         replace H : (LG.j4 k2 t293) = some r := H
         have A83 := Aside0.mk A830
         clear A830
         have H' := Aside0.mk H
         clear H
         have hcz84 := blk_cell BK286.out
         have hfz84 := blk_frozen BK286.out
         go_wp2_with (first | ((with_reducible refine gate_callee (f := 22) rfl ?_); refine goesL_ (some 111) rfl rfl Try.func22 (by kernel_rfl) rfl #[.slice A0 l0.length c0, .int .i64 a1_0, .int .i64 a1_1, .int .i64 a1_2] rfl (by (try simp only [List.map_toArray, List.map_cons, List.map_nil]); first | done | rfl | (simp only [List.length_drop, List.length_take]; rfl)) ?_; (with_reducible refine (mandate_Allows.calls k2 _ _ l0 a1_0 a1_1 a1_2 t292 _ ?side1 ?side2 A81.out).mono ?_); (case side1 => repeat (first | exact (Kd.C_below HR0.out HB.out) | (with_reducible refine Kd.C_alloc ?_ _) | (with_reducible refine Kd.C_drewN ?_ _) | (with_reducible refine Kd.C_drew ?_))); (case side2 => exact HC0.out); rintro e w85 ⟨rfl, hb⟩; refine ⟨_, rfl, ?_⟩; have n0_ := Aside0.mk (blk_below (g := gb286) (by (with_reducible repeat (first | refine blk_drewN ?_ _ | refine blk_drew ?_ | refine blk_alloc ?_ _)); exact BK286.out) hb); have n1_ := Aside0.mk (below_step (by repeat (with_reducible first | exact HB.out | apply below_alloc | apply pw_below_drewN | apply below_drew1 | refine below_set ?_ GE286.out)) hb); clear BK286; clear HB; have BK286 := n0_; have HB := n1_; clear n0_ n1_; (try clear hb); (try clear hb2); (try clear hk); (try clear hi)) | (go_at_call 12; (with_reducible refine (corebanklaw41_live.calls k2  t293 _ A83.out).mono ?_); rintro e w86 ⟨rfl, hb⟩; have n0_ := Aside0.mk (blk_below (g := gb286) (by (with_reducible repeat (first | refine blk_drewN ?_ _ | refine blk_drew ?_ | refine blk_alloc ?_ _)); exact BK286.out) hb); have n1_ := Aside0.mk (below_step (by repeat (with_reducible first | exact HB.out | apply below_alloc | apply pw_below_drewN | apply below_drew1 | refine below_set ?_ GE286.out)) hb); clear BK286; clear HB; have BK286 := n0_; have HB := n1_; clear n0_ n1_; (try clear hb); (try clear hb2); (try clear hk); (try clear hi)))
         go_meet
         case rel => exact ⟨_, (t293), (by first | rfl | (simp [*]; done)), H', ⟨by have := HJ2.out; have := HK2.out; first | omega | exact Nat.le_refl _⟩, ⟨by (with_reducible repeat (first | refine blk_drewN ?_ _ | refine blk_drew ?_ | refine blk_alloc ?_ _)); exact BK286.out⟩, ⟨by repeat (with_reducible first | exact HB.out | apply below_alloc | apply pw_below_drewN | apply below_drew1 | refine below_set ?_ GE286.out)⟩⟩
        ·rw [if_neg c82] at H
         have c82b0 : ((t292 == 0) == x5_2) = false := by simpa using c82
         (try (have c82b1 : decide ((t292 == 0) = x5_2) = false := by revert c82; generalize ((t292 == 0)) = p_; generalize (x5_2) = q_; cases p_ <;> cases q_ <;> simp))
         (try (have c82b2 : ((t292 == 0) == x5_2) = false := by revert c82; generalize ((t292 == 0)) = p_; generalize (x5_2) = q_; cases p_ <;> cases q_ <;> simp))
         (try (have c82b3 : ¬ ((t292 == 0) = x5_2) := by revert c82; generalize ((t292 == 0)) = p_; generalize (x5_2) = q_; cases p_ <;> cases q_ <;> simp))
         clear c82
         (first | rw [c82b0] | (simp only [i64_w, i32_w]; rw [c82b0]) | skip)
         have H' := Aside0.mk H
         clear H
         have hcz87 := blk_cell BK286.out
         have hfz87 := blk_frozen BK286.out
         go_wp2_with (first | ((with_reducible refine gate_callee (f := 22) rfl ?_); refine goesL_ (some 111) rfl rfl Try.func22 (by kernel_rfl) rfl #[.slice A0 l0.length c0, .int .i64 a1_0, .int .i64 a1_1, .int .i64 a1_2] rfl (by (try simp only [List.map_toArray, List.map_cons, List.map_nil]); first | done | rfl | (simp only [List.length_drop, List.length_take]; rfl)) ?_; (with_reducible refine (mandate_Allows.calls k2 _ _ l0 a1_0 a1_1 a1_2 t292 _ ?side1 ?side2 A81.out).mono ?_); (case side1 => repeat (first | exact (Kd.C_below HR0.out HB.out) | (with_reducible refine Kd.C_alloc ?_ _) | (with_reducible refine Kd.C_drewN ?_ _) | (with_reducible refine Kd.C_drew ?_))); (case side2 => exact HC0.out); rintro e w88 ⟨rfl, hb⟩; refine ⟨_, rfl, ?_⟩; have n0_ := Aside0.mk (blk_below (g := gb286) (by (with_reducible repeat (first | refine blk_drewN ?_ _ | refine blk_drew ?_ | refine blk_alloc ?_ _)); exact BK286.out) hb); have n1_ := Aside0.mk (below_step (by repeat (with_reducible first | exact HB.out | apply below_alloc | apply pw_below_drewN | apply below_drew1 | refine below_set ?_ GE286.out)) hb); clear BK286; clear HB; have BK286 := n0_; have HB := n1_; clear n0_ n1_; (try clear hb); (try clear hb2); (try clear hk); (try clear hi)))
         go_meet
         case rel => exact ⟨_, (false), (by first | rfl | (simp [*]; done)), H', ⟨by have := HJ2.out; have := HK2.out; first | omega | exact Nat.le_refl _⟩, ⟨by (with_reducible repeat (first | refine blk_drewN ?_ _ | refine blk_drew ?_ | refine blk_alloc ?_ _)); exact BK286.out⟩, ⟨by repeat (with_reducible first | exact HB.out | apply below_alloc | apply pw_below_drewN | apply below_drew1 | refine below_set ?_ GE286.out)⟩⟩
       case rest =>
        clear HC80
        try clear c1
        try clear c2
        try clear p2
        try clear q2
        try clear hx2
        try clear c3
        try clear c4
        try clear c5
        try clear c6
        try clear p6
        try clear c7
        try clear c8
        try clear c8b0
        try clear c8b1
        try clear c9
        try clear c9b0
        try clear c12
        try clear c15
        try clear c18
        try clear c18b0
        try clear c20
        try clear c20b0
        try clear c22
        try clear c23
        try clear c25
        try clear c25b0
        try clear c26
        try clear c26b0
        try clear c26b1
        try clear c27
        try clear p29
        try clear q29
        try clear hx29
        try clear c30
        try clear c30b0
        try clear c31
        try clear c34
        try clear c37
        try clear c37b0
        try clear c38
        try clear c41
        try clear c44
        try clear c45
        try clear c45b0
        try clear c45b1
        try clear c46
        try clear c46b0
        try clear c47
        try clear c47b0
        try clear c47b1
        try clear c48
        try clear c49
        try clear c49b0
        try clear c49b1
        try clear c50
        try clear c53
        try clear c56
        try clear c59
        try clear c59b0
        try clear c60
        try clear c61
        try clear c61b0
        try clear c61b1
        try clear c62
        try clear p64
        try clear c65
        try clear c68
        try clear c71
        try clear c74
        try clear c77
        try clear c82
        try clear c82b0
        try clear c82b1
        try clear c82b2
        try clear hcz11
        try clear hcz13
        try clear hcz24
        try clear hcz28
        try clear hcz29
        try clear hcz32
        try clear hcz33
        try clear hcz35
        try clear hcz36
        try clear hcz39
        try clear hcz40
        try clear hcz42
        try clear hcz43
        try clear hcz51
        try clear hcz52
        try clear hcz54
        try clear hcz55
        try clear hcz57
        try clear hcz58
        try clear hcz63
        try clear hcz64
        try clear hcz66
        try clear hcz67
        try clear hcz69
        try clear hcz70
        try clear hcz72
        try clear hcz73
        try clear hcz75
        try clear hcz76
        try clear hcz78
        try clear hcz79
        try clear hcz84
        try clear hcz87
        try clear hfz11
        try clear hfz13
        try clear hfz24
        try clear hfz28
        try clear hfz29
        try clear hfz32
        try clear hfz33
        try clear hfz35
        try clear hfz36
        try clear hfz39
        try clear hfz40
        try clear hfz42
        try clear hfz43
        try clear hfz51
        try clear hfz52
        try clear hfz54
        try clear hfz55
        try clear hfz57
        try clear hfz58
        try clear hfz63
        try clear hfz64
        try clear hfz66
        try clear hfz67
        try clear hfz69
        try clear hfz70
        try clear hfz72
        try clear hfz73
        try clear hfz75
        try clear hfz76
        try clear hfz78
        try clear hfz79
        try clear hfz84
        try clear hfz87
        try clear hx290_0
        try clear hx290_1
        try clear hx290_2
        try clear hx290_3
        try clear hx290_4
        try clear hx290_5
        try clear hx290_6
        try clear p2
        try clear p29
        try clear p290
        try clear p6
        try clear p64
        try clear q2
        try clear q29
        try clear q290
        obtain ⟨kq, x4_79, rfl, HA, HJ79, BK286, HB⟩ := hcut
        cases kq with
        | zero => exact absurd HA.out (by simp [LG.j4])
        | succ kj79 =>
         have H := HA.out
         clear HA
         simp only [LG.j4] at H
         obtain rfl := Option.some.inj H
         go_wp2
         go_ret
         exact ⟨by first | rfl | (simp [errW_none, errW_some] <;> rfl) | (simp [*, errW_none, errW_some] <;> rfl), by repeat (with_reducible first | exact HB.out | apply below_alloc | apply pw_below_drewN | apply below_drew1 | refine below_set ?_ GE286.out)⟩

end Go.Proofs.Ytfgcachcbhkkoaa.X
