-- Written by program (wip/tools/xprint.sh) for this seat; not trusted: Lean checks it.
import Derived.Test.YtfdjgdjmllkdcaaDoorX0
import Derived.Test.YtfdjgdjmllkdcaaDoorWRepsOne
import Derived.Test.YtfdjgdjmllkdcaaDoorX1
import Derived.Test.YtfdjgdjmllkdcaaDoorX3
import Derived.Test.YtfdjgdjmllkdcaaDoorX6
import Derived.Test.YtfdjgdjmllkdcaaDoorX9
import Derived.Test.YtfdjgdjmllkdcaaDoorX10
import Derived.Test.YtfdjgdjmllkdcaaDoorX13
import Derived.Test.YtfdjgdjmllkdcaaDoorX14
namespace Go.Proofs.YtfdjgdjmllkdcaaDoor.X
open Go.RowKit Go.Proofs.YtfdjgdjmllkdcaaDoorW.PrintWords Go.Proofs.YtfdjgdjmllkdcaaDoorW.PrintLast Go.Proofs.YtfdjgdjmllkdcaaDoorW.PrintMore
attribute [local go_sem] max2_int min2_int   -- for this text's walks alone
set_option linter.unusedVariables false
set_option linter.unusedSimpArgs false

/-! ### corebanklaw42_lives: function 11 -/
def corebanklaw42_lives.j0 : Nat → List (S36) → Bool → Option (Bool)
  | 0, _, _ => none
  | k + 1, x2, x37 => if x37 = true then (none) else ((collect_Settle.f k x2 6 100 0).bind fun bt161 => ((collect_Return.f k bt161.1 6 1 105).bind fun bt165 => ((collect_Return.f k bt161.1 6 1 106).bind fun bt169 => ((collect_Settle.f k x2 6 100 19).bind fun bt173 => (if bt161.2 = 0 then (if bt165.2 = 0 then (if bt169.2 = 23 then (if bt173.2 = 0 then (if (bt165.1.length : Int) = 1 then (if 0 < (bt165.1.length : Int) then (if ((rd_T36 bt165.1 0).f7) = 3 then (if (bt173.1.length : Int) = 1 then (if 0 < (bt173.1.length : Int) then (if ((rd_T36 bt173.1 0).f6) = 2 then ((collect_Window.f 4).bind fun t179 => (some (t179 == 56))) else (none)) else (none)) else (none)) else (none)) else (none)) else (none)) else (none)) else (none)) else (none)) else (none))))))
def corebanklaw42_lives.f (k : Nat)  : Option (Bool) := (collect_Present.f k ([] : List (S36)) (([(⟨5, 1000, 0, 1, 0, 0, (⟨#[115, 104, 111, 112]⟩ : ByteArray)⟩ : S53)] : List (S53))) 6 5 70 100 0 0 0 1 (⟨#[107]⟩ : ByteArray) 99).bind fun bt153 => (if bt153.2 = 0 then (if (bt153.1.length : Int) = 1 then ((collect_Due.f k bt153.1 100).bind fun t157 => (if (t157.length : Int) = 1 then ((collect_Check.f k bt153.1).bind fun t160 => (corebanklaw42_lives.j0 k bt153.1 (t160 != 0))) else (corebanklaw42_lives.j0 k bt153.1 true))) else (corebanklaw42_lives.j0 k bt153.1 true)) else (corebanklaw42_lives.j0 k bt153.1 true))
theorem corebanklaw42_lives.mono_l : ∀ k, (∀ y0 y1, LeO (corebanklaw42_lives.j0 k y0 y1) (corebanklaw42_lives.j0 (k + 1) y0 y1))
  | 0 => fun _ _ r h => by simp [corebanklaw42_lives.j0] at h
  | k + 1 => by
    have ih0 := corebanklaw42_lives.mono_l k
    · intro y0 y1
      unfold corebanklaw42_lives.j0
      repeat' first
      | (with_reducible exact ih0 _ _)
      | (with_reducible exact collect_Check.mono _ _)
      | (with_reducible exact collect_Due.mono _ _ _)
      | (with_reducible exact collect_Present.mono _ _ _ _ _ _ _ _ _ _ _ _ _)
      | (with_reducible exact collect_Return.mono _ _ _ _ _)
      | (with_reducible exact collect_Settle.mono _ _ _ _ _)
      | (with_reducible exact LeO.refl _)
      | (with_reducible exact LeO.none _)
      | (with_reducible refine LeO.ite ?_ ?_)
      | (with_reducible refine LeO.bind ?_ (fun _ => ?_))
      | exact ih0 _ _
      | exact collect_Check.mono _ _
      | exact collect_Due.mono _ _ _
      | exact collect_Present.mono _ _ _ _ _ _ _ _ _ _ _ _ _
      | exact collect_Return.mono _ _ _ _ _
      | exact collect_Settle.mono _ _ _ _ _
      | exact LeO.none _
      | refine LeO.ite ?_ ?_
      | refine LeO.bind ?_ (fun _ => ?_)
theorem corebanklaw42_lives.mono : ∀ k, LeO (corebanklaw42_lives.f k ) (corebanklaw42_lives.f (k + 1) ) := by
  intro  k
  have ih0 := corebanklaw42_lives.mono_l k
  unfold corebanklaw42_lives.f
  repeat' first
      | (with_reducible exact ih0 _ _)
      | (with_reducible exact collect_Check.mono _ _)
      | (with_reducible exact collect_Due.mono _ _ _)
      | (with_reducible exact collect_Present.mono _ _ _ _ _ _ _ _ _ _ _ _ _)
      | (with_reducible exact collect_Return.mono _ _ _ _ _)
      | (with_reducible exact collect_Settle.mono _ _ _ _ _)
      | (with_reducible exact LeO.refl _)
      | (with_reducible exact LeO.none _)
      | (with_reducible refine LeO.ite ?_ ?_)
      | (with_reducible refine LeO.bind ?_ (fun _ => ?_))
      | exact ih0 _ _
      | exact collect_Check.mono _ _
      | exact collect_Due.mono _ _ _
      | exact collect_Present.mono _ _ _ _ _ _ _ _ _ _ _ _ _
      | exact collect_Return.mono _ _ _ _ _
      | exact collect_Settle.mono _ _ _ _ _
      | exact LeO.none _
      | refine LeO.ite ?_ ?_
      | refine LeO.bind ?_ (fun _ => ?_)
set_option maxHeartbeats 8000000 in
set_option maxRecDepth 100000 in
theorem corebanklaw42_lives.calls (k : Nat)  (r : Bool) (w : World) (hV : VarOK w) (h : corebanklaw42_lives.f k  = some r) :
  Calls Tryd.prog 11 #[] w fun e w' => e = .returned (.bool r) ∧ Below w.heap.size w w' := by
 have HV := Aside0.mk hV
 clear hV
 have hu53 := Tryd.underlying53
 have hu36 := Tryd.underlying36
 have HB := Aside0.mk (Below.refl w.heap.size w)
 have H : ((collect_Present.f k ([] : List (S36)) (([(⟨5, 1000, 0, 1, 0, 0, (⟨#[115, 104, 111, 112]⟩ : ByteArray)⟩ : S53)] : List (S53))) 6 5 70 100 0 0 0 1 (⟨#[107]⟩ : ByteArray) 99).bind fun bt153 => (if bt153.2 = 0 then (if (bt153.1.length : Int) = 1 then ((collect_Due.f k bt153.1 100).bind fun t157 => (if (t157.length : Int) = 1 then ((collect_Check.f k bt153.1).bind fun t160 => (corebanklaw42_lives.j0 k bt153.1 (t160 != 0))) else (corebanklaw42_lives.j0 k bt153.1 true))) else (corebanklaw42_lives.j0 k bt153.1 true)) else (corebanklaw42_lives.j0 k bt153.1 true))) = some r := h
 clear h
 obtain ⟨y150, hy150⟩ : ∃ y_ : List (S53), y_ = (([(⟨5, 1000, 0, 1, 0, 0, (⟨#[115, 104, 111, 112]⟩ : ByteArray)⟩ : S53)] : List (S53))) := ⟨_, rfl⟩
 replace H : ((collect_Present.f k ([] : List (S36)) y150 6 5 70 100 0 0 0 1 (⟨#[107]⟩ : ByteArray) 99).bind fun bt153 => (if bt153.2 = 0 then (if (bt153.1.length : Int) = 1 then ((collect_Due.f k bt153.1 100).bind fun t157 => (if (t157.length : Int) = 1 then ((collect_Check.f k bt153.1).bind fun t160 => (corebanklaw42_lives.j0 k bt153.1 (t160 != 0))) else (corebanklaw42_lives.j0 k bt153.1 true))) else (corebanklaw42_lives.j0 k bt153.1 true)) else (corebanklaw42_lives.j0 k bt153.1 true))) = some r := by first | (rw [hy150]; with_reducible exact H) | (have H2_ := (Option.bind_some _ _).symm.trans H; rw [hy150]; with_reducible exact H2_) | (have H2_ := (Option.bind_some _ _).symm.trans H; with_reducible exact H2_) | with_reducible exact H | (rw [hy150]; exact H) | exact H
 have Ny150 := Aside0.mk hy150
 clear hy150
 replace H := Option.bind_eq_some_iff.mp H
 obtain ⟨⟨t153, t156⟩, A10, H⟩ := H
 replace H : (if t156 = 0 then (if (t153.length : Int) = 1 then ((collect_Due.f k t153 100).bind fun t157 => (if (t157.length : Int) = 1 then ((collect_Check.f k t153).bind fun t160 => (corebanklaw42_lives.j0 k t153 (t160 != 0))) else (corebanklaw42_lives.j0 k t153 true))) else (corebanklaw42_lives.j0 k t153 true)) else (corebanklaw42_lives.j0 k t153 true)) = some r := H
 have A1 := Aside0.mk A10
 clear A10
 have HC2 := Aside0.mk H
 clear H
 go_enter Tryd.func11, Tryd.ntmps11
 go_upto_region 3 with (first | ((with_reducible refine gate_dst (N := 13) rfl ?_); (try (refine gate_guard (by rfl) ?_; dsimp only)); refine Kd.R_lit k53 _ 53 ?hg (N := 13) ?hd (xs := ([(⟨5, 1000, 0, 1, 0, 0, (⟨#[115, 104, 111, 112]⟩ : ByteArray)⟩ : S53)] : List (S53))) (inner := [.int .i64 5, .int .i64 1000, .int .i64 0, .int .i64 1, .int .i64 0, .int .i64 0, .string (⟨#[115, 104, 111, 112]⟩ : ByteArray)]) (ok := fun _ => True) (okp := fun _ => True) ?hr ?hp (fun _ hk => hk) trivial (Below.refl _ _) (Nat.le_refl _) (by simp) ?_; (case hd => rfl); (case hg => rfl); (case hr => first | (go_simp; done) | (go_simp; rfl)); (case hp => exact (Reps.c7 (show Kd.M k53 _ _ _ (⟨5, 1000, 0, 1, 0, 0, (⟨#[115, 104, 111, 112]⟩ : ByteArray)⟩ : S53) [.int .i64 5, .int .i64 1000, .int .i64 0, .int .i64 1, .int .i64 0, .int .i64 0, .string (⟨#[115, 104, 111, 112]⟩ : ByteArray)] from (k53_mkM _ _ _ (⟨5, 1000, 0, 1, 0, 0, (⟨#[115, 104, 111, 112]⟩ : ByteArray)⟩ : S53) )) (Reps.none _ _))); intro v151 w3 ho4 hb hg_ hnew_; clear hg_ hnew_; (first | rw [← Ny150.out] at ho4 | (simp only [Int.reduceToNat] at ho4; rw [← Ny150.out] at ho4)); have n0_ := Aside0.mk (Kd.R_lower ho4 (below_size (by repeat (with_reducible first | exact HB.out | apply below_alloc | apply pw_below_drewN | apply below_drew1)))); have n1_ := Aside0.mk (below_step (by repeat (with_reducible first | exact HB.out | apply below_alloc | apply pw_below_drewN | apply below_drew1)) hb); clear HB; have HO152 := n0_; have HB := n1_; clear n0_ n1_; clear hb ho4; obtain ⟨Ao5, co5, eo5⟩ := Kd.R_slice HO152.out; subst eo5) | ((with_reducible refine gate_callee (f := 15) rfl ?_); refine goesL_ (some 17) rfl rfl Tryd.func15 (by kernel_rfl) rfl #[.slice none 0 0, .slice Ao5 y150.length co5, .agg #[.int .i64 6, .int .i64 5, .int .i64 70, .int .i64 100, .int .i64 0, .int .i64 0, .int .i64 0, .int .i64 1, .string (⟨#[107]⟩ : ByteArray)], .int .i64 99] rfl (by (try simp only [List.map_toArray, List.map_cons, List.map_nil]); first | done | rfl | (simp only [List.length_drop, List.length_take]; rfl)) ?_; (refine (collect_Present.calls k _ _ ([] : List (S36)) _ _ y150 6 5 70 100 0 0 0 1 (⟨#[107]⟩ : ByteArray) 99 t153 t156 _ ?side1 ?side2 ?side3 ?side4 A1.out).mono ?_); (case side1 => exact Kd.C_nil _ _); (case side2 => exact Nat.le_refl _); (case side3 => repeat (first | exact (Kd.R_reads' HO152.out).2.2 | (with_reducible refine Kd.C_alloc ?_ _) | (with_reducible refine Kd.C_drewN ?_ _) | (with_reducible refine Kd.C_drew ?_))); (case side4 => exact (Kd.R_reads' HO152.out).2.1); rintro e w6 ⟨v154, rfl, ho0, hb⟩; refine ⟨_, rfl, ?_⟩; have n0_ := Aside0.mk (Kd.R_below (by (with_reducible repeat (first | apply Kd.R_alloc | apply Kd.R_drewN | apply Kd.R_drew)); exact HO152.out) hb); have n1_ := Aside0.mk (Kd.R_lower ho0 (below_size (by repeat (with_reducible first | exact HB.out | apply below_alloc | apply pw_below_drewN | apply below_drew1)))); have n2_ := Aside0.mk (below_step (by repeat (with_reducible first | exact HB.out | apply below_alloc | apply pw_below_drewN | apply below_drew1)) hb); clear HO152; clear HB; have HO152 := n0_; have HO155 := n1_; have HB := n2_; clear n0_ n1_ n2_; (try clear hb); (try clear hb2); (try clear hk); (try clear hi); (try clear ho0)))
 (try simp only [Act.put, List.setIfInBounds_toArray, List.set_cons_zero, List.set_cons_succ])
 go_cut [37] (fun v37 wc => ∃ (kq : Nat) (x37_1 : Bool), v37 = .bool x37_1 ∧ Aside0 (corebanklaw42_lives.j0 kq t153 x37_1 = some r) ∧ Aside0 (kq ≤ k) ∧ Aside0 (Kd.R k36 36 wc w.heap.size (fun _ => True) v154 t153) ∧ Aside0 (Below w.heap.size w wc))
 case first =>
  have H := HC2.out
  clear HC2
  by_cases c7 : t156 = 0
  ·rw [if_pos c7] at H
   have c7b0 : (t156 == 0) = true := beq_iff_eq.mpr c7
   have c7b1 : (t156 != 0) = false := bne_eq_false_iff_eq.mpr c7
   clear c7
   (first | rw [c7b0] | (simp only [i64_w, i32_w]; rw [c7b0]) | skip)
   by_cases c8 : (t153.length : Int) = 1
   ·rw [if_pos c8] at H
    have c8b0 : ((t153.length : Int) == 1) = true := beq_iff_eq.mpr c8
    have c8b1 : ((t153.length : Int) != 1) = false := bne_eq_false_iff_eq.mpr c8
    clear c8
    replace H := Option.bind_eq_some_iff.mp H
    obtain ⟨t157, A90, H⟩ := H
    replace H : (if (t157.length : Int) = 1 then ((collect_Check.f k t153).bind fun t160 => (corebanklaw42_lives.j0 k t153 (t160 != 0))) else (corebanklaw42_lives.j0 k t153 true)) = some r := H
    have A9 := Aside0.mk A90
    clear A90
    by_cases c10 : (t157.length : Int) = 1
    ·rw [if_pos c10] at H
     have c10b0 : ((t157.length : Int) == 1) = true := beq_iff_eq.mpr c10
     have c10b1 : ((t157.length : Int) != 1) = false := bne_eq_false_iff_eq.mpr c10
     clear c10
     replace H := Option.bind_eq_some_iff.mp H
     obtain ⟨t160, A110, H⟩ := H
     replace H : (corebanklaw42_lives.j0 k t153 (t160 != 0)) = some r := H
     have A11 := Aside0.mk A110
     clear A110
     have H' := Aside0.mk H
     clear H
     obtain ⟨Ao12, co12, eo12⟩ := Kd.R_slice HO155.out
     subst eo12
     go_wp2_with (first | (go_at_call 17; (with_reducible refine (collect_Due.calls k _ _ t153 100 t157 _ ?side1 ?side2 A9.out).mono ?_); (case side1 => repeat (first | exact (Kd.R_reads' HO155.out).2.2 | (with_reducible refine Kd.C_alloc ?_ _) | (with_reducible refine Kd.C_drewN ?_ _) | (with_reducible refine Kd.C_drew ?_))); (case side2 => exact (Kd.R_reads' HO155.out).2.1); rintro e w13 ⟨v158, rfl, ho0, hb⟩; have n0_ := Aside0.mk (Kd.R_below (by (with_reducible repeat (first | apply Kd.R_alloc | apply Kd.R_drewN | apply Kd.R_drew)); exact HO152.out) hb); have n1_ := Aside0.mk (Kd.R_elder' (by (with_reducible repeat (first | apply Kd.R_alloc | apply Kd.R_drewN | apply Kd.R_drew)); exact HO155.out) (Kd.R_base ho0) hb); have n2_ := Aside0.mk (Kd.R_lower (Kd.R_new' ho0 (Kd.R_lt (by (with_reducible repeat (first | apply Kd.R_alloc | apply Kd.R_drewN | apply Kd.R_drew)); exact HO155.out))) (below_size (by repeat (with_reducible first | exact HB.out | apply below_alloc | apply pw_below_drewN | apply below_drew1)))); have n3_ := Aside0.mk (below_step (by repeat (with_reducible first | exact HB.out | apply below_alloc | apply pw_below_drewN | apply below_drew1)) hb); clear HO152; clear HO155; clear HB; have HO152 := n0_; have HO155 := n1_; have HO159 := n2_; have HB := n3_; clear n0_ n1_ n2_ n3_; (try clear hb); (try clear hb2); (try clear hk); (try clear hi); (try clear ho0); obtain ⟨Ao14, co14, eo14⟩ := Kd.R_slice HO159.out; subst eo14) | (go_at_call 10; (with_reducible refine (collect_Check.calls k _ _ t153 t160 _ ?sideV ?side1 ?side2 A11.out).mono ?_); (case sideV => exact VarOK.below HV.out (by repeat (with_reducible first | exact HB.out | apply below_alloc | apply pw_below_drewN | apply below_drew1))); (case side1 => repeat (first | exact (Kd.R_reads' HO155.out).2.2 | (with_reducible refine Kd.C_alloc ?_ _) | (with_reducible refine Kd.C_drewN ?_ _) | (with_reducible refine Kd.C_drew ?_))); (case side2 => exact (Kd.R_reads' HO155.out).2.1); rintro e w15 ⟨rfl, hb⟩; have n0_ := Aside0.mk (Kd.R_below (by (with_reducible repeat (first | apply Kd.R_alloc | apply Kd.R_drewN | apply Kd.R_drew)); exact HO152.out) hb); have n1_ := Aside0.mk (Kd.R_below (by (with_reducible repeat (first | apply Kd.R_alloc | apply Kd.R_drewN | apply Kd.R_drew)); exact HO155.out) hb); have n2_ := Aside0.mk (Kd.R_below (by (with_reducible repeat (first | apply Kd.R_alloc | apply Kd.R_drewN | apply Kd.R_drew)); exact HO159.out) hb); have n3_ := Aside0.mk (below_step (by repeat (with_reducible first | exact HB.out | apply below_alloc | apply pw_below_drewN | apply below_drew1)) hb); clear HO152; clear HO155; clear HO159; clear HB; have HO152 := n0_; have HO155 := n1_; have HO159 := n2_; have HB := n3_; clear n0_ n1_ n2_ n3_; (try clear hb); (try clear hb2); (try clear hk); (try clear hi)))
     go_meet
     case rel => exact ⟨_, ((t160 != 0)), (by first | rfl | (simp [*]; done)), H', ⟨by first | omega | exact Nat.le_refl _⟩, ⟨by (with_reducible repeat (first | apply Kd.R_alloc | apply Kd.R_drewN | apply Kd.R_drew)); exact Kd.R_mono HO155.out (fun _ hk => trivial)⟩, ⟨by repeat (with_reducible first | exact HB.out | apply below_alloc | apply pw_below_drewN | apply below_drew1)⟩⟩
    ·rw [if_neg c10] at H
     have c10b0 : ((t157.length : Int) == 1) = false := beq_eq_false_iff_ne.mpr c10
     have c10b1 : ((t157.length : Int) != 1) = true := bne_iff_ne.mpr c10
     have H' := Aside0.mk H
     clear H
     obtain ⟨Ao16, co16, eo16⟩ := Kd.R_slice HO155.out
     subst eo16
     go_wp2_with (first | (go_at_call 17; (with_reducible refine (collect_Due.calls k _ _ t153 100 t157 _ ?side1 ?side2 A9.out).mono ?_); (case side1 => repeat (first | exact (Kd.R_reads' HO155.out).2.2 | (with_reducible refine Kd.C_alloc ?_ _) | (with_reducible refine Kd.C_drewN ?_ _) | (with_reducible refine Kd.C_drew ?_))); (case side2 => exact (Kd.R_reads' HO155.out).2.1); rintro e w17 ⟨v158, rfl, ho0, hb⟩; have n0_ := Aside0.mk (Kd.R_below (by (with_reducible repeat (first | apply Kd.R_alloc | apply Kd.R_drewN | apply Kd.R_drew)); exact HO152.out) hb); have n1_ := Aside0.mk (Kd.R_elder' (by (with_reducible repeat (first | apply Kd.R_alloc | apply Kd.R_drewN | apply Kd.R_drew)); exact HO155.out) (Kd.R_base ho0) hb); have n2_ := Aside0.mk (Kd.R_lower (Kd.R_new' ho0 (Kd.R_lt (by (with_reducible repeat (first | apply Kd.R_alloc | apply Kd.R_drewN | apply Kd.R_drew)); exact HO155.out))) (below_size (by repeat (with_reducible first | exact HB.out | apply below_alloc | apply pw_below_drewN | apply below_drew1)))); have n3_ := Aside0.mk (below_step (by repeat (with_reducible first | exact HB.out | apply below_alloc | apply pw_below_drewN | apply below_drew1)) hb); clear HO152; clear HO155; clear HB; have HO152 := n0_; have HO155 := n1_; have HO159 := n2_; have HB := n3_; clear n0_ n1_ n2_ n3_; (try clear hb); (try clear hb2); (try clear hk); (try clear hi); (try clear ho0); obtain ⟨Ao18, co18, eo18⟩ := Kd.R_slice HO159.out; subst eo18))
     go_meet
     case rel => exact ⟨_, (true), (by first | rfl | (simp [*]; done)), H', ⟨by first | omega | exact Nat.le_refl _⟩, ⟨by (with_reducible repeat (first | apply Kd.R_alloc | apply Kd.R_drewN | apply Kd.R_drew)); exact Kd.R_mono HO155.out (fun _ hk => trivial)⟩, ⟨by repeat (with_reducible first | exact HB.out | apply below_alloc | apply pw_below_drewN | apply below_drew1)⟩⟩
   ·rw [if_neg c8] at H
    have c8b0 : ((t153.length : Int) == 1) = false := beq_eq_false_iff_ne.mpr c8
    have c8b1 : ((t153.length : Int) != 1) = true := bne_iff_ne.mpr c8
    have H' := Aside0.mk H
    clear H
    obtain ⟨Ao19, co19, eo19⟩ := Kd.R_slice HO155.out
    subst eo19
    go_wp2
    go_meet
    case rel => exact ⟨_, (true), (by first | rfl | (simp [*]; done)), H', ⟨by first | omega | exact Nat.le_refl _⟩, ⟨by (with_reducible repeat (first | apply Kd.R_alloc | apply Kd.R_drewN | apply Kd.R_drew)); exact HO155.out⟩, ⟨by repeat (with_reducible first | exact HB.out | apply below_alloc | apply pw_below_drewN | apply below_drew1)⟩⟩
  ·rw [if_neg c7] at H
   have c7b0 : (t156 == 0) = false := beq_eq_false_iff_ne.mpr c7
   have c7b1 : (t156 != 0) = true := bne_iff_ne.mpr c7
   (first | rw [c7b0] | (simp only [i64_w, i32_w]; rw [c7b0]) | skip)
   have H' := Aside0.mk H
   clear H
   go_wp2
   go_meet
   case rel => exact ⟨_, (true), (by first | rfl | (simp [*]; done)), H', ⟨by first | omega | exact Nat.le_refl _⟩, ⟨by (with_reducible repeat (first | apply Kd.R_alloc | apply Kd.R_drewN | apply Kd.R_drew)); exact HO155.out⟩, ⟨by repeat (with_reducible first | exact HB.out | apply below_alloc | apply pw_below_drewN | apply below_drew1)⟩⟩
 case rest =>
  clear HC2
  try clear c1
  try clear p2
  try clear c7
  try clear c7b0
  try clear c7b1
  try clear c8
  try clear c8b0
  try clear c8b1
  try clear c10
  try clear c10b0
  try clear c10b1
  try clear c11
  try clear c15
  obtain ⟨kq, x37_1, rfl, HA, HJ1, HO_2, HB⟩ := hcut
  cases kq with
  | zero => exact absurd HA.out (by simp [corebanklaw42_lives.j0])
  | succ kj1 =>
   have H := HA.out
   clear HA
   simp only [corebanklaw42_lives.j0] at H
   by_cases c20 : x37_1 = true
   ·subst c20
    have H1 : (none) = some r := by rw [if_pos rfl] at H; exact H
    clear H
    have H := H1
    clear H1
    exact absurd H (by simp)
   ·replace c20 := Bool.eq_false_iff.mpr c20
    subst c20
    have H1 : ((collect_Settle.f kj1 t153 6 100 0).bind fun bt161 => ((collect_Return.f kj1 bt161.1 6 1 105).bind fun bt165 => ((collect_Return.f kj1 bt161.1 6 1 106).bind fun bt169 => ((collect_Settle.f kj1 t153 6 100 19).bind fun bt173 => (if bt161.2 = 0 then (if bt165.2 = 0 then (if bt169.2 = 23 then (if bt173.2 = 0 then (if (bt165.1.length : Int) = 1 then (if 0 < (bt165.1.length : Int) then (if ((rd_T36 bt165.1 0).f7) = 3 then (if (bt173.1.length : Int) = 1 then (if 0 < (bt173.1.length : Int) then (if ((rd_T36 bt173.1 0).f6) = 2 then ((collect_Window.f 4).bind fun t179 => (some (t179 == 56))) else (none)) else (none)) else (none)) else (none)) else (none)) else (none)) else (none)) else (none)) else (none)) else (none)))))) = some r := by rw [if_neg (show ¬ (false = true) by decide)] at H; exact H
    clear H
    have H := H1
    clear H1
    replace H := Option.bind_eq_some_iff.mp H
    obtain ⟨⟨t161, t162⟩, A210, H⟩ := H
    replace H : ((collect_Return.f kj1 t161 6 1 105).bind fun bt165 => ((collect_Return.f kj1 t161 6 1 106).bind fun bt169 => ((collect_Settle.f kj1 t153 6 100 19).bind fun bt173 => (if t162 = 0 then (if bt165.2 = 0 then (if bt169.2 = 23 then (if bt173.2 = 0 then (if (bt165.1.length : Int) = 1 then (if 0 < (bt165.1.length : Int) then (if ((rd_T36 bt165.1 0).f7) = 3 then (if (bt173.1.length : Int) = 1 then (if 0 < (bt173.1.length : Int) then (if ((rd_T36 bt173.1 0).f6) = 2 then ((collect_Window.f 4).bind fun t179 => (some (t179 == 56))) else (none)) else (none)) else (none)) else (none)) else (none)) else (none)) else (none)) else (none)) else (none)) else (none))))) = some r := H
    have A21 := Aside0.mk A210
    clear A210
    replace H := Option.bind_eq_some_iff.mp H
    obtain ⟨⟨t165, t166⟩, A220, H⟩ := H
    replace H : ((collect_Return.f kj1 t161 6 1 106).bind fun bt169 => ((collect_Settle.f kj1 t153 6 100 19).bind fun bt173 => (if t162 = 0 then (if t166 = 0 then (if bt169.2 = 23 then (if bt173.2 = 0 then (if (t165.length : Int) = 1 then (if 0 < (t165.length : Int) then (if ((rd_T36 t165 0).f7) = 3 then (if (bt173.1.length : Int) = 1 then (if 0 < (bt173.1.length : Int) then (if ((rd_T36 bt173.1 0).f6) = 2 then ((collect_Window.f 4).bind fun t179 => (some (t179 == 56))) else (none)) else (none)) else (none)) else (none)) else (none)) else (none)) else (none)) else (none)) else (none)) else (none)))) = some r := H
    have A22 := Aside0.mk A220
    clear A220
    replace H := Option.bind_eq_some_iff.mp H
    obtain ⟨⟨t169, t170⟩, A230, H⟩ := H
    replace H : ((collect_Settle.f kj1 t153 6 100 19).bind fun bt173 => (if t162 = 0 then (if t166 = 0 then (if t170 = 23 then (if bt173.2 = 0 then (if (t165.length : Int) = 1 then (if 0 < (t165.length : Int) then (if ((rd_T36 t165 0).f7) = 3 then (if (bt173.1.length : Int) = 1 then (if 0 < (bt173.1.length : Int) then (if ((rd_T36 bt173.1 0).f6) = 2 then ((collect_Window.f 4).bind fun t179 => (some (t179 == 56))) else (none)) else (none)) else (none)) else (none)) else (none)) else (none)) else (none)) else (none)) else (none)) else (none))) = some r := H
    have A23 := Aside0.mk A230
    clear A230
    replace H := Option.bind_eq_some_iff.mp H
    obtain ⟨⟨t173, t174⟩, A240, H⟩ := H
    replace H : (if t162 = 0 then (if t166 = 0 then (if t170 = 23 then (if t174 = 0 then (if (t165.length : Int) = 1 then (if 0 < (t165.length : Int) then (if ((rd_T36 t165 0).f7) = 3 then (if (t173.length : Int) = 1 then (if 0 < (t173.length : Int) then (if ((rd_T36 t173 0).f6) = 2 then ((collect_Window.f 4).bind fun t179 => (some (t179 == 56))) else (none)) else (none)) else (none)) else (none)) else (none)) else (none)) else (none)) else (none)) else (none)) else (none)) = some r := H
    have A24 := Aside0.mk A240
    clear A240
    by_cases c25 : t162 = 0
    ·rw [if_pos c25] at H
     have c25b0 : (t162 == 0) = true := beq_iff_eq.mpr c25
     have c25b1 : (t162 != 0) = false := bne_eq_false_iff_eq.mpr c25
     clear c25
     by_cases c26 : t166 = 0
     ·rw [if_pos c26] at H
      have c26b0 : (t166 == 0) = true := beq_iff_eq.mpr c26
      have c26b1 : (t166 != 0) = false := bne_eq_false_iff_eq.mpr c26
      clear c26
      by_cases c27 : t170 = 23
      ·rw [if_pos c27] at H
       have c27b0 : (t170 == 23) = true := beq_iff_eq.mpr c27
       have c27b1 : (t170 != 23) = false := bne_eq_false_iff_eq.mpr c27
       clear c27
       by_cases c28 : t174 = 0
       ·rw [if_pos c28] at H
        have c28b0 : (t174 == 0) = true := beq_iff_eq.mpr c28
        have c28b1 : (t174 != 0) = false := bne_eq_false_iff_eq.mpr c28
        clear c28
        by_cases c29 : (t165.length : Int) = 1
        ·rw [if_pos c29] at H
         have c29b0 : ((t165.length : Int) == 1) = true := beq_iff_eq.mpr c29
         have c29b1 : ((t165.length : Int) != 1) = false := bne_eq_false_iff_eq.mpr c29
         clear c29
         by_cases c30 : 0 < (t165.length : Int)
         ·rw [if_pos c30] at H
          have c30b0 : decide (0 < (t165.length : Int)) = true := decide_eq_true c30
          have c30b1 : decide (0 < t165.length) = true := decide_eq_true (by omega)
          clear c30
          by_cases c31 : ((rd_T36 t165 0).f7) = 3
          ·rw [if_pos c31] at H
           have c31b0 : (((rd_T36 t165 0).f7) == 3) = true := beq_iff_eq.mpr c31
           have c31b1 : (((rd_T36 t165 0).f7) != 3) = false := bne_eq_false_iff_eq.mpr c31
           clear c31
           by_cases c32 : (t173.length : Int) = 1
           ·rw [if_pos c32] at H
            have c32b0 : ((t173.length : Int) == 1) = true := beq_iff_eq.mpr c32
            have c32b1 : ((t173.length : Int) != 1) = false := bne_eq_false_iff_eq.mpr c32
            clear c32
            by_cases c33 : 0 < (t173.length : Int)
            ·rw [if_pos c33] at H
             have c33b0 : decide (0 < (t173.length : Int)) = true := decide_eq_true c33
             have c33b1 : decide (0 < t173.length) = true := decide_eq_true (by omega)
             clear c33
             by_cases c34 : ((rd_T36 t173 0).f6) = 2
             ·rw [if_pos c34] at H
              have c34b0 : (((rd_T36 t173 0).f6) == 2) = true := beq_iff_eq.mpr c34
              have c34b1 : (((rd_T36 t173 0).f6) != 2) = false := bne_eq_false_iff_eq.mpr c34
              clear c34
              replace H := Option.bind_eq_some_iff.mp H
              obtain ⟨t179, A350, H⟩ := H
              replace H : (some (t179 == 56)) = some r := H
              have A35 := Aside0.mk A350
              clear A350
              obtain rfl := Option.some.inj H
              obtain ⟨Ao36, co36, eo36⟩ := Kd.R_slice HO_2.out
              subst eo36
              go_wp2_with (first | ((with_reducible refine gate_callee (f := 12) rfl ?_); refine goesL_ (some 40) rfl rfl Tryd.func12 (by kernel_rfl) rfl #[.slice Ao36 t153.length co36, .int .i64 6, .int .i64 100, .int .i64 0] rfl (by (try simp only [List.map_toArray, List.map_cons, List.map_nil]); first | done | rfl | (simp only [List.length_drop, List.length_take]; rfl)) ?_; (with_reducible refine (collect_Settle.calls kj1 _ _ t153 6 100 0 t161 t162 _ ?side1 ?side2 A21.out).mono ?_); (case side1 => repeat (first | exact (Kd.R_reads' HO_2.out).2.2 | (with_reducible refine Kd.C_alloc ?_ _) | (with_reducible refine Kd.C_drewN ?_ _) | (with_reducible refine Kd.C_drew ?_))); (case side2 => exact (Kd.R_reads' HO_2.out).2.1); rintro e w37 ⟨v163, rfl, ho0, hb⟩; refine ⟨_, rfl, ?_⟩; have n0_ := Aside0.mk (Kd.R_elder' (by (with_reducible repeat (first | apply Kd.R_alloc | apply Kd.R_drewN | apply Kd.R_drew)); exact HO_2.out) (Kd.R_base ho0) hb); have n1_ := Aside0.mk (Kd.R_lower (Kd.R_new' ho0 (Kd.R_lt (by (with_reducible repeat (first | apply Kd.R_alloc | apply Kd.R_drewN | apply Kd.R_drew)); exact HO_2.out))) (below_size (by repeat (with_reducible first | exact HB.out | apply below_alloc | apply pw_below_drewN | apply below_drew1)))); have n2_ := Aside0.mk (below_step (by repeat (with_reducible first | exact HB.out | apply below_alloc | apply pw_below_drewN | apply below_drew1)) hb); clear HO_2; clear HB; have HO_2 := n0_; have HO164 := n1_; have HB := n2_; clear n0_ n1_ n2_; (try clear hb); (try clear hb2); (try clear hk); (try clear hi); (try clear ho0); obtain ⟨Ao38, co38, eo38⟩ := Kd.R_slice HO164.out; subst eo38) | ((with_reducible refine gate_callee (f := 14) rfl ?_); refine goesL_ (some 45) rfl rfl Tryd.func14 (by kernel_rfl) rfl #[.slice Ao38 t161.length co38, .int .i64 6, .int .i64 1, .int .i64 105] rfl (by (try simp only [List.map_toArray, List.map_cons, List.map_nil]); first | done | rfl | (simp only [List.length_drop, List.length_take]; rfl)) ?_; (with_reducible refine (collect_Return.calls kj1 _ _ t161 6 1 105 t165 t166 _ ?sideV ?side1 ?side2 A22.out).mono ?_); (case sideV => exact VarOK.below HV.out (by repeat (with_reducible first | exact HB.out | apply below_alloc | apply pw_below_drewN | apply below_drew1))); (case side1 => repeat (first | exact (Kd.R_reads' HO164.out).2.2 | (with_reducible refine Kd.C_alloc ?_ _) | (with_reducible refine Kd.C_drewN ?_ _) | (with_reducible refine Kd.C_drew ?_))); (case side2 => exact (Kd.R_reads' HO164.out).2.1); rintro e w39 ⟨v167, rfl, ho0, hb⟩; refine ⟨_, rfl, ?_⟩; have n0_ := Aside0.mk (Kd.R_elder' (by (with_reducible repeat (first | apply Kd.R_alloc | apply Kd.R_drewN | apply Kd.R_drew)); exact HO_2.out) (Kd.R_base ho0) hb); have n1_ := Aside0.mk (Kd.R_elder' (by (with_reducible repeat (first | apply Kd.R_alloc | apply Kd.R_drewN | apply Kd.R_drew)); exact HO164.out) (Kd.R_base ho0) hb); have n2_ := Aside0.mk (Kd.R_lower (Kd.R_new' (Kd.R_new' ho0 (Kd.R_lt (by (with_reducible repeat (first | apply Kd.R_alloc | apply Kd.R_drewN | apply Kd.R_drew)); exact HO_2.out))) (Kd.R_lt (by (with_reducible repeat (first | apply Kd.R_alloc | apply Kd.R_drewN | apply Kd.R_drew)); exact HO164.out))) (below_size (by repeat (with_reducible first | exact HB.out | apply below_alloc | apply pw_below_drewN | apply below_drew1)))); have n3_ := Aside0.mk (below_step (by repeat (with_reducible first | exact HB.out | apply below_alloc | apply pw_below_drewN | apply below_drew1)) hb); clear HO_2; clear HO164; clear HB; have HO_2 := n0_; have HO164 := n1_; have HO168 := n2_; have HB := n3_; clear n0_ n1_ n2_ n3_; (try clear hb); (try clear hb2); (try clear hk); (try clear hi); (try clear ho0)) | ((with_reducible refine gate_callee (f := 14) rfl ?_); refine goesL_ (some 50) rfl rfl Tryd.func14 (by kernel_rfl) rfl #[.slice Ao38 t161.length co38, .int .i64 6, .int .i64 1, .int .i64 106] rfl (by (try simp only [List.map_toArray, List.map_cons, List.map_nil]); first | done | rfl | (simp only [List.length_drop, List.length_take]; rfl)) ?_; (with_reducible refine (collect_Return.calls kj1 _ _ t161 6 1 106 t169 t170 _ ?sideV ?side1 ?side2 A23.out).mono ?_); (case sideV => exact VarOK.below HV.out (by repeat (with_reducible first | exact HB.out | apply below_alloc | apply pw_below_drewN | apply below_drew1))); (case side1 => repeat (first | exact (Kd.R_reads' HO164.out).2.2 | (with_reducible refine Kd.C_alloc ?_ _) | (with_reducible refine Kd.C_drewN ?_ _) | (with_reducible refine Kd.C_drew ?_))); (case side2 => exact (Kd.R_reads' HO164.out).2.1); rintro e w40 ⟨v171, rfl, ho0, hb⟩; refine ⟨_, rfl, ?_⟩; have n0_ := Aside0.mk (Kd.R_elder' (by (with_reducible repeat (first | apply Kd.R_alloc | apply Kd.R_drewN | apply Kd.R_drew)); exact HO_2.out) (Kd.R_base ho0) hb); have n1_ := Aside0.mk (Kd.R_elder' (by (with_reducible repeat (first | apply Kd.R_alloc | apply Kd.R_drewN | apply Kd.R_drew)); exact HO164.out) (Kd.R_base ho0) hb); have n2_ := Aside0.mk (Kd.R_elder' (by (with_reducible repeat (first | apply Kd.R_alloc | apply Kd.R_drewN | apply Kd.R_drew)); exact HO168.out) (Kd.R_base ho0) hb); have n3_ := Aside0.mk (Kd.R_lower (Kd.R_new' (Kd.R_new' (Kd.R_new' ho0 (Kd.R_lt (by (with_reducible repeat (first | apply Kd.R_alloc | apply Kd.R_drewN | apply Kd.R_drew)); exact HO_2.out))) (Kd.R_lt (by (with_reducible repeat (first | apply Kd.R_alloc | apply Kd.R_drewN | apply Kd.R_drew)); exact HO164.out))) (Kd.R_lt (by (with_reducible repeat (first | apply Kd.R_alloc | apply Kd.R_drewN | apply Kd.R_drew)); exact HO168.out))) (below_size (by repeat (with_reducible first | exact HB.out | apply below_alloc | apply pw_below_drewN | apply below_drew1)))); have n4_ := Aside0.mk (below_step (by repeat (with_reducible first | exact HB.out | apply below_alloc | apply pw_below_drewN | apply below_drew1)) hb); clear HO_2; clear HO164; clear HO168; clear HB; have HO_2 := n0_; have HO164 := n1_; have HO168 := n2_; have HO172 := n3_; have HB := n4_; clear n0_ n1_ n2_ n3_ n4_; (try clear hb); (try clear hb2); (try clear hk); (try clear hi); (try clear ho0)) | ((with_reducible refine gate_callee (f := 12) rfl ?_); refine goesL_ (some 55) rfl rfl Tryd.func12 (by kernel_rfl) rfl #[.slice Ao36 t153.length co36, .int .i64 6, .int .i64 100, .int .i64 19] rfl (by (try simp only [List.map_toArray, List.map_cons, List.map_nil]); first | done | rfl | (simp only [List.length_drop, List.length_take]; rfl)) ?_; (with_reducible refine (collect_Settle.calls kj1 _ _ t153 6 100 19 t173 t174 _ ?side1 ?side2 A24.out).mono ?_); (case side1 => repeat (first | exact (Kd.R_reads' HO_2.out).2.2 | (with_reducible refine Kd.C_alloc ?_ _) | (with_reducible refine Kd.C_drewN ?_ _) | (with_reducible refine Kd.C_drew ?_))); (case side2 => exact (Kd.R_reads' HO_2.out).2.1); rintro e w41 ⟨v175, rfl, ho0, hb⟩; refine ⟨_, rfl, ?_⟩; have n0_ := Aside0.mk (Kd.R_elder' (by (with_reducible repeat (first | apply Kd.R_alloc | apply Kd.R_drewN | apply Kd.R_drew)); exact HO_2.out) (Kd.R_base ho0) hb); have n1_ := Aside0.mk (Kd.R_elder' (by (with_reducible repeat (first | apply Kd.R_alloc | apply Kd.R_drewN | apply Kd.R_drew)); exact HO164.out) (Kd.R_base ho0) hb); have n2_ := Aside0.mk (Kd.R_elder' (by (with_reducible repeat (first | apply Kd.R_alloc | apply Kd.R_drewN | apply Kd.R_drew)); exact HO168.out) (Kd.R_base ho0) hb); have n3_ := Aside0.mk (Kd.R_elder' (by (with_reducible repeat (first | apply Kd.R_alloc | apply Kd.R_drewN | apply Kd.R_drew)); exact HO172.out) (Kd.R_base ho0) hb); have n4_ := Aside0.mk (Kd.R_lower (Kd.R_new' (Kd.R_new' (Kd.R_new' (Kd.R_new' ho0 (Kd.R_lt (by (with_reducible repeat (first | apply Kd.R_alloc | apply Kd.R_drewN | apply Kd.R_drew)); exact HO_2.out))) (Kd.R_lt (by (with_reducible repeat (first | apply Kd.R_alloc | apply Kd.R_drewN | apply Kd.R_drew)); exact HO164.out))) (Kd.R_lt (by (with_reducible repeat (first | apply Kd.R_alloc | apply Kd.R_drewN | apply Kd.R_drew)); exact HO168.out))) (Kd.R_lt (by (with_reducible repeat (first | apply Kd.R_alloc | apply Kd.R_drewN | apply Kd.R_drew)); exact HO172.out))) (below_size (by repeat (with_reducible first | exact HB.out | apply below_alloc | apply pw_below_drewN | apply below_drew1)))); have n5_ := Aside0.mk (below_step (by repeat (with_reducible first | exact HB.out | apply below_alloc | apply pw_below_drewN | apply below_drew1)) hb); clear HO_2; clear HO164; clear HO168; clear HO172; clear HB; have HO_2 := n0_; have HO164 := n1_; have HO168 := n2_; have HO172 := n3_; have HO176 := n4_; have HB := n5_; clear n0_ n1_ n2_ n3_ n4_ n5_; (try clear hb); (try clear hb2); (try clear hk); (try clear hi); (try clear ho0); obtain ⟨Ao42, co42, eo42⟩ := Kd.R_slice HO168.out; subst eo42; have p177 : 0 ≤ (0 : Int) := (by omega); have q177 : 0 < (t165.length : Int) := of_decide_eq_true (by assumption); obtain ⟨ad177, e177, hx177_0, hx177_1, hx177_2, hx177_3, hx177_4, hx177_5, hx177_6, hx177_7, hx177_8⟩ := at_T36 (Kd.R_reads' HO168.out).2.2 0 p177 q177; cases e177; have qi177 : (0 < t165.length) = True := eq_true (by omega); (try rw [show ((0 : Int)).toNat = 0 from rfl] at hx177_0); (try rw [show 0 * 9 = 0 from rfl] at hx177_0); (try rw [Addr.add_zero'] at hx177_0); (try rw [show ((0 : Int)).toNat = 0 from rfl] at hx177_1); (try rw [show 0 * 9 = 0 from rfl] at hx177_1); (try rw [Addr.add_zero'] at hx177_1); (try rw [show ((0 : Int)).toNat = 0 from rfl] at hx177_2); (try rw [show 0 * 9 = 0 from rfl] at hx177_2); (try rw [Addr.add_zero'] at hx177_2); (try rw [show ((0 : Int)).toNat = 0 from rfl] at hx177_3); (try rw [show 0 * 9 = 0 from rfl] at hx177_3); (try rw [Addr.add_zero'] at hx177_3); (try rw [show ((0 : Int)).toNat = 0 from rfl] at hx177_4); (try rw [show 0 * 9 = 0 from rfl] at hx177_4); (try rw [Addr.add_zero'] at hx177_4); (try rw [show ((0 : Int)).toNat = 0 from rfl] at hx177_5); (try rw [show 0 * 9 = 0 from rfl] at hx177_5); (try rw [Addr.add_zero'] at hx177_5); (try rw [show ((0 : Int)).toNat = 0 from rfl] at hx177_6); (try rw [show 0 * 9 = 0 from rfl] at hx177_6); (try rw [Addr.add_zero'] at hx177_6); (try rw [show ((0 : Int)).toNat = 0 from rfl] at hx177_7); (try rw [show 0 * 9 = 0 from rfl] at hx177_7); (try rw [Addr.add_zero'] at hx177_7); (try rw [show ((0 : Int)).toNat = 0 from rfl] at hx177_8); (try rw [show 0 * 9 = 0 from rfl] at hx177_8); (try rw [Addr.add_zero'] at hx177_8); replace p177 := eq_true p177; replace q177 := eq_true q177; obtain ⟨Ao43, co43, eo43⟩ := Kd.R_slice HO176.out; subst eo43; have p178 : 0 ≤ (0 : Int) := (by omega); have q178 : 0 < (t173.length : Int) := of_decide_eq_true (by assumption); obtain ⟨ad178, e178, hx178_0, hx178_1, hx178_2, hx178_3, hx178_4, hx178_5, hx178_6, hx178_7, hx178_8⟩ := at_T36 (Kd.R_reads' HO176.out).2.2 0 p178 q178; cases e178; have qi178 : (0 < t173.length) = True := eq_true (by omega); (try rw [show ((0 : Int)).toNat = 0 from rfl] at hx178_0); (try rw [show 0 * 9 = 0 from rfl] at hx178_0); (try rw [Addr.add_zero'] at hx178_0); (try rw [show ((0 : Int)).toNat = 0 from rfl] at hx178_1); (try rw [show 0 * 9 = 0 from rfl] at hx178_1); (try rw [Addr.add_zero'] at hx178_1); (try rw [show ((0 : Int)).toNat = 0 from rfl] at hx178_2); (try rw [show 0 * 9 = 0 from rfl] at hx178_2); (try rw [Addr.add_zero'] at hx178_2); (try rw [show ((0 : Int)).toNat = 0 from rfl] at hx178_3); (try rw [show 0 * 9 = 0 from rfl] at hx178_3); (try rw [Addr.add_zero'] at hx178_3); (try rw [show ((0 : Int)).toNat = 0 from rfl] at hx178_4); (try rw [show 0 * 9 = 0 from rfl] at hx178_4); (try rw [Addr.add_zero'] at hx178_4); (try rw [show ((0 : Int)).toNat = 0 from rfl] at hx178_5); (try rw [show 0 * 9 = 0 from rfl] at hx178_5); (try rw [Addr.add_zero'] at hx178_5); (try rw [show ((0 : Int)).toNat = 0 from rfl] at hx178_6); (try rw [show 0 * 9 = 0 from rfl] at hx178_6); (try rw [Addr.add_zero'] at hx178_6); (try rw [show ((0 : Int)).toNat = 0 from rfl] at hx178_7); (try rw [show 0 * 9 = 0 from rfl] at hx178_7); (try rw [Addr.add_zero'] at hx178_7); (try rw [show ((0 : Int)).toNat = 0 from rfl] at hx178_8); (try rw [show 0 * 9 = 0 from rfl] at hx178_8); (try rw [Addr.add_zero'] at hx178_8); replace p178 := eq_true p178; replace q178 := eq_true q178) | (go_at_call 23; (with_reducible refine (collect_Window.calls 4 t179 _ ?sideV A35.out).mono ?_); (case sideV => exact VarOK.below HV.out (by repeat (with_reducible first | exact HB.out | apply below_alloc | apply pw_below_drewN | apply below_drew1))); rintro e w44 ⟨rfl, hb⟩; have n0_ := Aside0.mk (Kd.R_below (by (with_reducible repeat (first | apply Kd.R_alloc | apply Kd.R_drewN | apply Kd.R_drew)); exact HO_2.out) hb); have n1_ := Aside0.mk (Kd.R_below (by (with_reducible repeat (first | apply Kd.R_alloc | apply Kd.R_drewN | apply Kd.R_drew)); exact HO164.out) hb); have n2_ := Aside0.mk (Kd.R_below (by (with_reducible repeat (first | apply Kd.R_alloc | apply Kd.R_drewN | apply Kd.R_drew)); exact HO168.out) hb); have n3_ := Aside0.mk (Kd.R_below (by (with_reducible repeat (first | apply Kd.R_alloc | apply Kd.R_drewN | apply Kd.R_drew)); exact HO172.out) hb); have n4_ := Aside0.mk (Kd.R_below (by (with_reducible repeat (first | apply Kd.R_alloc | apply Kd.R_drewN | apply Kd.R_drew)); exact HO176.out) hb); have n5_ := Aside0.mk (below_step (by repeat (with_reducible first | exact HB.out | apply below_alloc | apply pw_below_drewN | apply below_drew1)) hb); clear HO_2; clear HO164; clear HO168; clear HO172; clear HO176; clear HB; have HO_2 := n0_; have HO164 := n1_; have HO168 := n2_; have HO172 := n3_; have HO176 := n4_; have HB := n5_; clear n0_ n1_ n2_ n3_ n4_ n5_; (try clear hb); (try clear hb2); (try clear hk); (try clear hi)))
              go_ret
              exact ⟨by first | rfl | (simp [errW_none, errW_some] <;> rfl) | (simp [*, errW_none, errW_some] <;> rfl), by repeat (with_reducible first | exact HB.out | apply below_alloc | apply pw_below_drewN | apply below_drew1)⟩
             ·rw [if_neg c34] at H
              exact absurd H (by simp)
            ·rw [if_neg c33] at H
             exact absurd H (by simp)
           ·rw [if_neg c32] at H
            exact absurd H (by simp)
          ·rw [if_neg c31] at H
           exact absurd H (by simp)
         ·rw [if_neg c30] at H
          exact absurd H (by simp)
        ·rw [if_neg c29] at H
         exact absurd H (by simp)
       ·rw [if_neg c28] at H
        exact absurd H (by simp)
      ·rw [if_neg c27] at H
       exact absurd H (by simp)
     ·rw [if_neg c26] at H
      exact absurd H (by simp)
    ·rw [if_neg c25] at H
     exact absurd H (by simp)

end Go.Proofs.YtfdjgdjmllkdcaaDoor.X
