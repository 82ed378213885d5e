-- Written by program (wip/tools/xprint.sh) for this seat; not trusted: Lean checks it.
import Derived.Test.YtclllkbngkohlaaX0
import Derived.Test.YtclllkbngkohlaaX3
import Derived.Test.YtclllkbngkohlaaX10
import Derived.Test.YtclllkbngkohlaaX18
import Derived.Test.YtclllkbngkohlaaX19
import Derived.Test.YtclllkbngkohlaaX20
import Derived.Test.YtclllkbngkohlaaX27
import Derived.Test.YtclllkbngkohlaaX28
import Derived.Test.YtclllkbngkohlaaX29
namespace Go.Proofs.Ytclllkbngkohlaa.X
open Go.RowKit Go.Proofs.YtclllkbngkohlaaW.PrintWords Go.Proofs.YtclllkbngkohlaaW.PrintLast Go.Proofs.YtclllkbngkohlaaW.PrintMore
attribute [local go_sem] max2_int min2_int max_two min_two max_three min_three max_four min_four   -- for this text's walks alone
set_option linter.unusedVariables false
set_option linter.unusedSimpArgs false

/-! ### corebanklaw46_AccessChanges: function 5 -/
def corebanklaw46_AccessChanges.j0 : Nat → List (S25) → List (S25) → Int → List (S25) → Bool → Option (Bool)
  | 0, _, _, _, _, _ => none
  | k + 1, x0, x7, x8, x11, x64 => if x64 = true then (none) else (if x8 = 0 then ((access_Check.f k x0).bind fun t235 => (if t235 = 0 then ((access_Check.f k x7).bind fun t236 => (if t236 = 0 then ((access_Check.f k x11).bind fun t237 => (if t237 = 0 then ((corebanklaw46_live.f k).bind fun t238 => (some t238)) else (none))) else (none))) else ((corebanklaw46_live.f k).bind fun t239 => (some t239)))) else ((corebanklaw46_live.f k).bind fun t240 => (some t240)))
def corebanklaw46_AccessChanges.f (k : Nat) (l0 : List (S25)) (a1 : ByteArray) (a2 : Int) : Option (Bool) := (corebankref46_Great.f k l0).bind fun t216 => (if t216 = true then (some true) else ((access_Grant.f l0 a1 a2).bind fun bt217 => ((corebankref46_Grant.f k l0 a1 a2).bind fun bt221 => ((access_Withdraw.f l0 a1 a2).bind fun bt225 => ((corebankref46_Withdraw.f k l0 a1 a2).bind fun bt229 => (if bt217.2 = bt221.2 then (if bt225.2 = bt229.2 then ((corebankref46_SameAll.f k bt217.1 bt221.1).bind fun t233 => (if t233 = true then ((corebankref46_SameAll.f k bt225.1 bt229.1).bind fun t234 => (corebanklaw46_AccessChanges.j0 k l0 bt217.1 bt217.2 bt225.1 (!t234))) else (corebanklaw46_AccessChanges.j0 k l0 bt217.1 bt217.2 bt225.1 true))) else (corebanklaw46_AccessChanges.j0 k l0 bt217.1 bt217.2 bt225.1 true)) else (corebanklaw46_AccessChanges.j0 k l0 bt217.1 bt217.2 bt225.1 true)))))))
theorem corebanklaw46_AccessChanges.mono_l : ∀ k, (∀ y0 y1 y2 y3 y4, LeO (corebanklaw46_AccessChanges.j0 k y0 y1 y2 y3 y4) (corebanklaw46_AccessChanges.j0 (k + 1) y0 y1 y2 y3 y4))
  | 0 => fun _ _ _ _ _ r h => by simp [corebanklaw46_AccessChanges.j0] at h
  | k + 1 => by
    have ih0 := corebanklaw46_AccessChanges.mono_l k
    · intro y0 y1 y2 y3 y4
      unfold corebanklaw46_AccessChanges.j0
      repeat' first
      | (with_reducible exact ih0 _ _ _ _ _)
      | (with_reducible exact access_Check.mono _ _)
      | (with_reducible exact corebanklaw46_live.mono _)
      | (with_reducible exact corebankref46_Grant.mono _ _ _ _)
      | (with_reducible exact corebankref46_Great.mono _ _)
      | (with_reducible exact corebankref46_SameAll.mono _ _ _)
      | (with_reducible exact corebankref46_Withdraw.mono _ _ _ _)
      | (with_reducible exact LeO.refl _)
      | (with_reducible exact LeO.none _)
      | (with_reducible refine LeO.ite ?_ ?_)
      | (with_reducible refine LeO.bind ?_ (fun _ => ?_))
      | exact ih0 _ _ _ _ _
      | exact access_Check.mono _ _
      | exact corebanklaw46_live.mono _
      | exact corebankref46_Grant.mono _ _ _ _
      | exact corebankref46_Great.mono _ _
      | exact corebankref46_SameAll.mono _ _ _
      | exact corebankref46_Withdraw.mono _ _ _ _
      | exact LeO.none _
      | refine LeO.ite ?_ ?_
      | refine LeO.bind ?_ (fun _ => ?_)
theorem corebanklaw46_AccessChanges.mono : ∀ a0 a1 a2 k, LeO (corebanklaw46_AccessChanges.f k a0 a1 a2) (corebanklaw46_AccessChanges.f (k + 1) a0 a1 a2) := by
  intro a0 a1 a2 k
  have ih0 := corebanklaw46_AccessChanges.mono_l k
  unfold corebanklaw46_AccessChanges.f
  repeat' first
      | (with_reducible exact ih0 _ _ _ _ _)
      | (with_reducible exact access_Check.mono _ _)
      | (with_reducible exact corebanklaw46_live.mono _)
      | (with_reducible exact corebankref46_Grant.mono _ _ _ _)
      | (with_reducible exact corebankref46_Great.mono _ _)
      | (with_reducible exact corebankref46_SameAll.mono _ _ _)
      | (with_reducible exact corebankref46_Withdraw.mono _ _ _ _)
      | (with_reducible exact LeO.refl _)
      | (with_reducible exact LeO.none _)
      | (with_reducible refine LeO.ite ?_ ?_)
      | (with_reducible refine LeO.bind ?_ (fun _ => ?_))
      | exact ih0 _ _ _ _ _
      | exact access_Check.mono _ _
      | exact corebanklaw46_live.mono _
      | exact corebankref46_Grant.mono _ _ _ _
      | exact corebankref46_Great.mono _ _
      | exact corebankref46_SameAll.mono _ _ _
      | exact corebankref46_Withdraw.mono _ _ _ _
      | exact LeO.none _
      | refine LeO.ite ?_ ?_
      | refine LeO.bind ?_ (fun _ => ?_)
set_option maxHeartbeats 8000000 in
set_option maxRecDepth 100000 in
theorem corebanklaw46_AccessChanges.calls (k : Nat) (A0 : Option Addr) (c0 : Nat) (l0 : List (S25)) (a1 : ByteArray) (a2 : Int) (r : Bool) (w : World) (hr0 : Kd.C k25 w A0 l0.length l0) (hc0 : l0.length ≤ c0) (h : corebanklaw46_AccessChanges.f k l0 a1 a2 = some r) :
    Calls Try.prog 5 #[.slice A0 l0.length c0, .string a1, .int .i64 a2] w fun e w' => e = .returned (.bool r) ∧ Below w.heap.size w w' := by
  have HR0 := Aside0.mk hr0
  have HC0 := Aside0.mk hc0
  clear hr0 hc0
  have HB := Aside0.mk (Below.refl w.heap.size w)
  have H : ((corebankref46_Great.f k l0).bind fun t216 => (if t216 = true then (some true) else ((access_Grant.f l0 a1 a2).bind fun bt217 => ((corebankref46_Grant.f k l0 a1 a2).bind fun bt221 => ((access_Withdraw.f l0 a1 a2).bind fun bt225 => ((corebankref46_Withdraw.f k l0 a1 a2).bind fun bt229 => (if bt217.2 = bt221.2 then (if bt225.2 = bt229.2 then ((corebankref46_SameAll.f k bt217.1 bt221.1).bind fun t233 => (if t233 = true then ((corebankref46_SameAll.f k bt225.1 bt229.1).bind fun t234 => (corebanklaw46_AccessChanges.j0 k l0 bt217.1 bt217.2 bt225.1 (!t234))) else (corebanklaw46_AccessChanges.j0 k l0 bt217.1 bt217.2 bt225.1 true))) else (corebanklaw46_AccessChanges.j0 k l0 bt217.1 bt217.2 bt225.1 true)) else (corebanklaw46_AccessChanges.j0 k l0 bt217.1 bt217.2 bt225.1 true)))))))) = some r := h
  clear h
  replace H := Option.bind_eq_some_iff.mp H
  obtain ⟨t216, A40, H⟩ := H
  replace H : (if t216 = true then (some true) else ((access_Grant.f l0 a1 a2).bind fun bt217 => ((corebankref46_Grant.f k l0 a1 a2).bind fun bt221 => ((access_Withdraw.f l0 a1 a2).bind fun bt225 => ((corebankref46_Withdraw.f k l0 a1 a2).bind fun bt229 => (if bt217.2 = bt221.2 then (if bt225.2 = bt229.2 then ((corebankref46_SameAll.f k bt217.1 bt221.1).bind fun t233 => (if t233 = true then ((corebankref46_SameAll.f k bt225.1 bt229.1).bind fun t234 => (corebanklaw46_AccessChanges.j0 k l0 bt217.1 bt217.2 bt225.1 (!t234))) else (corebanklaw46_AccessChanges.j0 k l0 bt217.1 bt217.2 bt225.1 true))) else (corebanklaw46_AccessChanges.j0 k l0 bt217.1 bt217.2 bt225.1 true)) else (corebanklaw46_AccessChanges.j0 k l0 bt217.1 bt217.2 bt225.1 true))))))) = some r := H
  have A4 := Aside0.mk A40
  clear A40
  by_cases c5 : t216 = true
  · subst c5
    have H1 : (some true) = some r := by rw [if_pos rfl] at H; exact H
    clear H
    have H := H1
    clear H1
    obtain rfl := Option.some.inj H
    go_enter Try.func5, Try.ntmps5
    go_wp2_with (first | ((with_reducible refine gate_callee (f := 7) rfl ?_); refine goesL_ (some 16) rfl rfl Try.func7 (by kernel_rfl) rfl #[.slice A0 l0.length c0] rfl (by (try simp only [List.map_toArray, List.map_cons, List.map_nil]); first | done | rfl | (simp only [List.length_drop, List.length_take]; rfl)) ?_; (with_reducible refine (corebankref46_Great.calls k _ _ l0 true _ ?side1 ?side2 A4.out).mono ?_); (case side1 => repeat (first | exact HR0.out | (with_reducible refine Kd.C_alloc ?_ _) | (with_reducible refine Kd.C_drewN ?_ _) | (with_reducible refine Kd.C_drew ?_))); (case side2 => exact HC0.out); rintro e w' ⟨rfl, ⟨nd, rfl⟩⟩; refine ⟨_, rfl, ?_⟩))
    go_ret
    exact ⟨by first | rfl | (simp [errW_none, errW_some] <;> rfl) | (simp [*, errW_none, errW_some] <;> rfl), by repeat (first | (with_reducible first | exact HB.out | apply below_alloc | apply pw_below_drewN | apply below_drew1) | exact HB.out)⟩
  · replace c5 := Bool.eq_false_iff.mpr c5
    subst c5
    have H1 : ((access_Grant.f l0 a1 a2).bind fun bt217 => ((corebankref46_Grant.f k l0 a1 a2).bind fun bt221 => ((access_Withdraw.f l0 a1 a2).bind fun bt225 => ((corebankref46_Withdraw.f k l0 a1 a2).bind fun bt229 => (if bt217.2 = bt221.2 then (if bt225.2 = bt229.2 then ((corebankref46_SameAll.f k bt217.1 bt221.1).bind fun t233 => (if t233 = true then ((corebankref46_SameAll.f k bt225.1 bt229.1).bind fun t234 => (corebanklaw46_AccessChanges.j0 k l0 bt217.1 bt217.2 bt225.1 (!t234))) else (corebanklaw46_AccessChanges.j0 k l0 bt217.1 bt217.2 bt225.1 true))) else (corebanklaw46_AccessChanges.j0 k l0 bt217.1 bt217.2 bt225.1 true)) else (corebanklaw46_AccessChanges.j0 k l0 bt217.1 bt217.2 bt225.1 true)))))) = some r := by rw [if_neg (show ¬ (false = true) by decide)] at H; exact H
    clear H
    have H := H1
    clear H1
    replace H := Option.bind_eq_some_iff.mp H
    obtain ⟨⟨t217, t218⟩, A60, H⟩ := H
    replace H : ((corebankref46_Grant.f k l0 a1 a2).bind fun bt221 => ((access_Withdraw.f l0 a1 a2).bind fun bt225 => ((corebankref46_Withdraw.f k l0 a1 a2).bind fun bt229 => (if t218 = bt221.2 then (if bt225.2 = bt229.2 then ((corebankref46_SameAll.f k t217 bt221.1).bind fun t233 => (if t233 = true then ((corebankref46_SameAll.f k bt225.1 bt229.1).bind fun t234 => (corebanklaw46_AccessChanges.j0 k l0 t217 t218 bt225.1 (!t234))) else (corebanklaw46_AccessChanges.j0 k l0 t217 t218 bt225.1 true))) else (corebanklaw46_AccessChanges.j0 k l0 t217 t218 bt225.1 true)) else (corebanklaw46_AccessChanges.j0 k l0 t217 t218 bt225.1 true))))) = some r := H
    have A6 := Aside0.mk A60
    clear A60
    replace H := Option.bind_eq_some_iff.mp H
    obtain ⟨⟨t221, t222⟩, A70, H⟩ := H
    replace H : ((access_Withdraw.f l0 a1 a2).bind fun bt225 => ((corebankref46_Withdraw.f k l0 a1 a2).bind fun bt229 => (if t218 = t222 then (if bt225.2 = bt229.2 then ((corebankref46_SameAll.f k t217 t221).bind fun t233 => (if t233 = true then ((corebankref46_SameAll.f k bt225.1 bt229.1).bind fun t234 => (corebanklaw46_AccessChanges.j0 k l0 t217 t218 bt225.1 (!t234))) else (corebanklaw46_AccessChanges.j0 k l0 t217 t218 bt225.1 true))) else (corebanklaw46_AccessChanges.j0 k l0 t217 t218 bt225.1 true)) else (corebanklaw46_AccessChanges.j0 k l0 t217 t218 bt225.1 true)))) = some r := H
    have A7 := Aside0.mk A70
    clear A70
    replace H := Option.bind_eq_some_iff.mp H
    obtain ⟨⟨t225, t226⟩, A80, H⟩ := H
    replace H : ((corebankref46_Withdraw.f k l0 a1 a2).bind fun bt229 => (if t218 = t222 then (if t226 = bt229.2 then ((corebankref46_SameAll.f k t217 t221).bind fun t233 => (if t233 = true then ((corebankref46_SameAll.f k t225 bt229.1).bind fun t234 => (corebanklaw46_AccessChanges.j0 k l0 t217 t218 t225 (!t234))) else (corebanklaw46_AccessChanges.j0 k l0 t217 t218 t225 true))) else (corebanklaw46_AccessChanges.j0 k l0 t217 t218 t225 true)) else (corebanklaw46_AccessChanges.j0 k l0 t217 t218 t225 true))) = some r := H
    have A8 := Aside0.mk A80
    clear A80
    replace H := Option.bind_eq_some_iff.mp H
    obtain ⟨⟨t229, t230⟩, A90, H⟩ := H
    replace H : (if t218 = t222 then (if t226 = t230 then ((corebankref46_SameAll.f k t217 t221).bind fun t233 => (if t233 = true then ((corebankref46_SameAll.f k t225 t229).bind fun t234 => (corebanklaw46_AccessChanges.j0 k l0 t217 t218 t225 (!t234))) else (corebanklaw46_AccessChanges.j0 k l0 t217 t218 t225 true))) else (corebanklaw46_AccessChanges.j0 k l0 t217 t218 t225 true)) else (corebanklaw46_AccessChanges.j0 k l0 t217 t218 t225 true)) = some r := H
    have A9 := Aside0.mk A90
    clear A90
    have HC10 := Aside0.mk H
    clear H
    go_enter Try.func5, Try.ntmps5
    go_upto_region 7 with (first | ((with_reducible refine gate_callee (f := 7) rfl ?_); refine goesL_ (some 16) rfl rfl Try.func7 (by kernel_rfl) rfl #[.slice A0 l0.length c0] rfl (by (try simp only [List.map_toArray, List.map_cons, List.map_nil]); first | done | rfl | (simp only [List.length_drop, List.length_take]; rfl)) ?_; (with_reducible refine (corebankref46_Great.calls k _ _ l0 false _ ?side1 ?side2 A4.out).mono ?_); (case side1 => repeat (first | exact HR0.out | (with_reducible refine Kd.C_alloc ?_ _) | (with_reducible refine Kd.C_drewN ?_ _) | (with_reducible refine Kd.C_drew ?_))); (case side2 => exact HC0.out); rintro e w' ⟨rfl, ⟨nd, rfl⟩⟩; refine ⟨_, rfl, ?_⟩) | ((with_reducible refine gate_callee (f := 17) rfl ?_); refine goesL_ (some 21) rfl rfl Try.func17 (by kernel_rfl) rfl #[.slice A0 l0.length c0, .string a1, .int .i64 a2] rfl (by (try simp only [List.map_toArray, List.map_cons, List.map_nil]); first | done | rfl | (simp only [List.length_drop, List.length_take]; rfl)) ?_; (with_reducible refine (access_Grant.calls _ _ l0 a1 a2 t217 t218 _ ?side1 ?side2 A6.out).mono ?_); (case side1 => repeat (first | exact HR0.out | (with_reducible refine Kd.C_alloc ?_ _) | (with_reducible refine Kd.C_drewN ?_ _) | (with_reducible refine Kd.C_drew ?_))); (case side2 => exact HC0.out); rintro e w11 ⟨v219, rfl, ho0, hb⟩; refine ⟨_, rfl, ?_⟩; have n0_ := Aside0.mk (Kd.R_lower ho0 (below_size (by repeat (first | (with_reducible first | exact HB.out | apply below_alloc | apply pw_below_drewN | apply below_drew1) | exact HB.out)))); have n1_ := Aside0.mk (below_step (by repeat (first | (with_reducible first | exact HB.out | apply below_alloc | apply pw_below_drewN | apply below_drew1) | exact HB.out)) hb); clear HB; have HO220 := n0_; have HB := n1_; clear n0_ n1_; (try clear hb); (try clear hb2); (try clear hk); (try clear hi); (try clear ho0)) | ((with_reducible refine gate_callee (f := 18) rfl ?_); refine goesL_ (some 28) rfl rfl Try.func18 (by kernel_rfl) rfl #[.slice A0 l0.length c0, .string a1, .int .i64 a2] rfl (by (try simp only [List.map_toArray, List.map_cons, List.map_nil]); first | done | rfl | (simp only [List.length_drop, List.length_take]; rfl)) ?_; (with_reducible refine (corebankref46_Grant.calls k _ _ l0 a1 a2 t221 t222 _ ?side1 ?side2 A7.out).mono ?_); (case side1 => repeat (first | exact (Kd.C_below HR0.out HB.out) | (with_reducible refine Kd.C_alloc ?_ _) | (with_reducible refine Kd.C_drewN ?_ _) | (with_reducible refine Kd.C_drew ?_))); (case side2 => exact HC0.out); rintro e w12 ⟨v223, rfl, ho0, hb⟩; refine ⟨_, rfl, ?_⟩; have n0_ := Aside0.mk (Kd.R_elder' (by (with_reducible repeat (first | apply Kd.R_alloc | apply Kd.R_drewN | apply Kd.R_drew)); exact HO220.out) (Kd.R_base ho0) hb); have n1_ := Aside0.mk (Kd.R_lower (Kd.R_new' ho0 (Kd.R_lt (by (with_reducible repeat (first | apply Kd.R_alloc | apply Kd.R_drewN | apply Kd.R_drew)); exact HO220.out))) (below_size (by repeat (first | (with_reducible first | exact HB.out | apply below_alloc | apply pw_below_drewN | apply below_drew1) | exact HB.out)))); have n2_ := Aside0.mk (below_step (by repeat (first | (with_reducible first | exact HB.out | apply below_alloc | apply pw_below_drewN | apply below_drew1) | exact HB.out)) hb); clear HO220; clear HB; have HO220 := n0_; have HO224 := n1_; have HB := n2_; clear n0_ n1_ n2_; (try clear hb); (try clear hb2); (try clear hk); (try clear hi); (try clear ho0)) | ((with_reducible refine gate_callee (f := 19) rfl ?_); refine goesL_ (some 35) rfl rfl Try.func19 (by kernel_rfl) rfl #[.slice A0 l0.length c0, .string a1, .int .i64 a2] rfl (by (try simp only [List.map_toArray, List.map_cons, List.map_nil]); first | done | rfl | (simp only [List.length_drop, List.length_take]; rfl)) ?_; (with_reducible refine (access_Withdraw.calls _ _ l0 a1 a2 t225 t226 _ ?side1 ?side2 A8.out).mono ?_); (case side1 => repeat (first | exact (Kd.C_below HR0.out HB.out) | (with_reducible refine Kd.C_alloc ?_ _) | (with_reducible refine Kd.C_drewN ?_ _) | (with_reducible refine Kd.C_drew ?_))); (case side2 => exact HC0.out); rintro e w13 ⟨v227, rfl, ho0, hb⟩; refine ⟨_, rfl, ?_⟩; have n0_ := Aside0.mk (Kd.R_elder' (by (with_reducible repeat (first | apply Kd.R_alloc | apply Kd.R_drewN | apply Kd.R_drew)); exact HO220.out) (Kd.R_base ho0) hb); have n1_ := Aside0.mk (Kd.R_elder' (by (with_reducible repeat (first | apply Kd.R_alloc | apply Kd.R_drewN | apply Kd.R_drew)); exact HO224.out) (Kd.R_base ho0) hb); have n2_ := Aside0.mk (Kd.R_lower (Kd.R_new' (Kd.R_new' ho0 (Kd.R_lt (by (with_reducible repeat (first | apply Kd.R_alloc | apply Kd.R_drewN | apply Kd.R_drew)); exact HO220.out))) (Kd.R_lt (by (with_reducible repeat (first | apply Kd.R_alloc | apply Kd.R_drewN | apply Kd.R_drew)); exact HO224.out))) (below_size (by repeat (first | (with_reducible first | exact HB.out | apply below_alloc | apply pw_below_drewN | apply below_drew1) | exact HB.out)))); have n3_ := Aside0.mk (below_step (by repeat (first | (with_reducible first | exact HB.out | apply below_alloc | apply pw_below_drewN | apply below_drew1) | exact HB.out)) hb); clear HO220; clear HO224; clear HB; have HO220 := n0_; have HO224 := n1_; have HO228 := n2_; have HB := n3_; clear n0_ n1_ n2_ n3_; (try clear hb); (try clear hb2); (try clear hk); (try clear hi); (try clear ho0)) | ((with_reducible refine gate_callee (f := 20) rfl ?_); refine goesL_ (some 42) rfl rfl Try.func20 (by kernel_rfl) rfl #[.slice A0 l0.length c0, .string a1, .int .i64 a2] rfl (by (try simp only [List.map_toArray, List.map_cons, List.map_nil]); first | done | rfl | (simp only [List.length_drop, List.length_take]; rfl)) ?_; (with_reducible refine (corebankref46_Withdraw.calls k _ _ l0 a1 a2 t229 t230 _ ?side1 ?side2 A9.out).mono ?_); (case side1 => repeat (first | exact (Kd.C_below HR0.out HB.out) | (with_reducible refine Kd.C_alloc ?_ _) | (with_reducible refine Kd.C_drewN ?_ _) | (with_reducible refine Kd.C_drew ?_))); (case side2 => exact HC0.out); rintro e w14 ⟨v231, rfl, ho0, hb⟩; refine ⟨_, rfl, ?_⟩; have n0_ := Aside0.mk (Kd.R_elder' (by (with_reducible repeat (first | apply Kd.R_alloc | apply Kd.R_drewN | apply Kd.R_drew)); exact HO220.out) (Kd.R_base ho0) hb); have n1_ := Aside0.mk (Kd.R_elder' (by (with_reducible repeat (first | apply Kd.R_alloc | apply Kd.R_drewN | apply Kd.R_drew)); exact HO224.out) (Kd.R_base ho0) hb); have n2_ := Aside0.mk (Kd.R_elder' (by (with_reducible repeat (first | apply Kd.R_alloc | apply Kd.R_drewN | apply Kd.R_drew)); exact HO228.out) (Kd.R_base ho0) hb); have n3_ := Aside0.mk (Kd.R_lower (Kd.R_new' (Kd.R_new' (Kd.R_new' ho0 (Kd.R_lt (by (with_reducible repeat (first | apply Kd.R_alloc | apply Kd.R_drewN | apply Kd.R_drew)); exact HO220.out))) (Kd.R_lt (by (with_reducible repeat (first | apply Kd.R_alloc | apply Kd.R_drewN | apply Kd.R_drew)); exact HO224.out))) (Kd.R_lt (by (with_reducible repeat (first | apply Kd.R_alloc | apply Kd.R_drewN | apply Kd.R_drew)); exact HO228.out))) (below_size (by repeat (first | (with_reducible first | exact HB.out | apply below_alloc | apply pw_below_drewN | apply below_drew1) | exact HB.out)))); have n4_ := Aside0.mk (below_step (by repeat (first | (with_reducible first | exact HB.out | apply below_alloc | apply pw_below_drewN | apply below_drew1) | exact HB.out)) hb); clear HO220; clear HO224; clear HO228; clear HB; have HO220 := n0_; have HO224 := n1_; have HO228 := n2_; have HO232 := n3_; have HB := n4_; clear n0_ n1_ n2_ n3_ n4_; (try clear hb); (try clear hb2); (try clear hk); (try clear hi); (try clear ho0)))
    (try simp only [Act.put, List.setIfInBounds_toArray, List.set_cons_zero, List.set_cons_succ])
    go_cut [64] (fun v64 wc => ∃ (kq : Nat) (x64_9 : Bool), v64 = .bool x64_9 ∧ Aside0 (corebanklaw46_AccessChanges.j0 kq l0 t217 t218 t225 x64_9 = some r) ∧ Aside0 (kq ≤ k) ∧ Aside0 (Kd.R k25 25 wc w.heap.size (fun k_ => some k_ ≠ (v227 : Value).ownBlock) v219 t217) ∧ Aside0 (Kd.R k25 25 wc w.heap.size (fun k_ => some k_ ≠ (v219 : Value).ownBlock) v227 t225) ∧ Aside0 (Below w.heap.size w wc))
    case first =>
      have H := HC10.out
      clear HC10
      by_cases c15 : t218 = t222
      · rw [if_pos c15] at H
        have c15b0 : (t218 == t222) = true := beq_iff_eq.mpr c15
        have c15b1 : (t218 != t222) = false := bne_eq_false_iff_eq.mpr c15
        clear c15
        (first | rw [c15b0] | (simp only [i64_w, i32_w]; rw [c15b0]) | skip)
        by_cases c16 : t226 = t230
        · rw [if_pos c16] at H
          have c16b0 : (t226 == t230) = true := beq_iff_eq.mpr c16
          have c16b1 : (t226 != t230) = false := bne_eq_false_iff_eq.mpr c16
          clear c16
          replace H := Option.bind_eq_some_iff.mp H
          obtain ⟨t233, A170, H⟩ := H
          replace H : (if t233 = true then ((corebankref46_SameAll.f k t225 t229).bind fun t234 => (corebanklaw46_AccessChanges.j0 k l0 t217 t218 t225 (!t234))) else (corebanklaw46_AccessChanges.j0 k l0 t217 t218 t225 true)) = some r := H
          have A17 := Aside0.mk A170
          clear A170
          by_cases c18 : t233 = true
          · subst c18
            have H1 : ((corebankref46_SameAll.f k t225 t229).bind fun t234 => (corebanklaw46_AccessChanges.j0 k l0 t217 t218 t225 (!t234))) = some r := by rw [if_pos rfl] at H; exact H
            clear H
            have H := H1
            clear H1
            replace H := Option.bind_eq_some_iff.mp H
            obtain ⟨t234, A190, H⟩ := H
            replace H : (corebanklaw46_AccessChanges.j0 k l0 t217 t218 t225 (!t234)) = some r := H
            have A19 := Aside0.mk A190
            clear A190
            have H' := Aside0.mk H
            clear H
            obtain ⟨Ao20, co20, eo20⟩ := Kd.R_slice HO220.out
            subst eo20
            obtain ⟨Ao21, co21, eo21⟩ := Kd.R_slice HO224.out
            subst eo21
            go_wp2_with (first | (go_at_call 21; (with_reducible refine (corebankref46_SameAll.calls k _ _ t217 _ _ t221 true _ ?side1 ?side2 ?side3 ?side4 A17.out).mono ?_); (case side1 => repeat (first | exact (Kd.R_reads' HO220.out).2.2 | (with_reducible refine Kd.C_alloc ?_ _) | (with_reducible refine Kd.C_drewN ?_ _) | (with_reducible refine Kd.C_drew ?_))); (case side2 => exact (Kd.R_reads' HO220.out).2.1); (case side3 => repeat (first | exact (Kd.R_reads' HO224.out).2.2 | (with_reducible refine Kd.C_alloc ?_ _) | (with_reducible refine Kd.C_drewN ?_ _) | (with_reducible refine Kd.C_drew ?_))); (case side4 => exact (Kd.R_reads' HO224.out).2.1); rintro e w' ⟨rfl, ⟨nd, rfl⟩⟩; obtain ⟨Ao22, co22, eo22⟩ := Kd.R_slice HO228.out; subst eo22; obtain ⟨Ao23, co23, eo23⟩ := Kd.R_slice HO232.out; subst eo23) | (go_at_call 21; (with_reducible refine (corebankref46_SameAll.calls k _ _ t225 _ _ t229 t234 _ ?side1 ?side2 ?side3 ?side4 A19.out).mono ?_); (case side1 => repeat (first | exact (Kd.R_reads' HO228.out).2.2 | (with_reducible refine Kd.C_alloc ?_ _) | (with_reducible refine Kd.C_drewN ?_ _) | (with_reducible refine Kd.C_drew ?_))); (case side2 => exact (Kd.R_reads' HO228.out).2.1); (case side3 => repeat (first | exact (Kd.R_reads' HO232.out).2.2 | (with_reducible refine Kd.C_alloc ?_ _) | (with_reducible refine Kd.C_drewN ?_ _) | (with_reducible refine Kd.C_drew ?_))); (case side4 => exact (Kd.R_reads' HO232.out).2.1); rintro e w' ⟨rfl, ⟨nd, rfl⟩⟩))
            go_meet
            case rel => exact ⟨_, (!t234), (by first | rfl | (simp; done) | (simp [*]; done)), H', ⟨by first | omega | exact Nat.le_refl _⟩, ⟨by (with_reducible repeat (first | apply Kd.R_alloc | apply Kd.R_drewN | apply Kd.R_drew)); exact Kd.R_mono HO220.out (fun _ hk => hk.1.2)⟩, ⟨by (with_reducible repeat (first | apply Kd.R_alloc | apply Kd.R_drewN | apply Kd.R_drew)); exact Kd.R_mono HO228.out (fun _ hk => hk.1.1.2)⟩, ⟨by repeat (first | (with_reducible first | exact HB.out | apply below_alloc | apply pw_below_drewN | apply below_drew1) | exact HB.out)⟩⟩
          · replace c18 := Bool.eq_false_iff.mpr c18
            subst c18
            have H1 : (corebanklaw46_AccessChanges.j0 k l0 t217 t218 t225 true) = some r := by rw [if_neg (show ¬ (false = true) by decide)] at H; exact H
            clear H
            have H := H1
            clear H1
            have H' := Aside0.mk H
            clear H
            obtain ⟨Ao24, co24, eo24⟩ := Kd.R_slice HO220.out
            subst eo24
            obtain ⟨Ao25, co25, eo25⟩ := Kd.R_slice HO224.out
            subst eo25
            go_wp2_with (first | (go_at_call 21; (with_reducible refine (corebankref46_SameAll.calls k _ _ t217 _ _ t221 false _ ?side1 ?side2 ?side3 ?side4 A17.out).mono ?_); (case side1 => repeat (first | exact (Kd.R_reads' HO220.out).2.2 | (with_reducible refine Kd.C_alloc ?_ _) | (with_reducible refine Kd.C_drewN ?_ _) | (with_reducible refine Kd.C_drew ?_))); (case side2 => exact (Kd.R_reads' HO220.out).2.1); (case side3 => repeat (first | exact (Kd.R_reads' HO224.out).2.2 | (with_reducible refine Kd.C_alloc ?_ _) | (with_reducible refine Kd.C_drewN ?_ _) | (with_reducible refine Kd.C_drew ?_))); (case side4 => exact (Kd.R_reads' HO224.out).2.1); rintro e w' ⟨rfl, ⟨nd, rfl⟩⟩))
            go_meet
            case rel => exact ⟨_, (true), (by first | rfl | (simp; done) | (simp [*]; done)), H', ⟨by first | omega | exact Nat.le_refl _⟩, ⟨by (with_reducible repeat (first | apply Kd.R_alloc | apply Kd.R_drewN | apply Kd.R_drew)); exact Kd.R_mono HO220.out (fun _ hk => hk.1.2)⟩, ⟨by (with_reducible repeat (first | apply Kd.R_alloc | apply Kd.R_drewN | apply Kd.R_drew)); exact Kd.R_mono HO228.out (fun _ hk => hk.1.1.2)⟩, ⟨by repeat (first | (with_reducible first | exact HB.out | apply below_alloc | apply pw_below_drewN | apply below_drew1) | exact HB.out)⟩⟩
        · rw [if_neg c16] at H
          have c16b0 : (t226 == t230) = false := beq_eq_false_iff_ne.mpr c16
          have c16b1 : (t226 != t230) = true := bne_iff_ne.mpr c16
          have H' := Aside0.mk H
          clear H
          go_wp2
          go_meet
          case rel => exact ⟨_, (true), (by first | rfl | (simp; done) | (simp [*]; done)), H', ⟨by first | omega | exact Nat.le_refl _⟩, ⟨by (with_reducible repeat (first | apply Kd.R_alloc | apply Kd.R_drewN | apply Kd.R_drew)); exact Kd.R_mono HO220.out (fun _ hk => hk.1.2)⟩, ⟨by (with_reducible repeat (first | apply Kd.R_alloc | apply Kd.R_drewN | apply Kd.R_drew)); exact Kd.R_mono HO228.out (fun _ hk => hk.1.1.2)⟩, ⟨by repeat (first | (with_reducible first | exact HB.out | apply below_alloc | apply pw_below_drewN | apply below_drew1) | exact HB.out)⟩⟩
      · rw [if_neg c15] at H
        have c15b0 : (t218 == t222) = false := beq_eq_false_iff_ne.mpr c15
        have c15b1 : (t218 != t222) = true := bne_iff_ne.mpr c15
        (first | rw [c15b0] | (simp only [i64_w, i32_w]; rw [c15b0]) | skip)
        have H' := Aside0.mk H
        clear H
        go_wp2
        go_meet
        case rel => exact ⟨_, (true), (by first | rfl | (simp; done) | (simp [*]; done)), H', ⟨by first | omega | exact Nat.le_refl _⟩, ⟨by (with_reducible repeat (first | apply Kd.R_alloc | apply Kd.R_drewN | apply Kd.R_drew)); exact Kd.R_mono HO220.out (fun _ hk => hk.1.2)⟩, ⟨by (with_reducible repeat (first | apply Kd.R_alloc | apply Kd.R_drewN | apply Kd.R_drew)); exact Kd.R_mono HO228.out (fun _ hk => hk.1.1.2)⟩, ⟨by repeat (first | (with_reducible first | exact HB.out | apply below_alloc | apply pw_below_drewN | apply below_drew1) | exact HB.out)⟩⟩
    case rest =>
      clear HC10
      try clear c1
      try clear c2
      try clear p2
      try clear c5
      try clear c7
      try clear c15
      try clear c15b0
      try clear c15b1
      try clear c16
      try clear c16b0
      try clear c16b1
      try clear c17
      try clear c18
      try clear c19
      try clear c20
      obtain ⟨kq, x64_9, rfl, HA, HJ9, HO_7, HO_11, HB⟩ := hcut
      cases kq with
      | zero => exact absurd HA.out (by simp [corebanklaw46_AccessChanges.j0])
      | succ kj9 =>
        have H := HA.out
        clear HA
        simp only [corebanklaw46_AccessChanges.j0] at H
        by_cases c26 : x64_9 = true
        · subst c26
          have H1 : (none) = some r := by rw [if_pos rfl] at H; exact H
          clear H
          have H := H1
          clear H1
          exact absurd H (by simp)
        · replace c26 := Bool.eq_false_iff.mpr c26
          subst c26
          have H1 : (if t218 = 0 then ((access_Check.f kj9 l0).bind fun t235 => (if t235 = 0 then ((access_Check.f kj9 t217).bind fun t236 => (if t236 = 0 then ((access_Check.f kj9 t225).bind fun t237 => (if t237 = 0 then ((corebanklaw46_live.f kj9).bind fun t238 => (some t238)) else (none))) else (none))) else ((corebanklaw46_live.f kj9).bind fun t239 => (some t239)))) else ((corebanklaw46_live.f kj9).bind fun t240 => (some t240))) = some r := by rw [if_neg (show ¬ (false = true) by decide)] at H; exact H
          clear H
          have H := H1
          clear H1
          by_cases c27 : t218 = 0
          · rw [if_pos c27] at H
            have c27b0 : (t218 == 0) = true := beq_iff_eq.mpr c27
            have c27b1 : (t218 != 0) = false := bne_eq_false_iff_eq.mpr c27
            clear c27
            replace H := Option.bind_eq_some_iff.mp H
            obtain ⟨t235, A280, H⟩ := H
            replace H : (if t235 = 0 then ((access_Check.f kj9 t217).bind fun t236 => (if t236 = 0 then ((access_Check.f kj9 t225).bind fun t237 => (if t237 = 0 then ((corebanklaw46_live.f kj9).bind fun t238 => (some t238)) else (none))) else (none))) else ((corebanklaw46_live.f kj9).bind fun t239 => (some t239))) = some r := H
            have A28 := Aside0.mk A280
            clear A280
            by_cases c29 : t235 = 0
            · rw [if_pos c29] at H
              have c29b0 : (t235 == 0) = true := beq_iff_eq.mpr c29
              have c29b1 : (t235 != 0) = false := bne_eq_false_iff_eq.mpr c29
              clear c29
              replace H := Option.bind_eq_some_iff.mp H
              obtain ⟨t236, A300, H⟩ := H
              replace H : (if t236 = 0 then ((access_Check.f kj9 t225).bind fun t237 => (if t237 = 0 then ((corebanklaw46_live.f kj9).bind fun t238 => (some t238)) else (none))) else (none)) = some r := H
              have A30 := Aside0.mk A300
              clear A300
              by_cases c31 : t236 = 0
              · rw [if_pos c31] at H
                have c31b0 : (t236 == 0) = true := beq_iff_eq.mpr c31
                have c31b1 : (t236 != 0) = false := bne_eq_false_iff_eq.mpr c31
                clear c31
                replace H := Option.bind_eq_some_iff.mp H
                obtain ⟨t237, A320, H⟩ := H
                replace H : (if t237 = 0 then ((corebanklaw46_live.f kj9).bind fun t238 => (some t238)) else (none)) = some r := H
                have A32 := Aside0.mk A320
                clear A320
                by_cases c33 : t237 = 0
                · rw [if_pos c33] at H
                  have c33b0 : (t237 == 0) = true := beq_iff_eq.mpr c33
                  have c33b1 : (t237 != 0) = false := bne_eq_false_iff_eq.mpr c33
                  clear c33
                  replace H := Option.bind_eq_some_iff.mp H
                  obtain ⟨t238, A340, H⟩ := H
                  replace H : (some t238) = some r := H
                  have A34 := Aside0.mk A340
                  clear A340
                  obtain rfl := Option.some.inj H
                  go_wp2_with (first | (go_at_call 10; (with_reducible refine (access_Check.calls kj9 _ _ l0 t235 _ ?side1 ?side2 A28.out).mono ?_); (case side1 => repeat (first | exact (Kd.C_below HR0.out HB.out) | (with_reducible refine Kd.C_alloc ?_ _) | (with_reducible refine Kd.C_drewN ?_ _) | (with_reducible refine Kd.C_drew ?_))); (case side2 => exact HC0.out); rintro e w35 ⟨rfl, hb⟩; have n0_ := Aside0.mk (Kd.R_below (by (with_reducible repeat (first | apply Kd.R_alloc | apply Kd.R_drewN | apply Kd.R_drew)); exact HO_7.out) hb); have n1_ := Aside0.mk (Kd.R_below (by (with_reducible repeat (first | apply Kd.R_alloc | apply Kd.R_drewN | apply Kd.R_drew)); exact HO_11.out) hb); have n2_ := Aside0.mk (below_step (by repeat (first | (with_reducible first | exact HB.out | apply below_alloc | apply pw_below_drewN | apply below_drew1) | exact HB.out)) hb); clear HO_7; clear HO_11; clear HB; have HO_7 := n0_; have HO_11 := n1_; have HB := n2_; clear n0_ n1_ n2_; (try clear hb); (try clear hb2); (try clear hk); (try clear hi); obtain ⟨Ao36, co36, eo36⟩ := Kd.R_slice HO_7.out; subst eo36) | (go_at_call 10; (with_reducible refine (access_Check.calls kj9 _ _ t217 t236 _ ?side1 ?side2 A30.out).mono ?_); (case side1 => repeat (first | exact (Kd.R_reads' HO_7.out).2.2 | (with_reducible refine Kd.C_alloc ?_ _) | (with_reducible refine Kd.C_drewN ?_ _) | (with_reducible refine Kd.C_drew ?_))); (case side2 => exact (Kd.R_reads' HO_7.out).2.1); rintro e w37 ⟨rfl, hb⟩; have n0_ := Aside0.mk (Kd.R_below (by (with_reducible repeat (first | apply Kd.R_alloc | apply Kd.R_drewN | apply Kd.R_drew)); exact HO_7.out) hb); have n1_ := Aside0.mk (Kd.R_below (by (with_reducible repeat (first | apply Kd.R_alloc | apply Kd.R_drewN | apply Kd.R_drew)); exact HO_11.out) hb); have n2_ := Aside0.mk (below_step (by repeat (first | (with_reducible first | exact HB.out | apply below_alloc | apply pw_below_drewN | apply below_drew1) | exact HB.out)) hb); clear HO_7; clear HO_11; clear HB; have HO_7 := n0_; have HO_11 := n1_; have HB := n2_; clear n0_ n1_ n2_; (try clear hb); (try clear hb2); (try clear hk); (try clear hi); obtain ⟨Ao38, co38, eo38⟩ := Kd.R_slice HO_11.out; subst eo38) | (go_at_call 10; (with_reducible refine (access_Check.calls kj9 _ _ t225 t237 _ ?side1 ?side2 A32.out).mono ?_); (case side1 => repeat (first | exact (Kd.R_reads' HO_11.out).2.2 | (with_reducible refine Kd.C_alloc ?_ _) | (with_reducible refine Kd.C_drewN ?_ _) | (with_reducible refine Kd.C_drew ?_))); (case side2 => exact (Kd.R_reads' HO_11.out).2.1); rintro e w39 ⟨rfl, hb⟩; have n0_ := Aside0.mk (Kd.R_below (by (with_reducible repeat (first | apply Kd.R_alloc | apply Kd.R_drewN | apply Kd.R_drew)); exact HO_7.out) hb); have n1_ := Aside0.mk (Kd.R_below (by (with_reducible repeat (first | apply Kd.R_alloc | apply Kd.R_drewN | apply Kd.R_drew)); exact HO_11.out) hb); have n2_ := Aside0.mk (below_step (by repeat (first | (with_reducible first | exact HB.out | apply below_alloc | apply pw_below_drewN | apply below_drew1) | exact HB.out)) hb); clear HO_7; clear HO_11; clear HB; have HO_7 := n0_; have HO_11 := n1_; have HB := n2_; clear n0_ n1_ n2_; (try clear hb); (try clear hb2); (try clear hk); (try clear hi)) | (go_at_call 12; (with_reducible refine (corebanklaw46_live.calls kj9  t238 _ A34.out).mono ?_); rintro e w40 ⟨rfl, hb⟩; have n0_ := Aside0.mk (Kd.R_below (by (with_reducible repeat (first | apply Kd.R_alloc | apply Kd.R_drewN | apply Kd.R_drew)); exact HO_7.out) hb); have n1_ := Aside0.mk (Kd.R_below (by (with_reducible repeat (first | apply Kd.R_alloc | apply Kd.R_drewN | apply Kd.R_drew)); exact HO_11.out) hb); have n2_ := Aside0.mk (below_step (by repeat (first | (with_reducible first | exact HB.out | apply below_alloc | apply pw_below_drewN | apply below_drew1) | exact HB.out)) hb); clear HO_7; clear HO_11; clear HB; have HO_7 := n0_; have HO_11 := n1_; have HB := n2_; clear n0_ n1_ n2_; (try clear hb); (try clear hb2); (try clear hk); (try clear hi)))
                  go_ret
                  exact ⟨by first | rfl | (simp [errW_none, errW_some] <;> rfl) | (simp [*, errW_none, errW_some] <;> rfl), by repeat (first | (with_reducible first | exact HB.out | apply below_alloc | apply pw_below_drewN | apply below_drew1) | exact HB.out)⟩
                · rw [if_neg c33] at H
                  exact absurd H (by simp)
              · rw [if_neg c31] at H
                exact absurd H (by simp)
            · rw [if_neg c29] at H
              have c29b0 : (t235 == 0) = false := beq_eq_false_iff_ne.mpr c29
              have c29b1 : (t235 != 0) = true := bne_iff_ne.mpr c29
              replace H := Option.bind_eq_some_iff.mp H
              obtain ⟨t239, A410, H⟩ := H
              replace H : (some t239) = some r := H
              have A41 := Aside0.mk A410
              clear A410
              obtain rfl := Option.some.inj H
              go_wp2_with (first | (go_at_call 10; (with_reducible refine (access_Check.calls kj9 _ _ l0 t235 _ ?side1 ?side2 A28.out).mono ?_); (case side1 => repeat (first | exact (Kd.C_below HR0.out HB.out) | (with_reducible refine Kd.C_alloc ?_ _) | (with_reducible refine Kd.C_drewN ?_ _) | (with_reducible refine Kd.C_drew ?_))); (case side2 => exact HC0.out); rintro e w42 ⟨rfl, hb⟩; have n0_ := Aside0.mk (Kd.R_below (by (with_reducible repeat (first | apply Kd.R_alloc | apply Kd.R_drewN | apply Kd.R_drew)); exact HO_7.out) hb); have n1_ := Aside0.mk (Kd.R_below (by (with_reducible repeat (first | apply Kd.R_alloc | apply Kd.R_drewN | apply Kd.R_drew)); exact HO_11.out) hb); have n2_ := Aside0.mk (below_step (by repeat (first | (with_reducible first | exact HB.out | apply below_alloc | apply pw_below_drewN | apply below_drew1) | exact HB.out)) hb); clear HO_7; clear HO_11; clear HB; have HO_7 := n0_; have HO_11 := n1_; have HB := n2_; clear n0_ n1_ n2_; (try clear hb); (try clear hb2); (try clear hk); (try clear hi)) | (go_at_call 12; (with_reducible refine (corebanklaw46_live.calls kj9  t239 _ A41.out).mono ?_); rintro e w43 ⟨rfl, hb⟩; have n0_ := Aside0.mk (Kd.R_below (by (with_reducible repeat (first | apply Kd.R_alloc | apply Kd.R_drewN | apply Kd.R_drew)); exact HO_7.out) hb); have n1_ := Aside0.mk (Kd.R_below (by (with_reducible repeat (first | apply Kd.R_alloc | apply Kd.R_drewN | apply Kd.R_drew)); exact HO_11.out) hb); have n2_ := Aside0.mk (below_step (by repeat (first | (with_reducible first | exact HB.out | apply below_alloc | apply pw_below_drewN | apply below_drew1) | exact HB.out)) hb); clear HO_7; clear HO_11; clear HB; have HO_7 := n0_; have HO_11 := n1_; have HB := n2_; clear n0_ n1_ n2_; (try clear hb); (try clear hb2); (try clear hk); (try clear hi)))
              go_ret
              exact ⟨by first | rfl | (simp [errW_none, errW_some] <;> rfl) | (simp [*, errW_none, errW_some] <;> rfl), by repeat (first | (with_reducible first | exact HB.out | apply below_alloc | apply pw_below_drewN | apply below_drew1) | exact HB.out)⟩
          · rw [if_neg c27] at H
            have c27b0 : (t218 == 0) = false := beq_eq_false_iff_ne.mpr c27
            have c27b1 : (t218 != 0) = true := bne_iff_ne.mpr c27
            replace H := Option.bind_eq_some_iff.mp H
            obtain ⟨t240, A440, H⟩ := H
            replace H : (some t240) = some r := H
            have A44 := Aside0.mk A440
            clear A440
            obtain rfl := Option.some.inj H
            go_wp2_with (first | (go_at_call 12; (with_reducible refine (corebanklaw46_live.calls kj9  t240 _ A44.out).mono ?_); rintro e w45 ⟨rfl, hb⟩; have n0_ := Aside0.mk (Kd.R_below (by (with_reducible repeat (first | apply Kd.R_alloc | apply Kd.R_drewN | apply Kd.R_drew)); exact HO_7.out) hb); have n1_ := Aside0.mk (Kd.R_below (by (with_reducible repeat (first | apply Kd.R_alloc | apply Kd.R_drewN | apply Kd.R_drew)); exact HO_11.out) hb); have n2_ := Aside0.mk (below_step (by repeat (first | (with_reducible first | exact HB.out | apply below_alloc | apply pw_below_drewN | apply below_drew1) | exact HB.out)) hb); clear HO_7; clear HO_11; clear HB; have HO_7 := n0_; have HO_11 := n1_; have HB := n2_; clear n0_ n1_ n2_; (try clear hb); (try clear hb2); (try clear hk); (try clear hi)))
            go_ret
            exact ⟨by first | rfl | (simp [errW_none, errW_some] <;> rfl) | (simp [*, errW_none, errW_some] <;> rfl), by repeat (first | (with_reducible first | exact HB.out | apply below_alloc | apply pw_below_drewN | apply below_drew1) | exact HB.out)⟩

end Go.Proofs.Ytclllkbngkohlaa.X
