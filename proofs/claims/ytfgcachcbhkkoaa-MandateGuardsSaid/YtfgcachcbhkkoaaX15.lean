-- Written by program (wip/tools/xprint.sh) for this seat; not trusted: Lean checks it.
import Derived.Test.YtfgcachcbhkkoaaX0
import Derived.Test.YtfgcachcbhkkoaaX5
import Derived.Test.YtfgcachcbhkkoaaX10
import Derived.Test.YtfgcachcbhkkoaaX12
import Derived.Test.YtfgcachcbhkkoaaX13
import Derived.Test.YtfgcachcbhkkoaaX14
namespace Go.Proofs.Ytfgcachcbhkkoaa.X
open Go.RowKit Go.Proofs.YtfgcachcbhkkoaaW.PrintWords Go.Proofs.YtfgcachcbhkkoaaW.PrintLast Go.Proofs.YtfgcachcbhkkoaaW.PrintMore
attribute [local go_sem] max2_int min2_int max_two min_two max_three min_three max_four min_four   -- for this text's walks alone
set_option linter.unusedVariables false
set_option linter.unusedSimpArgs false

/-! ### corebanklaw41_live: function 12 -/
def corebanklaw41_live.j0 : Nat → List (S28) → List (S28) → List (S28) → Bool → Int → Int → Int → Int → Int → Int → ByteArray → Option (Bool)
  | 0, _, _, _, _, _, _, _, _, _, _, _ => none
  | k + 1, x2, x4, x6, x48, x166000, x166001, x166002, x166003, x166004, x166005, x166006 => if x48 = true then (none) else ((mandate_Check.f k x4).bind fun t178 => (if t178 = 0 then ((mandate_Allows.f k x2 1 500 10).bind fun t179 => (if t179 = 0 then ((mandate_Allows.f k x2 1 501 10).bind fun t180 => (if t180 = 18 then ((mandate_Allows.f k x2 1 5 9).bind fun t181 => (if t181 = 17 then ((mandate_Allows.f k x2 1 500 1107).bind fun t182 => (if t182 = 23 then ((mandate_Allows.f k x6 1 500 1116).bind fun t183 => (if t183 = 0 then ((mandate_Allows.f k x4 1 5 30).bind fun t184 => (if t184 = 17 then ((mandate_Allows.f k x4 1 5 29).bind fun t185 => (if t185 = 0 then ((mandate_Expired.f x166000 x166001 x166002 x166003 x166004 x166005 x166006 1107).bind fun t186 => (if t186 = true then ((mandate_Expired.f x166000 x166001 x166002 x166003 x166004 x166005 x166006 1106).bind fun t187 => (some (!t187))) else (none))) else (none))) else (none))) else (none))) else (none))) else (none))) else (none))) else (none))) else (none)))
def corebanklaw41_live.f (k : Nat)  : Option (Bool) := (mandate_Sign.f k ([] : List (S28)) 1 1000 500 10 0 0 (⟨#[103, 97, 115]⟩ : ByteArray)).bind fun bt166 => ((mandate_Revoke.f k bt166.1 1 30).bind fun bt170 => ((mandate_Use.f k bt166.1 1 20).bind fun bt174 => (if bt166.2 = 0 then (if bt170.2 = 0 then (if bt174.2 = 0 then (if (bt166.1.length : Int) = 1 then (if (bt170.1.length : Int) = 1 then (corebanklaw41_live.j0 k bt166.1 bt170.1 bt174.1 ((bt174.1.length : Int) != 1) 1 1000 500 10 0 0 (⟨#[103, 97, 115]⟩ : ByteArray)) else (corebanklaw41_live.j0 k bt166.1 bt170.1 bt174.1 true 1 1000 500 10 0 0 (⟨#[103, 97, 115]⟩ : ByteArray))) else (corebanklaw41_live.j0 k bt166.1 bt170.1 bt174.1 true 1 1000 500 10 0 0 (⟨#[103, 97, 115]⟩ : ByteArray))) else (corebanklaw41_live.j0 k bt166.1 bt170.1 bt174.1 true 1 1000 500 10 0 0 (⟨#[103, 97, 115]⟩ : ByteArray))) else (corebanklaw41_live.j0 k bt166.1 bt170.1 bt174.1 true 1 1000 500 10 0 0 (⟨#[103, 97, 115]⟩ : ByteArray))) else (corebanklaw41_live.j0 k bt166.1 bt170.1 bt174.1 true 1 1000 500 10 0 0 (⟨#[103, 97, 115]⟩ : ByteArray)))))
theorem corebanklaw41_live.mono_l : ∀ k, (∀ y0 y1 y2 y3 y4 y5 y6 y7 y8 y9 y10, LeO (corebanklaw41_live.j0 k y0 y1 y2 y3 y4 y5 y6 y7 y8 y9 y10) (corebanklaw41_live.j0 (k + 1) y0 y1 y2 y3 y4 y5 y6 y7 y8 y9 y10))
  | 0 => fun _ _ _ _ _ _ _ _ _ _ _ r h => by simp [corebanklaw41_live.j0] at h
  | k + 1 => by
    have ih0 := corebanklaw41_live.mono_l k
    · intro y0 y1 y2 y3 y4 y5 y6 y7 y8 y9 y10
      unfold corebanklaw41_live.j0
      repeat' first
      | (with_reducible exact ih0 _ _ _ _ _ _ _ _ _ _ _)
      | (with_reducible exact mandate_Allows.mono _ _ _ _ _)
      | (with_reducible exact mandate_Check.mono _ _)
      | (with_reducible exact mandate_Revoke.mono _ _ _ _)
      | (with_reducible exact mandate_Sign.mono _ _ _ _ _ _ _ _ _)
      | (with_reducible exact mandate_Use.mono _ _ _ _)
      | (with_reducible exact LeO.refl _)
      | (with_reducible exact LeO.none _)
      | (with_reducible refine LeO.ite ?_ ?_)
      | (with_reducible refine LeO.bind ?_ (fun _ => ?_))
      | exact ih0 _ _ _ _ _ _ _ _ _ _ _
      | exact mandate_Allows.mono _ _ _ _ _
      | exact mandate_Check.mono _ _
      | exact mandate_Revoke.mono _ _ _ _
      | exact mandate_Sign.mono _ _ _ _ _ _ _ _ _
      | exact mandate_Use.mono _ _ _ _
      | exact LeO.none _
      | refine LeO.ite ?_ ?_
      | refine LeO.bind ?_ (fun _ => ?_)
theorem corebanklaw41_live.mono : ∀ k, LeO (corebanklaw41_live.f k ) (corebanklaw41_live.f (k + 1) ) := by
  intro  k
  have ih0 := corebanklaw41_live.mono_l k
  unfold corebanklaw41_live.f
  repeat' first
      | (with_reducible exact ih0 _ _ _ _ _ _ _ _ _ _ _)
      | (with_reducible exact mandate_Allows.mono _ _ _ _ _)
      | (with_reducible exact mandate_Check.mono _ _)
      | (with_reducible exact mandate_Revoke.mono _ _ _ _)
      | (with_reducible exact mandate_Sign.mono _ _ _ _ _ _ _ _ _)
      | (with_reducible exact mandate_Use.mono _ _ _ _)
      | (with_reducible exact LeO.refl _)
      | (with_reducible exact LeO.none _)
      | (with_reducible refine LeO.ite ?_ ?_)
      | (with_reducible refine LeO.bind ?_ (fun _ => ?_))
      | exact ih0 _ _ _ _ _ _ _ _ _ _ _
      | exact mandate_Allows.mono _ _ _ _ _
      | exact mandate_Check.mono _ _
      | exact mandate_Revoke.mono _ _ _ _
      | exact mandate_Sign.mono _ _ _ _ _ _ _ _ _
      | exact mandate_Use.mono _ _ _ _
      | exact LeO.none _
      | refine LeO.ite ?_ ?_
      | refine LeO.bind ?_ (fun _ => ?_)
set_option maxHeartbeats 8000000 in
set_option maxRecDepth 100000 in
theorem corebanklaw41_live.calls (k : Nat)  (r : Bool) (w : World) (h : corebanklaw41_live.f k  = some r) :
  Calls Try.prog 12 #[] w fun e w' => e = .returned (.bool r) ∧ Below w.heap.size w w' := by
 have hu28 := Try.underlying28
 have HB := Aside0.mk (Below.refl w.heap.size w)
 have H : ((mandate_Sign.f k ([] : List (S28)) 1 1000 500 10 0 0 (⟨#[103, 97, 115]⟩ : ByteArray)).bind fun bt166 => ((mandate_Revoke.f k bt166.1 1 30).bind fun bt170 => ((mandate_Use.f k bt166.1 1 20).bind fun bt174 => (if bt166.2 = 0 then (if bt170.2 = 0 then (if bt174.2 = 0 then (if (bt166.1.length : Int) = 1 then (if (bt170.1.length : Int) = 1 then (corebanklaw41_live.j0 k bt166.1 bt170.1 bt174.1 ((bt174.1.length : Int) != 1) 1 1000 500 10 0 0 (⟨#[103, 97, 115]⟩ : ByteArray)) else (corebanklaw41_live.j0 k bt166.1 bt170.1 bt174.1 true 1 1000 500 10 0 0 (⟨#[103, 97, 115]⟩ : ByteArray))) else (corebanklaw41_live.j0 k bt166.1 bt170.1 bt174.1 true 1 1000 500 10 0 0 (⟨#[103, 97, 115]⟩ : ByteArray))) else (corebanklaw41_live.j0 k bt166.1 bt170.1 bt174.1 true 1 1000 500 10 0 0 (⟨#[103, 97, 115]⟩ : ByteArray))) else (corebanklaw41_live.j0 k bt166.1 bt170.1 bt174.1 true 1 1000 500 10 0 0 (⟨#[103, 97, 115]⟩ : ByteArray))) else (corebanklaw41_live.j0 k bt166.1 bt170.1 bt174.1 true 1 1000 500 10 0 0 (⟨#[103, 97, 115]⟩ : ByteArray)))))) = some r := h
 clear h
 replace H := Option.bind_eq_some_iff.mp H
 obtain ⟨⟨t166, t169⟩, A10, H⟩ := H
 replace H : ((mandate_Revoke.f k t166 1 30).bind fun bt170 => ((mandate_Use.f k t166 1 20).bind fun bt174 => (if t169 = 0 then (if bt170.2 = 0 then (if bt174.2 = 0 then (if (t166.length : Int) = 1 then (if (bt170.1.length : Int) = 1 then (corebanklaw41_live.j0 k t166 bt170.1 bt174.1 ((bt174.1.length : Int) != 1) 1 1000 500 10 0 0 (⟨#[103, 97, 115]⟩ : ByteArray)) else (corebanklaw41_live.j0 k t166 bt170.1 bt174.1 true 1 1000 500 10 0 0 (⟨#[103, 97, 115]⟩ : ByteArray))) else (corebanklaw41_live.j0 k t166 bt170.1 bt174.1 true 1 1000 500 10 0 0 (⟨#[103, 97, 115]⟩ : ByteArray))) else (corebanklaw41_live.j0 k t166 bt170.1 bt174.1 true 1 1000 500 10 0 0 (⟨#[103, 97, 115]⟩ : ByteArray))) else (corebanklaw41_live.j0 k t166 bt170.1 bt174.1 true 1 1000 500 10 0 0 (⟨#[103, 97, 115]⟩ : ByteArray))) else (corebanklaw41_live.j0 k t166 bt170.1 bt174.1 true 1 1000 500 10 0 0 (⟨#[103, 97, 115]⟩ : ByteArray))))) = some r := H
 have A1 := Aside0.mk A10
 clear A10
 replace H := Option.bind_eq_some_iff.mp H
 obtain ⟨⟨t170, t171⟩, A20, H⟩ := H
 replace H : ((mandate_Use.f k t166 1 20).bind fun bt174 => (if t169 = 0 then (if t171 = 0 then (if bt174.2 = 0 then (if (t166.length : Int) = 1 then (if (t170.length : Int) = 1 then (corebanklaw41_live.j0 k t166 t170 bt174.1 ((bt174.1.length : Int) != 1) 1 1000 500 10 0 0 (⟨#[103, 97, 115]⟩ : ByteArray)) else (corebanklaw41_live.j0 k t166 t170 bt174.1 true 1 1000 500 10 0 0 (⟨#[103, 97, 115]⟩ : ByteArray))) else (corebanklaw41_live.j0 k t166 t170 bt174.1 true 1 1000 500 10 0 0 (⟨#[103, 97, 115]⟩ : ByteArray))) else (corebanklaw41_live.j0 k t166 t170 bt174.1 true 1 1000 500 10 0 0 (⟨#[103, 97, 115]⟩ : ByteArray))) else (corebanklaw41_live.j0 k t166 t170 bt174.1 true 1 1000 500 10 0 0 (⟨#[103, 97, 115]⟩ : ByteArray))) else (corebanklaw41_live.j0 k t166 t170 bt174.1 true 1 1000 500 10 0 0 (⟨#[103, 97, 115]⟩ : ByteArray)))) = some r := H
 have A2 := Aside0.mk A20
 clear A20
 replace H := Option.bind_eq_some_iff.mp H
 obtain ⟨⟨t174, t175⟩, A30, H⟩ := H
 replace H : (if t169 = 0 then (if t171 = 0 then (if t175 = 0 then (if (t166.length : Int) = 1 then (if (t170.length : Int) = 1 then (corebanklaw41_live.j0 k t166 t170 t174 ((t174.length : Int) != 1) 1 1000 500 10 0 0 (⟨#[103, 97, 115]⟩ : ByteArray)) else (corebanklaw41_live.j0 k t166 t170 t174 true 1 1000 500 10 0 0 (⟨#[103, 97, 115]⟩ : ByteArray))) else (corebanklaw41_live.j0 k t166 t170 t174 true 1 1000 500 10 0 0 (⟨#[103, 97, 115]⟩ : ByteArray))) else (corebanklaw41_live.j0 k t166 t170 t174 true 1 1000 500 10 0 0 (⟨#[103, 97, 115]⟩ : ByteArray))) else (corebanklaw41_live.j0 k t166 t170 t174 true 1 1000 500 10 0 0 (⟨#[103, 97, 115]⟩ : ByteArray))) else (corebanklaw41_live.j0 k t166 t170 t174 true 1 1000 500 10 0 0 (⟨#[103, 97, 115]⟩ : ByteArray))) = some r := H
 have A3 := Aside0.mk A30
 clear A30
 have HC4 := Aside0.mk H
 clear H
 go_enter Try.func12, Try.ntmps12
 go_upto_region 5 with (first | ((with_reducible refine gate_dst (N := 1) rfl ?_); (try (refine gate_guard (by rfl) ?_; dsimp only)); refine box_event ?hg (N := 1) ?hd (cs := #[.int .i64 0, .int .i64 0, .int .i64 0, .int .i64 0, .int .i64 0, .int .i64 0, .string (⟨#[]⟩ : ByteArray)]) (t := 28) ?hr ?_; (case hd => rfl); (case hg => rfl); (case hr => first | (go_simp; done) | (go_simp; rfl)); intro gb165 hg w5 hbox hb; have n0_ := Aside0.mk (below_step (by repeat (with_reducible first | exact HB.out | apply below_alloc | apply pw_below_drewN | apply below_drew1)) hb); have n1_ := Aside0.mk (hbox); have n2_ := Aside0.mk ((by rw [hg]; exact (below_size (by repeat (with_reducible first | exact HB.out | apply below_alloc | apply pw_below_drewN | apply below_drew1))) : w.heap.size ≤ gb165)); have n3_ := n2_; clear HB; have HB := n0_; have BK165 := n1_; have GW165 := n2_; have GE165 := n3_; clear n0_ n1_ n2_ n3_; clear hb hbox hg; have hcz6 := blk_cell BK165.out; have hfz6 := blk_frozen BK165.out) | ((with_reducible refine gate_callee (f := 13) rfl ?_); refine goesL_ (some 11) rfl rfl Try.func13 (by kernel_rfl) rfl #[.slice none 0 0, .agg #[.int .i64 1, .int .i64 1000, .int .i64 500, .int .i64 10, .int .i64 0, .int .i64 0, .string (⟨#[103, 97, 115]⟩ : ByteArray)]] rfl (by (try simp only [List.map_toArray, List.map_cons, List.map_nil]); first | done | rfl | (simp only [List.length_drop, List.length_take]; rfl)) ?_; (refine (mandate_Sign.calls k _ _ ([] : List (S28)) 1 1000 500 10 0 0 (⟨#[103, 97, 115]⟩ : ByteArray) t166 t169 _ ?side1 ?side2 A1.out).mono ?_); (case side1 => exact Kd.C_nil _ _); (case side2 => exact Nat.le_refl _); rintro e w7 ⟨v167, rfl, ho0, hb⟩; refine ⟨_, rfl, ?_⟩; have n0_ := Aside0.mk (Kd.R_lower (Kd.R_newB ho0 (g := gb165) (o := .cells #[.int .i64 1, .int .i64 1000, .int .i64 500, .int .i64 10, .int .i64 0, .int .i64 0, .string (⟨#[103, 97, 115]⟩ : ByteArray)] 28 (0, 0)) (by exact blk_seq (by repeat (with_reducible first | exact BK165.out | apply blk_drewN | apply blk_drew | apply blk_alloc | apply blk_set)) (by first | (simp only [zS, zC, zD]; done) | rfl))) (below_size (by repeat (with_reducible first | exact HB.out | apply below_alloc | apply pw_below_drewN | apply below_drew1 | refine below_set ?_ GE165.out)))); have n1_ := Aside0.mk (blk_below (g := gb165) (o := .cells #[.int .i64 1, .int .i64 1000, .int .i64 500, .int .i64 10, .int .i64 0, .int .i64 0, .string (⟨#[103, 97, 115]⟩ : ByteArray)] 28 (0, 0)) (by exact blk_seq (by repeat (with_reducible first | exact BK165.out | apply blk_drewN | apply blk_drew | apply blk_alloc | apply blk_set)) (by first | (simp only [zS, zC, zD]; done) | rfl)) hb); have n2_ := Aside0.mk (below_step (by repeat (with_reducible first | exact HB.out | apply below_alloc | apply pw_below_drewN | apply below_drew1 | refine below_set ?_ GE165.out)) hb); clear BK165; clear HB; have HO168 := n0_; have BK165 := n1_; have HB := n2_; clear n0_ n1_ n2_; (try clear hb); (try clear hb2); (try clear hk); (try clear hi); (try clear ho0); obtain ⟨Ao8, co8, eo8⟩ := Kd.R_slice HO168.out; subst eo8) | ((with_reducible refine gate_callee (f := 16) rfl ?_); refine goesL_ (some 16) rfl rfl Try.func16 (by kernel_rfl) rfl #[.slice Ao8 t166.length co8, .int .i64 1, .int .i64 30] rfl (by (try simp only [List.map_toArray, List.map_cons, List.map_nil]); first | done | rfl | (simp only [List.length_drop, List.length_take]; rfl)) ?_; (with_reducible refine (mandate_Revoke.calls k _ _ t166 1 30 t170 t171 _ ?side1 ?side2 A2.out).mono ?_); (case side1 => repeat (first | exact (Kd.R_reads' HO168.out).2.2 | (with_reducible refine Kd.C_alloc ?_ _) | (with_reducible refine Kd.C_drewN ?_ _) | (with_reducible refine Kd.C_drew ?_))); (case side2 => exact (Kd.R_reads' HO168.out).2.1); rintro e w9 ⟨v172, rfl, ho0, hb⟩; refine ⟨_, rfl, ?_⟩; have n0_ := Aside0.mk (Kd.R_elder' (by (with_reducible repeat (first | apply Kd.R_alloc | apply Kd.R_drewN | apply Kd.R_drew)); exact HO168.out) (Kd.R_base ho0) hb); have n1_ := Aside0.mk (Kd.R_lower (Kd.R_newB (Kd.R_new' ho0 (Kd.R_lt (by (with_reducible repeat (first | apply Kd.R_alloc | apply Kd.R_drewN | apply Kd.R_drew)); exact HO168.out))) (g := gb165) (o := .cells #[.int .i64 1, .int .i64 1000, .int .i64 500, .int .i64 10, .int .i64 0, .int .i64 0, .string (⟨#[103, 97, 115]⟩ : ByteArray)] 28 (0, 0)) (by (with_reducible repeat (first | refine blk_drewN ?_ _ | refine blk_drew ?_ | refine blk_alloc ?_ _)); exact BK165.out)) (below_size (by repeat (with_reducible first | exact HB.out | apply below_alloc | apply pw_below_drewN | apply below_drew1 | refine below_set ?_ GE165.out)))); have n2_ := Aside0.mk (blk_below (g := gb165) (o := .cells #[.int .i64 1, .int .i64 1000, .int .i64 500, .int .i64 10, .int .i64 0, .int .i64 0, .string (⟨#[103, 97, 115]⟩ : ByteArray)] 28 (0, 0)) (by (with_reducible repeat (first | refine blk_drewN ?_ _ | refine blk_drew ?_ | refine blk_alloc ?_ _)); exact BK165.out) hb); have n3_ := Aside0.mk (below_step (by repeat (with_reducible first | exact HB.out | apply below_alloc | apply pw_below_drewN | apply below_drew1 | refine below_set ?_ GE165.out)) hb); clear HO168; clear BK165; clear HB; have HO168 := n0_; have HO173 := n1_; have BK165 := n2_; have HB := n3_; clear n0_ n1_ n2_ n3_; (try clear hb); (try clear hb2); (try clear hk); (try clear hi); (try clear ho0)) | ((with_reducible refine gate_callee (f := 18) rfl ?_); refine goesL_ (some 21) rfl rfl Try.func18 (by kernel_rfl) rfl #[.slice Ao8 t166.length co8, .int .i64 1, .int .i64 20] rfl (by (try simp only [List.map_toArray, List.map_cons, List.map_nil]); first | done | rfl | (simp only [List.length_drop, List.length_take]; rfl)) ?_; (with_reducible refine (mandate_Use.calls k _ _ t166 1 20 t174 t175 _ ?side1 ?side2 A3.out).mono ?_); (case side1 => repeat (first | exact (Kd.R_reads' HO168.out).2.2 | (with_reducible refine Kd.C_alloc ?_ _) | (with_reducible refine Kd.C_drewN ?_ _) | (with_reducible refine Kd.C_drew ?_))); (case side2 => exact (Kd.R_reads' HO168.out).2.1); rintro e w10 ⟨v176, rfl, ho0, hb⟩; refine ⟨_, rfl, ?_⟩; have n0_ := Aside0.mk (Kd.R_elder' (by (with_reducible repeat (first | apply Kd.R_alloc | apply Kd.R_drewN | apply Kd.R_drew)); exact HO168.out) (Kd.R_base ho0) hb); have n1_ := Aside0.mk (Kd.R_elder' (by (with_reducible repeat (first | apply Kd.R_alloc | apply Kd.R_drewN | apply Kd.R_drew)); exact HO173.out) (Kd.R_base ho0) hb); have n2_ := Aside0.mk (Kd.R_lower (Kd.R_newB (Kd.R_new' (Kd.R_new' ho0 (Kd.R_lt (by (with_reducible repeat (first | apply Kd.R_alloc | apply Kd.R_drewN | apply Kd.R_drew)); exact HO168.out))) (Kd.R_lt (by (with_reducible repeat (first | apply Kd.R_alloc | apply Kd.R_drewN | apply Kd.R_drew)); exact HO173.out))) (g := gb165) (o := .cells #[.int .i64 1, .int .i64 1000, .int .i64 500, .int .i64 10, .int .i64 0, .int .i64 0, .string (⟨#[103, 97, 115]⟩ : ByteArray)] 28 (0, 0)) (by (with_reducible repeat (first | refine blk_drewN ?_ _ | refine blk_drew ?_ | refine blk_alloc ?_ _)); exact BK165.out)) (below_size (by repeat (with_reducible first | exact HB.out | apply below_alloc | apply pw_below_drewN | apply below_drew1 | refine below_set ?_ GE165.out)))); have n3_ := Aside0.mk (blk_below (g := gb165) (o := .cells #[.int .i64 1, .int .i64 1000, .int .i64 500, .int .i64 10, .int .i64 0, .int .i64 0, .string (⟨#[103, 97, 115]⟩ : ByteArray)] 28 (0, 0)) (by (with_reducible repeat (first | refine blk_drewN ?_ _ | refine blk_drew ?_ | refine blk_alloc ?_ _)); exact BK165.out) hb); have n4_ := Aside0.mk (below_step (by repeat (with_reducible first | exact HB.out | apply below_alloc | apply pw_below_drewN | apply below_drew1 | refine below_set ?_ GE165.out)) hb); clear HO168; clear HO173; clear BK165; clear HB; have HO168 := n0_; have HO173 := n1_; have HO177 := n2_; have BK165 := n3_; have HB := n4_; clear n0_ n1_ n2_ n3_ n4_; (try clear hb); (try clear hb2); (try clear hk); (try clear hi); (try clear ho0)))
 (try simp only [Act.put, List.setIfInBounds_toArray, List.set_cons_zero, List.set_cons_succ])
 go_cut [48] (fun v48 wc => ∃ (kq : Nat) (x48_3 : Bool), v48 = .bool x48_3 ∧ Aside0 (corebanklaw41_live.j0 kq t166 t170 t174 x48_3 1 1000 500 10 0 0 (⟨#[103, 97, 115]⟩ : ByteArray) = some r) ∧ Aside0 (kq ≤ k) ∧ Aside0 (Kd.R k28 28 wc w.heap.size (fun k_ => some k_ ≠ (v172 : Value).ownBlock ∧ some k_ ≠ (v176 : Value).ownBlock ∧ k_ ≠ gb165) (.slice Ao8 t166.length co8) t166) ∧ Aside0 (Kd.R k28 28 wc w.heap.size (fun k_ => some k_ ≠ ((.slice Ao8 t166.length co8) : Value).ownBlock ∧ some k_ ≠ (v176 : Value).ownBlock ∧ k_ ≠ gb165) v172 t170) ∧ Aside0 (Kd.R k28 28 wc w.heap.size (fun k_ => some k_ ≠ ((.slice Ao8 t166.length co8) : Value).ownBlock ∧ some k_ ≠ (v172 : Value).ownBlock ∧ k_ ≠ gb165) v176 t174) ∧ Aside0 (wc.heap[gb165]? = some (.cells #[.int .i64 1, .int .i64 1000, .int .i64 500, .int .i64 10, .int .i64 0, .int .i64 0, .string (⟨#[103, 97, 115]⟩ : ByteArray)] 28 (0, 0))) ∧ Aside0 (Below w.heap.size w wc))
 case first =>
  have H := HC4.out
  clear HC4
  by_cases c11 : t169 = 0
  ·rw [if_pos c11] at H
   have c11b0 : (t169 == 0) = true := beq_iff_eq.mpr c11
   have c11b1 : (t169 != 0) = false := bne_eq_false_iff_eq.mpr c11
   clear c11
   (first | rw [c11b0] | (simp only [i64_w, i32_w]; rw [c11b0]) | skip)
   by_cases c12 : t171 = 0
   ·rw [if_pos c12] at H
    have c12b0 : (t171 == 0) = true := beq_iff_eq.mpr c12
    have c12b1 : (t171 != 0) = false := bne_eq_false_iff_eq.mpr c12
    clear c12
    by_cases c13 : t175 = 0
    ·rw [if_pos c13] at H
     have c13b0 : (t175 == 0) = true := beq_iff_eq.mpr c13
     have c13b1 : (t175 != 0) = false := bne_eq_false_iff_eq.mpr c13
     clear c13
     by_cases c14 : (t166.length : Int) = 1
     ·rw [if_pos c14] at H
      have c14b0 : ((t166.length : Int) == 1) = true := beq_iff_eq.mpr c14
      have c14b1 : ((t166.length : Int) != 1) = false := bne_eq_false_iff_eq.mpr c14
      clear c14
      by_cases c15 : (t170.length : Int) = 1
      ·rw [if_pos c15] at H
       have c15b0 : ((t170.length : Int) == 1) = true := beq_iff_eq.mpr c15
       have c15b1 : ((t170.length : Int) != 1) = false := bne_eq_false_iff_eq.mpr c15
       clear c15
       have H' := Aside0.mk H
       clear H
       obtain ⟨Ao16, co16, eo16⟩ := Kd.R_slice HO173.out
       subst eo16
       obtain ⟨Ao17, co17, eo17⟩ := Kd.R_slice HO177.out
       subst eo17
       go_wp2
       go_meet
       case rel => exact ⟨_, (((t174.length : Int) != 1)), (by first | rfl | (simp [*]; done)), H', ⟨by first | omega | exact Nat.le_refl _⟩, ⟨by (with_reducible repeat (first | apply Kd.R_alloc | apply Kd.R_drewN | apply Kd.R_drew)); exact Kd.R_mono HO168.out (fun _ hk => ⟨hk.1.2, ⟨hk.2, hk.1.1.2⟩⟩)⟩, ⟨by (with_reducible repeat (first | apply Kd.R_alloc | apply Kd.R_drewN | apply Kd.R_drew)); exact Kd.R_mono HO173.out (fun _ hk => ⟨hk.1.1.2, ⟨hk.2, hk.1.2⟩⟩)⟩, ⟨by (with_reducible repeat (first | apply Kd.R_alloc | apply Kd.R_drewN | apply Kd.R_drew)); exact Kd.R_mono HO177.out (fun _ hk => ⟨hk.1.1.2, ⟨hk.1.2, hk.2⟩⟩)⟩, ⟨by (with_reducible repeat (first | refine blk_drewN ?_ _ | refine blk_drew ?_ | refine blk_alloc ?_ _)); exact BK165.out⟩, ⟨by repeat (with_reducible first | exact HB.out | apply below_alloc | apply pw_below_drewN | apply below_drew1 | refine below_set ?_ GE165.out)⟩⟩
      ·rw [if_neg c15] at H
       have c15b0 : ((t170.length : Int) == 1) = false := beq_eq_false_iff_ne.mpr c15
       have c15b1 : ((t170.length : Int) != 1) = true := bne_iff_ne.mpr c15
       have H' := Aside0.mk H
       clear H
       obtain ⟨Ao18, co18, eo18⟩ := Kd.R_slice HO173.out
       subst eo18
       go_wp2
       go_meet
       case rel => exact ⟨_, (true), (by first | rfl | (simp [*]; done)), H', ⟨by first | omega | exact Nat.le_refl _⟩, ⟨by (with_reducible repeat (first | apply Kd.R_alloc | apply Kd.R_drewN | apply Kd.R_drew)); exact Kd.R_mono HO168.out (fun _ hk => ⟨hk.1.2, ⟨hk.2, hk.1.1.2⟩⟩)⟩, ⟨by (with_reducible repeat (first | apply Kd.R_alloc | apply Kd.R_drewN | apply Kd.R_drew)); exact Kd.R_mono HO173.out (fun _ hk => ⟨hk.1.1.2, ⟨hk.2, hk.1.2⟩⟩)⟩, ⟨by (with_reducible repeat (first | apply Kd.R_alloc | apply Kd.R_drewN | apply Kd.R_drew)); exact Kd.R_mono HO177.out (fun _ hk => ⟨hk.1.1.2, ⟨hk.1.2, hk.2⟩⟩)⟩, ⟨by (with_reducible repeat (first | refine blk_drewN ?_ _ | refine blk_drew ?_ | refine blk_alloc ?_ _)); exact BK165.out⟩, ⟨by repeat (with_reducible first | exact HB.out | apply below_alloc | apply pw_below_drewN | apply below_drew1 | refine below_set ?_ GE165.out)⟩⟩
     ·rw [if_neg c14] at H
      have c14b0 : ((t166.length : Int) == 1) = false := beq_eq_false_iff_ne.mpr c14
      have c14b1 : ((t166.length : Int) != 1) = true := bne_iff_ne.mpr c14
      have H' := Aside0.mk H
      clear H
      go_wp2
      go_meet
      case rel => exact ⟨_, (true), (by first | rfl | (simp [*]; done)), H', ⟨by first | omega | exact Nat.le_refl _⟩, ⟨by (with_reducible repeat (first | apply Kd.R_alloc | apply Kd.R_drewN | apply Kd.R_drew)); exact Kd.R_mono HO168.out (fun _ hk => ⟨hk.1.2, ⟨hk.2, hk.1.1.2⟩⟩)⟩, ⟨by (with_reducible repeat (first | apply Kd.R_alloc | apply Kd.R_drewN | apply Kd.R_drew)); exact Kd.R_mono HO173.out (fun _ hk => ⟨hk.1.1.2, ⟨hk.2, hk.1.2⟩⟩)⟩, ⟨by (with_reducible repeat (first | apply Kd.R_alloc | apply Kd.R_drewN | apply Kd.R_drew)); exact Kd.R_mono HO177.out (fun _ hk => ⟨hk.1.1.2, ⟨hk.1.2, hk.2⟩⟩)⟩, ⟨by (with_reducible repeat (first | refine blk_drewN ?_ _ | refine blk_drew ?_ | refine blk_alloc ?_ _)); exact BK165.out⟩, ⟨by repeat (with_reducible first | exact HB.out | apply below_alloc | apply pw_below_drewN | apply below_drew1 | refine below_set ?_ GE165.out)⟩⟩
    ·rw [if_neg c13] at H
     have c13b0 : (t175 == 0) = false := beq_eq_false_iff_ne.mpr c13
     have c13b1 : (t175 != 0) = true := bne_iff_ne.mpr c13
     have H' := Aside0.mk H
     clear H
     go_wp2
     go_meet
     case rel => exact ⟨_, (true), (by first | rfl | (simp [*]; done)), H', ⟨by first | omega | exact Nat.le_refl _⟩, ⟨by (with_reducible repeat (first | apply Kd.R_alloc | apply Kd.R_drewN | apply Kd.R_drew)); exact Kd.R_mono HO168.out (fun _ hk => ⟨hk.1.2, ⟨hk.2, hk.1.1.2⟩⟩)⟩, ⟨by (with_reducible repeat (first | apply Kd.R_alloc | apply Kd.R_drewN | apply Kd.R_drew)); exact Kd.R_mono HO173.out (fun _ hk => ⟨hk.1.1.2, ⟨hk.2, hk.1.2⟩⟩)⟩, ⟨by (with_reducible repeat (first | apply Kd.R_alloc | apply Kd.R_drewN | apply Kd.R_drew)); exact Kd.R_mono HO177.out (fun _ hk => ⟨hk.1.1.2, ⟨hk.1.2, hk.2⟩⟩)⟩, ⟨by (with_reducible repeat (first | refine blk_drewN ?_ _ | refine blk_drew ?_ | refine blk_alloc ?_ _)); exact BK165.out⟩, ⟨by repeat (with_reducible first | exact HB.out | apply below_alloc | apply pw_below_drewN | apply below_drew1 | refine below_set ?_ GE165.out)⟩⟩
   ·rw [if_neg c12] at H
    have c12b0 : (t171 == 0) = false := beq_eq_false_iff_ne.mpr c12
    have c12b1 : (t171 != 0) = true := bne_iff_ne.mpr c12
    have H' := Aside0.mk H
    clear H
    go_wp2
    go_meet
    case rel => exact ⟨_, (true), (by first | rfl | (simp [*]; done)), H', ⟨by first | omega | exact Nat.le_refl _⟩, ⟨by (with_reducible repeat (first | apply Kd.R_alloc | apply Kd.R_drewN | apply Kd.R_drew)); exact Kd.R_mono HO168.out (fun _ hk => ⟨hk.1.2, ⟨hk.2, hk.1.1.2⟩⟩)⟩, ⟨by (with_reducible repeat (first | apply Kd.R_alloc | apply Kd.R_drewN | apply Kd.R_drew)); exact Kd.R_mono HO173.out (fun _ hk => ⟨hk.1.1.2, ⟨hk.2, hk.1.2⟩⟩)⟩, ⟨by (with_reducible repeat (first | apply Kd.R_alloc | apply Kd.R_drewN | apply Kd.R_drew)); exact Kd.R_mono HO177.out (fun _ hk => ⟨hk.1.1.2, ⟨hk.1.2, hk.2⟩⟩)⟩, ⟨by (with_reducible repeat (first | refine blk_drewN ?_ _ | refine blk_drew ?_ | refine blk_alloc ?_ _)); exact BK165.out⟩, ⟨by repeat (with_reducible first | exact HB.out | apply below_alloc | apply pw_below_drewN | apply below_drew1 | refine below_set ?_ GE165.out)⟩⟩
  ·rw [if_neg c11] at H
   have c11b0 : (t169 == 0) = false := beq_eq_false_iff_ne.mpr c11
   have c11b1 : (t169 != 0) = true := bne_iff_ne.mpr c11
   (first | rw [c11b0] | (simp only [i64_w, i32_w]; rw [c11b0]) | skip)
   have H' := Aside0.mk H
   clear H
   go_wp2
   go_meet
   case rel => exact ⟨_, (true), (by first | rfl | (simp [*]; done)), H', ⟨by first | omega | exact Nat.le_refl _⟩, ⟨by (with_reducible repeat (first | apply Kd.R_alloc | apply Kd.R_drewN | apply Kd.R_drew)); exact Kd.R_mono HO168.out (fun _ hk => ⟨hk.1.2, ⟨hk.2, hk.1.1.2⟩⟩)⟩, ⟨by (with_reducible repeat (first | apply Kd.R_alloc | apply Kd.R_drewN | apply Kd.R_drew)); exact Kd.R_mono HO173.out (fun _ hk => ⟨hk.1.1.2, ⟨hk.2, hk.1.2⟩⟩)⟩, ⟨by (with_reducible repeat (first | apply Kd.R_alloc | apply Kd.R_drewN | apply Kd.R_drew)); exact Kd.R_mono HO177.out (fun _ hk => ⟨hk.1.1.2, ⟨hk.1.2, hk.2⟩⟩)⟩, ⟨by (with_reducible repeat (first | refine blk_drewN ?_ _ | refine blk_drew ?_ | refine blk_alloc ?_ _)); exact BK165.out⟩, ⟨by repeat (with_reducible first | exact HB.out | apply below_alloc | apply pw_below_drewN | apply below_drew1 | refine below_set ?_ GE165.out)⟩⟩
 case rest =>
  clear HC4
  try clear c1
  try clear p2
  try clear c11
  try clear c11b0
  try clear c11b1
  try clear c12
  try clear c12b0
  try clear c12b1
  try clear c13
  try clear c13b0
  try clear c13b1
  try clear c14
  try clear c14b0
  try clear c14b1
  try clear c15
  try clear c15b0
  try clear c15b1
  try clear c16
  try clear c18
  try clear hcz6
  try clear hfz6
  obtain ⟨kq, x48_3, rfl, HA, HJ3, HO_2, HO_4, HO_6, BK165, HB⟩ := hcut
  cases kq with
  | zero => exact absurd HA.out (by simp [corebanklaw41_live.j0])
  | succ kj3 =>
   have H := HA.out
   clear HA
   simp only [corebanklaw41_live.j0] at H
   by_cases c19 : x48_3 = true
   ·subst c19
    have H1 : (none) = some r := by rw [if_pos rfl] at H; exact H
    clear H
    have H := H1
    clear H1
    exact absurd H (by simp)
   ·replace c19 := Bool.eq_false_iff.mpr c19
    subst c19
    have H1 : ((mandate_Check.f kj3 t170).bind fun t178 => (if t178 = 0 then ((mandate_Allows.f kj3 t166 1 500 10).bind fun t179 => (if t179 = 0 then ((mandate_Allows.f kj3 t166 1 501 10).bind fun t180 => (if t180 = 18 then ((mandate_Allows.f kj3 t166 1 5 9).bind fun t181 => (if t181 = 17 then ((mandate_Allows.f kj3 t166 1 500 1107).bind fun t182 => (if t182 = 23 then ((mandate_Allows.f kj3 t174 1 500 1116).bind fun t183 => (if t183 = 0 then ((mandate_Allows.f kj3 t170 1 5 30).bind fun t184 => (if t184 = 17 then ((mandate_Allows.f kj3 t170 1 5 29).bind fun t185 => (if t185 = 0 then ((mandate_Expired.f 1 1000 500 10 0 0 (⟨#[103, 97, 115]⟩ : ByteArray) 1107).bind fun t186 => (if t186 = true then ((mandate_Expired.f 1 1000 500 10 0 0 (⟨#[103, 97, 115]⟩ : ByteArray) 1106).bind fun t187 => (some (!t187))) else (none))) else (none))) else (none))) else (none))) else (none))) else (none))) else (none))) else (none))) else (none))) = some r := by rw [if_neg (show ¬ (false = true) by decide)] at H; exact H
    clear H
    have H := H1
    clear H1
    replace H := Option.bind_eq_some_iff.mp H
    obtain ⟨t178, A200, H⟩ := H
    replace H : (if t178 = 0 then ((mandate_Allows.f kj3 t166 1 500 10).bind fun t179 => (if t179 = 0 then ((mandate_Allows.f kj3 t166 1 501 10).bind fun t180 => (if t180 = 18 then ((mandate_Allows.f kj3 t166 1 5 9).bind fun t181 => (if t181 = 17 then ((mandate_Allows.f kj3 t166 1 500 1107).bind fun t182 => (if t182 = 23 then ((mandate_Allows.f kj3 t174 1 500 1116).bind fun t183 => (if t183 = 0 then ((mandate_Allows.f kj3 t170 1 5 30).bind fun t184 => (if t184 = 17 then ((mandate_Allows.f kj3 t170 1 5 29).bind fun t185 => (if t185 = 0 then ((mandate_Expired.f 1 1000 500 10 0 0 (⟨#[103, 97, 115]⟩ : ByteArray) 1107).bind fun t186 => (if t186 = true then ((mandate_Expired.f 1 1000 500 10 0 0 (⟨#[103, 97, 115]⟩ : ByteArray) 1106).bind fun t187 => (some (!t187))) else (none))) else (none))) else (none))) else (none))) else (none))) else (none))) else (none))) else (none))) else (none)) = some r := H
    have A20 := Aside0.mk A200
    clear A200
    by_cases c21 : t178 = 0
    ·rw [if_pos c21] at H
     have c21b0 : (t178 == 0) = true := beq_iff_eq.mpr c21
     have c21b1 : (t178 != 0) = false := bne_eq_false_iff_eq.mpr c21
     clear c21
     replace H := Option.bind_eq_some_iff.mp H
     obtain ⟨t179, A220, H⟩ := H
     replace H : (if t179 = 0 then ((mandate_Allows.f kj3 t166 1 501 10).bind fun t180 => (if t180 = 18 then ((mandate_Allows.f kj3 t166 1 5 9).bind fun t181 => (if t181 = 17 then ((mandate_Allows.f kj3 t166 1 500 1107).bind fun t182 => (if t182 = 23 then ((mandate_Allows.f kj3 t174 1 500 1116).bind fun t183 => (if t183 = 0 then ((mandate_Allows.f kj3 t170 1 5 30).bind fun t184 => (if t184 = 17 then ((mandate_Allows.f kj3 t170 1 5 29).bind fun t185 => (if t185 = 0 then ((mandate_Expired.f 1 1000 500 10 0 0 (⟨#[103, 97, 115]⟩ : ByteArray) 1107).bind fun t186 => (if t186 = true then ((mandate_Expired.f 1 1000 500 10 0 0 (⟨#[103, 97, 115]⟩ : ByteArray) 1106).bind fun t187 => (some (!t187))) else (none))) else (none))) else (none))) else (none))) else (none))) else (none))) else (none))) else (none)) = some r := H
     have A22 := Aside0.mk A220
     clear A220
     by_cases c23 : t179 = 0
     ·rw [if_pos c23] at H
      have c23b0 : (t179 == 0) = true := beq_iff_eq.mpr c23
      have c23b1 : (t179 != 0) = false := bne_eq_false_iff_eq.mpr c23
      clear c23
      replace H := Option.bind_eq_some_iff.mp H
      obtain ⟨t180, A240, H⟩ := H
      replace H : (if t180 = 18 then ((mandate_Allows.f kj3 t166 1 5 9).bind fun t181 => (if t181 = 17 then ((mandate_Allows.f kj3 t166 1 500 1107).bind fun t182 => (if t182 = 23 then ((mandate_Allows.f kj3 t174 1 500 1116).bind fun t183 => (if t183 = 0 then ((mandate_Allows.f kj3 t170 1 5 30).bind fun t184 => (if t184 = 17 then ((mandate_Allows.f kj3 t170 1 5 29).bind fun t185 => (if t185 = 0 then ((mandate_Expired.f 1 1000 500 10 0 0 (⟨#[103, 97, 115]⟩ : ByteArray) 1107).bind fun t186 => (if t186 = true then ((mandate_Expired.f 1 1000 500 10 0 0 (⟨#[103, 97, 115]⟩ : ByteArray) 1106).bind fun t187 => (some (!t187))) else (none))) else (none))) else (none))) else (none))) else (none))) else (none))) else (none)) = some r := H
      have A24 := Aside0.mk A240
      clear A240
      by_cases c25 : t180 = 18
      ·rw [if_pos c25] at H
       have c25b0 : (t180 == 18) = true := beq_iff_eq.mpr c25
       have c25b1 : (t180 != 18) = false := bne_eq_false_iff_eq.mpr c25
       clear c25
       replace H := Option.bind_eq_some_iff.mp H
       obtain ⟨t181, A260, H⟩ := H
       replace H : (if t181 = 17 then ((mandate_Allows.f kj3 t166 1 500 1107).bind fun t182 => (if t182 = 23 then ((mandate_Allows.f kj3 t174 1 500 1116).bind fun t183 => (if t183 = 0 then ((mandate_Allows.f kj3 t170 1 5 30).bind fun t184 => (if t184 = 17 then ((mandate_Allows.f kj3 t170 1 5 29).bind fun t185 => (if t185 = 0 then ((mandate_Expired.f 1 1000 500 10 0 0 (⟨#[103, 97, 115]⟩ : ByteArray) 1107).bind fun t186 => (if t186 = true then ((mandate_Expired.f 1 1000 500 10 0 0 (⟨#[103, 97, 115]⟩ : ByteArray) 1106).bind fun t187 => (some (!t187))) else (none))) else (none))) else (none))) else (none))) else (none))) else (none)) = some r := H
       have A26 := Aside0.mk A260
       clear A260
       by_cases c27 : t181 = 17
       ·rw [if_pos c27] at H
        have c27b0 : (t181 == 17) = true := beq_iff_eq.mpr c27
        have c27b1 : (t181 != 17) = false := bne_eq_false_iff_eq.mpr c27
        clear c27
        replace H := Option.bind_eq_some_iff.mp H
        obtain ⟨t182, A280, H⟩ := H
        replace H : (if t182 = 23 then ((mandate_Allows.f kj3 t174 1 500 1116).bind fun t183 => (if t183 = 0 then ((mandate_Allows.f kj3 t170 1 5 30).bind fun t184 => (if t184 = 17 then ((mandate_Allows.f kj3 t170 1 5 29).bind fun t185 => (if t185 = 0 then ((mandate_Expired.f 1 1000 500 10 0 0 (⟨#[103, 97, 115]⟩ : ByteArray) 1107).bind fun t186 => (if t186 = true then ((mandate_Expired.f 1 1000 500 10 0 0 (⟨#[103, 97, 115]⟩ : ByteArray) 1106).bind fun t187 => (some (!t187))) else (none))) else (none))) else (none))) else (none))) else (none)) = some r := H
        have A28 := Aside0.mk A280
        clear A280
        by_cases c29 : t182 = 23
        ·rw [if_pos c29] at H
         have c29b0 : (t182 == 23) = true := beq_iff_eq.mpr c29
         have c29b1 : (t182 != 23) = false := bne_eq_false_iff_eq.mpr c29
         clear c29
         replace H := Option.bind_eq_some_iff.mp H
         obtain ⟨t183, A300, H⟩ := H
         replace H : (if t183 = 0 then ((mandate_Allows.f kj3 t170 1 5 30).bind fun t184 => (if t184 = 17 then ((mandate_Allows.f kj3 t170 1 5 29).bind fun t185 => (if t185 = 0 then ((mandate_Expired.f 1 1000 500 10 0 0 (⟨#[103, 97, 115]⟩ : ByteArray) 1107).bind fun t186 => (if t186 = true then ((mandate_Expired.f 1 1000 500 10 0 0 (⟨#[103, 97, 115]⟩ : ByteArray) 1106).bind fun t187 => (some (!t187))) else (none))) else (none))) else (none))) else (none)) = some r := H
         have A30 := Aside0.mk A300
         clear A300
         by_cases c31 : t183 = 0
         ·rw [if_pos c31] at H
          have c31b0 : (t183 == 0) = true := beq_iff_eq.mpr c31
          have c31b1 : (t183 != 0) = false := bne_eq_false_iff_eq.mpr c31
          clear c31
          replace H := Option.bind_eq_some_iff.mp H
          obtain ⟨t184, A320, H⟩ := H
          replace H : (if t184 = 17 then ((mandate_Allows.f kj3 t170 1 5 29).bind fun t185 => (if t185 = 0 then ((mandate_Expired.f 1 1000 500 10 0 0 (⟨#[103, 97, 115]⟩ : ByteArray) 1107).bind fun t186 => (if t186 = true then ((mandate_Expired.f 1 1000 500 10 0 0 (⟨#[103, 97, 115]⟩ : ByteArray) 1106).bind fun t187 => (some (!t187))) else (none))) else (none))) else (none)) = some r := H
          have A32 := Aside0.mk A320
          clear A320
          by_cases c33 : t184 = 17
          ·rw [if_pos c33] at H
           have c33b0 : (t184 == 17) = true := beq_iff_eq.mpr c33
           have c33b1 : (t184 != 17) = false := bne_eq_false_iff_eq.mpr c33
           clear c33
           replace H := Option.bind_eq_some_iff.mp H
           obtain ⟨t185, A340, H⟩ := H
           replace H : (if t185 = 0 then ((mandate_Expired.f 1 1000 500 10 0 0 (⟨#[103, 97, 115]⟩ : ByteArray) 1107).bind fun t186 => (if t186 = true then ((mandate_Expired.f 1 1000 500 10 0 0 (⟨#[103, 97, 115]⟩ : ByteArray) 1106).bind fun t187 => (some (!t187))) else (none))) else (none)) = some r := H
           have A34 := Aside0.mk A340
           clear A340
           by_cases c35 : t185 = 0
           ·rw [if_pos c35] at H
            have c35b0 : (t185 == 0) = true := beq_iff_eq.mpr c35
            have c35b1 : (t185 != 0) = false := bne_eq_false_iff_eq.mpr c35
            clear c35
            replace H := Option.bind_eq_some_iff.mp H
            obtain ⟨t186, A360, H⟩ := H
            replace H : (if t186 = true then ((mandate_Expired.f 1 1000 500 10 0 0 (⟨#[103, 97, 115]⟩ : ByteArray) 1106).bind fun t187 => (some (!t187))) else (none)) = some r := H
            have A36 := Aside0.mk A360
            clear A360
            by_cases c37 : t186 = true
            ·subst c37
             have H1 : ((mandate_Expired.f 1 1000 500 10 0 0 (⟨#[103, 97, 115]⟩ : ByteArray) 1106).bind fun t187 => (some (!t187))) = some r := by rw [if_pos rfl] at H; exact H
             clear H
             have H := H1
             clear H1
             replace H := Option.bind_eq_some_iff.mp H
             obtain ⟨t187, A380, H⟩ := H
             replace H : (some (!t187)) = some r := H
             have A38 := Aside0.mk A380
             clear A380
             obtain rfl := Option.some.inj H
             obtain ⟨Ao39, co39, eo39⟩ := Kd.R_slice HO_4.out
             subst eo39
             go_wp2_with (first | ((with_reducible refine gate_callee (f := 10) rfl ?_); refine goesL_ (some 50) rfl rfl Try.func10 (by kernel_rfl) rfl #[.slice Ao39 t170.length co39] rfl (by (try simp only [List.map_toArray, List.map_cons, List.map_nil]); first | done | rfl | (simp only [List.length_drop, List.length_take]; rfl)) ?_; (with_reducible refine (mandate_Check.calls kj3 _ _ t170 t178 _ ?side1 ?side2 A20.out).mono ?_); (case side1 => repeat (first | exact (Kd.R_reads' HO_4.out).2.2 | (with_reducible refine Kd.C_alloc ?_ _) | (with_reducible refine Kd.C_drewN ?_ _) | (with_reducible refine Kd.C_drew ?_))); (case side2 => exact (Kd.R_reads' HO_4.out).2.1); rintro e w40 ⟨rfl, hb⟩; refine ⟨_, rfl, ?_⟩; have n0_ := Aside0.mk (Kd.R_below (by (with_reducible repeat (first | apply Kd.R_alloc | apply Kd.R_drewN | apply Kd.R_drew)); exact HO_2.out) hb); have n1_ := Aside0.mk (Kd.R_below (by (with_reducible repeat (first | apply Kd.R_alloc | apply Kd.R_drewN | apply Kd.R_drew)); exact HO_4.out) hb); have n2_ := Aside0.mk (Kd.R_below (by (with_reducible repeat (first | apply Kd.R_alloc | apply Kd.R_drewN | apply Kd.R_drew)); exact HO_6.out) hb); have n3_ := Aside0.mk (blk_below (g := gb165) (o := .cells #[.int .i64 1, .int .i64 1000, .int .i64 500, .int .i64 10, .int .i64 0, .int .i64 0, .string (⟨#[103, 97, 115]⟩ : ByteArray)] 28 (0, 0)) (by (with_reducible repeat (first | refine blk_drewN ?_ _ | refine blk_drew ?_ | refine blk_alloc ?_ _)); exact BK165.out) hb); have n4_ := Aside0.mk (below_step (by repeat (with_reducible first | exact HB.out | apply below_alloc | apply pw_below_drewN | apply below_drew1 | refine below_set ?_ GE165.out)) hb); clear HO_2; clear HO_4; clear HO_6; clear BK165; clear HB; have HO_2 := n0_; have HO_4 := n1_; have HO_6 := n2_; have BK165 := n3_; have HB := n4_; clear n0_ n1_ n2_ n3_ n4_; (try clear hb); (try clear hb2); (try clear hk); (try clear hi)) | (go_at_call 22; (with_reducible refine (mandate_Allows.calls kj3 _ _ t166 1 500 10 t179 _ ?side1 ?side2 A22.out).mono ?_); (case side1 => repeat (first | exact (Kd.R_reads' HO_2.out).2.2 | (with_reducible refine Kd.C_alloc ?_ _) | (with_reducible refine Kd.C_drewN ?_ _) | (with_reducible refine Kd.C_drew ?_))); (case side2 => exact (Kd.R_reads' HO_2.out).2.1); rintro e w41 ⟨rfl, hb⟩; have n0_ := Aside0.mk (Kd.R_below (by (with_reducible repeat (first | apply Kd.R_alloc | apply Kd.R_drewN | apply Kd.R_drew)); exact HO_2.out) hb); have n1_ := Aside0.mk (Kd.R_below (by (with_reducible repeat (first | apply Kd.R_alloc | apply Kd.R_drewN | apply Kd.R_drew)); exact HO_4.out) hb); have n2_ := Aside0.mk (Kd.R_below (by (with_reducible repeat (first | apply Kd.R_alloc | apply Kd.R_drewN | apply Kd.R_drew)); exact HO_6.out) hb); have n3_ := Aside0.mk (blk_below (g := gb165) (o := .cells #[.int .i64 1, .int .i64 1000, .int .i64 500, .int .i64 10, .int .i64 0, .int .i64 0, .string (⟨#[103, 97, 115]⟩ : ByteArray)] 28 (0, 0)) (by (with_reducible repeat (first | refine blk_drewN ?_ _ | refine blk_drew ?_ | refine blk_alloc ?_ _)); exact BK165.out) hb); have n4_ := Aside0.mk (below_step (by repeat (with_reducible first | exact HB.out | apply below_alloc | apply pw_below_drewN | apply below_drew1 | refine below_set ?_ GE165.out)) hb); clear HO_2; clear HO_4; clear HO_6; clear BK165; clear HB; have HO_2 := n0_; have HO_4 := n1_; have HO_6 := n2_; have BK165 := n3_; have HB := n4_; clear n0_ n1_ n2_ n3_ n4_; (try clear hb); (try clear hb2); (try clear hk); (try clear hi)) | (go_at_call 22; (with_reducible refine (mandate_Allows.calls kj3 _ _ t166 1 501 10 t180 _ ?side1 ?side2 A24.out).mono ?_); (case side1 => repeat (first | exact (Kd.R_reads' HO_2.out).2.2 | (with_reducible refine Kd.C_alloc ?_ _) | (with_reducible refine Kd.C_drewN ?_ _) | (with_reducible refine Kd.C_drew ?_))); (case side2 => exact (Kd.R_reads' HO_2.out).2.1); rintro e w42 ⟨rfl, hb⟩; have n0_ := Aside0.mk (Kd.R_below (by (with_reducible repeat (first | apply Kd.R_alloc | apply Kd.R_drewN | apply Kd.R_drew)); exact HO_2.out) hb); have n1_ := Aside0.mk (Kd.R_below (by (with_reducible repeat (first | apply Kd.R_alloc | apply Kd.R_drewN | apply Kd.R_drew)); exact HO_4.out) hb); have n2_ := Aside0.mk (Kd.R_below (by (with_reducible repeat (first | apply Kd.R_alloc | apply Kd.R_drewN | apply Kd.R_drew)); exact HO_6.out) hb); have n3_ := Aside0.mk (blk_below (g := gb165) (o := .cells #[.int .i64 1, .int .i64 1000, .int .i64 500, .int .i64 10, .int .i64 0, .int .i64 0, .string (⟨#[103, 97, 115]⟩ : ByteArray)] 28 (0, 0)) (by (with_reducible repeat (first | refine blk_drewN ?_ _ | refine blk_drew ?_ | refine blk_alloc ?_ _)); exact BK165.out) hb); have n4_ := Aside0.mk (below_step (by repeat (with_reducible first | exact HB.out | apply below_alloc | apply pw_below_drewN | apply below_drew1 | refine below_set ?_ GE165.out)) hb); clear HO_2; clear HO_4; clear HO_6; clear BK165; clear HB; have HO_2 := n0_; have HO_4 := n1_; have HO_6 := n2_; have BK165 := n3_; have HB := n4_; clear n0_ n1_ n2_ n3_ n4_; (try clear hb); (try clear hb2); (try clear hk); (try clear hi)) | (go_at_call 22; (with_reducible refine (mandate_Allows.calls kj3 _ _ t166 1 5 9 t181 _ ?side1 ?side2 A26.out).mono ?_); (case side1 => repeat (first | exact (Kd.R_reads' HO_2.out).2.2 | (with_reducible refine Kd.C_alloc ?_ _) | (with_reducible refine Kd.C_drewN ?_ _) | (with_reducible refine Kd.C_drew ?_))); (case side2 => exact (Kd.R_reads' HO_2.out).2.1); rintro e w43 ⟨rfl, hb⟩; have n0_ := Aside0.mk (Kd.R_below (by (with_reducible repeat (first | apply Kd.R_alloc | apply Kd.R_drewN | apply Kd.R_drew)); exact HO_2.out) hb); have n1_ := Aside0.mk (Kd.R_below (by (with_reducible repeat (first | apply Kd.R_alloc | apply Kd.R_drewN | apply Kd.R_drew)); exact HO_4.out) hb); have n2_ := Aside0.mk (Kd.R_below (by (with_reducible repeat (first | apply Kd.R_alloc | apply Kd.R_drewN | apply Kd.R_drew)); exact HO_6.out) hb); have n3_ := Aside0.mk (blk_below (g := gb165) (o := .cells #[.int .i64 1, .int .i64 1000, .int .i64 500, .int .i64 10, .int .i64 0, .int .i64 0, .string (⟨#[103, 97, 115]⟩ : ByteArray)] 28 (0, 0)) (by (with_reducible repeat (first | refine blk_drewN ?_ _ | refine blk_drew ?_ | refine blk_alloc ?_ _)); exact BK165.out) hb); have n4_ := Aside0.mk (below_step (by repeat (with_reducible first | exact HB.out | apply below_alloc | apply pw_below_drewN | apply below_drew1 | refine below_set ?_ GE165.out)) hb); clear HO_2; clear HO_4; clear HO_6; clear BK165; clear HB; have HO_2 := n0_; have HO_4 := n1_; have HO_6 := n2_; have BK165 := n3_; have HB := n4_; clear n0_ n1_ n2_ n3_ n4_; (try clear hb); (try clear hb2); (try clear hk); (try clear hi)) | (go_at_call 22; (with_reducible refine (mandate_Allows.calls kj3 _ _ t166 1 500 1107 t182 _ ?side1 ?side2 A28.out).mono ?_); (case side1 => repeat (first | exact (Kd.R_reads' HO_2.out).2.2 | (with_reducible refine Kd.C_alloc ?_ _) | (with_reducible refine Kd.C_drewN ?_ _) | (with_reducible refine Kd.C_drew ?_))); (case side2 => exact (Kd.R_reads' HO_2.out).2.1); rintro e w44 ⟨rfl, hb⟩; have n0_ := Aside0.mk (Kd.R_below (by (with_reducible repeat (first | apply Kd.R_alloc | apply Kd.R_drewN | apply Kd.R_drew)); exact HO_2.out) hb); have n1_ := Aside0.mk (Kd.R_below (by (with_reducible repeat (first | apply Kd.R_alloc | apply Kd.R_drewN | apply Kd.R_drew)); exact HO_4.out) hb); have n2_ := Aside0.mk (Kd.R_below (by (with_reducible repeat (first | apply Kd.R_alloc | apply Kd.R_drewN | apply Kd.R_drew)); exact HO_6.out) hb); have n3_ := Aside0.mk (blk_below (g := gb165) (o := .cells #[.int .i64 1, .int .i64 1000, .int .i64 500, .int .i64 10, .int .i64 0, .int .i64 0, .string (⟨#[103, 97, 115]⟩ : ByteArray)] 28 (0, 0)) (by (with_reducible repeat (first | refine blk_drewN ?_ _ | refine blk_drew ?_ | refine blk_alloc ?_ _)); exact BK165.out) hb); have n4_ := Aside0.mk (below_step (by repeat (with_reducible first | exact HB.out | apply below_alloc | apply pw_below_drewN | apply below_drew1 | refine below_set ?_ GE165.out)) hb); clear HO_2; clear HO_4; clear HO_6; clear BK165; clear HB; have HO_2 := n0_; have HO_4 := n1_; have HO_6 := n2_; have BK165 := n3_; have HB := n4_; clear n0_ n1_ n2_ n3_ n4_; (try clear hb); (try clear hb2); (try clear hk); (try clear hi); obtain ⟨Ao45, co45, eo45⟩ := Kd.R_slice HO_6.out; subst eo45) | (go_at_call 22; (with_reducible refine (mandate_Allows.calls kj3 _ _ t174 1 500 1116 t183 _ ?side1 ?side2 A30.out).mono ?_); (case side1 => repeat (first | exact (Kd.R_reads' HO_6.out).2.2 | (with_reducible refine Kd.C_alloc ?_ _) | (with_reducible refine Kd.C_drewN ?_ _) | (with_reducible refine Kd.C_drew ?_))); (case side2 => exact (Kd.R_reads' HO_6.out).2.1); rintro e w46 ⟨rfl, hb⟩; have n0_ := Aside0.mk (Kd.R_below (by (with_reducible repeat (first | apply Kd.R_alloc | apply Kd.R_drewN | apply Kd.R_drew)); exact HO_2.out) hb); have n1_ := Aside0.mk (Kd.R_below (by (with_reducible repeat (first | apply Kd.R_alloc | apply Kd.R_drewN | apply Kd.R_drew)); exact HO_4.out) hb); have n2_ := Aside0.mk (Kd.R_below (by (with_reducible repeat (first | apply Kd.R_alloc | apply Kd.R_drewN | apply Kd.R_drew)); exact HO_6.out) hb); have n3_ := Aside0.mk (blk_below (g := gb165) (o := .cells #[.int .i64 1, .int .i64 1000, .int .i64 500, .int .i64 10, .int .i64 0, .int .i64 0, .string (⟨#[103, 97, 115]⟩ : ByteArray)] 28 (0, 0)) (by (with_reducible repeat (first | refine blk_drewN ?_ _ | refine blk_drew ?_ | refine blk_alloc ?_ _)); exact BK165.out) hb); have n4_ := Aside0.mk (below_step (by repeat (with_reducible first | exact HB.out | apply below_alloc | apply pw_below_drewN | apply below_drew1 | refine below_set ?_ GE165.out)) hb); clear HO_2; clear HO_4; clear HO_6; clear BK165; clear HB; have HO_2 := n0_; have HO_4 := n1_; have HO_6 := n2_; have BK165 := n3_; have HB := n4_; clear n0_ n1_ n2_ n3_ n4_; (try clear hb); (try clear hb2); (try clear hk); (try clear hi)) | (go_at_call 22; (with_reducible refine (mandate_Allows.calls kj3 _ _ t170 1 5 30 t184 _ ?side1 ?side2 A32.out).mono ?_); (case side1 => repeat (first | exact (Kd.R_reads' HO_4.out).2.2 | (with_reducible refine Kd.C_alloc ?_ _) | (with_reducible refine Kd.C_drewN ?_ _) | (with_reducible refine Kd.C_drew ?_))); (case side2 => exact (Kd.R_reads' HO_4.out).2.1); rintro e w47 ⟨rfl, hb⟩; have n0_ := Aside0.mk (Kd.R_below (by (with_reducible repeat (first | apply Kd.R_alloc | apply Kd.R_drewN | apply Kd.R_drew)); exact HO_2.out) hb); have n1_ := Aside0.mk (Kd.R_below (by (with_reducible repeat (first | apply Kd.R_alloc | apply Kd.R_drewN | apply Kd.R_drew)); exact HO_4.out) hb); have n2_ := Aside0.mk (Kd.R_below (by (with_reducible repeat (first | apply Kd.R_alloc | apply Kd.R_drewN | apply Kd.R_drew)); exact HO_6.out) hb); have n3_ := Aside0.mk (blk_below (g := gb165) (o := .cells #[.int .i64 1, .int .i64 1000, .int .i64 500, .int .i64 10, .int .i64 0, .int .i64 0, .string (⟨#[103, 97, 115]⟩ : ByteArray)] 28 (0, 0)) (by (with_reducible repeat (first | refine blk_drewN ?_ _ | refine blk_drew ?_ | refine blk_alloc ?_ _)); exact BK165.out) hb); have n4_ := Aside0.mk (below_step (by repeat (with_reducible first | exact HB.out | apply below_alloc | apply pw_below_drewN | apply below_drew1 | refine below_set ?_ GE165.out)) hb); clear HO_2; clear HO_4; clear HO_6; clear BK165; clear HB; have HO_2 := n0_; have HO_4 := n1_; have HO_6 := n2_; have BK165 := n3_; have HB := n4_; clear n0_ n1_ n2_ n3_ n4_; (try clear hb); (try clear hb2); (try clear hk); (try clear hi)) | (go_at_call 22; (with_reducible refine (mandate_Allows.calls kj3 _ _ t170 1 5 29 t185 _ ?side1 ?side2 A34.out).mono ?_); (case side1 => repeat (first | exact (Kd.R_reads' HO_4.out).2.2 | (with_reducible refine Kd.C_alloc ?_ _) | (with_reducible refine Kd.C_drewN ?_ _) | (with_reducible refine Kd.C_drew ?_))); (case side2 => exact (Kd.R_reads' HO_4.out).2.1); rintro e w48 ⟨rfl, hb⟩; have n0_ := Aside0.mk (Kd.R_below (by (with_reducible repeat (first | apply Kd.R_alloc | apply Kd.R_drewN | apply Kd.R_drew)); exact HO_2.out) hb); have n1_ := Aside0.mk (Kd.R_below (by (with_reducible repeat (first | apply Kd.R_alloc | apply Kd.R_drewN | apply Kd.R_drew)); exact HO_4.out) hb); have n2_ := Aside0.mk (Kd.R_below (by (with_reducible repeat (first | apply Kd.R_alloc | apply Kd.R_drewN | apply Kd.R_drew)); exact HO_6.out) hb); have n3_ := Aside0.mk (blk_below (g := gb165) (o := .cells #[.int .i64 1, .int .i64 1000, .int .i64 500, .int .i64 10, .int .i64 0, .int .i64 0, .string (⟨#[103, 97, 115]⟩ : ByteArray)] 28 (0, 0)) (by (with_reducible repeat (first | refine blk_drewN ?_ _ | refine blk_drew ?_ | refine blk_alloc ?_ _)); exact BK165.out) hb); have n4_ := Aside0.mk (below_step (by repeat (with_reducible first | exact HB.out | apply below_alloc | apply pw_below_drewN | apply below_drew1 | refine below_set ?_ GE165.out)) hb); clear HO_2; clear HO_4; clear HO_6; clear BK165; clear HB; have HO_2 := n0_; have HO_4 := n1_; have HO_6 := n2_; have BK165 := n3_; have HB := n4_; clear n0_ n1_ n2_ n3_ n4_; (try clear hb); (try clear hb2); (try clear hk); (try clear hi); have hcz49 := blk_cell BK165.out; have hfz49 := blk_frozen BK165.out) | (go_at_call 20; (with_reducible refine (mandate_Expired.calls 1 1000 500 10 0 0 (⟨#[103, 97, 115]⟩ : ByteArray) 1107 true _ A36.out).mono ?_); rintro e w50 ⟨rfl, hb⟩; have n0_ := Aside0.mk (Kd.R_below (by (with_reducible repeat (first | apply Kd.R_alloc | apply Kd.R_drewN | apply Kd.R_drew)); exact HO_2.out) hb); have n1_ := Aside0.mk (Kd.R_below (by (with_reducible repeat (first | apply Kd.R_alloc | apply Kd.R_drewN | apply Kd.R_drew)); exact HO_4.out) hb); have n2_ := Aside0.mk (Kd.R_below (by (with_reducible repeat (first | apply Kd.R_alloc | apply Kd.R_drewN | apply Kd.R_drew)); exact HO_6.out) hb); have n3_ := Aside0.mk (blk_below (g := gb165) (o := .cells #[.int .i64 1, .int .i64 1000, .int .i64 500, .int .i64 10, .int .i64 0, .int .i64 0, .string (⟨#[103, 97, 115]⟩ : ByteArray)] 28 (0, 0)) (by (with_reducible repeat (first | refine blk_drewN ?_ _ | refine blk_drew ?_ | refine blk_alloc ?_ _)); exact BK165.out) hb); have n4_ := Aside0.mk (below_step (by repeat (with_reducible first | exact HB.out | apply below_alloc | apply pw_below_drewN | apply below_drew1 | refine below_set ?_ GE165.out)) hb); clear HO_2; clear HO_4; clear HO_6; clear BK165; clear HB; have HO_2 := n0_; have HO_4 := n1_; have HO_6 := n2_; have BK165 := n3_; have HB := n4_; clear n0_ n1_ n2_ n3_ n4_; (try clear hb); (try clear hb2); (try clear hk); (try clear hi); have hcz51 := blk_cell BK165.out; have hfz51 := blk_frozen BK165.out) | (go_at_call 20; (with_reducible refine (mandate_Expired.calls 1 1000 500 10 0 0 (⟨#[103, 97, 115]⟩ : ByteArray) 1106 t187 _ A38.out).mono ?_); rintro e w52 ⟨rfl, hb⟩; have n0_ := Aside0.mk (Kd.R_below (by (with_reducible repeat (first | apply Kd.R_alloc | apply Kd.R_drewN | apply Kd.R_drew)); exact HO_2.out) hb); have n1_ := Aside0.mk (Kd.R_below (by (with_reducible repeat (first | apply Kd.R_alloc | apply Kd.R_drewN | apply Kd.R_drew)); exact HO_4.out) hb); have n2_ := Aside0.mk (Kd.R_below (by (with_reducible repeat (first | apply Kd.R_alloc | apply Kd.R_drewN | apply Kd.R_drew)); exact HO_6.out) hb); have n3_ := Aside0.mk (blk_below (g := gb165) (o := .cells #[.int .i64 1, .int .i64 1000, .int .i64 500, .int .i64 10, .int .i64 0, .int .i64 0, .string (⟨#[103, 97, 115]⟩ : ByteArray)] 28 (0, 0)) (by (with_reducible repeat (first | refine blk_drewN ?_ _ | refine blk_drew ?_ | refine blk_alloc ?_ _)); exact BK165.out) hb); have n4_ := Aside0.mk (below_step (by repeat (with_reducible first | exact HB.out | apply below_alloc | apply pw_below_drewN | apply below_drew1 | refine below_set ?_ GE165.out)) hb); clear HO_2; clear HO_4; clear HO_6; clear BK165; clear HB; have HO_2 := n0_; have HO_4 := n1_; have HO_6 := n2_; have BK165 := n3_; have HB := n4_; clear n0_ n1_ n2_ n3_ n4_; (try clear hb); (try clear hb2); (try clear hk); (try clear hi)))
             go_ret
             exact ⟨by first | rfl | (simp [errW_none, errW_some] <;> rfl) | (simp [*, errW_none, errW_some] <;> rfl), by repeat (with_reducible first | exact HB.out | apply below_alloc | apply pw_below_drewN | apply below_drew1 | refine below_set ?_ GE165.out)⟩
            ·replace c37 := Bool.eq_false_iff.mpr c37
             subst c37
             have H1 : (none) = some r := by rw [if_neg (show ¬ (false = true) by decide)] at H; exact H
             clear H
             have H := H1
             clear H1
             exact absurd H (by simp)
           ·rw [if_neg c35] at H
            exact absurd H (by simp)
          ·rw [if_neg c33] at H
           exact absurd H (by simp)
         ·rw [if_neg c31] at H
          exact absurd H (by simp)
        ·rw [if_neg c29] at H
         exact absurd H (by simp)
       ·rw [if_neg c27] at H
        exact absurd H (by simp)
      ·rw [if_neg c25] at H
       exact absurd H (by simp)
     ·rw [if_neg c23] at H
      exact absurd H (by simp)
    ·rw [if_neg c21] at H
     exact absurd H (by simp)

end Go.Proofs.Ytfgcachcbhkkoaa.X
