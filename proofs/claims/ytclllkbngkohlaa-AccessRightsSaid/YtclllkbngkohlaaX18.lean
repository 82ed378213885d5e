-- Written by program (wip/tools/xprint.sh) for this seat; not trusted: Lean checks it.
import Derived.Test.YtclllkbngkohlaaX0
import Derived.Test.YtclllkbngkohlaaX5
import Derived.Test.YtclllkbngkohlaaX13
import Derived.Test.YtclllkbngkohlaaX16
namespace Go.Proofs.Ytclllkbngkohlaa.X
open Go.RowKit Go.Proofs.YtclllkbngkohlaaW.PrintWords Go.Proofs.YtclllkbngkohlaaW.PrintLast Go.Proofs.YtclllkbngkohlaaW.PrintMore
attribute [local go_sem] max2_int min2_int max_two min_two max_three min_three max_four min_four   -- for this text's walks alone
set_option linter.unusedVariables false
set_option linter.unusedSimpArgs false

/-! ### access_Grant: function 17 (by hand) -/
theorem box_at {w W : World} {bq : Nat} {v : Value} (hb : Below w.heap.size w W) (h1 : bq < w.heap.size) (h2 : w.cell? ⟨bq, 0, none⟩ = some v) : W.cell? ⟨bq, 0, none⟩ = some v := (hb.cell (p := ⟨bq, 0, none⟩) h1).trans h2
def access_op_or.f (a b : Int) : Option Int := some (Go.bits .or .i64 a b)
set_option maxHeartbeats 8000000 in
set_option maxRecDepth 100000 in
theorem access_op_or.clo (x a2 : Int) (bq : Nat) (r : Int) (w : World) (hc : w.cell? ⟨bq, 0, none⟩ = some (.int .i64 a2)) (h : access_op_or.f x a2 = some r) :
    Calls Try.prog 29 #[.int .i64 x, .pointer (some ⟨bq, 0, none⟩)] w fun e w' => e = .returned (.int .i64 r) ∧ Drawn0 w w' := by
  obtain rfl := Option.some.inj h
  clear h
  go_enter Try.func29, Try.ntmps29
  go_wp2
  go_ret
  exact ⟨rfl, Drawn0.refl _⟩
def access_change_or.f (l0 : List (S25)) (a1 : ByteArray) (a2 : Int) : Option ((List (S25)) × Int) := (access_index.f l0 a1).bind fun t107 => (if t107 < 0 then (some (([] : List (S25)), 11)) else ((access_known.f a2).bind fun t108 => (if t108 = true then ((api_User_34.f l0).bind fun t109 => (if 0 ≤ t107 then (if t107 < (t109.length : Int) then ((access_op_or.f ((rd_T25 t109 t107).f1) a2).bind fun t113 => (some ((t109.set (t107 : Int).toNat (⟨(rd_T25 t109 t107).f0, t113, (rd_T25 t109 t107).f2⟩ : S25)), 0))) else (none)) else (none))) else (some (([] : List (S25)), 1)))))
set_option maxHeartbeats 8000000 in
set_option maxRecDepth 100000 in
theorem access_change_or.calls (A0 : Option Addr) (c0 : Nat) (l0 : List (S25)) (a1 : ByteArray) (a2 : Int) (bq : Nat) (r1 : List (S25)) (r2 : Int) (w : World) (hB : bq < w.heap.size) (hc : w.cell? ⟨bq, 0, none⟩ = some (.int .i64 a2)) (hr0 : Kd.C k25 w A0 l0.length l0) (hc0 : l0.length ≤ c0) (h : access_change_or.f l0 a1 a2 = some (r1, r2)) :
    Calls Try.prog 28 #[.slice A0 l0.length c0, .string a1, .int .i64 a2, .func (.func 29) #[] #[.pointer (some ⟨bq, 0, none⟩)]] w fun e w' => ∃ v0_ : Value, e = .returned (.tuple #[v0_, .int .i64 r2]) ∧ Kd.R k25 25 w' w.heap.size (fun _ => True) v0_ r1 ∧ Below w.heap.size w w' := by
  have HQ0 := Aside0.mk (And.intro hB hc)
  clear hB hc
  have HR0 := Aside0.mk hr0
  have HC0 := Aside0.mk hc0
  clear hr0 hc0
  have HB := Aside0.mk (Below.refl w.heap.size w)
  have H : ((access_index.f l0 a1).bind fun t107 => (if t107 < 0 then (some (([] : List (S25)), 11)) else ((access_known.f a2).bind fun t108 => (if t108 = true then ((api_User_34.f l0).bind fun t109 => (if 0 ≤ t107 then (if t107 < (t109.length : Int) then ((access_op_or.f ((rd_T25 t109 t107).f1) a2).bind fun t113 => (some ((t109.set (t107 : Int).toNat (⟨(rd_T25 t109 t107).f0, t113, (rd_T25 t109 t107).f2⟩ : S25)), 0))) else (none)) else (none))) else (some (([] : List (S25)), 1)))))) = some (r1, r2) := h
  clear h
  replace H := Option.bind_eq_some_iff.mp H
  obtain ⟨t107, A40, H⟩ := H
  replace H : (if t107 < 0 then (some (([] : List (S25)), 11)) else ((access_known.f a2).bind fun t108 => (if t108 = true then ((api_User_34.f l0).bind fun t109 => (if 0 ≤ t107 then (if t107 < (t109.length : Int) then ((access_op_or.f ((rd_T25 t109 t107).f1) a2).bind fun t113 => (some ((t109.set (t107 : Int).toNat (⟨(rd_T25 t109 t107).f0, t113, (rd_T25 t109 t107).f2⟩ : S25)), 0))) else (none)) else (none))) else (some (([] : List (S25)), 1))))) = some (r1, r2) := H
  have A4 := Aside0.mk A40
  clear A40
  by_cases c5 : t107 < 0
  · rw [if_pos c5] at H
    have c5b0 : decide (t107 < 0) = true := decide_eq_true c5
    clear c5
    simp only [Option.some.injEq, Prod.mk.injEq] at H
    obtain ⟨rfl, rfl⟩ := H
    go_enter Try.func28, Try.ntmps28
    go_wp2_with (first | ((with_reducible refine gate_callee (f := 22) rfl ?_); refine goesL_ (some 14) rfl rfl Try.func22 (by kernel_rfl) rfl #[.slice A0 l0.length c0, .string a1] rfl (by (try simp only [List.map_toArray, List.map_cons, List.map_nil]); first | done | rfl | (simp only [List.length_drop, List.length_take]; rfl)) ?_; (with_reducible refine (access_index.calls _ _ l0 a1 t107 _ ?side1 ?side2 A4.out).mono ?_); (case side1 => repeat (first | exact HR0.out | (with_reducible refine Kd.C_alloc ?_ _) | (with_reducible refine Kd.C_drewN ?_ _) | (with_reducible refine Kd.C_drew ?_))); (case side2 => exact HC0.out); rintro e w6 ⟨rfl, hb⟩; refine ⟨_, rfl, ?_⟩; have n0_ := Aside0.mk (below_step (by repeat (first | (with_reducible first | exact HB.out | apply below_alloc | apply pw_below_drewN | apply below_drew1) | exact HB.out)) hb); clear HB; have HB := n0_; clear n0_; (try clear hb); (try clear hb2); (try clear hk); (try clear hi)))
    go_ret2
    exact ⟨_, by first | rfl | (simp [errW_none, errW_some] <;> rfl) | (simp [*, errW_none, errW_some] <;> rfl), by first | exact Kd.R_nil _ _ _ _ _ | exact Kd.N_nil _ _ _ _ _ | exact Kd.V_nil _ _ _ _ _ | exact Kd.Q_nil _ _ _ _ _ | exact Kd.S_nil _ _ _ _ _, by repeat (first | (with_reducible first | exact HB.out | apply below_alloc | apply pw_below_drewN | apply below_drew1) | exact HB.out)⟩
  · rw [if_neg c5] at H
    have c5b0 : decide (t107 < 0) = false := decide_eq_false c5
    clear c5
    replace H := Option.bind_eq_some_iff.mp H
    obtain ⟨t108, A70, H⟩ := H
    replace H : (if t108 = true then ((api_User_34.f l0).bind fun t109 => (if 0 ≤ t107 then (if t107 < (t109.length : Int) then ((access_op_or.f ((rd_T25 t109 t107).f1) a2).bind fun t113 => (some ((t109.set (t107 : Int).toNat (⟨(rd_T25 t109 t107).f0, t113, (rd_T25 t109 t107).f2⟩ : S25)), 0))) else (none)) else (none))) else (some (([] : List (S25)), 1))) = some (r1, r2) := H
    have A7 := Aside0.mk A70
    clear A70
    by_cases c8 : t108 = true
    · subst c8
      have H1 : ((api_User_34.f l0).bind fun t109 => (if 0 ≤ t107 then (if t107 < (t109.length : Int) then ((access_op_or.f ((rd_T25 t109 t107).f1) a2).bind fun t113 => (some ((t109.set (t107 : Int).toNat (⟨(rd_T25 t109 t107).f0, t113, (rd_T25 t109 t107).f2⟩ : S25)), 0))) else (none)) else (none))) = some (r1, r2) := by rw [if_pos rfl] at H; exact H
      clear H
      have H := H1
      clear H1
      replace H := Option.bind_eq_some_iff.mp H
      obtain ⟨t109, A90, H⟩ := H
      replace H : (if 0 ≤ t107 then (if t107 < (t109.length : Int) then ((access_op_or.f ((rd_T25 t109 t107).f1) a2).bind fun t113 => (some ((t109.set (t107 : Int).toNat (⟨(rd_T25 t109 t107).f0, t113, (rd_T25 t109 t107).f2⟩ : S25)), 0))) else (none)) else (none)) = some (r1, r2) := H
      have A9 := Aside0.mk A90
      clear A90
      by_cases c10 : 0 ≤ t107
      · rw [if_pos c10] at H
        have c10b0 : decide (0 ≤ t107) = true := decide_eq_true c10
        clear c10
        by_cases c11 : t107 < (t109.length : Int)
        · rw [if_pos c11] at H
          have c11b0 : decide (t107 < (t109.length : Int)) = true := decide_eq_true c11
          clear c11
          replace H := Option.bind_eq_some_iff.mp H
          obtain ⟨t113, A120, H⟩ := H
          replace H : (some ((t109.set (t107 : Int).toNat (⟨(rd_T25 t109 t107).f0, t113, (rd_T25 t109 t107).f2⟩ : S25)), 0)) = some (r1, r2) := H
          have A12 := Aside0.mk A120
          clear A120
          obtain ⟨y114, hy114⟩ : ∃ y_ : List (S25), y_ = (t109.set (t107 : Int).toNat (⟨(rd_T25 t109 t107).f0, t113, (rd_T25 t109 t107).f2⟩ : S25)) := ⟨_, rfl⟩
          replace H : (some (y114, 0)) = some (r1, r2) := by first | (rw [hy114]; with_reducible exact H) | (have H2_ := (Option.bind_some _ _).symm.trans H; rw [hy114]; with_reducible exact H2_) | (have H2_ := (Option.bind_some _ _).symm.trans H; with_reducible exact H2_) | with_reducible exact H | (rw [hy114]; exact H) | exact H
          have Ny114 := Aside0.mk hy114
          clear hy114
          simp only [Option.some.injEq, Prod.mk.injEq] at H
          obtain ⟨rfl, rfl⟩ := H
          go_enter Try.func28, Try.ntmps28
          go_wp2_with (first | ((with_reducible refine gate_callee (f := 22) rfl ?_); refine goesL_ (some 14) rfl rfl Try.func22 (by kernel_rfl) rfl #[.slice A0 l0.length c0, .string a1] rfl (by (try simp only [List.map_toArray, List.map_cons, List.map_nil]); first | done | rfl | (simp only [List.length_drop, List.length_take]; rfl)) ?_; (with_reducible refine (access_index.calls _ _ l0 a1 t107 _ ?side1 ?side2 A4.out).mono ?_); (case side1 => repeat (first | exact HR0.out | (with_reducible refine Kd.C_alloc ?_ _) | (with_reducible refine Kd.C_drewN ?_ _) | (with_reducible refine Kd.C_drew ?_))); (case side2 => exact HC0.out); rintro e w14 ⟨rfl, hb⟩; refine ⟨_, rfl, ?_⟩; have n0_ := Aside0.mk (below_step (by repeat (first | (with_reducible first | exact HB.out | apply below_alloc | apply pw_below_drewN | apply below_drew1) | exact HB.out)) hb); clear HB; have HB := n0_; clear n0_; (try clear hb); (try clear hb2); (try clear hk); (try clear hi)) | ((with_reducible refine gate_callee (f := 26) rfl ?_); refine goesL_ (some 20) rfl rfl Try.func26 (by kernel_rfl) rfl #[.int .i64 a2] rfl (by (try simp only [List.map_toArray, List.map_cons, List.map_nil]); first | done | rfl | (simp only [List.length_drop, List.length_take]; rfl)) ?_; (with_reducible refine (access_known.calls a2 true _ A7.out).mono ?_); rintro e w' ⟨rfl, ⟨nd, rfl⟩⟩; refine ⟨_, rfl, ?_⟩; (try (rw [drewN_self w14]; generalize hq_ : World.drewN w14 _ = w14; have n0_ : Aside0 (Below w.heap.size w w14) := ⟨by rw [← hq_]; exact (by repeat (first | (with_reducible first | exact HB.out | apply below_alloc | apply pw_below_drewN | apply below_drew1) | exact HB.out))⟩; clear HB hq_; have HB := n0_; clear n0_))) | ((with_reducible refine gate_callee (f := 34) rfl ?_); refine goesL_ (some 23) rfl rfl Try.func34 (by kernel_rfl) rfl #[.slice A0 l0.length c0] rfl (by (try simp only [List.map_toArray, List.map_cons, List.map_nil]); first | done | rfl | (simp only [List.length_drop, List.length_take]; rfl)) ?_; (with_reducible refine (api_User_34.calls _ _ l0 t109 _ ?side1 ?side2 A9.out).mono ?_); (case side1 => repeat (first | exact (Kd.C_below HR0.out HB.out) | (with_reducible refine Kd.C_alloc ?_ _) | (with_reducible refine Kd.C_drewN ?_ _) | (with_reducible refine Kd.C_drew ?_))); (case side2 => exact HC0.out); rintro e w15 ⟨v110, rfl, ho0, hb⟩; refine ⟨_, rfl, ?_⟩; have n0_ := Aside0.mk (Kd.R_lower ho0 (below_size (by repeat (first | (with_reducible first | exact HB.out | apply below_alloc | apply pw_below_drewN | apply below_drew1) | exact HB.out)))); have n1_ := Aside0.mk (below_step (by repeat (first | (with_reducible first | exact HB.out | apply below_alloc | apply pw_below_drewN | apply below_drew1) | exact HB.out)) hb); clear HB; have HO111 := n0_; have HB := n1_; clear n0_ n1_; (try clear hb); (try clear hb2); (try clear hk); (try clear hi); (try clear ho0); obtain ⟨Ao16, co16, eo16⟩ := Kd.R_slice HO111.out; subst eo16; have p112 : 0 ≤ (t107 : Int) := of_decide_eq_true (by first | (with_reducible assumption) | assumption); have q112 : t107 < (t109.length : Int) := of_decide_eq_true (by first | (with_reducible assumption) | assumption); obtain ⟨ad112, e112, hx112_0, hx112_1, hx112_2⟩ := at_T25 (Kd.R_reads' HO111.out).2.2 t107 p112 q112; cases e112; replace p112 := eq_true p112; replace q112 := eq_true q112) | (go_at_call 29; (with_reducible refine (access_op_or.clo ((rd_T25 t109 t107).f1) a2 bq t113 _ (box_at (by repeat (first | (with_reducible first | exact HB.out | apply below_alloc | apply pw_below_drewN | apply below_drew1) | exact HB.out)) HQ0.out.1 HQ0.out.2) A12.out).mono ?_); rintro e w' ⟨rfl, ⟨nd, rfl⟩⟩; (try (rw [drewN_self w15]; generalize hq_ : World.drewN w15 _ = w15; have n0_ : Aside0 (Kd.R k25 25 w15 w.heap.size (fun _ => True) (.slice (some ad112) t109.length co16) t109) := ⟨by rw [← hq_]; exact (by (with_reducible repeat (first | apply Kd.R_alloc | apply Kd.R_drewN | apply Kd.R_drew)); exact HO111.out)⟩; have n1_ : Aside0 (Below w.heap.size w w15) := ⟨by rw [← hq_]; exact (by repeat (first | (with_reducible first | exact HB.out | apply below_alloc | apply pw_below_drewN | apply below_drew1) | exact HB.out))⟩; clear HO111 HB hq_; have HO111 := n0_; have HB := n1_; clear n0_ n1_)); have p13 : 0 ≤ (t107 : Int) := of_decide_eq_true (by first | (with_reducible assumption) | assumption); have q13 : (t107 : Int) < ((t109.length : Int) : Int) := of_decide_eq_true (by first | (with_reducible assumption) | assumption); obtain ⟨go13, co13, eo13, gb13, gl13, cl13, HG13⟩ := Kd.R_form HO111.out (by omega); (first | cases eo13 | (injection eo13 with ea_ en_ ec_; (first | subst ea_ | (injection ea_ with ea_; subst ea_)); subst ec_; clear en_)); have GB13 := Aside0.mk gb13; have GG13 := Aside0.mk HG13; clear gb13 gl13 HG13; (first | simp only [add_plain] at hx112_0 | skip); (first | simp only [add_plain] at hx112_1 | skip); (first | simp only [add_plain] at hx112_2 | skip); obtain ⟨ce13, hcl13, hM13, hcc13, hfr13⟩ := Kd.R_elem HO111.out z25 (t107 : Int) p13 q13; obtain rfl := k25_openM hM13; have hx13_0 : w15.cell? ⟨go13, (t107 : Int).toNat * 3, none⟩ = some (.string ((rd_T25 t109 t107).f0)) := hcc13 0 _ rfl; have hx13_1 : w15.cell? ⟨go13, (t107 : Int).toNat * 3 + 1, none⟩ = some (.int .i64 ((rd_T25 t109 t107).f1)) := hcc13 1 _ rfl; have hx13_2 : w15.cell? ⟨go13, (t107 : Int).toNat * 3 + 2, none⟩ = some (.int .i64 ((rd_T25 t109 t107).f2)) := hcc13 2 _ rfl; have hf13_0 : w15.frozen? ⟨go13, (t107 : Int).toNat * 3, none⟩ = false := hfr13 0; have hf13_1 : w15.frozen? ⟨go13, (t107 : Int).toNat * 3 + 1, none⟩ = false := hfr13 1; have hf13_2 : w15.frozen? ⟨go13, (t107 : Int).toNat * 3 + 2, none⟩ = false := hfr13 2; clear hcl13 hcc13 hfr13 hM13; replace p13 := eq_true p13; replace q13 := eq_true q13; have HX17 := Aside0.mk (show Kd.R k25 25 w15 w.heap.size (fun _ => True) (.slice (some ⟨go13, 0, none⟩) t109.length co16) t109 from (by (with_reducible repeat (first | apply Kd.R_alloc | apply Kd.R_drewN | apply Kd.R_drew)); exact HO111.out)); obtain ⟨ce17, hcl17, hM17, hcc17, hfr17⟩ := Kd.R_elem HX17.out z25 (t107 : Int) (of_decide_eq_true (by first | (with_reducible assumption) | assumption)) (by have h_ : (t107 : Int) < ((t109.length : Int) : Int) := of_decide_eq_true (by first | (with_reducible assumption) | assumption); first | exact h_ | (have e_ := (Kd.R_reads' HO111.out).1; omega) | simpa using h_); obtain rfl := k25_openM hM17; have HP17 := Kd.R_seg HX17.out (t107 : Int) (of_decide_eq_true (by first | (with_reducible assumption) | assumption)) (by have h_ : (t107 : Int) < ((t109.length : Int) : Int) := of_decide_eq_true (by first | (with_reducible assumption) | assumption); first | exact h_ | (have e_ := (Kd.R_reads' HO111.out).1; omega) | simpa using h_) (seg := [.int .i64 t113]) (j := 1) hcl17 hcc17 (show 2 ≤ 3 from by decide) (x' := (⟨(rd_T25 t109 t107).f0, t113, (rd_T25 t109 t107).f2⟩ : S25)) (k25_mkM _ _ _ (⟨(rd_T25 t109 t107).f0, t113, (rd_T25 t109 t107).f2⟩ : S25) ) (fun _ hk => hk); have hx17_1 := hcc17 1 _ rfl; (try simp only [show (k25).sz = 3 from rfl, Nat.mul_one, Nat.add_zero] at hx17_1); have hf17_1 := hfr17 1; (try simp only [show (k25).sz = 3 from rfl, Nat.mul_one, Nat.add_zero] at hf17_1); clear hcl17 hcc17 hfr17 hM17) | ((with_reducible refine gate_store (t := 3) (p := 34) rfl ?_); refine store_event (t := 3) (p := 34) (v := ?vo_w18) (w1 := (w15.setCell ⟨go13, (t107 : Int).toNat * 3 + 1, none⟩ (.int .i64 t113))) ?hg ?ho ?hn ?hr ?_; (case ho => rfl); (case hg => rfl); (case hn => rfl); (case hr => first | (go_simp; done) | (go_simp; rfl)); intro w18 hw; have hg : w15.grownBy w18 (some go13) := (by rw [hw]; exact HP17.2); have hp_ : Kd.R k25 25 w18 w.heap.size (fun _ => True) (.slice (some ⟨go13, 0, none⟩) t109.length co16) y114 := (by rw [hw, Ny114.out]; exact HP17.1); clear HP17; have n0_ := Aside0.mk (hp_); have n1_ := Aside0.mk ((by rw [hw]; exact below_set (HB.out) GB13.out : Below w.heap.size w w18)); clear HO111; clear HB; have HO111 := n0_; have HB := n1_; clear n0_ n1_; clear hg hw hp_))
          go_ret2
          exact ⟨_, by first | rfl | (simp [errW_none, errW_some] <;> rfl) | (simp [*, errW_none, errW_some] <;> rfl), by (with_reducible repeat (first | apply Kd.R_alloc | apply Kd.R_drewN | apply Kd.R_drew)); exact HO111.out, by repeat (first | (with_reducible first | exact HB.out | apply below_alloc | apply pw_below_drewN | apply below_drew1) | exact HB.out)⟩
        · rw [if_neg c11] at H
          exact absurd H (by simp)
      · rw [if_neg c10] at H
        exact absurd H (by simp)
    · replace c8 := Bool.eq_false_iff.mpr c8
      subst c8
      have H1 : (some (([] : List (S25)), 1)) = some (r1, r2) := by rw [if_neg (show ¬ (false = true) by decide)] at H; exact H
      clear H
      have H := H1
      clear H1
      simp only [Option.some.injEq, Prod.mk.injEq] at H
      obtain ⟨rfl, rfl⟩ := H
      go_enter Try.func28, Try.ntmps28
      go_wp2_with (first | ((with_reducible refine gate_callee (f := 22) rfl ?_); refine goesL_ (some 14) rfl rfl Try.func22 (by kernel_rfl) rfl #[.slice A0 l0.length c0, .string a1] rfl (by (try simp only [List.map_toArray, List.map_cons, List.map_nil]); first | done | rfl | (simp only [List.length_drop, List.length_take]; rfl)) ?_; (with_reducible refine (access_index.calls _ _ l0 a1 t107 _ ?side1 ?side2 A4.out).mono ?_); (case side1 => repeat (first | exact HR0.out | (with_reducible refine Kd.C_alloc ?_ _) | (with_reducible refine Kd.C_drewN ?_ _) | (with_reducible refine Kd.C_drew ?_))); (case side2 => exact HC0.out); rintro e w19 ⟨rfl, hb⟩; refine ⟨_, rfl, ?_⟩; have n0_ := Aside0.mk (below_step (by repeat (first | (with_reducible first | exact HB.out | apply below_alloc | apply pw_below_drewN | apply below_drew1) | exact HB.out)) hb); clear HB; have HB := n0_; clear n0_; (try clear hb); (try clear hb2); (try clear hk); (try clear hi)) | ((with_reducible refine gate_callee (f := 26) rfl ?_); refine goesL_ (some 20) rfl rfl Try.func26 (by kernel_rfl) rfl #[.int .i64 a2] rfl (by (try simp only [List.map_toArray, List.map_cons, List.map_nil]); first | done | rfl | (simp only [List.length_drop, List.length_take]; rfl)) ?_; (with_reducible refine (access_known.calls a2 false _ A7.out).mono ?_); rintro e w' ⟨rfl, ⟨nd, rfl⟩⟩; refine ⟨_, rfl, ?_⟩))
      go_ret2
      exact ⟨_, by first | rfl | (simp [errW_none, errW_some] <;> rfl) | (simp [*, errW_none, errW_some] <;> rfl), by first | exact Kd.R_nil _ _ _ _ _ | exact Kd.N_nil _ _ _ _ _ | exact Kd.V_nil _ _ _ _ _ | exact Kd.Q_nil _ _ _ _ _ | exact Kd.S_nil _ _ _ _ _, by repeat (first | (with_reducible first | exact HB.out | apply below_alloc | apply pw_below_drewN | apply below_drew1) | exact HB.out)⟩

def access_Grant.f (l0 : List (S25)) (a1 : ByteArray) (a2 : Int) : Option ((List (S25)) × Int) := access_change_or.f l0 a1 a2
set_option maxHeartbeats 8000000 in
set_option maxRecDepth 100000 in
theorem access_Grant.calls (A0 : Option Addr) (c0 : Nat) (l0 : List (S25)) (a1 : ByteArray) (a2 : Int) (r1 : List (S25)) (r2 : Int) (w : World) (hr0 : Kd.C k25 w A0 l0.length l0) (hc0 : l0.length ≤ c0) (h : access_Grant.f l0 a1 a2 = some (r1, r2)) :
    Calls Try.prog 17 #[.slice A0 l0.length c0, .string a1, .int .i64 a2] w fun e w' => ∃ v0_ : Value, e = .returned (.tuple #[v0_, .int .i64 r2]) ∧ Kd.R k25 25 w' w.heap.size (fun _ => True) v0_ r1 ∧ Below w.heap.size w w' := by
  have hmf : ∀ (fn : Fn) (first cap : Array Value) (w : World), (Instr.makeFunc fn first cap).run Try.prog w = .ok (.func fn first cap) w := fun _ _ _ _ => rfl
  have HB0 := Aside0.mk ((Below.refl w.heap.size w).alloc (Nat.le_refl _) (.cells #[.int .i64 a2] 3))
  have HP := Aside0.mk (access_change_or.calls A0 c0 l0 a1 a2 w.heap.size r1 r2 (w.alloc (.cells #[.int .i64 a2] 3)) (by simp) (by rw [World.cell?_alloc_at _ _ _ _ rfl]; rfl) (Kd.C_below hr0 HB0.out) hc0 h)
  clear hr0 hc0 h
  go_enter Try.func17, Try.ntmps17
  go_wp2_with (go_at_call 28; refine (HP.out).mono ?_; rintro e w' ⟨v0, rfl, ho, hbe⟩; have HO := Aside0.mk ho; have HBE := Aside0.mk hbe; clear ho hbe)
  go_ret2
  exact ⟨_, rfl, Kd.R_lower HO.out HB0.out.size, HB0.out.trans (HBE.out.mono HB0.out.size)⟩


end Go.Proofs.Ytclllkbngkohlaa.X
