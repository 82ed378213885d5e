-- Written by program (wip/tools/xprint.sh) for this seat; not trusted: Lean checks it.
import Derived.Test.YtfdjgdjmllkdcaaDoorX0
import Derived.Test.YtfdjgdjmllkdcaaDoorX2
namespace Go.Proofs.YtfdjgdjmllkdcaaDoor.X
open Go.RowKit Go.Proofs.YtfdjgdjmllkdcaaDoorW.PrintWords Go.Proofs.YtfdjgdjmllkdcaaDoorW.PrintLast Go.Proofs.YtfdjgdjmllkdcaaDoorW.PrintMore
attribute [local go_sem] max2_int min2_int   -- for this text's walks alone
set_option linter.unusedVariables false
set_option linter.unusedSimpArgs false

attribute [local go_sem high] eqA36
/-! ### corebanklaw42_others: function 13 -/
def corebanklaw42_others.l0 : Nat → List (S36) → List (S36) → Int → Int → Option (Bool)
  | 0, _, _, _, _ => none
  | k + 1, x0, x1, x2, x7 => if x7 < (x0.length : Int) then (if 0 ≤ x7 then (if x7 < (x1.length : Int) then (if (!(((rd_T36 x0 x7).f0) == ((rd_T36 x1 x7).f0)) || (!(((rd_T36 x0 x7).f1) == ((rd_T36 x1 x7).f1)) || (!(((rd_T36 x0 x7).f2) == ((rd_T36 x1 x7).f2)) || (!(((rd_T36 x0 x7).f3) == ((rd_T36 x1 x7).f3)) || (!(((rd_T36 x0 x7).f4) == ((rd_T36 x1 x7).f4)) || (!(((rd_T36 x0 x7).f5) == ((rd_T36 x1 x7).f5)) || (!(((rd_T36 x0 x7).f6) == ((rd_T36 x1 x7).f6)) || (!(((rd_T36 x0 x7).f7) == ((rd_T36 x1 x7).f7)) || (!((((rd_T36 x0 x7).f8).toList) == (((rd_T36 x1 x7).f8).toList))))))))))) = true then (if ((rd_T36 x0 x7).f0) = x2 then (if ((rd_T36 x1 x7).f0) = x2 then (if ((rd_T36 x0 x7).f2) = ((rd_T36 x1 x7).f2) then (if ((rd_T36 x0 x7).f8).toList = ((rd_T36 x1 x7).f8).toList then (if ((rd_T36 x0 x7).f1) = ((rd_T36 x1 x7).f1) then (if ((rd_T36 x0 x7).f3) = ((rd_T36 x1 x7).f3) then (corebanklaw42_others.l0 k x0 x1 x2 (wrap64 (x7 + 1))) else (none)) else (none)) else (none)) else (none)) else (none)) else (none)) else (corebanklaw42_others.l0 k x0 x1 x2 (wrap64 (x7 + 1)))) else (none)) else (none)) else (some true)
def corebanklaw42_others.f (k : Nat) (l0 : List (S36)) (l1 : List (S36)) (a2 : Int) : Option (Bool) := if (l0.length : Int) = (l1.length : Int) then (corebanklaw42_others.l0 k l0 l1 a2 0) else (none)
theorem corebanklaw42_others.mono_l : ∀ k, (∀ y0 y1 y2 y3, LeO (corebanklaw42_others.l0 k y0 y1 y2 y3) (corebanklaw42_others.l0 (k + 1) y0 y1 y2 y3))
  | 0 => fun _ _ _ _ r h => by simp [corebanklaw42_others.l0] at h
  | k + 1 => by
    have ih0 := corebanklaw42_others.mono_l k
    · intro y0 y1 y2 y3
      unfold corebanklaw42_others.l0
      repeat' first
      | (with_reducible exact ih0 _ _ _ _)
      | (with_reducible exact LeO.refl _)
      | (with_reducible exact LeO.none _)
      | (with_reducible refine LeO.ite ?_ ?_)
      | (with_reducible refine LeO.bind ?_ (fun _ => ?_))
      | exact ih0 _ _ _ _
      | exact LeO.none _
      | refine LeO.ite ?_ ?_
      | refine LeO.bind ?_ (fun _ => ?_)
theorem corebanklaw42_others.mono : ∀ a0 a1 a2 k, LeO (corebanklaw42_others.f k a0 a1 a2) (corebanklaw42_others.f (k + 1) a0 a1 a2) := by
  intro a0 a1 a2 k
  have ih0 := corebanklaw42_others.mono_l k
  unfold corebanklaw42_others.f
  repeat' first
      | (with_reducible exact ih0 _ _ _ _)
      | (with_reducible exact LeO.refl _)
      | (with_reducible exact LeO.none _)
      | (with_reducible refine LeO.ite ?_ ?_)
      | (with_reducible refine LeO.bind ?_ (fun _ => ?_))
      | exact ih0 _ _ _ _
      | exact LeO.none _
      | refine LeO.ite ?_ ?_
      | refine LeO.bind ?_ (fun _ => ?_)
set_option maxHeartbeats 8000000 in
set_option maxRecDepth 100000 in
theorem corebanklaw42_others.calls (k : Nat) (A0 : Option Addr) (c0 : Nat) (l0 : List (S36)) (A1 : Option Addr) (c1 : Nat) (l1 : List (S36)) (a2 : Int) (r : Bool) (w : World) (hr0 : Kd.C k36 w A0 l0.length l0) (hc0 : l0.length ≤ c0) (hr1 : Kd.C k36 w A1 l1.length l1) (hc1 : l1.length ≤ c1) (h : corebanklaw42_others.f k l0 l1 a2 = some r) :
  Calls Tryd.prog 13 #[.slice A0 l0.length c0, .slice A1 l1.length c1, .int .i64 a2] w fun e w' => e = .returned (.bool r) ∧ Drawn0 w w' := by
 have hu36 := Tryd.underlying36
 have HR0 := Aside0.mk hr0
 have HC0 := Aside0.mk hc0
 clear hr0 hc0
 have HR1 := Aside0.mk hr1
 have HC1 := Aside0.mk hc1
 clear hr1 hc1
 have H : (if (l0.length : Int) = (l1.length : Int) then (corebanklaw42_others.l0 k l0 l1 a2 0) else (none)) = some r := h
 clear h
 by_cases c4 : (l0.length : Int) = (l1.length : Int)
 ·rw [if_pos c4] at H
  have c4b0 : ((l0.length : Int) == (l1.length : Int)) = true := beq_iff_eq.mpr c4
  have c4b1 : ((l0.length : Int) != (l1.length : Int)) = false := bne_eq_false_iff_eq.mpr c4
  have c4b2 : (l0.length == l1.length) = true := by first | simpa using c4 | (simp at c4 ⊢; omega)
  clear c4
  have H' := Aside0.mk H
  clear H
  go_enter Tryd.func13, Tryd.ntmps13
  go_wp2
  try simp only [List.append]
  repeat (go_quiet (fail); try go_wp2)
  go_loopg [7] k (fun kq v7 w' => ∃ (x7_1 : Int), v7 = .int .i64 x7_1 ∧ Aside0 (corebanklaw42_others.l0 kq l0 l1 a2 x7_1 = some r) ∧ Aside0 (kq ≤ k) ∧ Drawn0 w w')
  case atStart => exact ⟨(0), (by first | rfl | (simp; done) | (simp [*]; done)), H', ⟨Nat.le_refl _⟩, by repeat (first | exact Drawn0.refl _ | apply Drawn0.step)⟩
  case round =>
   clear H'
   try clear c1
   try clear p2
   try clear c4
   try clear c4b0
   try clear c4b1
   try clear c4b2
   obtain ⟨x7_1, rfl, HA, HK1, ⟨m1, rfl⟩⟩ := hrel
   cases gk with
   | zero => exact absurd HA.out (by simp [corebanklaw42_others.l0])
   | succ k1 =>
    have H := HA.out
    clear HA
    simp only [corebanklaw42_others.l0] at H
    by_cases c5 : x7_1 < (l0.length : Int)
    ·rw [if_pos c5] at H
     have c5b0 : decide (x7_1 < (l0.length : Int)) = true := decide_eq_true c5
     clear c5
     by_cases c6 : 0 ≤ x7_1
     ·rw [if_pos c6] at H
      have c6b0 : decide (0 ≤ x7_1) = true := decide_eq_true c6
      clear c6
      by_cases c7 : x7_1 < (l1.length : Int)
      ·rw [if_pos c7] at H
       have c7b0 : decide (x7_1 < (l1.length : Int)) = true := decide_eq_true c7
       clear c7
       by_cases c8 : (!(((rd_T36 l0 x7_1).f0) == ((rd_T36 l1 x7_1).f0)) || (!(((rd_T36 l0 x7_1).f1) == ((rd_T36 l1 x7_1).f1)) || (!(((rd_T36 l0 x7_1).f2) == ((rd_T36 l1 x7_1).f2)) || (!(((rd_T36 l0 x7_1).f3) == ((rd_T36 l1 x7_1).f3)) || (!(((rd_T36 l0 x7_1).f4) == ((rd_T36 l1 x7_1).f4)) || (!(((rd_T36 l0 x7_1).f5) == ((rd_T36 l1 x7_1).f5)) || (!(((rd_T36 l0 x7_1).f6) == ((rd_T36 l1 x7_1).f6)) || (!(((rd_T36 l0 x7_1).f7) == ((rd_T36 l1 x7_1).f7)) || (!((((rd_T36 l0 x7_1).f8).toList) == (((rd_T36 l1 x7_1).f8).toList))))))))))) = true
       ·rw [if_pos c8] at H
        have c8b0 : (!(((rd_T36 l0 x7_1).f0) == ((rd_T36 l1 x7_1).f0)) || (!(((rd_T36 l0 x7_1).f1) == ((rd_T36 l1 x7_1).f1)) || (!(((rd_T36 l0 x7_1).f2) == ((rd_T36 l1 x7_1).f2)) || (!(((rd_T36 l0 x7_1).f3) == ((rd_T36 l1 x7_1).f3)) || (!(((rd_T36 l0 x7_1).f4) == ((rd_T36 l1 x7_1).f4)) || (!(((rd_T36 l0 x7_1).f5) == ((rd_T36 l1 x7_1).f5)) || (!(((rd_T36 l0 x7_1).f6) == ((rd_T36 l1 x7_1).f6)) || (!(((rd_T36 l0 x7_1).f7) == ((rd_T36 l1 x7_1).f7)) || (!((((rd_T36 l0 x7_1).f8).toList) == (((rd_T36 l1 x7_1).f8).toList))))))))))) = true := c8
        clear c8
        by_cases c9 : ((rd_T36 l0 x7_1).f0) = a2
        ·rw [if_pos c9] at H
         have c9b0 : (((rd_T36 l0 x7_1).f0) == a2) = true := beq_iff_eq.mpr c9
         have c9b1 : (((rd_T36 l0 x7_1).f0) != a2) = false := bne_eq_false_iff_eq.mpr c9
         clear c9
         by_cases c10 : ((rd_T36 l1 x7_1).f0) = a2
         ·rw [if_pos c10] at H
          have c10b0 : (((rd_T36 l1 x7_1).f0) == a2) = true := beq_iff_eq.mpr c10
          have c10b1 : (((rd_T36 l1 x7_1).f0) != a2) = false := bne_eq_false_iff_eq.mpr c10
          clear c10
          by_cases c11 : ((rd_T36 l0 x7_1).f2) = ((rd_T36 l1 x7_1).f2)
          ·rw [if_pos c11] at H
           have c11b0 : (((rd_T36 l0 x7_1).f2) == ((rd_T36 l1 x7_1).f2)) = true := beq_iff_eq.mpr c11
           have c11b1 : (((rd_T36 l0 x7_1).f2) != ((rd_T36 l1 x7_1).f2)) = false := bne_eq_false_iff_eq.mpr c11
           clear c11
           by_cases c12 : ((rd_T36 l0 x7_1).f8).toList = ((rd_T36 l1 x7_1).f8).toList
           ·rw [if_pos c12] at H
            have c12b0 : (((rd_T36 l0 x7_1).f8).toList == ((rd_T36 l1 x7_1).f8).toList) = true := beq_iff_eq.mpr c12
            have c12b1 : (((rd_T36 l0 x7_1).f8).toList != ((rd_T36 l1 x7_1).f8).toList) = false := bne_eq_false_iff_eq.mpr c12
            clear c12
            by_cases c13 : ((rd_T36 l0 x7_1).f1) = ((rd_T36 l1 x7_1).f1)
            ·rw [if_pos c13] at H
             have c13b0 : (((rd_T36 l0 x7_1).f1) == ((rd_T36 l1 x7_1).f1)) = true := beq_iff_eq.mpr c13
             have c13b1 : (((rd_T36 l0 x7_1).f1) != ((rd_T36 l1 x7_1).f1)) = false := bne_eq_false_iff_eq.mpr c13
             clear c13
             by_cases c14 : ((rd_T36 l0 x7_1).f3) = ((rd_T36 l1 x7_1).f3)
             ·rw [if_pos c14] at H
              have c14b0 : (((rd_T36 l0 x7_1).f3) == ((rd_T36 l1 x7_1).f3)) = true := beq_iff_eq.mpr c14
              have c14b1 : (((rd_T36 l0 x7_1).f3) != ((rd_T36 l1 x7_1).f3)) = false := bne_eq_false_iff_eq.mpr c14
              clear c14
              have H' := Aside0.mk H
              clear H
              have p180 : 0 ≤ (x7_1 : Int) := of_decide_eq_true (by first | (with_reducible assumption) | assumption)
              have q180 : x7_1 < (l0.length : Int) := of_decide_eq_true (by first | (with_reducible assumption) | assumption)
              obtain ⟨ad180, e180, hx180_0, hx180_1, hx180_2, hx180_3, hx180_4, hx180_5, hx180_6, hx180_7, hx180_8⟩ := at_T36 HR0.out x7_1 p180 q180
              cases e180
              replace p180 := eq_true p180
              replace q180 := eq_true q180
              have p181 : 0 ≤ (x7_1 : Int) := of_decide_eq_true (by first | (with_reducible assumption) | assumption)
              have q181 : x7_1 < (l1.length : Int) := of_decide_eq_true (by first | (with_reducible assumption) | assumption)
              obtain ⟨ad181, e181, hx181_0, hx181_1, hx181_2, hx181_3, hx181_4, hx181_5, hx181_6, hx181_7, hx181_8⟩ := at_T36 HR1.out x7_1 p181 q181
              cases e181
              replace p181 := eq_true p181
              replace q181 := eq_true q181
              have p182 : 0 ≤ (x7_1 : Int) := of_decide_eq_true (by first | (with_reducible assumption) | assumption)
              have q182 : x7_1 < (l0.length : Int) := of_decide_eq_true (by first | (with_reducible assumption) | assumption)
              obtain ⟨ad182, e182, hx182_0, hx182_1, hx182_2, hx182_3, hx182_4, hx182_5, hx182_6, hx182_7, hx182_8⟩ := at_T36 HR0.out x7_1 p182 q182
              obtain rfl : ad180 = ad182 := (by injection e182)
              replace p182 := eq_true p182
              replace q182 := eq_true q182
              have p183 : 0 ≤ (x7_1 : Int) := of_decide_eq_true (by first | (with_reducible assumption) | assumption)
              have q183 : x7_1 < (l1.length : Int) := of_decide_eq_true (by first | (with_reducible assumption) | assumption)
              obtain ⟨ad183, e183, hx183_0, hx183_1, hx183_2, hx183_3, hx183_4, hx183_5, hx183_6, hx183_7, hx183_8⟩ := at_T36 HR1.out x7_1 p183 q183
              obtain rfl : ad181 = ad183 := (by injection e183)
              replace p183 := eq_true p183
              replace q183 := eq_true q183
              have p184 : 0 ≤ (x7_1 : Int) := of_decide_eq_true (by first | (with_reducible assumption) | assumption)
              have q184 : x7_1 < (l0.length : Int) := of_decide_eq_true (by first | (with_reducible assumption) | assumption)
              obtain ⟨ad184, e184, hx184_0, hx184_1, hx184_2, hx184_3, hx184_4, hx184_5, hx184_6, hx184_7, hx184_8⟩ := at_T36 HR0.out x7_1 p184 q184
              obtain rfl : ad180 = ad184 := (by injection e184)
              replace p184 := eq_true p184
              replace q184 := eq_true q184
              have p185 : 0 ≤ (x7_1 : Int) := of_decide_eq_true (by first | (with_reducible assumption) | assumption)
              have q185 : x7_1 < (l1.length : Int) := of_decide_eq_true (by first | (with_reducible assumption) | assumption)
              obtain ⟨ad185, e185, hx185_0, hx185_1, hx185_2, hx185_3, hx185_4, hx185_5, hx185_6, hx185_7, hx185_8⟩ := at_T36 HR1.out x7_1 p185 q185
              obtain rfl : ad181 = ad185 := (by injection e185)
              replace p185 := eq_true p185
              replace q185 := eq_true q185
              have p186 : 0 ≤ (x7_1 : Int) := of_decide_eq_true (by first | (with_reducible assumption) | assumption)
              have q186 : x7_1 < (l0.length : Int) := of_decide_eq_true (by first | (with_reducible assumption) | assumption)
              obtain ⟨ad186, e186, hx186_0, hx186_1, hx186_2, hx186_3, hx186_4, hx186_5, hx186_6, hx186_7, hx186_8⟩ := at_T36 HR0.out x7_1 p186 q186
              obtain rfl : ad180 = ad186 := (by injection e186)
              replace p186 := eq_true p186
              replace q186 := eq_true q186
              have p187 : 0 ≤ (x7_1 : Int) := of_decide_eq_true (by first | (with_reducible assumption) | assumption)
              have q187 : x7_1 < (l1.length : Int) := of_decide_eq_true (by first | (with_reducible assumption) | assumption)
              obtain ⟨ad187, e187, hx187_0, hx187_1, hx187_2, hx187_3, hx187_4, hx187_5, hx187_6, hx187_7, hx187_8⟩ := at_T36 HR1.out x7_1 p187 q187
              obtain rfl : ad181 = ad187 := (by injection e187)
              replace p187 := eq_true p187
              replace q187 := eq_true q187
              have p188 : 0 ≤ (x7_1 : Int) := of_decide_eq_true (by first | (with_reducible assumption) | assumption)
              have q188 : x7_1 < (l0.length : Int) := of_decide_eq_true (by first | (with_reducible assumption) | assumption)
              obtain ⟨ad188, e188, hx188_0, hx188_1, hx188_2, hx188_3, hx188_4, hx188_5, hx188_6, hx188_7, hx188_8⟩ := at_T36 HR0.out x7_1 p188 q188
              obtain rfl : ad180 = ad188 := (by injection e188)
              replace p188 := eq_true p188
              replace q188 := eq_true q188
              have p189 : 0 ≤ (x7_1 : Int) := of_decide_eq_true (by first | (with_reducible assumption) | assumption)
              have q189 : x7_1 < (l1.length : Int) := of_decide_eq_true (by first | (with_reducible assumption) | assumption)
              obtain ⟨ad189, e189, hx189_0, hx189_1, hx189_2, hx189_3, hx189_4, hx189_5, hx189_6, hx189_7, hx189_8⟩ := at_T36 HR1.out x7_1 p189 q189
              obtain rfl : ad181 = ad189 := (by injection e189)
              replace p189 := eq_true p189
              replace q189 := eq_true q189
              have p190 : 0 ≤ (x7_1 : Int) := of_decide_eq_true (by first | (with_reducible assumption) | assumption)
              have q190 : x7_1 < (l0.length : Int) := of_decide_eq_true (by first | (with_reducible assumption) | assumption)
              obtain ⟨ad190, e190, hx190_0, hx190_1, hx190_2, hx190_3, hx190_4, hx190_5, hx190_6, hx190_7, hx190_8⟩ := at_T36 HR0.out x7_1 p190 q190
              obtain rfl : ad180 = ad190 := (by injection e190)
              replace p190 := eq_true p190
              replace q190 := eq_true q190
              have p191 : 0 ≤ (x7_1 : Int) := of_decide_eq_true (by first | (with_reducible assumption) | assumption)
              have q191 : x7_1 < (l1.length : Int) := of_decide_eq_true (by first | (with_reducible assumption) | assumption)
              obtain ⟨ad191, e191, hx191_0, hx191_1, hx191_2, hx191_3, hx191_4, hx191_5, hx191_6, hx191_7, hx191_8⟩ := at_T36 HR1.out x7_1 p191 q191
              obtain rfl : ad181 = ad191 := (by injection e191)
              replace p191 := eq_true p191
              replace q191 := eq_true q191
              have c8b9 := c8b0
              simp only [c11b0, c12b0, c13b0, c14b0, Bool.not_true, Bool.false_or, Bool.or_false] at c8b9
              go_wp2
              try simp only [List.append]
              repeat (go_quiet (fail); try go_wp2)
              go_roundg k1
              case measure => have := HK1.out; omega
              case rel => exact ⟨(wrap64 (x7_1 + 1)), (by first | rfl | (simp; done) | (simp [*]; done)), H', ⟨by have := HK1.out; omega⟩, by repeat (first | exact Drawn0.refl _ | apply Drawn0.step)⟩
             ·rw [if_neg c14] at H
              exact absurd H (by simp)
            ·rw [if_neg c13] at H
             exact absurd H (by simp)
           ·rw [if_neg c12] at H
            exact absurd H (by simp)
          ·rw [if_neg c11] at H
           exact absurd H (by simp)
         ·rw [if_neg c10] at H
          exact absurd H (by simp)
        ·rw [if_neg c9] at H
         exact absurd H (by simp)
       ·rw [if_neg c8] at H
        have c8b0 : (!(((rd_T36 l0 x7_1).f0) == ((rd_T36 l1 x7_1).f0)) || (!(((rd_T36 l0 x7_1).f1) == ((rd_T36 l1 x7_1).f1)) || (!(((rd_T36 l0 x7_1).f2) == ((rd_T36 l1 x7_1).f2)) || (!(((rd_T36 l0 x7_1).f3) == ((rd_T36 l1 x7_1).f3)) || (!(((rd_T36 l0 x7_1).f4) == ((rd_T36 l1 x7_1).f4)) || (!(((rd_T36 l0 x7_1).f5) == ((rd_T36 l1 x7_1).f5)) || (!(((rd_T36 l0 x7_1).f6) == ((rd_T36 l1 x7_1).f6)) || (!(((rd_T36 l0 x7_1).f7) == ((rd_T36 l1 x7_1).f7)) || (!((((rd_T36 l0 x7_1).f8).toList) == (((rd_T36 l1 x7_1).f8).toList))))))))))) = false := by simpa using c8
        clear c8
        have H' := Aside0.mk H
        clear H
        have p180 : 0 ≤ (x7_1 : Int) := of_decide_eq_true (by first | (with_reducible assumption) | assumption)
        have q180 : x7_1 < (l0.length : Int) := of_decide_eq_true (by first | (with_reducible assumption) | assumption)
        obtain ⟨ad180, e180, hx180_0, hx180_1, hx180_2, hx180_3, hx180_4, hx180_5, hx180_6, hx180_7, hx180_8⟩ := at_T36 HR0.out x7_1 p180 q180
        cases e180
        replace p180 := eq_true p180
        replace q180 := eq_true q180
        have p181 : 0 ≤ (x7_1 : Int) := of_decide_eq_true (by first | (with_reducible assumption) | assumption)
        have q181 : x7_1 < (l1.length : Int) := of_decide_eq_true (by first | (with_reducible assumption) | assumption)
        obtain ⟨ad181, e181, hx181_0, hx181_1, hx181_2, hx181_3, hx181_4, hx181_5, hx181_6, hx181_7, hx181_8⟩ := at_T36 HR1.out x7_1 p181 q181
        cases e181
        replace p181 := eq_true p181
        replace q181 := eq_true q181
        go_wp2
        try simp only [List.append]
        repeat (go_quiet (fail); try go_wp2)
        go_roundg k1
        case measure => have := HK1.out; omega
        case rel => exact ⟨(wrap64 (x7_1 + 1)), (by first | rfl | (simp; done) | (simp [*]; done)), H', ⟨by have := HK1.out; omega⟩, by repeat (first | exact Drawn0.refl _ | apply Drawn0.step)⟩
      ·rw [if_neg c7] at H
       exact absurd H (by simp)
     ·rw [if_neg c6] at H
      exact absurd H (by simp)
    ·rw [if_neg c5] at H
     have c5b0 : decide (x7_1 < (l0.length : Int)) = false := decide_eq_false c5
     clear c5
     obtain rfl := Option.some.inj H
     go_wp2
     try simp only [List.append]
     repeat (go_quiet (fail); try go_wp2)
     go_ret
     exact ⟨by first | rfl | (simp; done) | (simp [*]; done), by repeat (first | exact Drawn0.refl _ | apply Drawn0.step)⟩
 ·rw [if_neg c4] at H
  exact absurd H (by simp)

end Go.Proofs.YtfdjgdjmllkdcaaDoor.X
