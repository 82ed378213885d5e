-- Written by program (wip/tools/xprint.sh) for this seat; not trusted: Lean checks it.
import Derived.Test.YtclllkbngkohlaaX0
import Derived.Test.YtclllkbngkohlaaX1
namespace Go.Proofs.Ytclllkbngkohlaa.X
open Go.RowKit Go.Proofs.YtclllkbngkohlaaW.PrintWords Go.Proofs.YtclllkbngkohlaaW.PrintLast Go.Proofs.YtclllkbngkohlaaW.PrintMore
attribute [local go_sem] max2_int min2_int max_two min_two max_three min_three max_four min_four   -- for this text's walks alone
set_option linter.unusedVariables false
set_option linter.unusedSimpArgs false

/-! ### access_index: function 22 (by hand) -/
set_option maxHeartbeats 8000000 in
set_option maxRecDepth 100000 in
theorem access_index.clo (x : S25) (nm : ByteArray) (bq : Nat) (w : World) (hB : bq < w.heap.size) (hc : w.cell? ⟨bq, 0, none⟩ = some (.string nm)) :
    Calls Try.prog 33 #[.agg #[.string x.f0, .int .i64 x.f1, .int .i64 x.f2], .pointer (some ⟨bq, 0, none⟩)] w fun e w' => e = .returned (.bool (x.f0.toList == nm.toList)) ∧ Below w.heap.size w w' := by
  go_enter Try.func33, Try.ntmps33
  go_wp2
  go_ret
  exact ⟨rfl, (Below.refl _ _).alloc (Nat.le_refl _) _⟩

set_option maxHeartbeats 8000000 in
set_option maxRecDepth 100000 in
theorem access_index.loop (A0 : Option Addr) (c0 : Nat) (l0 : List S25) (nm : ByteArray) (bq : Nat) (w : World) (hlen : l0.length ≤ maxLen) (hB : bq < w.heap.size) (hc : w.cell? ⟨bq, 0, none⟩ = some (.string nm)) (hr0 : Kd.C k25 w A0 l0.length l0) :
    Calls Try.prog 32 #[.slice A0 l0.length c0, .func (.func 33) #[] #[.pointer (some ⟨bq, 0, none⟩)]] w fun e w' => e = .returned (.int .i64 (idxP (fun x : S25 => x.f0.toList == nm.toList) l0)) ∧ Below w.heap.size w w' := by
  have HR0 := Aside0.mk hr0
  have HB := Aside0.mk hB
  have HC := Aside0.mk hc
  unfold maxLen at hlen
  have HL := Aside0.mk hlen
  clear hr0 hB hc hlen
  go_enter Try.func32, Try.ntmps32
  go_wp2
  go_loopw [8] (fun v8 w' => ∃ i : Int, v8 = .int .i64 i ∧ Aside0 (0 ≤ i ∧ i ≤ (l0.length : Int) ∧ ∀ j : Nat, (j : Int) < i → (fun x : S25 => x.f0.toList == nm.toList) (l0.getD j z25) = false) ∧ Aside0 (Below w.heap.size w w')) (fun v8 _ => l0.length - (intOf v8).toNat)
  case atStart => exact ⟨0, rfl, ⟨by omega, by omega, fun j hj => by omega⟩, ⟨Below.refl _ _⟩⟩
  case round =>
    obtain ⟨i, rfl, HI, HBW⟩ := hrel
    have hb := HBW.out
    have hi := HI.out
    by_cases c3 : i < (l0.length : Int)
    · have c3b0 : decide (i < (l0.length : Int)) = true := decide_eq_true c3
      have HRW := Aside0.mk (Kd.C_below HR0.out hb)
      have HP := Aside0.mk (access_index.clo (rd_T25 l0 i) nm bq wr (Nat.lt_of_lt_of_le HB.out hb.size) ((hb.cell (p := ⟨bq, 0, none⟩) HB.out).trans HC.out))
      have p1 : 0 ≤ i := hi.1
      obtain ⟨ad1, e1, hx0, hx1, hx2⟩ := at_T25 HRW.out i hi.1 c3
      cases e1
      clear hi hb
      have HW := Aside0.mk (show wrap64 (i + 1) = i + 1 by unfold wrap64; have := HL.out; omega)
      replace p1 := eq_true p1
      replace c3 := eq_true c3
      cases hq : ((rd_T25 l0 i).f0.toList == nm.toList) with
      | true =>
        rw [hq] at HP
        have HQ := Aside0.mk hq
        clear hq
        go_wp2_with (go_at_call 33; refine (HP.out).mono ?_; rintro e w' ⟨rfl, hbe⟩; have HBE := Aside0.mk hbe; clear hbe)
        go_ret
        exact ⟨by rw [idxP_hit _ l0 z25 i (of_eq_true p1) (of_eq_true c3) HI.out.2.2 HQ.out]; rfl, HBW.out.trans (HBE.out.mono HBW.out.size)⟩
      | false =>
        rw [hq] at HP
        have HQ := Aside0.mk hq
        clear hq
        go_wp2_with (go_at_call 33; refine (HP.out).mono ?_; rintro e w' ⟨rfl, hbe⟩; have HBE := Aside0.mk hbe; clear hbe)
        go_roundw
        case rel => exact ⟨i + 1, by rw [HW.out], ⟨by have := HI.out; omega, by have := of_eq_true c3; omega, fun j hj => by
          by_cases e : (j : Int) = i
          · have h2 := HQ.out; rw [← e] at h2; exact h2
          · exact HI.out.2.2 j (by omega)⟩, ⟨HBW.out.trans (HBE.out.mono HBW.out.size)⟩⟩
        case measure => rw [HW.out]; simp [intOf]; have := of_eq_true c3; have := of_eq_true p1; omega
    · have c3b0 : decide (i < (l0.length : Int)) = false := decide_eq_false c3
      clear hi hb
      replace c3 := Aside0.mk c3
      go_wp2
      go_ret
      exact ⟨by rw [idxP_miss _ l0 z25 i (by have := c3.out; omega) HI.out.2.2]; rfl, HBW.out⟩

/-- access.index: the closure captures the name. -/
def access_index.f (l0 : List (S25)) (a1 : ByteArray) : Option (Int) := if l0.length ≤ 9223372036854775807 then some (idxP (fun x : S25 => x.f0.toList == a1.toList) l0) else none
set_option maxHeartbeats 8000000 in
set_option maxRecDepth 100000 in
theorem access_index.calls (A0 : Option Addr) (c0 : Nat) (l0 : List (S25)) (a1 : ByteArray) (r : Int) (w : World) (hr0 : Kd.C k25 w A0 l0.length l0) (hc0 : l0.length ≤ c0) (h : access_index.f l0 a1 = some r) :
    Calls Try.prog 22 #[.slice A0 l0.length c0, .string a1] w fun e w' => e = .returned (.int .i64 r) ∧ Below w.heap.size w w' := by
  unfold access_index.f at h
  by_cases hl : l0.length ≤ 9223372036854775807
  · rw [if_pos hl] at h
    obtain rfl := Option.some.inj h
    have hmf : ∀ (fn : Fn) (first cap : Array Value) (w : World), (Instr.makeFunc fn first cap).run Try.prog w = .ok (.func fn first cap) w := fun _ _ _ _ => rfl
    have HP := Aside0.mk (access_index.loop A0 c0 l0 a1 w.heap.size (w.alloc (.cells #[.string a1] 9)) hl (by simp) (by rw [World.cell?_alloc_at _ _ _ _ rfl]; rfl) (Kd.C_below hr0 ((Below.refl _ _).alloc (Nat.le_refl _) _)))
    clear hr0 hc0 hl h
    go_enter Try.func22, Try.ntmps22
    go_wp2_with (go_at_call 32; refine (HP.out).mono ?_; rintro e w' ⟨rfl, hbe⟩; have HBE := Aside0.mk hbe; clear hbe)
    go_ret
    exact ⟨rfl, ((Below.refl _ _).alloc (Nat.le_refl _) _).trans (HBE.out.mono (by simp))⟩
  · rw [if_neg hl] at h
    cases h


end Go.Proofs.Ytclllkbngkohlaa.X
