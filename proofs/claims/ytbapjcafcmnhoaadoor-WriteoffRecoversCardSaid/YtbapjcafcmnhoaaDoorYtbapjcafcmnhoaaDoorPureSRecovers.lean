import Derived.Test.YtbapjcafcmnhoaaDoorEv
import Derived.Test.YtbapjcafcmnhoaaDoorGood
import Derived.Test.YtbapjcafcmnhoaaDoorX0
import Derived.Test.YtbapjcafcmnhoaaDoorX11
import Derived.Test.YtbapjcafcmnhoaaDoorX14
import Derived.Test.YtbapjcafcmnhoaaDoorX16
import Derived.Test.YtbapjcafcmnhoaaDoorX20
import Derived.Test.YtbapjcafcmnhoaaDoorX21
import Derived.Test.YtbapjcafcmnhoaaDoorX23
import Derived.Test.YtbapjcafcmnhoaaDoorX5
namespace Go.Proofs.YtbapjcafcmnhoaaDoor.X
open Go.RowKit Go.Proofs.YtbapjcafcmnhoaaDoorW.PrintWords Go.Proofs.YtbapjcafcmnhoaaDoorW.PrintLast
set_option linter.unusedVariables false

theorem live_true : Ev (fun k => corebanklaw39_Lives.f k) true := Ev.of corebanklaw39_Lives.mono (k := 30) (by decide +kernel)
theorem live_end : Ev (fun k => (corebanklaw39_Lives.f k).bind fun t => some t) true := Ev.bnd live_true (Ev.ret rfl)
def dayB (d : Int) : Bool := decide (0 ≤ d) && decide (d ≤ 73048)
theorem date_eq (d : Int) : date_Valid.f d = some (dayB d) := by
  unfold date_Valid.f dayB
  by_cases h : d ≥ 0 <;> simp [h]
theorem rdate_eq (d : Int) : corebankref04_Valid.f d = some (dayB d) := by
  unfold corebankref04_Valid.f dayB
  by_cases h : d ≥ 0 <;> simp [h]
theorem due_eq (l : List S43) (h : l.length ≤ 100) : api_Due.f l = some l := by
  unfold api_Due.f
  simp only [Option.bind_some, List.nil_append]
  exact if_pos (by simp; omega)
theorem change_eq (l : List S59) (h : l.length ≤ 100) : api_Change.f l = some l := by
  unfold api_Change.f
  simp only [Option.bind_some, List.nil_append]
  exact if_pos (by simp; omega)
theorem dues_loop (l : List S43) (hl : l.length ≤ 9223372036854775807) : ∀ (d : Nat) (i : Int), 0 ≤ i → i + d = (l.length : Int) → Ev (fun k => corebankref34_SameDues.l0 k l l i) true
  | 0, i, h0, h => by
    apply Ev.up
    simp only [corebankref34_SameDues.l0]
    exact Ev.neg (by omega) (Ev.ret rfl)
  | d + 1, i, h0, h => by
    have hw : wrap64 (i + 1) = i + 1 := w1 (n := (l.length : Int)) (by omega) (by omega) (by omega)
    apply Ev.up
    simp only [corebankref34_SameDues.l0, hw]
    exact Ev.pos (by omega) (Ev.pos h0 (Ev.pos (by omega) (Ev.neg (by simp) (dues_loop l hl d (i + 1) (by omega) (by omega)))))
theorem dues_self (l : List S43) (hl : l.length ≤ 9223372036854775807) : Ev (fun k => corebankref34_SameDues.f k l l) true := by
  simp only [corebankref34_SameDues.f]
  exact Ev.pos (by first | trivial | rfl) (dues_loop l hl l.length 0 (by omega) (by omega))
theorem changes_loop (l : List S59) (hl : l.length ≤ 9223372036854775807) : ∀ (d : Nat) (i : Int), 0 ≤ i → i + d = (l.length : Int) → Ev (fun k => corebankref34_sameChanges.l0 k l l i) true
  | 0, i, h0, h => by
    apply Ev.up
    simp only [corebankref34_sameChanges.l0]
    exact Ev.neg (by omega) (Ev.ret rfl)
  | d + 1, i, h0, h => by
    have hw : wrap64 (i + 1) = i + 1 := w1 (n := (l.length : Int)) (by omega) (by omega) (by omega)
    apply Ev.up
    simp only [corebankref34_sameChanges.l0, hw]
    exact Ev.pos (by omega) (Ev.pos h0 (Ev.pos (by omega) (Ev.neg (by simp) (changes_loop l hl d (i + 1) (by omega) (by omega)))))
theorem changes_self (l : List S59) (hl : l.length ≤ 9223372036854775807) : Ev (fun k => corebankref34_sameChanges.f k l l) true := by
  simp only [corebankref34_sameChanges.f]
  exact Ev.pos (by first | trivial | rfl) (changes_loop l hl l.length 0 (by omega) (by omega))
theorem same_self (a0 a1 a2 a3 a4 a5 a6 a7 a8 a9 a10 a11 a12 a13 a14 a15 a16 a17 a18 a19 a20 : Int) (a21 a22 : ByteArray) (a23 : List S43) (a24 : List S59) (h1 : a23.length ≤ 9223372036854775807) (h2 : a24.length ≤ 9223372036854775807) : Ev (fun k => corebankref34_Same.f k a0 a1 a2 a3 a4 a5 a6 a7 a8 a9 a10 a11 a12 a13 a14 a15 a16 a17 a18 a19 a20 a21 a22 a23 a24 a0 a1 a2 a3 a4 a5 a6 a7 a8 a9 a10 a11 a12 a13 a14 a15 a16 a17 a18 a19 a20 a21 a22 a23 a24) true := by
  simp only [corebankref34_Same.f]
  exact Ev.pos (by first | trivial | rfl) (Ev.pos (by first | trivial | rfl) (Ev.pos (by first | trivial | rfl) (Ev.pos (by first | trivial | rfl) (Ev.pos (by first | trivial | rfl) (Ev.pos (by first | trivial | rfl) (Ev.pos (by first | trivial | rfl) (Ev.pos (by first | trivial | rfl) (Ev.pos (by first | trivial | rfl) (Ev.pos (by first | trivial | rfl) (Ev.pos (by first | trivial | rfl) (Ev.pos (by simp) (Ev.bnd (dues_self _ h1) (Ev.pos (by first | trivial | rfl) (Ev.bnd (changes_self _ h2) (Ev.ret rfl)))))))))))))))
theorem recover_both (x : S27) (a d : Int) (h1 : x.f12.length ≤ 40) (h2 : x.f13.length ≤ 70) : ∃ r, Ev (fun k => writeoff_Recover.f k x.f0 x.f1 x.f2 x.f3 x.f4 x.f5 x.f6 x.f7 x.f8 x.f9 x.f10 x.f11.f0 x.f11.f1 x.f11.f2 x.f11.f3 x.f11.f4 x.f11.f5 x.f11.f6 x.f11.f7 x.f11.f8 x.f11.f9 x.f11.f10 x.f11.f11 x.f12 x.f13 a d) r ∧ Ev (fun k => corebankref39_Recover.f k x.f0 x.f1 x.f2 x.f3 x.f4 x.f5 x.f6 x.f7 x.f8 x.f9 x.f10 x.f11.f0 x.f11.f1 x.f11.f2 x.f11.f3 x.f11.f4 x.f11.f5 x.f11.f6 x.f11.f7 x.f11.f8 x.f11.f9 x.f11.f10 x.f11.f11 x.f12 x.f13 a d) r ∧ r.2.2.2.2.2.2.2.2.2.2.2.2.2.2.2.2.2.2.2.2.2.2.2.1.length ≤ 100 ∧ r.2.2.2.2.2.2.2.2.2.2.2.2.2.2.2.2.2.2.2.2.2.2.2.2.1.length ≤ 100 := by
  have e1 := due_eq x.f12 (by omega)
  have e2 := change_eq x.f13 (by omega)
  simp only [writeoff_Recover.f, corebankref39_Recover.f]
  by_cases c1 : x.f2 = 3
  · have hj : ∀ b : Bool, ∃ r, Ev (fun k => writeoff_Recover.j0 k a b x.f0 x.f1 x.f2 x.f3 x.f4 x.f5 x.f6 x.f7 x.f8 x.f9 x.f10 x.f11.f0 x.f11.f1 x.f11.f2 x.f11.f3 x.f11.f4 x.f11.f5 x.f11.f6 x.f11.f7 x.f11.f8 x.f11.f9 x.f11.f10 x.f11.f11 x.f12 x.f13) r ∧ Ev (fun k => corebankref39_Recover.j0 k a b x.f0 x.f1 x.f2 x.f3 x.f4 x.f5 x.f6 x.f7 x.f8 x.f9 x.f10 x.f11.f0 x.f11.f1 x.f11.f2 x.f11.f3 x.f11.f4 x.f11.f5 x.f11.f6 x.f11.f7 x.f11.f8 x.f11.f9 x.f11.f10 x.f11.f11 x.f12 x.f13) r ∧ r.2.2.2.2.2.2.2.2.2.2.2.2.2.2.2.2.2.2.2.2.2.2.2.1.length ≤ 100 ∧ r.2.2.2.2.2.2.2.2.2.2.2.2.2.2.2.2.2.2.2.2.2.2.2.2.1.length ≤ 100 := by
      intro b
      cases b with
      | true =>
        apply Exists.intro
        apply And.intro
        · apply Ev.up
          simp only [writeoff_Recover.j0]
          exact Ev.pos (by first | trivial | rfl) (Ev.ret rfl)
        · apply And.intro
          · apply Ev.up
            simp only [corebankref39_Recover.j0]
            exact Ev.pos (by first | trivial | rfl) (Ev.ret rfl)
          · apply And.intro
            · simp
            · simp
      | false =>
        by_cases c2 : a > wrap64 (x.f9 - x.f10)
        · apply Exists.intro
          apply And.intro
          · apply Ev.up
            simp only [writeoff_Recover.j0]
            exact Ev.neg (by decide) (Ev.pos c2 (Ev.ret rfl))
          · apply And.intro
            · apply Ev.up
              simp only [corebankref39_Recover.j0]
              exact Ev.neg (by decide) (Ev.pos c2 (Ev.ret rfl))
            · apply And.intro
              · simp
              · simp
        · apply Exists.intro
          apply And.intro
          · apply Ev.up
            simp only [writeoff_Recover.j0, clone_Loan.f, e1, e2, Option.bind_some]
            exact Ev.neg (by decide) (Ev.neg c2 (Ev.ret rfl))
          · apply And.intro
            · apply Ev.up
              simp only [corebankref39_Recover.j0, Option.bind_some]
              exact Ev.neg (by decide) (Ev.neg c2 (Ev.pos (by simp; omega) (Ev.pos (by simp; omega) (Ev.ret rfl))))
            · apply And.intro
              · show x.f12.length ≤ 100
                omega
              · show x.f13.length ≤ 100
                omega
    by_cases c2 : a < 1
    · obtain ⟨r, p, q, s⟩ := hj true
      exact ⟨r, Ev.pos c1 (Ev.pos c2 p), Ev.pos c1 (Ev.pos c2 q), s⟩
    · by_cases c3 : a > 1000000000000
      · obtain ⟨r, p, q, s⟩ := hj true
        exact ⟨r, Ev.pos c1 (Ev.neg c2 (Ev.pos c3 p)), Ev.pos c1 (Ev.neg c2 (Ev.pos c3 q)), s⟩
      · obtain ⟨r, p, q, s⟩ := hj (!dayB d)
        exact ⟨r, Ev.pos c1 (Ev.neg c2 (Ev.neg c3 (Ev.now_ (date_eq d) p))), Ev.pos c1 (Ev.neg c2 (Ev.neg c3 (Ev.now_ (rdate_eq d) q))), s⟩
  · apply Exists.intro
    apply And.intro
    · exact Ev.neg c1 (Ev.ret rfl)
    · apply And.intro
      · exact Ev.neg c1 (Ev.ret rfl)
      · apply And.intro
        · simp
        · simp
end Go.Proofs.YtbapjcafcmnhoaaDoor.X
