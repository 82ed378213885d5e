import Derived.Test.YtbapjcafcmnhoaaDoorEv
import Derived.Test.YtbapjcafcmnhoaaDoorGood
import Derived.Test.YtbapjcafcmnhoaaDoorX0
import Derived.Test.YtbapjcafcmnhoaaDoorX10
import Derived.Test.YtbapjcafcmnhoaaDoorX11
import Derived.Test.YtbapjcafcmnhoaaDoorX12
import Derived.Test.YtbapjcafcmnhoaaDoorX13
import Derived.Test.YtbapjcafcmnhoaaDoorX14
import Derived.Test.YtbapjcafcmnhoaaDoorX15
import Derived.Test.YtbapjcafcmnhoaaDoorX16
import Derived.Test.YtbapjcafcmnhoaaDoorX17
import Derived.Test.YtbapjcafcmnhoaaDoorX20
import Derived.Test.YtbapjcafcmnhoaaDoorX21
import Derived.Test.YtbapjcafcmnhoaaDoorX5
import Derived.Test.YtbapjcafcmnhoaaDoorX6
import Derived.Test.YtbapjcafcmnhoaaDoorX7
import Derived.Test.YtbapjcafcmnhoaaDoorX8
import Derived.Test.YtbapjcafcmnhoaaDoorX9
namespace Go.Proofs.YtbapjcafcmnhoaaDoor.X
open Go.RowKit Go.Proofs.YtbapjcafcmnhoaaDoorW.PrintWords Go.Proofs.YtbapjcafcmnhoaaDoorW.PrintLast
set_option linter.unusedVariables false

theorem live_true : Ev (fun k => corebanklaw39_Lives.f k) true := Ev.of corebanklaw39_Lives.mono (k := 30) (by decide +kernel)
theorem live_end : Ev (fun k => (corebanklaw39_Lives.f k).bind fun t => some t) true := Ev.bnd live_true (Ev.ret rfl)
def dayB (d : Int) : Bool := decide (0 ≤ d) && decide (d ≤ 73048)
theorem date_eq (d : Int) : date_Valid.f d = some (dayB d) := by
  unfold date_Valid.f dayB
  by_cases h : d ≥ 0 <;> simp [h]
theorem due_eq (l : List S43) (h : l.length ≤ 100) : api_Due.f l = some l := by
  unfold api_Due.f
  simp only [Option.bind_some, List.nil_append]
  exact if_pos (by simp; omega)
theorem change_eq (l : List S59) (h : l.length ≤ 100) : api_Change.f l = some l := by
  unfold api_Change.f
  simp only [Option.bind_some, List.nil_append]
  exact if_pos (by simp; omega)
theorem dues_loop (l : List S43) (hl : l.length ≤ 9223372036854775807) : ∀ (d : Nat) (i : Int), 0 ≤ i → i + d = (l.length : Int) → Ev (fun k => corebankref34_SameDues.l0 k l l i) true
  | 0, i, h0, h => by
    apply Ev.up
    simp only [corebankref34_SameDues.l0]
    exact Ev.neg (by omega) (Ev.ret rfl)
  | d + 1, i, h0, h => by
    have hw : wrap64 (i + 1) = i + 1 := w1 (n := (l.length : Int)) (by omega) (by omega) (by omega)
    apply Ev.up
    simp only [corebankref34_SameDues.l0, hw]
    exact Ev.pos (by omega) (Ev.pos h0 (Ev.pos (by omega) (Ev.neg (by simp) (dues_loop l hl d (i + 1) (by omega) (by omega)))))
theorem dues_self (l : List S43) (hl : l.length ≤ 9223372036854775807) : Ev (fun k => corebankref34_SameDues.f k l l) true := by
  simp only [corebankref34_SameDues.f]
  exact Ev.pos (by first | trivial | rfl) (dues_loop l hl l.length 0 (by omega) (by omega))
theorem changes_loop (l : List S59) (hl : l.length ≤ 9223372036854775807) : ∀ (d : Nat) (i : Int), 0 ≤ i → i + d = (l.length : Int) → Ev (fun k => corebankref34_sameChanges.l0 k l l i) true
  | 0, i, h0, h => by
    apply Ev.up
    simp only [corebankref34_sameChanges.l0]
    exact Ev.neg (by omega) (Ev.ret rfl)
  | d + 1, i, h0, h => by
    have hw : wrap64 (i + 1) = i + 1 := w1 (n := (l.length : Int)) (by omega) (by omega) (by omega)
    apply Ev.up
    simp only [corebankref34_sameChanges.l0, hw]
    exact Ev.pos (by omega) (Ev.pos h0 (Ev.pos (by omega) (Ev.neg (by simp) (changes_loop l hl d (i + 1) (by omega) (by omega)))))
theorem changes_self (l : List S59) (hl : l.length ≤ 9223372036854775807) : Ev (fun k => corebankref34_sameChanges.f k l l) true := by
  simp only [corebankref34_sameChanges.f]
  exact Ev.pos (by first | trivial | rfl) (changes_loop l hl l.length 0 (by omega) (by omega))
theorem same_self (a0 a1 a2 a3 a4 a5 a6 a7 a8 a9 a10 a11 a12 a13 a14 a15 a16 a17 a18 a19 a20 : Int) (a21 a22 : ByteArray) (a23 : List S43) (a24 : List S59) (h1 : a23.length ≤ 9223372036854775807) (h2 : a24.length ≤ 9223372036854775807) : Ev (fun k => corebankref34_Same.f k a0 a1 a2 a3 a4 a5 a6 a7 a8 a9 a10 a11 a12 a13 a14 a15 a16 a17 a18 a19 a20 a21 a22 a23 a24 a0 a1 a2 a3 a4 a5 a6 a7 a8 a9 a10 a11 a12 a13 a14 a15 a16 a17 a18 a19 a20 a21 a22 a23 a24) true := by
  simp only [corebankref34_Same.f]
  exact Ev.pos (by first | trivial | rfl) (Ev.pos (by first | trivial | rfl) (Ev.pos (by first | trivial | rfl) (Ev.pos (by first | trivial | rfl) (Ev.pos (by first | trivial | rfl) (Ev.pos (by first | trivial | rfl) (Ev.pos (by first | trivial | rfl) (Ev.pos (by first | trivial | rfl) (Ev.pos (by first | trivial | rfl) (Ev.pos (by first | trivial | rfl) (Ev.pos (by first | trivial | rfl) (Ev.pos (by simp) (Ev.bnd (dues_self _ h1) (Ev.pos (by first | trivial | rfl) (Ev.bnd (changes_self _ h2) (Ev.ret rfl)))))))))))))))
def EvT {α : Type} (g : Nat → Option α) : Prop := ∃ r, Ev g r
theorem EvT.up {α : Type} {g : Nat → Option α} (h : EvT (fun k => g (k + 1))) : EvT g := by
  obtain ⟨r, p⟩ := h
  exact ⟨r, Ev.up p⟩
theorem EvT.ite {α : Type} {c : Prop} [Decidable c] {A B : Nat → Option α} (ht : c → EvT A) (hf : ¬ c → EvT B) : EvT (fun k => if c then A k else B k) := by
  by_cases h : c
  · obtain ⟨r, p⟩ := ht h
    exact ⟨r, Ev.pos h p⟩
  · obtain ⟨r, p⟩ := hf h
    exact ⟨r, Ev.neg h p⟩
theorem EvT.pos {α : Type} {c : Prop} [Decidable c] {A B : Nat → Option α} (h : c) (ht : EvT A) : EvT (fun k => if c then A k else B k) := by
  obtain ⟨r, p⟩ := ht
  exact ⟨r, Ev.pos h p⟩
theorem EvT.neg {α : Type} {c : Prop} [Decidable c] {A B : Nat → Option α} (h : ¬ c) (ht : EvT B) : EvT (fun k => if c then A k else B k) := by
  obtain ⟨r, p⟩ := ht
  exact ⟨r, Ev.neg h p⟩
theorem EvT.ret {α : Type} (a : α) : EvT (fun _ => some a) := ⟨a, Ev.ret rfl⟩
theorem EvT.bnd {α β : Type} {g : Nat → Option α} {f : Nat → α → Option β} (h : EvT g) (k : ∀ a, EvT (fun n => f n a)) : EvT (fun n => (g n).bind fun t => f n t) := by
  obtain ⟨a, p⟩ := h
  obtain ⟨r, q⟩ := k a
  exact ⟨r, Ev.bnd p q⟩
theorem within_tot (a b : Int) : EvT (fun _ => corebankref34_within.f a b) := by
  unfold corebankref34_within.f
  exact EvT.ite (fun _ => EvT.ret _) (fun _ => EvT.ret _)
theorem valid_tot (a : Int) : EvT (fun _ => corebankref04_Valid.f a) := by
  unfold corebankref04_Valid.f
  exact EvT.ite (fun _ => EvT.ret _) (fun _ => EvT.ret _)
theorem ranged_loop (x : S27) (hl : x.f12.length ≤ 9223372036854775807) : ∀ (d : Nat) (i : Int), 0 ≤ i → i + d = (x.f12.length : Int) → EvT (fun k => corebankref34_ranged.l0 k i x.f0 x.f1 x.f2 x.f3 x.f4 x.f5 x.f6 x.f7 x.f8 x.f9 x.f10 x.f11.f0 x.f11.f1 x.f11.f2 x.f11.f3 x.f11.f4 x.f11.f5 x.f11.f6 x.f11.f7 x.f11.f8 x.f11.f9 x.f11.f10 x.f11.f11 x.f12 x.f13)
  | 0, i, h0, h => by
    apply EvT.up
    simp only [corebankref34_ranged.l0]
    exact EvT.neg (by omega) (EvT.ret _)
  | d + 1, i, h0, h => by
    have hw : wrap64 (i + 1) = i + 1 := w1 (n := (x.f12.length : Int)) (by omega) (by omega) (by omega)
    have ih := ranged_loop x hl d (i + 1) (by omega) (by omega)
    have hj : ∀ b : Bool, EvT (fun k => corebankref34_ranged.j4 k i b x.f0 x.f1 x.f2 x.f3 x.f4 x.f5 x.f6 x.f7 x.f8 x.f9 x.f10 x.f11.f0 x.f11.f1 x.f11.f2 x.f11.f3 x.f11.f4 x.f11.f5 x.f11.f6 x.f11.f7 x.f11.f8 x.f11.f9 x.f11.f10 x.f11.f11 x.f12 x.f13) := by
      intro b
      apply EvT.up
      simp only [corebankref34_ranged.j4, hw]
      exact EvT.ite (fun _ => EvT.ret _) (fun _ => ih)
    apply EvT.up
    simp only [corebankref34_ranged.l0]
    exact EvT.pos (by omega) (EvT.pos h0 (EvT.bnd (valid_tot _) (fun t => EvT.ite (fun _ => EvT.bnd (within_tot _ _) (fun t => EvT.ite (fun _ => EvT.bnd (within_tot _ _) (fun t => hj _)) (fun _ => hj _))) (fun _ => hj _))))
theorem ranged_tot (x : S27) (hl : x.f12.length ≤ 9223372036854775807) : EvT (fun k => corebankref34_ranged.f k x.f0 x.f1 x.f2 x.f3 x.f4 x.f5 x.f6 x.f7 x.f8 x.f9 x.f10 x.f11.f0 x.f11.f1 x.f11.f2 x.f11.f3 x.f11.f4 x.f11.f5 x.f11.f6 x.f11.f7 x.f11.f8 x.f11.f9 x.f11.f10 x.f11.f11 x.f12 x.f13) := by
  have h2 : ∀ b : Bool, EvT (fun k => corebankref34_ranged.j2 k b x.f0 x.f1 x.f2 x.f3 x.f4 x.f5 x.f6 x.f7 x.f8 x.f9 x.f10 x.f11.f0 x.f11.f1 x.f11.f2 x.f11.f3 x.f11.f4 x.f11.f5 x.f11.f6 x.f11.f7 x.f11.f8 x.f11.f9 x.f11.f10 x.f11.f11 x.f12 x.f13) := by
    intro b
    apply EvT.up
    simp only [corebankref34_ranged.j2]
    exact EvT.ite (fun _ => EvT.ret _) (fun _ => ranged_loop x hl x.f12.length 0 (by omega) (by omega))
  have h1 : ∀ b : Bool, EvT (fun k => corebankref34_ranged.j1 k b x.f0 x.f1 x.f2 x.f3 x.f4 x.f5 x.f6 x.f7 x.f8 x.f9 x.f10 x.f11.f0 x.f11.f1 x.f11.f2 x.f11.f3 x.f11.f4 x.f11.f5 x.f11.f6 x.f11.f7 x.f11.f8 x.f11.f9 x.f11.f10 x.f11.f11 x.f12 x.f13) := by
    intro b
    apply EvT.up
    simp only [corebankref34_ranged.j1]
    exact EvT.ite (fun _ => EvT.ret _) (fun _ => EvT.ite (fun _ => h2 _) (fun _ => EvT.ite (fun _ => h2 _) (fun _ => h2 _)))
  have h0 : ∀ b : Bool, EvT (fun k => corebankref34_ranged.j0 k b x.f0 x.f1 x.f2 x.f3 x.f4 x.f5 x.f6 x.f7 x.f8 x.f9 x.f10 x.f11.f0 x.f11.f1 x.f11.f2 x.f11.f3 x.f11.f4 x.f11.f5 x.f11.f6 x.f11.f7 x.f11.f8 x.f11.f9 x.f11.f10 x.f11.f11 x.f12 x.f13) := by
    intro b
    apply EvT.up
    simp only [corebankref34_ranged.j0]
    exact EvT.ite (fun _ => EvT.ret _) (fun _ => EvT.bnd (within_tot _ _) (fun t => EvT.ite (fun _ => EvT.bnd (within_tot _ _) (fun t => EvT.ite (fun _ => EvT.bnd (within_tot _ _) (fun t => EvT.ite (fun _ => EvT.bnd (within_tot _ _) (fun t => EvT.ite (fun _ => EvT.bnd (valid_tot _) (fun t => EvT.ite (fun _ => EvT.bnd (within_tot _ _) (fun t => EvT.ite (fun _ => EvT.bnd (within_tot _ _) (fun t => h1 _)) (fun _ => h1 _))) (fun _ => h1 _))) (fun _ => h1 _))) (fun _ => h1 _))) (fun _ => h1 _))) (fun _ => h1 _)))
  simp only [corebankref34_ranged.f]
  exact EvT.ite (fun _ => h0 _) (fun _ => EvT.ite (fun _ => h0 _) (fun _ => EvT.ite (fun _ => h0 _) (fun _ => EvT.ite (fun _ => h0 _) (fun _ => EvT.ite (fun _ => h0 _) (fun _ => EvT.ite (fun _ => h0 _) (fun _ => h0 _))))))
theorem principal_loop (x : S27) (day : Int) (hl : x.f12.length ≤ 9223372036854775807) : ∀ (d : Nat) (p i : Int), 0 ≤ i → i + d = (x.f12.length : Int) → EvT (fun k => corebankref34_Principal.l0 k day p i x.f0 x.f1 x.f2 x.f3 x.f4 x.f5 x.f6 x.f7 x.f8 x.f9 x.f10 x.f11.f0 x.f11.f1 x.f11.f2 x.f11.f3 x.f11.f4 x.f11.f5 x.f11.f6 x.f11.f7 x.f11.f8 x.f11.f9 x.f11.f10 x.f11.f11 x.f12 x.f13)
  | 0, p, i, h0, h => by
    apply EvT.up
    simp only [corebankref34_Principal.l0]
    exact EvT.neg (by omega) (EvT.ret _)
  | d + 1, p, i, h0, h => by
    have hw : wrap64 (i + 1) = i + 1 := w1 (n := (x.f12.length : Int)) (by omega) (by omega) (by omega)
    apply EvT.up
    simp only [corebankref34_Principal.l0, hw]
    exact EvT.pos (by omega) (EvT.pos h0 (EvT.ite (fun _ => principal_loop x day hl d _ (i + 1) (by omega) (by omega)) (fun _ => principal_loop x day hl d _ (i + 1) (by omega) (by omega))))
theorem principal_tot (x : S27) (day : Int) (hl : x.f12.length ≤ 9223372036854775807) : EvT (fun k => corebankref34_Principal.f k x.f0 x.f1 x.f2 x.f3 x.f4 x.f5 x.f6 x.f7 x.f8 x.f9 x.f10 x.f11.f0 x.f11.f1 x.f11.f2 x.f11.f3 x.f11.f4 x.f11.f5 x.f11.f6 x.f11.f7 x.f11.f8 x.f11.f9 x.f11.f10 x.f11.f11 x.f12 x.f13 day) := by
  simp only [corebankref34_Principal.f]
  exact principal_loop x day hl x.f12.length 0 0 (by omega) (by omega)
theorem interest_loop (x : S27) (day : Int) (hl : x.f12.length ≤ 9223372036854775807) : ∀ (d : Nat) (p i : Int), 0 ≤ i → i + d = (x.f12.length : Int) → EvT (fun k => corebankref34_Interest.l0 k day p i x.f0 x.f1 x.f2 x.f3 x.f4 x.f5 x.f6 x.f7 x.f8 x.f9 x.f10 x.f11.f0 x.f11.f1 x.f11.f2 x.f11.f3 x.f11.f4 x.f11.f5 x.f11.f6 x.f11.f7 x.f11.f8 x.f11.f9 x.f11.f10 x.f11.f11 x.f12 x.f13)
  | 0, p, i, h0, h => by
    apply EvT.up
    simp only [corebankref34_Interest.l0]
    exact EvT.neg (by omega) (EvT.ret _)
  | d + 1, p, i, h0, h => by
    have hw : wrap64 (i + 1) = i + 1 := w1 (n := (x.f12.length : Int)) (by omega) (by omega) (by omega)
    apply EvT.up
    simp only [corebankref34_Interest.l0, hw]
    exact EvT.pos (by omega) (EvT.pos h0 (EvT.ite (fun _ => interest_loop x day hl d _ (i + 1) (by omega) (by omega)) (fun _ => interest_loop x day hl d _ (i + 1) (by omega) (by omega))))
theorem interest_tot (x : S27) (day : Int) (hl : x.f12.length ≤ 9223372036854775807) : EvT (fun k => corebankref34_Interest.f k x.f0 x.f1 x.f2 x.f3 x.f4 x.f5 x.f6 x.f7 x.f8 x.f9 x.f10 x.f11.f0 x.f11.f1 x.f11.f2 x.f11.f3 x.f11.f4 x.f11.f5 x.f11.f6 x.f11.f7 x.f11.f8 x.f11.f9 x.f11.f10 x.f11.f11 x.f12 x.f13 day) := by
  simp only [corebankref34_Interest.f]
  exact interest_loop x day hl x.f12.length 0 0 (by omega) (by omega)
theorem left_tot (x : S27) (hl : x.f12.length ≤ 9223372036854775807) : EvT (fun k => corebankref34_Left.f k x.f0 x.f1 x.f2 x.f3 x.f4 x.f5 x.f6 x.f7 x.f8 x.f9 x.f10 x.f11.f0 x.f11.f1 x.f11.f2 x.f11.f3 x.f11.f4 x.f11.f5 x.f11.f6 x.f11.f7 x.f11.f8 x.f11.f9 x.f11.f10 x.f11.f11 x.f12 x.f13) := by
  simp only [corebankref34_Left.f]
  exact EvT.bnd (principal_tot x _ hl) (fun t => EvT.ite (fun _ => EvT.bnd (interest_tot x _ hl) (fun t => EvT.ite (fun _ => EvT.ite (fun _ => EvT.ret _) (fun _ => EvT.ret _)) (fun _ => EvT.ret _))) (fun _ => EvT.ret _))
theorem check_two (x : S27) (hl : x.f12.length ≤ 9223372036854775807) : ∀ b : Bool, EvT (fun k => corebankref34_Check.j2 k b x.f0 x.f1 x.f2 x.f3 x.f4 x.f5 x.f6 x.f7 x.f8 x.f9 x.f10 x.f11.f0 x.f11.f1 x.f11.f2 x.f11.f3 x.f11.f4 x.f11.f5 x.f11.f6 x.f11.f7 x.f11.f8 x.f11.f9 x.f11.f10 x.f11.f11 x.f12 x.f13) := by
  have h4 : ∀ b : Bool, EvT (fun k => corebankref34_Check.j4 k b) := by
    intro b
    apply EvT.up
    simp only [corebankref34_Check.j4]
    exact EvT.ite (fun _ => EvT.ret _) (fun _ => EvT.ret _)
  have h3 : ∀ b : Bool, EvT (fun k => corebankref34_Check.j3 k b x.f0 x.f1 x.f2 x.f3 x.f4 x.f5 x.f6 x.f7 x.f8 x.f9 x.f10 x.f11.f0 x.f11.f1 x.f11.f2 x.f11.f3 x.f11.f4 x.f11.f5 x.f11.f6 x.f11.f7 x.f11.f8 x.f11.f9 x.f11.f10 x.f11.f11 x.f12 x.f13) := by
    intro b
    apply EvT.up
    simp only [corebankref34_Check.j3]
    exact EvT.ite (fun _ => EvT.ret _) (fun _ => EvT.ite (fun _ => h4 _) (fun _ => EvT.ite (fun _ => h4 _) (fun _ => h4 _)))
  intro b
  apply EvT.up
  simp only [corebankref34_Check.j2]
  exact EvT.ite (fun _ => EvT.ret _) (fun _ => EvT.ite (fun _ => EvT.bnd (principal_tot x _ hl) (fun t => EvT.ite (fun _ => EvT.ite (fun _ => h3 _) (fun _ => EvT.bnd (left_tot x hl) (fun t => h3 _))) (fun _ => h3 _))) (fun _ => EvT.ite (fun _ => h3 _) (fun _ => EvT.bnd (left_tot x hl) (fun t => h3 _))))
theorem check_loop (x : S27) (hl : x.f12.length ≤ 9223372036854775807) : ∀ (d : Nat) (i : Int), 0 ≤ i → i + d = (x.f12.length : Int) → EvT (fun k => corebankref34_Check.l0 k i x.f0 x.f1 x.f2 x.f3 x.f4 x.f5 x.f6 x.f7 x.f8 x.f9 x.f10 x.f11.f0 x.f11.f1 x.f11.f2 x.f11.f3 x.f11.f4 x.f11.f5 x.f11.f6 x.f11.f7 x.f11.f8 x.f11.f9 x.f11.f10 x.f11.f11 x.f12 x.f13)
  | 0, i, h0, h => by
    have h2 := check_two x hl
    apply EvT.up
    simp only [corebankref34_Check.l0]
    exact EvT.neg (by omega) (EvT.bnd (principal_tot x _ hl) (fun t => EvT.ite (fun _ => h2 _) (fun _ => EvT.bnd (interest_tot x _ hl) (fun t => EvT.ite (fun _ => h2 _) (fun _ => h2 _)))))
  | d + 1, i, h0, h => by
    have hw : wrap64 (i + 1) = i + 1 := w1 (n := (x.f12.length : Int)) (by omega) (by omega) (by omega)
    have hm : wrap64 (i - 1) = i - 1 := wm1 (by omega) (by omega)
    have ih := check_loop x hl d (i + 1) (by omega) (by omega)
    have hj : ∀ b : Bool, EvT (fun k => corebankref34_Check.j1 k i b x.f0 x.f1 x.f2 x.f3 x.f4 x.f5 x.f6 x.f7 x.f8 x.f9 x.f10 x.f11.f0 x.f11.f1 x.f11.f2 x.f11.f3 x.f11.f4 x.f11.f5 x.f11.f6 x.f11.f7 x.f11.f8 x.f11.f9 x.f11.f10 x.f11.f11 x.f12 x.f13) := by
      intro b
      apply EvT.up
      simp only [corebankref34_Check.j1, hw]
      exact EvT.ite (fun _ => EvT.ret _) (fun _ => ih)
    apply EvT.up
    simp only [corebankref34_Check.l0, hm]
    exact EvT.pos (by omega) (EvT.pos h0 (EvT.ite (fun _ => EvT.ite (fun hp => EvT.pos (by omega) (EvT.pos (by omega) (hj _))) (fun _ => hj _)) (fun _ => hj _)))
theorem check_tot (x : S27) (hl : x.f12.length ≤ 9223372036854775807) : EvT (fun k => corebankref34_Check.f k x.f0 x.f1 x.f2 x.f3 x.f4 x.f5 x.f6 x.f7 x.f8 x.f9 x.f10 x.f11.f0 x.f11.f1 x.f11.f2 x.f11.f3 x.f11.f4 x.f11.f5 x.f11.f6 x.f11.f7 x.f11.f8 x.f11.f9 x.f11.f10 x.f11.f11 x.f12 x.f13) := by
  simp only [corebankref34_Check.f]
  exact EvT.bnd (ranged_tot x hl) (fun t => EvT.ite (fun _ => check_loop x hl x.f12.length 0 (by omega) (by omega)) (fun _ => EvT.ret _))
theorem sums_loop (x : S27) (hl : x.f12.length ≤ 9223372036854775807) (hb : ∀ j : Int, (rd_T43 x.f12 j).f1 ≤ 9223372036854775807) : ∀ (d : Nat) (p q i : Int), 0 ≤ i → i + d = (x.f12.length : Int) →
    ∃ r s, Ev (fun k => corebankref34_Principal.l0 k 9223372036854775807 p i x.f0 x.f1 x.f2 x.f3 x.f4 x.f5 x.f6 x.f7 x.f8 x.f9 x.f10 x.f11.f0 x.f11.f1 x.f11.f2 x.f11.f3 x.f11.f4 x.f11.f5 x.f11.f6 x.f11.f7 x.f11.f8 x.f11.f9 x.f11.f10 x.f11.f11 x.f12 x.f13) r ∧ Ev (fun k => loan_sums.l0 k p q x.f12 (x.f12.length : Int) i) (r, s)
  | 0, p, q, i, h0, h => by
    refine ⟨p, q, Ev.up ?_, Ev.up ?_⟩
    · simp only [corebankref34_Principal.l0]
      exact Ev.neg (by omega) (Ev.ret rfl)
    · simp only [loan_sums.l0]
      exact Ev.neg (by omega) (Ev.ret rfl)
  | d + 1, p, q, i, h0, h => by
    have hw : wrap64 (i + 1) = i + 1 := w1 (n := (x.f12.length : Int)) (by omega) (by omega) (by omega)
    obtain ⟨r, s, e1, e2⟩ := sums_loop x hl hb d (wrap64 (p + (rd_T43 x.f12 i).f2)) (wrap64 (q + (rd_T43 x.f12 i).f3)) (i + 1) (by omega) (by omega)
    refine ⟨r, s, Ev.up ?_, Ev.up ?_⟩
    · simp only [corebankref34_Principal.l0, hw]
      exact Ev.pos (by omega) (Ev.pos h0 (Ev.pos (hb i) e1))
    · simp only [loan_sums.l0, hw]
      exact Ev.pos (by omega) (Ev.pos h0 (Ev.pos (by omega) e2))
theorem bucket_eq (a : Int) : arrears_Bucket.f a = some (bktV a) := rfl
theorem loss_eq (x : S27) (r : Int) (h : Ev (fun k => loan_Outstanding.f k x.f0 x.f1 x.f2 x.f3 x.f4 x.f5 x.f6 x.f7 x.f8 x.f9 x.f10 x.f11.f0 x.f11.f1 x.f11.f2 x.f11.f3 x.f11.f4 x.f11.f5 x.f11.f6 x.f11.f7 x.f11.f8 x.f11.f9 x.f11.f10 x.f11.f11 x.f12 x.f13) r) : Ev (fun k => writeoff_written_loss.f k x.f0 x.f1 x.f2 x.f3 x.f4 x.f5 x.f6 x.f7 x.f8 x.f9 x.f10 x.f11.f0 x.f11.f1 x.f11.f2 x.f11.f3 x.f11.f4 x.f11.f5 x.f11.f6 x.f11.f7 x.f11.f8 x.f11.f9 x.f11.f10 x.f11.f11 x.f12 x.f13) (wrap64 (r - x.f8)) := by
  simp only [writeoff_written_loss.f]
  exact Ev.bnd h (Ev.ret rfl)
theorem rd_good (l : List S43) (h : GL43 l) (j : Int) : (rd_T43 l j).f1 ≤ 9223372036854775807 := by
  unfold rd_T43
  by_cases hj : j.toNat < l.length
  · have hm : l.getD j.toNat z43 ∈ l := by
      rw [List.getD_eq_getElem?_getD, List.getElem?_eq_getElem hj]
      exact List.getElem_mem hj
    have hg := (h.2 _ hm).2.1
    exact (wf64.mp hg).2
  · rw [List.getD_eq_getElem?_getD, List.getElem?_eq_none (by omega)]
    show (0 : Int) ≤ _
    omega
def wrL (x : S27) (o : Int) : S27 := ⟨x.f0, x.f1, 3, x.f3, x.f4, 0, 0, x.f7, 0, o, x.f10, x.f11, x.f12, x.f13⟩
def recL (x : S27) (a : Int) : S27 := ⟨x.f0, x.f1, x.f2, x.f3, x.f4, x.f5, x.f6, x.f7, x.f8, x.f9, wrap64 (x.f10 + a), x.f11, x.f12, x.f13⟩
theorem outst_rng (x : S27) (hl : x.f12.length ≤ 9223372036854775807) (hb : ∀ j : Int, (rd_T43 x.f12 j).f1 ≤ 9223372036854775807) : ∃ r, Ev (fun k => loan_Outstanding.f k x.f0 x.f1 x.f2 x.f3 x.f4 x.f5 x.f6 x.f7 x.f8 x.f9 x.f10 x.f11.f0 x.f11.f1 x.f11.f2 x.f11.f3 x.f11.f4 x.f11.f5 x.f11.f6 x.f11.f7 x.f11.f8 x.f11.f9 x.f11.f10 x.f11.f11 x.f12 x.f13) r ∧ Ev (fun k => corebankref34_Outstanding.f k x.f0 x.f1 x.f2 x.f3 x.f4 x.f5 x.f6 x.f7 x.f8 x.f9 x.f10 x.f11.f0 x.f11.f1 x.f11.f2 x.f11.f3 x.f11.f4 x.f11.f5 x.f11.f6 x.f11.f7 x.f11.f8 x.f11.f9 x.f11.f10 x.f11.f11 x.f12 x.f13) r ∧ wrap64 r = r := by
  obtain ⟨r, s, e1, e2⟩ := sums_loop x hl hb x.f12.length 0 0 0 (by omega) (by omega)
  refine ⟨wrap64 (r - x.f3), ?_, ?_, ?_⟩
  · simp only [loan_Outstanding.f, loan_sums.f]
    exact Ev.bnd e2 (Ev.ret rfl)
  · simp only [corebankref34_Outstanding.f, corebankref34_Principal.f]
    exact Ev.bnd e1 (Ev.ret rfl)
  · unfold wrap64
    omega
theorem write_zero (x : S27) (day : Int) (c1 : ¬ x.f2 = 1) : Ev (fun k => writeoff_Write.f k x.f0 x.f1 x.f2 x.f3 x.f4 x.f5 x.f6 x.f7 x.f8 x.f9 x.f10 x.f11.f0 x.f11.f1 x.f11.f2 x.f11.f3 x.f11.f4 x.f11.f5 x.f11.f6 x.f11.f7 x.f11.f8 x.f11.f9 x.f11.f10 x.f11.f11 x.f12 x.f13 day) (0, 0, 0, 0, 0, 0, 0, 0, 0, 0, 0, 0, 0, 0, 0, 0, 0, 0, 0, 0, 0, (⟨#[]⟩ : ByteArray), (⟨#[]⟩ : ByteArray), ([] : List S43), ([] : List S59), 0, 17) := by
  simp only [writeoff_Write.f]
  refine Ev.neg c1 (Ev.up ?_)
  simp only [writeoff_Write.j0]
  exact Ev.pos (by first | trivial | rfl) (Ev.ret rfl)
theorem adays_loop (x : S27) (day : Int) (hl : x.f12.length ≤ 9223372036854775807) : ∀ (d : Nat) (p q i : Int), 0 ≤ i → i + d = (x.f12.length : Int) → EvT (fun k => arrears_Days.l0 k day p q x.f12 (x.f12.length : Int) i x.f0 x.f1 x.f2 x.f3 x.f4 x.f5 x.f6 x.f7 x.f8 x.f9 x.f10 x.f11.f0 x.f11.f1 x.f11.f2 x.f11.f3 x.f11.f4 x.f11.f5 x.f11.f6 x.f11.f7 x.f11.f8 x.f11.f9 x.f11.f10 x.f11.f11 x.f12 x.f13)
  | 0, p, q, i, h0, h => by
    apply EvT.up
    simp only [arrears_Days.l0]
    exact EvT.neg (by omega) (EvT.ret _)
  | d + 1, p, q, i, h0, h => by
    have hw : wrap64 (i + 1) = i + 1 := w1 (n := (x.f12.length : Int)) (by omega) (by omega) (by omega)
    have ih := fun p q => adays_loop x day hl d p q (i + 1) (by omega) (by omega)
    apply EvT.up
    simp only [arrears_Days.l0, hw]
    exact EvT.pos (by omega) (EvT.pos h0 (EvT.pos (by omega) (EvT.ite (fun _ => EvT.ite (fun _ => EvT.ret _) (fun _ => EvT.ite (fun _ => EvT.ret _) (fun _ => ih _ _))) (fun _ => ih _ _))))
theorem adays_tot (x : S27) (day : Int) (hl : x.f12.length ≤ 9223372036854775807) : EvT (fun k => arrears_Days.f k x.f0 x.f1 x.f2 x.f3 x.f4 x.f5 x.f6 x.f7 x.f8 x.f9 x.f10 x.f11.f0 x.f11.f1 x.f11.f2 x.f11.f3 x.f11.f4 x.f11.f5 x.f11.f6 x.f11.f7 x.f11.f8 x.f11.f9 x.f11.f10 x.f11.f11 x.f12 x.f13 day) := by
  simp only [arrears_Days.f]
  exact adays_loop x day hl x.f12.length 0 0 0 (by omega) (by omega)
theorem write_cases (x : S27) (day o : Int) (h1 : x.f12.length ≤ 40) (h2 : x.f13.length ≤ 70) (o1 : Ev (fun k => loan_Outstanding.f k x.f0 x.f1 x.f2 x.f3 x.f4 x.f5 x.f6 x.f7 x.f8 x.f9 x.f10 x.f11.f0 x.f11.f1 x.f11.f2 x.f11.f3 x.f11.f4 x.f11.f5 x.f11.f6 x.f11.f7 x.f11.f8 x.f11.f9 x.f11.f10 x.f11.f11 x.f12 x.f13) o) :
    Ev (fun k => writeoff_Write.f k x.f0 x.f1 x.f2 x.f3 x.f4 x.f5 x.f6 x.f7 x.f8 x.f9 x.f10 x.f11.f0 x.f11.f1 x.f11.f2 x.f11.f3 x.f11.f4 x.f11.f5 x.f11.f6 x.f11.f7 x.f11.f8 x.f11.f9 x.f11.f10 x.f11.f11 x.f12 x.f13 day) (0, 0, 0, 0, 0, 0, 0, 0, 0, 0, 0, 0, 0, 0, 0, 0, 0, 0, 0, 0, 0, (⟨#[]⟩ : ByteArray), (⟨#[]⟩ : ByteArray), ([] : List S43), ([] : List S59), 0, 17) ∨ (x.f2 = 1 ∧ Ev (fun k => writeoff_Write.f k x.f0 x.f1 x.f2 x.f3 x.f4 x.f5 x.f6 x.f7 x.f8 x.f9 x.f10 x.f11.f0 x.f11.f1 x.f11.f2 x.f11.f3 x.f11.f4 x.f11.f5 x.f11.f6 x.f11.f7 x.f11.f8 x.f11.f9 x.f11.f10 x.f11.f11 x.f12 x.f13 day) ((wrL x o).f0, (wrL x o).f1, (wrL x o).f2, (wrL x o).f3, (wrL x o).f4, (wrL x o).f5, (wrL x o).f6, (wrL x o).f7, (wrL x o).f8, (wrL x o).f9, (wrL x o).f10, (wrL x o).f11.f0, (wrL x o).f11.f1, (wrL x o).f11.f2, (wrL x o).f11.f3, (wrL x o).f11.f4, (wrL x o).f11.f5, (wrL x o).f11.f6, (wrL x o).f11.f7, (wrL x o).f11.f8, (wrL x o).f11.f9, (wrL x o).f11.f10, (wrL x o).f11.f11, (wrL x o).f12, (wrL x o).f13, wrap64 (o - x.f8), 0)) := by
  by_cases c1 : x.f2 = 1
  · have e1 := due_eq x.f12 (by omega)
    have e2 := change_eq x.f13 (by omega)
    have o3 := loss_eq x o o1
    obtain ⟨n, d1⟩ := adays_tot x day (by omega)
    by_cases c2 : bktV n = 4
    · right
      refine ⟨c1, ?_⟩
      simp only [writeoff_Write.f]
      refine Ev.pos c1 (Ev.bnd d1 (Ev.now_ (bucket_eq n) (Ev.up ?_)))
      simp only [writeoff_Write.j0, clone_Loan.f, e1, e2, Option.bind_some]
      exact Ev.neg (by simp [c2]) (Ev.bnd o1 (Ev.bnd o3 (Ev.ret rfl)))
    · left
      simp only [writeoff_Write.f]
      refine Ev.pos c1 (Ev.bnd d1 (Ev.now_ (bucket_eq n) (Ev.up ?_)))
      simp only [writeoff_Write.j0]
      exact Ev.pos (by simp [c2]) (Ev.ret rfl)
  · exact .inl (write_zero x day c1)
theorem rec_cases (x : S27) (a d : Int) (h1 : x.f12.length ≤ 40) (h2 : x.f13.length ≤ 70) (hs : x.f2 = 3) :
    (∃ c : Int, c ≠ 0 ∧ Ev (fun k => writeoff_Recover.f k x.f0 x.f1 x.f2 x.f3 x.f4 x.f5 x.f6 x.f7 x.f8 x.f9 x.f10 x.f11.f0 x.f11.f1 x.f11.f2 x.f11.f3 x.f11.f4 x.f11.f5 x.f11.f6 x.f11.f7 x.f11.f8 x.f11.f9 x.f11.f10 x.f11.f11 x.f12 x.f13 a d) (0, 0, 0, 0, 0, 0, 0, 0, 0, 0, 0, 0, 0, 0, 0, 0, 0, 0, 0, 0, 0, (⟨#[]⟩ : ByteArray), (⟨#[]⟩ : ByteArray), ([] : List S43), ([] : List S59), 0, c) ∧ (a < 1 ∨ a > 1000000000000 ∨ d < 0 ∨ d > 73048 ∨ a > wrap64 (x.f9 - x.f10))) ∨
    (1 ≤ a ∧ a ≤ wrap64 (x.f9 - x.f10) ∧ Ev (fun k => writeoff_Recover.f k x.f0 x.f1 x.f2 x.f3 x.f4 x.f5 x.f6 x.f7 x.f8 x.f9 x.f10 x.f11.f0 x.f11.f1 x.f11.f2 x.f11.f3 x.f11.f4 x.f11.f5 x.f11.f6 x.f11.f7 x.f11.f8 x.f11.f9 x.f11.f10 x.f11.f11 x.f12 x.f13 a d) ((recL x a).f0, (recL x a).f1, (recL x a).f2, (recL x a).f3, (recL x a).f4, (recL x a).f5, (recL x a).f6, (recL x a).f7, (recL x a).f8, (recL x a).f9, (recL x a).f10, (recL x a).f11.f0, (recL x a).f11.f1, (recL x a).f11.f2, (recL x a).f11.f3, (recL x a).f11.f4, (recL x a).f11.f5, (recL x a).f11.f6, (recL x a).f11.f7, (recL x a).f11.f8, (recL x a).f11.f9, (recL x a).f11.f10, (recL x a).f11.f11, (recL x a).f12, (recL x a).f13, a, 0)) := by
  have e1 := due_eq x.f12 (by omega)
  have e2 := change_eq x.f13 (by omega)
  have hj : Ev (fun k => writeoff_Recover.j0 k a true x.f0 x.f1 x.f2 x.f3 x.f4 x.f5 x.f6 x.f7 x.f8 x.f9 x.f10 x.f11.f0 x.f11.f1 x.f11.f2 x.f11.f3 x.f11.f4 x.f11.f5 x.f11.f6 x.f11.f7 x.f11.f8 x.f11.f9 x.f11.f10 x.f11.f11 x.f12 x.f13) (0, 0, 0, 0, 0, 0, 0, 0, 0, 0, 0, 0, 0, 0, 0, 0, 0, 0, 0, 0, 0, (⟨#[]⟩ : ByteArray), (⟨#[]⟩ : ByteArray), ([] : List S43), ([] : List S59), 0, 1) := by
    apply Ev.up
    simp only [writeoff_Recover.j0]
    exact Ev.pos (by first | trivial | rfl) (Ev.ret rfl)
  simp only [writeoff_Recover.f]
  by_cases c2 : a < 1
  · exact .inl ⟨1, by decide, Ev.pos hs (Ev.pos c2 hj), .inl c2⟩
  · by_cases c3 : a > 1000000000000
    · exact .inl ⟨1, by decide, Ev.pos hs (Ev.neg c2 (Ev.pos c3 hj)), .inr (.inl c3)⟩
    · by_cases c4 : dayB d = true
      · by_cases c5 : a > wrap64 (x.f9 - x.f10)
        · refine .inl ⟨18, by decide, Ev.pos hs (Ev.neg c2 (Ev.neg c3 (Ev.now_ (date_eq d) (Ev.up ?_)))), .inr (.inr (.inr (.inr c5)))⟩
          simp only [writeoff_Recover.j0, c4]
          exact Ev.neg (by decide) (Ev.pos c5 (Ev.ret rfl))
        · refine .inr ⟨by omega, by omega, Ev.pos hs (Ev.neg c2 (Ev.neg c3 (Ev.now_ (date_eq d) (Ev.up ?_))))⟩
          simp only [writeoff_Recover.j0, c4, clone_Loan.f, e1, e2, Option.bind_some]
          exact Ev.neg (by decide) (Ev.neg c5 (Ev.ret rfl))
      · have c4' : dayB d = false := by simpa using c4
        refine .inl ⟨1, by decide, Ev.pos hs (Ev.neg c2 (Ev.neg c3 (Ev.now_ (date_eq d) ?_))), ?_⟩
        · rw [c4']
          exact hj
        · unfold dayB at c4
          simp at c4
          omega
theorem rd_one (x : S27) : rd_T27 [x] 0 = x := rfl
theorem expo_end (n : Int) (x : S27) (i : Int) (h : i = 1) : Ev (fun k => writeoff_Exposure.l0 k n [x] 1 i) n := by
  subst h
  apply Ev.up
  simp only [writeoff_Exposure.l0]
  exact Ev.neg (by decide) (Ev.ret rfl)
theorem expo_active (x : S27) (o : Int) (hs : x.f2 = 1) (o1 : Ev (fun k => loan_Outstanding.f k x.f0 x.f1 x.f2 x.f3 x.f4 x.f5 x.f6 x.f7 x.f8 x.f9 x.f10 x.f11.f0 x.f11.f1 x.f11.f2 x.f11.f3 x.f11.f4 x.f11.f5 x.f11.f6 x.f11.f7 x.f11.f8 x.f11.f9 x.f11.f10 x.f11.f11 x.f12 x.f13) o) (ho : wrap64 o = o) : Ev (fun k => writeoff_Exposure.f k [x]) o := by
  simp only [writeoff_Exposure.f]
  show Ev (fun k => writeoff_Exposure.l0 k 0 [x] 1 0) o
  apply Ev.up
  simp only [writeoff_Exposure.l0, rd_one]
  refine Ev.pos (by decide) (Ev.pos (by decide) (Ev.pos (by simp) (Ev.pos hs (Ev.bnd o1 ?_))))
  have e := expo_end (wrap64 (0 + o)) x (wrap64 (0 + 1)) (by decide +kernel)
  rw [Int.zero_add, ho] at e
  rw [Int.zero_add, ho]
  exact e
theorem expo_loss (x : S27) (hs : x.f2 = 3) : Ev (fun k => writeoff_Exposure.f k [x]) (wrap64 (0 + wrap64 (x.f9 - x.f10))) := by
  simp only [writeoff_Exposure.f]
  show Ev (fun k => writeoff_Exposure.l0 k 0 [x] 1 0) _
  apply Ev.up
  simp only [writeoff_Exposure.l0, rd_one]
  exact Ev.pos (by decide) (Ev.pos (by decide) (Ev.pos (by simp) (Ev.neg (by omega) (Ev.pos hs (expo_end _ x _ (by decide +kernel))))))
end Go.Proofs.YtbapjcafcmnhoaaDoor.X
