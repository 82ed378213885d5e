import Derived.Test.YtfdjgdjmllkdcaaDoorEv
import Derived.Test.YtfdjgdjmllkdcaaDoorGood
import Derived.Test.YtfdjgdjmllkdcaaDoorPureLib
import Derived.Test.YtfdjgdjmllkdcaaDoorX0
import Derived.Test.YtfdjgdjmllkdcaaDoorX11
import Derived.Test.YtfdjgdjmllkdcaaDoorX12
import Derived.Test.YtfdjgdjmllkdcaaDoorX26
import Derived.Test.YtfdjgdjmllkdcaaDoorX27
namespace Go.Proofs.YtfdjgdjmllkdcaaDoor.X
open Go.RowKit Go.Proofs.YtfdjgdjmllkdcaaDoorW.PrintWords Go.Proofs.YtfdjgdjmllkdcaaDoorW.PrintLast
set_option linter.unusedVariables false

def idm (l : List S53) (id : Int) : Int := idxP (fun x : S53 => x.f0 == id) l
theorem idm_range (l : List S53) (id : Int) : idm l id = -1 ∨ (0 ≤ idm l id ∧ idm l id < (l.length : Int)) := idxP_range _ l
theorem rdm_nat (l : List S53) (i : Int) (j : Nat) (h : (j : Int) = i) : rd_T53 l i = l.getD j z53 := by
  subst h; rfl
theorem place_loop (l : List S53) (id : Int) (hl : l.length ≤ 9223372036854775807) : ∀ (d : Nat) (i : Int), 0 ≤ i → i + d = (l.length : Int) → (∀ j : Nat, (j : Int) < i → (l.getD j z53).f0 ≠ id) →
    Ev (fun k => corebankref41_Place.l0 k l id i) (idm l id)
  | 0, i, h0, h, hb => by
    apply Ev.up
    simp only [corebankref41_Place.l0]
    exact Ev.neg (by omega) (Ev.ret (idxP_miss _ l z53 i (by omega) (fun j hj => by simpa using hb j hj)).symm)
  | d + 1, i, h0, h, hb => by
    have hw : wrap64 (i + 1) = i + 1 := w1 (n := (l.length : Int)) (by omega) (by omega) (by omega)
    apply Ev.up
    simp only [corebankref41_Place.l0, hw]
    refine Ev.pos (by omega) (Ev.pos h0 (Ev.ite (fun h1 => ?_) (fun h1 => ?_)))
    · exact Ev.ret (idxP_hit _ l z53 i h0 (by omega) (fun j hj => by simpa using hb j hj) (by show ((rd_T53 l i).f0 == id) = true; exact beq_iff_eq.mpr h1)).symm
    · refine place_loop l id hl d (i + 1) (by omega) (by omega) (fun j hj => ?_)
      by_cases e : (j : Int) = i
      · rw [← rdm_nat l i j e]; exact h1
      · exact hb j (by omega)
theorem place_ev (l : List S53) (id : Int) (hl : l.length ≤ 9223372036854775807) : Ev (fun k => corebankref41_Place.f k l id) (idm l id) :=
  place_loop l id hl l.length 0 (by omega) (by omega) (fun j hj => by omega)
def findV (l : List S53) (id : Int) : Int × Bool := if idm l id < 0 then (0, false) else (idm l id, true)
theorem find_loop (l : List S53) (id : Int) (hl : l.length ≤ 9223372036854775807) : ∀ (d : Nat) (i : Int), 0 ≤ i → i + d = (l.length : Int) → (∀ j : Nat, (j : Int) < i → (l.getD j z53).f0 ≠ id) →
    Ev (fun k => mandate_first.l0 k id l (l.length : Int) i) (findV l id)
  | 0, i, h0, h, hb => by
    apply Ev.up
    simp only [mandate_first.l0]
    have e : idm l id = -1 := idxP_miss _ l z53 i (by omega) (fun j hj => by simpa using hb j hj)
    exact Ev.neg (by omega) (Ev.ret (by rw [findV, e]; rfl))
  | d + 1, i, h0, h, hb => by
    have hw : wrap64 (i + 1) = i + 1 := w1 (n := (l.length : Int)) (by omega) (by omega) (by omega)
    apply Ev.up
    simp only [mandate_first.l0, hw, mandate_findc.f, Option.bind_some]
    refine Ev.pos (by omega) (Ev.pos h0 (Ev.pos (by omega) (Ev.ite (fun h1 => ?_) (fun h1 => ?_))))
    · have e : idm l id = i := idxP_hit _ l z53 i h0 (by omega) (fun j hj => by simpa using hb j hj) h1
      exact Ev.ret (by rw [findV, e, if_neg (by omega)])
    · refine find_loop l id hl d (i + 1) (by omega) (by omega) (fun j hj => ?_)
      by_cases e : (j : Int) = i
      · rw [← rdm_nat l i j e]; simpa using h1
      · exact hb j (by omega)
theorem find_ev (l : List S53) (id : Int) (hl : l.length ≤ 9223372036854775807) : Ev (fun k => mandate_find.f k l id) (findV l id) :=
  find_loop l id hl l.length 0 (by omega) (by omega) (fun j hj => by omega)
/-! Expired and Allows. -/
def lastD (x : S53) : Int := if x.f4 = 0 then x.f3 else x.f4
def expB (x : S53) (day : Int) : Bool := decide (day > lastD x) && decide (IntKind.u64.wrap (IntKind.u64.wrap day - IntKind.u64.wrap (lastD x)) > 1096)
theorem u1096 : IntKind.u64.wrap 1096 = 1096 := by simp [IntKind.wrap, IntKind.bits, IntKind.signed]
theorem expired_eq (x : S53) (day : Int) : mandate_Expired.f x.f0 x.f1 x.f2 x.f3 x.f4 x.f5 x.f6 day = some (expB x day) := by
  unfold mandate_Expired.f mandate_more.f expB lastD
  rw [u1096]
  by_cases h : x.f4 = 0
  · rw [if_pos h, if_pos h]
    by_cases h2 : day > x.f3 <;> simp [h2]
  · rw [if_neg h, if_neg h]
    by_cases h2 : day > x.f4 <;> simp [h2]
def stateB (x : S53) (day : Int) : Bool := (!decide (x.f5 = 0) && decide (x.f5 ≤ day)) || decide (x.f3 > day)
def allowM (x : S53) (amt day : Int) : Int := if stateB x day = true then 17 else if expB x day = true then 23 else if x.f2 = 0 then 0 else if amt > x.f2 then 18 else 0
def allowV (l : List S53) (id amt day : Int) : Int := if idm l id < 0 then 11 else allowM (rd_T53 l (idm l id)) amt day
theorem allow_j (x : S53) (amt day : Int) (b : Bool) (hb : b = stateB x day) : Ev (fun k => mandate_Allows.j0 k amt day b x.f0 x.f1 x.f2 x.f3 x.f4 x.f5 x.f6) (allowM x amt day) := by
  apply Ev.up
  simp only [mandate_Allows.j0, expired_eq, Option.bind_some]
  unfold allowM
  rw [hb]
  exact Ev.const (by (repeat' split) <;> first | rfl | contradiction)
theorem allows_ev (l : List S53) (id amt day : Int) (hl : l.length ≤ 9223372036854775807) : Ev (fun k => mandate_Allows.f k l id amt day) (allowV l id amt day) := by
  have hr := idm_range l id
  simp only [mandate_Allows.f]
  refine Ev.bnd (find_ev l id hl) ?_
  unfold findV allowV
  by_cases h : idm l id < 0
  · simp only [if_pos h]
    exact Ev.neg (by simp) (Ev.ret rfl)
  · simp only [if_neg h]
    refine Ev.pos (by simp) (Ev.pos (by omega) (Ev.pos (by omega) (Ev.ite (fun h1 => ?_) (fun h1 => Ev.ite (fun h2 => ?_) (fun h2 => ?_)))))
    · exact allow_j _ amt day _ (by simp [stateB, h1])
    · exact allow_j _ amt day _ (by simp [stateB, h1, h2])
    · exact allow_j _ amt day _ (by simp [stateB, h1, h2])
theorem ref_expired (x : S53) (day : Int) : corebankref41_Expired.f x.f0 x.f1 x.f2 x.f3 x.f4 x.f5 x.f6 day = some (expB x day) := by
  unfold corebankref41_Expired.f expB lastD
  by_cases h : x.f4 = 0
  · rw [if_pos h, if_pos h]
    by_cases h2 : day > x.f3 <;> simp [h2]
  · rw [if_neg h, if_neg h]
    by_cases h2 : day > x.f4 <;> simp [h2]
theorem ref_allow_j (x : S53) (amt day : Int) (b : Bool) (hb : b = stateB x day) : Ev (fun k => corebankref41_Allows.j0 k amt day b x.f0 x.f1 x.f2 x.f3 x.f4 x.f5 x.f6) (allowM x amt day) := by
  apply Ev.up
  simp only [corebankref41_Allows.j0, ref_expired, Option.bind_some]
  unfold allowM
  rw [hb]
  exact Ev.const (by (repeat' split) <;> first | rfl | contradiction)
theorem ref_allows (l : List S53) (id amt day : Int) (hl : l.length ≤ 9223372036854775807) : Ev (fun k => corebankref41_Allows.f k l id amt day) (allowV l id amt day) := by
  have hr := idm_range l id
  simp only [corebankref41_Allows.f]
  refine Ev.bnd (place_ev l id hl) ?_
  unfold allowV
  by_cases h : idm l id < 0
  · rw [if_pos h]
    exact Ev.pos h (Ev.ret rfl)
  · rw [if_neg h]
    refine Ev.neg h (Ev.pos (by omega) (Ev.pos (by omega) (Ev.ite (fun h1 => ?_) (fun h1 => Ev.ite (fun h2 => ?_) (fun h2 => ?_)))))
    · exact ref_allow_j _ amt day _ (by simp [stateB, h1])
    · exact ref_allow_j _ amt day _ (by simp [stateB, h1, h2])
    · exact ref_allow_j _ amt day _ (by simp [stateB, h1, h2])

end Go.Proofs.YtfdjgdjmllkdcaaDoor.X
