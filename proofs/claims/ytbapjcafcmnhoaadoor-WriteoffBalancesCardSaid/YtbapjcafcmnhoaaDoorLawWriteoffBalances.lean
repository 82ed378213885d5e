-- Written by program (wip/tools/rows.py) for this seat; not trusted: Lean checks it.
import Derived.Test.YtbapjcafcmnhoaaDoorRows
import Derived.Test.YtbapjcafcmnhoaaDoorStmtWriteoffBalances
import Derived.Test.YtbapjcafcmnhoaaDoorOpen
import Derived.Test.YtbapjcafcmnhoaaDoorPureWriteoffBalances
import Derived.WalkKit
import Derived.ProofKit
import Derived.OpenShut
import Derived.ShutString
import Derived.ChangeOld
import Derived.Below
import Derived.SizedLaws
import Derived.Test.YtbapjcafcmnhoaaDoorCards
import Derived.Test.YtbapjcafcmnhoaaDoorTie
import Derived.Test.YtbapjcafcmnhoaaDoorLaid
import Derived.SevenTiedAt
import Derived.Handed
import Derived.LaidLaws
namespace Go.Proofs.YtbapjcafcmnhoaaDoor.writeoffBalances
open Go.ChangeShapes Go.WideShapes Go.ChangeAt Go.RowKit Go.Proofs.YtbapjcafcmnhoaaDoorW.PrintWords Go.Proofs.YtbapjcafcmnhoaaDoor.X Go.Proofs.YtbapjcafcmnhoaaDoor.Open
open Go.ChangeMaps (open_string shut_string)
set_option linter.unusedVariables false
theorem own : ownKnob Tryd.prog.godebug = none := by kernel_rfl
theorem laidOut : laidOutB Tryd.prog = true := by kernel_rfl
set_option maxHeartbeats 4000000 in
set_option maxRecDepth 100000 in
theorem lifted (os : Os) (started : os.Started) (H : Type) (enc : TypeId × Value → H) :
    ReturnsInHanded {} Tryd.checked os 6 .any (fun w args => (Rows.writeoffBalancesSpec.pre enc Tryd.prog Tryd.f6 Rows.writeoffBalancesRow.domain false w args ∧ laidMet Tryd.prog Rows.writeoffBalancesRow.laid w) ∧ sizedMet enc Tryd.prog Tryd.f6 (OpenSpec.ofChange Rows.writeoffBalancesSpec) false w args) (Rows.writeoffBalancesSpec.post enc Tryd.prog Tryd.f6 false true false false) := by
  refine returnsInHanded_of_change_and (C := Tryd.checked) (X := fun w _ => laidMet Tryd.prog Rows.writeoffBalancesRow.laid w) (fun _ _ _ hh h => h.of_heap hh) own started (by kernel_rfl) Tryd.func6
    (ChangeSpec.witness_at (enc := enc) (C := Tryd.checked) (os := os) (X := fun w _ => laidMet Tryd.prog Rows.writeoffBalancesRow.laid w) false (laidWorld os) #[.agg #[.int .i64 0, .int .i64 0, .int .i64 0, .int .i64 0, .int .i64 0, .int .i64 0, .int .i64 0, .int .i64 0, .int .i64 0, .int .i64 0, .int .i64 0, .int .i64 0, .int .i64 0, .int .i64 0, .int .i64 0, .int .i64 0, .int .i64 0, .int .i64 0, .int .i64 0, .int .i64 0, .int .i64 0, .string ByteArray.empty, .string ByteArray.empty, .slice none 0 0, .slice none 0 0], .int .i64 0, .int .i64 0] 8 rfl (by kernel_rfl) (by kernel_rfl) (by kernel_rfl) (by kernel_rfl) (by kernel_rfl) (laid_met os _)) ?_
  intro W base args ds gs before hval0 hW hcnd hsz0 hL _
  have hVV : VarOK W := varOK_of_laid hL
  have hval : ∀ (j : Nat) t v, Tryd.f6.params[j]? = some t → args[j]? = some v → Value.okWide Tryd.prog W .any base t v := hval0
  have hW' := hW
  obtain ⟨p, q, hA0, hV, rfl, hfz, hnd⟩ := hW
  have hA : DataW.TrodAll enc Tryd.prog W 0 (fun _ => true) true Tryd.f6.params.toList args.toList ds p := hA0
  rw [Tryd.params6] at hA hval
  obtain ⟨v0, vs0, d0, ds0, p0, q0, hargs, rfl, rfl, h0, r0⟩ := trodAll_cons hA
  obtain ⟨v1, vs1, d1, ds1, p1, q1, rfl, rfl, rfl, h1, r1⟩ := trodAll_cons r0
  obtain ⟨v2, vs2, d2, ds2, p2, q2, rfl, rfl, rfl, h2, r2⟩ := trodAll_cons r1
  obtain ⟨rfl, rfl, rfl⟩ := trodAll_nil r2
  obtain rfl : args = #[v0, v1, v2] := by cases args; simp_all
  obtain ⟨rfl, rfl⟩ := trodVars_none hV
  obtain ⟨cs0, rfl, sz0⟩ := okWide_struct Tryd.underlying27 (hval 0 27 v0 rfl rfl)
  have k0 := h0
  have lt0 : ∀ x ∈ p0, x.block < W.heap.size := by obtain ⟨m, hm⟩ := k0; exact DataW.trod_lt m _ _ _ hm
  obtain ⟨x0, A0_23, c0_23, A0_24, c0_24, rfl, cl0_23, cc0_23, cl0_24, cc0_24, g0⟩ : ∃ (x : S27) (A0_23 : Option Addr) (c0_23 : Nat) (A0_24 : Option Addr) (c0_24 : Nat), cs0 = #[.int .i64 x.f0, .int .i64 x.f1, .int .i64 x.f2, .int .i64 x.f3, .int .i64 x.f4, .int .i64 x.f5, .int .i64 x.f6, .int .i64 x.f7, .int .i64 x.f8, .int .i64 x.f9, .int .i64 x.f10, .int .i64 x.f11.f0, .int .i64 x.f11.f1, .int .i64 x.f11.f2, .int .i64 x.f11.f3, .int .i64 x.f11.f4, .int .i64 x.f11.f5, .int .i64 x.f11.f6, .int .i64 x.f11.f7, .int .i64 x.f11.f8, .int .i64 x.f11.f9, .string x.f11.f10, .string x.f11.f11, .slice A0_23 (x.f12).length c0_23, .slice A0_24 (x.f13).length c0_24] ∧ (x.f12).length ≤ c0_23 ∧ Kd.C k43 W A0_23 (x.f12).length (x.f12) ∧ (x.f13).length ≤ c0_24 ∧ Kd.C k59 W A0_24 (x.f13).length (x.f13) ∧ G27 x := by
    obtain ⟨fuel, hf⟩ := h0
    obtain ⟨x, hK, hg⟩ := op27 _ _ _ _ _ _ _ _ _ hf
    have hK2 := k27_open hK
    obtain ⟨A23, c23, A24, c24, hcs, hl23, hC23, hl24, hC24⟩ := hK2
    exact ⟨x, A23, c23, A24, c24, by cases cs0; simpa [Value.cells] using hcs, hl23, hC23, hl24, hC24, hg⟩
  obtain ⟨a1, rfl, rfl, rfl, w1⟩ := open_int Tryd.underlying3 (hval 1 3 v1 rfl rfl) h1
  obtain ⟨a2, rfl, rfl, rfl, w2⟩ := open_int Tryd.underlying3 (hval 2 3 v2 rfl rfl) h2
  clear hA0 hval0 hsz0
  obtain ⟨k, hk⟩ := Pure.WriteoffBalances x0 a1 a2 g0 w1 w2
  refine (corebanklaw39_WriteoffBalances.calls k x0.f0 x0.f1 x0.f2 x0.f3 x0.f4 x0.f5 x0.f6 x0.f7 x0.f8 x0.f9 x0.f10 x0.f11.f0 x0.f11.f1 x0.f11.f2 x0.f11.f3 x0.f11.f4 x0.f11.f5 x0.f11.f6 x0.f11.f7 x0.f11.f8 x0.f11.f9 x0.f11.f10 x0.f11.f11 _ _ x0.f12 _ _ x0.f13 a1 a2 true W hVV cc0_23 cl0_23 cc0_24 cl0_24 hk).mono fun e W' ⟨he, bel0⟩ => ?_
  have bel : Below W.heap.size W W' := bel0
  subst he
  exact ⟨_, rfl, _, _, _, [], _, [], hW', trodAll_mk1 (shut_bool Tryd.underlying4 _), (trodAll_cons_mk (Below.trod laidOut (by kernel_rfl) (of_decide_eq_true (by kernel_rfl)) k0 bel lt0) (trodAll_cons_mk (shut_int Tryd.underlying3 w1) (trodAll_cons_mk (shut_int Tryd.underlying3 w2) trodAll_mk0))), rfl, bel.frame _, fun h => by cases h⟩
theorem over : Rows.writeoffBalancesRow.holds Tryd.pinned (OpenSpec.ofChange Rows.writeoffBalancesSpec) :=
  OpenClaim.holds_of_wide 6 Tryd.f6 rfl rfl rfl rfl rfl rfl rfl ⟨rfl, rfl, rfl, rfl, rfl⟩ rfl rfl rfl rfl rfl (by kernel_rfl) Tryd.func6 (by kernel_rfl)
    (of_decide_eq_true (by kernel_rfl)) (by unfold Func.isWrapper; first | (rw [if_pos (by decide +kernel)]; kernel_rfl) | (rw [if_neg (by decide +kernel)]; exact ⟨rfl, rfl⟩))
    (fun os started H enc _ => lifted os started H enc)
theorem proved : Rows.WriteoffBalancesCardSaid :=
  Claim7.holds_tied_plain_at .later [] [.data] true (true, "5ac992651e20d218aaa679354ddb80b970a6a9ecb58ca28aa3fa6c589fbd1dcf") false
    over (fun _ h => by cases h) (by kernel_rfl) (fun _ h => by cases h) writeoffBalances_row_tie rfl ⟨rfl, rfl⟩ (by kernel_rfl) rfl
    (fun f fn hf hfn => by
      obtain rfl : f = 6 := Option.some.inj ((show Tryd.prog.funcNamed "corebank/corebanklaw39.WriteoffBalances" = some 6 by kernel_rfl).symm.trans hf) |>.symm
      obtain rfl : fn = Tryd.f6 := (Option.some.inj (Tryd.func6.symm.trans hfn)).symm
      exact ⟨by kernel_rfl, fun j t ht => by
        rw [Tryd.params6] at ht
        have hm : t ∈ [27, 3, 3] := by simpa using Array.mem_of_getElem? ht
        have hall : ([27, 3, 3].all fun u => !Tryd.prog.wantsStandIn u) = true := by kernel_rfl
        exact (show Tryd.prog.wantsStandIn t = false by simpa using List.all_eq_true.1 hall t hm)⟩)
    (by kernel_rfl)
#print axioms proved
end Go.Proofs.YtbapjcafcmnhoaaDoor.writeoffBalances
namespace Go.Proofs.YtbapjcafcmnhoaaDoor
/-- The row, under a short name, for the claim. -/
theorem writeoffBalances_holds : Rows.WriteoffBalancesCardSaid := writeoffBalances.proved
end Go.Proofs.YtbapjcafcmnhoaaDoor
