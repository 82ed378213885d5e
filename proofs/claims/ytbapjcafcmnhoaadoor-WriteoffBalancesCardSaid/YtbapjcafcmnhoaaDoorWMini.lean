import Derived.Test.YtbapjcafcmnhoaaDoorWWords
import Derived.Test.YtbapjcafcmnhoaaDoorWLast
import Derived.Test.YtbapjcafcmnhoaaDoorWTab
namespace Go.Proofs.YtbapjcafcmnhoaaDoorW.PrintMore
open Go.RowKit Go.Proofs.YtbapjcafcmnhoaaDoorW.PrintWords
theorem max2_int (k k' : IntKind) (x y : Int) : Builtin.max2 (.int k x) (.int k' y) = pure (.int k (if x < y then y else x)) := by simp only [Builtin.max2, gt_iff_lt]
theorem min2_int (k k' : IntKind) (x y : Int) : Builtin.min2 (.int k x) (.int k' y) = pure (.int k (if y < x then y else x)) := by simp only [Builtin.min2]
end Go.Proofs.YtbapjcafcmnhoaaDoorW.PrintMore
namespace Go.Proofs.YtbapjcafcmnhoaaDoorW.PrintWords
open Go.RowKit
section
variable {P : Program} {ops : Array Oper} {rest : List Oper} {o : Oper} {a : Act} {Q : Exit → Act → World → Prop} {W : World}
theorem gate_callee {f : FuncId} {as : Array Operand} {ts : Array TypeId} (_ho : o.op = .call { callee := .value (.func f), args := as, argTypes := ts }) (h : wpList P ops Q (o :: rest) a W) : wpList P ops Q (o :: rest) a W := h
theorem gate_builtin {b : Builtin} {xs : Array Operand} {ts : Array TypeId} (_ho : o.op = .call { callee := .builtin b, args := xs, argTypes := ts }) (h : wpList P ops Q (o :: rest) a W) : wpList P ops Q (o :: rest) a W := h
end
theorem drewN_self (w : World) (n : Nat) : w.drewN n = w.drewN n := rfl

/-! Shorter words for the printed walks. -/
theorem zA (ts : Array Value) (ds : List Deferred) (n : Tmp) (v : Value) : Act.put ⟨ts, ds⟩ (some n) v = ⟨ts.setIfInBounds n v, ds⟩ := rfl
theorem zS {α : Type} (l : List α) (i : Nat) (a : α) : l.toArray.setIfInBounds i a = (l.set i a).toArray := List.setIfInBounds_toArray l i a
theorem zC {α : Type} (x : α) (xs : List α) (a : α) : (x :: xs).set 0 a = a :: xs := rfl
theorem zD {α : Type} (x : α) (xs : List α) (n : Nat) (a : α) : (x :: xs).set (n + 1) a = x :: xs.set n a := rfl
theorem blk_seq {w : World} {g : Nat} {t : TypeId} {cs cs' : Array Value} (h : w.heap[g]? = some (.cells cs t (0, 0))) (e : cs = cs') : w.heap[g]? = some (.cells cs' t (0, 0)) := e ▸ h
theorem blk_farp {w : World} {g b i : Nat} {t : TypeId} {cs : Array Value} (hp : g ≠ b) (h : w.heap[g]? = some (.cells cs t (0, 0))) (u : Value) : (w.setCell ⟨b, i, none⟩ u).heap[g]? = some (.cells cs t (0, 0)) := blk_far h hp u
theorem mvf {w W : World} {X : Addr} {v : Value} {n : Nat} {f : Nat → Option Value} (hb : Below w.heap.size w W) (h0 : w.cell? X = some v) (h : ∀ j, 0 < j → j < n → w.cell? ⟨X.block, X.off + j, none⟩ = f j) : ∀ j, 0 < j → j < n → W.cell? ⟨X.block, X.off + j, none⟩ = f j :=
  fun j h1 h2 => (hb.cell (p := ⟨X.block, X.off + j, none⟩) (World.block_lt_of_cell? w X h0)).trans (h j h1 h2)
theorem rf4 {α : Type} {k : Kd α} {t : TypeId} {w : World} {base : Nat} {ok : Nat → Prop} {v : Value} {xs : List α} {g : Nat} {c0 c1 c2 c3 : Value} (h : Kd.R k t w base ok v xs) (hp : ∀ j, ok j → j ≠ g) : Kd.R k t ((((w.setCell ⟨g, 0, none⟩ c0).setCell ⟨g, 1, none⟩ c1).setCell ⟨g, 2, none⟩ c2).setCell ⟨g, 3, none⟩ c3) base ok v xs := (Kd.R_far (p := ⟨g, 3, none⟩) (Kd.R_far (p := ⟨g, 2, none⟩) (Kd.R_far (p := ⟨g, 1, none⟩) (Kd.R_far (p := ⟨g, 0, none⟩) h hp c0) hp c1) hp c2) hp c3)
theorem rf12 {α : Type} {k : Kd α} {t : TypeId} {w : World} {base : Nat} {ok : Nat → Prop} {v : Value} {xs : List α} {g : Nat} {c0 c1 c2 c3 c4 c5 c6 c7 c8 c9 c10 c11 : Value} (h : Kd.R k t w base ok v xs) (hp : ∀ j, ok j → j ≠ g) : Kd.R k t ((((((((((((w.setCell ⟨g, 0, none⟩ c0).setCell ⟨g, 1, none⟩ c1).setCell ⟨g, 2, none⟩ c2).setCell ⟨g, 3, none⟩ c3).setCell ⟨g, 4, none⟩ c4).setCell ⟨g, 5, none⟩ c5).setCell ⟨g, 6, none⟩ c6).setCell ⟨g, 7, none⟩ c7).setCell ⟨g, 8, none⟩ c8).setCell ⟨g, 9, none⟩ c9).setCell ⟨g, 10, none⟩ c10).setCell ⟨g, 11, none⟩ c11) base ok v xs := (Kd.R_far (p := ⟨g, 11, none⟩) (Kd.R_far (p := ⟨g, 10, none⟩) (Kd.R_far (p := ⟨g, 9, none⟩) (Kd.R_far (p := ⟨g, 8, none⟩) (Kd.R_far (p := ⟨g, 7, none⟩) (Kd.R_far (p := ⟨g, 6, none⟩) (Kd.R_far (p := ⟨g, 5, none⟩) (Kd.R_far (p := ⟨g, 4, none⟩) (Kd.R_far (p := ⟨g, 3, none⟩) (Kd.R_far (p := ⟨g, 2, none⟩) (Kd.R_far (p := ⟨g, 1, none⟩) (Kd.R_far (p := ⟨g, 0, none⟩) h hp c0) hp c1) hp c2) hp c3) hp c4) hp c5) hp c6) hp c7) hp c8) hp c9) hp c10) hp c11)
theorem rf25 {α : Type} {k : Kd α} {t : TypeId} {w : World} {base : Nat} {ok : Nat → Prop} {v : Value} {xs : List α} {g : Nat} {c0 c1 c2 c3 c4 c5 c6 c7 c8 c9 c10 c11 c12 c13 c14 c15 c16 c17 c18 c19 c20 c21 c22 c23 c24 : Value} (h : Kd.R k t w base ok v xs) (hp : ∀ j, ok j → j ≠ g) : Kd.R k t (((((((((((((((((((((((((w.setCell ⟨g, 0, none⟩ c0).setCell ⟨g, 1, none⟩ c1).setCell ⟨g, 2, none⟩ c2).setCell ⟨g, 3, none⟩ c3).setCell ⟨g, 4, none⟩ c4).setCell ⟨g, 5, none⟩ c5).setCell ⟨g, 6, none⟩ c6).setCell ⟨g, 7, none⟩ c7).setCell ⟨g, 8, none⟩ c8).setCell ⟨g, 9, none⟩ c9).setCell ⟨g, 10, none⟩ c10).setCell ⟨g, 11, none⟩ c11).setCell ⟨g, 12, none⟩ c12).setCell ⟨g, 13, none⟩ c13).setCell ⟨g, 14, none⟩ c14).setCell ⟨g, 15, none⟩ c15).setCell ⟨g, 16, none⟩ c16).setCell ⟨g, 17, none⟩ c17).setCell ⟨g, 18, none⟩ c18).setCell ⟨g, 19, none⟩ c19).setCell ⟨g, 20, none⟩ c20).setCell ⟨g, 21, none⟩ c21).setCell ⟨g, 22, none⟩ c22).setCell ⟨g, 23, none⟩ c23).setCell ⟨g, 24, none⟩ c24) base ok v xs := (Kd.R_far (p := ⟨g, 24, none⟩) (Kd.R_far (p := ⟨g, 23, none⟩) (Kd.R_far (p := ⟨g, 22, none⟩) (Kd.R_far (p := ⟨g, 21, none⟩) (Kd.R_far (p := ⟨g, 20, none⟩) (Kd.R_far (p := ⟨g, 19, none⟩) (Kd.R_far (p := ⟨g, 18, none⟩) (Kd.R_far (p := ⟨g, 17, none⟩) (Kd.R_far (p := ⟨g, 16, none⟩) (Kd.R_far (p := ⟨g, 15, none⟩) (Kd.R_far (p := ⟨g, 14, none⟩) (Kd.R_far (p := ⟨g, 13, none⟩) (Kd.R_far (p := ⟨g, 12, none⟩) (Kd.R_far (p := ⟨g, 11, none⟩) (Kd.R_far (p := ⟨g, 10, none⟩) (Kd.R_far (p := ⟨g, 9, none⟩) (Kd.R_far (p := ⟨g, 8, none⟩) (Kd.R_far (p := ⟨g, 7, none⟩) (Kd.R_far (p := ⟨g, 6, none⟩) (Kd.R_far (p := ⟨g, 5, none⟩) (Kd.R_far (p := ⟨g, 4, none⟩) (Kd.R_far (p := ⟨g, 3, none⟩) (Kd.R_far (p := ⟨g, 2, none⟩) (Kd.R_far (p := ⟨g, 1, none⟩) (Kd.R_far (p := ⟨g, 0, none⟩) h hp c0) hp c1) hp c2) hp c3) hp c4) hp c5) hp c6) hp c7) hp c8) hp c9) hp c10) hp c11) hp c12) hp c13) hp c14) hp c15) hp c16) hp c17) hp c18) hp c19) hp c20) hp c21) hp c22) hp c23) hp c24)

def CBL (w : World) (g : Nat) (cs : List Value) : Prop := ∀ j v, cs[j]? = some v → w.cell? ⟨g, j, none⟩ = some v
theorem cblk {w : World} {g : Nat} {t : TypeId} {cs : List Value} (h : w.heap[g]? = some (.cells cs.toArray t (0, 0))) : CBL w g cs := fun j v hv => by rw [blk_cell h j]; simpa using hv
theorem ldL {P : Program} {w : World} {g : Nat} {cs : List Value} {ty : TypeId} {d : TypeDesc} (h : CBL w g cs) (hu : P.underlying ty = some d) (hd : (match d with | .struct _ | .array _ _ => true | _ => false) = true) (hi : (P.info? ty).map (fun i => i.size) = some cs.length) :
    (loadVar ty ⟨g, 0, none⟩).run P w = .ok (.agg cs.toArray) w := by
  have hl := run_loadCells_list (P := P) w ⟨g, 0, none⟩ cs (fun j v hv => by
    have hadd : (⟨g, 0, none⟩ : Addr).add j = ⟨g, j, none⟩ := by unfold Addr.add; split <;> simp_all
    rw [hadd]; exact h j v hv)
  cases hq : P.info? ty with
  | none => simp [hq] at hi
  | some i =>
    have hs : i.size = cs.length := by simpa [hq] using hi
    have hagg : (isAgg ty).run P w = .ok true w := by
      unfold isAgg
      rw [Sem.run_bind, run_underlying hu w]
      cases d <;> simp_all
    simp [loadVar, Sem.run_bind, hagg, sizeOf, typeInfo, hq, hs, hl]
theorem ldS {P : Program} {oi : Oper} {a : Act} {w : World} {g : Nat} {cs : List Value} {ty : TypeId} {x : Operand} {d : TypeDesc} (ho : oi.op = .load ty x) (hx : a.eval x = .pointer (some ⟨g, 0, none⟩)) (h : CBL w g cs) (hu : P.underlying ty = some d) (hd : (match d with | .struct _ | .array _ _ => true | _ => false) = true) (hi : (P.info? ty).map (fun i => i.size) = some cs.length) :
    (execOp a.eval oi).run P w = .ok (.value (.agg cs.toArray)) w := by
  unfold execOp
  simp only [ho, hx, Instr.loadAt, Instr.sureAddr, Sem.run_bind, Sem.run_pure, Result.andThen_ok, ldL h hu hd hi]
theorem ldB {P : Program} {ops : Array Oper} {rest : List Oper} {o : Oper} {a : Act} {Q : Exit → Act → World → Prop} {W : World} {g : Nat} {t ty : TypeId} {cs : List Value} {x : Operand} {d : TypeDesc} (qa : Region.wanted o (yielded ops a.tmps) = true) (qb : o.op = .load ty x) (qc : a.eval x = .pointer (some ⟨g, 0, none⟩))
    (qd : Aside0 (W.heap[g]? = some (.cells cs.toArray t (0, 0)))) (qu : P.underlying ty = some d) (qe : (match d with | .struct _ | .array _ _ => true | _ => false) = true) (qi : (P.info? ty).map (fun i => i.size) = some cs.length)
    (h : wpList P ops Q rest (a.put o.dst (.agg cs.toArray)) W) : wpList P ops Q (o :: rest) a W := by
  refine wpList_step (fun K hK => ?_)
  rw [if_pos qa]
  unfold Oper.wp
  rw [ldS qb qc (cblk qd.out) qu qe qi]
  exact hK _ _ h
theorem stL {P : Program} {W : World} {g : Nat} {t ty : TypeId} {cs : List Value} {old : Array Value} (hg : W.heap[g]? = some (.cells old t (0, 0))) (hs : old.size = cs.length) (hi : (P.info? ty).map (fun i => i.size) = some cs.length) (h1 : cs.all (fun v => v.oneCell') = true) :
    (storeVar ty ⟨g, 0, none⟩ (.agg cs.toArray)).run P W = .ok () (W.setCells g 0 cs) := by
  have hst := run_storeCells_cells (P := P) g 0 cs 0 W (fun j hj => by
      rw [show 0 + 0 + j = j by omega, blk_cell hg j, Array.getElem?_eq_getElem (by omega)]; rfl)
    (fun j hj => blk_frozen hg _) (fun v hv => by simpa using (List.all_eq_true.1 h1) v hv)
  cases hq : P.info? ty with
  | none => simp [hq] at hi
  | some i =>
    have hz : i.size = cs.length := by simpa [hq] using hi
    simp [storeVar, sizeOf, typeInfo, hq, Value.cells, hz, hst]
theorem ldA {P : Program} {w : World} {X : Addr} {cs : List Value} {ty : TypeId} {d : TypeDesc} (h : ∀ j v, cs[j]? = some v → w.cell? (X.add j) = some v) (hu : P.underlying ty = some d) (hd : (match d with | .struct _ | .array _ _ => true | _ => false) = true) (hi : (P.info? ty).map (fun i => i.size) = some cs.length) :
    (loadVar ty X).run P w = .ok (.agg cs.toArray) w := by
  have hl := run_loadCells_list (P := P) w X cs h
  cases hq : P.info? ty with
  | none => simp [hq] at hi
  | some i =>
    have hs : i.size = cs.length := by simpa [hq] using hi
    have hagg : (isAgg ty).run P w = .ok true w := by
      unfold isAgg
      rw [Sem.run_bind, run_underlying hu w]
      cases d <;> simp_all
    simp [loadVar, Sem.run_bind, hagg, sizeOf, typeInfo, hq, hs, hl]
theorem ldE {P : Program} {ops : Array Oper} {rest : List Oper} {o : Oper} {a : Act} {Q : Exit → Act → World → Prop} {W : World} {X : Addr} {ty : TypeId} {cs : List Value} {x : Operand} {d : TypeDesc} (qa : Region.wanted o (yielded ops a.tmps) = true) (qb : o.op = .load ty x) (qc : a.eval x = .pointer (some X))
    (qd : Aside0 (∀ j v, cs[j]? = some v → W.cell? (X.add j) = some v)) (qu : P.underlying ty = some d) (qe : (match d with | .struct _ | .array _ _ => true | _ => false) = true) (qi : (P.info? ty).map (fun i => i.size) = some cs.length)
    (h : wpList P ops Q rest (a.put o.dst (.agg cs.toArray)) W) : wpList P ops Q (o :: rest) a W := by
  refine wpList_step (fun K hK => ?_)
  rw [if_pos qa]
  unfold Oper.wp execOp
  simp only [qb, qc, Instr.loadAt, Instr.sureAddr, Sem.run_bind, Sem.run_pure, Result.andThen_ok, ldA qd.out qu qe qi]
  exact hK _ _ h
theorem gate_ld {P : Program} {ops : Array Oper} {rest : List Oper} {o : Oper} {a : Act} {Q : Exit → Act → World → Prop} {W : World} {ty : TypeId} {p : Tmp} (_ho : o.op = .load ty (.tmp p)) (h : wpList P ops Q (o :: rest) a W) : wpList P ops Q (o :: rest) a W := h
theorem gate_st {P : Program} {ops : Array Oper} {rest : List Oper} {o : Oper} {a : Act} {Q : Exit → Act → World → Prop} {W : World} {ty : TypeId} {p q : Tmp} (_ho : o.op = .store ty (.tmp p) (.tmp q)) (h : wpList P ops Q (o :: rest) a W) : wpList P ops Q (o :: rest) a W := h
theorem bk25 {w : World} {g : Nat} {t : TypeId} {c0 c1 c2 c3 c4 c5 c6 c7 c8 c9 c10 c11 c12 c13 c14 c15 c16 c17 c18 c19 c20 c21 c22 c23 c24 : Value} (h : w.heap[g]? = some (.cells #[c0, c1, c2, c3, c4, c5, c6, c7, c8, c9, c10, c11, c12, c13, c14, c15, c16, c17, c18, c19, c20, c21, c22, c23, c24] t (0, 0))) : w.cell? ⟨g, 0, none⟩ = some c0 ∧ w.cell? ⟨g, 1, none⟩ = some c1 ∧ w.cell? ⟨g, 2, none⟩ = some c2 ∧ w.cell? ⟨g, 3, none⟩ = some c3 ∧ w.cell? ⟨g, 4, none⟩ = some c4 ∧ w.cell? ⟨g, 5, none⟩ = some c5 ∧ w.cell? ⟨g, 6, none⟩ = some c6 ∧ w.cell? ⟨g, 7, none⟩ = some c7 ∧ w.cell? ⟨g, 8, none⟩ = some c8 ∧ w.cell? ⟨g, 9, none⟩ = some c9 ∧ w.cell? ⟨g, 10, none⟩ = some c10 ∧ w.cell? ⟨g, 11, none⟩ = some c11 ∧ w.cell? ⟨g, 12, none⟩ = some c12 ∧ w.cell? ⟨g, 13, none⟩ = some c13 ∧ w.cell? ⟨g, 14, none⟩ = some c14 ∧ w.cell? ⟨g, 15, none⟩ = some c15 ∧ w.cell? ⟨g, 16, none⟩ = some c16 ∧ w.cell? ⟨g, 17, none⟩ = some c17 ∧ w.cell? ⟨g, 18, none⟩ = some c18 ∧ w.cell? ⟨g, 19, none⟩ = some c19 ∧ w.cell? ⟨g, 20, none⟩ = some c20 ∧ w.cell? ⟨g, 21, none⟩ = some c21 ∧ w.cell? ⟨g, 22, none⟩ = some c22 ∧ w.cell? ⟨g, 23, none⟩ = some c23 ∧ w.cell? ⟨g, 24, none⟩ = some c24 := ⟨blk_cell h 0, blk_cell h 1, blk_cell h 2, blk_cell h 3, blk_cell h 4, blk_cell h 5, blk_cell h 6, blk_cell h 7, blk_cell h 8, blk_cell h 9, blk_cell h 10, blk_cell h 11, blk_cell h 12, blk_cell h 13, blk_cell h 14, blk_cell h 15, blk_cell h 16, blk_cell h 17, blk_cell h 18, blk_cell h 19, blk_cell h 20, blk_cell h 21, blk_cell h 22, blk_cell h 23, blk_cell h 24⟩
theorem cb25 {w : World} {g : Nat} {c0 c1 c2 c3 c4 c5 c6 c7 c8 c9 c10 c11 c12 c13 c14 c15 c16 c17 c18 c19 c20 c21 c22 c23 c24 : Value} (h : CBL w g [c0, c1, c2, c3, c4, c5, c6, c7, c8, c9, c10, c11, c12, c13, c14, c15, c16, c17, c18, c19, c20, c21, c22, c23, c24]) : w.cell? ⟨g, 0, none⟩ = some c0 ∧ w.cell? ⟨g, 1, none⟩ = some c1 ∧ w.cell? ⟨g, 2, none⟩ = some c2 ∧ w.cell? ⟨g, 3, none⟩ = some c3 ∧ w.cell? ⟨g, 4, none⟩ = some c4 ∧ w.cell? ⟨g, 5, none⟩ = some c5 ∧ w.cell? ⟨g, 6, none⟩ = some c6 ∧ w.cell? ⟨g, 7, none⟩ = some c7 ∧ w.cell? ⟨g, 8, none⟩ = some c8 ∧ w.cell? ⟨g, 9, none⟩ = some c9 ∧ w.cell? ⟨g, 10, none⟩ = some c10 ∧ w.cell? ⟨g, 11, none⟩ = some c11 ∧ w.cell? ⟨g, 12, none⟩ = some c12 ∧ w.cell? ⟨g, 13, none⟩ = some c13 ∧ w.cell? ⟨g, 14, none⟩ = some c14 ∧ w.cell? ⟨g, 15, none⟩ = some c15 ∧ w.cell? ⟨g, 16, none⟩ = some c16 ∧ w.cell? ⟨g, 17, none⟩ = some c17 ∧ w.cell? ⟨g, 18, none⟩ = some c18 ∧ w.cell? ⟨g, 19, none⟩ = some c19 ∧ w.cell? ⟨g, 20, none⟩ = some c20 ∧ w.cell? ⟨g, 21, none⟩ = some c21 ∧ w.cell? ⟨g, 22, none⟩ = some c22 ∧ w.cell? ⟨g, 23, none⟩ = some c23 ∧ w.cell? ⟨g, 24, none⟩ = some c24 := ⟨h 0 _ rfl, h 1 _ rfl, h 2 _ rfl, h 3 _ rfl, h 4 _ rfl, h 5 _ rfl, h 6 _ rfl, h 7 _ rfl, h 8 _ rfl, h 9 _ rfl, h 10 _ rfl, h 11 _ rfl, h 12 _ rfl, h 13 _ rfl, h 14 _ rfl, h 15 _ rfl, h 16 _ rfl, h 17 _ rfl, h 18 _ rfl, h 19 _ rfl, h 20 _ rfl, h 21 _ rfl, h 22 _ rfl, h 23 _ rfl, h 24 _ rfl⟩
theorem stB25 {P : Program} {ops : Array Oper} {rest : List Oper} {o : Oper} {a : Act} {Q : Exit → Act → World → Prop} {W : World} {g : Nat} {ty : TypeId} {x y : Operand} {c0 c1 c2 c3 c4 c5 c6 c7 c8 c9 c10 c11 c12 c13 c14 c15 c16 c17 c18 c19 c20 c21 c22 c23 c24 : Value} (qa : Region.wanted o (yielded ops a.tmps) = true) (qb : o.op = .store ty x y) (qc : a.eval x = .pointer (some ⟨g, 0, none⟩)) (qg : a.eval y = .agg #[c0, c1, c2, c3, c4, c5, c6, c7, c8, c9, c10, c11, c12, c13, c14, c15, c16, c17, c18, c19, c20, c21, c22, c23, c24])
    (qd : ∃ old t, W.heap[g]? = some (.cells old t (0, 0)) ∧ old.size = 25) (qi : (P.info? ty).map (fun i => i.size) = some 25) (qf : [c0, c1, c2, c3, c4, c5, c6, c7, c8, c9, c10, c11, c12, c13, c14, c15, c16, c17, c18, c19, c20, c21, c22, c23, c24].all (fun v => v.oneCell') = true)
    (h : wpList P ops Q rest (a.put o.dst undef) (((((((((((((((((((((((((W.setCell ⟨g, 0, none⟩ c0).setCell ⟨g, 1, none⟩ c1).setCell ⟨g, 2, none⟩ c2).setCell ⟨g, 3, none⟩ c3).setCell ⟨g, 4, none⟩ c4).setCell ⟨g, 5, none⟩ c5).setCell ⟨g, 6, none⟩ c6).setCell ⟨g, 7, none⟩ c7).setCell ⟨g, 8, none⟩ c8).setCell ⟨g, 9, none⟩ c9).setCell ⟨g, 10, none⟩ c10).setCell ⟨g, 11, none⟩ c11).setCell ⟨g, 12, none⟩ c12).setCell ⟨g, 13, none⟩ c13).setCell ⟨g, 14, none⟩ c14).setCell ⟨g, 15, none⟩ c15).setCell ⟨g, 16, none⟩ c16).setCell ⟨g, 17, none⟩ c17).setCell ⟨g, 18, none⟩ c18).setCell ⟨g, 19, none⟩ c19).setCell ⟨g, 20, none⟩ c20).setCell ⟨g, 21, none⟩ c21).setCell ⟨g, 22, none⟩ c22).setCell ⟨g, 23, none⟩ c23).setCell ⟨g, 24, none⟩ c24)) : wpList P ops Q (o :: rest) a W := by
  obtain ⟨old, t, qd, qs⟩ := qd
  refine wpList_step (fun K hK => ?_)
  rw [if_pos qa]
  unfold Oper.wp execOp
  simp only [qb, qc, qg, Instr.storeAt, Instr.sureAddr, Sem.run_bind, Sem.run_pure, Result.andThen_ok, stL (cs := [c0, c1, c2, c3, c4, c5, c6, c7, c8, c9, c10, c11, c12, c13, c14, c15, c16, c17, c18, c19, c20, c21, c22, c23, c24]) qd qs qi qf]
  exact hK _ _ h
theorem stS25 {P : Program} {ops : Array Oper} {oi : Oper} {a : Act} {W : World} {g : Nat} {ty : TypeId} {x y : Operand} {K : Act → World → Prop} {Q : Exit → Act → World → Prop} {c0 c1 c2 c3 c4 c5 c6 c7 c8 c9 c10 c11 c12 c13 c14 c15 c16 c17 c18 c19 c20 c21 c22 c23 c24 : Value} (qw : Region.wanted oi (yielded ops a.tmps) = true) (qn : oi.dst = none) (qb : oi.op = .store ty x y) (qc : a.eval x = .pointer (some ⟨g, 0, none⟩)) (qg : a.eval y = .agg #[c0, c1, c2, c3, c4, c5, c6, c7, c8, c9, c10, c11, c12, c13, c14, c15, c16, c17, c18, c19, c20, c21, c22, c23, c24])
    (qd : ∃ old t, W.heap[g]? = some (.cells old t (0, 0)) ∧ old.size = 25) (qi : (P.info? ty).map (fun i => i.size) = some 25) (qf : [c0, c1, c2, c3, c4, c5, c6, c7, c8, c9, c10, c11, c12, c13, c14, c15, c16, c17, c18, c19, c20, c21, c22, c23, c24].all (fun v => v.oneCell') = true) (h : K a (((((((((((((((((((((((((W.setCell ⟨g, 0, none⟩ c0).setCell ⟨g, 1, none⟩ c1).setCell ⟨g, 2, none⟩ c2).setCell ⟨g, 3, none⟩ c3).setCell ⟨g, 4, none⟩ c4).setCell ⟨g, 5, none⟩ c5).setCell ⟨g, 6, none⟩ c6).setCell ⟨g, 7, none⟩ c7).setCell ⟨g, 8, none⟩ c8).setCell ⟨g, 9, none⟩ c9).setCell ⟨g, 10, none⟩ c10).setCell ⟨g, 11, none⟩ c11).setCell ⟨g, 12, none⟩ c12).setCell ⟨g, 13, none⟩ c13).setCell ⟨g, 14, none⟩ c14).setCell ⟨g, 15, none⟩ c15).setCell ⟨g, 16, none⟩ c16).setCell ⟨g, 17, none⟩ c17).setCell ⟨g, 18, none⟩ c18).setCell ⟨g, 19, none⟩ c19).setCell ⟨g, 20, none⟩ c20).setCell ⟨g, 21, none⟩ c21).setCell ⟨g, 22, none⟩ c22).setCell ⟨g, 23, none⟩ c23).setCell ⟨g, 24, none⟩ c24)) : if Region.wanted oi (yielded ops a.tmps) = true then Oper.wp P oi a W K Q else K (a.put none undef) W := by
  obtain ⟨old, t, qd, qs⟩ := qd
  rw [if_pos qw]
  unfold Oper.wp execOp
  simp only [qb, qc, qg, Instr.storeAt, Instr.sureAddr, Sem.run_bind, Sem.run_pure, Result.andThen_ok, stL (cs := [c0, c1, c2, c3, c4, c5, c6, c7, c8, c9, c10, c11, c12, c13, c14, c15, c16, c17, c18, c19, c20, c21, c22, c23, c24]) qd qs qi qf]
  show K (a.put oi.dst undef) _
  rw [qn]
  exact h
theorem el25 {w : World} {ad : Addr} {n : Nat} {c0 c1 c2 c3 c4 c5 c6 c7 c8 c9 c10 c11 c12 c13 c14 c15 c16 c17 c18 c19 c20 c21 c22 c23 c24 : Value} (h0 : w.cell? (ad.add n) = some c0) (h1 : w.cell? ⟨(ad.add n).block, (ad.add n).off + 1, none⟩ = some c1) (h2 : w.cell? ⟨(ad.add n).block, (ad.add n).off + 2, none⟩ = some c2) (h3 : w.cell? ⟨(ad.add n).block, (ad.add n).off + 3, none⟩ = some c3) (h4 : w.cell? ⟨(ad.add n).block, (ad.add n).off + 4, none⟩ = some c4) (h5 : w.cell? ⟨(ad.add n).block, (ad.add n).off + 5, none⟩ = some c5) (h6 : w.cell? ⟨(ad.add n).block, (ad.add n).off + 6, none⟩ = some c6) (h7 : w.cell? ⟨(ad.add n).block, (ad.add n).off + 7, none⟩ = some c7) (h8 : w.cell? ⟨(ad.add n).block, (ad.add n).off + 8, none⟩ = some c8) (h9 : w.cell? ⟨(ad.add n).block, (ad.add n).off + 9, none⟩ = some c9) (h10 : w.cell? ⟨(ad.add n).block, (ad.add n).off + 10, none⟩ = some c10) (h11 : w.cell? ⟨(ad.add n).block, (ad.add n).off + 11, none⟩ = some c11) (h12 : w.cell? ⟨(ad.add n).block, (ad.add n).off + 12, none⟩ = some c12) (h13 : w.cell? ⟨(ad.add n).block, (ad.add n).off + 13, none⟩ = some c13) (h14 : w.cell? ⟨(ad.add n).block, (ad.add n).off + 14, none⟩ = some c14) (h15 : w.cell? ⟨(ad.add n).block, (ad.add n).off + 15, none⟩ = some c15) (h16 : w.cell? ⟨(ad.add n).block, (ad.add n).off + 16, none⟩ = some c16) (h17 : w.cell? ⟨(ad.add n).block, (ad.add n).off + 17, none⟩ = some c17) (h18 : w.cell? ⟨(ad.add n).block, (ad.add n).off + 18, none⟩ = some c18) (h19 : w.cell? ⟨(ad.add n).block, (ad.add n).off + 19, none⟩ = some c19) (h20 : w.cell? ⟨(ad.add n).block, (ad.add n).off + 20, none⟩ = some c20) (h21 : w.cell? ⟨(ad.add n).block, (ad.add n).off + 21, none⟩ = some c21) (h22 : w.cell? ⟨(ad.add n).block, (ad.add n).off + 22, none⟩ = some c22) (h23 : w.cell? ⟨(ad.add n).block, (ad.add n).off + 23, none⟩ = some c23) (h24 : w.cell? ⟨(ad.add n).block, (ad.add n).off + 24, none⟩ = some c24) : ∀ j v, ([c0, c1, c2, c3, c4, c5, c6, c7, c8, c9, c10, c11, c12, c13, c14, c15, c16, c17, c18, c19, c20, c21, c22, c23, c24] : List Value)[j]? = some v → w.cell? ((ad.add n).add j) = some v := by
  have key : ∀ j, 0 < j → (ad.add n).add j = ⟨(ad.add n).block, (ad.add n).off + j, none⟩ := fun j hj => by rw [show (ad.add n).add j = ad.add (n + j) by unfold Addr.add; by_cases hi : n = 0 <;> by_cases hj : j = 0 <;> simp [hi, hj, Nat.add_assoc]]; exact add_field _ _ j hj
  intro j v hv
  match j, hv with
  | 0, hv => rw [show (ad.add n).add 0 = ad.add n by simp [Addr.add]]; obtain rfl : c0 = v := Option.some.inj hv; exact h0
  | 1, hv => rw [key 1 (by omega)]; obtain rfl : c1 = v := Option.some.inj hv; exact h1
  | 2, hv => rw [key 2 (by omega)]; obtain rfl : c2 = v := Option.some.inj hv; exact h2
  | 3, hv => rw [key 3 (by omega)]; obtain rfl : c3 = v := Option.some.inj hv; exact h3
  | 4, hv => rw [key 4 (by omega)]; obtain rfl : c4 = v := Option.some.inj hv; exact h4
  | 5, hv => rw [key 5 (by omega)]; obtain rfl : c5 = v := Option.some.inj hv; exact h5
  | 6, hv => rw [key 6 (by omega)]; obtain rfl : c6 = v := Option.some.inj hv; exact h6
  | 7, hv => rw [key 7 (by omega)]; obtain rfl : c7 = v := Option.some.inj hv; exact h7
  | 8, hv => rw [key 8 (by omega)]; obtain rfl : c8 = v := Option.some.inj hv; exact h8
  | 9, hv => rw [key 9 (by omega)]; obtain rfl : c9 = v := Option.some.inj hv; exact h9
  | 10, hv => rw [key 10 (by omega)]; obtain rfl : c10 = v := Option.some.inj hv; exact h10
  | 11, hv => rw [key 11 (by omega)]; obtain rfl : c11 = v := Option.some.inj hv; exact h11
  | 12, hv => rw [key 12 (by omega)]; obtain rfl : c12 = v := Option.some.inj hv; exact h12
  | 13, hv => rw [key 13 (by omega)]; obtain rfl : c13 = v := Option.some.inj hv; exact h13
  | 14, hv => rw [key 14 (by omega)]; obtain rfl : c14 = v := Option.some.inj hv; exact h14
  | 15, hv => rw [key 15 (by omega)]; obtain rfl : c15 = v := Option.some.inj hv; exact h15
  | 16, hv => rw [key 16 (by omega)]; obtain rfl : c16 = v := Option.some.inj hv; exact h16
  | 17, hv => rw [key 17 (by omega)]; obtain rfl : c17 = v := Option.some.inj hv; exact h17
  | 18, hv => rw [key 18 (by omega)]; obtain rfl : c18 = v := Option.some.inj hv; exact h18
  | 19, hv => rw [key 19 (by omega)]; obtain rfl : c19 = v := Option.some.inj hv; exact h19
  | 20, hv => rw [key 20 (by omega)]; obtain rfl : c20 = v := Option.some.inj hv; exact h20
  | 21, hv => rw [key 21 (by omega)]; obtain rfl : c21 = v := Option.some.inj hv; exact h21
  | 22, hv => rw [key 22 (by omega)]; obtain rfl : c22 = v := Option.some.inj hv; exact h22
  | 23, hv => rw [key 23 (by omega)]; obtain rfl : c23 = v := Option.some.inj hv; exact h23
  | 24, hv => rw [key 24 (by omega)]; obtain rfl : c24 = v := Option.some.inj hv; exact h24
  | k + 25, hv => simp at hv
def bz (n m : Nat) : Array Bool := ((List.range n).map fun i => m.testBit i).toArray
end Go.Proofs.YtbapjcafcmnhoaaDoorW.PrintWords
namespace Go.Proofs.YtbapjcafcmnhoaaDoorW.PrintLast
open Go.RowKit Go.Proofs.YtbapjcafcmnhoaaDoorW.PrintWords

section
variable {P : Program} {md : Region.Mode} {ops : Array Oper} {Q : Exit → Act → World → Prop} {S : World → Prop} {ds : List Nat}
theorem pV {T : Bool × List (List Nat × List Nat)} (i N : Nat) {oi : Oper} {v : Value} {fuel : Nat} {l : Array Bool} {a : Act} {w : World} (l' : Array Bool) (hi : ops[i]? = some oi) (hN : oi.dst = some N) (hT : rtab md ops = T) (hc : anyT T l.toList l'.toList i = true)
    (hQ : ∀ c a w, Q (.panic c) (a.put oi.dst v) w → Q (.panic c) a w) (hy : Yields P ops oi v a) {a' : Act} (ha : a.put (some N) v = a')
    (h : wpAnyLast P md ops Q S ds fuel l' a' w) : wpAnyLast P md ops Q S ds (fuel + 1) l a w := pure_ l' hi hN (any_of hT hc) hQ hy ha h
theorem pW {T : Bool × List (List Nat × List Nat)} (i N : Nat) {oi : Oper} {v : Value} {fuel : Nat} {l : Array Bool} {a : Act} {w : World} (l' : Array Bool) (hT : rtab md ops = T) {a' : Act} (h : wpAnyLast P md ops Q S ds fuel l' a' w) (hi : ops[i]? = some oi := by rfl) (hN : oi.dst = some N := by rfl) (hc : anyT T l.toList l'.toList i = true := by kernel_rfl)
    (hQ : ∀ c a w, Q (.panic c) (a.put oi.dst v) w → Q (.panic c) a w := by exact fun _ _ _ h => h) (hy : Yields P ops oi v a := by exact Or.inl ⟨by rfl, by intro w'; go_simp; with_reducible rfl⟩) (ha : a.put (some N) v = a' := by simp only [zA, zS, zC, zD, i64_w, i32_w]; rfl) : wpAnyLast P md ops Q S ds (fuel + 1) l a w := pV i N l' hi hN hT hc hQ hy ha h
theorem pU {T : Bool × List (List Nat × List Nat)} (i N : Nat) {oi : Oper} {fuel : Nat} {l : Array Bool} {a : Act} {w : World} (l' : Array Bool) (hT : rtab md ops = T) {a' : Act} (h : wpAnyLast P md ops Q S ds fuel l' a' w) (hi : ops[i]? = some oi := by rfl) (hN : oi.dst = some N := by rfl) (hc : anyT T l.toList l'.toList i = true := by kernel_rfl)
    (hQ : ∀ c a w, Q (.panic c) (a.put oi.dst undef) w → Q (.panic c) a w := by exact fun _ _ _ h => h) (hy : Yields P ops oi undef a := by exact Or.inr ⟨by rfl, rfl⟩) (ha : a.put (some N) undef = a' := by simp only [zA, zS, zC, zD, i64_w, i32_w]; rfl) : wpAnyLast P md ops Q S ds (fuel + 1) l a w := pV i N l' hi hN hT hc hQ hy ha h
end
end Go.Proofs.YtbapjcafcmnhoaaDoorW.PrintLast
