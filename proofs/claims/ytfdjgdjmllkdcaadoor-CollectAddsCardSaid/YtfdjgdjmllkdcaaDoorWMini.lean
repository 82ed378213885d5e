import Derived.Test.YtfdjgdjmllkdcaaDoorWWords
import Derived.Test.YtfdjgdjmllkdcaaDoorWLast
import Derived.Test.YtfdjgdjmllkdcaaDoorWTab
namespace Go.Proofs.YtfdjgdjmllkdcaaDoorW.PrintMore
open Go.RowKit Go.Proofs.YtfdjgdjmllkdcaaDoorW.PrintWords
theorem max2_int (k k' : IntKind) (x y : Int) : Builtin.max2 (.int k x) (.int k' y) = pure (.int k (if x < y then y else x)) := by simp only [Builtin.max2, gt_iff_lt]
theorem min2_int (k k' : IntKind) (x y : Int) : Builtin.min2 (.int k x) (.int k' y) = pure (.int k (if y < x then y else x)) := by simp only [Builtin.min2]
end Go.Proofs.YtfdjgdjmllkdcaaDoorW.PrintMore
namespace Go.Proofs.YtfdjgdjmllkdcaaDoorW.PrintWords
open Go.RowKit
section
variable {P : Program} {ops : Array Oper} {rest : List Oper} {o : Oper} {a : Act} {Q : Exit → Act → World → Prop} {W : World}
theorem gate_callee {f : FuncId} {as : Array Operand} {ts : Array TypeId} (_ho : o.op = .call { callee := .value (.func f), args := as, argTypes := ts }) (h : wpList P ops Q (o :: rest) a W) : wpList P ops Q (o :: rest) a W := h
theorem gate_builtin {b : Builtin} {xs : Array Operand} {ts : Array TypeId} (_ho : o.op = .call { callee := .builtin b, args := xs, argTypes := ts }) (h : wpList P ops Q (o :: rest) a W) : wpList P ops Q (o :: rest) a W := h
end
theorem drewN_self (w : World) (n : Nat) : w.drewN n = w.drewN n := rfl

/-! Shorter words for the printed walks. -/
theorem zA (ts : Array Value) (ds : List Deferred) (n : Tmp) (v : Value) : Act.put ⟨ts, ds⟩ (some n) v = ⟨ts.setIfInBounds n v, ds⟩ := rfl
theorem zS {α : Type} (l : List α) (i : Nat) (a : α) : l.toArray.setIfInBounds i a = (l.set i a).toArray := List.setIfInBounds_toArray l i a
theorem zC {α : Type} (x : α) (xs : List α) (a : α) : (x :: xs).set 0 a = a :: xs := rfl
theorem zD {α : Type} (x : α) (xs : List α) (n : Nat) (a : α) : (x :: xs).set (n + 1) a = x :: xs.set n a := rfl
theorem blk_seq {w : World} {g : Nat} {t : TypeId} {cs cs' : Array Value} (h : w.heap[g]? = some (.cells cs t (0, 0))) (e : cs = cs') : w.heap[g]? = some (.cells cs' t (0, 0)) := e ▸ h
theorem mvf {w W : World} {X : Addr} {v : Value} {n : Nat} {f : Nat → Option Value} (hb : Below w.heap.size w W) (h0 : w.cell? X = some v) (h : ∀ j, 0 < j → j < n → w.cell? ⟨X.block, X.off + j, none⟩ = f j) : ∀ j, 0 < j → j < n → W.cell? ⟨X.block, X.off + j, none⟩ = f j :=
  fun j h1 h2 => (hb.cell (p := ⟨X.block, X.off + j, none⟩) (World.block_lt_of_cell? w X h0)).trans (h j h1 h2)
def bz (n m : Nat) : Array Bool := ((List.range n).map fun i => m.testBit i).toArray
end Go.Proofs.YtfdjgdjmllkdcaaDoorW.PrintWords
namespace Go.Proofs.YtfdjgdjmllkdcaaDoorW.PrintLast
open Go.RowKit Go.Proofs.YtfdjgdjmllkdcaaDoorW.PrintWords

section
variable {P : Program} {md : Region.Mode} {ops : Array Oper} {Q : Exit → Act → World → Prop} {S : World → Prop} {ds : List Nat}
theorem pV {T : Bool × List (List Nat × List Nat)} (i N : Nat) {oi : Oper} {v : Value} {fuel : Nat} {l : Array Bool} {a : Act} {w : World} (l' : Array Bool) (hi : ops[i]? = some oi) (hN : oi.dst = some N) (hT : rtab md ops = T) (hc : anyT T l.toList l'.toList i = true)
    (hQ : ∀ c a w, Q (.panic c) (a.put oi.dst v) w → Q (.panic c) a w) (hy : Yields P ops oi v a) {a' : Act} (ha : a.put (some N) v = a')
    (h : wpAnyLast P md ops Q S ds fuel l' a' w) : wpAnyLast P md ops Q S ds (fuel + 1) l a w := pure_ l' hi hN (any_of hT hc) hQ hy ha h
end
end Go.Proofs.YtfdjgdjmllkdcaaDoorW.PrintLast
