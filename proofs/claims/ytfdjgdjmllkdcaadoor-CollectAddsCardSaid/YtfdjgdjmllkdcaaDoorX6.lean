-- Written by program (wip/tools/xprint.sh) for this seat; not trusted: Lean checks it.
import Derived.Test.YtfdjgdjmllkdcaaDoorX0
import Derived.Test.YtfdjgdjmllkdcaaDoorX1
import Derived.Test.YtfdjgdjmllkdcaaDoorX3
import Derived.Test.YtfdjgdjmllkdcaaDoorX5
namespace Go.Proofs.YtfdjgdjmllkdcaaDoor.X
open Go.RowKit Go.Proofs.YtfdjgdjmllkdcaaDoorW.PrintWords Go.Proofs.YtfdjgdjmllkdcaaDoorW.PrintLast Go.Proofs.YtfdjgdjmllkdcaaDoorW.PrintMore
attribute [local go_sem] max2_int min2_int   -- for this text's walks alone
set_option linter.unusedVariables false
set_option linter.unusedSimpArgs false

/-! ### collect_Check: function 10 (by hand) -/
def collect_seen.f (l : List S36) (i : Int) (s : ByteArray) : Option Bool := if s.size ≤ 48 then some ((l.take i.toNat).any fun d => d.f8.data.toList == s.data.toList) else none
theorem seen_size {l : List S36} {i : Int} {s : ByteArray} {r : Bool} (h : collect_seen.f l i s = some r) : s.size ≤ maxLen := by
 unfold collect_seen.f at h
 split at h
 ·unfold maxLen; omega
 ·simp at h
theorem seen_lit {l : List S36} {i : Int} {s : ByteArray} {r : Bool} (h : collect_seen.f l i s = some r) : (DataW.lit (.bool ((l.take i.toNat).any fun d => d.f8.data.toList == s.data.toList)) : DataW Unit) = .lit (.bool r) := by
 unfold collect_seen.f at h
 split at h
 ·rw [Option.some.inj h]
 ·simp at h
def SeenM (b : Nat) (l : List S36) (i : Int) (w : World) : Prop :=
 ∃ D : DataW Unit, w.ownsMap Tryd.prog 9 (plainElem Tryd.prog 4) b i.toNat D ∧ (∀ s : ByteArray, D.atKey (.string s.data.toList) (.lit (.bool false)) = .lit (.bool ((l.take i.toNat).any fun d => d.f8.data.toList == s.data.toList))) ∧ 0 ≤ i ∧ l.length ≤ 64
theorem SeenM.made (w : World) (l : List S36) (h : l.length ≤ 64) : SeenM w.heap.size l 0 (w.alloc (.map #[] 0)) :=
 ⟨.map [], World.ownsMap_made _ _ _ _, fun s => by simp; rfl, Int.le_refl _, h⟩
theorem own_below {w W : World} {b n : Nat} {D : DataW Unit} (h : w.ownsMap Tryd.prog 9 (plainElem Tryd.prog 4) b n D) (hb : Below w.heap.size w W) : W.ownsMap Tryd.prog 9 (plainElem Tryd.prog 4) b n D := by
 have hlt := h.lt
 obtain ⟨es, clock, h1, F, hs, hD⟩ := h
 exact ⟨es, clock, (hb.block b hlt).trans h1, F, hs, hD⟩
theorem SeenM.next {b : Nat} {l : List S36} {i : Int} {w w1 : World} {D : DataW Unit} (hi : 0 ≤ i) (hD : w.ownsMap Tryd.prog 9 (plainElem Tryd.prog 4) b i.toNat D) (hs : ∀ s : ByteArray, D.atKey (.string s.data.toList) (.lit (.bool false)) = .lit (.bool ((l.take i.toNat).any fun d => d.f8.data.toList == s.data.toList))) (hl : i < (l.length : Int)) (h64 : l.length ≤ 64)
  (ho : w1.ownsMap Tryd.prog 9 (plainElem Tryd.prog 4) b (i.toNat + 1) (D.put (.string (rd_T36 l i).f8.data.toList) (.lit (.bool true)))) : SeenM b l (wrap64 (i + 1)) w1 := by
 have e : wrap64 (i + 1) = i + 1 := by simp [wrap64]; omega
 have e2 : (i + 1).toNat = i.toNat + 1 := by omega
 rw [e]
 refine ⟨_, by rw [e2]; exact ho, fun s => ?_, by omega, h64⟩
 have hlt : i.toNat < l.length := by omega
 have er : rd_T36 l i = l[i.toNat] := by simp [rd_T36, List.getD, List.getElem?_eq_getElem hlt]
 have et : l.take (i + 1).toNat = l.take i.toNat ++ [l[i.toNat]] := by rw [e2, List.take_add_one, List.getElem?_eq_getElem hlt]; rfl
 rw [et, List.any_append]
 by_cases hk : (rd_T36 l i).f8.data.toList = s.data.toList
 ·rw [← hk, Maps.atKey_put_same (by obtain ⟨es, clock, _, _, _, rfl⟩ := hD; exact ⟨_, rfl⟩) (by trivial)]
  simp only [List.any_cons, ← er]
  simp [hk]
 ·rw [Maps.atKey_put_other (by intro h; injection h with h; exact hk h.symm), hs]
  simp only [List.any_cons, ← er]
  simp only [List.any_nil, Bool.or_false, beq_eq_false_iff_ne.2 hk]
theorem wpList_lookup_own_bool {H : Type} {P : Program} (w : World) {ops : Array Oper} {rest : List Oper} {o : Oper} {a : Act} {Q : Exit → Act → World → Prop}
  (hg : o.guard = none) (m x : Operand) (t : TypeId) (hop : o.op = Op.lookup t m x false)
  (k e : TypeId) (K : Maps.Keyed P k) (ht : P.underlying t = some (.map k e)) (he : P.underlying e = some .bool) (hz : (zeroValue e).run P w = .ok (.bool false) w) (b n : Nat) (D : DataW H)
  (hm : a.eval m = .map (some b)) (hown : w.ownsMap P k (plainElem P e) b n D) (key : Value) (kl : Lit) (hx : a.eval x = key) (hkey : keyOf P k key = some kl)
  (c : Bool) (hat : D.atKey kl (.lit (.bool false)) = .lit (.bool c))
  (hK : wpList P ops Q rest (a.put o.dst (.bool c)) w) :
  wpList P ops Q (o :: rest) a w := by
 refine wpList_plain hg fun K' hK' => ?_
 obtain ⟨v, ps, hrun, hv⟩ := hown.lookup K ht hz (plainElem_bool he false) hkey
 obtain ⟨rfl, _⟩ : v = .bool c ∧ True := by
  unfold plainElem at hv
  rw [he] at hv
  cases v <;> simp at hv
  rw [hat] at hv
  simp at hv
  rw [hv.1]
  exact ⟨rfl, trivial⟩
 unfold Oper.wp
 simp [execOp, hop, hm, hx, hrun, Result.andThen]
 exact hK' _ _ hK
mutual
def collect_Check.l0 : Nat → List (S36) → List (S36) → Int → Int → Option (Int)
 | 0, _, _, _, _ => none
 | k + 1, x0, x10, x11, x12 => if x12 < x11 then (if 0 ≤ x12 then (if x12 < (x10.length : Int) then (if ((rd_T36 x10 x12).f0) < 1 then (collect_Check.j1 k x0 x12 x10 x11 x12 true ((rd_T36 x10 x12).f0) ((rd_T36 x10 x12).f1) ((rd_T36 x10 x12).f2) ((rd_T36 x10 x12).f3) ((rd_T36 x10 x12).f4) ((rd_T36 x10 x12).f5) ((rd_T36 x10 x12).f6) ((rd_T36 x10 x12).f7) ((rd_T36 x10 x12).f8)) else (if ((rd_T36 x10 x12).f1) < 1 then (collect_Check.j1 k x0 x12 x10 x11 x12 true ((rd_T36 x10 x12).f0) ((rd_T36 x10 x12).f1) ((rd_T36 x10 x12).f2) ((rd_T36 x10 x12).f3) ((rd_T36 x10 x12).f4) ((rd_T36 x10 x12).f5) ((rd_T36 x10 x12).f6) ((rd_T36 x10 x12).f7) ((rd_T36 x10 x12).f8)) else ((collect_amount.f ((rd_T36 x10 x12).f2)).bind fun t110 => (if t110 = true then ((date_Valid.f ((rd_T36 x10 x12).f3)).bind fun t111 => (if t111 = true then ((collect_key.f k ((rd_T36 x10 x12).f8)).bind fun t112 => (if t112 = true then ((collect_fits.f ((rd_T36 x10 x12).f0) ((rd_T36 x10 x12).f1) ((rd_T36 x10 x12).f2) ((rd_T36 x10 x12).f3) ((rd_T36 x10 x12).f4) ((rd_T36 x10 x12).f5) ((rd_T36 x10 x12).f6) ((rd_T36 x10 x12).f7) ((rd_T36 x10 x12).f8)).bind fun t113 => (collect_Check.j1 k x0 x12 x10 x11 x12 (!t113) ((rd_T36 x10 x12).f0) ((rd_T36 x10 x12).f1) ((rd_T36 x10 x12).f2) ((rd_T36 x10 x12).f3) ((rd_T36 x10 x12).f4) ((rd_T36 x10 x12).f5) ((rd_T36 x10 x12).f6) ((rd_T36 x10 x12).f7) ((rd_T36 x10 x12).f8))) else (collect_Check.j1 k x0 x12 x10 x11 x12 true ((rd_T36 x10 x12).f0) ((rd_T36 x10 x12).f1) ((rd_T36 x10 x12).f2) ((rd_T36 x10 x12).f3) ((rd_T36 x10 x12).f4) ((rd_T36 x10 x12).f5) ((rd_T36 x10 x12).f6) ((rd_T36 x10 x12).f7) ((rd_T36 x10 x12).f8)))) else (collect_Check.j1 k x0 x12 x10 x11 x12 true ((rd_T36 x10 x12).f0) ((rd_T36 x10 x12).f1) ((rd_T36 x10 x12).f2) ((rd_T36 x10 x12).f3) ((rd_T36 x10 x12).f4) ((rd_T36 x10 x12).f5) ((rd_T36 x10 x12).f6) ((rd_T36 x10 x12).f7) ((rd_T36 x10 x12).f8)))) else (collect_Check.j1 k x0 x12 x10 x11 x12 true ((rd_T36 x10 x12).f0) ((rd_T36 x10 x12).f1) ((rd_T36 x10 x12).f2) ((rd_T36 x10 x12).f3) ((rd_T36 x10 x12).f4) ((rd_T36 x10 x12).f5) ((rd_T36 x10 x12).f6) ((rd_T36 x10 x12).f7) ((rd_T36 x10 x12).f8)))))) else (none)) else (none)) else (some 0)
def collect_Check.j1 : Nat → List (S36) → Int → List (S36) → Int → Int → Bool → Int → Int → Int → Int → Int → Int → Int → Int → ByteArray → Option (Int)
 | 0, _, _, _, _, _, _, _, _, _, _, _, _, _, _, _ => none
 | k + 1, x0, x4, x10, x11, x12, x47, x110000, x110001, x110002, x110003, x110004, x110005, x110006, x110007, x110008 => if x47 = true then (some 1) else (if x4 > 0 then (if 0 ≤ (wrap64 (x4 - 1)) then (if (wrap64 (x4 - 1)) < (x0.length : Int) then (collect_Check.j2 k x0 x10 x11 x12 (decide (x110000 ≤ ((rd_T36 x0 (wrap64 (x4 - 1))).f0))) x110000 x110001 x110002 x110003 x110004 x110005 x110006 x110007 x110008) else (none)) else (none)) else (collect_Check.j2 k x0 x10 x11 x12 false x110000 x110001 x110002 x110003 x110004 x110005 x110006 x110007 x110008))
def collect_Check.j2 : Nat → List (S36) → List (S36) → Int → Int → Bool → Int → Int → Int → Int → Int → Int → Int → Int → ByteArray → Option (Int)
 | 0, _, _, _, _, _, _, _, _, _, _, _, _, _, _ => none
 | k + 1, x0, x10, x11, x12, x60, x110000, x110001, x110002, x110003, x110004, x110005, x110006, x110007, x110008 => if x60 = true then (some 10) else ((collect_seen.f x10 x12 x110008).bind fun t115 => (if t115 = true then (some 12) else (collect_Check.l0 k x0 x10 x11 (wrap64 (x12 + 1)))))
end
def collect_Check.f (k : Nat) (l0 : List (S36)) : Option (Int) := if (l0.length : Int) > 64 then (some 5) else (collect_Check.l0 k l0 l0 (l0.length : Int) 0)
theorem collect_Check.mono_l : ∀ k, (∀ y0 y1 y2 y3, LeO (collect_Check.l0 k y0 y1 y2 y3) (collect_Check.l0 (k + 1) y0 y1 y2 y3)) ∧ (∀ y0 y1 y2 y3 y4 y5 y6 y7 y8 y9 y10 y11 y12 y13 y14, LeO (collect_Check.j1 k y0 y1 y2 y3 y4 y5 y6 y7 y8 y9 y10 y11 y12 y13 y14) (collect_Check.j1 (k + 1) y0 y1 y2 y3 y4 y5 y6 y7 y8 y9 y10 y11 y12 y13 y14)) ∧ (∀ y0 y1 y2 y3 y4 y5 y6 y7 y8 y9 y10 y11 y12 y13, LeO (collect_Check.j2 k y0 y1 y2 y3 y4 y5 y6 y7 y8 y9 y10 y11 y12 y13) (collect_Check.j2 (k + 1) y0 y1 y2 y3 y4 y5 y6 y7 y8 y9 y10 y11 y12 y13))
 | 0 => ⟨fun _ _ _ _ r h => by simp [collect_Check.l0] at h, fun _ _ _ _ _ _ _ _ _ _ _ _ _ _ _ r h => by simp [collect_Check.j1] at h, fun _ _ _ _ _ _ _ _ _ _ _ _ _ _ r h => by simp [collect_Check.j2] at h⟩
 | k + 1 => by
  obtain ⟨ih0, ih1, ih2⟩ := collect_Check.mono_l k
  refine ⟨?_, ?_, ?_⟩
  ·intro y0 y1 y2 y3
   unfold collect_Check.l0
   repeat' first
   | (with_reducible exact ih0 _ _ _ _)
   | (with_reducible exact ih1 _ _ _ _ _ _ _ _ _ _ _ _ _ _ _)
   | (with_reducible exact ih2 _ _ _ _ _ _ _ _ _ _ _ _ _ _)
   | (with_reducible exact collect_key.mono _ _)
   | (with_reducible exact LeO.refl _)
   | (with_reducible exact LeO.none _)
   | (with_reducible refine LeO.ite ?_ ?_)
   | (with_reducible refine LeO.bind ?_ (fun _ => ?_))
   | exact ih0 _ _ _ _
   | exact ih1 _ _ _ _ _ _ _ _ _ _ _ _ _ _ _
   | exact ih2 _ _ _ _ _ _ _ _ _ _ _ _ _ _
   | exact collect_key.mono _ _
   | exact LeO.none _
   | refine LeO.ite ?_ ?_
   | refine LeO.bind ?_ (fun _ => ?_)
  ·intro y0 y1 y2 y3 y4 y5 y6 y7 y8 y9 y10 y11 y12 y13 y14
   unfold collect_Check.j1
   repeat' first
   | (with_reducible exact ih0 _ _ _ _)
   | (with_reducible exact ih1 _ _ _ _ _ _ _ _ _ _ _ _ _ _ _)
   | (with_reducible exact ih2 _ _ _ _ _ _ _ _ _ _ _ _ _ _)
   | (with_reducible exact collect_key.mono _ _)
   | (with_reducible exact LeO.refl _)
   | (with_reducible exact LeO.none _)
   | (with_reducible refine LeO.ite ?_ ?_)
   | (with_reducible refine LeO.bind ?_ (fun _ => ?_))
   | exact ih0 _ _ _ _
   | exact ih1 _ _ _ _ _ _ _ _ _ _ _ _ _ _ _
   | exact ih2 _ _ _ _ _ _ _ _ _ _ _ _ _ _
   | exact collect_key.mono _ _
   | exact LeO.none _
   | refine LeO.ite ?_ ?_
   | refine LeO.bind ?_ (fun _ => ?_)
  ·intro y0 y1 y2 y3 y4 y5 y6 y7 y8 y9 y10 y11 y12 y13
   unfold collect_Check.j2
   repeat' first
   | (with_reducible exact ih0 _ _ _ _)
   | (with_reducible exact ih1 _ _ _ _ _ _ _ _ _ _ _ _ _ _ _)
   | (with_reducible exact ih2 _ _ _ _ _ _ _ _ _ _ _ _ _ _)
   | (with_reducible exact collect_key.mono _ _)
   | (with_reducible exact LeO.refl _)
   | (with_reducible exact LeO.none _)
   | (with_reducible refine LeO.ite ?_ ?_)
   | (with_reducible refine LeO.bind ?_ (fun _ => ?_))
   | exact ih0 _ _ _ _
   | exact ih1 _ _ _ _ _ _ _ _ _ _ _ _ _ _ _
   | exact ih2 _ _ _ _ _ _ _ _ _ _ _ _ _ _
   | exact collect_key.mono _ _
   | exact LeO.none _
   | refine LeO.ite ?_ ?_
   | refine LeO.bind ?_ (fun _ => ?_)
theorem collect_Check.mono : ∀ a0 k, LeO (collect_Check.f k a0) (collect_Check.f (k + 1) a0) := by
 intro a0 k
 obtain ⟨ih0, ih1, ih2⟩ := collect_Check.mono_l k
 unfold collect_Check.f
 repeat' first
   | (with_reducible exact ih0 _ _ _ _)
   | (with_reducible exact ih1 _ _ _ _ _ _ _ _ _ _ _ _ _ _ _)
   | (with_reducible exact ih2 _ _ _ _ _ _ _ _ _ _ _ _ _ _)
   | (with_reducible exact collect_key.mono _ _)
   | (with_reducible exact LeO.refl _)
   | (with_reducible exact LeO.none _)
   | (with_reducible refine LeO.ite ?_ ?_)
   | (with_reducible refine LeO.bind ?_ (fun _ => ?_))
   | exact ih0 _ _ _ _
   | exact ih1 _ _ _ _ _ _ _ _ _ _ _ _ _ _ _
   | exact ih2 _ _ _ _ _ _ _ _ _ _ _ _ _ _
   | exact collect_key.mono _ _
   | exact LeO.none _
   | refine LeO.ite ?_ ?_
   | refine LeO.bind ?_ (fun _ => ?_)
set_option maxHeartbeats 8000000 in
set_option maxRecDepth 100000 in
theorem collect_Check.calls (k : Nat) (A0 : Option Addr) (c0 : Nat) (l0 : List (S36)) (r : Int) (w : World) (hV : VarOK w) (hr0 : Kd.C k36 w A0 l0.length l0) (hc0 : l0.length ≤ c0) (h : collect_Check.f k l0 = some r) :
  Calls Tryd.prog 10 #[.slice A0 l0.length c0] w fun e w' => e = .returned (.int .i64 r) ∧ Below w.heap.size w w' := by
 have HV := Aside0.mk hV
 clear hV
 have hu36 := Tryd.underlying36
 have HR0 := Aside0.mk hr0
 have HC0 := Aside0.mk hc0
 clear hr0 hc0
 have HB := Aside0.mk (Below.refl w.heap.size w)
 have H : (if (l0.length : Int) > 64 then (some 5) else (collect_Check.l0 k l0 l0 (l0.length : Int) 0)) = some r := h
 clear h
 by_cases c2 : (l0.length : Int) > 64
 ·rw [if_pos c2] at H
  have c2b0 : decide (64 < (l0.length : Int)) = true := decide_eq_true c2
  have c2b1 : decide (64 < l0.length) = true := decide_eq_true (by omega)
  clear c2
  obtain rfl := Option.some.inj H
  go_enter Tryd.func10, Tryd.ntmps10
  go_wp2
  repeat (go_quiet (fail); try go_wp2)
  go_ret
  exact ⟨by first | rfl | (simp [errW_none, errW_some] <;> rfl) | (simp [*, errW_none, errW_some] <;> rfl), by repeat (first | (with_reducible first | exact HB.out | apply below_alloc | apply pw_below_drewN | apply below_drew1) | exact HB.out)⟩
 ·rw [if_neg c2] at H
  have c2b0 : decide (64 < (l0.length : Int)) = false := decide_eq_false c2
  have c2b1 : decide (64 < l0.length) = false := decide_eq_false (by omega)
  have HL64 := Aside0.mk (show l0.length ≤ 64 by omega)
  clear c2
  have H' := Aside0.mk H
  clear H
  have hmm := @run_makeMap Tryd.prog
  go_enter Tryd.func10, Tryd.ntmps10
  go_wp2
  repeat (go_quiet (fail); try go_wp2)
  go_loopg [12] k (fun kq v12 w' => ∃ (x12_1 : Int), v12 = .int .i64 x12_1 ∧ Aside0 (collect_Check.l0 kq l0 l0 (l0.length : Int) x12_1 = some r) ∧ Aside0 (kq ≤ k) ∧ Aside0 (Below w.heap.size w w') ∧ Aside0 (SeenM w.heap.size l0 x12_1 w'))
  case atStart => exact ⟨(0), (by first | rfl | (simp; done) | (simp [*]; done)), H', ⟨Nat.le_refl _⟩, ⟨by repeat (first | (with_reducible first | exact HB.out | apply below_alloc | apply pw_below_drewN | apply below_drew1) | exact HB.out)⟩, ⟨SeenM.made w l0 HL64.out⟩⟩
  case round =>
   clear H'
   try clear c1
   try clear c2
   try clear c2b0
   try clear c2b1
   try clear p2
   obtain ⟨x12_1, rfl, HA, HK1, HB, HM⟩ := hrel
   have HB0 := HB
   clear HB
   have HRw := Aside0.mk (Kd.C_below HR0.out HB0.out)
   clear HR0
   have HR0 := HRw
   clear HRw
   have HVw := Aside0.mk (HV.out.below HB0.out)
   clear HV
   have HV := HVw
   clear HVw
   have HB := Aside0.mk (Below.refl wr.heap.size wr)
   obtain ⟨HMM⟩ := HM
   obtain ⟨D, hown, hseen, hi0, hl64⟩ := HMM
   have HOW := Aside0.mk hown
   have HSE := Aside0.mk hseen
   clear hown hseen
   have HI0 := Aside0.mk hi0
   clear hi0 hl64
   cases gk with
   | zero => exact absurd HA.out (by simp [collect_Check.l0])
   | succ k1 =>
    have H := HA.out
    clear HA
    simp only [collect_Check.l0] at H
    by_cases c3 : x12_1 < (l0.length : Int)
    ·rw [if_pos c3] at H
     have c3b0 : decide (x12_1 < (l0.length : Int)) = true := decide_eq_true c3
     clear c3
     by_cases c4 : 0 ≤ x12_1
     ·rw [if_pos c4] at H
      have c4b0 : decide (0 ≤ x12_1) = true := decide_eq_true c4
      clear c4
      by_cases c5 : x12_1 < (l0.length : Int)
      ·rw [if_pos c5] at H
       have c5b0 : decide (x12_1 < (l0.length : Int)) = true := decide_eq_true c5
       clear c5
       have HC6 := Aside0.mk H
       clear H
       have p108 : 0 ≤ (x12_1 : Int) := of_decide_eq_true (by first | (with_reducible assumption) | assumption)
       have q108 : x12_1 < (l0.length : Int) := of_decide_eq_true (by first | (with_reducible assumption) | assumption)
       have HLT := Aside0.mk q108
       obtain ⟨ad108, e108, hx108_0, hx108_1, hx108_2, hx108_3, hx108_4, hx108_5, hx108_6, hx108_7, hx108_8⟩ := at_T36 HR0.out x12_1 p108 q108
       cases e108
       replace hx108_0 := (HB.out.cell (World.block_lt_of_cell? wr _ hx108_0)).trans hx108_0
       replace hx108_1 := (HB.out.cell (World.block_lt_of_cell? wr _ hx108_1)).trans hx108_1
       replace hx108_2 := (HB.out.cell (World.block_lt_of_cell? wr _ hx108_2)).trans hx108_2
       replace hx108_3 := (HB.out.cell (World.block_lt_of_cell? wr _ hx108_3)).trans hx108_3
       replace hx108_4 := (HB.out.cell (World.block_lt_of_cell? wr _ hx108_4)).trans hx108_4
       replace hx108_5 := (HB.out.cell (World.block_lt_of_cell? wr _ hx108_5)).trans hx108_5
       replace hx108_6 := (HB.out.cell (World.block_lt_of_cell? wr _ hx108_6)).trans hx108_6
       replace hx108_7 := (HB.out.cell (World.block_lt_of_cell? wr _ hx108_7)).trans hx108_7
       replace hx108_8 := (HB.out.cell (World.block_lt_of_cell? wr _ hx108_8)).trans hx108_8
       replace p108 := eq_true p108
       replace q108 := eq_true q108
       go_upto_region 7 with (first | ((with_reducible refine gate_dst (N := 5) rfl ?_); refine box_event ?hg (N := 5) ?hd (cs := #[.int .i64 0, .int .i64 0, .int .i64 0, .int .i64 0, .int .i64 0, .int .i64 0, .int .i64 0, .int .i64 0, .string (⟨#[]⟩ : ByteArray)]) (t := 36) ?hr ?_; (case hd => rfl); (case hg => rfl); (case hr => first | (go_simp; done) | (go_simp; rfl)); intro gb109 hg w7 hbox hb; have n0_ := Aside0.mk (below_step (by repeat (first | (with_reducible first | exact HB.out | apply below_alloc | apply pw_below_drewN | apply below_drew1) | exact HB.out)) hb); have n1_ := Aside0.mk (hbox); have n2_ := Aside0.mk ((by rw [hg]; exact (below_size (by repeat (first | (with_reducible first | exact HB.out | apply below_alloc | apply pw_below_drewN | apply below_drew1) | exact HB.out))) : wr.heap.size ≤ gb109)); have n3_ := Aside0.mk ((by rw [hg]; exact (below_size (by repeat (first | (with_reducible first | exact HB.out | apply below_alloc | apply pw_below_drewN | apply below_drew1) | exact HB.out))) : wr.heap.size ≤ gb109)); clear HB; have HB := n0_; have BK109 := n1_; have GW109 := n2_; have GE109 := n3_; clear n0_ n1_ n2_ n3_; clear hb hbox hg; have hcz8 := blk_cell BK109.out; have hfz8 := blk_frozen BK109.out))
       repeat (go_quiet (first | ((with_reducible refine gate_dst (N := 5) rfl ?_); refine box_event ?hg (N := 5) ?hd (cs := #[.int .i64 0, .int .i64 0, .int .i64 0, .int .i64 0, .int .i64 0, .int .i64 0, .int .i64 0, .int .i64 0, .string (⟨#[]⟩ : ByteArray)]) (t := 36) ?hr ?_; (case hd => rfl); (case hg => rfl); (case hr => first | (go_simp; done) | (go_simp; rfl)); intro gb109 hg w7 hbox hb; have n0_ := Aside0.mk (below_step (by repeat (first | (with_reducible first | exact HB.out | apply below_alloc | apply pw_below_drewN | apply below_drew1) | exact HB.out)) hb); have n1_ := Aside0.mk (hbox); have n2_ := Aside0.mk ((by rw [hg]; exact (below_size (by repeat (first | (with_reducible first | exact HB.out | apply below_alloc | apply pw_below_drewN | apply below_drew1) | exact HB.out))) : wr.heap.size ≤ gb109)); have n3_ := Aside0.mk ((by rw [hg]; exact (below_size (by repeat (first | (with_reducible first | exact HB.out | apply below_alloc | apply pw_below_drewN | apply below_drew1) | exact HB.out))) : wr.heap.size ≤ gb109)); clear HB; have HB := n0_; have BK109 := n1_; have GW109 := n2_; have GE109 := n3_; clear n0_ n1_ n2_ n3_; clear hb hbox hg; have hcz8 := blk_cell BK109.out; have hfz8 := blk_frozen BK109.out)); go_upto_region 7 with (first | ((with_reducible refine gate_dst (N := 5) rfl ?_); refine box_event ?hg (N := 5) ?hd (cs := #[.int .i64 0, .int .i64 0, .int .i64 0, .int .i64 0, .int .i64 0, .int .i64 0, .int .i64 0, .int .i64 0, .string (⟨#[]⟩ : ByteArray)]) (t := 36) ?hr ?_; (case hd => rfl); (case hg => rfl); (case hr => first | (go_simp; done) | (go_simp; rfl)); intro gb109 hg w7 hbox hb; have n0_ := Aside0.mk (below_step (by repeat (first | (with_reducible first | exact HB.out | apply below_alloc | apply pw_below_drewN | apply below_drew1) | exact HB.out)) hb); have n1_ := Aside0.mk (hbox); have n2_ := Aside0.mk ((by rw [hg]; exact (below_size (by repeat (first | (with_reducible first | exact HB.out | apply below_alloc | apply pw_below_drewN | apply below_drew1) | exact HB.out))) : wr.heap.size ≤ gb109)); have n3_ := Aside0.mk ((by rw [hg]; exact (below_size (by repeat (first | (with_reducible first | exact HB.out | apply below_alloc | apply pw_below_drewN | apply below_drew1) | exact HB.out))) : wr.heap.size ≤ gb109)); clear HB; have HB := n0_; have BK109 := n1_; have GW109 := n2_; have GE109 := n3_; clear n0_ n1_ n2_ n3_; clear hb hbox hg; have hcz8 := blk_cell BK109.out; have hfz8 := blk_frozen BK109.out)))
       (try simp only [Act.put, List.setIfInBounds_toArray, List.set_cons_zero, List.set_cons_succ])
       go_cut [47] (fun v47 wc => ∃ (kq : Nat) (x47_5 : Bool), v47 = .bool x47_5 ∧ Aside0 (collect_Check.j1 kq l0 x12_1 l0 (l0.length : Int) x12_1 x47_5 ((rd_T36 l0 x12_1).f0) ((rd_T36 l0 x12_1).f1) ((rd_T36 l0 x12_1).f2) ((rd_T36 l0 x12_1).f3) ((rd_T36 l0 x12_1).f4) ((rd_T36 l0 x12_1).f5) ((rd_T36 l0 x12_1).f6) ((rd_T36 l0 x12_1).f7) ((rd_T36 l0 x12_1).f8) = some r) ∧ Aside0 (kq ≤ k1) ∧ Aside0 (wc.heap[gb109]? = some (.cells #[.int .i64 ((rd_T36 l0 x12_1).f0), .int .i64 ((rd_T36 l0 x12_1).f1), .int .i64 ((rd_T36 l0 x12_1).f2), .int .i64 ((rd_T36 l0 x12_1).f3), .int .i64 ((rd_T36 l0 x12_1).f4), .int .i64 ((rd_T36 l0 x12_1).f5), .int .i64 ((rd_T36 l0 x12_1).f6), .int .i64 ((rd_T36 l0 x12_1).f7), .string ((rd_T36 l0 x12_1).f8)] 36 (0, 0))) ∧ Aside0 (Below wr.heap.size wr wc))
       case first =>
        have H := HC6.out
        clear HC6
        by_cases c9 : ((rd_T36 l0 x12_1).f0) < 1
        ·rw [if_pos c9] at H
         have c9b0 : decide (((rd_T36 l0 x12_1).f0) < 1) = true := decide_eq_true c9
         clear c9
         (first | rw [c9b0] | (simp only [i64_w, i32_w]; rw [c9b0]) | skip)
         have H' := Aside0.mk H
         clear H
         have hcz10 := blk_cell BK109.out
         have hfz10 := blk_frozen BK109.out
         go_wp2
         repeat (go_quiet (fail); try go_wp2)
         go_meet
         case rel => exact ⟨_, (true), (by first | rfl | (simp; done) | (simp [*]; done)), H', ⟨by have := HK1.out; first | omega | exact Nat.le_refl _⟩, ⟨by exact blk_seq (by repeat (with_reducible first | exact BK109.out | apply blk_drewN | apply blk_drew | apply blk_alloc | apply blk_set)) (by first | (simp only [zS, zC, zD]; done) | rfl)⟩, ⟨by repeat (first | (with_reducible first | exact HB.out | apply below_alloc | apply pw_below_drewN | apply below_drew1 | refine below_set ?_ GE109.out) | exact HB.out)⟩⟩
        ·rw [if_neg c9] at H
         have c9b0 : decide (((rd_T36 l0 x12_1).f0) < 1) = false := decide_eq_false c9
         clear c9
         (first | rw [c9b0] | (simp only [i64_w, i32_w]; rw [c9b0]) | skip)
         by_cases c11 : ((rd_T36 l0 x12_1).f1) < 1
         ·rw [if_pos c11] at H
          have c11b0 : decide (((rd_T36 l0 x12_1).f1) < 1) = true := decide_eq_true c11
          clear c11
          have H' := Aside0.mk H
          clear H
          have hcz12 := blk_cell BK109.out
          have hfz12 := blk_frozen BK109.out
          go_wp2
          repeat (go_quiet (fail); try go_wp2)
          go_meet
          case rel => exact ⟨_, (true), (by first | rfl | (simp; done) | (simp [*]; done)), H', ⟨by have := HK1.out; first | omega | exact Nat.le_refl _⟩, ⟨by exact blk_seq (by repeat (with_reducible first | exact BK109.out | apply blk_drewN | apply blk_drew | apply blk_alloc | apply blk_set)) (by first | (simp only [zS, zC, zD]; done) | rfl)⟩, ⟨by repeat (first | (with_reducible first | exact HB.out | apply below_alloc | apply pw_below_drewN | apply below_drew1 | refine below_set ?_ GE109.out) | exact HB.out)⟩⟩
         ·rw [if_neg c11] at H
          have c11b0 : decide (((rd_T36 l0 x12_1).f1) < 1) = false := decide_eq_false c11
          clear c11
          replace H := Option.bind_eq_some_iff.mp H
          obtain ⟨t110, A130, H⟩ := H
          replace H : (if t110 = true then ((date_Valid.f ((rd_T36 l0 x12_1).f3)).bind fun t111 => (if t111 = true then ((collect_key.f k1 ((rd_T36 l0 x12_1).f8)).bind fun t112 => (if t112 = true then ((collect_fits.f ((rd_T36 l0 x12_1).f0) ((rd_T36 l0 x12_1).f1) ((rd_T36 l0 x12_1).f2) ((rd_T36 l0 x12_1).f3) ((rd_T36 l0 x12_1).f4) ((rd_T36 l0 x12_1).f5) ((rd_T36 l0 x12_1).f6) ((rd_T36 l0 x12_1).f7) ((rd_T36 l0 x12_1).f8)).bind fun t113 => (collect_Check.j1 k1 l0 x12_1 l0 (l0.length : Int) x12_1 (!t113) ((rd_T36 l0 x12_1).f0) ((rd_T36 l0 x12_1).f1) ((rd_T36 l0 x12_1).f2) ((rd_T36 l0 x12_1).f3) ((rd_T36 l0 x12_1).f4) ((rd_T36 l0 x12_1).f5) ((rd_T36 l0 x12_1).f6) ((rd_T36 l0 x12_1).f7) ((rd_T36 l0 x12_1).f8))) else (collect_Check.j1 k1 l0 x12_1 l0 (l0.length : Int) x12_1 true ((rd_T36 l0 x12_1).f0) ((rd_T36 l0 x12_1).f1) ((rd_T36 l0 x12_1).f2) ((rd_T36 l0 x12_1).f3) ((rd_T36 l0 x12_1).f4) ((rd_T36 l0 x12_1).f5) ((rd_T36 l0 x12_1).f6) ((rd_T36 l0 x12_1).f7) ((rd_T36 l0 x12_1).f8)))) else (collect_Check.j1 k1 l0 x12_1 l0 (l0.length : Int) x12_1 true ((rd_T36 l0 x12_1).f0) ((rd_T36 l0 x12_1).f1) ((rd_T36 l0 x12_1).f2) ((rd_T36 l0 x12_1).f3) ((rd_T36 l0 x12_1).f4) ((rd_T36 l0 x12_1).f5) ((rd_T36 l0 x12_1).f6) ((rd_T36 l0 x12_1).f7) ((rd_T36 l0 x12_1).f8)))) else (collect_Check.j1 k1 l0 x12_1 l0 (l0.length : Int) x12_1 true ((rd_T36 l0 x12_1).f0) ((rd_T36 l0 x12_1).f1) ((rd_T36 l0 x12_1).f2) ((rd_T36 l0 x12_1).f3) ((rd_T36 l0 x12_1).f4) ((rd_T36 l0 x12_1).f5) ((rd_T36 l0 x12_1).f6) ((rd_T36 l0 x12_1).f7) ((rd_T36 l0 x12_1).f8))) = some r := H
          have A13 := Aside0.mk A130
          clear A130
          by_cases c14 : t110 = true
          ·subst c14
           have H1 : ((date_Valid.f ((rd_T36 l0 x12_1).f3)).bind fun t111 => (if t111 = true then ((collect_key.f k1 ((rd_T36 l0 x12_1).f8)).bind fun t112 => (if t112 = true then ((collect_fits.f ((rd_T36 l0 x12_1).f0) ((rd_T36 l0 x12_1).f1) ((rd_T36 l0 x12_1).f2) ((rd_T36 l0 x12_1).f3) ((rd_T36 l0 x12_1).f4) ((rd_T36 l0 x12_1).f5) ((rd_T36 l0 x12_1).f6) ((rd_T36 l0 x12_1).f7) ((rd_T36 l0 x12_1).f8)).bind fun t113 => (collect_Check.j1 k1 l0 x12_1 l0 (l0.length : Int) x12_1 (!t113) ((rd_T36 l0 x12_1).f0) ((rd_T36 l0 x12_1).f1) ((rd_T36 l0 x12_1).f2) ((rd_T36 l0 x12_1).f3) ((rd_T36 l0 x12_1).f4) ((rd_T36 l0 x12_1).f5) ((rd_T36 l0 x12_1).f6) ((rd_T36 l0 x12_1).f7) ((rd_T36 l0 x12_1).f8))) else (collect_Check.j1 k1 l0 x12_1 l0 (l0.length : Int) x12_1 true ((rd_T36 l0 x12_1).f0) ((rd_T36 l0 x12_1).f1) ((rd_T36 l0 x12_1).f2) ((rd_T36 l0 x12_1).f3) ((rd_T36 l0 x12_1).f4) ((rd_T36 l0 x12_1).f5) ((rd_T36 l0 x12_1).f6) ((rd_T36 l0 x12_1).f7) ((rd_T36 l0 x12_1).f8)))) else (collect_Check.j1 k1 l0 x12_1 l0 (l0.length : Int) x12_1 true ((rd_T36 l0 x12_1).f0) ((rd_T36 l0 x12_1).f1) ((rd_T36 l0 x12_1).f2) ((rd_T36 l0 x12_1).f3) ((rd_T36 l0 x12_1).f4) ((rd_T36 l0 x12_1).f5) ((rd_T36 l0 x12_1).f6) ((rd_T36 l0 x12_1).f7) ((rd_T36 l0 x12_1).f8)))) = some r := by rw [if_pos rfl] at H; exact H
           clear H
           have H := H1
           clear H1
           replace H := Option.bind_eq_some_iff.mp H
           obtain ⟨t111, A150, H⟩ := H
           replace H : (if t111 = true then ((collect_key.f k1 ((rd_T36 l0 x12_1).f8)).bind fun t112 => (if t112 = true then ((collect_fits.f ((rd_T36 l0 x12_1).f0) ((rd_T36 l0 x12_1).f1) ((rd_T36 l0 x12_1).f2) ((rd_T36 l0 x12_1).f3) ((rd_T36 l0 x12_1).f4) ((rd_T36 l0 x12_1).f5) ((rd_T36 l0 x12_1).f6) ((rd_T36 l0 x12_1).f7) ((rd_T36 l0 x12_1).f8)).bind fun t113 => (collect_Check.j1 k1 l0 x12_1 l0 (l0.length : Int) x12_1 (!t113) ((rd_T36 l0 x12_1).f0) ((rd_T36 l0 x12_1).f1) ((rd_T36 l0 x12_1).f2) ((rd_T36 l0 x12_1).f3) ((rd_T36 l0 x12_1).f4) ((rd_T36 l0 x12_1).f5) ((rd_T36 l0 x12_1).f6) ((rd_T36 l0 x12_1).f7) ((rd_T36 l0 x12_1).f8))) else (collect_Check.j1 k1 l0 x12_1 l0 (l0.length : Int) x12_1 true ((rd_T36 l0 x12_1).f0) ((rd_T36 l0 x12_1).f1) ((rd_T36 l0 x12_1).f2) ((rd_T36 l0 x12_1).f3) ((rd_T36 l0 x12_1).f4) ((rd_T36 l0 x12_1).f5) ((rd_T36 l0 x12_1).f6) ((rd_T36 l0 x12_1).f7) ((rd_T36 l0 x12_1).f8)))) else (collect_Check.j1 k1 l0 x12_1 l0 (l0.length : Int) x12_1 true ((rd_T36 l0 x12_1).f0) ((rd_T36 l0 x12_1).f1) ((rd_T36 l0 x12_1).f2) ((rd_T36 l0 x12_1).f3) ((rd_T36 l0 x12_1).f4) ((rd_T36 l0 x12_1).f5) ((rd_T36 l0 x12_1).f6) ((rd_T36 l0 x12_1).f7) ((rd_T36 l0 x12_1).f8))) = some r := H
           have A15 := Aside0.mk A150
           clear A150
           by_cases c16 : t111 = true
           ·subst c16
            have H1 : ((collect_key.f k1 ((rd_T36 l0 x12_1).f8)).bind fun t112 => (if t112 = true then ((collect_fits.f ((rd_T36 l0 x12_1).f0) ((rd_T36 l0 x12_1).f1) ((rd_T36 l0 x12_1).f2) ((rd_T36 l0 x12_1).f3) ((rd_T36 l0 x12_1).f4) ((rd_T36 l0 x12_1).f5) ((rd_T36 l0 x12_1).f6) ((rd_T36 l0 x12_1).f7) ((rd_T36 l0 x12_1).f8)).bind fun t113 => (collect_Check.j1 k1 l0 x12_1 l0 (l0.length : Int) x12_1 (!t113) ((rd_T36 l0 x12_1).f0) ((rd_T36 l0 x12_1).f1) ((rd_T36 l0 x12_1).f2) ((rd_T36 l0 x12_1).f3) ((rd_T36 l0 x12_1).f4) ((rd_T36 l0 x12_1).f5) ((rd_T36 l0 x12_1).f6) ((rd_T36 l0 x12_1).f7) ((rd_T36 l0 x12_1).f8))) else (collect_Check.j1 k1 l0 x12_1 l0 (l0.length : Int) x12_1 true ((rd_T36 l0 x12_1).f0) ((rd_T36 l0 x12_1).f1) ((rd_T36 l0 x12_1).f2) ((rd_T36 l0 x12_1).f3) ((rd_T36 l0 x12_1).f4) ((rd_T36 l0 x12_1).f5) ((rd_T36 l0 x12_1).f6) ((rd_T36 l0 x12_1).f7) ((rd_T36 l0 x12_1).f8)))) = some r := by rw [if_pos rfl] at H; exact H
            clear H
            have H := H1
            clear H1
            replace H := Option.bind_eq_some_iff.mp H
            obtain ⟨t112, A170, H⟩ := H
            replace H : (if t112 = true then ((collect_fits.f ((rd_T36 l0 x12_1).f0) ((rd_T36 l0 x12_1).f1) ((rd_T36 l0 x12_1).f2) ((rd_T36 l0 x12_1).f3) ((rd_T36 l0 x12_1).f4) ((rd_T36 l0 x12_1).f5) ((rd_T36 l0 x12_1).f6) ((rd_T36 l0 x12_1).f7) ((rd_T36 l0 x12_1).f8)).bind fun t113 => (collect_Check.j1 k1 l0 x12_1 l0 (l0.length : Int) x12_1 (!t113) ((rd_T36 l0 x12_1).f0) ((rd_T36 l0 x12_1).f1) ((rd_T36 l0 x12_1).f2) ((rd_T36 l0 x12_1).f3) ((rd_T36 l0 x12_1).f4) ((rd_T36 l0 x12_1).f5) ((rd_T36 l0 x12_1).f6) ((rd_T36 l0 x12_1).f7) ((rd_T36 l0 x12_1).f8))) else (collect_Check.j1 k1 l0 x12_1 l0 (l0.length : Int) x12_1 true ((rd_T36 l0 x12_1).f0) ((rd_T36 l0 x12_1).f1) ((rd_T36 l0 x12_1).f2) ((rd_T36 l0 x12_1).f3) ((rd_T36 l0 x12_1).f4) ((rd_T36 l0 x12_1).f5) ((rd_T36 l0 x12_1).f6) ((rd_T36 l0 x12_1).f7) ((rd_T36 l0 x12_1).f8))) = some r := H
            have A17 := Aside0.mk A170
            clear A170
            by_cases c18 : t112 = true
            ·subst c18
             have H1 : ((collect_fits.f ((rd_T36 l0 x12_1).f0) ((rd_T36 l0 x12_1).f1) ((rd_T36 l0 x12_1).f2) ((rd_T36 l0 x12_1).f3) ((rd_T36 l0 x12_1).f4) ((rd_T36 l0 x12_1).f5) ((rd_T36 l0 x12_1).f6) ((rd_T36 l0 x12_1).f7) ((rd_T36 l0 x12_1).f8)).bind fun t113 => (collect_Check.j1 k1 l0 x12_1 l0 (l0.length : Int) x12_1 (!t113) ((rd_T36 l0 x12_1).f0) ((rd_T36 l0 x12_1).f1) ((rd_T36 l0 x12_1).f2) ((rd_T36 l0 x12_1).f3) ((rd_T36 l0 x12_1).f4) ((rd_T36 l0 x12_1).f5) ((rd_T36 l0 x12_1).f6) ((rd_T36 l0 x12_1).f7) ((rd_T36 l0 x12_1).f8))) = some r := by rw [if_pos rfl] at H; exact H
             clear H
             have H := H1
             clear H1
             replace H := Option.bind_eq_some_iff.mp H
             obtain ⟨t113, A190, H⟩ := H
             replace H : (collect_Check.j1 k1 l0 x12_1 l0 (l0.length : Int) x12_1 (!t113) ((rd_T36 l0 x12_1).f0) ((rd_T36 l0 x12_1).f1) ((rd_T36 l0 x12_1).f2) ((rd_T36 l0 x12_1).f3) ((rd_T36 l0 x12_1).f4) ((rd_T36 l0 x12_1).f5) ((rd_T36 l0 x12_1).f6) ((rd_T36 l0 x12_1).f7) ((rd_T36 l0 x12_1).f8)) = some r := H
             have A19 := Aside0.mk A190
             clear A190
             have H' := Aside0.mk H
             clear H
             have hcz20 := blk_cell BK109.out
             have hfz20 := blk_frozen BK109.out
             go_wp2_with (first | (go_at_call 27; (with_reducible refine (collect_amount.calls ((rd_T36 l0 x12_1).f2) true _ A13.out).mono ?_); rintro e w' ⟨rfl, ⟨nd, rfl⟩⟩; (try first | exact ⟨rfl, _, World.drewN_drewN _ _ _⟩ | exact ⟨rfl, _, Eq.trans (World.drewN_drewN _ _ _) (congrArg (World.drewN _) (Nat.add_assoc _ _ _))⟩)) | (go_at_call 28; (with_reducible refine (date_Valid.calls ((rd_T36 l0 x12_1).f3) true _ A15.out).mono ?_); rintro e w' ⟨rfl, ⟨nd, rfl⟩⟩; (try first | exact ⟨rfl, _, World.drewN_drewN _ _ _⟩ | exact ⟨rfl, _, Eq.trans (World.drewN_drewN _ _ _) (congrArg (World.drewN _) (Nat.add_assoc _ _ _))⟩)) | (go_at_call 29; (with_reducible refine (collect_key.calls k1 ((rd_T36 l0 x12_1).f8) true _ A17.out).mono ?_); rintro e w' ⟨rfl, ⟨nd, rfl⟩⟩; (try first | exact ⟨rfl, _, World.drewN_drewN _ _ _⟩ | exact ⟨rfl, _, Eq.trans (World.drewN_drewN _ _ _) (congrArg (World.drewN _) (Nat.add_assoc _ _ _))⟩)) | (go_at_call 30; (with_reducible refine (collect_fits.calls ((rd_T36 l0 x12_1).f0) ((rd_T36 l0 x12_1).f1) ((rd_T36 l0 x12_1).f2) ((rd_T36 l0 x12_1).f3) ((rd_T36 l0 x12_1).f4) ((rd_T36 l0 x12_1).f5) ((rd_T36 l0 x12_1).f6) ((rd_T36 l0 x12_1).f7) ((rd_T36 l0 x12_1).f8) t113 _ ?sideV A19.out).mono ?_); (case sideV => exact VarOK.below HV.out (by repeat (first | (with_reducible first | exact HB.out | apply below_alloc | apply pw_below_drewN | apply below_drew1 | refine below_set ?_ GE109.out) | exact HB.out))); rintro e w21 ⟨rfl, hb⟩; have n0_ := Aside0.mk (blk_below (g := gb109) (o := .cells #[.int .i64 ((rd_T36 l0 x12_1).f0), .int .i64 ((rd_T36 l0 x12_1).f1), .int .i64 ((rd_T36 l0 x12_1).f2), .int .i64 ((rd_T36 l0 x12_1).f3), .int .i64 ((rd_T36 l0 x12_1).f4), .int .i64 ((rd_T36 l0 x12_1).f5), .int .i64 ((rd_T36 l0 x12_1).f6), .int .i64 ((rd_T36 l0 x12_1).f7), .string ((rd_T36 l0 x12_1).f8)] 36 (0, 0)) (by exact blk_seq (by repeat (with_reducible first | exact BK109.out | apply blk_drewN | apply blk_drew | apply blk_alloc | apply blk_set)) (by first | (simp only [zS, zC, zD]; done) | rfl)) hb); have n1_ := Aside0.mk (below_step (by repeat (first | (with_reducible first | exact HB.out | apply below_alloc | apply pw_below_drewN | apply below_drew1 | refine below_set ?_ GE109.out) | exact HB.out)) hb); clear BK109; clear HB; have BK109 := n0_; have HB := n1_; clear n0_ n1_; (try clear hb); (try clear hb2); (try clear hk); (try clear hi)))
             repeat (go_quiet (first | (go_at_call 27; (with_reducible refine (collect_amount.calls ((rd_T36 l0 x12_1).f2) true _ A13.out).mono ?_); rintro e w' ⟨rfl, ⟨nd, rfl⟩⟩; (try first | exact ⟨rfl, _, World.drewN_drewN _ _ _⟩ | exact ⟨rfl, _, Eq.trans (World.drewN_drewN _ _ _) (congrArg (World.drewN _) (Nat.add_assoc _ _ _))⟩)) | (go_at_call 28; (with_reducible refine (date_Valid.calls ((rd_T36 l0 x12_1).f3) true _ A15.out).mono ?_); rintro e w' ⟨rfl, ⟨nd, rfl⟩⟩; (try first | exact ⟨rfl, _, World.drewN_drewN _ _ _⟩ | exact ⟨rfl, _, Eq.trans (World.drewN_drewN _ _ _) (congrArg (World.drewN _) (Nat.add_assoc _ _ _))⟩)) | (go_at_call 29; (with_reducible refine (collect_key.calls k1 ((rd_T36 l0 x12_1).f8) true _ A17.out).mono ?_); rintro e w' ⟨rfl, ⟨nd, rfl⟩⟩; (try first | exact ⟨rfl, _, World.drewN_drewN _ _ _⟩ | exact ⟨rfl, _, Eq.trans (World.drewN_drewN _ _ _) (congrArg (World.drewN _) (Nat.add_assoc _ _ _))⟩)) | (go_at_call 30; (with_reducible refine (collect_fits.calls ((rd_T36 l0 x12_1).f0) ((rd_T36 l0 x12_1).f1) ((rd_T36 l0 x12_1).f2) ((rd_T36 l0 x12_1).f3) ((rd_T36 l0 x12_1).f4) ((rd_T36 l0 x12_1).f5) ((rd_T36 l0 x12_1).f6) ((rd_T36 l0 x12_1).f7) ((rd_T36 l0 x12_1).f8) t113 _ ?sideV A19.out).mono ?_); (case sideV => exact VarOK.below HV.out (by repeat (first | (with_reducible first | exact HB.out | apply below_alloc | apply pw_below_drewN | apply below_drew1 | refine below_set ?_ GE109.out) | exact HB.out))); rintro e w21 ⟨rfl, hb⟩; have n0_ := Aside0.mk (blk_below (g := gb109) (o := .cells #[.int .i64 ((rd_T36 l0 x12_1).f0), .int .i64 ((rd_T36 l0 x12_1).f1), .int .i64 ((rd_T36 l0 x12_1).f2), .int .i64 ((rd_T36 l0 x12_1).f3), .int .i64 ((rd_T36 l0 x12_1).f4), .int .i64 ((rd_T36 l0 x12_1).f5), .int .i64 ((rd_T36 l0 x12_1).f6), .int .i64 ((rd_T36 l0 x12_1).f7), .string ((rd_T36 l0 x12_1).f8)] 36 (0, 0)) (by exact blk_seq (by repeat (with_reducible first | exact BK109.out | apply blk_drewN | apply blk_drew | apply blk_alloc | apply blk_set)) (by first | (simp only [zS, zC, zD]; done) | rfl)) hb); have n1_ := Aside0.mk (below_step (by repeat (first | (with_reducible first | exact HB.out | apply below_alloc | apply pw_below_drewN | apply below_drew1 | refine below_set ?_ GE109.out) | exact HB.out)) hb); clear BK109; clear HB; have BK109 := n0_; have HB := n1_; clear n0_ n1_; (try clear hb); (try clear hb2); (try clear hk); (try clear hi))); try go_wp2_with (first | (go_at_call 27; (with_reducible refine (collect_amount.calls ((rd_T36 l0 x12_1).f2) true _ A13.out).mono ?_); rintro e w' ⟨rfl, ⟨nd, rfl⟩⟩; (try first | exact ⟨rfl, _, World.drewN_drewN _ _ _⟩ | exact ⟨rfl, _, Eq.trans (World.drewN_drewN _ _ _) (congrArg (World.drewN _) (Nat.add_assoc _ _ _))⟩)) | (go_at_call 28; (with_reducible refine (date_Valid.calls ((rd_T36 l0 x12_1).f3) true _ A15.out).mono ?_); rintro e w' ⟨rfl, ⟨nd, rfl⟩⟩; (try first | exact ⟨rfl, _, World.drewN_drewN _ _ _⟩ | exact ⟨rfl, _, Eq.trans (World.drewN_drewN _ _ _) (congrArg (World.drewN _) (Nat.add_assoc _ _ _))⟩)) | (go_at_call 29; (with_reducible refine (collect_key.calls k1 ((rd_T36 l0 x12_1).f8) true _ A17.out).mono ?_); rintro e w' ⟨rfl, ⟨nd, rfl⟩⟩; (try first | exact ⟨rfl, _, World.drewN_drewN _ _ _⟩ | exact ⟨rfl, _, Eq.trans (World.drewN_drewN _ _ _) (congrArg (World.drewN _) (Nat.add_assoc _ _ _))⟩)) | (go_at_call 30; (with_reducible refine (collect_fits.calls ((rd_T36 l0 x12_1).f0) ((rd_T36 l0 x12_1).f1) ((rd_T36 l0 x12_1).f2) ((rd_T36 l0 x12_1).f3) ((rd_T36 l0 x12_1).f4) ((rd_T36 l0 x12_1).f5) ((rd_T36 l0 x12_1).f6) ((rd_T36 l0 x12_1).f7) ((rd_T36 l0 x12_1).f8) t113 _ ?sideV A19.out).mono ?_); (case sideV => exact VarOK.below HV.out (by repeat (first | (with_reducible first | exact HB.out | apply below_alloc | apply pw_below_drewN | apply below_drew1 | refine below_set ?_ GE109.out) | exact HB.out))); rintro e w21 ⟨rfl, hb⟩; have n0_ := Aside0.mk (blk_below (g := gb109) (o := .cells #[.int .i64 ((rd_T36 l0 x12_1).f0), .int .i64 ((rd_T36 l0 x12_1).f1), .int .i64 ((rd_T36 l0 x12_1).f2), .int .i64 ((rd_T36 l0 x12_1).f3), .int .i64 ((rd_T36 l0 x12_1).f4), .int .i64 ((rd_T36 l0 x12_1).f5), .int .i64 ((rd_T36 l0 x12_1).f6), .int .i64 ((rd_T36 l0 x12_1).f7), .string ((rd_T36 l0 x12_1).f8)] 36 (0, 0)) (by exact blk_seq (by repeat (with_reducible first | exact BK109.out | apply blk_drewN | apply blk_drew | apply blk_alloc | apply blk_set)) (by first | (simp only [zS, zC, zD]; done) | rfl)) hb); have n1_ := Aside0.mk (below_step (by repeat (first | (with_reducible first | exact HB.out | apply below_alloc | apply pw_below_drewN | apply below_drew1 | refine below_set ?_ GE109.out) | exact HB.out)) hb); clear BK109; clear HB; have BK109 := n0_; have HB := n1_; clear n0_ n1_; (try clear hb); (try clear hb2); (try clear hk); (try clear hi))))
             go_meet
             case rel => exact ⟨_, (!t113), (by first | rfl | (simp; done) | (simp [*]; done)), H', ⟨by have := HK1.out; first | omega | exact Nat.le_refl _⟩, ⟨by (with_reducible repeat (first | refine blk_drewN ?_ _ | refine blk_drew ?_ | refine blk_alloc ?_ _)); exact BK109.out⟩, ⟨by repeat (first | (with_reducible first | exact HB.out | apply below_alloc | apply pw_below_drewN | apply below_drew1 | refine below_set ?_ GE109.out) | exact HB.out)⟩⟩
            ·replace c18 := Bool.eq_false_iff.mpr c18
             subst c18
             have H1 : (collect_Check.j1 k1 l0 x12_1 l0 (l0.length : Int) x12_1 true ((rd_T36 l0 x12_1).f0) ((rd_T36 l0 x12_1).f1) ((rd_T36 l0 x12_1).f2) ((rd_T36 l0 x12_1).f3) ((rd_T36 l0 x12_1).f4) ((rd_T36 l0 x12_1).f5) ((rd_T36 l0 x12_1).f6) ((rd_T36 l0 x12_1).f7) ((rd_T36 l0 x12_1).f8)) = some r := by rw [if_neg (show ¬ (false = true) by decide)] at H; exact H
             clear H
             have H := H1
             clear H1
             have H' := Aside0.mk H
             clear H
             have hcz22 := blk_cell BK109.out
             have hfz22 := blk_frozen BK109.out
             go_wp2_with (first | (go_at_call 27; (with_reducible refine (collect_amount.calls ((rd_T36 l0 x12_1).f2) true _ A13.out).mono ?_); rintro e w' ⟨rfl, ⟨nd, rfl⟩⟩; (try first | exact ⟨rfl, _, World.drewN_drewN _ _ _⟩ | exact ⟨rfl, _, Eq.trans (World.drewN_drewN _ _ _) (congrArg (World.drewN _) (Nat.add_assoc _ _ _))⟩)) | (go_at_call 28; (with_reducible refine (date_Valid.calls ((rd_T36 l0 x12_1).f3) true _ A15.out).mono ?_); rintro e w' ⟨rfl, ⟨nd, rfl⟩⟩; (try first | exact ⟨rfl, _, World.drewN_drewN _ _ _⟩ | exact ⟨rfl, _, Eq.trans (World.drewN_drewN _ _ _) (congrArg (World.drewN _) (Nat.add_assoc _ _ _))⟩)) | (go_at_call 29; (with_reducible refine (collect_key.calls k1 ((rd_T36 l0 x12_1).f8) false _ A17.out).mono ?_); rintro e w' ⟨rfl, ⟨nd, rfl⟩⟩; (try first | exact ⟨rfl, _, World.drewN_drewN _ _ _⟩ | exact ⟨rfl, _, Eq.trans (World.drewN_drewN _ _ _) (congrArg (World.drewN _) (Nat.add_assoc _ _ _))⟩)))
             repeat (go_quiet (first | (go_at_call 27; (with_reducible refine (collect_amount.calls ((rd_T36 l0 x12_1).f2) true _ A13.out).mono ?_); rintro e w' ⟨rfl, ⟨nd, rfl⟩⟩; (try first | exact ⟨rfl, _, World.drewN_drewN _ _ _⟩ | exact ⟨rfl, _, Eq.trans (World.drewN_drewN _ _ _) (congrArg (World.drewN _) (Nat.add_assoc _ _ _))⟩)) | (go_at_call 28; (with_reducible refine (date_Valid.calls ((rd_T36 l0 x12_1).f3) true _ A15.out).mono ?_); rintro e w' ⟨rfl, ⟨nd, rfl⟩⟩; (try first | exact ⟨rfl, _, World.drewN_drewN _ _ _⟩ | exact ⟨rfl, _, Eq.trans (World.drewN_drewN _ _ _) (congrArg (World.drewN _) (Nat.add_assoc _ _ _))⟩)) | (go_at_call 29; (with_reducible refine (collect_key.calls k1 ((rd_T36 l0 x12_1).f8) false _ A17.out).mono ?_); rintro e w' ⟨rfl, ⟨nd, rfl⟩⟩; (try first | exact ⟨rfl, _, World.drewN_drewN _ _ _⟩ | exact ⟨rfl, _, Eq.trans (World.drewN_drewN _ _ _) (congrArg (World.drewN _) (Nat.add_assoc _ _ _))⟩))); try go_wp2_with (first | (go_at_call 27; (with_reducible refine (collect_amount.calls ((rd_T36 l0 x12_1).f2) true _ A13.out).mono ?_); rintro e w' ⟨rfl, ⟨nd, rfl⟩⟩; (try first | exact ⟨rfl, _, World.drewN_drewN _ _ _⟩ | exact ⟨rfl, _, Eq.trans (World.drewN_drewN _ _ _) (congrArg (World.drewN _) (Nat.add_assoc _ _ _))⟩)) | (go_at_call 28; (with_reducible refine (date_Valid.calls ((rd_T36 l0 x12_1).f3) true _ A15.out).mono ?_); rintro e w' ⟨rfl, ⟨nd, rfl⟩⟩; (try first | exact ⟨rfl, _, World.drewN_drewN _ _ _⟩ | exact ⟨rfl, _, Eq.trans (World.drewN_drewN _ _ _) (congrArg (World.drewN _) (Nat.add_assoc _ _ _))⟩)) | (go_at_call 29; (with_reducible refine (collect_key.calls k1 ((rd_T36 l0 x12_1).f8) false _ A17.out).mono ?_); rintro e w' ⟨rfl, ⟨nd, rfl⟩⟩; (try first | exact ⟨rfl, _, World.drewN_drewN _ _ _⟩ | exact ⟨rfl, _, Eq.trans (World.drewN_drewN _ _ _) (congrArg (World.drewN _) (Nat.add_assoc _ _ _))⟩))))
             go_meet
             case rel => exact ⟨_, (true), (by first | rfl | (simp; done) | (simp [*]; done)), H', ⟨by have := HK1.out; first | omega | exact Nat.le_refl _⟩, ⟨by exact blk_seq (by repeat (with_reducible first | exact BK109.out | apply blk_drewN | apply blk_drew | apply blk_alloc | apply blk_set)) (by first | (simp only [zS, zC, zD]; done) | rfl)⟩, ⟨by repeat (first | (with_reducible first | exact HB.out | apply below_alloc | apply pw_below_drewN | apply below_drew1 | refine below_set ?_ GE109.out) | exact HB.out)⟩⟩
           ·replace c16 := Bool.eq_false_iff.mpr c16
            subst c16
            have H1 : (collect_Check.j1 k1 l0 x12_1 l0 (l0.length : Int) x12_1 true ((rd_T36 l0 x12_1).f0) ((rd_T36 l0 x12_1).f1) ((rd_T36 l0 x12_1).f2) ((rd_T36 l0 x12_1).f3) ((rd_T36 l0 x12_1).f4) ((rd_T36 l0 x12_1).f5) ((rd_T36 l0 x12_1).f6) ((rd_T36 l0 x12_1).f7) ((rd_T36 l0 x12_1).f8)) = some r := by rw [if_neg (show ¬ (false = true) by decide)] at H; exact H
            clear H
            have H := H1
            clear H1
            have H' := Aside0.mk H
            clear H
            have hcz23 := blk_cell BK109.out
            have hfz23 := blk_frozen BK109.out
            go_wp2_with (first | (go_at_call 27; (with_reducible refine (collect_amount.calls ((rd_T36 l0 x12_1).f2) true _ A13.out).mono ?_); rintro e w' ⟨rfl, ⟨nd, rfl⟩⟩; (try first | exact ⟨rfl, _, World.drewN_drewN _ _ _⟩ | exact ⟨rfl, _, Eq.trans (World.drewN_drewN _ _ _) (congrArg (World.drewN _) (Nat.add_assoc _ _ _))⟩)) | (go_at_call 28; (with_reducible refine (date_Valid.calls ((rd_T36 l0 x12_1).f3) false _ A15.out).mono ?_); rintro e w' ⟨rfl, ⟨nd, rfl⟩⟩; (try first | exact ⟨rfl, _, World.drewN_drewN _ _ _⟩ | exact ⟨rfl, _, Eq.trans (World.drewN_drewN _ _ _) (congrArg (World.drewN _) (Nat.add_assoc _ _ _))⟩)))
            repeat (go_quiet (first | (go_at_call 27; (with_reducible refine (collect_amount.calls ((rd_T36 l0 x12_1).f2) true _ A13.out).mono ?_); rintro e w' ⟨rfl, ⟨nd, rfl⟩⟩; (try first | exact ⟨rfl, _, World.drewN_drewN _ _ _⟩ | exact ⟨rfl, _, Eq.trans (World.drewN_drewN _ _ _) (congrArg (World.drewN _) (Nat.add_assoc _ _ _))⟩)) | (go_at_call 28; (with_reducible refine (date_Valid.calls ((rd_T36 l0 x12_1).f3) false _ A15.out).mono ?_); rintro e w' ⟨rfl, ⟨nd, rfl⟩⟩; (try first | exact ⟨rfl, _, World.drewN_drewN _ _ _⟩ | exact ⟨rfl, _, Eq.trans (World.drewN_drewN _ _ _) (congrArg (World.drewN _) (Nat.add_assoc _ _ _))⟩))); try go_wp2_with (first | (go_at_call 27; (with_reducible refine (collect_amount.calls ((rd_T36 l0 x12_1).f2) true _ A13.out).mono ?_); rintro e w' ⟨rfl, ⟨nd, rfl⟩⟩; (try first | exact ⟨rfl, _, World.drewN_drewN _ _ _⟩ | exact ⟨rfl, _, Eq.trans (World.drewN_drewN _ _ _) (congrArg (World.drewN _) (Nat.add_assoc _ _ _))⟩)) | (go_at_call 28; (with_reducible refine (date_Valid.calls ((rd_T36 l0 x12_1).f3) false _ A15.out).mono ?_); rintro e w' ⟨rfl, ⟨nd, rfl⟩⟩; (try first | exact ⟨rfl, _, World.drewN_drewN _ _ _⟩ | exact ⟨rfl, _, Eq.trans (World.drewN_drewN _ _ _) (congrArg (World.drewN _) (Nat.add_assoc _ _ _))⟩))))
            go_meet
            case rel => exact ⟨_, (true), (by first | rfl | (simp; done) | (simp [*]; done)), H', ⟨by have := HK1.out; first | omega | exact Nat.le_refl _⟩, ⟨by exact blk_seq (by repeat (with_reducible first | exact BK109.out | apply blk_drewN | apply blk_drew | apply blk_alloc | apply blk_set)) (by first | (simp only [zS, zC, zD]; done) | rfl)⟩, ⟨by repeat (first | (with_reducible first | exact HB.out | apply below_alloc | apply pw_below_drewN | apply below_drew1 | refine below_set ?_ GE109.out) | exact HB.out)⟩⟩
          ·replace c14 := Bool.eq_false_iff.mpr c14
           subst c14
           have H1 : (collect_Check.j1 k1 l0 x12_1 l0 (l0.length : Int) x12_1 true ((rd_T36 l0 x12_1).f0) ((rd_T36 l0 x12_1).f1) ((rd_T36 l0 x12_1).f2) ((rd_T36 l0 x12_1).f3) ((rd_T36 l0 x12_1).f4) ((rd_T36 l0 x12_1).f5) ((rd_T36 l0 x12_1).f6) ((rd_T36 l0 x12_1).f7) ((rd_T36 l0 x12_1).f8)) = some r := by rw [if_neg (show ¬ (false = true) by decide)] at H; exact H
           clear H
           have H := H1
           clear H1
           have H' := Aside0.mk H
           clear H
           have hcz24 := blk_cell BK109.out
           have hfz24 := blk_frozen BK109.out
           go_wp2_with (first | (go_at_call 27; (with_reducible refine (collect_amount.calls ((rd_T36 l0 x12_1).f2) false _ A13.out).mono ?_); rintro e w' ⟨rfl, ⟨nd, rfl⟩⟩; (try first | exact ⟨rfl, _, World.drewN_drewN _ _ _⟩ | exact ⟨rfl, _, Eq.trans (World.drewN_drewN _ _ _) (congrArg (World.drewN _) (Nat.add_assoc _ _ _))⟩)))
           repeat (go_quiet (first | (go_at_call 27; (with_reducible refine (collect_amount.calls ((rd_T36 l0 x12_1).f2) false _ A13.out).mono ?_); rintro e w' ⟨rfl, ⟨nd, rfl⟩⟩; (try first | exact ⟨rfl, _, World.drewN_drewN _ _ _⟩ | exact ⟨rfl, _, Eq.trans (World.drewN_drewN _ _ _) (congrArg (World.drewN _) (Nat.add_assoc _ _ _))⟩))); try go_wp2_with (first | (go_at_call 27; (with_reducible refine (collect_amount.calls ((rd_T36 l0 x12_1).f2) false _ A13.out).mono ?_); rintro e w' ⟨rfl, ⟨nd, rfl⟩⟩; (try first | exact ⟨rfl, _, World.drewN_drewN _ _ _⟩ | exact ⟨rfl, _, Eq.trans (World.drewN_drewN _ _ _) (congrArg (World.drewN _) (Nat.add_assoc _ _ _))⟩))))
           go_meet
           case rel => exact ⟨_, (true), (by first | rfl | (simp; done) | (simp [*]; done)), H', ⟨by have := HK1.out; first | omega | exact Nat.le_refl _⟩, ⟨by exact blk_seq (by repeat (with_reducible first | exact BK109.out | apply blk_drewN | apply blk_drew | apply blk_alloc | apply blk_set)) (by first | (simp only [zS, zC, zD]; done) | rfl)⟩, ⟨by repeat (first | (with_reducible first | exact HB.out | apply below_alloc | apply pw_below_drewN | apply below_drew1 | refine below_set ?_ GE109.out) | exact HB.out)⟩⟩
       case rest =>
        clear HC6
        try clear c1
        try clear p1
        try clear q1
        try clear hx1
        try clear c2
        try clear c2b0
        try clear c2b1
        try clear p2
        try clear c3
        try clear c3b0
        try clear c4
        try clear c4b0
        try clear c5
        try clear c5b0
        try clear c9
        try clear c9b0
        try clear c10
        try clear p10
        try clear q10
        try clear hx10
        try clear c11
        try clear c11b0
        try clear c14
        try clear c16
        try clear c18
        try clear hcz10
        try clear hcz12
        try clear hcz20
        try clear hcz22
        try clear hcz23
        try clear hcz24
        try clear hcz8
        try clear hfz10
        try clear hfz12
        try clear hfz20
        try clear hfz22
        try clear hfz23
        try clear hfz24
        try clear hfz8
        try clear hx108_0
        try clear hx108_1
        try clear hx108_2
        try clear hx108_3
        try clear hx108_4
        try clear hx108_5
        try clear hx108_6
        try clear hx108_7
        try clear hx108_8
        try clear p108
        try clear p2
        try clear q108
        obtain ⟨kq, x47_5, rfl, HA, HJ5, BK109, HB⟩ := hcut
        cases kq with
        | zero => exact absurd HA.out (by simp [collect_Check.j1])
        | succ kj5 =>
         have H := HA.out
         clear HA
         simp only [collect_Check.j1] at H
         by_cases c25 : x47_5 = true
         ·subst c25
          have H1 : (some 1) = some r := by rw [if_pos rfl] at H; exact H
          clear H
          have H := H1
          clear H1
          obtain rfl := Option.some.inj H
          go_wp2
          repeat (go_quiet (fail); try go_wp2)
          go_ret
          exact ⟨by first | rfl | (simp [errW_none, errW_some] <;> rfl) | (simp [*, errW_none, errW_some] <;> rfl), HB0.out.trans ((show Below wr.heap.size wr _ from by repeat (first | (with_reducible first | exact HB.out | apply below_alloc | apply pw_below_drewN | apply below_drew1 | refine below_set ?_ GE109.out) | exact HB.out)).mono HB0.out.size)⟩
         ·replace c25 := Bool.eq_false_iff.mpr c25
          subst c25
          have H1 : (if x12_1 > 0 then (if 0 ≤ (wrap64 (x12_1 - 1)) then (if (wrap64 (x12_1 - 1)) < (l0.length : Int) then (collect_Check.j2 kj5 l0 l0 (l0.length : Int) x12_1 (decide (((rd_T36 l0 x12_1).f0) ≤ ((rd_T36 l0 (wrap64 (x12_1 - 1))).f0))) ((rd_T36 l0 x12_1).f0) ((rd_T36 l0 x12_1).f1) ((rd_T36 l0 x12_1).f2) ((rd_T36 l0 x12_1).f3) ((rd_T36 l0 x12_1).f4) ((rd_T36 l0 x12_1).f5) ((rd_T36 l0 x12_1).f6) ((rd_T36 l0 x12_1).f7) ((rd_T36 l0 x12_1).f8)) else (none)) else (none)) else (collect_Check.j2 kj5 l0 l0 (l0.length : Int) x12_1 false ((rd_T36 l0 x12_1).f0) ((rd_T36 l0 x12_1).f1) ((rd_T36 l0 x12_1).f2) ((rd_T36 l0 x12_1).f3) ((rd_T36 l0 x12_1).f4) ((rd_T36 l0 x12_1).f5) ((rd_T36 l0 x12_1).f6) ((rd_T36 l0 x12_1).f7) ((rd_T36 l0 x12_1).f8))) = some r := by rw [if_neg (show ¬ (false = true) by decide)] at H; exact H
          clear H
          have H := H1
          clear H1
          have HC26 := Aside0.mk H
          clear H
          go_upto_region 9 with (fail)
          repeat (go_quiet (fail); go_upto_region 9 with (fail))
          go_cut [60] (fun v60 wc => ∃ (kq : Nat) (x60_25 : Bool), v60 = .bool x60_25 ∧ Aside0 (collect_Check.j2 kq l0 l0 (l0.length : Int) x12_1 x60_25 ((rd_T36 l0 x12_1).f0) ((rd_T36 l0 x12_1).f1) ((rd_T36 l0 x12_1).f2) ((rd_T36 l0 x12_1).f3) ((rd_T36 l0 x12_1).f4) ((rd_T36 l0 x12_1).f5) ((rd_T36 l0 x12_1).f6) ((rd_T36 l0 x12_1).f7) ((rd_T36 l0 x12_1).f8) = some r) ∧ Aside0 (kq ≤ kj5) ∧ Aside0 (wc.heap[gb109]? = some (.cells #[.int .i64 ((rd_T36 l0 x12_1).f0), .int .i64 ((rd_T36 l0 x12_1).f1), .int .i64 ((rd_T36 l0 x12_1).f2), .int .i64 ((rd_T36 l0 x12_1).f3), .int .i64 ((rd_T36 l0 x12_1).f4), .int .i64 ((rd_T36 l0 x12_1).f5), .int .i64 ((rd_T36 l0 x12_1).f6), .int .i64 ((rd_T36 l0 x12_1).f7), .string ((rd_T36 l0 x12_1).f8)] 36 (0, 0))) ∧ Aside0 (Below wr.heap.size wr wc))
          case first =>
           have H := HC26.out
           clear HC26
           by_cases c27 : x12_1 > 0
           ·rw [if_pos c27] at H
            have c27b0 : decide (0 < x12_1) = true := decide_eq_true c27
            clear c27
            (first | rw [c27b0] | (simp only [i64_w, i32_w]; rw [c27b0]) | skip)
            obtain ⟨ji28, hji28⟩ : ∃ j_ : Int, (wrap64 (x12_1 - 1)) = j_ := ⟨_, rfl⟩
            replace H : (if 0 ≤ (ji28) then (if (ji28) < (l0.length : Int) then (collect_Check.j2 kj5 l0 l0 (l0.length : Int) x12_1 (decide (((rd_T36 l0 x12_1).f0) ≤ ((rd_T36 l0 (ji28)).f0))) ((rd_T36 l0 x12_1).f0) ((rd_T36 l0 x12_1).f1) ((rd_T36 l0 x12_1).f2) ((rd_T36 l0 x12_1).f3) ((rd_T36 l0 x12_1).f4) ((rd_T36 l0 x12_1).f5) ((rd_T36 l0 x12_1).f6) ((rd_T36 l0 x12_1).f7) ((rd_T36 l0 x12_1).f8)) else (none)) else (none)) = some r := by first | (rw [hji28] at H; exact H) | (simp only [hji28] at H ⊢; exact H)
            have hji28w : (IntKind.i64.wrap (x12_1 - 1)) = ji28 := (i64_w _).trans hji28
            by_cases c29 : 0 ≤ (ji28)
            ·rw [if_pos c29] at H
             have c29b0 : decide (0 ≤ (ji28)) = true := decide_eq_true c29
             clear c29
             by_cases c30 : (ji28) < (l0.length : Int)
             ·rw [if_pos c30] at H
              have c30b0 : decide ((ji28) < (l0.length : Int)) = true := decide_eq_true c30
              clear c30
              have H' := Aside0.mk H
              clear H
              have hcz31 := blk_cell BK109.out
              have hfz31 := blk_frozen BK109.out
              have p114 : 0 ≤ ((ji28) : Int) := of_decide_eq_true (by first | (with_reducible assumption) | assumption)
              have q114 : (ji28) < (l0.length : Int) := of_decide_eq_true (by first | (with_reducible assumption) | assumption)
              obtain ⟨ad114, e114, hx114_0, hx114_1, hx114_2, hx114_3, hx114_4, hx114_5, hx114_6, hx114_7, hx114_8⟩ := at_T36 HR0.out (ji28) p114 q114
              obtain rfl : ad108 = ad114 := (by injection e114)
              replace hx114_0 := (HB.out.cell (World.block_lt_of_cell? wr _ hx114_0)).trans hx114_0
              replace hx114_1 := (HB.out.cell (World.block_lt_of_cell? wr _ hx114_1)).trans hx114_1
              replace hx114_2 := (HB.out.cell (World.block_lt_of_cell? wr _ hx114_2)).trans hx114_2
              replace hx114_3 := (HB.out.cell (World.block_lt_of_cell? wr _ hx114_3)).trans hx114_3
              replace hx114_4 := (HB.out.cell (World.block_lt_of_cell? wr _ hx114_4)).trans hx114_4
              replace hx114_5 := (HB.out.cell (World.block_lt_of_cell? wr _ hx114_5)).trans hx114_5
              replace hx114_6 := (HB.out.cell (World.block_lt_of_cell? wr _ hx114_6)).trans hx114_6
              replace hx114_7 := (HB.out.cell (World.block_lt_of_cell? wr _ hx114_7)).trans hx114_7
              replace hx114_8 := (HB.out.cell (World.block_lt_of_cell? wr _ hx114_8)).trans hx114_8
              replace p114 := eq_true p114
              replace q114 := eq_true q114
              go_wp2
              repeat (go_quiet (fail); try go_wp2)
              go_meet
              case rel => exact ⟨_, (decide (((rd_T36 l0 x12_1).f0) ≤ ((rd_T36 l0 (ji28)).f0))), (by first | rfl | (simp; done) | (simp only [← hji28] <;> (first | rfl | simp)) | (simp [*]; done)), H', ⟨by have := HK1.out; have := HJ5.out; first | omega | exact Nat.le_refl _⟩, ⟨by (with_reducible repeat (first | refine blk_drewN ?_ _ | refine blk_drew ?_ | refine blk_alloc ?_ _)); exact BK109.out⟩, ⟨by repeat (first | (with_reducible first | exact HB.out | apply below_alloc | apply pw_below_drewN | apply below_drew1 | refine below_set ?_ GE109.out) | exact HB.out)⟩⟩
             ·rw [if_neg c30] at H
              exact absurd H (by simp)
            ·rw [if_neg c29] at H
             exact absurd H (by simp)
           ·rw [if_neg c27] at H
            have c27b0 : decide (0 < x12_1) = false := decide_eq_false c27
            clear c27
            (first | rw [c27b0] | (simp only [i64_w, i32_w]; rw [c27b0]) | skip)
            have H' := Aside0.mk H
            clear H
            go_wp2
            repeat (go_quiet (fail); try go_wp2)
            go_meet
            case rel => exact ⟨_, (false), (by first | rfl | (simp; done) | (simp [*]; done)), H', ⟨by have := HK1.out; have := HJ5.out; first | omega | exact Nat.le_refl _⟩, ⟨by (with_reducible repeat (first | refine blk_drewN ?_ _ | refine blk_drew ?_ | refine blk_alloc ?_ _)); exact BK109.out⟩, ⟨by repeat (first | (with_reducible first | exact HB.out | apply below_alloc | apply pw_below_drewN | apply below_drew1 | refine below_set ?_ GE109.out) | exact HB.out)⟩⟩
          case rest =>
           clear HC26
           try clear c1
           try clear p1
           try clear q1
           try clear hx1
           try clear c2
           try clear c2b0
           try clear c2b1
           try clear p2
           try clear c3
           try clear c3b0
           try clear c4
           try clear c4b0
           try clear c5
           try clear c5b0
           try clear p6
           try clear c9
           try clear c9b0
           try clear c10
           try clear p10
           try clear q10
           try clear hx10
           try clear c11
           try clear c11b0
           try clear p11
           try clear q11
           try clear hx11
           try clear c14
           try clear c16
           try clear c18
           try clear c25
           try clear c27
           try clear c27b0
           try clear c29
           try clear c29b0
           try clear c30
           try clear c30b0
           try clear hcz10
           try clear hcz12
           try clear hcz20
           try clear hcz22
           try clear hcz23
           try clear hcz24
           try clear hcz31
           try clear hcz8
           try clear hfz10
           try clear hfz12
           try clear hfz20
           try clear hfz22
           try clear hfz23
           try clear hfz24
           try clear hfz31
           try clear hfz8
           try clear hx108_0
           try clear hx108_1
           try clear hx108_2
           try clear hx108_3
           try clear hx108_4
           try clear hx108_5
           try clear hx108_6
           try clear hx108_7
           try clear hx108_8
           try clear hx114_0
           try clear hx114_1
           try clear hx114_2
           try clear hx114_3
           try clear hx114_4
           try clear hx114_5
           try clear hx114_6
           try clear hx114_7
           try clear hx114_8
           try clear p1
           try clear p10
           try clear p108
           try clear p114
           try clear p2
           try clear q1
           try clear q10
           try clear q108
           try clear q114
           obtain ⟨kq, x60_25, rfl, HA, HJ25, BK109, HB⟩ := hcut
           cases kq with
           | zero => exact absurd HA.out (by simp [collect_Check.j2])
           | succ kj25 =>
            have H := HA.out
            clear HA
            simp only [collect_Check.j2] at H
            by_cases c32 : x60_25 = true
            ·subst c32
             have H1 : (some 10) = some r := by rw [if_pos rfl] at H; exact H
             clear H
             have H := H1
             clear H1
             obtain rfl := Option.some.inj H
             go_wp2
             repeat (go_quiet (fail); try go_wp2)
             go_ret
             exact ⟨by first | rfl | (simp [errW_none, errW_some] <;> rfl) | (simp [*, errW_none, errW_some] <;> rfl), HB0.out.trans ((show Below wr.heap.size wr _ from by repeat (first | (with_reducible first | exact HB.out | apply below_alloc | apply pw_below_drewN | apply below_drew1 | refine below_set ?_ GE109.out) | exact HB.out)).mono HB0.out.size)⟩
            ·replace c32 := Bool.eq_false_iff.mpr c32
             subst c32
             have H1 : ((collect_seen.f l0 x12_1 ((rd_T36 l0 x12_1).f8)).bind fun t115 => (if t115 = true then (some 12) else (collect_Check.l0 kj25 l0 l0 (l0.length : Int) (wrap64 (x12_1 + 1))))) = some r := by rw [if_neg (show ¬ (false = true) by decide)] at H; exact H
             clear H
             have H := H1
             clear H1
             replace H := Option.bind_eq_some_iff.mp H
             obtain ⟨t115, A330, H⟩ := H
             replace H : (if t115 = true then (some 12) else (collect_Check.l0 kj25 l0 l0 (l0.length : Int) (wrap64 (x12_1 + 1)))) = some r := H
             have A33 := Aside0.mk A330
             clear A330
             by_cases c34 : t115 = true
             ·subst c34
              have H1 : (some 12) = some r := by rw [if_pos rfl] at H; exact H
              clear H
              have H := H1
              clear H1
              obtain rfl := Option.some.inj H
              have hcz35 := blk_cell BK109.out
              have hfz35 := blk_frozen BK109.out
              go_wp2_with (first | (at_lookup; (refine wpList_lookup_own_bool _ rfl _ _ 48 rfl 9 4 (Maps.string_keyed Tryd.underlying9) Tryd.underlying48 Tryd.underlying4 (by first | rfl | kernel_rfl) w.heap.size x12_1.toNat D rfl (own_below HOW.out ?hb) _ _ rfl (WideMaps.keyOf_string_mk Tryd.underlying9 (seen_size A33.out)) true ((HSE.out _).trans (seen_lit A33.out)) ?_); (case hb => repeat (first | (with_reducible first | exact HB.out | apply below_alloc | apply pw_below_drewN | apply below_drew1 | refine below_set ?_ GE109.out) | exact HB.out))))
              repeat (go_quiet (first | (at_lookup; (refine wpList_lookup_own_bool _ rfl _ _ 48 rfl 9 4 (Maps.string_keyed Tryd.underlying9) Tryd.underlying48 Tryd.underlying4 (by first | rfl | kernel_rfl) w.heap.size x12_1.toNat D rfl (own_below HOW.out ?hb) _ _ rfl (WideMaps.keyOf_string_mk Tryd.underlying9 (seen_size A33.out)) true ((HSE.out _).trans (seen_lit A33.out)) ?_); (case hb => repeat (first | (with_reducible first | exact HB.out | apply below_alloc | apply pw_below_drewN | apply below_drew1 | refine below_set ?_ GE109.out) | exact HB.out)))); try go_wp2_with (first | (at_lookup; (refine wpList_lookup_own_bool _ rfl _ _ 48 rfl 9 4 (Maps.string_keyed Tryd.underlying9) Tryd.underlying48 Tryd.underlying4 (by first | rfl | kernel_rfl) w.heap.size x12_1.toNat D rfl (own_below HOW.out ?hb) _ _ rfl (WideMaps.keyOf_string_mk Tryd.underlying9 (seen_size A33.out)) true ((HSE.out _).trans (seen_lit A33.out)) ?_); (case hb => repeat (first | (with_reducible first | exact HB.out | apply below_alloc | apply pw_below_drewN | apply below_drew1 | refine below_set ?_ GE109.out) | exact HB.out)))))
              go_ret
              exact ⟨by first | rfl | (simp [errW_none, errW_some] <;> rfl) | (simp [*, errW_none, errW_some] <;> rfl), HB0.out.trans ((show Below wr.heap.size wr _ from by repeat (first | (with_reducible first | exact HB.out | apply below_alloc | apply pw_below_drewN | apply below_drew1 | refine below_set ?_ GE109.out) | exact HB.out)).mono HB0.out.size)⟩
             ·replace c34 := Bool.eq_false_iff.mpr c34
              subst c34
              have H1 : (collect_Check.l0 kj25 l0 l0 (l0.length : Int) (wrap64 (x12_1 + 1))) = some r := by rw [if_neg (show ¬ (false = true) by decide)] at H; exact H
              clear H
              have H := H1
              clear H1
              have H' := Aside0.mk H
              clear H
              have hcz36 := blk_cell BK109.out
              have hfz36 := blk_frozen BK109.out
              go_wp2_with (first | (at_lookup; (refine wpList_lookup_own_bool _ rfl _ _ 48 rfl 9 4 (Maps.string_keyed Tryd.underlying9) Tryd.underlying48 Tryd.underlying4 (by first | rfl | kernel_rfl) w.heap.size x12_1.toNat D rfl (own_below HOW.out ?hb) _ _ rfl (WideMaps.keyOf_string_mk Tryd.underlying9 (seen_size A33.out)) false ((HSE.out _).trans (seen_lit A33.out)) ?_); (case hb => repeat (first | (with_reducible first | exact HB.out | apply below_alloc | apply pw_below_drewN | apply below_drew1 | refine below_set ?_ GE109.out) | exact HB.out))) | (at_mapUpdate; (refine wpList_mapUpdate_own _ rfl _ _ _ 48 rfl 9 4 (Maps.string_keyed Tryd.underlying9) Tryd.underlying48 (plainElem (H := Unit) Tryd.prog 4) w.heap.size x12_1.toNat D rfl (own_below HOW.out ?hb) (by have := HLT.out; have := HL64.out; unfold maxLen; omega) _ _ _ rfl rfl (WideMaps.keyOf_string_mk Tryd.underlying9 (seen_size A33.out)) _ [] (plainElem_bool Tryd.underlying4 true) ?_); (case hb => repeat (first | (with_reducible first | exact HB.out | apply below_alloc | apply pw_below_drewN | apply below_drew1 | refine below_set ?_ GE109.out) | exact HB.out)); intro w1 hown1 hgrow1; have HO1 := Aside0.mk hown1; clear hown1; have HG1 := Aside0.mk hgrow1; clear hgrow1))
              repeat (go_quiet (first | (at_lookup; (refine wpList_lookup_own_bool _ rfl _ _ 48 rfl 9 4 (Maps.string_keyed Tryd.underlying9) Tryd.underlying48 Tryd.underlying4 (by first | rfl | kernel_rfl) w.heap.size x12_1.toNat D rfl (own_below HOW.out ?hb) _ _ rfl (WideMaps.keyOf_string_mk Tryd.underlying9 (seen_size A33.out)) false ((HSE.out _).trans (seen_lit A33.out)) ?_); (case hb => repeat (first | (with_reducible first | exact HB.out | apply below_alloc | apply pw_below_drewN | apply below_drew1 | refine below_set ?_ GE109.out) | exact HB.out))) | (at_mapUpdate; (refine wpList_mapUpdate_own _ rfl _ _ _ 48 rfl 9 4 (Maps.string_keyed Tryd.underlying9) Tryd.underlying48 (plainElem (H := Unit) Tryd.prog 4) w.heap.size x12_1.toNat D rfl (own_below HOW.out ?hb) (by have := HLT.out; have := HL64.out; unfold maxLen; omega) _ _ _ rfl rfl (WideMaps.keyOf_string_mk Tryd.underlying9 (seen_size A33.out)) _ [] (plainElem_bool Tryd.underlying4 true) ?_); (case hb => repeat (first | (with_reducible first | exact HB.out | apply below_alloc | apply pw_below_drewN | apply below_drew1 | refine below_set ?_ GE109.out) | exact HB.out)); intro w1 hown1 hgrow1; have HO1 := Aside0.mk hown1; clear hown1; have HG1 := Aside0.mk hgrow1; clear hgrow1)); try go_wp2_with (first | (at_lookup; (refine wpList_lookup_own_bool _ rfl _ _ 48 rfl 9 4 (Maps.string_keyed Tryd.underlying9) Tryd.underlying48 Tryd.underlying4 (by first | rfl | kernel_rfl) w.heap.size x12_1.toNat D rfl (own_below HOW.out ?hb) _ _ rfl (WideMaps.keyOf_string_mk Tryd.underlying9 (seen_size A33.out)) false ((HSE.out _).trans (seen_lit A33.out)) ?_); (case hb => repeat (first | (with_reducible first | exact HB.out | apply below_alloc | apply pw_below_drewN | apply below_drew1 | refine below_set ?_ GE109.out) | exact HB.out))) | (at_mapUpdate; (refine wpList_mapUpdate_own _ rfl _ _ _ 48 rfl 9 4 (Maps.string_keyed Tryd.underlying9) Tryd.underlying48 (plainElem (H := Unit) Tryd.prog 4) w.heap.size x12_1.toNat D rfl (own_below HOW.out ?hb) (by have := HLT.out; have := HL64.out; unfold maxLen; omega) _ _ _ rfl rfl (WideMaps.keyOf_string_mk Tryd.underlying9 (seen_size A33.out)) _ [] (plainElem_bool Tryd.underlying4 true) ?_); (case hb => repeat (first | (with_reducible first | exact HB.out | apply below_alloc | apply pw_below_drewN | apply below_drew1 | refine below_set ?_ GE109.out) | exact HB.out)); intro w1 hown1 hgrow1; have HO1 := Aside0.mk hown1; clear hown1; have HG1 := Aside0.mk hgrow1; clear hgrow1)))
              go_roundg kj25
              case measure => have := HK1.out; have := HJ5.out; have := HJ25.out; omega
              case rel => exact ⟨(wrap64 (x12_1 + 1)), (by first | rfl | (simp; done) | (simp [*]; done)), H', ⟨by have := HK1.out; have := HJ5.out; have := HJ25.out; omega⟩, ⟨Below.grown (HB0.out.trans ((show Below wr.heap.size wr _ from by repeat (first | (with_reducible first | exact HB.out | apply below_alloc | apply pw_below_drewN | apply below_drew1 | refine below_set ?_ GE109.out) | exact HB.out)).mono HB0.out.size)) HG1.out (Below.size (B := w.heap.size) (HB0.out.trans ((show Below wr.heap.size wr _ from by repeat (first | (with_reducible first | exact HB.out | apply below_alloc | apply pw_below_drewN | apply below_drew1 | refine below_set ?_ GE109.out) | exact HB.out)).mono HB0.out.size))) (fun j hj => by cases hj; exact Nat.le_refl _)⟩, ⟨SeenM.next HI0.out HOW.out HSE.out HLT.out HL64.out HO1.out⟩⟩
      ·rw [if_neg c5] at H
       exact absurd H (by simp)
     ·rw [if_neg c4] at H
      exact absurd H (by simp)
    ·rw [if_neg c3] at H
     have c3b0 : decide (x12_1 < (l0.length : Int)) = false := decide_eq_false c3
     clear c3
     obtain rfl := Option.some.inj H
     go_wp2
     repeat (go_quiet (fail); try go_wp2)
     go_ret
     exact ⟨by first | rfl | (simp [errW_none, errW_some] <;> rfl) | (simp [*, errW_none, errW_some] <;> rfl), HB0.out.trans ((show Below wr.heap.size wr _ from by repeat (first | (with_reducible first | exact HB.out | apply below_alloc | apply pw_below_drewN | apply below_drew1) | exact HB.out)).mono HB0.out.size)⟩



end Go.Proofs.YtfdjgdjmllkdcaaDoor.X
