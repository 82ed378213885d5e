-- Written by program (wip/tools/rows.py) for this seat; not trusted: Lean checks it.
import Derived.Test.YtbapjcafcmnhoaaDoorX0
import Derived.Test.YtbapjcafcmnhoaaDoorGood
import Derived.ChangeArms
import Derived.Deep.Slices
import Derived.WideShapes
namespace Go.Proofs.YtbapjcafcmnhoaaDoor.Open
open Go.RowKit Go.Proofs.YtbapjcafcmnhoaaDoorW.PrintWords Go.Proofs.YtbapjcafcmnhoaaDoorW.PrintLast Go.Proofs.YtbapjcafcmnhoaaDoorW.PrintMore
open Go.ChangeShapes Go.WideShapes Go.Deep
set_option linter.unusedVariables false

/-- What reads as a value of type t has a Lean value of the kind k, and it is good. -/
def Opens (P : Program) (t : TypeId) {α : Type} (k : Kd α) (good : α → Prop) : Prop :=
  ∀ (H : Type) (enc : TypeId × Value → H) (w : World) (base : Nat) (spare : Nat → Bool) (held : Bool) (fuel : Nat) (cs : List Value) (x : DataW H × List MemPlace),
    DataW.trod enc P w base spare held fuel t cs = some x → ∃ a : α, k.K w a cs ∧ good a
/-- The same of a struct's fields from number j on, which begin at cell off; n: the struct's cells. -/
def Fields (P : Program) (fs : Array Field) (n j off : Nat) {α : Type} (k : Kd α) (good : α → Prop) : Prop :=
  ∀ (H : Type) (enc : TypeId × Value → H) (w : World) (base : Nat) (spare : Nat → Bool) (held : Bool) (fuel : Nat) (cs : List Value), cs.length = n →
    (∀ (i : Nat) (f : Field), fs[i]? = some f → ∃ y, DataW.trod enc P w base spare held fuel f.type ((cs.drop f.offset).take (P.cellsOf f.type)) = some y) → ∃ a : α, k.K w a (cs.drop off) ∧ good a

theorem Opens.int {P : Program} {t : TypeId} {k : IntKind} (ht : P.underlying t = some (.int k)) : Opens P t (Kd.int k) (fun a => (Lit.int k a).wf = true) := by
  intro H enc w base spare held fuel cs x h
  obtain ⟨n, rfl, _, hw⟩ := DataW.trod_int ht h
  exact ⟨n, rfl, hw⟩
theorem Opens.bool {P : Program} {t : TypeId} (ht : P.underlying t = some .bool) : Opens P t Kd.bool (fun _ => True) := by
  intro H enc w base spare held fuel cs x h
  obtain ⟨n, rfl, _⟩ := DataW.trod_bool ht h
  exact ⟨n, rfl, trivial⟩
theorem Opens.string {P : Program} {t : TypeId} (ht : P.underlying t = some .string) : Opens P t Kd.string (fun s => s.size ≤ 9223372036854775807) := by
  intro H enc w base spare held fuel cs x h
  obtain ⟨s, rfl, _, hs⟩ := DataW.trod_string ht h
  exact ⟨s, rfl, by unfold maxLen at hs; omega⟩
theorem Opens.iso {P : Program} {t : TypeId} {α β : Type} {k : Kd α} {good : α → Prop} (h : Opens P t k good) (f : β → α) (g : α → β) (hfg : ∀ a, f (g a) = a) : Opens P t (Kd.iso k f) (fun b => good (f b)) := by
  intro H enc w base spare held fuel cs x hx
  obtain ⟨a, hK, hg⟩ := h H enc w base spare held fuel cs x hx
  refine ⟨g a, ?_, ?_⟩
  · show k.K w (f (g a)) cs
    rw [hfg]; exact hK
  · show good (f (g a))
    rw [hfg]; exact hg
theorem Fields.last {P : Program} {fs : Array Field} {n j off : Nat} {α : Type} {k : Kd α} {good : α → Prop} {f : Field} (hf : fs[j]? = some f) (ho : f.offset = off) (hc : P.cellsOf f.type = k.sz) (hn : off + k.sz = n) (h : Opens P f.type k good) : Fields P fs n j off k good := by
  intro H enc w base spare held fuel cs hl hr
  obtain ⟨y, hy⟩ := hr j f hf
  rw [ho, hc, List.take_of_length_le (by rw [List.length_drop]; omega)] at hy
  exact h H enc w base spare held fuel _ y hy
theorem Fields.cons {P : Program} {fs : Array Field} {n j off : Nat} {α β : Type} {k : Kd α} {good : α → Prop} {k2 : Kd β} {good2 : β → Prop} {f : Field} (hf : fs[j]? = some f) (ho : f.offset = off) (hc : P.cellsOf f.type = k.sz) (h : Opens P f.type k good)
    (h2 : Fields P fs n (j + 1) (off + k.sz) k2 good2) : Fields P fs n j off (Kd.pair k k2) (fun p => good p.1 ∧ good2 p.2) := by
  intro H enc w base spare held fuel cs hl hr
  obtain ⟨y, hy⟩ := hr j f hf
  rw [ho, hc] at hy
  obtain ⟨a, ha, hga⟩ := h H enc w base spare held fuel _ y hy
  obtain ⟨b, hb, hgb⟩ := h2 H enc w base spare held fuel cs hl hr
  refine ⟨(a, b), ⟨(cs.drop off).take k.sz, (cs.drop off).drop k.sz, (List.take_append_drop _ _).symm, ha, ?_⟩, hga, hgb⟩
  rw [List.drop_drop]
  exact hb
theorem Opens.struct {P : Program} {t : TypeId} {fs : Array Field} {n : Nat} {α β : Type} {k : Kd α} {good : α → Prop} (ht : P.underlying t = some (.struct fs)) (hn : P.cellsOf t = n) (h : Fields P fs n 0 0 k good) (f : β → α) (g : α → β) (hfg : ∀ a, f (g a) = a) :
    Opens P t (Kd.iso k f) (fun b => good (f b)) := by
  refine Opens.iso (k := k) (good := good) ?_ f g hfg
  intro H enc w base spare held fuel cs x hx
  obtain ⟨xs, m, _, _, hl, hlen, hf⟩ := DataW.trod_struct ht hx
  have := h H enc w base spare held m cs (by omega) (fun i f hi => by
    have hlt : i < fs.size := (Array.getElem?_eq_some_iff.1 hi).1
    exact ⟨xs[i]'(by omega), by rw [hf i f hi]; exact List.getElem?_eq_getElem _⟩)
  simpa using this
theorem Opens.slice {P : Program} {t e : TypeId} {α : Type} {k : Kd α} {good : α → Prop} (ht : P.underlying t = some (.slice e)) (hc : P.cellsOf e = k.sz) (h : Opens P e k good) : Opens P t (Kd.slice e k) (fun l => l.length ≤ 9223372036854775807 ∧ ∀ x ∈ l, good x) := by
  intro H enc w base spare held fuel cs x hx
  rcases open_slice ht hx with ⟨rfl, _⟩ | ⟨a, len, cap, m, n, D, Pl, rfl, hb, hl, hm, hmm, _, hi⟩
  · exact ⟨[], ⟨none, 0, rfl, Nat.le_refl _, rfl, by simp, fun hn => by simp at hn⟩, by simp, fun x hx => by cases hx⟩
  · have hlm : len ≤ m := by rw [hmm]; split <;> omega
    have hch : ∀ i, i < len → ∃ (p : α × List Value), k.K w p.1 p.2 ∧ good p.1 ∧ w.cells? base (a.add (i * P.cellsOf e)) (P.cellsOf e) = some p.2 := by
      intro i hlt
      obtain ⟨cs', h1, h2⟩ := hi i (by omega)
      obtain ⟨p, hp, hg⟩ := h H enc w base spare held n cs' _ h2
      exact ⟨(p, cs'), hp, hg, h1⟩
    have hch2 : ∃ f : Fin len → α × List Value, ∀ i : Fin len, k.K w (f i).1 (f i).2 ∧ good (f i).1 ∧ w.cells? base (a.add (i.1 * P.cellsOf e)) (P.cellsOf e) = some (f i).2 :=
      ⟨fun i => Classical.choose (hch i.1 i.2), fun i => Classical.choose_spec (hch i.1 i.2)⟩
    obtain ⟨f, hf⟩ := hch2
    have hlen : (List.ofFn (fun i => (f i).1)).length = len := List.length_ofFn
    unfold maxLen at hm
    refine ⟨List.ofFn (fun i => (f i).1), ⟨some a, cap, by rw [hlen], by rw [hlen]; exact hl, rfl, by rw [hlen]; omega, fun _ => ⟨a, rfl, fun j p hj => ?_⟩⟩, by rw [hlen]; omega, fun x hx => ?_⟩
    · obtain ⟨hj1, hj2⟩ := List.getElem?_eq_some_iff.1 hj
      rw [hlen] at hj1
      rw [List.getElem_ofFn] at hj2
      subst hj2
      obtain ⟨hK, _, hcell⟩ := hf ⟨j, hj1⟩
      obtain ⟨_, hcl, hat⟩ := World.cells?_some hcell
      refine ⟨_, k.K_len hK, hK, fun i u hu => ?_⟩
      have hil : i < P.cellsOf e := by
        have := (List.getElem?_eq_some_iff.1 hu).1
        omega
      have h3 := hat i hil
      rw [Go.Deep.add_add, hc] at h3
      rw [h3]; exact hu
    · obtain ⟨i, rfl⟩ := (List.mem_ofFn).1 hx
      exact (hf i).2.1
open Go.Proofs.YtbapjcafcmnhoaaDoor.X
set_option maxRecDepth 100000 in
theorem op23 : Opens Tryd.prog 23 k23 G23 := Opens.struct Tryd.underlying23 (n := 12) (by kernel_rfl) (Fields.cons (f := _) rfl rfl (by kernel_rfl) (Opens.int Tryd.underlying3) (Fields.cons (f := _) rfl rfl (by kernel_rfl) (Opens.int Tryd.underlying3) (Fields.cons (f := _) rfl rfl (by kernel_rfl) (Opens.int Tryd.underlying3) (Fields.cons (f := _) rfl rfl (by kernel_rfl) (Opens.int Tryd.underlying3) (Fields.cons (f := _) rfl rfl (by kernel_rfl) (Opens.int Tryd.underlying3) (Fields.cons (f := _) rfl rfl (by kernel_rfl) (Opens.int Tryd.underlying3) (Fields.cons (f := _) rfl rfl (by kernel_rfl) (Opens.int Tryd.underlying3) (Fields.cons (f := _) rfl rfl (by kernel_rfl) (Opens.int Tryd.underlying3) (Fields.cons (f := _) rfl rfl (by kernel_rfl) (Opens.int Tryd.underlying3) (Fields.cons (f := _) rfl rfl (by kernel_rfl) (Opens.int Tryd.underlying3) (Fields.cons (f := _) rfl rfl (by kernel_rfl) (Opens.string Tryd.underlying9) (Fields.last (f := _) rfl rfl (by kernel_rfl) (by kernel_rfl) (Opens.string Tryd.underlying9))))))))))))) (fun x : S23 => (x.f0, x.f1, x.f2, x.f3, x.f4, x.f5, x.f6, x.f7, x.f8, x.f9, x.f10, x.f11)) (fun p_ => ⟨p_.1, p_.2.1, p_.2.2.1, p_.2.2.2.1, p_.2.2.2.2.1, p_.2.2.2.2.2.1, p_.2.2.2.2.2.2.1, p_.2.2.2.2.2.2.2.1, p_.2.2.2.2.2.2.2.2.1, p_.2.2.2.2.2.2.2.2.2.1, p_.2.2.2.2.2.2.2.2.2.2.1, p_.2.2.2.2.2.2.2.2.2.2.2⟩) (fun _ => rfl)
set_option maxRecDepth 100000 in
theorem op43 : Opens Tryd.prog 43 k43 G43 := Opens.struct Tryd.underlying43 (n := 4) (by kernel_rfl) (Fields.cons (f := _) rfl rfl (by kernel_rfl) (Opens.int Tryd.underlying3) (Fields.cons (f := _) rfl rfl (by kernel_rfl) (Opens.int Tryd.underlying3) (Fields.cons (f := _) rfl rfl (by kernel_rfl) (Opens.int Tryd.underlying3) (Fields.last (f := _) rfl rfl (by kernel_rfl) (by kernel_rfl) (Opens.int Tryd.underlying3))))) (fun x : S43 => (x.f0, x.f1, x.f2, x.f3)) (fun p_ => ⟨p_.1, p_.2.1, p_.2.2.1, p_.2.2.2⟩) (fun _ => rfl)
theorem op24 : Opens Tryd.prog 24 (Kd.slice 43 k43) GL43 := Opens.slice Tryd.underlying24 (by kernel_rfl) op43
set_option maxRecDepth 100000 in
theorem op59 : Opens Tryd.prog 59 k59 G59 := Opens.struct Tryd.underlying59 (n := 14) (by kernel_rfl) (Fields.cons (f := _) rfl rfl (by kernel_rfl) (Opens.int Tryd.underlying3) (Fields.cons (f := _) rfl rfl (by kernel_rfl) (Opens.int Tryd.underlying3) (Fields.last (f := _) rfl rfl (by kernel_rfl) (by kernel_rfl) op23))) (fun x : S59 => (x.f0, x.f1, x.f2)) (fun p_ => ⟨p_.1, p_.2.1, p_.2.2⟩) (fun _ => rfl)
theorem op25 : Opens Tryd.prog 25 (Kd.slice 59 k59) GL59 := Opens.slice Tryd.underlying25 (by kernel_rfl) op59
set_option maxRecDepth 100000 in
theorem op27 : Opens Tryd.prog 27 k27 G27 := Opens.struct Tryd.underlying27 (n := 25) (by kernel_rfl) (Fields.cons (f := _) rfl rfl (by kernel_rfl) (Opens.int Tryd.underlying3) (Fields.cons (f := _) rfl rfl (by kernel_rfl) (Opens.int Tryd.underlying3) (Fields.cons (f := _) rfl rfl (by kernel_rfl) (Opens.int Tryd.underlying3) (Fields.cons (f := _) rfl rfl (by kernel_rfl) (Opens.int Tryd.underlying3) (Fields.cons (f := _) rfl rfl (by kernel_rfl) (Opens.int Tryd.underlying3) (Fields.cons (f := _) rfl rfl (by kernel_rfl) (Opens.int Tryd.underlying3) (Fields.cons (f := _) rfl rfl (by kernel_rfl) (Opens.int Tryd.underlying3) (Fields.cons (f := _) rfl rfl (by kernel_rfl) (Opens.int Tryd.underlying3) (Fields.cons (f := _) rfl rfl (by kernel_rfl) (Opens.int Tryd.underlying3) (Fields.cons (f := _) rfl rfl (by kernel_rfl) (Opens.int Tryd.underlying3) (Fields.cons (f := _) rfl rfl (by kernel_rfl) (Opens.int Tryd.underlying3) (Fields.cons (f := _) rfl rfl (by kernel_rfl) op23 (Fields.cons (f := _) rfl rfl (by kernel_rfl) op24 (Fields.last (f := _) rfl rfl (by kernel_rfl) (by kernel_rfl) op25)))))))))))))) (fun x : S27 => (x.f0, x.f1, x.f2, x.f3, x.f4, x.f5, x.f6, x.f7, x.f8, x.f9, x.f10, x.f11, x.f12, x.f13)) (fun p_ => ⟨p_.1, p_.2.1, p_.2.2.1, p_.2.2.2.1, p_.2.2.2.2.1, p_.2.2.2.2.2.1, p_.2.2.2.2.2.2.1, p_.2.2.2.2.2.2.2.1, p_.2.2.2.2.2.2.2.2.1, p_.2.2.2.2.2.2.2.2.2.1, p_.2.2.2.2.2.2.2.2.2.2.1, p_.2.2.2.2.2.2.2.2.2.2.2.1, p_.2.2.2.2.2.2.2.2.2.2.2.2.1, p_.2.2.2.2.2.2.2.2.2.2.2.2.2⟩) (fun _ => rfl)
theorem op38 : Opens Tryd.prog 38 (Kd.slice 27 k27) GL27 := Opens.slice Tryd.underlying38 (by kernel_rfl) op27
end Go.Proofs.YtbapjcafcmnhoaaDoor.Open
