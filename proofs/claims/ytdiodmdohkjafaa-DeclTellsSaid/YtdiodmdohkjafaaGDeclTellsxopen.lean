/- Written for this claim by gp.py, a program of this session's, over the kit's print. Lean checks it. -/
import Derived.Test.YtdiodmdohkjafaaGDeclTellsx0
import Derived.Test.YtdiodmdohkjafaaGDeclTellshgdecltells
import Derived.Deep.Slices
import Derived.ChangeArms
import Derived.DataReads
import Derived.OpenShut
namespace Go.Proofs.Ytdiodmdohkjafaa.GDeclTells
open Go.RowKit Go.Proofs.YtdiodmdohkjafaaW.PrintWords Go.Proofs.YtdiodmdohkjafaaW.PrintLast Go.Proofs.YtdiodmdohkjafaaW.PrintMore
attribute [local go_sem] max2_int min2_int max_two min_two max_three min_three max_four min_four   -- for this text's walks alone
set_option linter.unusedVariables false
set_option linter.unusedSimpArgs false

/-! What an argument reads as, told by its kind. -/
def Opens {α : Type} (P : Program) (t : Nat) (d : Kd α) (good : α → Prop) : Prop :=
  P.cellsOf t = d.sz ∧ ∀ (H : Type) (enc : TypeId × Value → H) (w : World) (base : Nat) (spare : Nat → Bool) (held : Bool) (fuel : Nat) (cs : List Value) (x : DataW H × List MemPlace),
    DataW.trod enc P w base spare held fuel t cs = some x → ∃ a : α, d.K w a cs ∧ good a
/-- Fields in line, from a cell on. -/
def OpensFs {α : Type} (P : Program) (fs : List Field) (o : Nat) (d : Kd α) (good : α → Prop) : Prop :=
  ∀ (H : Type) (enc : TypeId × Value → H) (w : World) (base : Nat) (spare : Nat → Bool) (held : Bool) (m : Nat) (cs : List Value),
    (∀ f ∈ fs, ∃ y, DataW.trod enc P w base spare held m f.type ((cs.drop f.offset).take (P.cellsOf f.type)) = some y) → ∃ a : α, d.K w a ((cs.drop o).take d.sz) ∧ good a
namespace Opens
variable {α β : Type} {P : Program} {t e : Nat}
theorem int {k : IntKind} (hu : P.underlying t = some (.int k)) (hc : P.cellsOf t = 1) : Opens P t (Kd.int k) (fun n => (Lit.int k n).wf = true) := by
  refine ⟨hc, fun H enc w base spare held fuel cs x h => ?_⟩
  cases fuel with
  | zero => simp [DataW.trod] at h
  | succ n =>
    unfold DataW.trod at h
    rw [hu] at h
    split at h <;> simp_all
    obtain ⟨⟨rfl, hw⟩, _⟩ := h
    exact ⟨_, rfl, hw⟩
theorem bool (hu : P.underlying t = some .bool) (hc : P.cellsOf t = 1) : Opens P t Kd.bool (fun _ => True) := by
  refine ⟨hc, fun H enc w base spare held fuel cs x h => ?_⟩
  cases fuel with
  | zero => simp [DataW.trod] at h
  | succ n =>
    unfold DataW.trod at h
    rw [hu] at h
    split at h <;> simp_all
    rename_i b
    cases b
    · exact .inl rfl
    · exact .inr rfl
theorem str (hu : P.underlying t = some .string) (hc : P.cellsOf t = 1) : Opens P t Kd.string (fun s => s.size ≤ maxLen) := by
  refine ⟨hc, fun H enc w base spare held fuel cs x h => ?_⟩
  cases fuel with
  | zero => simp [DataW.trod] at h
  | succ n =>
    unfold DataW.trod at h
    rw [hu] at h
    split at h <;> simp_all
    exact ⟨_, rfl, h.1⟩
theorem slice {d : Kd α} {good : α → Prop} (hu : P.underlying t = some (.slice e)) (hc : P.cellsOf t = 1) (h : Opens P e d good) : Opens P t (Kd.slice e d) (fun l => l.length ≤ maxLen ∧ ∀ x ∈ l, good x) := by
  obtain ⟨hsz, h⟩ := h
  refine ⟨hc, fun H enc w base spare held fuel cs x hx => ?_⟩
  rcases Deep.open_slice hu hx with ⟨rfl, _⟩ | ⟨a, len, cap, m, n, D, Pl, rfl, hb, hl, hm, hmm, hxx, hel⟩
  · exact ⟨[], ⟨none, 0, rfl, Nat.le_refl _, rfl, by simp, fun hp => by simp at hp⟩, by simp, by simp⟩
  · have hlm : len ≤ m := by rw [hmm]; split <;> omega
    have ha : ∀ i, i < len → ∃ y : α, good y ∧ ∃ c : List Value, c.length = d.sz ∧ d.K w y c ∧ ∀ j u, c[j]? = some u → w.cell? (a.add (i * d.sz + j)) = some u := by
      intro i hi
      obtain ⟨cs', h1, h2⟩ := hel i (by omega)
      obtain ⟨y, hy, hg⟩ := h H enc w base spare held n cs' _ h2
      obtain ⟨_, hlen, hcell⟩ := World.cells?_some h1
      refine ⟨y, hg, cs', by rw [hlen, hsz], hy, fun j u hu2 => ?_⟩
      have hj := (List.getElem?_eq_some_iff.1 hu2).1
      have := hcell j (by omega)
      rw [Deep.add_add, hsz] at this
      rw [this, hu2]
    have hex : ∃ l : List α, l.length = len ∧ ∀ i y, l[i]? = some y → good y ∧ ∃ c : List Value, c.length = d.sz ∧ d.K w y c ∧ ∀ j u, c[j]? = some u → w.cell? (a.add (i * d.sz + j)) = some u := by
      clear hl hel hlm hx hmm hxx
      induction len with
      | zero => exact ⟨[], rfl, fun i y hy => by simp at hy⟩
      | succ len ih =>
        obtain ⟨l, hl, hp⟩ := ih (fun i hi => ha i (by omega))
        obtain ⟨y, hy⟩ := ha len (by omega)
        refine ⟨l ++ [y], by simp [hl], fun i z hz => ?_⟩
        rcases Nat.lt_or_ge i l.length with hi | hi
        · rw [List.getElem?_append_left hi] at hz
          exact hp i z hz
        · rw [List.getElem?_append_right hi] at hz
          have hi0 : i - l.length = 0 := by have := (List.getElem?_eq_some_iff.1 hz).1; simp at this; omega
          rw [hi0] at hz
          simp only [List.getElem?_cons_zero, Option.some.injEq] at hz
          subst hz
          have : i = len := by omega
          subst this
          exact hy
    obtain ⟨l, hll, hp⟩ := hex
    subst hll
    refine ⟨l, ⟨some a, cap, rfl, hl, rfl, by simp only [maxLen] at hm; omega, fun _ => ⟨a, rfl, fun j p hj => ?_⟩⟩, by omega, fun y hy => ?_⟩
    · obtain ⟨c, h1, h2, h3⟩ := (hp j p hj).2
      exact ⟨c, h1, h2, h3⟩
    · obtain ⟨i, hi, rfl⟩ := List.getElem_of_mem hy
      exact (hp i _ (List.getElem?_eq_getElem hi)).1
theorem one {d : Kd α} {good : α → Prop} {f : Field} {o : Nat} (ho : f.offset = o) (h : Opens P f.type d good) : OpensFs P [f] o d good := by
  intro H enc w base spare held m cs hf
  obtain ⟨y, hy⟩ := hf f (by simp)
  rw [ho, h.1] at hy
  exact h.2 H enc w base spare held m _ y hy
theorem more {d : Kd α} {d' : Kd β} {good : α → Prop} {good' : β → Prop} {f : Field} {fs : List Field} {o : Nat} (ho : f.offset = o) (h : Opens P f.type d good) (h' : OpensFs P fs (o + d.sz) d' good') : OpensFs P (f :: fs) o (Kd.pair d d') (fun a => good a.1 ∧ good' a.2) := by
  intro H enc w base spare held m cs hf
  obtain ⟨y, hy⟩ := hf f (by simp)
  rw [ho, h.1] at hy
  obtain ⟨a, ha, hg⟩ := h.2 H enc w base spare held m _ y hy
  obtain ⟨b, hb, hg'⟩ := h' H enc w base spare held m cs (fun g hg => hf g (by simp [hg]))
  refine ⟨(a, b), ⟨_, _, ?_, ha, hb⟩, hg, hg'⟩
  show (cs.drop o).take (d.sz + d'.sz) = _
  rw [List.take_add, List.drop_drop]
theorem struct {d : Kd α} {good : α → Prop} {fs : Array Field} (hu : P.underlying t = some (.struct fs)) (hc : P.cellsOf t = d.sz) (h : OpensFs P fs.toList 0 d good) : Opens P t d good := by
  refine ⟨hc, fun H enc w base spare held fuel cs x hx => ?_⟩
  obtain ⟨xs, n, rfl, _, hl, hlen, hf⟩ := DataW.trod_struct hu hx
  obtain ⟨a, ha, hg⟩ := h H enc w base spare held n cs (fun f hfm => by
    obtain ⟨i, hi, rfl⟩ := List.getElem_of_mem hfm
    have hi' : i < fs.size := by simpa using hi
    have := hf i fs[i] (by simp [hi'])
    rw [List.getElem?_eq_getElem (by omega)] at this
    exact ⟨_, by simpa using this⟩)
  rw [List.drop_zero, ← hc, ← hl, List.take_length] at ha
  exact ⟨a, ha, hg⟩
theorem array {d : Kd α} {good : α → Prop} {n : Nat} {fs : List Field} (hu : P.underlying t = some (.array n e)) (hc : P.cellsOf t = d.sz) {z : Nat} (hz : P.cellsOf e = z) (hfs : ∀ f ∈ fs, f.type = e ∧ ∃ i, i < n ∧ f.offset = i * z) (h : OpensFs P fs 0 d good) : Opens P t d good := by
  refine ⟨hc, fun H enc w base spare held fuel cs x hx => ?_⟩
  obtain ⟨xs, m, rfl, _, hl, hn, he⟩ := DataW.trod_array hu hx
  obtain ⟨a, ha, hg⟩ := h H enc w base spare held m cs (fun f hfm => by
    obtain ⟨ht, i, hi, ho⟩ := hfs f hfm
    have := he i hi
    rw [List.getElem?_eq_getElem (by omega)] at this
    rw [ht, ho, ← hz]
    exact ⟨_, this⟩)
  rw [List.drop_zero, ← hc, ← hl, List.take_length] at ha
  exact ⟨a, ha, hg⟩
theorem okWide_array {n : Nat} {w : World} {r : Reach} {base : Nat} {v : Value} (ht : P.underlying t = some (.array n e)) (h : Value.okWide P w r base t v) : ∃ cs, v = .agg cs ∧ cs.size = P.cellsOf t := by
  simp only [Value.okWide, ht] at h
  obtain ⟨cs, h1, h2, _⟩ := h
  exact ⟨cs, h1, h2⟩
theorem iso {d : Kd α} {good : α → Prop} (h : Opens P t d good) (f : β → α) (g : α → β) (hg : ∀ a, f (g a) = a) : Opens P t (Kd.iso d f) (fun x => good (f x)) := by
  refine ⟨h.1, fun H enc w base spare held fuel cs x hx => ?_⟩
  obtain ⟨a, ha, hgd⟩ := h.2 H enc w base spare held fuel cs x hx
  exact ⟨g a, by show d.K w (f (g a)) cs; rw [hg]; exact ha, by have := hgd; rw [← hg a] at this; exact this⟩
end Opens

def gd79 (x : S79) : Prop := ((Lit.int .i64 x.f0).wf = true) ∧ ((Lit.int .i64 x.f1).wf = true)
set_option maxRecDepth 100000 in
theorem opens79 : Opens Try.prog 79 k79 gd79 :=
  Opens.iso (d := (Kd.pair (Kd.int .i64) (Kd.int .i64))) (good := (fun (a : (Int) × (Int)) => ((Lit.int .i64 a.1).wf = true) ∧ ((Lit.int .i64 a.2).wf = true))) (Opens.struct Try.underlying79 (by kernel_rfl) (Opens.more rfl (Opens.int Try.underlying3 (by kernel_rfl)) (Opens.one rfl (Opens.int Try.underlying3 (by kernel_rfl))))) (fun x : S79 => (x.f0, x.f1)) (fun (a : (Int) × (Int)) => (⟨a.1, a.2⟩ : S79)) (fun _ => rfl)
/-- THE ONE PURE STATEMENT of easementlaw31_DeclTells. -/
def easementlaw31_DeclTells.Pure : Prop := ∀ (a0 : Int) (l1 : List (S79)) (l2 : List (S79)) (a3 : Int) (a4 : Int), ((Lit.int .i64 a0).wf = true) → (l1.length ≤ maxLen ∧ ∀ x ∈ l1, gd79 x) → (l2.length ≤ maxLen ∧ ∀ x ∈ l2, gd79 x) → ((Lit.int .i64 a3).wf = true) → ((Lit.int .i64 a4).wf = true) → easementlaw31_DeclTells.f a0 l1 l2 a3 a4 = some true
end Go.Proofs.Ytdiodmdohkjafaa.GDeclTells
