/- Written for this claim by gp.py, a program of this session's, over the kit's print. Lean checks it. -/
import Derived.Test.YtdiodmdohkjafaaGDeclTellsx0
namespace Go.Proofs.Ytdiodmdohkjafaa.GDeclTells
open Go.RowKit Go.Proofs.YtdiodmdohkjafaaW.PrintWords Go.Proofs.YtdiodmdohkjafaaW.PrintLast Go.Proofs.YtdiodmdohkjafaaW.PrintMore
attribute [local go_sem] max2_int min2_int max_two min_two max_three min_three max_four min_four   -- for this text's walks alone
set_option linter.unusedVariables false
set_option linter.unusedSimpArgs false

/-- Blocks of the call's own: their places, cells and types; all else below is as it was. -/
structure Bks (w0 W : World) (l : List (Nat × Array Value × Nat)) : Prop where
  at_ : ∀ (i g : Nat) (cs : Array Value) (t : Nat), l[i]? = some (g, cs, t) → W.heap[g]? = some (.cells cs t (0, 0)) ∧ w0.heap.size ≤ g
  ne : ∀ (i j : Nat) (p q : Nat × Array Value × Nat), l[i]? = some p → l[j]? = some q → i ≠ j → p.1 ≠ q.1
  below : Below w0.heap.size w0 W
namespace Bks
variable {w0 W W2 : World} {l : List (Nat × Array Value × Nat)} {g t : Nat} {cs : Array Value}
theorem start (h : Below w0.heap.size w0 W) : Bks w0 W [] := ⟨fun i g cs t h => by simp at h, fun i j p q h => by simp at h, h⟩
theorem step (h : Bks w0 W l) (hb : Below W.heap.size W W2) : Bks w0 W2 l := ⟨fun i g cs t hl => ⟨blk_below (h.at_ i g cs t hl).1 hb, (h.at_ i g cs t hl).2⟩, h.ne, below_step h.below hb⟩
theorem drewN (h : Bks w0 W l) (n : Nat) : Bks w0 (W.drewN n) l := ⟨fun i g cs t hl => h.at_ i g cs t hl, h.ne, pw_below_drewN h.below n⟩
theorem drew (h : Bks w0 W l) : Bks w0 W.drew l := ⟨fun i g cs t hl => h.at_ i g cs t hl, h.ne, below_drew1 h.below⟩
theorem lt (h : Bks w0 W l) {i : Nat} {p : Nat × Array Value × Nat} (hl : l[i]? = some p) : p.1 < W.heap.size := blk_lt (h.at_ i p.1 p.2.1 p.2.2 hl).1
theorem new (h : Bks w0 W l) (hg : g = W.heap.size) (hx : W2.heap[g]? = some (.cells cs t (0, 0))) (hb : Below W.heap.size W W2) : Bks w0 W2 (l ++ [(g, cs, t)]) := by
  have h2 := h.step hb
  refine ⟨fun i g' cs' t' hl => ?_, fun i j p q hp hq hij => ?_, h2.below⟩
  · rcases Nat.lt_or_ge i l.length with hi | hi
    · rw [List.getElem?_append_left hi] at hl
      exact h2.at_ i g' cs' t' hl
    · rw [List.getElem?_append_right hi] at hl
      have hi0 : i - l.length = 0 := by have := (List.getElem?_eq_some_iff.1 hl).1; simp at this; omega
      rw [hi0] at hl
      simp only [List.getElem?_cons_zero, Option.some.injEq, Prod.mk.injEq] at hl
      obtain ⟨rfl, rfl, rfl⟩ := hl
      exact ⟨hx, by rw [hg]; exact h.below.size⟩
  · have key : ∀ i p, (l ++ [(g, cs, t)])[i]? = some p → (i < l.length ∧ l[i]? = some p ∧ p.1 < g) ∨ (i = l.length ∧ p.1 = g) := by
      intro i p hp
      rcases Nat.lt_or_ge i l.length with hi | hi
      · rw [List.getElem?_append_left hi] at hp
        exact .inl ⟨hi, hp, by rw [hg]; exact h.lt hp⟩
      · rw [List.getElem?_append_right hi] at hp
        have hi0 : i - l.length = 0 := by have := (List.getElem?_eq_some_iff.1 hp).1; simp at this; omega
        rw [hi0] at hp
        simp only [List.getElem?_cons_zero, Option.some.injEq] at hp
        exact .inr ⟨by omega, by rw [← hp]⟩
    rcases key i p hp with ⟨hi, hp, hlt⟩ | ⟨hi, hpg⟩ <;> rcases key j q hq with ⟨hj, hq, hlt'⟩ | ⟨hj, hqg⟩
    · exact h.ne i j p q hp hq hij
    · omega
    · omega
    · omega
theorem set (h : Bks w0 W l) {i : Nat} (hl : l[i]? = some (g, cs, t)) (j : Nat) (v : Value) : Bks w0 (W.setCell ⟨g, j, none⟩ v) (l.set i (g, cs.setIfInBounds j v, t)) := by
  have hi := (List.getElem?_eq_some_iff.1 hl).1
  refine ⟨fun k g' cs' t' hk => ?_, fun a b p q hp hq hab => ?_, below_set h.below (h.at_ i g cs t hl).2⟩
  · rcases Nat.decEq k i with hne | rfl
    · rw [List.getElem?_set_ne (Ne.symm hne)] at hk
      exact ⟨blk_far (h.at_ k g' cs' t' hk).1 (p := ⟨g, j, none⟩) (h.ne k i _ _ hk hl hne) v, (h.at_ k g' cs' t' hk).2⟩
    · rw [List.getElem?_set_self hi] at hk
      simp only [Option.some.injEq, Prod.mk.injEq] at hk
      obtain ⟨rfl, rfl, rfl⟩ := hk
      exact ⟨blk_set (h.at_ k g cs t hl).1 j v, (h.at_ k g cs t hl).2⟩
  · have key : ∀ (a : Nat) (p : Nat × Array Value × Nat), (l.set i (g, cs.setIfInBounds j v, t))[a]? = some p → ∃ p' : Nat × Array Value × Nat, l[a]? = some p' ∧ p'.1 = p.1 := by
      intro a p hp
      rcases Nat.decEq a i with hne | rfl
      · rw [List.getElem?_set_ne (Ne.symm hne)] at hp
        exact ⟨p, hp, rfl⟩
      · rw [List.getElem?_set_self hi] at hp
        simp only [Option.some.injEq] at hp
        exact ⟨_, hl, by rw [← hp]⟩
    obtain ⟨p', hp', e1⟩ := key a p hp
    obtain ⟨q', hq', e2⟩ := key b q hq
    rw [← e1, ← e2]
    exact h.ne a b p' q' hp' hq' hab
theorem cell (h : Bks w0 W l) {i : Nat} (hl : l[i]? = some (g, cs, t)) (j : Nat) {v : Value} (hv : cs[j]? = some v) : W.cell? ⟨g, j, none⟩ = some v := (blk_cell (h.at_ i g cs t hl).1 j).trans hv
theorem free (h : Bks w0 W l) {i : Nat} (hl : l[i]? = some (g, cs, t)) (j : Nat) : W.frozen? ⟨g, j, none⟩ = false := blk_frozen (h.at_ i g cs t hl).1 j
theorem pre {m : List (Nat × Array Value × Nat)} (h : Bks w0 W (l ++ m)) : Bks w0 W l :=
  ⟨fun i g cs t hl => h.at_ i g cs t (by rw [List.getElem?_append_left (List.getElem?_eq_some_iff.1 hl).1]; exact hl),
   fun i j p q hp hq hij => h.ne i j p q (by rw [List.getElem?_append_left (List.getElem?_eq_some_iff.1 hp).1]; exact hp) (by rw [List.getElem?_append_left (List.getElem?_eq_some_iff.1 hq).1]; exact hq) hij, h.below⟩
theorem cast_ {l2 : List (Nat × Array Value × Nat)} (h : Bks w0 W l) (e : l = l2) : Bks w0 W l2 := e ▸ h
end Bks
section
variable {P : Program} {ops : Array Oper} {rest : List Oper} {o : Oper} {a : Act} {Q : Exit → Act → World → Prop}
theorem lit_event {W : World} (hgd : o.guard = none) {N : Tmp} (_hd : o.dst = some N) {cs : Array Value} {t n : Nat}
    (hrun : (execOp a.eval o).run P W = .ok (.value (.slice (some ⟨W.heap.size, 0, none⟩) n n)) (W.alloc (.cells cs t (0, 0))))
    (h : ∀ g, g = W.heap.size → ∀ w1, w1.heap[g]? = some (.cells cs t (0, 0)) → Below W.heap.size W w1 → wpList P ops Q rest (a.put o.dst (.slice (some ⟨g, 0, none⟩) n n)) w1) : wpList P ops Q (o :: rest) a W :=
  Kd.event_run hgd hrun (h _ rfl _ (blk_new W _) (below_alloc (Below.refl _ _) _))
end

end Go.Proofs.Ytdiodmdohkjafaa.GDeclTells
