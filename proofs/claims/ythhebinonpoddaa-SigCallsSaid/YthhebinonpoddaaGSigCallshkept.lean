/- Written for this claim by gp.py, a program of this session's, over the kit's print. Lean checks it. -/
import Derived.Test.YthhebinonpoddaaGSigCallsx0
import Derived.Test.YthhebinonpoddaaGSigCallshx
namespace Go.Proofs.Ythhebinonpoddaa.GSigCalls
open Go.RowKit Go.Proofs.YthhebinonpoddaaW.PrintWords Go.Proofs.YthhebinonpoddaaW.PrintLast Go.Proofs.YthhebinonpoddaaW.PrintMore
attribute [local go_sem] max2_int min2_int max_two min_two max_three min_three max_four min_four   -- for this text's walks alone
set_option linter.unusedVariables false
set_option linter.unusedSimpArgs false

/-- Blocks of the call's own that lie in none of the places that were written. -/
theorem Bks.kept {w0 W W2 : World} {l : List (Nat × Array Value × Nat)} {S : Nat → Prop} (h : Bks w0 W l) (hk : Kept W W2 S) (hb : Below w0.heap.size w0 W2) (hS : ∀ (i : Nat) (p : Nat × Array Value × Nat), l[i]? = some p → ¬ S p.1) : Bks w0 W2 l :=
  ⟨fun i g cs t hl => ⟨(hk.2 g (cD (h.at_ i g cs t hl).1) (hS i _ hl)).trans (h.at_ i g cs t hl).1, (h.at_ i g cs t hl).2⟩, h.ne, hb⟩
/-- The same where one of them was written. -/
theorem Bks.keptS {w0 W W2 : World} {l : List (Nat × Array Value × Nat)} {S : Nat → Prop} {g t : Nat} {cs cs2 : Array Value} (h : Bks w0 W l) {i : Nat} (hl : l[i]? = some (g, cs, t)) (hx : W2.heap[g]? = some (.cells cs2 t (0, 0))) (hb : Below w0.heap.size w0 W2) (hk : Kept W W2 S) (hS : ∀ (j : Nat) (p : Nat × Array Value × Nat), l[j]? = some p → j ≠ i → ¬ S p.1) : Bks w0 W2 (l.set i (g, cs2, t)) := by
  have hi := (List.getElem?_eq_some_iff.1 hl).1
  refine ⟨fun k g' cs' t' hk' => ?_, fun a b p q hp hq hab => ?_, hb⟩
  · rcases Nat.decEq k i with hne | rfl
    · rw [List.getElem?_set_ne (Ne.symm hne)] at hk'
      have h1 := h.at_ k g' cs' t' hk'
      exact ⟨(hk.2 g' (cD h1.1) (hS k _ hk' hne)).trans h1.1, h1.2⟩
    · rw [List.getElem?_set_self hi] at hk'
      simp only [Option.some.injEq, Prod.mk.injEq] at hk'
      obtain ⟨rfl, rfl, rfl⟩ := hk'
      exact ⟨hx, (h.at_ k g cs t hl).2⟩
  · have key : ∀ (a : Nat) (p : Nat × Array Value × Nat), (l.set i (g, cs2, t))[a]? = some p → ∃ p' : Nat × Array Value × Nat, l[a]? = some p' ∧ p'.1 = p.1 := by
      intro a p hp
      rcases Nat.decEq a i with hne | rfl
      · rw [List.getElem?_set_ne (Ne.symm hne)] at hp
        exact ⟨p, hp, rfl⟩
      · rw [List.getElem?_set_self hi] at hp
        simp only [Option.some.injEq] at hp
        exact ⟨_, hl, by rw [← hp]⟩
    obtain ⟨p', hp', e1⟩ := key a p hp
    obtain ⟨q', hq', e2⟩ := key b q hq
    rw [← e1, ← e2]
    exact h.ne a b p' q' hp' hq' hab
theorem Bks.one {w0 W : World} {g t : Nat} {cs : Array Value} (hb : Below w0.heap.size w0 W) (hg : W.heap[g]? = some (.cells cs t (0, 0))) (h0 : w0.heap.size ≤ g) : Bks w0 W [(g, cs, t)] := by
  have one : ∀ (i : Nat) (p : Nat × Array Value × Nat), [(g, cs, t)][i]? = some p → i = 0 ∧ p = (g, cs, t) := by
    intro i p hp
    rcases i with _ | i
    · simp only [List.getElem?_cons_zero, Option.some.injEq] at hp
      exact ⟨rfl, hp.symm⟩
    · simp at hp
  refine ⟨fun i g' cs' t' hl => ?_, fun i j p q hp hq hij => ?_, hb⟩
  · obtain ⟨_, e⟩ := one i _ hl
    injection e with e1 e2
    injection e2 with e2 e3
    subst e1 e2 e3
    exact ⟨hg, h0⟩
  · exact absurd ((one i _ hp).1.trans (one j _ hq).1.symm) hij
theorem Bks.two_ {g t g' t' : Nat} {cs cs' : Array Value} {S : Nat → Prop} (hne : ¬ S g') : ∀ (j : Nat) (p : Nat × Array Value × Nat), [(g, cs, t), (g', cs', t')][j]? = some p → j ≠ 0 → ¬ S p.1 := by
  intro j p hp hj
  rcases j with _ | _ | j
  · exact absurd rfl hj
  · simp only [List.getElem?_cons_succ, List.getElem?_cons_zero, Option.some.injEq] at hp
    rw [← hp]
    exact hne
  · simp at hp
theorem Bks.both_ {g t g' t' : Nat} {cs cs' : Array Value} {S : Nat → Prop} (h1 : ¬ S g) (h2 : ¬ S g') : ∀ (j : Nat) (p : Nat × Array Value × Nat), [(g, cs, t), (g', cs', t')][j]? = some p → ¬ S p.1 := by
  intro j p hp
  rcases j with _ | j
  · simp only [List.getElem?_cons_zero, Option.some.injEq] at hp
    rw [← hp]
    exact h1
  · exact Bks.two_ (cs := cs) (g := g) (t := t) h2 (j + 1) p hp (Nat.succ_ne_zero _)
theorem Bks.keptA {w0 W W2 : World} {l : List (Nat × Array Value × Nat)} {S : Nat → Prop} (h : Bks w0 W l) (hk : Kept W W2 S) (hb : Below w0.heap.size w0 W2) (hS : ∀ p ∈ l, ¬ S p.1) : Bks w0 W2 l := h.kept hk hb (fun _ p hp => hS p (List.mem_of_getElem? hp))

end Go.Proofs.Ythhebinonpoddaa.GSigCalls
