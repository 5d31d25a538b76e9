/- Written for this claim by gp.py, a program of this session's, over the kit's print. Lean checks it. -/
import Derived.Test.YthhebinonpoddaaGTermBackx0
import Derived.Test.YthhebinonpoddaaGTermBackhtt0
import Derived.Test.YthhebinonpoddaaGTermBackhtt1
import Derived.Test.YthhebinonpoddaaGTermBackhttk2a
import Derived.Test.YthhebinonpoddaaGTermBackhttk2b
import Derived.Test.YthhebinonpoddaaGTermBackhttk2c
import Derived.Test.YthhebinonpoddaaGTermBackhttk4
import Derived.Test.YthhebinonpoddaaGTermBackhttk5
namespace Go.Proofs.Ythhebinonpoddaa.GTermBack
open Go.RowKit Go.Proofs.YthhebinonpoddaaW.PrintWords Go.Proofs.YthhebinonpoddaaW.PrintLast Go.Proofs.YthhebinonpoddaaW.PrintMore
attribute [local go_sem] max2_int min2_int max_two min_two max_three min_three max_four min_four   -- for this text's walks alone
set_option linter.unusedVariables false
set_option linter.unusedSimpArgs false

theorem term_Take.calls (k : Nat) (a0 : ByteArray) (r1 : Int) (r2 : Int) (r3 : Int) (r4 : List Int) (r5 : List Int) (r6 : List Int) (r7 : Int) (r8 : Int) (w : World) (h : term_Take.f k a0 = some (r1, r2, r3, r4, r5, r6, r7, r8)) :
    Calls Try.prog 18 #[.string a0] w fun e w' => ∃ v3_ v4_ v5_ : Value, e = .returned (.tuple #[.agg #[.int .i64 r1, .int .i64 r2, .int .i64 r3, v3_, v4_, v5_], .int .i64 r7, .int .i64 r8]) ∧ Kd.R (Kd.int .i64) 3 w' w.heap.size (fun k_ => some k_ ≠ (v4_ : Value).ownBlock ∧ some k_ ≠ (v5_ : Value).ownBlock) v3_ r4 ∧ Kd.R (Kd.int .i64) 3 w' w.heap.size (fun k_ => some k_ ≠ (v3_ : Value).ownBlock ∧ some k_ ≠ (v5_ : Value).ownBlock) v4_ r5 ∧ Kd.R (Kd.int .i64) 3 w' w.heap.size (fun k_ => some k_ ≠ (v3_ : Value).ownBlock ∧ some k_ ≠ (v4_ : Value).ownBlock) v5_ r6 ∧ Below w.heap.size w w' := by
  unfold term_Take.f at h
  obtain ⟨⟨kind, s1, at1, e1⟩, h1, h⟩ := Option.bind_eq_some_iff.mp h
  simp only at h
  by_cases k1 : kind = 1
  · rw [if_pos k1] at h
    exact term_Take.k1 k a0 r1 r2 r3 r4 r5 r6 r7 r8 w kind s1 at1 e1 h1 k1 h
  rw [if_neg k1] at h
  by_cases k2 : kind = 2
  · rw [if_pos k2] at h
    obtain ⟨⟨l2, s2, at2, e2⟩, h2, h⟩ := Option.bind_eq_some_iff.mp h
    simp only at h
    by_cases c2 : e2 = 0
    · rw [if_pos c2] at h
      by_cases n2 : l2.length = 0
      · rw [if_pos n2] at h
        exact term_Take.k2a k a0 r1 r2 r3 r4 r5 r6 r7 r8 w kind s1 at1 e1 h1 k1 k2 l2 s2 at2 e2 h2 c2 n2 h
      · rw [if_neg n2] at h
        exact term_Take.k2b k a0 r1 r2 r3 r4 r5 r6 r7 r8 w kind s1 at1 e1 h1 k1 k2 l2 s2 at2 e2 h2 c2 n2 h
    · rw [if_neg c2] at h
      exact term_Take.k2c k a0 r1 r2 r3 r4 r5 r6 r7 r8 w kind s1 at1 e1 h1 k1 k2 l2 s2 at2 e2 h2 c2 h
  rw [if_neg k2] at h
  by_cases k3 : kind = 3
  · rw [if_pos k3] at h
    exact term_Take.k3 k a0 r1 r2 r3 r4 r5 r6 r7 r8 w kind s1 at1 e1 h1 k1 k2 k3 h
  rw [if_neg k3] at h
  by_cases k4 : kind = 4
  · rw [if_pos k4] at h
    exact term_Take.k4 k a0 r1 r2 r3 r4 r5 r6 r7 r8 w kind s1 at1 e1 h1 k1 k2 k3 k4 h
  rw [if_neg k4] at h
  exact term_Take.k5 k a0 r1 r2 r3 r4 r5 r6 r7 r8 w kind s1 at1 e1 h1 k1 k2 k3 k4 h

end Go.Proofs.Ythhebinonpoddaa.GTermBack
