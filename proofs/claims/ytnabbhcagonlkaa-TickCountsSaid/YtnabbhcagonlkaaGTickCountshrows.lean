/- Written for this claim by gp.py, a program of this session's, over the kit's print. Lean checks it. -/
import Derived.Test.YtnabbhcagonlkaaGTickCountsx0
import Derived.Test.YtnabbhcagonlkaaGTickCountshx
namespace Go.Proofs.Ytnabbhcagonlkaa.GTickCounts
open Go.RowKit Go.Proofs.YtnabbhcagonlkaaW.PrintWords Go.Proofs.YtnabbhcagonlkaaW.PrintLast Go.Proofs.YtnabbhcagonlkaaW.PrintMore
attribute [local go_sem] max2_int min2_int max_two min_two max_three min_three max_four min_four   -- for this text's walks alone
set_option linter.unusedVariables false
set_option linter.unusedSimpArgs false

theorem Bks.keep {w0 W W2 : World} {l : List (Nat × Array Value × Nat)} {g t : Nat} {cs cs2 : Array Value} (h : Bks w0 W l) {i : Nat} (hl : l[i]? = some (g, cs, t)) (hx : W2.heap[g]? = some (.cells cs2 t (0, 0))) (hb : Below w0.heap.size w0 W2) (hk : KeepBut W W2 g none) : Bks w0 W2 (l.set i (g, cs2, t)) := by
  have hi := (List.getElem?_eq_some_iff.1 hl).1
  refine ⟨fun k g' cs' t' hk' => ?_, fun a b p q hp hq hab => ?_, hb⟩
  · rcases Nat.decEq k i with hne | rfl
    · rw [List.getElem?_set_ne (Ne.symm hne)] at hk'
      have h1 := h.at_ k g' cs' t' hk'
      exact ⟨(hk.2 g' (blk_lt h1.1) (h.ne k i _ _ hk' hl hne) (by simp)).trans h1.1, h1.2⟩
    · rw [List.getElem?_set_self hi] at hk'
      simp only [Option.some.injEq, Prod.mk.injEq] at hk'
      obtain ⟨rfl, rfl, rfl⟩ := hk'
      exact ⟨hx, (h.at_ k g cs t hl).2⟩
  · have key : ∀ (a : Nat) (p : Nat × Array Value × Nat), (l.set i (g, cs2, t))[a]? = some p → ∃ p' : Nat × Array Value × Nat, l[a]? = some p' ∧ p'.1 = p.1 := by
      intro a p hp
      rcases Nat.decEq a i with hne | rfl
      · rw [List.getElem?_set_ne (Ne.symm hne)] at hp
        exact ⟨p, hp, rfl⟩
      · rw [List.getElem?_set_self hi] at hp
        simp only [Option.some.injEq] at hp
        exact ⟨_, hl, by rw [← hp]⟩
    obtain ⟨p', hp', e1⟩ := key a p hp
    obtain ⟨q', hq', e2⟩ := key b q hq
    rw [← e1, ← e2]
    exact h.ne a b p' q' hp' hq' hab
/-- Rows of whole numbers, the call's own, no two of one block. -/
structure Rws (w0 W : World) (rs : List (Value × List Int)) : Prop where
  r : ∀ (i : Nat) (v : Value) (xs : List Int), rs[i]? = some (v, xs) → Kd.R (Kd.int .i64) 3 W w0.heap.size (fun _ => True) v xs
  ne : ∀ (i j : Nat) (p q : Value × List Int), rs[i]? = some p → rs[j]? = some q → i ≠ j → ∀ k, p.1.ownBlock = some k → q.1.ownBlock ≠ some k
namespace Rws
variable {w0 W W2 : World} {rs : List (Value × List Int)} {l : List (Nat × Array Value × Nat)} {g t : Nat} {cs : Array Value} {v : Value} {xs : List Int}
theorem start : Rws w0 W [] := ⟨fun i v xs h => by simp at h, fun i j p q h => by simp at h⟩
theorem step (h : Rws w0 W rs) (hb : Below W.heap.size W W2) : Rws w0 W2 rs := ⟨fun i v xs hi => Kd.R_below (h.r i v xs hi) hb, h.ne⟩
theorem drewN (h : Rws w0 W rs) (n : Nat) : Rws w0 (W.drewN n) rs := ⟨fun i v xs hi => Kd.R_drewN (h.r i v xs hi) n, h.ne⟩
theorem drew (h : Rws w0 W rs) : Rws w0 W.drew rs := ⟨fun i v xs hi => Kd.R_drew (h.r i v xs hi), h.ne⟩
theorem set (h : Rws w0 W rs) (hb : Bks w0 W l) {i : Nat} (hl : l[i]? = some (g, cs, t)) (ht : t ≠ 3) (j : Nat) (u : Value) : Rws w0 (W.setCell ⟨g, j, none⟩ u) rs :=
  ⟨fun a v xs ha => Kd.R_set (h.r a v xs ha) (hb.at_ i g cs t hl).1 (by intro q hq; have e3 : q = 3 := (by simpa [Kd.int, Kd.scalar] using hq); rw [e3]; exact fun e => ht e.symm) j u, h.ne⟩
theorem keep (h : Rws w0 W rs) (hb : Bks w0 W l) {i : Nat} (hl : l[i]? = some (g, cs, t)) (ht : t ≠ 3) (hk : KeepBut W W2 g none) : Rws w0 W2 rs :=
  ⟨fun a v xs ha => Kd.R_mono (Kd.R_keep (Kd.R_types (h.r a v xs ha) (hb.at_ i g cs t hl).1 (by intro q hq; have e3 : q = 3 := (by simpa [Kd.int, Kd.scalar] using hq); rw [e3]; exact fun e => ht e.symm)) hk (fun _ hk => hk.2)) (fun _ _ => trivial), h.ne⟩
theorem push (h : Rws w0 W rs) (h2 : Rws w0 W2 rs) (hle : w0.heap.size ≤ W.heap.size) (hR : Kd.R (Kd.int .i64) 3 W2 W.heap.size (fun _ => True) v xs) : Rws w0 W2 (rs ++ [(v, xs)]) := by
  have key : ∀ i p, (rs ++ [(v, xs)])[i]? = some p → (i < rs.length ∧ rs[i]? = some p) ∨ (i = rs.length ∧ p = (v, xs)) := by
    intro i p hp
    rcases Nat.lt_or_ge i rs.length with hi | hi
    · rw [List.getElem?_append_left hi] at hp
      exact .inl ⟨hi, hp⟩
    · rw [List.getElem?_append_right hi] at hp
      have hi0 : i - rs.length = 0 := by have := (List.getElem?_eq_some_iff.1 hp).1; simp at this; omega
      rw [hi0] at hp
      simp only [List.getElem?_cons_zero, Option.some.injEq] at hp
      exact .inr ⟨by omega, hp.symm⟩
  refine ⟨fun i u ys hi => ?_, fun i j p q hp hq hij k hk => ?_⟩
  · rcases key i _ hi with ⟨_, hi⟩ | ⟨_, hi⟩
    · exact h2.r i u ys hi
    · obtain ⟨rfl, rfl⟩ := Prod.mk.injEq .. ▸ hi
      exact Kd.R_lower hR hle
  · rcases key i p hp with ⟨hi, hp⟩ | ⟨hi, rfl⟩ <;> rcases key j q hq with ⟨hj, hq⟩ | ⟨hj, rfl⟩
    · exact h.ne i j p q hp hq hij k hk
    · intro e
      have h1 := Kd.R_lt (h.r i p.1 p.2 hp) k hk
      have h3 := Kd.R_base hR k e
      omega
    · intro e
      have h1 := Kd.R_lt (h.r j q.1 q.2 hq) k e
      have h3 := Kd.R_base hR k hk
      omega
    · omega
theorem nil (h : Rws w0 W rs) : Rws w0 W (rs ++ [(.slice none 0 0, [])]) := by
  have key : ∀ i p, (rs ++ [(Value.slice none 0 0, ([] : List Int))])[i]? = some p → (i < rs.length ∧ rs[i]? = some p) ∨ (i = rs.length ∧ p = (.slice none 0 0, [])) := by
    intro i p hp
    rcases Nat.lt_or_ge i rs.length with hi | hi
    · rw [List.getElem?_append_left hi] at hp
      exact .inl ⟨hi, hp⟩
    · rw [List.getElem?_append_right hi] at hp
      have hi0 : i - rs.length = 0 := by have := (List.getElem?_eq_some_iff.1 hp).1; simp at this; omega
      rw [hi0] at hp
      simp only [List.getElem?_cons_zero, Option.some.injEq] at hp
      exact .inr ⟨by omega, hp.symm⟩
  refine ⟨fun i u ys hi => ?_, fun i j p q hp hq hij k hk => ?_⟩
  · rcases key i _ hi with ⟨_, hi⟩ | ⟨_, hi⟩
    · exact h.r i u ys hi
    · obtain ⟨rfl, rfl⟩ := Prod.mk.injEq .. ▸ hi
      exact Kd.R_nil _ _ _ _ _
  · rcases key i p hp with ⟨hi, hp⟩ | ⟨hi, rfl⟩ <;> rcases key j q hq with ⟨hj, hq⟩ | ⟨hj, rfl⟩
    · exact h.ne i j p q hp hq hij k hk
    · simp [Value.ownBlock]
    · simp [Value.ownBlock] at hk
    · omega
/-- Three rows, as a contract's end tells them. -/
theorem out3 (h : Rws w0 W rs) (i j k : Nat) {a b c : Value} {ys zs : List Int} (hi : rs[i]? = some (a, xs)) (hj : rs[j]? = some (b, ys)) (hk : rs[k]? = some (c, zs)) (hij : i ≠ j) (hik : i ≠ k) :
    Kd.R (Kd.int .i64) 3 W w0.heap.size (fun k_ => some k_ ≠ b.ownBlock ∧ some k_ ≠ c.ownBlock) a xs :=
  Kd.R_reok rfl (h.r i a xs hi) (fun m hm => ⟨fun e => h.ne i j _ _ hi hj hij m hm e.symm, fun e => h.ne i k _ _ hi hk hik m hm e.symm⟩)
end Rws
/-- A literal of one number. -/
theorem lit1 {W w1 : World} {g : Nat} {x : Int} (hg : g = W.heap.size) (hx : w1.heap[g]? = some (.cells #[.int .i64 x] 3 (0, 0))) : Kd.R (Kd.int .i64) 3 w1 W.heap.size (fun _ => True) (.slice (some ⟨g, 0, none⟩) 1 1) [x] := by
  subst hg
  have h := own_lit W W.heap.size 3 .i64 [x] (Nat.le_refl _) (by simp)
  have h2 : Kd.R (Kd.int .i64) 3 (W.alloc (.cells #[.int .i64 x] 3)) W.heap.size (fun k => k = W.heap.size) (.slice (some ⟨W.heap.size, 0, none⟩) 1 1) [x] := Kd.R_of_own h (by simp [Value.ownBlock]; try (intro k hk; omega))
  refine Kd.R_mono (Kd.R_move h2 (fun k hk => ?_)) (fun _ _ => trivial)
  subst hk
  rw [hx]
  exact (blk_new W _).symm

end Go.Proofs.Ytnabbhcagonlkaa.GTickCounts
