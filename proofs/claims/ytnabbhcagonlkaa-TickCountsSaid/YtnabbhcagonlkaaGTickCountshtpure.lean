/- Written for this claim by gp.py, a program of this session's, over the kit's print. Lean checks it. -/
import Derived.Test.YtnabbhcagonlkaaGTickCountsx0
import Derived.Test.YtnabbhcagonlkaaGTickCountsx3
import Derived.Test.YtnabbhcagonlkaaGTickCountshcounter
import Derived.Test.YtnabbhcagonlkaaGTickCountshcounter2
namespace Go.Proofs.Ytnabbhcagonlkaa.GTickCounts
open Go.RowKit Go.Proofs.YtnabbhcagonlkaaW.PrintWords Go.Proofs.YtnabbhcagonlkaaW.PrintLast Go.Proofs.YtnabbhcagonlkaaW.PrintMore
attribute [local go_sem] max2_int min2_int max_two min_two max_three min_three max_four min_four   -- for this text's walks alone
set_option linter.unusedVariables false
set_option linter.unusedSimpArgs false

/-! what the counter holds behind some acts, in plain Lean -/
def tst (l : List S76) (j : Int) : Int := l.foldl (fun v x => addp j x.f0 v x.f1) 0
def tfine (l : List S76) : Prop := ∀ x ∈ l, x.f1 ≤ 9223372036854775807
theorem addv_bd {s n : Int} (h0 : 0 ≤ s) (h1 : s ≤ 9223372036854775807) (h2 : 0 ≤ n) (h3 : n ≤ 9223372036854775807) : s ≤ addv s n ∧ addv s n ≤ 9223372036854775807 := by
  unfold addv wrap64
  split <;> omega
theorem addp_bd {j p s n : Int} (h0 : 0 ≤ s) (h1 : s ≤ 9223372036854775807) (h3 : n ≤ 9223372036854775807) : s ≤ addp j p s n ∧ addp j p s n ≤ 9223372036854775807 := by
  unfold addp
  split
  · rename_i h
    exact addv_bd h0 h1 h.2 h3
  · omega
theorem tst_go (j : Int) : ∀ (l : List S76) (v : Int), tfine l → 0 ≤ v → v ≤ 9223372036854775807 → v ≤ l.foldl (fun v x => addp j x.f0 v x.f1) v ∧ l.foldl (fun v x => addp j x.f0 v x.f1) v ≤ 9223372036854775807
  | [], v, _, h0, h1 => ⟨Int.le_refl _, h1⟩
  | x :: l, v, hf, h0, h1 => by
    have h := addp_bd (j := j) (p := x.f0) h0 h1 (hf x List.mem_cons_self)
    have ih := tst_go j l (addp j x.f0 v x.f1) (fun y hy => hf y (List.mem_cons_of_mem _ hy)) (by omega) h.2
    rw [List.foldl_cons]
    omega
theorem tfine_take {l : List S76} (h : tfine l) (i : Nat) : tfine (l.take i) := fun x hx => h x (List.mem_of_mem_take hx)
theorem tst_bd {l : List S76} (h : tfine l) (j : Int) : 0 ≤ tst l j ∧ tst l j ≤ 9223372036854775807 := tst_go j l 0 h (by decide) (by decide)
theorem tst_take {l : List S76} {i : Nat} (hi : i < l.length) (j : Int) : tst (l.take (i + 1)) j = addp j (l[i]).f0 (tst (l.take i) j) (l[i]).f1 := by
  unfold tst
  rw [List.take_add_one, List.getElem?_eq_getElem hi, Option.toList_some, List.foldl_append]
  rfl
theorem tst_step {l : List S76} (h : tfine l) {i : Nat} (hi : i < l.length) (j : Int) : tst (l.take i) j ≤ tst (l.take (i + 1)) j := by
  rw [tst_take hi]
  have b := tst_bd (tfine_take h i) j
  exact (addp_bd b.1 b.2 (h _ (List.getElem_mem hi))).1
theorem atp_tst (l : List S76) (p : Int) : atp (tst l 0) (tst l 1) (tst l 2) (tst l 3) (tst l 4) (tst l 5) (tst l 6) p = if 0 ≤ p ∧ p ≤ 6 then tst l p else 0 := by
  unfold atp
  by_cases c : 0 ≤ p ∧ p ≤ 6
  · rw [if_pos c]
    obtain rfl | rfl | rfl | rfl | rfl | rfl | rfl : p = 0 ∨ p = 1 ∨ p = 2 ∨ p = 3 ∨ p = 4 ∨ p = 5 ∨ p = 6 := by omega
    all_goals rfl
  · rw [if_neg c, if_neg (by omega), if_neg (by omega), if_neg (by omega), if_neg (by omega), if_neg (by omega), if_neg (by omega), if_neg (by omega)]
theorem addn_addv {s n : Int} (h0 : 0 ≤ s) (h1 : s ≤ 9223372036854775807) (h2 : 0 ≤ n) (h3 : n ≤ 9223372036854775807) : addn s n = addv s n := by
  unfold addn addv wrap64
  split <;> split <;> omega
theorem addn_mono {a b a' b' : Int} (h0 : 0 ≤ a) (h1 : a ≤ a') (h2 : a' ≤ 9223372036854775807) (h3 : 0 ≤ b) (h4 : b ≤ b') (h5 : b' ≤ 9223372036854775807) : 0 ≤ addn a b ∧ addn a b ≤ addn a' b' ∧ addn a' b' ≤ 9223372036854775807 := by
  unfold addn wrap64
  split <;> split <;> omega
theorem tsum_mono {s0 s1 s2 s3 s4 s5 s6 r0 r1 r2 r3 r4 r5 r6 : Int} (h : ∀ p, 0 ≤ atp s0 s1 s2 s3 s4 s5 s6 p ∧ atp s0 s1 s2 s3 s4 s5 s6 p ≤ atp r0 r1 r2 r3 r4 r5 r6 p ∧ atp r0 r1 r2 r3 r4 r5 r6 p ≤ 9223372036854775807) :
    ∀ n, 0 ≤ tsum s0 s1 s2 s3 s4 s5 s6 n ∧ tsum s0 s1 s2 s3 s4 s5 s6 n ≤ tsum r0 r1 r2 r3 r4 r5 r6 n ∧ tsum r0 r1 r2 r3 r4 r5 r6 n ≤ 9223372036854775807
  | 0 => ⟨Int.le_refl 0, Int.le_refl 0, show (0 : Int) ≤ 9223372036854775807 by decide⟩
  | n + 1 => by
    have ih := tsum_mono h n
    have hp := h (n : Int)
    exact addn_mono ih.1 ih.2.1 ih.2.2 hp.1 hp.2.1 hp.2.2
def ttot (l : List S76) : Int := tsum (tst l 0) (tst l 1) (tst l 2) (tst l 3) (tst l 4) (tst l 5) (tst l 6) 7
theorem ttot_step {l : List S76} (h : tfine l) {i : Nat} (hi : i < l.length) : ttot (l.take i) ≤ ttot (l.take (i + 1)) := by
  refine (tsum_mono (fun p => ?_) 7).2.1
  rw [atp_tst, atp_tst]
  have b := tst_bd (tfine_take h i) p
  have b' := tst_bd (tfine_take h (i + 1)) p
  have s := tst_step h hi p
  split <;> omega
theorem rplus_addn (a b : Int) : easementref09_Plus.f a b = some (addn a b) := by
  unfold easementref09_Plus.f addn
  split <;> rfl
theorem rd76_eq {l : List S76} {i : Nat} (h : i < l.length) : rd_T76 l (i : Int) = l[i] := by
  unfold rd_T76; simp [List.getD_eq_getElem?_getD, List.getElem?_eq_getElem h]
theorem tof_loop {l : List S76} (hf : tfine l) (hl : l.length ≤ 50) (p : Int) : ∀ (d i k : Nat), i + d = l.length → d + 1 ≤ k → easementref09_Of.l0 k l p (if 0 ≤ p ∧ p ≤ 6 then tst (l.take i) p else 0) (i : Int) = some (if 0 ≤ p ∧ p ≤ 6 then tst l p else 0)
  | 0, i, k, hd, hk => by
    obtain ⟨k, rfl⟩ : ∃ m, k = m + 1 := ⟨k - 1, by omega⟩
    simp only [easementref09_Of.l0]
    rw [if_neg (by omega), List.take_of_length_le (by omega)]
  | d + 1, i, k, hd, hk => by
    obtain ⟨k, rfl⟩ : ∃ m, k = m + 1 := ⟨k - 1, by omega⟩
    have hi : i < l.length := by omega
    have ih := tof_loop hf hl p d (i + 1) k (by omega) (by omega)
    rw [tst_take hi] at ih
    have b := tst_bd (tfine_take hf i) p
    have hx := hf _ (List.getElem_mem hi)
    have e1 : wrap64 ((i : Int) + 1) = ((i + 1 : Nat) : Int) := by unfold wrap64; omega
    simp only [easementref09_Of.l0]
    rw [if_pos (by omega), if_pos (by omega), rd76_eq hi, e1]
    generalize (l[i]).f0 = q at *
    generalize (l[i]).f1 = n at *
    generalize tst (l.take i) p = s at *
    by_cases c : 0 ≤ p ∧ p ≤ 6
    · rw [if_pos c] at ih ⊢
      rw [if_pos c] at ih
      by_cases c1 : q = p
      · rw [if_pos c1, if_pos (show p ≥ 0 from c.1), if_pos c.2]
        by_cases c2 : n > 0
        · rw [if_pos c2, rplus_addn, addn_addv b.1 b.2 (by omega) hx]
          have e : addp p q s n = addv s n := if_pos ⟨c1, by omega⟩
          rw [e] at ih
          rw [if_pos c]
          exact ih
        · rw [if_neg c2]
          have e : addp p q s n = s := by
            unfold addp
            split
            · rename_i h
              obtain rfl : n = 0 := by omega
              unfold addv wrap64
              split <;> omega
            · rfl
          rw [e] at ih
          rw [if_pos c]
          exact ih
      · rw [if_neg c1]
        have e : addp p q s n = s := if_neg (fun h => c1 h.1)
        rw [e] at ih
        rw [if_pos c]
        exact ih
    · rw [if_neg c] at ih ⊢
      rw [if_neg c] at ih
      rw [if_neg c]
      by_cases c1 : q = p
      · rw [if_pos c1]
        by_cases c2 : p ≥ 0
        · rw [if_pos c2, if_neg (by omega)]
          exact ih
        · rw [if_neg c2]
          exact ih
      · rw [if_neg c1]
        exact ih
theorem tof_eq {l : List S76} (hf : tfine l) (hl : l.length ≤ 50) (p : Int) : easementref09_Of.f 52 l p = some (atp (tst l 0) (tst l 1) (tst l 2) (tst l 3) (tst l 4) (tst l 5) (tst l 6) p) := by
  have h := tof_loop hf hl p l.length 0 52 (by omega) (by omega)
  rw [atp_tst]
  unfold easementref09_Of.f
  have e : (if 0 ≤ p ∧ p ≤ 6 then tst (l.take 0) p else 0) = 0 := by split <;> rfl
  rw [e] at h
  exact h

end Go.Proofs.Ytnabbhcagonlkaa.GTickCounts
