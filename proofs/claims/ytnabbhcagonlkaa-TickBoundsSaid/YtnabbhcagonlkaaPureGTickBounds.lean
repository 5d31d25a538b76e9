/- Pure part of GTickBounds: the bounds of any numbers are as the document says, and grow with them -/
import Derived.Test.YtnabbhcagonlkaaGTickBoundsxopen
import Derived.Laws.BitsLemmas
import Derived.Laws.BitsAllLaws
import Derived.Shelf.Bits.Mul64
import Derived.WalkSmall
namespace Go.Proofs.Ytnabbhcagonlkaa.Pure
open Go.RowKit Go.Proofs.Ytnabbhcagonlkaa.GTickBounds Go.Proofs.YtnabbhcagonlkaaW.PrintWords Go.Proofs.YtnabbhcagonlkaaW.PrintLast
set_option linter.unusedSimpArgs false
set_option linter.unusedVariables false

--import Derived.Shelf.Bits.Mul64
--import Derived.Laws.BitsAllLaws
--import Derived.WalkSmall
/-! saturating numbers -/
def sat (x : Int) : Int := if x > 9223372036854775807 then 9223372036854775807 else x
theorem sat_bd {x : Int} (h : 0 ≤ x) : 0 ≤ sat x ∧ sat x ≤ 9223372036854775807 := by unfold sat; split <;> omega
theorem sat_mono {x y : Int} (h : x ≤ y) : sat x ≤ sat y := by unfold sat; split <;> split <;> omega
theorem mul_eq (x y : Nat) (hx : x < 18446744073709551616) (hy : y < 18446744073709551616) : bits_Mul64.f (x : Int) (y : Int) = some (((x * y / 18446744073709551616 : Nat) : Int), ((x * y % 18446744073709551616 : Nat) : Int)) := by
  obtain ⟨bd, bt, bw, hhi⟩ := Lib.mul64_hi x y hx hy
  have ba := Lib.half_mul_le (a := x / 4294967296) (b := y / 4294967296) (by omega) (by omega)
  have bb := Lib.half_mul_le (a := x / 4294967296) (b := y % 4294967296) (by omega) (by omega)
  have bc := Lib.half_mul_le (a := x % 4294967296) (b := y / 4294967296) (by omega) (by omega)
  have ba' : x / 4294967296 * (y / 4294967296) < 18446744073709551616 := by omega
  have bb' : x / 4294967296 * (y % 4294967296) < 18446744073709551616 := by omega
  have bc' : x % 4294967296 * (y / 4294967296) < 18446744073709551616 := by omega
  have bh1 : x / 4294967296 * (y / 4294967296) + (x / 4294967296 * (y % 4294967296) + x % 4294967296 * (y % 4294967296) / 4294967296) / 4294967296 < 18446744073709551616 := by omega
  have bh : x / 4294967296 * (y / 4294967296) + (x / 4294967296 * (y % 4294967296) + x % 4294967296 * (y % 4294967296) / 4294967296) / 4294967296 + ((x / 4294967296 * (y % 4294967296) + x % 4294967296 * (y % 4294967296) / 4294967296) % 4294967296 + x % 4294967296 * (y / 4294967296)) / 4294967296 < 18446744073709551616 := by omega
  unfold bits_Mul64.f
  simp only [Go.Proofs.Mul64.maskN x hx, Go.Proofs.Mul64.maskN y hy, Go.Proofs.Mul64.divN, Go.Proofs.Mul64.mulN, Go.Proofs.Mul64.addN, Go.Proofs.Mul64.wrapN _ bd, Go.Proofs.Mul64.wrapN _ bb', Go.Proofs.Mul64.wrapN _ bt, Go.Proofs.Mul64.maskN _ bt, Go.Proofs.Mul64.wrapN _ bc', Go.Proofs.Mul64.wrapN _ bw, Go.Proofs.Mul64.wrapN _ ba', Go.Proofs.Mul64.wrapN _ bh1, Go.Proofs.Mul64.wrapN _ bh, Go.Proofs.Mul64.wrapM (x * y)]
  rw [hhi]
theorem times_eq (a b : Int) (ha0 : 0 ≤ a) (ha1 : a ≤ 9223372036854775807) (hb0 : 0 ≤ b) (hb1 : b ≤ 9223372036854775807) : tick_times.f a b = some (sat (a * b)) := by
  obtain ⟨x, rfl⟩ := Int.eq_ofNat_of_zero_le ha0
  obtain ⟨y, rfl⟩ := Int.eq_ofNat_of_zero_le hb0
  unfold tick_times.f
  rw [Go.Proofs.Mul64.wrapN x (by omega), Go.Proofs.Mul64.wrapN y (by omega), mul_eq x y (by omega) (by omega), ← Int.natCast_mul x y]
  simp only [Option.bind_some]
  generalize x * y = z
  unfold sat
  by_cases c1 : ((z / 18446744073709551616 : Nat) : Int) > 0
  · rw [if_pos c1, if_pos (by omega)]
  rw [if_neg c1]
  by_cases c2 : ((z % 18446744073709551616 : Nat) : Int) > 9223372036854775807
  · rw [if_pos c2, if_pos (by omega)]
  rw [if_neg c2, if_neg (by omega)]
  congr 1
  unfold wrap64
  omega
theorem plus_eq (a b : Int) (ha0 : 0 ≤ a) (ha1 : a ≤ 9223372036854775807) (hb0 : 0 ≤ b) (hb1 : b ≤ 9223372036854775807) : tick_plus.f a b = some (sat (a + b)) := by
  unfold tick_plus.f sat
  have e : wrap64 (9223372036854775807 - b) = 9223372036854775807 - b := by unfold wrap64; omega
  rw [e]
  by_cases c : a > 9223372036854775807 - b
  · rw [if_pos c, if_pos (by omega)]
  · rw [if_neg c, if_neg (by omega)]
    congr 1
    unfold wrap64
    omega
theorem rplus_eq (a b : Int) (ha0 : 0 ≤ a) (ha1 : a ≤ 9223372036854775807) (hb0 : 0 ≤ b) (hb1 : b ≤ 9223372036854775807) : easementref09_Plus.f a b = some (sat (a + b)) := plus_eq a b ha0 ha1 hb0 hb1
theorem rplus_sat (x y : Int) (hx : 0 ≤ x) (hy : 0 ≤ y) : easementref09_Plus.f (sat x) (sat y) = some (sat (x + y)) := by
  rw [rplus_eq _ _ (sat_bd hx).1 (sat_bd hx).2 (sat_bd hy).1 (sat_bd hy).2]
  congr 1
  unfold sat
  repeat' split
  all_goals omega
theorem bit_eq (q : Int) : Go.bits .and .i64 q 1 = q % 2 := by
  have h1 : (BitVec.ofInt 64 1).toNat = 2 ^ 1 - 1 := by decide
  have key : (BitVec.ofInt 64 q &&& BitVec.ofInt 64 1).toNat = (q % ((2 ^ 64 : Nat) : Int)).toNat % 2 ^ 1 := by
    rw [BitVec.toNat_and, BitVec.toNat_ofInt, h1, Nat.and_two_pow_sub_one_eq_mod]
  show IntKind.i64.wrap ((BitVec.ofInt 64 q &&& BitVec.ofInt 64 1).toNat : Nat) = q % 2
  rw [key, IntKind.wrap_i64]
  omega
theorem rtimes_loop (a b : Int) (ha0 : 0 ≤ a) (ha1 : a ≤ 9223372036854775807) (hb0 : 0 ≤ b) (hb1 : b ≤ 9223372036854775807) : ∀ (j k : Nat), j ≤ 63 → j + 1 ≤ k → easementref09_Times.l0 k a b (sat (a * (b / 2 ^ j))) ((j : Int) - 1) = some (sat (a * b))
  | 0, k, hj, hk => by
    obtain ⟨k, rfl⟩ : ∃ m, k = m + 1 := ⟨k - 1, by omega⟩
    simp only [easementref09_Times.l0]
    rw [if_neg (by omega)]
    simp
  | j + 1, k, hj, hk => by
    obtain ⟨k, rfl⟩ : ∃ m, k = m + 1 := ⟨k - 1, by omega⟩
    simp only [easementref09_Times.l0]
    have e6 : (((j + 1 : Nat) : Int) - 1) = (j : Int) := by omega
    have hq0 : 0 ≤ b / 2 ^ j := Int.ediv_nonneg hb0 (Int.le_of_lt (Int.pow_pos (by decide)))
    have hq1 : b / 2 ^ j ≤ 9223372036854775807 := Int.le_trans (Int.ediv_le_self _ hb0) hb1
    have hs : shr .i64 b (j : Int) = b / 2 ^ j := by
      unfold shr
      rw [Int.toNat_natCast, show min j (IntKind.i64.bits) = j from Nat.min_eq_left (show j ≤ 64 by omega)]
    have hd : b / 2 ^ (j + 1) = b / 2 ^ j / 2 := by
      rw [Int.pow_succ, Int.ediv_ediv_of_nonneg (Int.le_of_lt (Int.pow_pos (by decide)))]
    have ih := rtimes_loop a b ha0 ha1 hb0 hb1 j k (by omega) (by omega)
    rw [e6, if_pos (by omega), hs, bit_eq, hd, show wrap64 ((j : Int) - 1) = (j : Int) - 1 from by unfold wrap64; omega]
    generalize b / 2 ^ j = q at *
    have hx : 0 ≤ a * (q / 2) := Int.mul_nonneg ha0 (by omega)
    rw [rplus_sat _ _ hx hx]
    simp only [Option.bind_some]
    rw [if_pos (by omega)]
    by_cases c : q % 2 = 1
    · rw [if_pos c, show a = sat a from by unfold sat; rw [if_neg (by omega)]]
      rw [show sat a = a from by unfold sat; rw [if_neg (by omega)]]
      have hp := rplus_sat (a * (q / 2) + a * (q / 2)) a (by omega) ha0
      rw [show sat a = a from by unfold sat; rw [if_neg (by omega)]] at hp
      rw [hp]
      simp only [Option.bind_some]
      have e : a * (q / 2) + a * (q / 2) + a = a * q := by
        have : q = q / 2 + q / 2 + 1 := by omega
        conv => rhs; rw [this]
        rw [Int.mul_add, Int.mul_add, Int.mul_one]
      rw [e]
      exact ih
    · rw [if_neg c]
      have e : a * (q / 2) + a * (q / 2) = a * q := by
        have : q = q / 2 + q / 2 := by omega
        conv => rhs; rw [this]
        rw [Int.mul_add]
      rw [e]
      exact ih
theorem rtimes_eq (a b : Int) (ha0 : 0 ≤ a) (ha1 : a ≤ 9223372036854775807) (hb0 : 0 ≤ b) (hb1 : b ≤ 9223372036854775807) (k : Nat) (hk : 64 ≤ k) : easementref09_Times.f k a b = some (sat (a * b)) := by
  unfold easementref09_Times.f
  have h := rtimes_loop a b ha0 ha1 hb0 hb1 63 k (by omega) (by omega)
  have e : b / 2 ^ 63 = 0 := Int.ediv_eq_zero_of_lt hb0 (by omega)
  rw [e, Int.mul_zero] at h
  exact h
def cub (n : Int) : Int := if n < 0 then 0 else sat (64 * sat (sat (n + 1) * sat (sat (n + 1) * sat (n + 1))))
def solv (r c p : Int) : Int := if r < 0 ∨ c < 0 ∨ p < 0 then 0 else sat (64 * sat (sat (r + c) * sat (sat (p + r) + 1)))
theorem cub_eq (n : Int) (h1 : n ≤ 9223372036854775807) : tick_Cubic.f n = some (cub n) := by
  unfold tick_Cubic.f cub
  by_cases c : n < 0
  · rw [if_pos c, if_pos c]
  have b1 := sat_bd (x := n + 1) (by omega)
  have m1 := Int.mul_nonneg b1.1 b1.1
  have b2 := sat_bd m1
  have m2 := Int.mul_nonneg b1.1 b2.1
  have b3 := sat_bd m2
  rw [if_neg c, if_neg c, plus_eq n 1 (by omega) h1 (by decide) (by decide)]
  simp only [Option.bind_some]
  rw [times_eq _ _ b1.1 b1.2 b1.1 b1.2]
  simp only [Option.bind_some]
  rw [times_eq _ _ b1.1 b1.2 b2.1 b2.2]
  simp only [Option.bind_some]
  rw [times_eq _ _ (by decide) (by decide) b3.1 b3.2]
  rfl
theorem rcub_eq (n : Int) (h1 : n ≤ 9223372036854775807) (k : Nat) (hk : 64 ≤ k) : easementref09_Cubic.f k n = some (cub n) := by
  unfold easementref09_Cubic.f cub
  by_cases c : n < 0
  · rw [if_pos c, if_pos c]
  have b1 := sat_bd (x := n + 1) (by omega)
  have m1 := Int.mul_nonneg b1.1 b1.1
  have b2 := sat_bd m1
  have m2 := Int.mul_nonneg b1.1 b2.1
  have b3 := sat_bd m2
  rw [if_neg c, if_neg c, rplus_eq n 1 (by omega) h1 (by decide) (by decide)]
  simp only [Option.bind_some]
  rw [rtimes_eq _ _ b1.1 b1.2 b1.1 b1.2 k hk]
  simp only [Option.bind_some]
  rw [rtimes_eq _ _ b1.1 b1.2 b2.1 b2.2 k hk]
  simp only [Option.bind_some]
  rw [rtimes_eq _ _ (by decide) (by decide) b3.1 b3.2 k hk]
  rfl
theorem solv_eq (r c p : Int) (h1 : r ≤ 9223372036854775807) (h2 : c ≤ 9223372036854775807) (h3 : p ≤ 9223372036854775807) (k : Nat) (hk : 64 ≤ k) : tick_Solver.f k r c p = some (solv r c p) := by
  obtain ⟨k, rfl⟩ : ∃ m, k = m + 1 := ⟨k - 1, by omega⟩
  unfold tick_Solver.f solv
  simp only [tick_Solver.j0]
  by_cases c1 : r < 0
  · rw [if_pos c1, if_pos trivial, if_pos (.inl c1)]
  rw [if_neg c1]
  by_cases c2 : c < 0
  · rw [if_pos c2, if_pos trivial, if_pos (.inr (.inl c2))]
  rw [if_neg c2]
  by_cases c3 : p < 0
  · rw [decide_eq_true c3, if_pos rfl, if_pos (.inr (.inr c3))]
  have b1 := sat_bd (x := r + c) (by omega)
  have b2 := sat_bd (x := p + r) (by omega)
  have b3 := sat_bd (x := sat (p + r) + 1) (by omega)
  have b4 := sat_bd (Int.mul_nonneg b1.1 b3.1)
  rw [decide_eq_false c3, if_neg Bool.false_ne_true, if_neg (by omega), plus_eq r c (by omega) h1 (by omega) h2]
  simp only [Option.bind_some]
  rw [plus_eq p r (by omega) h3 (by omega) h1]
  simp only [Option.bind_some]
  rw [plus_eq _ 1 b2.1 b2.2 (by decide) (by decide)]
  simp only [Option.bind_some]
  rw [times_eq _ _ b1.1 b1.2 b3.1 b3.2]
  simp only [Option.bind_some]
  rw [times_eq _ _ (by decide) (by decide) b4.1 b4.2]
  rfl
theorem rsolv_eq (r c p : Int) (h1 : r ≤ 9223372036854775807) (h2 : c ≤ 9223372036854775807) (h3 : p ≤ 9223372036854775807) (k : Nat) (hk : 65 ≤ k) : easementref09_Solver.f k r c p = some (solv r c p) := by
  obtain ⟨k, rfl⟩ : ∃ m, k = m + 1 := ⟨k - 1, by omega⟩
  unfold easementref09_Solver.f solv
  simp only [easementref09_Solver.j0]
  by_cases c1 : r < 0
  · rw [if_pos c1, if_pos trivial, if_pos (.inl c1)]
  rw [if_neg c1]
  by_cases c2 : c < 0
  · rw [if_pos c2, if_pos trivial, if_pos (.inr (.inl c2))]
  rw [if_neg c2]
  by_cases c3 : p < 0
  · rw [decide_eq_true c3, if_pos rfl, if_pos (.inr (.inr c3))]
  have b1 := sat_bd (x := r + c) (by omega)
  have b2 := sat_bd (x := p + r) (by omega)
  have b3 := sat_bd (x := sat (p + r) + 1) (by omega)
  have b4 := sat_bd (Int.mul_nonneg b1.1 b3.1)
  rw [decide_eq_false c3, if_neg Bool.false_ne_true, if_neg (by omega), rplus_eq r c (by omega) h1 (by omega) h2]
  simp only [Option.bind_some]
  rw [rplus_eq p r (by omega) h3 (by omega) h1]
  simp only [Option.bind_some]
  rw [rplus_eq _ 1 b2.1 b2.2 (by decide) (by decide)]
  simp only [Option.bind_some]
  rw [rtimes_eq _ _ b1.1 b1.2 b3.1 b3.2 k (by omega)]
  simp only [Option.bind_some]
  rw [rtimes_eq _ _ (by decide) (by decide) b4.1 b4.2 k (by omega)]
  rfl
theorem cub_mono {n m : Int} (h : n ≤ m) : cub n ≤ cub m := by
  unfold cub
  by_cases c : n < 0
  · rw [if_pos c]
    split
    · exact Int.le_refl _
    · have b1 := sat_bd (x := m + 1) (by omega)
      have b3 := sat_bd (Int.mul_nonneg b1.1 (sat_bd (Int.mul_nonneg b1.1 b1.1)).1)
      exact (sat_bd (by omega)).1
  rw [if_neg c, if_neg (by omega)]
  have a1 := sat_bd (x := n + 1) (by omega)
  have b1 := sat_bd (x := m + 1) (by omega)
  have m1 : sat (n + 1) ≤ sat (m + 1) := sat_mono (by omega)
  have m2 : sat (sat (n + 1) * sat (n + 1)) ≤ sat (sat (m + 1) * sat (m + 1)) := sat_mono (Int.mul_le_mul m1 m1 a1.1 b1.1)
  have m3 := sat_mono (Int.mul_le_mul m1 m2 (sat_bd (Int.mul_nonneg a1.1 a1.1)).1 b1.1)
  exact sat_mono (by omega)
theorem solv_mono {r c p r' c' p' : Int} (hr : 0 ≤ r) (hc : 0 ≤ c) (hp : 0 ≤ p) (h1 : r ≤ r') (h2 : c ≤ c') (h3 : p ≤ p') : solv r c p ≤ solv r' c' p' := by
  unfold solv
  rw [if_neg (by omega), if_neg (by omega)]
  have m1 : sat (r + c) ≤ sat (r' + c') := sat_mono (by omega)
  have m2 : sat (p + r) ≤ sat (p' + r') := sat_mono (by omega)
  have m3 : sat (sat (p + r) + 1) ≤ sat (sat (p' + r') + 1) := sat_mono (by omega)
  have b2 := sat_bd (x := p + r) (by omega)
  have m4 := sat_mono (Int.mul_le_mul m1 m3 (sat_bd (x := sat (p + r) + 1) (by omega)).1 (sat_bd (x := r' + c') (by omega)).1)
  exact sat_mono (by omega)
theorem wf_le {n : Int} (h : (Lit.int .i64 n).wf = true) : n ≤ 9223372036854775807 := by
  simp [Lit.wf, IntKind.min, IntKind.max, IntKind.signed, IntKind.bits] at h
  omega
theorem bounds_j (k : Nat) (n m s s' a b c a' b' c' : Int) (hn : n ≤ 9223372036854775807) (hm : m ≤ 9223372036854775807) (h2 : 0 ≤ a → 0 ≤ b → 0 ≤ c → a ≤ a' → b ≤ b' → c ≤ c' → s ≤ s') : easementlaw09_TickBounds.j0 (k + 1) n m s s' false a b c a' b' c' = some true := by
  have h1 : n ≤ m → cub n ≤ cub m := cub_mono
  simp only [easementlaw09_TickBounds.j0]
  rw [cub_eq n hn, cub_eq m hm]
  generalize cub n = x at *
  generalize cub m = y at *
  unfold easementlaw09_awake.f
  simp only [Option.bind_some]
  rw [if_neg Bool.false_ne_true]
  repeat' split
  all_goals first | rfl | (exfalso; first | contradiction | omega)
theorem TickBounds : easementlaw09_TickBounds.Pure := by
  intro n m a b c a' b' c' hn hm ⟨ha, hb, hc⟩ ⟨ha', hb', hc'⟩
  have hn := wf_le hn
  have hm := wf_le hm
  have ha := wf_le ha
  have hb := wf_le hb
  have hc := wf_le hc
  have ha' := wf_le ha'
  have hb' := wf_le hb'
  have hc' := wf_le hc'
  simp only at ha hb hc ha' hb' hc'
  refine ⟨100, ?_⟩
  unfold easementlaw09_TickBounds.f
  rw [solv_eq a b c ha hb hc 100 (by omega), solv_eq a' b' c' ha' hb' hc' 100 (by omega), cub_eq n hn, rcub_eq n hn 100 (by omega), rsolv_eq a b c ha hb hc 100 (by omega), rsolv_eq a' b' c' ha' hb' hc' 100 (by omega)]
  simp only [Option.bind_some]
  rw [if_pos trivial, if_pos trivial, bne_self_eq_false]
  exact bounds_j 99 n m _ _ a b c a' b' c' hn hm solv_mono

end Go.Proofs.Ytnabbhcagonlkaa.Pure
