/- Written for this claim by gp.py, a program of this session's, over the kit's print. Lean checks it. -/
import Derived.Test.YtnabbhcagonlkaaGTickCountsx0
import Derived.Test.YtnabbhcagonlkaaGTickCountsx3
import Derived.Test.YtnabbhcagonlkaaGTickCountshx
import Derived.Test.YtnabbhcagonlkaaGTickCountshcounter
import Derived.Test.YtnabbhcagonlkaaGTickCountshcounter2
import Derived.Test.YtnabbhcagonlkaaGTickCountshrows
import Derived.Test.YtnabbhcagonlkaaGTickCountshtawake
import Derived.Test.YtnabbhcagonlkaaGTickCountshtpure
import Derived.StillTailTactics
namespace Go.Proofs.Ytnabbhcagonlkaa.GTickCounts
open Go.RowKit Go.Proofs.YtnabbhcagonlkaaW.PrintWords Go.Proofs.YtnabbhcagonlkaaW.PrintLast Go.Proofs.YtnabbhcagonlkaaW.PrintMore
attribute [local go_sem] max2_int min2_int max_two min_two max_three min_three max_four min_four   -- for this text's walks alone
set_option linter.unusedVariables false
set_option linter.unusedSimpArgs false

--import Derived.StillTailTactics
def easementlaw09_TickCounts.f (l0 : List S76) (a1 : Int) : Option Bool := if l0.all (fun x => decide (x.f1 ≤ 9223372036854775807)) = true then some true else none
set_option maxHeartbeats 16000000 in
set_option maxRecDepth 100000 in
theorem easementlaw09_TickCounts.calls (A0 : Option Addr) (c0 : Nat) (l0 : List (S76)) (a1 : Int) (r : Bool) (w : World) (hr0 : Kd.C k76 w A0 l0.length l0) (hc0 : l0.length ≤ c0) (h : easementlaw09_TickCounts.f l0 a1 = some r) :
    Calls Try.prog 10 #[.slice A0 l0.length c0, .int .i64 a1] w fun e w' => e = .returned (.bool r) ∧ Below w.heap.size w w' := by
  unfold easementlaw09_TickCounts.f at h
  split at h
  rotate_left
  · exact absurd h (by simp)
  rename_i hall
  obtain rfl := Option.some.inj h
  have HF := Aside0.mk (show tfine l0 from fun x hx => of_decide_eq_true (List.all_eq_true.1 hall x hx))
  clear h hall
  have hu1 := Try.underlying73
  have hu2 := Try.underlying76
  have HR1 := Aside0.mk hr0
  have HC := Aside0.mk hc0
  clear hr0 hc0
  have HS := Aside0.mk (Bks.start (Below.refl w.heap.size w))
  have HR := Aside0.mk (Rws.start (w0 := w) (W := w))
  have HAW := Aside0.mk (fun (W : World) => easementlaw09_awake.calls true W rfl)
  by_cases c0 : (l0.length : Int) > 50
  · have c0b := eq_true c0
    have c0c : decide ((l0.length : Int) > 50) = true := decide_eq_true c0
    clear c0
    go_enter Try.func10, Try.ntmps10
    go_wp2_with (first | (go_at_call 31; (with_reducible refine (HAW.out _).mono ?_); rintro e wa ⟨rfl, hb⟩; have n_ := Aside0.mk (show Bks w wa [] from Bks.step HS.out hb); have m_ := Aside0.mk (show Rws w wa [] from Rws.step HR.out hb); clear HS HR; have HS := n_; have HR := m_; clear n_ m_; clear hb))
    go_ret
    exact ⟨rfl, HS.out.below⟩
  have c0b := eq_false c0
  have c0c : decide ((l0.length : Int) > 50) = false := decide_eq_false c0
  have HL := Aside0.mk (show l0.length ≤ 50 by omega)
  clear c0
  go_enter Try.func10, Try.ntmps10
  go_wp2_with (first | ((with_reducible refine gate_dst (N := 5) rfl ?_); refine box_event ?hg (N := 5) ?hd (cs := #[.int .i64 0, .int .i64 0, .int .i64 0, .int .i64 0, .int .i64 0, .int .i64 0, .int .i64 0]) (t := 73) ?hr ?_; (case hd => rfl); (case hg => rfl); (case hr => first | (go_simp; done) | (go_simp; rfl)); intro g5 hg5 wg5 xg5 bg5; have n_ := Aside0.mk (show Bks w wg5 [(g5, #[.int .i64 0, .int .i64 0, .int .i64 0, .int .i64 0, .int .i64 0, .int .i64 0, .int .i64 0], 73)] from Bks.new HS.out hg5 xg5 bg5); have m_ := Aside0.mk (show Rws w wg5 [] from Rws.step HR.out bg5); clear HS HR; have HS := n_; have HR := m_; clear n_ m_; clear hg5 xg5 bg5; have c_g5_0 : wg5.cell? ⟨g5, 0, none⟩ = some (.int .i64 0) := Bks.cell HS.out (i := 0) rfl 0 rfl; have c_g5_1 : wg5.cell? ⟨g5, 1, none⟩ = some (.int .i64 0) := Bks.cell HS.out (i := 0) rfl 1 rfl; have c_g5_2 : wg5.cell? ⟨g5, 2, none⟩ = some (.int .i64 0) := Bks.cell HS.out (i := 0) rfl 2 rfl; have c_g5_3 : wg5.cell? ⟨g5, 3, none⟩ = some (.int .i64 0) := Bks.cell HS.out (i := 0) rfl 3 rfl; have c_g5_4 : wg5.cell? ⟨g5, 4, none⟩ = some (.int .i64 0) := Bks.cell HS.out (i := 0) rfl 4 rfl; have c_g5_5 : wg5.cell? ⟨g5, 5, none⟩ = some (.int .i64 0) := Bks.cell HS.out (i := 0) rfl 5 rfl; have c_g5_6 : wg5.cell? ⟨g5, 6, none⟩ = some (.int .i64 0) := Bks.cell HS.out (i := 0) rfl 6 rfl; have f_g5 : ∀ j : Nat, wg5.frozen? ⟨g5, j, none⟩ = false := fun j => Bks.free HS.out (i := 0) rfl j))
  clear c_g5_0 c_g5_1 c_g5_2 c_g5_3 c_g5_4 c_g5_5 c_g5_6 f_g5 HR
  go_loopg [6, 7] l0.length (fun kq v6 v7 w' => ∃ (m i s0 s1 s2 s3 s4 s5 s6 : Int), v6 = .int .i64 m ∧ v7 = .int .i64 i ∧ Aside0 (0 ≤ i ∧ i + kq = l0.length) ∧ Aside0 (m = ttot (l0.take i.toNat) ∧ s0 = tst (l0.take i.toNat) 0 ∧ s1 = tst (l0.take i.toNat) 1 ∧ s2 = tst (l0.take i.toNat) 2 ∧ s3 = tst (l0.take i.toNat) 3 ∧ s4 = tst (l0.take i.toNat) 4 ∧ s5 = tst (l0.take i.toNat) 5 ∧ s6 = tst (l0.take i.toNat) 6) ∧ Aside0 (Bks w w' [(g5, #[.int .i64 s0, .int .i64 s1, .int .i64 s2, .int .i64 s3, .int .i64 s4, .int .i64 s5, .int .i64 s6], 73)]))
  case atStart => exact ⟨0, 0, 0, 0, 0, 0, 0, 0, 0, rfl, rfl, ⟨⟨by decide, by omega⟩⟩, ⟨⟨by rw [show List.take (Int.toNat 0) l0 = [] from rfl]; decide +kernel, rfl, rfl, rfl, rfl, rfl, rfl, rfl⟩⟩, HS⟩
  case round =>
    clear HS
    obtain ⟨m, i, s0, s1, s2, s3, s4, s5, s6, rfl, rfl, HJ, HE, HS⟩ := hrel
    by_cases c1 : i < (l0.length : Int)
    · obtain ⟨k1, rfl⟩ : ∃ k1, gk = k1 + 1 := ⟨gk - 1, by have := HJ.out; omega⟩
      have c1b : decide (i < (l0.length : Int)) = true := decide_eq_true c1
      have p1 : (0 ≤ i) = True := eq_true HJ.out.1
      have q1 : (i < (l0.length : Int)) = True := eq_true c1
      obtain ⟨ad1, e1, h0, h1⟩ := at_T76 HR1.out i HJ.out.1 c1
      cases e1
      have hj : wrap64 (i + 1) = i + 1 := by have := HJ.out; have := HL.out; unfold wrap64; omega
      have hil : i.toNat < l0.length := by have := HJ.out; omega
      have hx : rd_T76 l0 i = l0[i.toNat] := by have := rd76_eq hil; rwa [show ((i.toNat : Nat) : Int) = i from by have := HJ.out; omega] at this
      have hn := ttot_step HF.out hil
      have ht := fun j => tst_take hil j
      rw [← hx] at ht
      generalize rd_T76 l0 i = x at h0 h1 ht
      obtain ⟨r0, e0⟩ : ∃ r, r = addp 0 x.f0 s0 x.f1 := ⟨_, rfl⟩
      obtain ⟨r1, e1⟩ : ∃ r, r = addp 1 x.f0 s1 x.f1 := ⟨_, rfl⟩
      obtain ⟨r2, e2⟩ : ∃ r, r = addp 2 x.f0 s2 x.f1 := ⟨_, rfl⟩
      obtain ⟨r3, e3⟩ : ∃ r, r = addp 3 x.f0 s3 x.f1 := ⟨_, rfl⟩
      obtain ⟨r4, e4⟩ : ∃ r, r = addp 4 x.f0 s4 x.f1 := ⟨_, rfl⟩
      obtain ⟨r5, e5⟩ : ∃ r, r = addp 5 x.f0 s5 x.f1 := ⟨_, rfl⟩
      obtain ⟨r6, e6⟩ : ∃ r, r = addp 6 x.f0 s6 x.f1 := ⟨_, rfl⟩
      obtain ⟨n, en⟩ : ∃ n, n = tsum r0 r1 r2 r3 r4 r5 r6 7 := ⟨_, rfl⟩
      have E1 := Aside0.mk (show tick_Counter_Add.f s0 s1 s2 s3 s4 s5 s6 x.f0 x.f1 = some (r0, r1, r2, r3, r4, r5, r6) by unfold tick_Counter_Add.f; rw [← e0, ← e1, ← e2, ← e3, ← e4, ← e5, ← e6])
      have E2 := Aside0.mk (show tick_Counter_Total.f r0 r1 r2 r3 r4 r5 r6 = some (n, r0, r1, r2, r3, r4, r5, r6) by unfold tick_Counter_Total.f; rw [en])
      have HN := Aside0.mk (show n = ttot (l0.take (i + 1).toNat) ∧ r0 = tst (l0.take (i + 1).toNat) 0 ∧ r1 = tst (l0.take (i + 1).toNat) 1 ∧ r2 = tst (l0.take (i + 1).toNat) 2 ∧ r3 = tst (l0.take (i + 1).toNat) 3 ∧ r4 = tst (l0.take (i + 1).toNat) 4 ∧ r5 = tst (l0.take (i + 1).toNat) 5 ∧ r6 = tst (l0.take (i + 1).toNat) 6 by
        have hs : (i + 1).toNat = i.toNat + 1 := by have := HJ.out; omega
        obtain ⟨_, f0, f1, f2, f3, f4, f5, f6⟩ := HE.out
        rw [hs]
        unfold ttot
        rw [ht 0, ht 1, ht 2, ht 3, ht 4, ht 5, ht 6, en, ← f0, ← f1, ← f2, ← f3, ← f4, ← f5, ← f6]
        rw [← e0, ← e1, ← e2, ← e3, ← e4, ← e5, ← e6]
        exact ⟨rfl, rfl, rfl, rfl, rfl, rfl, rfl, rfl⟩)
      have cnb : decide (n < m) = false := decide_eq_false (by have h1 := HN.out.1; have h2 := HE.out.1; rw [show (i + 1).toNat = i.toNat + 1 from by have := HJ.out; omega] at h1; rw [h1, h2]; omega)
      clear hn ht hx hil c1 en e0 e1 e2 e3 e4 e5 e6
      replace h0 := (HS.out.below.cell (World.block_lt_of_cell? w _ h0)).trans h0
      replace h1 := (HS.out.below.cell (World.block_lt_of_cell? w _ h1)).trans h1
      have HR := Aside0.mk (Rws.start (w0 := w) (W := wr))
      go_upto_region 8 with fail
      refine wp_region_still_tail 10 (by kernel_rfl) (by kernel_rfl) ?_
      simp only [List.take_succ_cons, List.take_zero, List.drop_succ_cons, List.drop_zero]
      change wpStill _ _ (World.drew wr) (fun a' => wpList _ _ _ _ a' (World.drew wr)) _ _
      have n_ := Aside0.mk (show Bks w (World.drew wr) [(g5, #[.int .i64 s0, .int .i64 s1, .int .i64 s2, .int .i64 s3, .int .i64 s4, .int .i64 s5, .int .i64 s6], 73)] from Bks.drew HS.out)
      have m_ := Aside0.mk (show Rws w (World.drew wr) [] from Rws.drew HR.out)
      clear HS HR
      replace h0 := (show (World.drew wr).cell? _ = _ from h0)
      replace h1 := (show (World.drew wr).cell? _ = _ from h1)
      generalize World.drew wr = w8 at n_ m_ h0 h1 ⊢
      have HS := n_
      have HR := m_
      clear n_ m_
      have c_g5_0 : w8.cell? ⟨g5, 0, none⟩ = some (.int .i64 s0) := Bks.cell HS.out (i := 0) rfl 0 rfl
      have c_g5_1 : w8.cell? ⟨g5, 1, none⟩ = some (.int .i64 s1) := Bks.cell HS.out (i := 0) rfl 1 rfl
      have c_g5_2 : w8.cell? ⟨g5, 2, none⟩ = some (.int .i64 s2) := Bks.cell HS.out (i := 0) rfl 2 rfl
      have c_g5_3 : w8.cell? ⟨g5, 3, none⟩ = some (.int .i64 s3) := Bks.cell HS.out (i := 0) rfl 3 rfl
      have c_g5_4 : w8.cell? ⟨g5, 4, none⟩ = some (.int .i64 s4) := Bks.cell HS.out (i := 0) rfl 4 rfl
      have c_g5_5 : w8.cell? ⟨g5, 5, none⟩ = some (.int .i64 s5) := Bks.cell HS.out (i := 0) rfl 5 rfl
      have c_g5_6 : w8.cell? ⟨g5, 6, none⟩ = some (.int .i64 s6) := Bks.cell HS.out (i := 0) rfl 6 rfl
      have f_g5 : ∀ j : Nat, w8.frozen? ⟨g5, j, none⟩ = false := fun j => Bks.free HS.out (i := 0) rfl j
      repeat still_step
      refine wpStill_nil ?_
      go_wp2_with (first | (go_at_call 45; (with_reducible refine (tick_Counter_Add.calls g5 s0 s1 s2 s3 s4 s5 s6 x.f0 x.f1 r0 r1 r2 r3 r4 r5 r6 w _ ?hI_ ?hB_ E1.out).mono ?_); (case hI_ => exact (HS.out).at_ 0 _ _ _ rfl); (case hB_ => exact (HS.out).below); rintro e wc1 ⟨rfl, hI1, hB1, hK1⟩; have n_ := Aside0.mk (show Bks w wc1 [(g5, #[.int .i64 r0, .int .i64 r1, .int .i64 r2, .int .i64 r3, .int .i64 r4, .int .i64 r5, .int .i64 r6], 73)] from Bks.keep HS.out (i := 0) rfl hI1.1 hB1 hK1); have m_ := Aside0.mk (show Rws w wc1 [] from (Rws.keep HR.out HS.out (i := 0) rfl (by decide) hK1)); clear HS HR; clear c_g5_0 c_g5_1 c_g5_2 c_g5_3 c_g5_4 c_g5_5 c_g5_6 f_g5; have HS := n_; have HR := m_; clear n_ m_; clear hI1 hB1 hK1; have c_g5_0 : wc1.cell? ⟨g5, 0, none⟩ = some (.int .i64 r0) := Bks.cell HS.out (i := 0) rfl 0 rfl; have c_g5_1 : wc1.cell? ⟨g5, 1, none⟩ = some (.int .i64 r1) := Bks.cell HS.out (i := 0) rfl 1 rfl; have c_g5_2 : wc1.cell? ⟨g5, 2, none⟩ = some (.int .i64 r2) := Bks.cell HS.out (i := 0) rfl 2 rfl; have c_g5_3 : wc1.cell? ⟨g5, 3, none⟩ = some (.int .i64 r3) := Bks.cell HS.out (i := 0) rfl 3 rfl; have c_g5_4 : wc1.cell? ⟨g5, 4, none⟩ = some (.int .i64 r4) := Bks.cell HS.out (i := 0) rfl 4 rfl; have c_g5_5 : wc1.cell? ⟨g5, 5, none⟩ = some (.int .i64 r5) := Bks.cell HS.out (i := 0) rfl 5 rfl; have c_g5_6 : wc1.cell? ⟨g5, 6, none⟩ = some (.int .i64 r6) := Bks.cell HS.out (i := 0) rfl 6 rfl; have f_g5 : ∀ j : Nat, wc1.frozen? ⟨g5, j, none⟩ = false := fun j => Bks.free HS.out (i := 0) rfl j) | (go_at_call 46; (with_reducible refine (tick_Counter_Total.calls g5 r0 r1 r2 r3 r4 r5 r6 n r0 r1 r2 r3 r4 r5 r6 w _ ?hI_ ?hB_ E2.out).mono ?_); (case hI_ => exact (HS.out).at_ 0 _ _ _ rfl); (case hB_ => exact (HS.out).below); rintro e wc2 ⟨rfl, hI2, hB2, hK2⟩; have n_ := Aside0.mk (show Bks w wc2 [(g5, #[.int .i64 r0, .int .i64 r1, .int .i64 r2, .int .i64 r3, .int .i64 r4, .int .i64 r5, .int .i64 r6], 73)] from Bks.keep HS.out (i := 0) rfl hI2.1 hB2 hK2); have m_ := Aside0.mk (show Rws w wc2 [] from (Rws.keep HR.out HS.out (i := 0) rfl (by decide) hK2)); clear HS HR; clear c_g5_0 c_g5_1 c_g5_2 c_g5_3 c_g5_4 c_g5_5 c_g5_6 f_g5; have HS := n_; have HR := m_; clear n_ m_; clear hI2 hB2 hK2; have c_g5_0 : wc2.cell? ⟨g5, 0, none⟩ = some (.int .i64 r0) := Bks.cell HS.out (i := 0) rfl 0 rfl; have c_g5_1 : wc2.cell? ⟨g5, 1, none⟩ = some (.int .i64 r1) := Bks.cell HS.out (i := 0) rfl 1 rfl; have c_g5_2 : wc2.cell? ⟨g5, 2, none⟩ = some (.int .i64 r2) := Bks.cell HS.out (i := 0) rfl 2 rfl; have c_g5_3 : wc2.cell? ⟨g5, 3, none⟩ = some (.int .i64 r3) := Bks.cell HS.out (i := 0) rfl 3 rfl; have c_g5_4 : wc2.cell? ⟨g5, 4, none⟩ = some (.int .i64 r4) := Bks.cell HS.out (i := 0) rfl 4 rfl; have c_g5_5 : wc2.cell? ⟨g5, 5, none⟩ = some (.int .i64 r5) := Bks.cell HS.out (i := 0) rfl 5 rfl; have c_g5_6 : wc2.cell? ⟨g5, 6, none⟩ = some (.int .i64 r6) := Bks.cell HS.out (i := 0) rfl 6 rfl; have f_g5 : ∀ j : Nat, wc2.frozen? ⟨g5, j, none⟩ = false := fun j => Bks.free HS.out (i := 0) rfl j))
      go_roundg k1
      case measure => omega
      case rel => exact ⟨n, i + 1, r0, r1, r2, r3, r4, r5, r6, rfl, by first | rfl | rw [hj], ⟨by have := HJ.out; omega⟩, HN, HS⟩
    have c1b : decide (i < (l0.length : Int)) = false := decide_eq_false c1
    have HE2 := Aside0.mk (show s0 = tst l0 0 ∧ s1 = tst l0 1 ∧ s2 = tst l0 2 ∧ s3 = tst l0 3 ∧ s4 = tst l0 4 ∧ s5 = tst l0 5 ∧ s6 = tst l0 6 by
      obtain ⟨_, hh⟩ := HE.out
      rw [List.take_of_length_le (by have := HJ.out; omega)] at hh
      exact hh)
    clear c1 HE
    have HOF := Aside0.mk (fun (p : Int) (W : World) (hb : Below w.heap.size w W) => easementref09_Of.calls 52 A0 c0 l0 p (atp s0 s1 s2 s3 s4 s5 s6 p) W (Kd.C_below HR1.out hb) HC.out (by obtain ⟨f0, f1, f2, f3, f4, f5, f6⟩ := HE2.out; rw [f0, f1, f2, f3, f4, f5, f6]; exact tof_eq HF.out HL.out p))
    go_wp2
    go_loopg [9, 10] 7 (fun kq v9 v10 w' => ∃ (t p : Int), v9 = .int .i64 t ∧ v10 = .int .i64 p ∧ Aside0 (0 ≤ p ∧ p + kq = 7 ∧ t = tsum s0 s1 s2 s3 s4 s5 s6 p.toNat) ∧ Aside0 (Bks w w' [(g5, #[.int .i64 s0, .int .i64 s1, .int .i64 s2, .int .i64 s3, .int .i64 s4, .int .i64 s5, .int .i64 s6], 73)]))
    case atStart => exact ⟨0, 0, rfl, rfl, ⟨⟨by decide, rfl, rfl⟩⟩, HS⟩
    case round =>
      clear HS
      obtain ⟨t, p, rfl, rfl, HP, HS⟩ := hrel
      have HR := Aside0.mk (Rws.start (w0 := w) (W := wr))
      by_cases c2 : p < 7
      · obtain ⟨k2, rfl⟩ : ∃ k2, gk = k2 + 1 := ⟨gk - 1, by have := HP.out; omega⟩
        have c2b : decide (p < 7) = true := decide_eq_true c2
        have hp : wrap64 (p + 1) = p + 1 := by have := HP.out; unfold wrap64; omega
        clear c2
        have E3 := Aside0.mk (show tick_Counter_Of.f s0 s1 s2 s3 s4 s5 s6 p = some (atp s0 s1 s2 s3 s4 s5 s6 p, s0, s1, s2, s3, s4, s5, s6) from rfl)
        have HT := Aside0.mk (show addn t (atp s0 s1 s2 s3 s4 s5 s6 p) = tsum s0 s1 s2 s3 s4 s5 s6 (p + 1).toNat by rw [HP.out.2.2, show (p + 1).toNat = p.toNat + 1 from by have := HP.out; omega, tsum, show ((p.toNat : Nat) : Int) = p from by have := HP.out; omega])
        have E4 := Aside0.mk (fun (W : World) => easementref09_Plus.calls t (atp s0 s1 s2 s3 s4 s5 s6 p) (addn t (atp s0 s1 s2 s3 s4 s5 s6 p)) W (rplus_addn _ _))
        generalize addn t (atp s0 s1 s2 s3 s4 s5 s6 p) = t2 at HT E4
        have E5 := Aside0.mk (fun (W : World) (hb : Below w.heap.size w W) => HOF.out p W hb)
        generalize atp s0 s1 s2 s3 s4 s5 s6 p = q at E3 E4 E5
        have c_g5_0 : wr.cell? ⟨g5, 0, none⟩ = some (.int .i64 s0) := Bks.cell HS.out (i := 0) rfl 0 rfl
        have c_g5_1 : wr.cell? ⟨g5, 1, none⟩ = some (.int .i64 s1) := Bks.cell HS.out (i := 0) rfl 1 rfl
        have c_g5_2 : wr.cell? ⟨g5, 2, none⟩ = some (.int .i64 s2) := Bks.cell HS.out (i := 0) rfl 2 rfl
        have c_g5_3 : wr.cell? ⟨g5, 3, none⟩ = some (.int .i64 s3) := Bks.cell HS.out (i := 0) rfl 3 rfl
        have c_g5_4 : wr.cell? ⟨g5, 4, none⟩ = some (.int .i64 s4) := Bks.cell HS.out (i := 0) rfl 4 rfl
        have c_g5_5 : wr.cell? ⟨g5, 5, none⟩ = some (.int .i64 s5) := Bks.cell HS.out (i := 0) rfl 5 rfl
        have c_g5_6 : wr.cell? ⟨g5, 6, none⟩ = some (.int .i64 s6) := Bks.cell HS.out (i := 0) rfl 6 rfl
        have f_g5 : ∀ j : Nat, wr.frozen? ⟨g5, j, none⟩ = false := fun j => Bks.free HS.out (i := 0) rfl j
        go_wp2_with (first | (go_at_call 48; (with_reducible refine (E5.out _ HS.out.below).mono ?_); rintro e wd1 ⟨rfl, hd⟩; have hb := Drawn0.below hd; clear hd; have n_ := Aside0.mk (show Bks w wd1 [(g5, #[.int .i64 s0, .int .i64 s1, .int .i64 s2, .int .i64 s3, .int .i64 s4, .int .i64 s5, .int .i64 s6], 73)] from Bks.step HS.out hb); have m_ := Aside0.mk (show Rws w wd1 [] from Rws.step HR.out hb); clear HS HR; clear c_g5_0 c_g5_1 c_g5_2 c_g5_3 c_g5_4 c_g5_5 c_g5_6 f_g5; have HS := n_; have HR := m_; clear n_ m_; clear hb; have c_g5_0 : wd1.cell? ⟨g5, 0, none⟩ = some (.int .i64 s0) := Bks.cell HS.out (i := 0) rfl 0 rfl; have c_g5_1 : wd1.cell? ⟨g5, 1, none⟩ = some (.int .i64 s1) := Bks.cell HS.out (i := 0) rfl 1 rfl; have c_g5_2 : wd1.cell? ⟨g5, 2, none⟩ = some (.int .i64 s2) := Bks.cell HS.out (i := 0) rfl 2 rfl; have c_g5_3 : wd1.cell? ⟨g5, 3, none⟩ = some (.int .i64 s3) := Bks.cell HS.out (i := 0) rfl 3 rfl; have c_g5_4 : wd1.cell? ⟨g5, 4, none⟩ = some (.int .i64 s4) := Bks.cell HS.out (i := 0) rfl 4 rfl; have c_g5_5 : wd1.cell? ⟨g5, 5, none⟩ = some (.int .i64 s5) := Bks.cell HS.out (i := 0) rfl 5 rfl; have c_g5_6 : wd1.cell? ⟨g5, 6, none⟩ = some (.int .i64 s6) := Bks.cell HS.out (i := 0) rfl 6 rfl; have f_g5 : ∀ j : Nat, wd1.frozen? ⟨g5, j, none⟩ = false := fun j => Bks.free HS.out (i := 0) rfl j) | (go_at_call 47; (with_reducible refine (E4.out _).mono ?_); rintro e wd2 ⟨rfl, hd⟩; have hb := Drawn0.below hd; clear hd; have n_ := Aside0.mk (show Bks w wd2 [(g5, #[.int .i64 s0, .int .i64 s1, .int .i64 s2, .int .i64 s3, .int .i64 s4, .int .i64 s5, .int .i64 s6], 73)] from Bks.step HS.out hb); have m_ := Aside0.mk (show Rws w wd2 [] from Rws.step HR.out hb); clear HS HR; clear c_g5_0 c_g5_1 c_g5_2 c_g5_3 c_g5_4 c_g5_5 c_g5_6 f_g5; have HS := n_; have HR := m_; clear n_ m_; clear hb; have c_g5_0 : wd2.cell? ⟨g5, 0, none⟩ = some (.int .i64 s0) := Bks.cell HS.out (i := 0) rfl 0 rfl; have c_g5_1 : wd2.cell? ⟨g5, 1, none⟩ = some (.int .i64 s1) := Bks.cell HS.out (i := 0) rfl 1 rfl; have c_g5_2 : wd2.cell? ⟨g5, 2, none⟩ = some (.int .i64 s2) := Bks.cell HS.out (i := 0) rfl 2 rfl; have c_g5_3 : wd2.cell? ⟨g5, 3, none⟩ = some (.int .i64 s3) := Bks.cell HS.out (i := 0) rfl 3 rfl; have c_g5_4 : wd2.cell? ⟨g5, 4, none⟩ = some (.int .i64 s4) := Bks.cell HS.out (i := 0) rfl 4 rfl; have c_g5_5 : wd2.cell? ⟨g5, 5, none⟩ = some (.int .i64 s5) := Bks.cell HS.out (i := 0) rfl 5 rfl; have c_g5_6 : wd2.cell? ⟨g5, 6, none⟩ = some (.int .i64 s6) := Bks.cell HS.out (i := 0) rfl 6 rfl; have f_g5 : ∀ j : Nat, wd2.frozen? ⟨g5, j, none⟩ = false := fun j => Bks.free HS.out (i := 0) rfl j) | (go_at_call 49; (with_reducible refine (tick_Counter_Of.calls g5 s0 s1 s2 s3 s4 s5 s6 p q s0 s1 s2 s3 s4 s5 s6 w _ ?hI_ ?hB_ E3.out).mono ?_); (case hI_ => exact (HS.out).at_ 0 _ _ _ rfl); (case hB_ => exact (HS.out).below); rintro e wc1 ⟨rfl, hI1, hB1, hK1⟩; have n_ := Aside0.mk (show Bks w wc1 [(g5, #[.int .i64 s0, .int .i64 s1, .int .i64 s2, .int .i64 s3, .int .i64 s4, .int .i64 s5, .int .i64 s6], 73)] from Bks.keep HS.out (i := 0) rfl hI1.1 hB1 hK1); have m_ := Aside0.mk (show Rws w wc1 [] from (Rws.keep HR.out HS.out (i := 0) rfl (by decide) hK1)); clear HS HR; clear c_g5_0 c_g5_1 c_g5_2 c_g5_3 c_g5_4 c_g5_5 c_g5_6 f_g5; have HS := n_; have HR := m_; clear n_ m_; clear hI1 hB1 hK1; have c_g5_0 : wc1.cell? ⟨g5, 0, none⟩ = some (.int .i64 s0) := Bks.cell HS.out (i := 0) rfl 0 rfl; have c_g5_1 : wc1.cell? ⟨g5, 1, none⟩ = some (.int .i64 s1) := Bks.cell HS.out (i := 0) rfl 1 rfl; have c_g5_2 : wc1.cell? ⟨g5, 2, none⟩ = some (.int .i64 s2) := Bks.cell HS.out (i := 0) rfl 2 rfl; have c_g5_3 : wc1.cell? ⟨g5, 3, none⟩ = some (.int .i64 s3) := Bks.cell HS.out (i := 0) rfl 3 rfl; have c_g5_4 : wc1.cell? ⟨g5, 4, none⟩ = some (.int .i64 s4) := Bks.cell HS.out (i := 0) rfl 4 rfl; have c_g5_5 : wc1.cell? ⟨g5, 5, none⟩ = some (.int .i64 s5) := Bks.cell HS.out (i := 0) rfl 5 rfl; have c_g5_6 : wc1.cell? ⟨g5, 6, none⟩ = some (.int .i64 s6) := Bks.cell HS.out (i := 0) rfl 6 rfl; have f_g5 : ∀ j : Nat, wc1.frozen? ⟨g5, j, none⟩ = false := fun j => Bks.free HS.out (i := 0) rfl j))
        go_roundg k2
        case measure => omega
        case rel => exact ⟨t2, p + 1, rfl, by first | rfl | rw [hp], ⟨by have := HP.out; exact ⟨by omega, by omega, HT.out⟩⟩, HS⟩
      have c2b : decide (p < 7) = false := decide_eq_false c2
      have E6 := Aside0.mk (show tick_Counter_Total.f s0 s1 s2 s3 s4 s5 s6 = some (t, s0, s1, s2, s3, s4, s5, s6) by unfold tick_Counter_Total.f; rw [HP.out.2.2, show p.toNat = 7 from by have := HP.out; omega])
      clear c2
      have E3 := Aside0.mk (show tick_Counter_Of.f s0 s1 s2 s3 s4 s5 s6 a1 = some (atp s0 s1 s2 s3 s4 s5 s6 a1, s0, s1, s2, s3, s4, s5, s6) from rfl)
      have E5 := Aside0.mk (fun (W : World) (hb : Below w.heap.size w W) => HOF.out a1 W hb)
      generalize atp s0 s1 s2 s3 s4 s5 s6 a1 = q at E3 E5
      have c_g5_0 : wr.cell? ⟨g5, 0, none⟩ = some (.int .i64 s0) := Bks.cell HS.out (i := 0) rfl 0 rfl
      have c_g5_1 : wr.cell? ⟨g5, 1, none⟩ = some (.int .i64 s1) := Bks.cell HS.out (i := 0) rfl 1 rfl
      have c_g5_2 : wr.cell? ⟨g5, 2, none⟩ = some (.int .i64 s2) := Bks.cell HS.out (i := 0) rfl 2 rfl
      have c_g5_3 : wr.cell? ⟨g5, 3, none⟩ = some (.int .i64 s3) := Bks.cell HS.out (i := 0) rfl 3 rfl
      have c_g5_4 : wr.cell? ⟨g5, 4, none⟩ = some (.int .i64 s4) := Bks.cell HS.out (i := 0) rfl 4 rfl
      have c_g5_5 : wr.cell? ⟨g5, 5, none⟩ = some (.int .i64 s5) := Bks.cell HS.out (i := 0) rfl 5 rfl
      have c_g5_6 : wr.cell? ⟨g5, 6, none⟩ = some (.int .i64 s6) := Bks.cell HS.out (i := 0) rfl 6 rfl
      have f_g5 : ∀ j : Nat, wr.frozen? ⟨g5, j, none⟩ = false := fun j => Bks.free HS.out (i := 0) rfl j
      go_wp2_with (first | (go_at_call 49; (with_reducible refine (tick_Counter_Of.calls g5 s0 s1 s2 s3 s4 s5 s6 a1 q s0 s1 s2 s3 s4 s5 s6 w _ ?hI_ ?hB_ E3.out).mono ?_); (case hI_ => exact (HS.out).at_ 0 _ _ _ rfl); (case hB_ => exact (HS.out).below); rintro e wc1 ⟨rfl, hI1, hB1, hK1⟩; have n_ := Aside0.mk (show Bks w wc1 [(g5, #[.int .i64 s0, .int .i64 s1, .int .i64 s2, .int .i64 s3, .int .i64 s4, .int .i64 s5, .int .i64 s6], 73)] from Bks.keep HS.out (i := 0) rfl hI1.1 hB1 hK1); have m_ := Aside0.mk (show Rws w wc1 [] from (Rws.keep HR.out HS.out (i := 0) rfl (by decide) hK1)); clear HS HR; clear c_g5_0 c_g5_1 c_g5_2 c_g5_3 c_g5_4 c_g5_5 c_g5_6 f_g5; have HS := n_; have HR := m_; clear n_ m_; clear hI1 hB1 hK1; have c_g5_0 : wc1.cell? ⟨g5, 0, none⟩ = some (.int .i64 s0) := Bks.cell HS.out (i := 0) rfl 0 rfl; have c_g5_1 : wc1.cell? ⟨g5, 1, none⟩ = some (.int .i64 s1) := Bks.cell HS.out (i := 0) rfl 1 rfl; have c_g5_2 : wc1.cell? ⟨g5, 2, none⟩ = some (.int .i64 s2) := Bks.cell HS.out (i := 0) rfl 2 rfl; have c_g5_3 : wc1.cell? ⟨g5, 3, none⟩ = some (.int .i64 s3) := Bks.cell HS.out (i := 0) rfl 3 rfl; have c_g5_4 : wc1.cell? ⟨g5, 4, none⟩ = some (.int .i64 s4) := Bks.cell HS.out (i := 0) rfl 4 rfl; have c_g5_5 : wc1.cell? ⟨g5, 5, none⟩ = some (.int .i64 s5) := Bks.cell HS.out (i := 0) rfl 5 rfl; have c_g5_6 : wc1.cell? ⟨g5, 6, none⟩ = some (.int .i64 s6) := Bks.cell HS.out (i := 0) rfl 6 rfl; have f_g5 : ∀ j : Nat, wc1.frozen? ⟨g5, j, none⟩ = false := fun j => Bks.free HS.out (i := 0) rfl j) | (go_at_call 46; (with_reducible refine (tick_Counter_Total.calls g5 s0 s1 s2 s3 s4 s5 s6 t s0 s1 s2 s3 s4 s5 s6 w _ ?hI_ ?hB_ E6.out).mono ?_); (case hI_ => exact (HS.out).at_ 0 _ _ _ rfl); (case hB_ => exact (HS.out).below); rintro e wc2 ⟨rfl, hI2, hB2, hK2⟩; have n_ := Aside0.mk (show Bks w wc2 [(g5, #[.int .i64 s0, .int .i64 s1, .int .i64 s2, .int .i64 s3, .int .i64 s4, .int .i64 s5, .int .i64 s6], 73)] from Bks.keep HS.out (i := 0) rfl hI2.1 hB2 hK2); have m_ := Aside0.mk (show Rws w wc2 [] from (Rws.keep HR.out HS.out (i := 0) rfl (by decide) hK2)); clear HS HR; clear c_g5_0 c_g5_1 c_g5_2 c_g5_3 c_g5_4 c_g5_5 c_g5_6 f_g5; have HS := n_; have HR := m_; clear n_ m_; clear hI2 hB2 hK2; have c_g5_0 : wc2.cell? ⟨g5, 0, none⟩ = some (.int .i64 s0) := Bks.cell HS.out (i := 0) rfl 0 rfl; have c_g5_1 : wc2.cell? ⟨g5, 1, none⟩ = some (.int .i64 s1) := Bks.cell HS.out (i := 0) rfl 1 rfl; have c_g5_2 : wc2.cell? ⟨g5, 2, none⟩ = some (.int .i64 s2) := Bks.cell HS.out (i := 0) rfl 2 rfl; have c_g5_3 : wc2.cell? ⟨g5, 3, none⟩ = some (.int .i64 s3) := Bks.cell HS.out (i := 0) rfl 3 rfl; have c_g5_4 : wc2.cell? ⟨g5, 4, none⟩ = some (.int .i64 s4) := Bks.cell HS.out (i := 0) rfl 4 rfl; have c_g5_5 : wc2.cell? ⟨g5, 5, none⟩ = some (.int .i64 s5) := Bks.cell HS.out (i := 0) rfl 5 rfl; have c_g5_6 : wc2.cell? ⟨g5, 6, none⟩ = some (.int .i64 s6) := Bks.cell HS.out (i := 0) rfl 6 rfl; have f_g5 : ∀ j : Nat, wc2.frozen? ⟨g5, j, none⟩ = false := fun j => Bks.free HS.out (i := 0) rfl j) | (go_at_call 48; (with_reducible refine (E5.out _ HS.out.below).mono ?_); rintro e wd1 ⟨rfl, hd⟩; have hb := Drawn0.below hd; clear hd; have n_ := Aside0.mk (show Bks w wd1 [(g5, #[.int .i64 s0, .int .i64 s1, .int .i64 s2, .int .i64 s3, .int .i64 s4, .int .i64 s5, .int .i64 s6], 73)] from Bks.step HS.out hb); have m_ := Aside0.mk (show Rws w wd1 [] from Rws.step HR.out hb); clear HS HR; clear c_g5_0 c_g5_1 c_g5_2 c_g5_3 c_g5_4 c_g5_5 c_g5_6 f_g5; have HS := n_; have HR := m_; clear n_ m_; clear hb; have c_g5_0 : wd1.cell? ⟨g5, 0, none⟩ = some (.int .i64 s0) := Bks.cell HS.out (i := 0) rfl 0 rfl; have c_g5_1 : wd1.cell? ⟨g5, 1, none⟩ = some (.int .i64 s1) := Bks.cell HS.out (i := 0) rfl 1 rfl; have c_g5_2 : wd1.cell? ⟨g5, 2, none⟩ = some (.int .i64 s2) := Bks.cell HS.out (i := 0) rfl 2 rfl; have c_g5_3 : wd1.cell? ⟨g5, 3, none⟩ = some (.int .i64 s3) := Bks.cell HS.out (i := 0) rfl 3 rfl; have c_g5_4 : wd1.cell? ⟨g5, 4, none⟩ = some (.int .i64 s4) := Bks.cell HS.out (i := 0) rfl 4 rfl; have c_g5_5 : wd1.cell? ⟨g5, 5, none⟩ = some (.int .i64 s5) := Bks.cell HS.out (i := 0) rfl 5 rfl; have c_g5_6 : wd1.cell? ⟨g5, 6, none⟩ = some (.int .i64 s6) := Bks.cell HS.out (i := 0) rfl 6 rfl; have f_g5 : ∀ j : Nat, wd1.frozen? ⟨g5, j, none⟩ = false := fun j => Bks.free HS.out (i := 0) rfl j) | (go_at_call 45; (with_reducible refine (tick_Counter_Add.nil 0 1 _).mono ?_); rintro e wd2 ⟨rfl, hd⟩; have hb := Drawn0.below hd; clear hd; have n_ := Aside0.mk (show Bks w wd2 [(g5, #[.int .i64 s0, .int .i64 s1, .int .i64 s2, .int .i64 s3, .int .i64 s4, .int .i64 s5, .int .i64 s6], 73)] from Bks.step HS.out hb); have m_ := Aside0.mk (show Rws w wd2 [] from Rws.step HR.out hb); clear HS HR; clear c_g5_0 c_g5_1 c_g5_2 c_g5_3 c_g5_4 c_g5_5 c_g5_6 f_g5; have HS := n_; have HR := m_; clear n_ m_; clear hb; have c_g5_0 : wd2.cell? ⟨g5, 0, none⟩ = some (.int .i64 s0) := Bks.cell HS.out (i := 0) rfl 0 rfl; have c_g5_1 : wd2.cell? ⟨g5, 1, none⟩ = some (.int .i64 s1) := Bks.cell HS.out (i := 0) rfl 1 rfl; have c_g5_2 : wd2.cell? ⟨g5, 2, none⟩ = some (.int .i64 s2) := Bks.cell HS.out (i := 0) rfl 2 rfl; have c_g5_3 : wd2.cell? ⟨g5, 3, none⟩ = some (.int .i64 s3) := Bks.cell HS.out (i := 0) rfl 3 rfl; have c_g5_4 : wd2.cell? ⟨g5, 4, none⟩ = some (.int .i64 s4) := Bks.cell HS.out (i := 0) rfl 4 rfl; have c_g5_5 : wd2.cell? ⟨g5, 5, none⟩ = some (.int .i64 s5) := Bks.cell HS.out (i := 0) rfl 5 rfl; have c_g5_6 : wd2.cell? ⟨g5, 6, none⟩ = some (.int .i64 s6) := Bks.cell HS.out (i := 0) rfl 6 rfl; have f_g5 : ∀ j : Nat, wd2.frozen? ⟨g5, j, none⟩ = false := fun j => Bks.free HS.out (i := 0) rfl j) | (go_at_call 49; (with_reducible refine (tick_Counter_Of.nil 0 _).mono ?_); rintro e wd3 ⟨rfl, hd⟩; have hb := Drawn0.below hd; clear hd; have n_ := Aside0.mk (show Bks w wd3 [(g5, #[.int .i64 s0, .int .i64 s1, .int .i64 s2, .int .i64 s3, .int .i64 s4, .int .i64 s5, .int .i64 s6], 73)] from Bks.step HS.out hb); have m_ := Aside0.mk (show Rws w wd3 [] from Rws.step HR.out hb); clear HS HR; clear c_g5_0 c_g5_1 c_g5_2 c_g5_3 c_g5_4 c_g5_5 c_g5_6 f_g5; have HS := n_; have HR := m_; clear n_ m_; clear hb; have c_g5_0 : wd3.cell? ⟨g5, 0, none⟩ = some (.int .i64 s0) := Bks.cell HS.out (i := 0) rfl 0 rfl; have c_g5_1 : wd3.cell? ⟨g5, 1, none⟩ = some (.int .i64 s1) := Bks.cell HS.out (i := 0) rfl 1 rfl; have c_g5_2 : wd3.cell? ⟨g5, 2, none⟩ = some (.int .i64 s2) := Bks.cell HS.out (i := 0) rfl 2 rfl; have c_g5_3 : wd3.cell? ⟨g5, 3, none⟩ = some (.int .i64 s3) := Bks.cell HS.out (i := 0) rfl 3 rfl; have c_g5_4 : wd3.cell? ⟨g5, 4, none⟩ = some (.int .i64 s4) := Bks.cell HS.out (i := 0) rfl 4 rfl; have c_g5_5 : wd3.cell? ⟨g5, 5, none⟩ = some (.int .i64 s5) := Bks.cell HS.out (i := 0) rfl 5 rfl; have c_g5_6 : wd3.cell? ⟨g5, 6, none⟩ = some (.int .i64 s6) := Bks.cell HS.out (i := 0) rfl 6 rfl; have f_g5 : ∀ j : Nat, wd3.frozen? ⟨g5, j, none⟩ = false := fun j => Bks.free HS.out (i := 0) rfl j) | (go_at_call 46; (with_reducible refine (tick_Counter_Total.nil _).mono ?_); rintro e wd4 ⟨rfl, hd⟩; have hb := Drawn0.below hd; clear hd; have n_ := Aside0.mk (show Bks w wd4 [(g5, #[.int .i64 s0, .int .i64 s1, .int .i64 s2, .int .i64 s3, .int .i64 s4, .int .i64 s5, .int .i64 s6], 73)] from Bks.step HS.out hb); have m_ := Aside0.mk (show Rws w wd4 [] from Rws.step HR.out hb); clear HS HR; clear c_g5_0 c_g5_1 c_g5_2 c_g5_3 c_g5_4 c_g5_5 c_g5_6 f_g5; have HS := n_; have HR := m_; clear n_ m_; clear hb; have c_g5_0 : wd4.cell? ⟨g5, 0, none⟩ = some (.int .i64 s0) := Bks.cell HS.out (i := 0) rfl 0 rfl; have c_g5_1 : wd4.cell? ⟨g5, 1, none⟩ = some (.int .i64 s1) := Bks.cell HS.out (i := 0) rfl 1 rfl; have c_g5_2 : wd4.cell? ⟨g5, 2, none⟩ = some (.int .i64 s2) := Bks.cell HS.out (i := 0) rfl 2 rfl; have c_g5_3 : wd4.cell? ⟨g5, 3, none⟩ = some (.int .i64 s3) := Bks.cell HS.out (i := 0) rfl 3 rfl; have c_g5_4 : wd4.cell? ⟨g5, 4, none⟩ = some (.int .i64 s4) := Bks.cell HS.out (i := 0) rfl 4 rfl; have c_g5_5 : wd4.cell? ⟨g5, 5, none⟩ = some (.int .i64 s5) := Bks.cell HS.out (i := 0) rfl 5 rfl; have c_g5_6 : wd4.cell? ⟨g5, 6, none⟩ = some (.int .i64 s6) := Bks.cell HS.out (i := 0) rfl 6 rfl; have f_g5 : ∀ j : Nat, wd4.frozen? ⟨g5, j, none⟩ = false := fun j => Bks.free HS.out (i := 0) rfl j) | (go_at_call 31; (with_reducible refine (HAW.out _).mono ?_); rintro e wd5 ⟨rfl, hb⟩; have n_ := Aside0.mk (show Bks w wd5 [(g5, #[.int .i64 s0, .int .i64 s1, .int .i64 s2, .int .i64 s3, .int .i64 s4, .int .i64 s5, .int .i64 s6], 73)] from Bks.step HS.out hb); have m_ := Aside0.mk (show Rws w wd5 [] from Rws.step HR.out hb); clear HS HR; clear c_g5_0 c_g5_1 c_g5_2 c_g5_3 c_g5_4 c_g5_5 c_g5_6 f_g5; have HS := n_; have HR := m_; clear n_ m_; clear hb; have c_g5_0 : wd5.cell? ⟨g5, 0, none⟩ = some (.int .i64 s0) := Bks.cell HS.out (i := 0) rfl 0 rfl; have c_g5_1 : wd5.cell? ⟨g5, 1, none⟩ = some (.int .i64 s1) := Bks.cell HS.out (i := 0) rfl 1 rfl; have c_g5_2 : wd5.cell? ⟨g5, 2, none⟩ = some (.int .i64 s2) := Bks.cell HS.out (i := 0) rfl 2 rfl; have c_g5_3 : wd5.cell? ⟨g5, 3, none⟩ = some (.int .i64 s3) := Bks.cell HS.out (i := 0) rfl 3 rfl; have c_g5_4 : wd5.cell? ⟨g5, 4, none⟩ = some (.int .i64 s4) := Bks.cell HS.out (i := 0) rfl 4 rfl; have c_g5_5 : wd5.cell? ⟨g5, 5, none⟩ = some (.int .i64 s5) := Bks.cell HS.out (i := 0) rfl 5 rfl; have c_g5_6 : wd5.cell? ⟨g5, 6, none⟩ = some (.int .i64 s6) := Bks.cell HS.out (i := 0) rfl 6 rfl; have f_g5 : ∀ j : Nat, wd5.frozen? ⟨g5, j, none⟩ = false := fun j => Bks.free HS.out (i := 0) rfl j))
      go_ret
      exact ⟨rfl, HS.out.below⟩

end Go.Proofs.Ytnabbhcagonlkaa.GTickCounts
