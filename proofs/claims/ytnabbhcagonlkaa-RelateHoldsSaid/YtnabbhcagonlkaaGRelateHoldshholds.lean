/- Written for this claim by gp.py, a program of this session's, over the kit's print. Lean checks it. -/
import Derived.Test.YtnabbhcagonlkaaGRelateHoldsx0
import Derived.Test.YtnabbhcagonlkaaGRelateHoldsx3
import Derived.Test.YtnabbhcagonlkaaGRelateHoldshx
import Derived.Test.YtnabbhcagonlkaaGRelateHoldshrows
namespace Go.Proofs.Ytnabbhcagonlkaa.GRelateHolds
open Go.RowKit Go.Proofs.YtnabbhcagonlkaaW.PrintWords Go.Proofs.YtnabbhcagonlkaaW.PrintLast Go.Proofs.YtnabbhcagonlkaaW.PrintMore
attribute [local go_sem] max2_int min2_int max_two min_two max_three min_three max_four min_four   -- for this text's walks alone
set_option linter.unusedVariables false
set_option linter.unusedSimpArgs false

def hpred (F : Nat) (a b : Int) : Bool := if F = 21 then true else if F = 20 then a == b else decide (a ≥ b)
def relate_Holds.f (l : List S35) (F : Nat) : Option Bool := if F = 21 ∨ F = 20 ∨ F = 22 then some (l.all (fun n => hpred F n.f0 n.f1)) else none
theorem hold_rd {l : List S35} (p : S35 → Bool) (h : ∀ i : Nat, i < l.length → p (rd_T35 l (i : Int)) = true) : l.all p = true := by
  rw [List.all_eq_true]
  intro s hs
  obtain ⟨i, hi, rfl⟩ := List.getElem_of_mem hs
  have := h i hi
  unfold rd_T35 at this
  rwa [Int.toNat_natCast, List.getD_eq_getElem?_getD, List.getElem?_eq_getElem hi] at this
theorem not_hold_rd {l : List S35} (p : S35 → Bool) {j : Int} (h0 : 0 ≤ j) (h1 : j < l.length) (h : p (rd_T35 l j) = false) : l.all p = false := by
  refine Bool.eq_false_iff.mpr (fun ha => ?_)
  have hj : j.toNat < l.length := by omega
  have := (List.all_eq_true.1 ha) l[j.toNat] (List.getElem_mem hj)
  unfold rd_T35 at h
  rw [List.getD_eq_getElem?_getD, List.getElem?_eq_getElem hj] at h
  rw [show (some l[j.toNat]).getD z35 = l[j.toNat] from rfl] at h
  rw [h] at this
  exact absurd this (by decide)
set_option maxHeartbeats 8000000 in
set_option maxRecDepth 100000 in
theorem relate_Holds.always (A : Option Addr) (c : Nat) (l : List S35) (w : World) (hr : Kd.C k35 w A l.length l) : Calls Try.prog 19 #[.slice A l.length c, .func (.func 21) #[] #[]] w fun e w' => e = .returned (.bool (l.all (fun n => hpred 21 n.f0 n.f1))) ∧ Below w.heap.size w w' := by
  have hu := Try.underlying35
  have HR1 := Aside0.mk hr
  clear hr
  have HS := Aside0.mk (Bks.start (Below.refl w.heap.size w))
  go_enter Try.func19, Try.ntmps19
  go_wp2
  go_loopg [9] l.length (fun kq v9 w' => ∃ j : Int, v9 = .int .i64 j ∧ Aside0 (0 ≤ j ∧ j + kq = l.length) ∧ Aside0 (∀ i : Nat, (i : Int) < j → hpred 21 (rd_T35 l (i : Int)).f0 (rd_T35 l (i : Int)).f1 = true) ∧ Aside0 (Bks w w' []))
  case atStart => exact ⟨0, rfl, ⟨⟨Int.le_refl _, Int.zero_add _⟩⟩, ⟨fun i hi => absurd hi (by omega)⟩, HS⟩
  case round =>
    clear HS
    obtain ⟨j, rfl, HJ, HA, HS⟩ := hrel
    by_cases c1 : j < (l.length : Int)
    · obtain ⟨k1, rfl⟩ : ∃ k1, gk = k1 + 1 := ⟨gk - 1, by have := HJ.out; omega⟩
      have c1b : decide (j < (l.length : Int)) = true := decide_eq_true c1
      obtain ⟨ad1, e1, h0, h1, h2, h3, h4⟩ := at_T35 HR1.out j HJ.out.1 c1
      cases e1
      have hj : wrap64 (j + 1) = j + 1 := by have := Kd.C_max HR1.out; have := HJ.out; unfold wrap64; omega
      generalize hx : rd_T35 l j = x at h0 h1 h2 h3 h4
      have HX := Aside0.mk hx
      have p1 : (0 ≤ j) = True := eq_true HJ.out.1
      have q1 : (j < (l.length : Int)) = True := eq_true c1
      have Q1 := Aside0.mk c1
      clear hx c1
      replace h0 := (HS.out.below.cell (World.block_lt_of_cell? w _ h0)).trans h0
      replace h1 := (HS.out.below.cell (World.block_lt_of_cell? w _ h1)).trans h1
      replace h2 := (HS.out.below.cell (World.block_lt_of_cell? w _ h2)).trans h2
      replace h3 := (HS.out.below.cell (World.block_lt_of_cell? w _ h3)).trans h3
      replace h4 := (HS.out.below.cell (World.block_lt_of_cell? w _ h4)).trans h4
      have HR := Aside0.mk (Rws.start (w0 := w) (W := wr))
      go_upto_region 4 with (first | ((with_reducible refine gate_dst (N := 6) rfl ?_); refine box_event ?hg (N := 6) ?hd (cs := #[.int .i64 0, .int .i64 0, .int .i64 0, .int .i64 0, .bool false]) (t := 35) ?hr ?_; (case hd => rfl); (case hg => rfl); (case hr => first | (go_simp; done) | (go_simp; rfl)); intro g6 hg6 wg6 xg6 bg6; have n_ := Aside0.mk (show Bks w wg6 [(g6, #[.int .i64 0, .int .i64 0, .int .i64 0, .int .i64 0, .bool false], 35)] from Bks.new HS.out hg6 xg6 bg6); have m_ := Aside0.mk (show Rws w wg6 [] from Rws.step HR.out bg6); clear HS HR; have HS := n_; have HR := m_; clear n_ m_; clear hg6 xg6 bg6; have c_g6_0 : wg6.cell? ⟨g6, 0, none⟩ = some (.int .i64 0) := Bks.cell HS.out (i := 0) rfl 0 rfl; have c_g6_1 : wg6.cell? ⟨g6, 1, none⟩ = some (.int .i64 0) := Bks.cell HS.out (i := 0) rfl 1 rfl; have c_g6_2 : wg6.cell? ⟨g6, 2, none⟩ = some (.int .i64 0) := Bks.cell HS.out (i := 0) rfl 2 rfl; have c_g6_3 : wg6.cell? ⟨g6, 3, none⟩ = some (.int .i64 0) := Bks.cell HS.out (i := 0) rfl 3 rfl; have c_g6_4 : wg6.cell? ⟨g6, 4, none⟩ = some (.bool false) := Bks.cell HS.out (i := 0) rfl 4 rfl; have f_g6 : ∀ j : Nat, wg6.frozen? ⟨g6, j, none⟩ = false := fun j => Bks.free HS.out (i := 0) rfl j))
      have n_ := Aside0.mk (show Bks w (((((wg6.setCell ⟨g6, 0, none⟩ (.int .i64 x.f0)).setCell ⟨g6, 1, none⟩ (.int .i64 x.f1)).setCell ⟨g6, 2, none⟩ (.int .i64 x.f2)).setCell ⟨g6, 3, none⟩ (.int .i64 x.f3)).setCell ⟨g6, 4, none⟩ (.bool x.f4)) [(g6, #[.int .i64 x.f0, .int .i64 x.f1, .int .i64 x.f2, .int .i64 x.f3, .bool x.f4], 35)] from (Bks.set (Bks.set (Bks.set (Bks.set (Bks.set HS.out (i := 0) rfl 0 (.int .i64 x.f0)) (i := 0) rfl 1 (.int .i64 x.f1)) (i := 0) rfl 2 (.int .i64 x.f2)) (i := 0) rfl 3 (.int .i64 x.f3)) (i := 0) rfl 4 (.bool x.f4)))
      have m_ := Aside0.mk (show Rws w (((((wg6.setCell ⟨g6, 0, none⟩ (.int .i64 x.f0)).setCell ⟨g6, 1, none⟩ (.int .i64 x.f1)).setCell ⟨g6, 2, none⟩ (.int .i64 x.f2)).setCell ⟨g6, 3, none⟩ (.int .i64 x.f3)).setCell ⟨g6, 4, none⟩ (.bool x.f4)) [] from (Rws.set (Rws.set (Rws.set (Rws.set (Rws.set HR.out HS.out (i := 0) rfl (by decide) 0 (.int .i64 x.f0)) (Bks.set HS.out (i := 0) rfl 0 (.int .i64 x.f0)) (i := 0) rfl (by decide) 1 (.int .i64 x.f1)) (Bks.set (Bks.set HS.out (i := 0) rfl 0 (.int .i64 x.f0)) (i := 0) rfl 1 (.int .i64 x.f1)) (i := 0) rfl (by decide) 2 (.int .i64 x.f2)) (Bks.set (Bks.set (Bks.set HS.out (i := 0) rfl 0 (.int .i64 x.f0)) (i := 0) rfl 1 (.int .i64 x.f1)) (i := 0) rfl 2 (.int .i64 x.f2)) (i := 0) rfl (by decide) 3 (.int .i64 x.f3)) (Bks.set (Bks.set (Bks.set (Bks.set HS.out (i := 0) rfl 0 (.int .i64 x.f0)) (i := 0) rfl 1 (.int .i64 x.f1)) (i := 0) rfl 2 (.int .i64 x.f2)) (i := 0) rfl 3 (.int .i64 x.f3)) (i := 0) rfl (by decide) 4 (.bool x.f4)))
      clear HS HR
      clear c_g6_0 c_g6_1 c_g6_2 c_g6_3 c_g6_4 f_g6
      generalize (((((wg6.setCell ⟨g6, 0, none⟩ (.int .i64 x.f0)).setCell ⟨g6, 1, none⟩ (.int .i64 x.f1)).setCell ⟨g6, 2, none⟩ (.int .i64 x.f2)).setCell ⟨g6, 3, none⟩ (.int .i64 x.f3)).setCell ⟨g6, 4, none⟩ (.bool x.f4)) = w4 at n_ m_ ⊢
      have HS := n_
      have HR := m_
      clear n_ m_
      have c_g6_0 : w4.cell? ⟨g6, 0, none⟩ = some (.int .i64 x.f0) := Bks.cell HS.out (i := 0) rfl 0 rfl
      have c_g6_1 : w4.cell? ⟨g6, 1, none⟩ = some (.int .i64 x.f1) := Bks.cell HS.out (i := 0) rfl 1 rfl
      have c_g6_2 : w4.cell? ⟨g6, 2, none⟩ = some (.int .i64 x.f2) := Bks.cell HS.out (i := 0) rfl 2 rfl
      have c_g6_3 : w4.cell? ⟨g6, 3, none⟩ = some (.int .i64 x.f3) := Bks.cell HS.out (i := 0) rfl 3 rfl
      have c_g6_4 : w4.cell? ⟨g6, 4, none⟩ = some (.bool x.f4) := Bks.cell HS.out (i := 0) rfl 4 rfl
      have f_g6 : ∀ j : Nat, w4.frozen? ⟨g6, j, none⟩ = false := fun j => Bks.free HS.out (i := 0) rfl j
      clear h0 h1 h2 h3 h4 HR
      have HC := Aside0.mk (fun (r : Bool) (W : World) (h : easementlaw16_always.f x.f0 x.f1 = some r) => easementlaw16_always.calls x.f0 x.f1 r W h)
      have HP := Aside0.mk (show easementlaw16_always.f x.f0 x.f1 = some (hpred 21 x.f0 x.f1) from rfl)
      by_cases c5 : hpred 21 x.f0 x.f1 = true
      · have C5 := Aside0.mk c5
        clear c5
        go_wp2_with (first | (go_at_call 21; (with_reducible refine (HC.out _ _ HP.out).mono ?_); rintro e w8 ⟨rfl, ⟨nd, rfl⟩⟩; rw [C5.out]))
        go_roundg k1
        case measure => omega
        case rel =>
          refine ⟨j + 1, by first | rfl | rw [hj], ⟨by have := HJ.out; omega⟩, ⟨fun i hi => ?_⟩, ⟨Bks.start (Bks.drewN HS.out nd).below⟩⟩
          by_cases hij : (i : Int) = j
          · rw [hij, HX.out]
            exact C5.out
          · exact HA.out i (by omega)
      · have C5 := Aside0.mk (Bool.eq_false_iff.mpr c5)
        clear c5
        go_wp2_with (first | (go_at_call 21; (with_reducible refine (HC.out _ _ HP.out).mono ?_); rintro e w8 ⟨rfl, ⟨nd, rfl⟩⟩; rw [C5.out]))
        go_ret
        refine ⟨?_, (Bks.drewN HS.out nd).below⟩
        rw [not_hold_rd (fun n => hpred 21 n.f0 n.f1) HJ.out.1 Q1.out (by rw [HX.out]; exact C5.out)]
        rfl
    · have c1b : decide (j < (l.length : Int)) = false := decide_eq_false c1
      go_wp2
      go_ret
      refine ⟨?_, HS.out.below⟩
      rw [hold_rd (fun n => hpred 21 n.f0 n.f1) (fun i hi => HA.out i (by omega))]
      rfl
set_option maxHeartbeats 8000000 in
set_option maxRecDepth 100000 in
theorem relate_Holds.alike (A : Option Addr) (c : Nat) (l : List S35) (w : World) (hr : Kd.C k35 w A l.length l) : Calls Try.prog 19 #[.slice A l.length c, .func (.func 20) #[] #[]] w fun e w' => e = .returned (.bool (l.all (fun n => hpred 20 n.f0 n.f1))) ∧ Below w.heap.size w w' := by
  have hu := Try.underlying35
  have HR1 := Aside0.mk hr
  clear hr
  have HS := Aside0.mk (Bks.start (Below.refl w.heap.size w))
  go_enter Try.func19, Try.ntmps19
  go_wp2
  go_loopg [9] l.length (fun kq v9 w' => ∃ j : Int, v9 = .int .i64 j ∧ Aside0 (0 ≤ j ∧ j + kq = l.length) ∧ Aside0 (∀ i : Nat, (i : Int) < j → hpred 20 (rd_T35 l (i : Int)).f0 (rd_T35 l (i : Int)).f1 = true) ∧ Aside0 (Bks w w' []))
  case atStart => exact ⟨0, rfl, ⟨⟨Int.le_refl _, Int.zero_add _⟩⟩, ⟨fun i hi => absurd hi (by omega)⟩, HS⟩
  case round =>
    clear HS
    obtain ⟨j, rfl, HJ, HA, HS⟩ := hrel
    by_cases c1 : j < (l.length : Int)
    · obtain ⟨k1, rfl⟩ : ∃ k1, gk = k1 + 1 := ⟨gk - 1, by have := HJ.out; omega⟩
      have c1b : decide (j < (l.length : Int)) = true := decide_eq_true c1
      obtain ⟨ad1, e1, h0, h1, h2, h3, h4⟩ := at_T35 HR1.out j HJ.out.1 c1
      cases e1
      have hj : wrap64 (j + 1) = j + 1 := by have := Kd.C_max HR1.out; have := HJ.out; unfold wrap64; omega
      generalize hx : rd_T35 l j = x at h0 h1 h2 h3 h4
      have HX := Aside0.mk hx
      have p1 : (0 ≤ j) = True := eq_true HJ.out.1
      have q1 : (j < (l.length : Int)) = True := eq_true c1
      have Q1 := Aside0.mk c1
      clear hx c1
      replace h0 := (HS.out.below.cell (World.block_lt_of_cell? w _ h0)).trans h0
      replace h1 := (HS.out.below.cell (World.block_lt_of_cell? w _ h1)).trans h1
      replace h2 := (HS.out.below.cell (World.block_lt_of_cell? w _ h2)).trans h2
      replace h3 := (HS.out.below.cell (World.block_lt_of_cell? w _ h3)).trans h3
      replace h4 := (HS.out.below.cell (World.block_lt_of_cell? w _ h4)).trans h4
      have HR := Aside0.mk (Rws.start (w0 := w) (W := wr))
      go_upto_region 4 with (first | ((with_reducible refine gate_dst (N := 6) rfl ?_); refine box_event ?hg (N := 6) ?hd (cs := #[.int .i64 0, .int .i64 0, .int .i64 0, .int .i64 0, .bool false]) (t := 35) ?hr ?_; (case hd => rfl); (case hg => rfl); (case hr => first | (go_simp; done) | (go_simp; rfl)); intro g6 hg6 wg6 xg6 bg6; have n_ := Aside0.mk (show Bks w wg6 [(g6, #[.int .i64 0, .int .i64 0, .int .i64 0, .int .i64 0, .bool false], 35)] from Bks.new HS.out hg6 xg6 bg6); have m_ := Aside0.mk (show Rws w wg6 [] from Rws.step HR.out bg6); clear HS HR; have HS := n_; have HR := m_; clear n_ m_; clear hg6 xg6 bg6; have c_g6_0 : wg6.cell? ⟨g6, 0, none⟩ = some (.int .i64 0) := Bks.cell HS.out (i := 0) rfl 0 rfl; have c_g6_1 : wg6.cell? ⟨g6, 1, none⟩ = some (.int .i64 0) := Bks.cell HS.out (i := 0) rfl 1 rfl; have c_g6_2 : wg6.cell? ⟨g6, 2, none⟩ = some (.int .i64 0) := Bks.cell HS.out (i := 0) rfl 2 rfl; have c_g6_3 : wg6.cell? ⟨g6, 3, none⟩ = some (.int .i64 0) := Bks.cell HS.out (i := 0) rfl 3 rfl; have c_g6_4 : wg6.cell? ⟨g6, 4, none⟩ = some (.bool false) := Bks.cell HS.out (i := 0) rfl 4 rfl; have f_g6 : ∀ j : Nat, wg6.frozen? ⟨g6, j, none⟩ = false := fun j => Bks.free HS.out (i := 0) rfl j))
      have n_ := Aside0.mk (show Bks w (((((wg6.setCell ⟨g6, 0, none⟩ (.int .i64 x.f0)).setCell ⟨g6, 1, none⟩ (.int .i64 x.f1)).setCell ⟨g6, 2, none⟩ (.int .i64 x.f2)).setCell ⟨g6, 3, none⟩ (.int .i64 x.f3)).setCell ⟨g6, 4, none⟩ (.bool x.f4)) [(g6, #[.int .i64 x.f0, .int .i64 x.f1, .int .i64 x.f2, .int .i64 x.f3, .bool x.f4], 35)] from (Bks.set (Bks.set (Bks.set (Bks.set (Bks.set HS.out (i := 0) rfl 0 (.int .i64 x.f0)) (i := 0) rfl 1 (.int .i64 x.f1)) (i := 0) rfl 2 (.int .i64 x.f2)) (i := 0) rfl 3 (.int .i64 x.f3)) (i := 0) rfl 4 (.bool x.f4)))
      have m_ := Aside0.mk (show Rws w (((((wg6.setCell ⟨g6, 0, none⟩ (.int .i64 x.f0)).setCell ⟨g6, 1, none⟩ (.int .i64 x.f1)).setCell ⟨g6, 2, none⟩ (.int .i64 x.f2)).setCell ⟨g6, 3, none⟩ (.int .i64 x.f3)).setCell ⟨g6, 4, none⟩ (.bool x.f4)) [] from (Rws.set (Rws.set (Rws.set (Rws.set (Rws.set HR.out HS.out (i := 0) rfl (by decide) 0 (.int .i64 x.f0)) (Bks.set HS.out (i := 0) rfl 0 (.int .i64 x.f0)) (i := 0) rfl (by decide) 1 (.int .i64 x.f1)) (Bks.set (Bks.set HS.out (i := 0) rfl 0 (.int .i64 x.f0)) (i := 0) rfl 1 (.int .i64 x.f1)) (i := 0) rfl (by decide) 2 (.int .i64 x.f2)) (Bks.set (Bks.set (Bks.set HS.out (i := 0) rfl 0 (.int .i64 x.f0)) (i := 0) rfl 1 (.int .i64 x.f1)) (i := 0) rfl 2 (.int .i64 x.f2)) (i := 0) rfl (by decide) 3 (.int .i64 x.f3)) (Bks.set (Bks.set (Bks.set (Bks.set HS.out (i := 0) rfl 0 (.int .i64 x.f0)) (i := 0) rfl 1 (.int .i64 x.f1)) (i := 0) rfl 2 (.int .i64 x.f2)) (i := 0) rfl 3 (.int .i64 x.f3)) (i := 0) rfl (by decide) 4 (.bool x.f4)))
      clear HS HR
      clear c_g6_0 c_g6_1 c_g6_2 c_g6_3 c_g6_4 f_g6
      generalize (((((wg6.setCell ⟨g6, 0, none⟩ (.int .i64 x.f0)).setCell ⟨g6, 1, none⟩ (.int .i64 x.f1)).setCell ⟨g6, 2, none⟩ (.int .i64 x.f2)).setCell ⟨g6, 3, none⟩ (.int .i64 x.f3)).setCell ⟨g6, 4, none⟩ (.bool x.f4)) = w4 at n_ m_ ⊢
      have HS := n_
      have HR := m_
      clear n_ m_
      have c_g6_0 : w4.cell? ⟨g6, 0, none⟩ = some (.int .i64 x.f0) := Bks.cell HS.out (i := 0) rfl 0 rfl
      have c_g6_1 : w4.cell? ⟨g6, 1, none⟩ = some (.int .i64 x.f1) := Bks.cell HS.out (i := 0) rfl 1 rfl
      have c_g6_2 : w4.cell? ⟨g6, 2, none⟩ = some (.int .i64 x.f2) := Bks.cell HS.out (i := 0) rfl 2 rfl
      have c_g6_3 : w4.cell? ⟨g6, 3, none⟩ = some (.int .i64 x.f3) := Bks.cell HS.out (i := 0) rfl 3 rfl
      have c_g6_4 : w4.cell? ⟨g6, 4, none⟩ = some (.bool x.f4) := Bks.cell HS.out (i := 0) rfl 4 rfl
      have f_g6 : ∀ j : Nat, w4.frozen? ⟨g6, j, none⟩ = false := fun j => Bks.free HS.out (i := 0) rfl j
      clear h0 h1 h2 h3 h4 HR
      have HC := Aside0.mk (fun (r : Bool) (W : World) (h : easementlaw16_alike.f x.f0 x.f1 = some r) => easementlaw16_alike.calls x.f0 x.f1 r W h)
      have HP := Aside0.mk (show easementlaw16_alike.f x.f0 x.f1 = some (hpred 20 x.f0 x.f1) from rfl)
      by_cases c5 : hpred 20 x.f0 x.f1 = true
      · have C5 := Aside0.mk c5
        clear c5
        go_wp2_with (first | (go_at_call 20; (with_reducible refine (HC.out _ _ HP.out).mono ?_); rintro e w8 ⟨rfl, ⟨nd, rfl⟩⟩; rw [C5.out]))
        go_roundg k1
        case measure => omega
        case rel =>
          refine ⟨j + 1, by first | rfl | rw [hj], ⟨by have := HJ.out; omega⟩, ⟨fun i hi => ?_⟩, ⟨Bks.start (Bks.drewN HS.out nd).below⟩⟩
          by_cases hij : (i : Int) = j
          · rw [hij, HX.out]
            exact C5.out
          · exact HA.out i (by omega)
      · have C5 := Aside0.mk (Bool.eq_false_iff.mpr c5)
        clear c5
        go_wp2_with (first | (go_at_call 20; (with_reducible refine (HC.out _ _ HP.out).mono ?_); rintro e w8 ⟨rfl, ⟨nd, rfl⟩⟩; rw [C5.out]))
        go_ret
        refine ⟨?_, (Bks.drewN HS.out nd).below⟩
        rw [not_hold_rd (fun n => hpred 20 n.f0 n.f1) HJ.out.1 Q1.out (by rw [HX.out]; exact C5.out)]
        rfl
    · have c1b : decide (j < (l.length : Int)) = false := decide_eq_false c1
      go_wp2
      go_ret
      refine ⟨?_, HS.out.below⟩
      rw [hold_rd (fun n => hpred 20 n.f0 n.f1) (fun i hi => HA.out i (by omega))]
      rfl
set_option maxHeartbeats 8000000 in
set_option maxRecDepth 100000 in
theorem relate_Holds.above (A : Option Addr) (c : Nat) (l : List S35) (w : World) (hr : Kd.C k35 w A l.length l) : Calls Try.prog 19 #[.slice A l.length c, .func (.func 22) #[] #[]] w fun e w' => e = .returned (.bool (l.all (fun n => hpred 22 n.f0 n.f1))) ∧ Below w.heap.size w w' := by
  have hu := Try.underlying35
  have HR1 := Aside0.mk hr
  clear hr
  have HS := Aside0.mk (Bks.start (Below.refl w.heap.size w))
  go_enter Try.func19, Try.ntmps19
  go_wp2
  go_loopg [9] l.length (fun kq v9 w' => ∃ j : Int, v9 = .int .i64 j ∧ Aside0 (0 ≤ j ∧ j + kq = l.length) ∧ Aside0 (∀ i : Nat, (i : Int) < j → hpred 22 (rd_T35 l (i : Int)).f0 (rd_T35 l (i : Int)).f1 = true) ∧ Aside0 (Bks w w' []))
  case atStart => exact ⟨0, rfl, ⟨⟨Int.le_refl _, Int.zero_add _⟩⟩, ⟨fun i hi => absurd hi (by omega)⟩, HS⟩
  case round =>
    clear HS
    obtain ⟨j, rfl, HJ, HA, HS⟩ := hrel
    by_cases c1 : j < (l.length : Int)
    · obtain ⟨k1, rfl⟩ : ∃ k1, gk = k1 + 1 := ⟨gk - 1, by have := HJ.out; omega⟩
      have c1b : decide (j < (l.length : Int)) = true := decide_eq_true c1
      obtain ⟨ad1, e1, h0, h1, h2, h3, h4⟩ := at_T35 HR1.out j HJ.out.1 c1
      cases e1
      have hj : wrap64 (j + 1) = j + 1 := by have := Kd.C_max HR1.out; have := HJ.out; unfold wrap64; omega
      generalize hx : rd_T35 l j = x at h0 h1 h2 h3 h4
      have HX := Aside0.mk hx
      have p1 : (0 ≤ j) = True := eq_true HJ.out.1
      have q1 : (j < (l.length : Int)) = True := eq_true c1
      have Q1 := Aside0.mk c1
      clear hx c1
      replace h0 := (HS.out.below.cell (World.block_lt_of_cell? w _ h0)).trans h0
      replace h1 := (HS.out.below.cell (World.block_lt_of_cell? w _ h1)).trans h1
      replace h2 := (HS.out.below.cell (World.block_lt_of_cell? w _ h2)).trans h2
      replace h3 := (HS.out.below.cell (World.block_lt_of_cell? w _ h3)).trans h3
      replace h4 := (HS.out.below.cell (World.block_lt_of_cell? w _ h4)).trans h4
      have HR := Aside0.mk (Rws.start (w0 := w) (W := wr))
      go_upto_region 4 with (first | ((with_reducible refine gate_dst (N := 6) rfl ?_); refine box_event ?hg (N := 6) ?hd (cs := #[.int .i64 0, .int .i64 0, .int .i64 0, .int .i64 0, .bool false]) (t := 35) ?hr ?_; (case hd => rfl); (case hg => rfl); (case hr => first | (go_simp; done) | (go_simp; rfl)); intro g6 hg6 wg6 xg6 bg6; have n_ := Aside0.mk (show Bks w wg6 [(g6, #[.int .i64 0, .int .i64 0, .int .i64 0, .int .i64 0, .bool false], 35)] from Bks.new HS.out hg6 xg6 bg6); have m_ := Aside0.mk (show Rws w wg6 [] from Rws.step HR.out bg6); clear HS HR; have HS := n_; have HR := m_; clear n_ m_; clear hg6 xg6 bg6; have c_g6_0 : wg6.cell? ⟨g6, 0, none⟩ = some (.int .i64 0) := Bks.cell HS.out (i := 0) rfl 0 rfl; have c_g6_1 : wg6.cell? ⟨g6, 1, none⟩ = some (.int .i64 0) := Bks.cell HS.out (i := 0) rfl 1 rfl; have c_g6_2 : wg6.cell? ⟨g6, 2, none⟩ = some (.int .i64 0) := Bks.cell HS.out (i := 0) rfl 2 rfl; have c_g6_3 : wg6.cell? ⟨g6, 3, none⟩ = some (.int .i64 0) := Bks.cell HS.out (i := 0) rfl 3 rfl; have c_g6_4 : wg6.cell? ⟨g6, 4, none⟩ = some (.bool false) := Bks.cell HS.out (i := 0) rfl 4 rfl; have f_g6 : ∀ j : Nat, wg6.frozen? ⟨g6, j, none⟩ = false := fun j => Bks.free HS.out (i := 0) rfl j))
      have n_ := Aside0.mk (show Bks w (((((wg6.setCell ⟨g6, 0, none⟩ (.int .i64 x.f0)).setCell ⟨g6, 1, none⟩ (.int .i64 x.f1)).setCell ⟨g6, 2, none⟩ (.int .i64 x.f2)).setCell ⟨g6, 3, none⟩ (.int .i64 x.f3)).setCell ⟨g6, 4, none⟩ (.bool x.f4)) [(g6, #[.int .i64 x.f0, .int .i64 x.f1, .int .i64 x.f2, .int .i64 x.f3, .bool x.f4], 35)] from (Bks.set (Bks.set (Bks.set (Bks.set (Bks.set HS.out (i := 0) rfl 0 (.int .i64 x.f0)) (i := 0) rfl 1 (.int .i64 x.f1)) (i := 0) rfl 2 (.int .i64 x.f2)) (i := 0) rfl 3 (.int .i64 x.f3)) (i := 0) rfl 4 (.bool x.f4)))
      have m_ := Aside0.mk (show Rws w (((((wg6.setCell ⟨g6, 0, none⟩ (.int .i64 x.f0)).setCell ⟨g6, 1, none⟩ (.int .i64 x.f1)).setCell ⟨g6, 2, none⟩ (.int .i64 x.f2)).setCell ⟨g6, 3, none⟩ (.int .i64 x.f3)).setCell ⟨g6, 4, none⟩ (.bool x.f4)) [] from (Rws.set (Rws.set (Rws.set (Rws.set (Rws.set HR.out HS.out (i := 0) rfl (by decide) 0 (.int .i64 x.f0)) (Bks.set HS.out (i := 0) rfl 0 (.int .i64 x.f0)) (i := 0) rfl (by decide) 1 (.int .i64 x.f1)) (Bks.set (Bks.set HS.out (i := 0) rfl 0 (.int .i64 x.f0)) (i := 0) rfl 1 (.int .i64 x.f1)) (i := 0) rfl (by decide) 2 (.int .i64 x.f2)) (Bks.set (Bks.set (Bks.set HS.out (i := 0) rfl 0 (.int .i64 x.f0)) (i := 0) rfl 1 (.int .i64 x.f1)) (i := 0) rfl 2 (.int .i64 x.f2)) (i := 0) rfl (by decide) 3 (.int .i64 x.f3)) (Bks.set (Bks.set (Bks.set (Bks.set HS.out (i := 0) rfl 0 (.int .i64 x.f0)) (i := 0) rfl 1 (.int .i64 x.f1)) (i := 0) rfl 2 (.int .i64 x.f2)) (i := 0) rfl 3 (.int .i64 x.f3)) (i := 0) rfl (by decide) 4 (.bool x.f4)))
      clear HS HR
      clear c_g6_0 c_g6_1 c_g6_2 c_g6_3 c_g6_4 f_g6
      generalize (((((wg6.setCell ⟨g6, 0, none⟩ (.int .i64 x.f0)).setCell ⟨g6, 1, none⟩ (.int .i64 x.f1)).setCell ⟨g6, 2, none⟩ (.int .i64 x.f2)).setCell ⟨g6, 3, none⟩ (.int .i64 x.f3)).setCell ⟨g6, 4, none⟩ (.bool x.f4)) = w4 at n_ m_ ⊢
      have HS := n_
      have HR := m_
      clear n_ m_
      have c_g6_0 : w4.cell? ⟨g6, 0, none⟩ = some (.int .i64 x.f0) := Bks.cell HS.out (i := 0) rfl 0 rfl
      have c_g6_1 : w4.cell? ⟨g6, 1, none⟩ = some (.int .i64 x.f1) := Bks.cell HS.out (i := 0) rfl 1 rfl
      have c_g6_2 : w4.cell? ⟨g6, 2, none⟩ = some (.int .i64 x.f2) := Bks.cell HS.out (i := 0) rfl 2 rfl
      have c_g6_3 : w4.cell? ⟨g6, 3, none⟩ = some (.int .i64 x.f3) := Bks.cell HS.out (i := 0) rfl 3 rfl
      have c_g6_4 : w4.cell? ⟨g6, 4, none⟩ = some (.bool x.f4) := Bks.cell HS.out (i := 0) rfl 4 rfl
      have f_g6 : ∀ j : Nat, w4.frozen? ⟨g6, j, none⟩ = false := fun j => Bks.free HS.out (i := 0) rfl j
      clear h0 h1 h2 h3 h4 HR
      have HC := Aside0.mk (fun (r : Bool) (W : World) (h : easementlaw16_above.f x.f0 x.f1 = some r) => easementlaw16_above.calls x.f0 x.f1 r W h)
      have HP := Aside0.mk (show easementlaw16_above.f x.f0 x.f1 = some (hpred 22 x.f0 x.f1) from rfl)
      by_cases c5 : hpred 22 x.f0 x.f1 = true
      · have C5 := Aside0.mk c5
        clear c5
        go_wp2_with (first | (go_at_call 22; (with_reducible refine (HC.out _ _ HP.out).mono ?_); rintro e w8 ⟨rfl, ⟨nd, rfl⟩⟩; rw [C5.out]))
        go_roundg k1
        case measure => omega
        case rel =>
          refine ⟨j + 1, by first | rfl | rw [hj], ⟨by have := HJ.out; omega⟩, ⟨fun i hi => ?_⟩, ⟨Bks.start (Bks.drewN HS.out nd).below⟩⟩
          by_cases hij : (i : Int) = j
          · rw [hij, HX.out]
            exact C5.out
          · exact HA.out i (by omega)
      · have C5 := Aside0.mk (Bool.eq_false_iff.mpr c5)
        clear c5
        go_wp2_with (first | (go_at_call 22; (with_reducible refine (HC.out _ _ HP.out).mono ?_); rintro e w8 ⟨rfl, ⟨nd, rfl⟩⟩; rw [C5.out]))
        go_ret
        refine ⟨?_, (Bks.drewN HS.out nd).below⟩
        rw [not_hold_rd (fun n => hpred 22 n.f0 n.f1) HJ.out.1 Q1.out (by rw [HX.out]; exact C5.out)]
        rfl
    · have c1b : decide (j < (l.length : Int)) = false := decide_eq_false c1
      go_wp2
      go_ret
      refine ⟨?_, HS.out.below⟩
      rw [hold_rd (fun n => hpred 22 n.f0 n.f1) (fun i hi => HA.out i (by omega))]
      rfl
theorem relate_Holds.calls (A0 : Option Addr) (c0 : Nat) (l0 : List (S35)) (a1 : Nat) (r : Bool) (w : World) (hr0 : Kd.C k35 w A0 l0.length l0) (hc0 : l0.length ≤ c0) (h : relate_Holds.f l0 a1 = some r) :
    Calls Try.prog 19 #[.slice A0 l0.length c0, .func (.func a1) #[] #[]] w fun e w' => e = .returned (.bool r) ∧ Below w.heap.size w w' := by
  unfold relate_Holds.f at h
  by_cases c : a1 = 21 ∨ a1 = 20 ∨ a1 = 22
  · rw [if_pos c] at h
    obtain rfl := Option.some.inj h
    rcases c with rfl | rfl | rfl
    · exact relate_Holds.always A0 c0 l0 w hr0
    · exact relate_Holds.alike A0 c0 l0 w hr0
    · exact relate_Holds.above A0 c0 l0 w hr0
  · rw [if_neg c] at h
    exact absurd h (by simp)

end Go.Proofs.Ytnabbhcagonlkaa.GRelateHolds
