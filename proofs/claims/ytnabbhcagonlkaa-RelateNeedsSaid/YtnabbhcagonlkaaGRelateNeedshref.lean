/- Written for this claim by gp.py, a program of this session's, over the kit's print. Lean checks it. -/
import Derived.Test.YtnabbhcagonlkaaGRelateNeedsx0
import Derived.Test.YtnabbhcagonlkaaGRelateNeedshx
import Derived.Test.YtnabbhcagonlkaaGRelateNeedshrows
import Derived.Test.YtnabbhcagonlkaaGRelateNeedshkept
namespace Go.Proofs.Ytnabbhcagonlkaa.GRelateNeeds
open Go.RowKit Go.Proofs.YtnabbhcagonlkaaW.PrintWords Go.Proofs.YtnabbhcagonlkaaW.PrintLast Go.Proofs.YtnabbhcagonlkaaW.PrintMore
attribute [local go_sem] max2_int min2_int max_two min_two max_three min_three max_four min_four   -- for this text's walks alone
set_option linter.unusedVariables false
set_option linter.unusedSimpArgs false

/-- The type of what is borrowed of a type, for a region. -/
def rfx (mut_ : Bool) (s : S107) : S107 := ⟨s.f0, s.f1 || mut_⟩
def row_Ref.f (a : List S107) (region : Int) (mut_ : Bool) : Option (List S107) := if a.length < 1000000000 then some ([⟨region, false⟩] ++ a.map (rfx mut_)) else none
set_option maxHeartbeats 16000000 in
set_option maxRecDepth 100000 in
theorem row_Ref.calls (A0_0 : Option Addr) (c0_0 : Nat) (l0_0 : List (S107)) (a1 : Int) (a2 : Bool) (r : List (S107)) (w : World) (hr0_0 : Kd.C k107 w A0_0 l0_0.length l0_0) (hc0_0 : l0_0.length ≤ c0_0) (h : row_Ref.f l0_0 a1 a2 = some r) :
    Calls Try.prog 83 #[.agg #[.slice A0_0 l0_0.length c0_0], .int .i64 a1, .bool a2] w fun e w' => ∃ v0_ : Value, e = .returned (.agg #[v0_]) ∧ Kd.R k107 107 w' w.heap.size (fun _ => True) v0_ r ∧ Below w.heap.size w w' := by
  have hu3 := Try.underlying24
  have hu4 := Try.underlying107
  have HS := Aside0.mk (Bks.start (Below.refl w.heap.size w))
  have HR := Aside0.mk (Rws.start (w0 := w) (W := w))
  have HR0 := Aside0.mk hr0_0
  have HC0 := Aside0.mk hc0_0
  have H := h
  unfold row_Ref.f at H
  clear h hr0_0 hc0_0
  by_cases cl : l0_0.length < 1000000000
  · rw [if_pos cl] at H
    have HX := Aside0.mk (Option.some.inj H).symm
    have CL := Aside0.mk cl
    clear H cl
    obtain ⟨y0, hy0⟩ : ∃ y, y = [(⟨a1, false⟩ : S107)] := ⟨_, rfl⟩
    rw [← hy0] at HX
    have N0 := Aside0.mk hy0
    have HY := Aside0.mk (show (y0.length : Int) = 1 + 0 by rw [hy0]; rfl)
    clear hy0
    go_enter Try.func83, Try.ntmps83
    go_upto_region 2 with (first | ((with_reducible refine gate_dst (N := 3) rfl ?_); refine box_event ?hg (N := 3) ?hd (cs := #[.slice A0_0 l0_0.length c0_0]) (t := 24) ?hr ?_; (case hd => rfl); (case hg => rfl); (case hr => first | (go_simp; done) | (go_simp; rfl)); intro g3 hg3 wg3 xg3 bg3; have n_ := Aside0.mk (show Bks w wg3 [(g3, #[.slice A0_0 l0_0.length c0_0], 24)] from Bks.new HS.out hg3 xg3 bg3); have m_ := Aside0.mk (show Rws w wg3 [] from Rws.step HR.out bg3); clear HS HR; have HS := n_; have HR := m_; clear n_ m_; clear hg3 xg3 bg3; have c_g3_0 : wg3.cell? ⟨g3, 0, none⟩ = some (.slice A0_0 l0_0.length c0_0) := Bks.cell HS.out (i := 0) rfl 0 rfl; have f_g3 : ∀ j : Nat, wg3.frozen? ⟨g3, j, none⟩ = false := fun j => Bks.free HS.out (i := 0) rfl j) | ((with_reducible refine gate_dst (N := 6) rfl ?_); refine box_event ?hg (N := 6) ?hd (cs := #[.slice none 0 0]) (t := 24) ?hr ?_; (case hd => rfl); (case hg => rfl); (case hr => first | (go_simp; done) | (go_simp; rfl)); intro g6 hg6 wg6 xg6 bg6; have n_ := Aside0.mk (show Bks w wg6 [(g3, #[.slice A0_0 l0_0.length c0_0], 24), (g6, #[.slice none 0 0], 24)] from Bks.new HS.out hg6 xg6 bg6); have m_ := Aside0.mk (show Rws w wg6 [] from Rws.step HR.out bg6); clear HS HR; clear c_g3_0 f_g3; have HS := n_; have HR := m_; clear n_ m_; clear hg6 xg6 bg6; have c_g3_0 : wg6.cell? ⟨g3, 0, none⟩ = some (.slice A0_0 l0_0.length c0_0) := Bks.cell HS.out (i := 0) rfl 0 rfl; have f_g3 : ∀ j : Nat, wg6.frozen? ⟨g3, j, none⟩ = false := fun j => Bks.free HS.out (i := 0) rfl j; have c_g6_0 : wg6.cell? ⟨g6, 0, none⟩ = some (.slice none 0 0) := Bks.cell HS.out (i := 1) rfl 0 rfl; have f_g6 : ∀ j : Nat, wg6.frozen? ⟨g6, j, none⟩ = false := fun j => Bks.free HS.out (i := 1) rfl j; have ne_g3_g6 : g3 ≠ g6 := Bks.ne HS.out 0 1 _ _ rfl rfl (by decide); have ne_g6_g3 : g6 ≠ g3 := Bks.ne HS.out 1 0 _ _ rfl rfl (by decide)) | ((with_reducible refine gate_dst (N := 12) rfl ?_); refine Kd.R_lit k107 _ 107 ?hg (N := 12) ?hd (xs := ([(⟨a1, false⟩ : S107)] : List (S107))) (inner := [.int .i64 a1, .bool false]) (ok := fun _ => True) (okp := fun _ => True) ?hr ?hp (fun _ hk => hk) trivial (Below.refl _ _) (Nat.le_refl _) (by simp) ?_; (case hd => rfl); (case hg => rfl); (case hr => first | (go_simp; done) | (go_simp; rfl)); (case hp => exact (Reps.c2 (show Kd.M k107 _ _ _ (⟨a1, false⟩ : S107) [.int .i64 a1, .bool false] from (k107_mkM _ _ _ (⟨a1, false⟩ : S107) )) (Reps.none _ _))); intro v12 w12 ho7 hb7 hg7_ hnew_; clear hg7_ hnew_; rw [← N0.out] at ho7; have HO := Aside0.mk (Kd.R_lower ho7 HS.out.below.size); have n_ := Aside0.mk (show Bks w w12 [(g3, #[.slice A0_0 l0_0.length c0_0], 24), (g6, #[.slice none 0 0], 24)] from Bks.step HS.out hb7); clear HS HR ho7 hb7; have HS := n_; clear n_; have HR := Aside0.mk (Rws.start (w0 := w) (W := w12)); obtain ⟨A0, co, e0⟩ := Kd.R_slice HO.out; subst e0; clear c_g3_0 f_g3 c_g6_0 f_g6 ne_g3_g6 ne_g6_g3; have c_g3_0 : w12.cell? ⟨g3, 0, none⟩ = some (.slice A0_0 l0_0.length c0_0) := Bks.cell HS.out (i := 0) rfl 0 rfl; have f_g3 : ∀ j : Nat, w12.frozen? ⟨g3, j, none⟩ = false := fun j => Bks.free HS.out (i := 0) rfl j; have c_g6_0 : w12.cell? ⟨g6, 0, none⟩ = some (.slice none 0 0) := Bks.cell HS.out (i := 1) rfl 0 rfl; have f_g6 : ∀ j : Nat, w12.frozen? ⟨g6, j, none⟩ = false := fun j => Bks.free HS.out (i := 1) rfl j; have ne_g3_g6 : g3 ≠ g6 := Bks.ne HS.out 0 1 _ _ rfl rfl (by decide); have ne_g6_g3 : g6 ≠ g3 := Bks.ne HS.out 1 0 _ _ rfl rfl (by decide)) | ((with_reducible refine gate_dst (N := 7) rfl ?_); refine box_event ?hg (N := 7) ?hd (cs := #[.slice none 0 0]) (t := 24) ?hr ?_; (case hd => rfl); (case hg => rfl); (case hr => first | (go_simp; done) | (go_simp; rfl)); intro g7 hg7 wg7 xg7 bg7; have o_ := Aside0.mk (show Kd.R k107 107 wg7 w.heap.size (fun _ => True) (.slice A0 y0.length co) y0 from Kd.R_below HO.out bg7); clear HO; have HO := o_; clear o_; have n_ := Aside0.mk (show Bks w wg7 [(g3, #[.slice A0_0 l0_0.length c0_0], 24), (g6, #[.slice none 0 0], 24), (g7, #[.slice none 0 0], 24)] from Bks.new HS.out hg7 xg7 bg7); have m_ := Aside0.mk (show Rws w wg7 [] from Rws.step HR.out bg7); clear HS HR; clear c_g3_0 f_g3 c_g6_0 f_g6 ne_g3_g6 ne_g6_g3; have HS := n_; have HR := m_; clear n_ m_; clear hg7 xg7 bg7; have c_g3_0 : wg7.cell? ⟨g3, 0, none⟩ = some (.slice A0_0 l0_0.length c0_0) := Bks.cell HS.out (i := 0) rfl 0 rfl; have f_g3 : ∀ j : Nat, wg7.frozen? ⟨g3, j, none⟩ = false := fun j => Bks.free HS.out (i := 0) rfl j; have c_g6_0 : wg7.cell? ⟨g6, 0, none⟩ = some (.slice none 0 0) := Bks.cell HS.out (i := 1) rfl 0 rfl; have f_g6 : ∀ j : Nat, wg7.frozen? ⟨g6, j, none⟩ = false := fun j => Bks.free HS.out (i := 1) rfl j; have c_g7_0 : wg7.cell? ⟨g7, 0, none⟩ = some (.slice none 0 0) := Bks.cell HS.out (i := 2) rfl 0 rfl; have f_g7 : ∀ j : Nat, wg7.frozen? ⟨g7, j, none⟩ = false := fun j => Bks.free HS.out (i := 2) rfl j; have ne_g3_g6 : g3 ≠ g6 := Bks.ne HS.out 0 1 _ _ rfl rfl (by decide); have ne_g3_g7 : g3 ≠ g7 := Bks.ne HS.out 0 2 _ _ rfl rfl (by decide); have ne_g6_g3 : g6 ≠ g3 := Bks.ne HS.out 1 0 _ _ rfl rfl (by decide); have ne_g6_g7 : g6 ≠ g7 := Bks.ne HS.out 1 2 _ _ rfl rfl (by decide); have ne_g7_g3 : g7 ≠ g3 := Bks.ne HS.out 2 0 _ _ rfl rfl (by decide); have ne_g7_g6 : g7 ≠ g6 := Bks.ne HS.out 2 1 _ _ rfl rfl (by decide)))
    have o_ := Aside0.mk (show Kd.R k107 107 (wg7.setCell ⟨g7, 0, none⟩ (.slice A0 y0.length co)) w.heap.size (fun _ => True) (.slice A0 y0.length co) y0 from (Kd.R_set HO.out ((HS.out).at_ 2 _ _ _ rfl).1 (by decide) 0 (.slice A0 y0.length co)))
    clear HO
    have HO := o_
    clear o_
    have n_ := Aside0.mk (show Bks w (wg7.setCell ⟨g7, 0, none⟩ (.slice A0 y0.length co)) [(g3, #[.slice A0_0 l0_0.length c0_0], 24), (g6, #[.slice none 0 0], 24), (g7, #[.slice A0 y0.length co], 24)] from (Bks.set HS.out (i := 2) rfl 0 (.slice A0 y0.length co)))
    have m_ := Aside0.mk (show Rws w (wg7.setCell ⟨g7, 0, none⟩ (.slice A0 y0.length co)) [] from (Rws.set HR.out HS.out (i := 2) rfl (by decide) 0 (.slice A0 y0.length co)))
    clear HS HR
    clear c_g3_0 f_g3 c_g6_0 f_g6 c_g7_0 f_g7 ne_g3_g6 ne_g3_g7 ne_g6_g3 ne_g6_g7 ne_g7_g3 ne_g7_g6
    generalize (wg7.setCell ⟨g7, 0, none⟩ (.slice A0 y0.length co)) = w2 at n_ m_ HO ⊢
    have HS := n_
    have HR := m_
    clear n_ m_
    have c_g3_0 : w2.cell? ⟨g3, 0, none⟩ = some (.slice A0_0 l0_0.length c0_0) := Bks.cell HS.out (i := 0) rfl 0 rfl
    have f_g3 : ∀ j : Nat, w2.frozen? ⟨g3, j, none⟩ = false := fun j => Bks.free HS.out (i := 0) rfl j
    have c_g6_0 : w2.cell? ⟨g6, 0, none⟩ = some (.slice none 0 0) := Bks.cell HS.out (i := 1) rfl 0 rfl
    have f_g6 : ∀ j : Nat, w2.frozen? ⟨g6, j, none⟩ = false := fun j => Bks.free HS.out (i := 1) rfl j
    have c_g7_0 : w2.cell? ⟨g7, 0, none⟩ = some (.slice A0 y0.length co) := Bks.cell HS.out (i := 2) rfl 0 rfl
    have f_g7 : ∀ j : Nat, w2.frozen? ⟨g7, j, none⟩ = false := fun j => Bks.free HS.out (i := 2) rfl j
    have ne_g3_g6 : g3 ≠ g6 := Bks.ne HS.out 0 1 _ _ rfl rfl (by decide)
    have ne_g3_g7 : g3 ≠ g7 := Bks.ne HS.out 0 2 _ _ rfl rfl (by decide)
    have ne_g6_g3 : g6 ≠ g3 := Bks.ne HS.out 1 0 _ _ rfl rfl (by decide)
    have ne_g6_g7 : g6 ≠ g7 := Bks.ne HS.out 1 2 _ _ rfl rfl (by decide)
    have ne_g7_g3 : g7 ≠ g3 := Bks.ne HS.out 2 0 _ _ rfl rfl (by decide)
    have ne_g7_g6 : g7 ≠ g6 := Bks.ne HS.out 2 1 _ _ rfl rfl (by decide)
    go_wp2
    clear HR
    go_loopg [17] l0_0.length (fun kq v17 w' => ∃ (j : Int) (u : Value) (ys : List S107), v17 = .int .i64 j ∧ Aside0 (0 ≤ j ∧ j + kq = l0_0.length) ∧ Aside0 (r = ys ++ (l0_0.drop j.toNat).map (rfx a2)) ∧ Aside0 ((ys.length : Int) = 1 + j) ∧ Aside0 (Bks w w' [(g3, #[.slice A0_0 l0_0.length c0_0], 24), (g6, #[.slice none 0 0], 24), (g7, #[u], 24)]) ∧ Aside0 (Kd.R k107 107 w' w.heap.size (fun _ => True) u ys))
    case atStart => exact ⟨0, _, y0, rfl, ⟨⟨Int.le_refl _, Int.zero_add _⟩⟩, HX, HY, HS, HO⟩
    case round =>
      clear HS HO HX HY N0 c_g3_0 f_g3 c_g6_0 f_g6 c_g7_0 f_g7 ne_g3_g6 ne_g3_g7 ne_g6_g3 ne_g6_g7 ne_g7_g3 ne_g7_g6
      obtain ⟨j, u, ys, rfl, HJ, HX, HY, HS, HO⟩ := hrel
      obtain ⟨Au, cu, rfl⟩ := Kd.R_slice HO.out
      by_cases c1 : j < (l0_0.length : Int)
      · obtain ⟨k1, rfl⟩ : ∃ k1, gk = k1 + 1 := ⟨gk - 1, by have := HJ.out; omega⟩
        have c1b : decide (j < (l0_0.length : Int)) = true := decide_eq_true c1
        obtain ⟨ad1, e1, h10, h11⟩ := at_T107 HR0.out j HJ.out.1 c1
        cases e1
        have hj : wrap64 (j + 1) = j + 1 := by have := CL.out; have := HJ.out; unfold wrap64; omega
        have hst : (l0_0.drop j.toNat).map (rfx a2) = [rfx a2 (rd_T107 l0_0 j)] ++ (l0_0.drop (j + 1).toNat).map (rfx a2) := by
          have ea : (j + 1).toNat = j.toNat + 1 := by have := HJ.out; omega
          have h1 : j.toNat < l0_0.length := by have := HJ.out; omega
          have r1 : rd_T107 l0_0 j = l0_0[j.toNat] := by unfold rd_T107; rw [List.getD_eq_getElem?_getD, List.getElem?_eq_getElem h1]; rfl
          rw [ea, List.drop_eq_getElem_cons h1, r1]
          rfl
        generalize hx : rd_T107 l0_0 j = x at h10 h11 hst
        have HX2 := Aside0.mk (HX.out.trans (congrArg (ys ++ ·) hst))
        have p1 : (0 ≤ j) = True := eq_true HJ.out.1
        have q1 : (j < (l0_0.length : Int)) = True := eq_true c1
        replace h10 := (HS.out.below.cell (World.block_lt_of_cell? w _ h10)).trans h10
        replace h11 := (HS.out.below.cell (World.block_lt_of_cell? w _ h11)).trans h11
        clear hx c1 hst HX
        have HR := Aside0.mk (Rws.start (w0 := w) (W := wr))
        have c_g3_0 : wr.cell? ⟨g3, 0, none⟩ = some (.slice (some ad1) l0_0.length c0_0) := Bks.cell HS.out (i := 0) rfl 0 rfl
        have f_g3 : ∀ j : Nat, wr.frozen? ⟨g3, j, none⟩ = false := fun j => Bks.free HS.out (i := 0) rfl j
        have c_g6_0 : wr.cell? ⟨g6, 0, none⟩ = some (.slice none 0 0) := Bks.cell HS.out (i := 1) rfl 0 rfl
        have f_g6 : ∀ j : Nat, wr.frozen? ⟨g6, j, none⟩ = false := fun j => Bks.free HS.out (i := 1) rfl j
        have c_g7_0 : wr.cell? ⟨g7, 0, none⟩ = some (.slice Au ys.length cu) := Bks.cell HS.out (i := 2) rfl 0 rfl
        have f_g7 : ∀ j : Nat, wr.frozen? ⟨g7, j, none⟩ = false := fun j => Bks.free HS.out (i := 2) rfl j
        have ne_g3_g6 : g3 ≠ g6 := Bks.ne HS.out 0 1 _ _ rfl rfl (by decide)
        have ne_g3_g7 : g3 ≠ g7 := Bks.ne HS.out 0 2 _ _ rfl rfl (by decide)
        have ne_g6_g3 : g6 ≠ g3 := Bks.ne HS.out 1 0 _ _ rfl rfl (by decide)
        have ne_g6_g7 : g6 ≠ g7 := Bks.ne HS.out 1 2 _ _ rfl rfl (by decide)
        have ne_g7_g3 : g7 ≠ g3 := Bks.ne HS.out 2 0 _ _ rfl rfl (by decide)
        have ne_g7_g6 : g7 ≠ g6 := Bks.ne HS.out 2 1 _ _ rfl rfl (by decide)
        go_upto_region 5 with (first | ((with_reducible refine gate_dst (N := 9) rfl ?_); refine box_event ?hg (N := 9) ?hd (cs := #[.int .i64 0, .bool false]) (t := 107) ?hr ?_; (case hd => rfl); (case hg => rfl); (case hr => first | (go_simp; done) | (go_simp; rfl)); intro g9 hg9 wg9 xg9 bg9; have o_ := Aside0.mk (show Kd.R k107 107 wg9 w.heap.size (fun k => True ∧ k ≠ g9) (.slice Au ys.length cu) ys from Kd.R_below (Kd.R_elderB HO.out g9 (Nat.le_of_eq hg9.symm)) bg9); clear HO; have HO := o_; clear o_; have n_ := Aside0.mk (show Bks w wg9 [(g3, #[.slice (some ad1) l0_0.length c0_0], 24), (g6, #[.slice none 0 0], 24), (g7, #[.slice Au ys.length cu], 24), (g9, #[.int .i64 0, .bool false], 107)] from Bks.new HS.out hg9 xg9 bg9); have m_ := Aside0.mk (show Rws w wg9 [] from Rws.step HR.out bg9); clear HS HR; clear c_g3_0 f_g3 c_g6_0 f_g6 c_g7_0 f_g7 ne_g3_g6 ne_g3_g7 ne_g6_g3 ne_g6_g7 ne_g7_g3 ne_g7_g6; have HS := n_; have HR := m_; clear n_ m_; clear hg9 xg9 bg9; have c_g3_0 : wg9.cell? ⟨g3, 0, none⟩ = some (.slice (some ad1) l0_0.length c0_0) := Bks.cell HS.out (i := 0) rfl 0 rfl; have f_g3 : ∀ j : Nat, wg9.frozen? ⟨g3, j, none⟩ = false := fun j => Bks.free HS.out (i := 0) rfl j; have c_g6_0 : wg9.cell? ⟨g6, 0, none⟩ = some (.slice none 0 0) := Bks.cell HS.out (i := 1) rfl 0 rfl; have f_g6 : ∀ j : Nat, wg9.frozen? ⟨g6, j, none⟩ = false := fun j => Bks.free HS.out (i := 1) rfl j; have c_g7_0 : wg9.cell? ⟨g7, 0, none⟩ = some (.slice Au ys.length cu) := Bks.cell HS.out (i := 2) rfl 0 rfl; have f_g7 : ∀ j : Nat, wg9.frozen? ⟨g7, j, none⟩ = false := fun j => Bks.free HS.out (i := 2) rfl j; have c_g9_0 : wg9.cell? ⟨g9, 0, none⟩ = some (.int .i64 0) := Bks.cell HS.out (i := 3) rfl 0 rfl; have c_g9_1 : wg9.cell? ⟨g9, 1, none⟩ = some (.bool false) := Bks.cell HS.out (i := 3) rfl 1 rfl; have f_g9 : ∀ j : Nat, wg9.frozen? ⟨g9, j, none⟩ = false := fun j => Bks.free HS.out (i := 3) rfl j; have ne_g3_g6 : g3 ≠ g6 := Bks.ne HS.out 0 1 _ _ rfl rfl (by decide); have ne_g3_g7 : g3 ≠ g7 := Bks.ne HS.out 0 2 _ _ rfl rfl (by decide); have ne_g3_g9 : g3 ≠ g9 := Bks.ne HS.out 0 3 _ _ rfl rfl (by decide); have ne_g6_g3 : g6 ≠ g3 := Bks.ne HS.out 1 0 _ _ rfl rfl (by decide); have ne_g6_g7 : g6 ≠ g7 := Bks.ne HS.out 1 2 _ _ rfl rfl (by decide); have ne_g6_g9 : g6 ≠ g9 := Bks.ne HS.out 1 3 _ _ rfl rfl (by decide); have ne_g7_g3 : g7 ≠ g3 := Bks.ne HS.out 2 0 _ _ rfl rfl (by decide); have ne_g7_g6 : g7 ≠ g6 := Bks.ne HS.out 2 1 _ _ rfl rfl (by decide); have ne_g7_g9 : g7 ≠ g9 := Bks.ne HS.out 2 3 _ _ rfl rfl (by decide); have ne_g9_g3 : g9 ≠ g3 := Bks.ne HS.out 3 0 _ _ rfl rfl (by decide); have ne_g9_g6 : g9 ≠ g6 := Bks.ne HS.out 3 1 _ _ rfl rfl (by decide); have ne_g9_g7 : g9 ≠ g7 := Bks.ne HS.out 3 2 _ _ rfl rfl (by decide)))
        have o_ := Aside0.mk (show Kd.R k107 107 ((wg9.setCell ⟨g9, 0, none⟩ (.int .i64 x.f0)).setCell ⟨g9, 1, none⟩ (.bool x.f1)) w.heap.size (fun k => True ∧ k ≠ g9) (.slice Au ys.length cu) ys from (Kd.R_far (p := ⟨g9, 1, none⟩) (Kd.R_far (p := ⟨g9, 0, none⟩) HO.out (fun _ hk => hk.2) (.int .i64 x.f0)) (fun _ hk => hk.2) (.bool x.f1)))
        clear HO
        have HO := o_
        clear o_
        have n_ := Aside0.mk (show Bks w ((wg9.setCell ⟨g9, 0, none⟩ (.int .i64 x.f0)).setCell ⟨g9, 1, none⟩ (.bool x.f1)) [(g3, #[.slice (some ad1) l0_0.length c0_0], 24), (g6, #[.slice none 0 0], 24), (g7, #[.slice Au ys.length cu], 24), (g9, #[.int .i64 x.f0, .bool x.f1], 107)] from (Bks.set (Bks.set HS.out (i := 3) rfl 0 (.int .i64 x.f0)) (i := 3) rfl 1 (.bool x.f1)))
        have m_ := Aside0.mk (show Rws w ((wg9.setCell ⟨g9, 0, none⟩ (.int .i64 x.f0)).setCell ⟨g9, 1, none⟩ (.bool x.f1)) [] from (Rws.set (Rws.set HR.out HS.out (i := 3) rfl (by decide) 0 (.int .i64 x.f0)) (Bks.set HS.out (i := 3) rfl 0 (.int .i64 x.f0)) (i := 3) rfl (by decide) 1 (.bool x.f1)))
        clear HS HR
        clear c_g3_0 f_g3 c_g6_0 f_g6 c_g7_0 f_g7 c_g9_0 c_g9_1 f_g9 ne_g3_g6 ne_g3_g7 ne_g3_g9 ne_g6_g3 ne_g6_g7 ne_g6_g9 ne_g7_g3 ne_g7_g6 ne_g7_g9 ne_g9_g3 ne_g9_g6 ne_g9_g7
        generalize ((wg9.setCell ⟨g9, 0, none⟩ (.int .i64 x.f0)).setCell ⟨g9, 1, none⟩ (.bool x.f1)) = w5 at n_ m_ HO ⊢
        have HS := n_
        have HR := m_
        clear n_ m_
        have c_g3_0 : w5.cell? ⟨g3, 0, none⟩ = some (.slice (some ad1) l0_0.length c0_0) := Bks.cell HS.out (i := 0) rfl 0 rfl
        have f_g3 : ∀ j : Nat, w5.frozen? ⟨g3, j, none⟩ = false := fun j => Bks.free HS.out (i := 0) rfl j
        have c_g6_0 : w5.cell? ⟨g6, 0, none⟩ = some (.slice none 0 0) := Bks.cell HS.out (i := 1) rfl 0 rfl
        have f_g6 : ∀ j : Nat, w5.frozen? ⟨g6, j, none⟩ = false := fun j => Bks.free HS.out (i := 1) rfl j
        have c_g7_0 : w5.cell? ⟨g7, 0, none⟩ = some (.slice Au ys.length cu) := Bks.cell HS.out (i := 2) rfl 0 rfl
        have f_g7 : ∀ j : Nat, w5.frozen? ⟨g7, j, none⟩ = false := fun j => Bks.free HS.out (i := 2) rfl j
        have c_g9_0 : w5.cell? ⟨g9, 0, none⟩ = some (.int .i64 x.f0) := Bks.cell HS.out (i := 3) rfl 0 rfl
        have c_g9_1 : w5.cell? ⟨g9, 1, none⟩ = some (.bool x.f1) := Bks.cell HS.out (i := 3) rfl 1 rfl
        have f_g9 : ∀ j : Nat, w5.frozen? ⟨g9, j, none⟩ = false := fun j => Bks.free HS.out (i := 3) rfl j
        have ne_g3_g6 : g3 ≠ g6 := Bks.ne HS.out 0 1 _ _ rfl rfl (by decide)
        have ne_g3_g7 : g3 ≠ g7 := Bks.ne HS.out 0 2 _ _ rfl rfl (by decide)
        have ne_g3_g9 : g3 ≠ g9 := Bks.ne HS.out 0 3 _ _ rfl rfl (by decide)
        have ne_g6_g3 : g6 ≠ g3 := Bks.ne HS.out 1 0 _ _ rfl rfl (by decide)
        have ne_g6_g7 : g6 ≠ g7 := Bks.ne HS.out 1 2 _ _ rfl rfl (by decide)
        have ne_g6_g9 : g6 ≠ g9 := Bks.ne HS.out 1 3 _ _ rfl rfl (by decide)
        have ne_g7_g3 : g7 ≠ g3 := Bks.ne HS.out 2 0 _ _ rfl rfl (by decide)
        have ne_g7_g6 : g7 ≠ g6 := Bks.ne HS.out 2 1 _ _ rfl rfl (by decide)
        have ne_g7_g9 : g7 ≠ g9 := Bks.ne HS.out 2 3 _ _ rfl rfl (by decide)
        have ne_g9_g3 : g9 ≠ g3 := Bks.ne HS.out 3 0 _ _ rfl rfl (by decide)
        have ne_g9_g6 : g9 ≠ g6 := Bks.ne HS.out 3 1 _ _ rfl rfl (by decide)
        have ne_g9_g7 : g9 ≠ g7 := Bks.ne HS.out 3 2 _ _ rfl rfl (by decide)
        clear h10 h11
        by_cases hb : x.f1 = true
        · rw [hb] at c_g9_1
          have HB := Aside0.mk hb
          clear hb
          have E := Aside0.mk (show rfx a2 x = (⟨x.f0, true⟩ : S107) by unfold rfx; rw [HB.out]; rfl)
          go_upto_region 6 with fail
          have o_ := Aside0.mk (show Kd.R k107 107 (w5.setCell ⟨g9, 1, none⟩ (.bool true)) w.heap.size (fun k => True ∧ k ≠ g9) (.slice Au ys.length cu) ys from (Kd.R_far (p := ⟨g9, 1, none⟩) HO.out (fun _ hk => hk.2) (.bool true)))
          clear HO
          have HO := o_
          clear o_
          have n_ := Aside0.mk (show Bks w (w5.setCell ⟨g9, 1, none⟩ (.bool true)) [(g3, #[.slice (some ad1) l0_0.length c0_0], 24), (g6, #[.slice none 0 0], 24), (g7, #[.slice Au ys.length cu], 24), (g9, #[.int .i64 x.f0, .bool true], 107)] from (Bks.set HS.out (i := 3) rfl 1 (.bool true)))
          have m_ := Aside0.mk (show Rws w (w5.setCell ⟨g9, 1, none⟩ (.bool true)) [] from (Rws.set HR.out HS.out (i := 3) rfl (by decide) 1 (.bool true)))
          clear HS HR
          clear c_g3_0 f_g3 c_g6_0 f_g6 c_g7_0 f_g7 c_g9_0 c_g9_1 f_g9 ne_g3_g6 ne_g3_g7 ne_g3_g9 ne_g6_g3 ne_g6_g7 ne_g6_g9 ne_g7_g3 ne_g7_g6 ne_g7_g9 ne_g9_g3 ne_g9_g6 ne_g9_g7
          generalize (w5.setCell ⟨g9, 1, none⟩ (.bool true)) = w6 at n_ m_ HO ⊢
          have HS := n_
          have HR := m_
          clear n_ m_
          have c_g3_0 : w6.cell? ⟨g3, 0, none⟩ = some (.slice (some ad1) l0_0.length c0_0) := Bks.cell HS.out (i := 0) rfl 0 rfl
          have f_g3 : ∀ j : Nat, w6.frozen? ⟨g3, j, none⟩ = false := fun j => Bks.free HS.out (i := 0) rfl j
          have c_g6_0 : w6.cell? ⟨g6, 0, none⟩ = some (.slice none 0 0) := Bks.cell HS.out (i := 1) rfl 0 rfl
          have f_g6 : ∀ j : Nat, w6.frozen? ⟨g6, j, none⟩ = false := fun j => Bks.free HS.out (i := 1) rfl j
          have c_g7_0 : w6.cell? ⟨g7, 0, none⟩ = some (.slice Au ys.length cu) := Bks.cell HS.out (i := 2) rfl 0 rfl
          have f_g7 : ∀ j : Nat, w6.frozen? ⟨g7, j, none⟩ = false := fun j => Bks.free HS.out (i := 2) rfl j
          have c_g9_0 : w6.cell? ⟨g9, 0, none⟩ = some (.int .i64 x.f0) := Bks.cell HS.out (i := 3) rfl 0 rfl
          have c_g9_1 : w6.cell? ⟨g9, 1, none⟩ = some (.bool true) := Bks.cell HS.out (i := 3) rfl 1 rfl
          have f_g9 : ∀ j : Nat, w6.frozen? ⟨g9, j, none⟩ = false := fun j => Bks.free HS.out (i := 3) rfl j
          have ne_g3_g6 : g3 ≠ g6 := Bks.ne HS.out 0 1 _ _ rfl rfl (by decide)
          have ne_g3_g7 : g3 ≠ g7 := Bks.ne HS.out 0 2 _ _ rfl rfl (by decide)
          have ne_g3_g9 : g3 ≠ g9 := Bks.ne HS.out 0 3 _ _ rfl rfl (by decide)
          have ne_g6_g3 : g6 ≠ g3 := Bks.ne HS.out 1 0 _ _ rfl rfl (by decide)
          have ne_g6_g7 : g6 ≠ g7 := Bks.ne HS.out 1 2 _ _ rfl rfl (by decide)
          have ne_g6_g9 : g6 ≠ g9 := Bks.ne HS.out 1 3 _ _ rfl rfl (by decide)
          have ne_g7_g3 : g7 ≠ g3 := Bks.ne HS.out 2 0 _ _ rfl rfl (by decide)
          have ne_g7_g6 : g7 ≠ g6 := Bks.ne HS.out 2 1 _ _ rfl rfl (by decide)
          have ne_g7_g9 : g7 ≠ g9 := Bks.ne HS.out 2 3 _ _ rfl rfl (by decide)
          have ne_g9_g3 : g9 ≠ g3 := Bks.ne HS.out 3 0 _ _ rfl rfl (by decide)
          have ne_g9_g6 : g9 ≠ g6 := Bks.ne HS.out 3 1 _ _ rfl rfl (by decide)
          have ne_g9_g7 : g9 ≠ g7 := Bks.ne HS.out 3 2 _ _ rfl rfl (by decide)
          obtain ⟨ys6, hy6⟩ : ∃ y_ : List S107, y_ = ys ++ [(⟨x.f0, true⟩ : S107)] := ⟨_, rfl⟩
          have NY6 := Aside0.mk hy6
          clear hy6
          go_wp2_with (first | ((with_reducible refine gate_builtin (b := .append) (xs := #[.tmp 28, .tmp 30]) rfl ?_); at_builtin; refine Kd.R_append k107 (w0 := w) w.heap.size rfl (.tmp 28) (.tmp 30) 22 107 (.agg #[(.int .i64 0), (.bool false)]) 16 rfl Try.underlying22 info107 rfl (by decide) (by omega) (.slice Au ys.length cu) ys (⟨x.f0, true⟩ : S107) [.int .i64 x.f0, .bool true] (fun k => True ∧ k ≠ g9) (fun _ => False) rfl (by first | (go_simp; done) | (go_simp; rfl)) ?aP (fun _ hk => hk.elim) ?aF ?aO ?aB ?aS ?aL ?_; (case aP => exact k107_mkM _ _ _ (⟨x.f0, true⟩ : S107)); (case aB => exact HS.out.below); (case aF => exact fun k_ hk => ⟨trivial, Kd.freshB (HS.out.at_ 3 _ _ _ rfl).1 k_ hk⟩); (case aO => exact HO.out); (case aS => exact HS.out.below.size); (case aL => have h1 := HY.out; have h2 := CL.out; have h3 := HJ.out; omega); intro v7 w7 ho hb7 hgr hat; rw [← NY6.out] at ho; obtain ⟨A7, k7, rfl⟩ := Kd.R_slice ho; have n_ := Aside0.mk (show Bks w w7 [(g3, #[.slice (some ad1) l0_0.length c0_0], 24), (g6, #[.slice none 0 0], 24), (g7, #[.slice Au ys.length cu], 24), (g9, #[.int .i64 x.f0, .bool true], 107)] from Bks.keptA HS.out (Kept.of_grown (S := fun k => (.slice Au ys.length cu : Value).ownBlock = some k) hgr (Kept.refl w6 _) (fun k e => .inl e)) hb7 (by intro p hp; simp only [List.mem_cons, List.not_mem_nil, or_false] at hp; rcases hp with rfl | rfl | rfl | rfl; (· exact fun e => Kd.R_ne HO.out (HS.out.at_ 0 _ _ _ rfl).1 (by decide) e.symm); (· exact fun e => Kd.R_ne HO.out (HS.out.at_ 1 _ _ _ rfl).1 (by decide) e.symm); (· exact fun e => Kd.R_ne HO.out (HS.out.at_ 2 _ _ _ rfl).1 (by decide) e.symm); (· exact fun e => Kd.R_away HO.out (fun _ hk => hk.2) e.symm))); have o_ := Aside0.mk ho; clear HS HR HO ho hb7 hgr hat; have HS := n_; have HO := o_; clear n_ o_; clear c_g3_0 f_g3 c_g6_0 f_g6 c_g7_0 f_g7 c_g9_0 c_g9_1 f_g9 ne_g3_g6 ne_g3_g7 ne_g3_g9 ne_g6_g3 ne_g6_g7 ne_g6_g9 ne_g7_g3 ne_g7_g6 ne_g7_g9 ne_g9_g3 ne_g9_g6 ne_g9_g7; have c_g3_0 : w7.cell? ⟨g3, 0, none⟩ = some (.slice (some ad1) l0_0.length c0_0) := Bks.cell HS.out (i := 0) rfl 0 rfl; have f_g3 : ∀ j : Nat, w7.frozen? ⟨g3, j, none⟩ = false := fun j => Bks.free HS.out (i := 0) rfl j; have c_g6_0 : w7.cell? ⟨g6, 0, none⟩ = some (.slice none 0 0) := Bks.cell HS.out (i := 1) rfl 0 rfl; have f_g6 : ∀ j : Nat, w7.frozen? ⟨g6, j, none⟩ = false := fun j => Bks.free HS.out (i := 1) rfl j; have c_g7_0 : w7.cell? ⟨g7, 0, none⟩ = some (.slice Au ys.length cu) := Bks.cell HS.out (i := 2) rfl 0 rfl; have f_g7 : ∀ j : Nat, w7.frozen? ⟨g7, j, none⟩ = false := fun j => Bks.free HS.out (i := 2) rfl j; have c_g9_0 : w7.cell? ⟨g9, 0, none⟩ = some (.int .i64 x.f0) := Bks.cell HS.out (i := 3) rfl 0 rfl; have c_g9_1 : w7.cell? ⟨g9, 1, none⟩ = some (.bool true) := Bks.cell HS.out (i := 3) rfl 1 rfl; have f_g9 : ∀ j : Nat, w7.frozen? ⟨g9, j, none⟩ = false := fun j => Bks.free HS.out (i := 3) rfl j; have ne_g3_g6 : g3 ≠ g6 := Bks.ne HS.out 0 1 _ _ rfl rfl (by decide); have ne_g3_g7 : g3 ≠ g7 := Bks.ne HS.out 0 2 _ _ rfl rfl (by decide); have ne_g3_g9 : g3 ≠ g9 := Bks.ne HS.out 0 3 _ _ rfl rfl (by decide); have ne_g6_g3 : g6 ≠ g3 := Bks.ne HS.out 1 0 _ _ rfl rfl (by decide); have ne_g6_g7 : g6 ≠ g7 := Bks.ne HS.out 1 2 _ _ rfl rfl (by decide); have ne_g6_g9 : g6 ≠ g9 := Bks.ne HS.out 1 3 _ _ rfl rfl (by decide); have ne_g7_g3 : g7 ≠ g3 := Bks.ne HS.out 2 0 _ _ rfl rfl (by decide); have ne_g7_g6 : g7 ≠ g6 := Bks.ne HS.out 2 1 _ _ rfl rfl (by decide); have ne_g7_g9 : g7 ≠ g9 := Bks.ne HS.out 2 3 _ _ rfl rfl (by decide); have ne_g9_g3 : g9 ≠ g3 := Bks.ne HS.out 3 0 _ _ rfl rfl (by decide); have ne_g9_g6 : g9 ≠ g6 := Bks.ne HS.out 3 1 _ _ rfl rfl (by decide); have ne_g9_g7 : g9 ≠ g7 := Bks.ne HS.out 3 2 _ _ rfl rfl (by decide)))
          go_roundg k1
          case measure => omega
          case rel =>
            refine ⟨j + 1, _, ys6, by rw [hj], ⟨by have := HJ.out; omega⟩, ⟨?_⟩, ⟨?_⟩, ⟨Bks.pre (m := [_]) (Bks.set HS.out (i := 2) rfl 0 (.slice A7 ys6.length k7))⟩, ⟨Kd.R_mono (Kd.R_set HO.out (HS.out.at_ 2 _ _ _ rfl).1 (by decide) 0 _) (fun _ _ => trivial)⟩⟩
            · rw [HX2.out, NY6.out, E.out]
              simp only [List.append_assoc]
            · have h1 := HY.out
              rw [NY6.out, List.length_append]
              simp only [List.length_singleton]
              omega
        · replace hb : x.f1 = false := Bool.eq_false_iff.mpr hb
          rw [hb] at c_g9_1
          have HB := Aside0.mk hb
          clear hb
          have E := Aside0.mk (show rfx a2 x = (⟨x.f0, a2⟩ : S107) by unfold rfx; rw [HB.out]; rfl)
          go_upto_region 6 with fail
          have o_ := Aside0.mk (show Kd.R k107 107 (w5.setCell ⟨g9, 1, none⟩ (.bool a2)) w.heap.size (fun k => True ∧ k ≠ g9) (.slice Au ys.length cu) ys from (Kd.R_far (p := ⟨g9, 1, none⟩) HO.out (fun _ hk => hk.2) (.bool a2)))
          clear HO
          have HO := o_
          clear o_
          have n_ := Aside0.mk (show Bks w (w5.setCell ⟨g9, 1, none⟩ (.bool a2)) [(g3, #[.slice (some ad1) l0_0.length c0_0], 24), (g6, #[.slice none 0 0], 24), (g7, #[.slice Au ys.length cu], 24), (g9, #[.int .i64 x.f0, .bool a2], 107)] from (Bks.set HS.out (i := 3) rfl 1 (.bool a2)))
          have m_ := Aside0.mk (show Rws w (w5.setCell ⟨g9, 1, none⟩ (.bool a2)) [] from (Rws.set HR.out HS.out (i := 3) rfl (by decide) 1 (.bool a2)))
          clear HS HR
          clear c_g3_0 f_g3 c_g6_0 f_g6 c_g7_0 f_g7 c_g9_0 c_g9_1 f_g9 ne_g3_g6 ne_g3_g7 ne_g3_g9 ne_g6_g3 ne_g6_g7 ne_g6_g9 ne_g7_g3 ne_g7_g6 ne_g7_g9 ne_g9_g3 ne_g9_g6 ne_g9_g7
          generalize (w5.setCell ⟨g9, 1, none⟩ (.bool a2)) = w6 at n_ m_ HO ⊢
          have HS := n_
          have HR := m_
          clear n_ m_
          have c_g3_0 : w6.cell? ⟨g3, 0, none⟩ = some (.slice (some ad1) l0_0.length c0_0) := Bks.cell HS.out (i := 0) rfl 0 rfl
          have f_g3 : ∀ j : Nat, w6.frozen? ⟨g3, j, none⟩ = false := fun j => Bks.free HS.out (i := 0) rfl j
          have c_g6_0 : w6.cell? ⟨g6, 0, none⟩ = some (.slice none 0 0) := Bks.cell HS.out (i := 1) rfl 0 rfl
          have f_g6 : ∀ j : Nat, w6.frozen? ⟨g6, j, none⟩ = false := fun j => Bks.free HS.out (i := 1) rfl j
          have c_g7_0 : w6.cell? ⟨g7, 0, none⟩ = some (.slice Au ys.length cu) := Bks.cell HS.out (i := 2) rfl 0 rfl
          have f_g7 : ∀ j : Nat, w6.frozen? ⟨g7, j, none⟩ = false := fun j => Bks.free HS.out (i := 2) rfl j
          have c_g9_0 : w6.cell? ⟨g9, 0, none⟩ = some (.int .i64 x.f0) := Bks.cell HS.out (i := 3) rfl 0 rfl
          have c_g9_1 : w6.cell? ⟨g9, 1, none⟩ = some (.bool a2) := Bks.cell HS.out (i := 3) rfl 1 rfl
          have f_g9 : ∀ j : Nat, w6.frozen? ⟨g9, j, none⟩ = false := fun j => Bks.free HS.out (i := 3) rfl j
          have ne_g3_g6 : g3 ≠ g6 := Bks.ne HS.out 0 1 _ _ rfl rfl (by decide)
          have ne_g3_g7 : g3 ≠ g7 := Bks.ne HS.out 0 2 _ _ rfl rfl (by decide)
          have ne_g3_g9 : g3 ≠ g9 := Bks.ne HS.out 0 3 _ _ rfl rfl (by decide)
          have ne_g6_g3 : g6 ≠ g3 := Bks.ne HS.out 1 0 _ _ rfl rfl (by decide)
          have ne_g6_g7 : g6 ≠ g7 := Bks.ne HS.out 1 2 _ _ rfl rfl (by decide)
          have ne_g6_g9 : g6 ≠ g9 := Bks.ne HS.out 1 3 _ _ rfl rfl (by decide)
          have ne_g7_g3 : g7 ≠ g3 := Bks.ne HS.out 2 0 _ _ rfl rfl (by decide)
          have ne_g7_g6 : g7 ≠ g6 := Bks.ne HS.out 2 1 _ _ rfl rfl (by decide)
          have ne_g7_g9 : g7 ≠ g9 := Bks.ne HS.out 2 3 _ _ rfl rfl (by decide)
          have ne_g9_g3 : g9 ≠ g3 := Bks.ne HS.out 3 0 _ _ rfl rfl (by decide)
          have ne_g9_g6 : g9 ≠ g6 := Bks.ne HS.out 3 1 _ _ rfl rfl (by decide)
          have ne_g9_g7 : g9 ≠ g7 := Bks.ne HS.out 3 2 _ _ rfl rfl (by decide)
          obtain ⟨ys6, hy6⟩ : ∃ y_ : List S107, y_ = ys ++ [(⟨x.f0, a2⟩ : S107)] := ⟨_, rfl⟩
          have NY6 := Aside0.mk hy6
          clear hy6
          go_wp2_with (first | ((with_reducible refine gate_builtin (b := .append) (xs := #[.tmp 28, .tmp 30]) rfl ?_); at_builtin; refine Kd.R_append k107 (w0 := w) w.heap.size rfl (.tmp 28) (.tmp 30) 22 107 (.agg #[(.int .i64 0), (.bool false)]) 16 rfl Try.underlying22 info107 rfl (by decide) (by omega) (.slice Au ys.length cu) ys (⟨x.f0, a2⟩ : S107) [.int .i64 x.f0, .bool a2] (fun k => True ∧ k ≠ g9) (fun _ => False) rfl (by first | (go_simp; done) | (go_simp; rfl)) ?aP (fun _ hk => hk.elim) ?aF ?aO ?aB ?aS ?aL ?_; (case aP => exact k107_mkM _ _ _ (⟨x.f0, a2⟩ : S107)); (case aB => exact HS.out.below); (case aF => exact fun k_ hk => ⟨trivial, Kd.freshB (HS.out.at_ 3 _ _ _ rfl).1 k_ hk⟩); (case aO => exact HO.out); (case aS => exact HS.out.below.size); (case aL => have h1 := HY.out; have h2 := CL.out; have h3 := HJ.out; omega); intro v7 w7 ho hb7 hgr hat; rw [← NY6.out] at ho; obtain ⟨A7, k7, rfl⟩ := Kd.R_slice ho; have n_ := Aside0.mk (show Bks w w7 [(g3, #[.slice (some ad1) l0_0.length c0_0], 24), (g6, #[.slice none 0 0], 24), (g7, #[.slice Au ys.length cu], 24), (g9, #[.int .i64 x.f0, .bool a2], 107)] from Bks.keptA HS.out (Kept.of_grown (S := fun k => (.slice Au ys.length cu : Value).ownBlock = some k) hgr (Kept.refl w6 _) (fun k e => .inl e)) hb7 (by intro p hp; simp only [List.mem_cons, List.not_mem_nil, or_false] at hp; rcases hp with rfl | rfl | rfl | rfl; (· exact fun e => Kd.R_ne HO.out (HS.out.at_ 0 _ _ _ rfl).1 (by decide) e.symm); (· exact fun e => Kd.R_ne HO.out (HS.out.at_ 1 _ _ _ rfl).1 (by decide) e.symm); (· exact fun e => Kd.R_ne HO.out (HS.out.at_ 2 _ _ _ rfl).1 (by decide) e.symm); (· exact fun e => Kd.R_away HO.out (fun _ hk => hk.2) e.symm))); have o_ := Aside0.mk ho; clear HS HR HO ho hb7 hgr hat; have HS := n_; have HO := o_; clear n_ o_; clear c_g3_0 f_g3 c_g6_0 f_g6 c_g7_0 f_g7 c_g9_0 c_g9_1 f_g9 ne_g3_g6 ne_g3_g7 ne_g3_g9 ne_g6_g3 ne_g6_g7 ne_g6_g9 ne_g7_g3 ne_g7_g6 ne_g7_g9 ne_g9_g3 ne_g9_g6 ne_g9_g7; have c_g3_0 : w7.cell? ⟨g3, 0, none⟩ = some (.slice (some ad1) l0_0.length c0_0) := Bks.cell HS.out (i := 0) rfl 0 rfl; have f_g3 : ∀ j : Nat, w7.frozen? ⟨g3, j, none⟩ = false := fun j => Bks.free HS.out (i := 0) rfl j; have c_g6_0 : w7.cell? ⟨g6, 0, none⟩ = some (.slice none 0 0) := Bks.cell HS.out (i := 1) rfl 0 rfl; have f_g6 : ∀ j : Nat, w7.frozen? ⟨g6, j, none⟩ = false := fun j => Bks.free HS.out (i := 1) rfl j; have c_g7_0 : w7.cell? ⟨g7, 0, none⟩ = some (.slice Au ys.length cu) := Bks.cell HS.out (i := 2) rfl 0 rfl; have f_g7 : ∀ j : Nat, w7.frozen? ⟨g7, j, none⟩ = false := fun j => Bks.free HS.out (i := 2) rfl j; have c_g9_0 : w7.cell? ⟨g9, 0, none⟩ = some (.int .i64 x.f0) := Bks.cell HS.out (i := 3) rfl 0 rfl; have c_g9_1 : w7.cell? ⟨g9, 1, none⟩ = some (.bool a2) := Bks.cell HS.out (i := 3) rfl 1 rfl; have f_g9 : ∀ j : Nat, w7.frozen? ⟨g9, j, none⟩ = false := fun j => Bks.free HS.out (i := 3) rfl j; have ne_g3_g6 : g3 ≠ g6 := Bks.ne HS.out 0 1 _ _ rfl rfl (by decide); have ne_g3_g7 : g3 ≠ g7 := Bks.ne HS.out 0 2 _ _ rfl rfl (by decide); have ne_g3_g9 : g3 ≠ g9 := Bks.ne HS.out 0 3 _ _ rfl rfl (by decide); have ne_g6_g3 : g6 ≠ g3 := Bks.ne HS.out 1 0 _ _ rfl rfl (by decide); have ne_g6_g7 : g6 ≠ g7 := Bks.ne HS.out 1 2 _ _ rfl rfl (by decide); have ne_g6_g9 : g6 ≠ g9 := Bks.ne HS.out 1 3 _ _ rfl rfl (by decide); have ne_g7_g3 : g7 ≠ g3 := Bks.ne HS.out 2 0 _ _ rfl rfl (by decide); have ne_g7_g6 : g7 ≠ g6 := Bks.ne HS.out 2 1 _ _ rfl rfl (by decide); have ne_g7_g9 : g7 ≠ g9 := Bks.ne HS.out 2 3 _ _ rfl rfl (by decide); have ne_g9_g3 : g9 ≠ g3 := Bks.ne HS.out 3 0 _ _ rfl rfl (by decide); have ne_g9_g6 : g9 ≠ g6 := Bks.ne HS.out 3 1 _ _ rfl rfl (by decide); have ne_g9_g7 : g9 ≠ g7 := Bks.ne HS.out 3 2 _ _ rfl rfl (by decide)))
          go_roundg k1
          case measure => omega
          case rel =>
            refine ⟨j + 1, _, ys6, by rw [hj], ⟨by have := HJ.out; omega⟩, ⟨?_⟩, ⟨?_⟩, ⟨Bks.pre (m := [_]) (Bks.set HS.out (i := 2) rfl 0 (.slice A7 ys6.length k7))⟩, ⟨Kd.R_mono (Kd.R_set HO.out (HS.out.at_ 2 _ _ _ rfl).1 (by decide) 0 _) (fun _ _ => trivial)⟩⟩
            · rw [HX2.out, NY6.out, E.out]
              simp only [List.append_assoc]
            · have h1 := HY.out
              rw [NY6.out, List.length_append]
              simp only [List.length_singleton]
              omega
      · have c1b : decide (j < (l0_0.length : Int)) = false := decide_eq_false c1
        have ej : l0_0.drop j.toNat = [] := List.drop_eq_nil_of_le (by have := HJ.out; omega)
        obtain rfl : r = ys := by rw [HX.out, ej]; simp
        clear HX ej c1
        have c_g3_0 : wr.cell? ⟨g3, 0, none⟩ = some (.slice A0_0 l0_0.length c0_0) := Bks.cell HS.out (i := 0) rfl 0 rfl
        have f_g3 : ∀ j : Nat, wr.frozen? ⟨g3, j, none⟩ = false := fun j => Bks.free HS.out (i := 0) rfl j
        have c_g6_0 : wr.cell? ⟨g6, 0, none⟩ = some (.slice none 0 0) := Bks.cell HS.out (i := 1) rfl 0 rfl
        have f_g6 : ∀ j : Nat, wr.frozen? ⟨g6, j, none⟩ = false := fun j => Bks.free HS.out (i := 1) rfl j
        have c_g7_0 : wr.cell? ⟨g7, 0, none⟩ = some (.slice Au r.length cu) := Bks.cell HS.out (i := 2) rfl 0 rfl
        have f_g7 : ∀ j : Nat, wr.frozen? ⟨g7, j, none⟩ = false := fun j => Bks.free HS.out (i := 2) rfl j
        have ne_g3_g6 : g3 ≠ g6 := Bks.ne HS.out 0 1 _ _ rfl rfl (by decide)
        have ne_g3_g7 : g3 ≠ g7 := Bks.ne HS.out 0 2 _ _ rfl rfl (by decide)
        have ne_g6_g3 : g6 ≠ g3 := Bks.ne HS.out 1 0 _ _ rfl rfl (by decide)
        have ne_g6_g7 : g6 ≠ g7 := Bks.ne HS.out 1 2 _ _ rfl rfl (by decide)
        have ne_g7_g3 : g7 ≠ g3 := Bks.ne HS.out 2 0 _ _ rfl rfl (by decide)
        have ne_g7_g6 : g7 ≠ g6 := Bks.ne HS.out 2 1 _ _ rfl rfl (by decide)
        go_wp2
        have s := Aside0.mk (Bks.set HS.out (i := 1) rfl 0 (.slice Au r.length cu))
        refine bodyPost_ret (results_cell_row rfl _ _ g6 24 #[.slice Au r.length cu] (0, 0) _ rfl (s.out.at_ 1 _ _ _ rfl).1 Try.underlying24 rfl (by kernel_rfl)) rfl ?_
        exact ⟨_, rfl, Kd.R_set HO.out (HS.out.at_ 1 _ _ _ rfl).1 (by decide) 0 _, s.out.below⟩
  · rw [if_neg cl] at H
    exact absurd H (by simp)

end Go.Proofs.Ytnabbhcagonlkaa.GRelateNeeds
