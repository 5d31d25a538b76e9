/- Written for this claim by gp.py, a program of this session's, over the kit's print. Lean checks it. -/
import Derived.Test.YthhebinonpoddaaGTermBackx0
import Derived.Test.YthhebinonpoddaaGTermBackx4
import Derived.Test.YthhebinonpoddaaGTermBackhx
import Derived.Test.YthhebinonpoddaaGTermBackhrows
import Derived.Test.YthhebinonpoddaaGTermBackhtt0
import Derived.StillTailTactics
namespace Go.Proofs.Ythhebinonpoddaa.GTermBack
open Go.RowKit Go.Proofs.YthhebinonpoddaaW.PrintWords Go.Proofs.YthhebinonpoddaaW.PrintLast Go.Proofs.YthhebinonpoddaaW.PrintMore
attribute [local go_sem] max2_int min2_int max_two min_two max_three min_three max_four min_four   -- for this text's walks alone
set_option linter.unusedVariables false
set_option linter.unusedSimpArgs false

--import Derived.StillTailTactics
set_option maxHeartbeats 16000000 in
set_option maxRecDepth 100000 in
theorem term_Take.k2b (k : Nat) (a0 : ByteArray) (r1 : Int) (r2 : Int) (r3 : Int) (r4 : List Int) (r5 : List Int) (r6 : List Int) (r7 : Int) (r8 : Int) (w : World) (kind : Int) (s1 : ByteArray) (at1 e1 : Int) (h1 : term_reader_num.f k a0 0 0 = some (kind, s1, at1, e1)) (k1 : kind ≠ 1) (k2 : kind = 2) (l2 : List Int) (s2 : ByteArray) (at2 e2 : Int) (h2 : term_reader_list.f k s1 at1 e1 16 = some (l2, s2, at2, e2)) (c2 : e2 = 0) (n2 : ¬ l2.length = 0)
    (h : (((term_reader_list.f k s2 at2 0 16).bind fun v => term_Take.fin kind 0 0 l2 v.1 [] v.2.2.1 v.2.2.2)) = some (r1, r2, r3, r4, r5, r6, r7, r8)) :
    Calls Try.prog 18 #[.string a0] w fun e w' => ∃ v3_ v4_ v5_ : Value, e = .returned (.tuple #[.agg #[.int .i64 r1, .int .i64 r2, .int .i64 r3, v3_, v4_, v5_], .int .i64 r7, .int .i64 r8]) ∧ Kd.R (Kd.int .i64) 3 w' w.heap.size (fun k_ => some k_ ≠ (v4_ : Value).ownBlock ∧ some k_ ≠ (v5_ : Value).ownBlock) v3_ r4 ∧ Kd.R (Kd.int .i64) 3 w' w.heap.size (fun k_ => some k_ ≠ (v3_ : Value).ownBlock ∧ some k_ ≠ (v5_ : Value).ownBlock) v4_ r5 ∧ Kd.R (Kd.int .i64) 3 w' w.heap.size (fun k_ => some k_ ≠ (v3_ : Value).ownBlock ∧ some k_ ≠ (v4_ : Value).ownBlock) v5_ r6 ∧ Below w.heap.size w w' := by
  have hu32 := Try.underlying32
  have hu34 := Try.underlying34
  have hu103 := Try.underlying103
  have HS := Aside0.mk (Bks.start (Below.refl w.heap.size w))
  have HR := Aside0.mk (Rws.start (w0 := w) (W := w))
  have A1 := Aside0.mk h1
  clear h1
  have k2b : (kind == 2) = true := beq_iff_eq.mpr k2
  have k1b : (kind == 1) = false := beq_eq_false_iff_ne.mpr k1
  clear k1 k2
  have A2 := Aside0.mk h2
  clear h2
  have c2b : (e2 == 0) = true := beq_iff_eq.mpr c2
  have n2b : ((l2.length : Int) == 0) = false := by simp [n2]
  clear n2
  subst c2
  replace h := Option.bind_eq_some_iff.mp h
  obtain ⟨⟨l3, s3, at3, e3⟩, A30, h⟩ := h
  simp only at h
  have A3 := Aside0.mk A30
  clear A30
  unfold term_Take.fin at h
  by_cases ce : e3 = 0
  · rw [if_pos ce] at h
    simp only [Option.some.injEq, Prod.mk.injEq] at h
    obtain ⟨rfl, rfl, rfl, rfl, rfl, rfl, rfl, rfl⟩ := h
    have ceb : (e3 != 0) = false := bne_eq_false_iff_eq.mpr ce
    clear ce
    go_enter Try.func18, Try.ntmps18
    go_upto_region 3 with (first | ((with_reducible refine gate_dst (N := 2) rfl ?_); refine box_event ?hg (N := 2) ?hd (cs := #[.int .i64 0, .int .i64 0, .int .i64 0, .slice none 0 0, .slice none 0 0, .slice none 0 0]) (t := 34) ?hr ?_; (case hd => rfl); (case hg => rfl); (case hr => first | (go_simp; done) | (go_simp; rfl)); intro g2 hg2 wg2 xg2 bg2; have n_ := Aside0.mk (show Bks w wg2 [(g2, #[.int .i64 0, .int .i64 0, .int .i64 0, .slice none 0 0, .slice none 0 0, .slice none 0 0], 34)] from Bks.new HS.out hg2 xg2 bg2); have m_ := Aside0.mk (show Rws w wg2 [] from Rws.step HR.out bg2); clear HS HR; have HS := n_; have HR := m_; clear n_ m_; clear hg2 xg2 bg2; have c_g2_0 : wg2.cell? ⟨g2, 0, none⟩ = some (.int .i64 0) := Bks.cell HS.out (i := 0) rfl 0 rfl; have c_g2_1 : wg2.cell? ⟨g2, 1, none⟩ = some (.int .i64 0) := Bks.cell HS.out (i := 0) rfl 1 rfl; have c_g2_2 : wg2.cell? ⟨g2, 2, none⟩ = some (.int .i64 0) := Bks.cell HS.out (i := 0) rfl 2 rfl; have c_g2_3 : wg2.cell? ⟨g2, 3, none⟩ = some (.slice none 0 0) := Bks.cell HS.out (i := 0) rfl 3 rfl; have c_g2_4 : wg2.cell? ⟨g2, 4, none⟩ = some (.slice none 0 0) := Bks.cell HS.out (i := 0) rfl 4 rfl; have c_g2_5 : wg2.cell? ⟨g2, 5, none⟩ = some (.slice none 0 0) := Bks.cell HS.out (i := 0) rfl 5 rfl; have f_g2 : ∀ j : Nat, wg2.frozen? ⟨g2, j, none⟩ = false := fun j => Bks.free HS.out (i := 0) rfl j) | ((with_reducible refine gate_dst (N := 9) rfl ?_); refine box_event ?hg (N := 9) ?hd (cs := #[.string a0, .int .i64 0, .int .i64 0]) (t := 103) ?hr ?_; (case hd => rfl); (case hg => rfl); (case hr => first | (go_simp; done) | (go_simp; rfl)); intro g9 hg9 wg9 xg9 bg9; have n_ := Aside0.mk (show Bks w wg9 [(g2, #[.int .i64 0, .int .i64 0, .int .i64 0, .slice none 0 0, .slice none 0 0, .slice none 0 0], 34), (g9, #[.string a0, .int .i64 0, .int .i64 0], 103)] from Bks.new HS.out hg9 xg9 bg9); have m_ := Aside0.mk (show Rws w wg9 [] from Rws.step HR.out bg9); clear HS HR; clear c_g2_0 c_g2_1 c_g2_2 c_g2_3 c_g2_4 c_g2_5 f_g2; have HS := n_; have HR := m_; clear n_ m_; clear hg9 xg9 bg9; have c_g2_0 : wg9.cell? ⟨g2, 0, none⟩ = some (.int .i64 0) := Bks.cell HS.out (i := 0) rfl 0 rfl; have c_g2_1 : wg9.cell? ⟨g2, 1, none⟩ = some (.int .i64 0) := Bks.cell HS.out (i := 0) rfl 1 rfl; have c_g2_2 : wg9.cell? ⟨g2, 2, none⟩ = some (.int .i64 0) := Bks.cell HS.out (i := 0) rfl 2 rfl; have c_g2_3 : wg9.cell? ⟨g2, 3, none⟩ = some (.slice none 0 0) := Bks.cell HS.out (i := 0) rfl 3 rfl; have c_g2_4 : wg9.cell? ⟨g2, 4, none⟩ = some (.slice none 0 0) := Bks.cell HS.out (i := 0) rfl 4 rfl; have c_g2_5 : wg9.cell? ⟨g2, 5, none⟩ = some (.slice none 0 0) := Bks.cell HS.out (i := 0) rfl 5 rfl; have f_g2 : ∀ j : Nat, wg9.frozen? ⟨g2, j, none⟩ = false := fun j => Bks.free HS.out (i := 0) rfl j; have c_g9_0 : wg9.cell? ⟨g9, 0, none⟩ = some (.string a0) := Bks.cell HS.out (i := 1) rfl 0 rfl; have c_g9_1 : wg9.cell? ⟨g9, 1, none⟩ = some (.int .i64 0) := Bks.cell HS.out (i := 1) rfl 1 rfl; have c_g9_2 : wg9.cell? ⟨g9, 2, none⟩ = some (.int .i64 0) := Bks.cell HS.out (i := 1) rfl 2 rfl; have f_g9 : ∀ j : Nat, wg9.frozen? ⟨g9, j, none⟩ = false := fun j => Bks.free HS.out (i := 1) rfl j; have ne_g2_g9 : g2 ≠ g9 := Bks.ne HS.out 0 1 _ _ rfl rfl (by decide); have ne_g9_g2 : g9 ≠ g2 := Bks.ne HS.out 1 0 _ _ rfl rfl (by decide)) | (go_at_call 68; (with_reducible refine (term_reader_num.calls k g9 a0 0 0 kind s1 at1 e1 w _ ?hI_ ?hB_ A1.out).mono ?_); (case hI_ => exact (HS.out).at_ 1 _ _ _ rfl); (case hB_ => exact (HS.out).below); rintro e wc1 ⟨rfl, hI1, hB1, hK1⟩; have n_ := Aside0.mk (show Bks w wc1 [(g2, #[.int .i64 0, .int .i64 0, .int .i64 0, .slice none 0 0, .slice none 0 0, .slice none 0 0], 34), (g9, #[.string s1, .int .i64 at1, .int .i64 e1], 103)] from Bks.keep HS.out (i := 1) rfl hI1.1 hB1 hK1); have m_ := Aside0.mk (show Rws w wc1 [] from (Rws.keep HR.out HS.out (i := 1) rfl (by decide) hK1)); clear HS HR; clear c_g2_0 c_g2_1 c_g2_2 c_g2_3 c_g2_4 c_g2_5 f_g2 c_g9_0 c_g9_1 c_g9_2 f_g9 ne_g2_g9 ne_g9_g2; have HS := n_; have HR := m_; clear n_ m_; clear hI1 hB1 hK1; have c_g2_0 : wc1.cell? ⟨g2, 0, none⟩ = some (.int .i64 0) := Bks.cell HS.out (i := 0) rfl 0 rfl; have c_g2_1 : wc1.cell? ⟨g2, 1, none⟩ = some (.int .i64 0) := Bks.cell HS.out (i := 0) rfl 1 rfl; have c_g2_2 : wc1.cell? ⟨g2, 2, none⟩ = some (.int .i64 0) := Bks.cell HS.out (i := 0) rfl 2 rfl; have c_g2_3 : wc1.cell? ⟨g2, 3, none⟩ = some (.slice none 0 0) := Bks.cell HS.out (i := 0) rfl 3 rfl; have c_g2_4 : wc1.cell? ⟨g2, 4, none⟩ = some (.slice none 0 0) := Bks.cell HS.out (i := 0) rfl 4 rfl; have c_g2_5 : wc1.cell? ⟨g2, 5, none⟩ = some (.slice none 0 0) := Bks.cell HS.out (i := 0) rfl 5 rfl; have f_g2 : ∀ j : Nat, wc1.frozen? ⟨g2, j, none⟩ = false := fun j => Bks.free HS.out (i := 0) rfl j; have c_g9_0 : wc1.cell? ⟨g9, 0, none⟩ = some (.string s1) := Bks.cell HS.out (i := 1) rfl 0 rfl; have c_g9_1 : wc1.cell? ⟨g9, 1, none⟩ = some (.int .i64 at1) := Bks.cell HS.out (i := 1) rfl 1 rfl; have c_g9_2 : wc1.cell? ⟨g9, 2, none⟩ = some (.int .i64 e1) := Bks.cell HS.out (i := 1) rfl 2 rfl; have f_g9 : ∀ j : Nat, wc1.frozen? ⟨g9, j, none⟩ = false := fun j => Bks.free HS.out (i := 1) rfl j; have ne_g2_g9 : g2 ≠ g9 := Bks.ne HS.out 0 1 _ _ rfl rfl (by decide); have ne_g9_g2 : g9 ≠ g2 := Bks.ne HS.out 1 0 _ _ rfl rfl (by decide)) | ((with_reducible refine gate_dst (N := 6) rfl ?_); refine box_event ?hg (N := 6) ?hd (cs := #[.int .i64 0, .int .i64 0, .int .i64 0, .slice none 0 0, .slice none 0 0, .slice none 0 0]) (t := 34) ?hr ?_; (case hd => rfl); (case hg => rfl); (case hr => first | (go_simp; done) | (go_simp; rfl)); intro g6 hg6 wg6 xg6 bg6; have n_ := Aside0.mk (show Bks w wg6 [(g2, #[.int .i64 0, .int .i64 0, .int .i64 0, .slice none 0 0, .slice none 0 0, .slice none 0 0], 34), (g9, #[.string s1, .int .i64 at1, .int .i64 e1], 103), (g6, #[.int .i64 0, .int .i64 0, .int .i64 0, .slice none 0 0, .slice none 0 0, .slice none 0 0], 34)] from Bks.new HS.out hg6 xg6 bg6); have m_ := Aside0.mk (show Rws w wg6 [] from Rws.step HR.out bg6); clear HS HR; clear c_g2_0 c_g2_1 c_g2_2 c_g2_3 c_g2_4 c_g2_5 f_g2 c_g9_0 c_g9_1 c_g9_2 f_g9 ne_g2_g9 ne_g9_g2; have HS := n_; have HR := m_; clear n_ m_; clear hg6 xg6 bg6; have c_g2_0 : wg6.cell? ⟨g2, 0, none⟩ = some (.int .i64 0) := Bks.cell HS.out (i := 0) rfl 0 rfl; have c_g2_1 : wg6.cell? ⟨g2, 1, none⟩ = some (.int .i64 0) := Bks.cell HS.out (i := 0) rfl 1 rfl; have c_g2_2 : wg6.cell? ⟨g2, 2, none⟩ = some (.int .i64 0) := Bks.cell HS.out (i := 0) rfl 2 rfl; have c_g2_3 : wg6.cell? ⟨g2, 3, none⟩ = some (.slice none 0 0) := Bks.cell HS.out (i := 0) rfl 3 rfl; have c_g2_4 : wg6.cell? ⟨g2, 4, none⟩ = some (.slice none 0 0) := Bks.cell HS.out (i := 0) rfl 4 rfl; have c_g2_5 : wg6.cell? ⟨g2, 5, none⟩ = some (.slice none 0 0) := Bks.cell HS.out (i := 0) rfl 5 rfl; have f_g2 : ∀ j : Nat, wg6.frozen? ⟨g2, j, none⟩ = false := fun j => Bks.free HS.out (i := 0) rfl j; have c_g9_0 : wg6.cell? ⟨g9, 0, none⟩ = some (.string s1) := Bks.cell HS.out (i := 1) rfl 0 rfl; have c_g9_1 : wg6.cell? ⟨g9, 1, none⟩ = some (.int .i64 at1) := Bks.cell HS.out (i := 1) rfl 1 rfl; have c_g9_2 : wg6.cell? ⟨g9, 2, none⟩ = some (.int .i64 e1) := Bks.cell HS.out (i := 1) rfl 2 rfl; have f_g9 : ∀ j : Nat, wg6.frozen? ⟨g9, j, none⟩ = false := fun j => Bks.free HS.out (i := 1) rfl j; have c_g6_0 : wg6.cell? ⟨g6, 0, none⟩ = some (.int .i64 0) := Bks.cell HS.out (i := 2) rfl 0 rfl; have c_g6_1 : wg6.cell? ⟨g6, 1, none⟩ = some (.int .i64 0) := Bks.cell HS.out (i := 2) rfl 1 rfl; have c_g6_2 : wg6.cell? ⟨g6, 2, none⟩ = some (.int .i64 0) := Bks.cell HS.out (i := 2) rfl 2 rfl; have c_g6_3 : wg6.cell? ⟨g6, 3, none⟩ = some (.slice none 0 0) := Bks.cell HS.out (i := 2) rfl 3 rfl; have c_g6_4 : wg6.cell? ⟨g6, 4, none⟩ = some (.slice none 0 0) := Bks.cell HS.out (i := 2) rfl 4 rfl; have c_g6_5 : wg6.cell? ⟨g6, 5, none⟩ = some (.slice none 0 0) := Bks.cell HS.out (i := 2) rfl 5 rfl; have f_g6 : ∀ j : Nat, wg6.frozen? ⟨g6, j, none⟩ = false := fun j => Bks.free HS.out (i := 2) rfl j; have ne_g2_g9 : g2 ≠ g9 := Bks.ne HS.out 0 1 _ _ rfl rfl (by decide); have ne_g2_g6 : g2 ≠ g6 := Bks.ne HS.out 0 2 _ _ rfl rfl (by decide); have ne_g9_g2 : g9 ≠ g2 := Bks.ne HS.out 1 0 _ _ rfl rfl (by decide); have ne_g9_g6 : g9 ≠ g6 := Bks.ne HS.out 1 2 _ _ rfl rfl (by decide); have ne_g6_g2 : g6 ≠ g2 := Bks.ne HS.out 2 0 _ _ rfl rfl (by decide); have ne_g6_g9 : g6 ≠ g9 := Bks.ne HS.out 2 1 _ _ rfl rfl (by decide)))
    have n_ := Aside0.mk (show Bks w ((((((wg6.setCell ⟨g6, 0, none⟩ (.int .i64 kind)).setCell ⟨g6, 1, none⟩ (.int .i64 0)).setCell ⟨g6, 2, none⟩ (.int .i64 0)).setCell ⟨g6, 3, none⟩ (.slice none 0 0)).setCell ⟨g6, 4, none⟩ (.slice none 0 0)).setCell ⟨g6, 5, none⟩ (.slice none 0 0)) [(g2, #[.int .i64 0, .int .i64 0, .int .i64 0, .slice none 0 0, .slice none 0 0, .slice none 0 0], 34), (g9, #[.string s1, .int .i64 at1, .int .i64 e1], 103), (g6, #[.int .i64 kind, .int .i64 0, .int .i64 0, .slice none 0 0, .slice none 0 0, .slice none 0 0], 34)] from (Bks.set (Bks.set (Bks.set (Bks.set (Bks.set (Bks.set HS.out (i := 2) rfl 0 (.int .i64 kind)) (i := 2) rfl 1 (.int .i64 0)) (i := 2) rfl 2 (.int .i64 0)) (i := 2) rfl 3 (.slice none 0 0)) (i := 2) rfl 4 (.slice none 0 0)) (i := 2) rfl 5 (.slice none 0 0)))
    have m_ := Aside0.mk (show Rws w ((((((wg6.setCell ⟨g6, 0, none⟩ (.int .i64 kind)).setCell ⟨g6, 1, none⟩ (.int .i64 0)).setCell ⟨g6, 2, none⟩ (.int .i64 0)).setCell ⟨g6, 3, none⟩ (.slice none 0 0)).setCell ⟨g6, 4, none⟩ (.slice none 0 0)).setCell ⟨g6, 5, none⟩ (.slice none 0 0)) [] from (Rws.set (Rws.set (Rws.set (Rws.set (Rws.set (Rws.set HR.out HS.out (i := 2) rfl (by decide) 0 (.int .i64 kind)) (Bks.set HS.out (i := 2) rfl 0 (.int .i64 kind)) (i := 2) rfl (by decide) 1 (.int .i64 0)) (Bks.set (Bks.set HS.out (i := 2) rfl 0 (.int .i64 kind)) (i := 2) rfl 1 (.int .i64 0)) (i := 2) rfl (by decide) 2 (.int .i64 0)) (Bks.set (Bks.set (Bks.set HS.out (i := 2) rfl 0 (.int .i64 kind)) (i := 2) rfl 1 (.int .i64 0)) (i := 2) rfl 2 (.int .i64 0)) (i := 2) rfl (by decide) 3 (.slice none 0 0)) (Bks.set (Bks.set (Bks.set (Bks.set HS.out (i := 2) rfl 0 (.int .i64 kind)) (i := 2) rfl 1 (.int .i64 0)) (i := 2) rfl 2 (.int .i64 0)) (i := 2) rfl 3 (.slice none 0 0)) (i := 2) rfl (by decide) 4 (.slice none 0 0)) (Bks.set (Bks.set (Bks.set (Bks.set (Bks.set HS.out (i := 2) rfl 0 (.int .i64 kind)) (i := 2) rfl 1 (.int .i64 0)) (i := 2) rfl 2 (.int .i64 0)) (i := 2) rfl 3 (.slice none 0 0)) (i := 2) rfl 4 (.slice none 0 0)) (i := 2) rfl (by decide) 5 (.slice none 0 0)))
    clear HS HR
    clear c_g2_0 c_g2_1 c_g2_2 c_g2_3 c_g2_4 c_g2_5 f_g2 c_g9_0 c_g9_1 c_g9_2 f_g9 c_g6_0 c_g6_1 c_g6_2 c_g6_3 c_g6_4 c_g6_5 f_g6 ne_g2_g9 ne_g2_g6 ne_g9_g2 ne_g9_g6 ne_g6_g2 ne_g6_g9
    generalize ((((((wg6.setCell ⟨g6, 0, none⟩ (.int .i64 kind)).setCell ⟨g6, 1, none⟩ (.int .i64 0)).setCell ⟨g6, 2, none⟩ (.int .i64 0)).setCell ⟨g6, 3, none⟩ (.slice none 0 0)).setCell ⟨g6, 4, none⟩ (.slice none 0 0)).setCell ⟨g6, 5, none⟩ (.slice none 0 0)) = w3 at n_ m_ ⊢
    have HS := n_
    have HR := m_
    clear n_ m_
    have c_g2_0 : w3.cell? ⟨g2, 0, none⟩ = some (.int .i64 0) := Bks.cell HS.out (i := 0) rfl 0 rfl
    have c_g2_1 : w3.cell? ⟨g2, 1, none⟩ = some (.int .i64 0) := Bks.cell HS.out (i := 0) rfl 1 rfl
    have c_g2_2 : w3.cell? ⟨g2, 2, none⟩ = some (.int .i64 0) := Bks.cell HS.out (i := 0) rfl 2 rfl
    have c_g2_3 : w3.cell? ⟨g2, 3, none⟩ = some (.slice none 0 0) := Bks.cell HS.out (i := 0) rfl 3 rfl
    have c_g2_4 : w3.cell? ⟨g2, 4, none⟩ = some (.slice none 0 0) := Bks.cell HS.out (i := 0) rfl 4 rfl
    have c_g2_5 : w3.cell? ⟨g2, 5, none⟩ = some (.slice none 0 0) := Bks.cell HS.out (i := 0) rfl 5 rfl
    have f_g2 : ∀ j : Nat, w3.frozen? ⟨g2, j, none⟩ = false := fun j => Bks.free HS.out (i := 0) rfl j
    have c_g9_0 : w3.cell? ⟨g9, 0, none⟩ = some (.string s1) := Bks.cell HS.out (i := 1) rfl 0 rfl
    have c_g9_1 : w3.cell? ⟨g9, 1, none⟩ = some (.int .i64 at1) := Bks.cell HS.out (i := 1) rfl 1 rfl
    have c_g9_2 : w3.cell? ⟨g9, 2, none⟩ = some (.int .i64 e1) := Bks.cell HS.out (i := 1) rfl 2 rfl
    have f_g9 : ∀ j : Nat, w3.frozen? ⟨g9, j, none⟩ = false := fun j => Bks.free HS.out (i := 1) rfl j
    have c_g6_0 : w3.cell? ⟨g6, 0, none⟩ = some (.int .i64 kind) := Bks.cell HS.out (i := 2) rfl 0 rfl
    have c_g6_1 : w3.cell? ⟨g6, 1, none⟩ = some (.int .i64 0) := Bks.cell HS.out (i := 2) rfl 1 rfl
    have c_g6_2 : w3.cell? ⟨g6, 2, none⟩ = some (.int .i64 0) := Bks.cell HS.out (i := 2) rfl 2 rfl
    have c_g6_3 : w3.cell? ⟨g6, 3, none⟩ = some (.slice none 0 0) := Bks.cell HS.out (i := 2) rfl 3 rfl
    have c_g6_4 : w3.cell? ⟨g6, 4, none⟩ = some (.slice none 0 0) := Bks.cell HS.out (i := 2) rfl 4 rfl
    have c_g6_5 : w3.cell? ⟨g6, 5, none⟩ = some (.slice none 0 0) := Bks.cell HS.out (i := 2) rfl 5 rfl
    have f_g6 : ∀ j : Nat, w3.frozen? ⟨g6, j, none⟩ = false := fun j => Bks.free HS.out (i := 2) rfl j
    have ne_g2_g9 : g2 ≠ g9 := Bks.ne HS.out 0 1 _ _ rfl rfl (by decide)
    have ne_g2_g6 : g2 ≠ g6 := Bks.ne HS.out 0 2 _ _ rfl rfl (by decide)
    have ne_g9_g2 : g9 ≠ g2 := Bks.ne HS.out 1 0 _ _ rfl rfl (by decide)
    have ne_g9_g6 : g9 ≠ g6 := Bks.ne HS.out 1 2 _ _ rfl rfl (by decide)
    have ne_g6_g2 : g6 ≠ g2 := Bks.ne HS.out 2 0 _ _ rfl rfl (by decide)
    have ne_g6_g9 : g6 ≠ g9 := Bks.ne HS.out 2 1 _ _ rfl rfl (by decide)
    go_upto_region 20 with (first | (go_at_call 69; (with_reducible refine (term_reader_list.calls k g9 s1 at1 e1 16 l2 s2 at2 0 w _ ?hI_ ?hB_ A2.out).mono ?_); (case hI_ => exact (HS.out).at_ 1 _ _ _ rfl); (case hB_ => exact (HS.out).below); rintro e wc2 ⟨vl2, rfl, hR2, hI2, hB2, hK2⟩; obtain ⟨Aq2, cq2, rfl⟩ := Kd.R_slice hR2; have n_ := Aside0.mk (show Bks w wc2 [(g2, #[.int .i64 0, .int .i64 0, .int .i64 0, .slice none 0 0, .slice none 0 0, .slice none 0 0], 34), (g9, #[.string s2, .int .i64 at2, .int .i64 0], 103), (g6, #[.int .i64 kind, .int .i64 0, .int .i64 0, .slice none 0 0, .slice none 0 0, .slice none 0 0], 34)] from Bks.keep HS.out (i := 1) rfl hI2.1 hB2 hK2); have m_ := Aside0.mk (show Rws w wc2 [(.slice Aq2 (l2).length cq2, l2)] from Rws.push HR.out (Rws.keep HR.out HS.out (i := 1) rfl (by decide) hK2) HS.out.below.size hR2); clear HS HR; clear c_g2_0 c_g2_1 c_g2_2 c_g2_3 c_g2_4 c_g2_5 f_g2 c_g9_0 c_g9_1 c_g9_2 f_g9 c_g6_0 c_g6_1 c_g6_2 c_g6_3 c_g6_4 c_g6_5 f_g6 ne_g2_g9 ne_g2_g6 ne_g9_g2 ne_g9_g6 ne_g6_g2 ne_g6_g9; have HS := n_; have HR := m_; clear n_ m_; clear hI2 hB2 hK2 hR2; have c_g2_0 : wc2.cell? ⟨g2, 0, none⟩ = some (.int .i64 0) := Bks.cell HS.out (i := 0) rfl 0 rfl; have c_g2_1 : wc2.cell? ⟨g2, 1, none⟩ = some (.int .i64 0) := Bks.cell HS.out (i := 0) rfl 1 rfl; have c_g2_2 : wc2.cell? ⟨g2, 2, none⟩ = some (.int .i64 0) := Bks.cell HS.out (i := 0) rfl 2 rfl; have c_g2_3 : wc2.cell? ⟨g2, 3, none⟩ = some (.slice none 0 0) := Bks.cell HS.out (i := 0) rfl 3 rfl; have c_g2_4 : wc2.cell? ⟨g2, 4, none⟩ = some (.slice none 0 0) := Bks.cell HS.out (i := 0) rfl 4 rfl; have c_g2_5 : wc2.cell? ⟨g2, 5, none⟩ = some (.slice none 0 0) := Bks.cell HS.out (i := 0) rfl 5 rfl; have f_g2 : ∀ j : Nat, wc2.frozen? ⟨g2, j, none⟩ = false := fun j => Bks.free HS.out (i := 0) rfl j; have c_g9_0 : wc2.cell? ⟨g9, 0, none⟩ = some (.string s2) := Bks.cell HS.out (i := 1) rfl 0 rfl; have c_g9_1 : wc2.cell? ⟨g9, 1, none⟩ = some (.int .i64 at2) := Bks.cell HS.out (i := 1) rfl 1 rfl; have c_g9_2 : wc2.cell? ⟨g9, 2, none⟩ = some (.int .i64 0) := Bks.cell HS.out (i := 1) rfl 2 rfl; have f_g9 : ∀ j : Nat, wc2.frozen? ⟨g9, j, none⟩ = false := fun j => Bks.free HS.out (i := 1) rfl j; have c_g6_0 : wc2.cell? ⟨g6, 0, none⟩ = some (.int .i64 kind) := Bks.cell HS.out (i := 2) rfl 0 rfl; have c_g6_1 : wc2.cell? ⟨g6, 1, none⟩ = some (.int .i64 0) := Bks.cell HS.out (i := 2) rfl 1 rfl; have c_g6_2 : wc2.cell? ⟨g6, 2, none⟩ = some (.int .i64 0) := Bks.cell HS.out (i := 2) rfl 2 rfl; have c_g6_3 : wc2.cell? ⟨g6, 3, none⟩ = some (.slice none 0 0) := Bks.cell HS.out (i := 2) rfl 3 rfl; have c_g6_4 : wc2.cell? ⟨g6, 4, none⟩ = some (.slice none 0 0) := Bks.cell HS.out (i := 2) rfl 4 rfl; have c_g6_5 : wc2.cell? ⟨g6, 5, none⟩ = some (.slice none 0 0) := Bks.cell HS.out (i := 2) rfl 5 rfl; have f_g6 : ∀ j : Nat, wc2.frozen? ⟨g6, j, none⟩ = false := fun j => Bks.free HS.out (i := 2) rfl j; have ne_g2_g9 : g2 ≠ g9 := Bks.ne HS.out 0 1 _ _ rfl rfl (by decide); have ne_g2_g6 : g2 ≠ g6 := Bks.ne HS.out 0 2 _ _ rfl rfl (by decide); have ne_g9_g2 : g9 ≠ g2 := Bks.ne HS.out 1 0 _ _ rfl rfl (by decide); have ne_g9_g6 : g9 ≠ g6 := Bks.ne HS.out 1 2 _ _ rfl rfl (by decide); have ne_g6_g2 : g6 ≠ g2 := Bks.ne HS.out 2 0 _ _ rfl rfl (by decide); have ne_g6_g9 : g6 ≠ g9 := Bks.ne HS.out 2 1 _ _ rfl rfl (by decide)) | (go_at_call 69; (with_reducible refine (term_reader_list.calls k g9 s2 at2 0 16 l3 s3 at3 e3 w _ ?hI_ ?hB_ A3.out).mono ?_); (case hI_ => exact ((Bks.set HS.out (i := 2) rfl 3 (.slice Aq2 (l2).length cq2))).at_ 1 _ _ _ rfl); (case hB_ => exact ((Bks.set HS.out (i := 2) rfl 3 (.slice Aq2 (l2).length cq2))).below); rintro e wc3 ⟨vl3, rfl, hR3, hI3, hB3, hK3⟩; obtain ⟨Aq3, cq3, rfl⟩ := Kd.R_slice hR3; have n_ := Aside0.mk (show Bks w wc3 [(g2, #[.int .i64 0, .int .i64 0, .int .i64 0, .slice none 0 0, .slice none 0 0, .slice none 0 0], 34), (g9, #[.string s3, .int .i64 at3, .int .i64 e3], 103), (g6, #[.int .i64 kind, .int .i64 0, .int .i64 0, .slice Aq2 (l2).length cq2, .slice none 0 0, .slice none 0 0], 34)] from Bks.keep (Bks.set HS.out (i := 2) rfl 3 (.slice Aq2 (l2).length cq2)) (i := 1) rfl hI3.1 hB3 hK3); have m_ := Aside0.mk (show Rws w wc3 [(.slice Aq2 (l2).length cq2, l2), (.slice Aq3 (l3).length cq3, l3)] from Rws.push (Rws.set HR.out HS.out (i := 2) rfl (by decide) 3 (.slice Aq2 (l2).length cq2)) (Rws.keep (Rws.set HR.out HS.out (i := 2) rfl (by decide) 3 (.slice Aq2 (l2).length cq2)) (Bks.set HS.out (i := 2) rfl 3 (.slice Aq2 (l2).length cq2)) (i := 1) rfl (by decide) hK3) (Bks.set HS.out (i := 2) rfl 3 (.slice Aq2 (l2).length cq2)).below.size hR3); clear HS HR; clear c_g2_0 c_g2_1 c_g2_2 c_g2_3 c_g2_4 c_g2_5 f_g2 c_g9_0 c_g9_1 c_g9_2 f_g9 c_g6_0 c_g6_1 c_g6_2 c_g6_3 c_g6_4 c_g6_5 f_g6 ne_g2_g9 ne_g2_g6 ne_g9_g2 ne_g9_g6 ne_g6_g2 ne_g6_g9; have HS := n_; have HR := m_; clear n_ m_; clear hI3 hB3 hK3 hR3; have c_g2_0 : wc3.cell? ⟨g2, 0, none⟩ = some (.int .i64 0) := Bks.cell HS.out (i := 0) rfl 0 rfl; have c_g2_1 : wc3.cell? ⟨g2, 1, none⟩ = some (.int .i64 0) := Bks.cell HS.out (i := 0) rfl 1 rfl; have c_g2_2 : wc3.cell? ⟨g2, 2, none⟩ = some (.int .i64 0) := Bks.cell HS.out (i := 0) rfl 2 rfl; have c_g2_3 : wc3.cell? ⟨g2, 3, none⟩ = some (.slice none 0 0) := Bks.cell HS.out (i := 0) rfl 3 rfl; have c_g2_4 : wc3.cell? ⟨g2, 4, none⟩ = some (.slice none 0 0) := Bks.cell HS.out (i := 0) rfl 4 rfl; have c_g2_5 : wc3.cell? ⟨g2, 5, none⟩ = some (.slice none 0 0) := Bks.cell HS.out (i := 0) rfl 5 rfl; have f_g2 : ∀ j : Nat, wc3.frozen? ⟨g2, j, none⟩ = false := fun j => Bks.free HS.out (i := 0) rfl j; have c_g9_0 : wc3.cell? ⟨g9, 0, none⟩ = some (.string s3) := Bks.cell HS.out (i := 1) rfl 0 rfl; have c_g9_1 : wc3.cell? ⟨g9, 1, none⟩ = some (.int .i64 at3) := Bks.cell HS.out (i := 1) rfl 1 rfl; have c_g9_2 : wc3.cell? ⟨g9, 2, none⟩ = some (.int .i64 e3) := Bks.cell HS.out (i := 1) rfl 2 rfl; have f_g9 : ∀ j : Nat, wc3.frozen? ⟨g9, j, none⟩ = false := fun j => Bks.free HS.out (i := 1) rfl j; have c_g6_0 : wc3.cell? ⟨g6, 0, none⟩ = some (.int .i64 kind) := Bks.cell HS.out (i := 2) rfl 0 rfl; have c_g6_1 : wc3.cell? ⟨g6, 1, none⟩ = some (.int .i64 0) := Bks.cell HS.out (i := 2) rfl 1 rfl; have c_g6_2 : wc3.cell? ⟨g6, 2, none⟩ = some (.int .i64 0) := Bks.cell HS.out (i := 2) rfl 2 rfl; have c_g6_3 : wc3.cell? ⟨g6, 3, none⟩ = some (.slice Aq2 (l2).length cq2) := Bks.cell HS.out (i := 2) rfl 3 rfl; have c_g6_4 : wc3.cell? ⟨g6, 4, none⟩ = some (.slice none 0 0) := Bks.cell HS.out (i := 2) rfl 4 rfl; have c_g6_5 : wc3.cell? ⟨g6, 5, none⟩ = some (.slice none 0 0) := Bks.cell HS.out (i := 2) rfl 5 rfl; have f_g6 : ∀ j : Nat, wc3.frozen? ⟨g6, j, none⟩ = false := fun j => Bks.free HS.out (i := 2) rfl j; have ne_g2_g9 : g2 ≠ g9 := Bks.ne HS.out 0 1 _ _ rfl rfl (by decide); have ne_g2_g6 : g2 ≠ g6 := Bks.ne HS.out 0 2 _ _ rfl rfl (by decide); have ne_g9_g2 : g9 ≠ g2 := Bks.ne HS.out 1 0 _ _ rfl rfl (by decide); have ne_g9_g6 : g9 ≠ g6 := Bks.ne HS.out 1 2 _ _ rfl rfl (by decide); have ne_g6_g2 : g6 ≠ g2 := Bks.ne HS.out 2 0 _ _ rfl rfl (by decide); have ne_g6_g9 : g6 ≠ g9 := Bks.ne HS.out 2 1 _ _ rfl rfl (by decide)))
    have n_ := Aside0.mk (show Bks w (wc3.setCell ⟨g6, 4, none⟩ (.slice Aq3 (l3).length cq3)) [(g2, #[.int .i64 0, .int .i64 0, .int .i64 0, .slice none 0 0, .slice none 0 0, .slice none 0 0], 34), (g9, #[.string s3, .int .i64 at3, .int .i64 e3], 103), (g6, #[.int .i64 kind, .int .i64 0, .int .i64 0, .slice Aq2 (l2).length cq2, .slice Aq3 (l3).length cq3, .slice none 0 0], 34)] from (Bks.set HS.out (i := 2) rfl 4 (.slice Aq3 (l3).length cq3)))
    have m_ := Aside0.mk (show Rws w (wc3.setCell ⟨g6, 4, none⟩ (.slice Aq3 (l3).length cq3)) [(.slice Aq2 (l2).length cq2, l2), (.slice Aq3 (l3).length cq3, l3)] from (Rws.set HR.out HS.out (i := 2) rfl (by decide) 4 (.slice Aq3 (l3).length cq3)))
    clear HS HR
    clear c_g2_0 c_g2_1 c_g2_2 c_g2_3 c_g2_4 c_g2_5 f_g2 c_g9_0 c_g9_1 c_g9_2 f_g9 c_g6_0 c_g6_1 c_g6_2 c_g6_3 c_g6_4 c_g6_5 f_g6 ne_g2_g9 ne_g2_g6 ne_g9_g2 ne_g9_g6 ne_g6_g2 ne_g6_g9
    generalize (wc3.setCell ⟨g6, 4, none⟩ (.slice Aq3 (l3).length cq3)) = w20 at n_ m_ ⊢
    have HS := n_
    have HR := m_
    clear n_ m_
    have c_g2_0 : w20.cell? ⟨g2, 0, none⟩ = some (.int .i64 0) := Bks.cell HS.out (i := 0) rfl 0 rfl
    have c_g2_1 : w20.cell? ⟨g2, 1, none⟩ = some (.int .i64 0) := Bks.cell HS.out (i := 0) rfl 1 rfl
    have c_g2_2 : w20.cell? ⟨g2, 2, none⟩ = some (.int .i64 0) := Bks.cell HS.out (i := 0) rfl 2 rfl
    have c_g2_3 : w20.cell? ⟨g2, 3, none⟩ = some (.slice none 0 0) := Bks.cell HS.out (i := 0) rfl 3 rfl
    have c_g2_4 : w20.cell? ⟨g2, 4, none⟩ = some (.slice none 0 0) := Bks.cell HS.out (i := 0) rfl 4 rfl
    have c_g2_5 : w20.cell? ⟨g2, 5, none⟩ = some (.slice none 0 0) := Bks.cell HS.out (i := 0) rfl 5 rfl
    have f_g2 : ∀ j : Nat, w20.frozen? ⟨g2, j, none⟩ = false := fun j => Bks.free HS.out (i := 0) rfl j
    have c_g9_0 : w20.cell? ⟨g9, 0, none⟩ = some (.string s3) := Bks.cell HS.out (i := 1) rfl 0 rfl
    have c_g9_1 : w20.cell? ⟨g9, 1, none⟩ = some (.int .i64 at3) := Bks.cell HS.out (i := 1) rfl 1 rfl
    have c_g9_2 : w20.cell? ⟨g9, 2, none⟩ = some (.int .i64 e3) := Bks.cell HS.out (i := 1) rfl 2 rfl
    have f_g9 : ∀ j : Nat, w20.frozen? ⟨g9, j, none⟩ = false := fun j => Bks.free HS.out (i := 1) rfl j
    have c_g6_0 : w20.cell? ⟨g6, 0, none⟩ = some (.int .i64 kind) := Bks.cell HS.out (i := 2) rfl 0 rfl
    have c_g6_1 : w20.cell? ⟨g6, 1, none⟩ = some (.int .i64 0) := Bks.cell HS.out (i := 2) rfl 1 rfl
    have c_g6_2 : w20.cell? ⟨g6, 2, none⟩ = some (.int .i64 0) := Bks.cell HS.out (i := 2) rfl 2 rfl
    have c_g6_3 : w20.cell? ⟨g6, 3, none⟩ = some (.slice Aq2 (l2).length cq2) := Bks.cell HS.out (i := 2) rfl 3 rfl
    have c_g6_4 : w20.cell? ⟨g6, 4, none⟩ = some (.slice Aq3 (l3).length cq3) := Bks.cell HS.out (i := 2) rfl 4 rfl
    have c_g6_5 : w20.cell? ⟨g6, 5, none⟩ = some (.slice none 0 0) := Bks.cell HS.out (i := 2) rfl 5 rfl
    have f_g6 : ∀ j : Nat, w20.frozen? ⟨g6, j, none⟩ = false := fun j => Bks.free HS.out (i := 2) rfl j
    have ne_g2_g9 : g2 ≠ g9 := Bks.ne HS.out 0 1 _ _ rfl rfl (by decide)
    have ne_g2_g6 : g2 ≠ g6 := Bks.ne HS.out 0 2 _ _ rfl rfl (by decide)
    have ne_g9_g2 : g9 ≠ g2 := Bks.ne HS.out 1 0 _ _ rfl rfl (by decide)
    have ne_g9_g6 : g9 ≠ g6 := Bks.ne HS.out 1 2 _ _ rfl rfl (by decide)
    have ne_g6_g2 : g6 ≠ g2 := Bks.ne HS.out 2 0 _ _ rfl rfl (by decide)
    have ne_g6_g9 : g6 ≠ g9 := Bks.ne HS.out 2 1 _ _ rfl rfl (by decide)
    have n_ := Aside0.mk (show Bks w (World.drew w20) [(g2, #[.int .i64 0, .int .i64 0, .int .i64 0, .slice none 0 0, .slice none 0 0, .slice none 0 0], 34), (g9, #[.string s3, .int .i64 at3, .int .i64 e3], 103), (g6, #[.int .i64 kind, .int .i64 0, .int .i64 0, .slice Aq2 (l2).length cq2, .slice Aq3 (l3).length cq3, .slice none 0 0], 34)] from Bks.drew HS.out)
    have m_ := Aside0.mk (show Rws w (World.drew w20) [(.slice Aq2 (l2).length cq2, l2), (.slice Aq3 (l3).length cq3, l3)] from Rws.drew HR.out)
    clear HS HR
    clear c_g2_0 c_g2_1 c_g2_2 c_g2_3 c_g2_4 c_g2_5 f_g2 c_g9_0 c_g9_1 c_g9_2 f_g9 c_g6_0 c_g6_1 c_g6_2 c_g6_3 c_g6_4 c_g6_5 f_g6 ne_g2_g9 ne_g2_g6 ne_g9_g2 ne_g9_g6 ne_g6_g2 ne_g6_g9
    have HS := n_
    have HR := m_
    clear n_ m_
    refine start_ (n := 8) (S := fun w' => w'.cell? ⟨g6, 0, none⟩ = some (.int .i64 kind) ∧ w'.cell? ⟨g6, 1, none⟩ = some (.int .i64 0) ∧ w'.cell? ⟨g6, 2, none⟩ = some (.int .i64 0) ∧ w'.cell? ⟨g6, 3, none⟩ = some (.slice Aq2 (l2).length cq2) ∧ w'.cell? ⟨g6, 4, none⟩ = some (.slice Aq3 (l3).length cq3) ∧ w'.cell? ⟨g6, 5, none⟩ = some (.slice none 0 0) ∧ w'.cell? ⟨g9, 1, none⟩ = some (.int .i64 at3)) (ds := []) #[false, false, false, false, false, false, false, false] (by kernel_rfl) rfl rfl ⟨Bks.cell HS.out (i := 2) rfl 0 rfl, Bks.cell HS.out (i := 2) rfl 1 rfl, Bks.cell HS.out (i := 2) rfl 2 rfl, Bks.cell HS.out (i := 2) rfl 3 rfl, Bks.cell HS.out (i := 2) rfl 4 rfl, Bks.cell HS.out (i := 2) rfl 5 rfl, Bks.cell HS.out (i := 1) rfl 1 rfl⟩ (fun hHeld => ?_)
    generalize World.drew w20 = w20d at HS HR hHeld ⊢
    refine take_ (i := 0) (N := some 81) (v := ?_) (a' := ?_) #[true, false, false, false, false, false, false, false] rfl rfl (by kernel_rfl) (fun _ _ _ h => h) (Or.inl ⟨by rfl, ?_⟩) hHeld ?_ ?_
    rotate_left
    · rintro w' ⟨s0, s1, s2, s3, s4, s5, s6⟩
      go_simp
      with_reducible rfl
    rotate_left
    · simp only [Act.put, List.setIfInBounds_toArray, List.set_cons_zero, List.set_cons_succ, i64_w, i32_w]
      rfl
    refine pure_ (i := 1) (N := some 82) (v := ?_) (a' := ?_) #[true, true, false, false, false, false, false, false] rfl rfl (by kernel_rfl) (fun _ _ _ h => h) (Or.inl ⟨by rfl, ?_⟩) ?_ ?_
    rotate_left
    · intro w'
      go_simp
      with_reducible rfl
    rotate_left
    · simp only [Act.put, List.setIfInBounds_toArray, List.set_cons_zero, List.set_cons_succ, i64_w, i32_w]
      rfl
    refine pure_ (i := 2) (N := some 83) (v := ?_) (a' := ?_) #[true, true, true, false, false, false, false, false] rfl rfl (by kernel_rfl) (fun _ _ _ h => h) (Or.inl ⟨by rfl, ?_⟩) ?_ ?_
    rotate_left
    · intro w'
      go_simp
      with_reducible rfl
    rotate_left
    · simp only [Act.put, List.setIfInBounds_toArray, List.set_cons_zero, List.set_cons_succ, i64_w, i32_w]
      rfl
    refine pure_ (i := 3) (N := some 84) (v := ?_) (a' := ?_) #[true, true, true, true, false, false, false, false] rfl rfl (by kernel_rfl) (fun _ _ _ h => h) (Or.inl ⟨by rfl, ?_⟩) ?_ ?_
    rotate_left
    · intro w'
      go_simp
      with_reducible rfl
    rotate_left
    · simp only [Act.put, List.setIfInBounds_toArray, List.set_cons_zero, List.set_cons_succ, i64_w, i32_w]
      rfl
    refine take_ (i := 4) (N := some 85) (v := ?_) (a' := ?_) #[true, true, true, true, true, false, false, false] rfl rfl (by kernel_rfl) (fun _ _ _ h => h) (Or.inl ⟨by rfl, ?_⟩) hHeld ?_ ?_
    rotate_left
    · rintro w' ⟨s0, s1, s2, s3, s4, s5, s6⟩
      go_simp
      with_reducible rfl
    rotate_left
    · simp only [Act.put, List.setIfInBounds_toArray, List.set_cons_zero, List.set_cons_succ, i64_w, i32_w]
      rfl
    have c_g2_0 : w20d.cell? ⟨g2, 0, none⟩ = some (.int .i64 0) := Bks.cell HS.out (i := 0) rfl 0 rfl
    have c_g2_1 : w20d.cell? ⟨g2, 1, none⟩ = some (.int .i64 0) := Bks.cell HS.out (i := 0) rfl 1 rfl
    have c_g2_2 : w20d.cell? ⟨g2, 2, none⟩ = some (.int .i64 0) := Bks.cell HS.out (i := 0) rfl 2 rfl
    have c_g2_3 : w20d.cell? ⟨g2, 3, none⟩ = some (.slice none 0 0) := Bks.cell HS.out (i := 0) rfl 3 rfl
    have c_g2_4 : w20d.cell? ⟨g2, 4, none⟩ = some (.slice none 0 0) := Bks.cell HS.out (i := 0) rfl 4 rfl
    have c_g2_5 : w20d.cell? ⟨g2, 5, none⟩ = some (.slice none 0 0) := Bks.cell HS.out (i := 0) rfl 5 rfl
    have f_g2 : ∀ j : Nat, w20d.frozen? ⟨g2, j, none⟩ = false := fun j => Bks.free HS.out (i := 0) rfl j
    have c_g9_0 : w20d.cell? ⟨g9, 0, none⟩ = some (.string s3) := Bks.cell HS.out (i := 1) rfl 0 rfl
    have c_g9_1 : w20d.cell? ⟨g9, 1, none⟩ = some (.int .i64 at3) := Bks.cell HS.out (i := 1) rfl 1 rfl
    have c_g9_2 : w20d.cell? ⟨g9, 2, none⟩ = some (.int .i64 e3) := Bks.cell HS.out (i := 1) rfl 2 rfl
    have f_g9 : ∀ j : Nat, w20d.frozen? ⟨g9, j, none⟩ = false := fun j => Bks.free HS.out (i := 1) rfl j
    have c_g6_0 : w20d.cell? ⟨g6, 0, none⟩ = some (.int .i64 kind) := Bks.cell HS.out (i := 2) rfl 0 rfl
    have c_g6_1 : w20d.cell? ⟨g6, 1, none⟩ = some (.int .i64 0) := Bks.cell HS.out (i := 2) rfl 1 rfl
    have c_g6_2 : w20d.cell? ⟨g6, 2, none⟩ = some (.int .i64 0) := Bks.cell HS.out (i := 2) rfl 2 rfl
    have c_g6_3 : w20d.cell? ⟨g6, 3, none⟩ = some (.slice Aq2 (l2).length cq2) := Bks.cell HS.out (i := 2) rfl 3 rfl
    have c_g6_4 : w20d.cell? ⟨g6, 4, none⟩ = some (.slice Aq3 (l3).length cq3) := Bks.cell HS.out (i := 2) rfl 4 rfl
    have c_g6_5 : w20d.cell? ⟨g6, 5, none⟩ = some (.slice none 0 0) := Bks.cell HS.out (i := 2) rfl 5 rfl
    have f_g6 : ∀ j : Nat, w20d.frozen? ⟨g6, j, none⟩ = false := fun j => Bks.free HS.out (i := 2) rfl j
    have ne_g2_g9 : g2 ≠ g9 := Bks.ne HS.out 0 1 _ _ rfl rfl (by decide)
    have ne_g2_g6 : g2 ≠ g6 := Bks.ne HS.out 0 2 _ _ rfl rfl (by decide)
    have ne_g9_g2 : g9 ≠ g2 := Bks.ne HS.out 1 0 _ _ rfl rfl (by decide)
    have ne_g9_g6 : g9 ≠ g6 := Bks.ne HS.out 1 2 _ _ rfl rfl (by decide)
    have ne_g6_g2 : g6 ≠ g2 := Bks.ne HS.out 2 0 _ _ rfl rfl (by decide)
    have ne_g6_g9 : g6 ≠ g9 := Bks.ne HS.out 2 1 _ _ rfl rfl (by decide)
    refine one_ (i := 5) (N := none) #[true, true, true, true, true, true, false, false] rfl rfl (by kernel_rfl) (by decide) (fun K hK => ?_)
    refine skip_ (w1 := ((((((w20d.setCell ⟨g2, 0, none⟩ (.int .i64 kind)).setCell ⟨g2, 1, none⟩ (.int .i64 0)).setCell ⟨g2, 2, none⟩ (.int .i64 0)).setCell ⟨g2, 3, none⟩ (.slice Aq2 (l2).length cq2)).setCell ⟨g2, 4, none⟩ (.slice Aq3 (l3).length cq3)).setCell ⟨g2, 5, none⟩ (.slice none 0 0))) (by rfl) rfl (by first | (go_simp; done) | (go_simp; rfl)) ?_
    refine hK.out _ _ ⟨Bks.cell (Bks.set (Bks.set (Bks.set (Bks.set (Bks.set (Bks.set HS.out (i := 0) rfl 0 (.int .i64 kind)) (i := 0) rfl 1 (.int .i64 0)) (i := 0) rfl 2 (.int .i64 0)) (i := 0) rfl 3 (.slice Aq2 (l2).length cq2)) (i := 0) rfl 4 (.slice Aq3 (l3).length cq3)) (i := 0) rfl 5 (.slice none 0 0)) (i := 2) rfl 0 rfl, Bks.cell (Bks.set (Bks.set (Bks.set (Bks.set (Bks.set (Bks.set HS.out (i := 0) rfl 0 (.int .i64 kind)) (i := 0) rfl 1 (.int .i64 0)) (i := 0) rfl 2 (.int .i64 0)) (i := 0) rfl 3 (.slice Aq2 (l2).length cq2)) (i := 0) rfl 4 (.slice Aq3 (l3).length cq3)) (i := 0) rfl 5 (.slice none 0 0)) (i := 2) rfl 1 rfl, Bks.cell (Bks.set (Bks.set (Bks.set (Bks.set (Bks.set (Bks.set HS.out (i := 0) rfl 0 (.int .i64 kind)) (i := 0) rfl 1 (.int .i64 0)) (i := 0) rfl 2 (.int .i64 0)) (i := 0) rfl 3 (.slice Aq2 (l2).length cq2)) (i := 0) rfl 4 (.slice Aq3 (l3).length cq3)) (i := 0) rfl 5 (.slice none 0 0)) (i := 2) rfl 2 rfl, Bks.cell (Bks.set (Bks.set (Bks.set (Bks.set (Bks.set (Bks.set HS.out (i := 0) rfl 0 (.int .i64 kind)) (i := 0) rfl 1 (.int .i64 0)) (i := 0) rfl 2 (.int .i64 0)) (i := 0) rfl 3 (.slice Aq2 (l2).length cq2)) (i := 0) rfl 4 (.slice Aq3 (l3).length cq3)) (i := 0) rfl 5 (.slice none 0 0)) (i := 2) rfl 3 rfl, Bks.cell (Bks.set (Bks.set (Bks.set (Bks.set (Bks.set (Bks.set HS.out (i := 0) rfl 0 (.int .i64 kind)) (i := 0) rfl 1 (.int .i64 0)) (i := 0) rfl 2 (.int .i64 0)) (i := 0) rfl 3 (.slice Aq2 (l2).length cq2)) (i := 0) rfl 4 (.slice Aq3 (l3).length cq3)) (i := 0) rfl 5 (.slice none 0 0)) (i := 2) rfl 4 rfl, Bks.cell (Bks.set (Bks.set (Bks.set (Bks.set (Bks.set (Bks.set HS.out (i := 0) rfl 0 (.int .i64 kind)) (i := 0) rfl 1 (.int .i64 0)) (i := 0) rfl 2 (.int .i64 0)) (i := 0) rfl 3 (.slice Aq2 (l2).length cq2)) (i := 0) rfl 4 (.slice Aq3 (l3).length cq3)) (i := 0) rfl 5 (.slice none 0 0)) (i := 2) rfl 5 rfl, Bks.cell (Bks.set (Bks.set (Bks.set (Bks.set (Bks.set (Bks.set HS.out (i := 0) rfl 0 (.int .i64 kind)) (i := 0) rfl 1 (.int .i64 0)) (i := 0) rfl 2 (.int .i64 0)) (i := 0) rfl 3 (.slice Aq2 (l2).length cq2)) (i := 0) rfl 4 (.slice Aq3 (l3).length cq3)) (i := 0) rfl 5 (.slice none 0 0)) (i := 1) rfl 1 rfl⟩ (fun hHeld => ?_)
    clear hK K
    refine pure_ (i := 6) (N := some 3) (v := ?_) (a' := ?_) #[true, true, true, true, true, true, true, false] rfl rfl (by kernel_rfl) (fun _ _ _ h => h) (Or.inl ⟨by rfl, ?_⟩) ?_ ?_
    rotate_left
    · intro w'
      go_simp
      with_reducible rfl
    rotate_left
    · simp only [Act.put, List.setIfInBounds_toArray, List.set_cons_zero, List.set_cons_succ, i64_w, i32_w]
      rfl
    refine pure_ (i := 7) (N := some 4) (v := ?_) (a' := ?_) #[true, true, true, true, true, true, true, true] rfl rfl (by kernel_rfl) (fun _ _ _ h => h) (Or.inl ⟨by rfl, ?_⟩) ?_ ?_
    rotate_left
    · intro w'
      go_simp
      with_reducible rfl
    rotate_left
    · simp only [Act.put, List.setIfInBounds_toArray, List.set_cons_zero, List.set_cons_succ, i64_w, i32_w]
      rfl
    refine done_ (by kernel_rfl) ?_
    go_wp2
    have s := (Bks.set (Bks.set (Bks.set (Bks.set (Bks.set (Bks.set HS.out (i := 0) rfl 0 (.int .i64 kind)) (i := 0) rfl 1 (.int .i64 0)) (i := 0) rfl 2 (.int .i64 0)) (i := 0) rfl 3 (.slice Aq2 (l2).length cq2)) (i := 0) rfl 4 (.slice Aq3 (l3).length cq3)) (i := 0) rfl 5 (.slice none 0 0))
    have r := (Rws.set (Rws.set (Rws.set (Rws.set (Rws.set (Rws.set HR.out HS.out (i := 0) rfl (by decide) 0 (.int .i64 kind)) (Bks.set HS.out (i := 0) rfl 0 (.int .i64 kind)) (i := 0) rfl (by decide) 1 (.int .i64 0)) (Bks.set (Bks.set HS.out (i := 0) rfl 0 (.int .i64 kind)) (i := 0) rfl 1 (.int .i64 0)) (i := 0) rfl (by decide) 2 (.int .i64 0)) (Bks.set (Bks.set (Bks.set HS.out (i := 0) rfl 0 (.int .i64 kind)) (i := 0) rfl 1 (.int .i64 0)) (i := 0) rfl 2 (.int .i64 0)) (i := 0) rfl (by decide) 3 (.slice Aq2 (l2).length cq2)) (Bks.set (Bks.set (Bks.set (Bks.set HS.out (i := 0) rfl 0 (.int .i64 kind)) (i := 0) rfl 1 (.int .i64 0)) (i := 0) rfl 2 (.int .i64 0)) (i := 0) rfl 3 (.slice Aq2 (l2).length cq2)) (i := 0) rfl (by decide) 4 (.slice Aq3 (l3).length cq3)) (Bks.set (Bks.set (Bks.set (Bks.set (Bks.set HS.out (i := 0) rfl 0 (.int .i64 kind)) (i := 0) rfl 1 (.int .i64 0)) (i := 0) rfl 2 (.int .i64 0)) (i := 0) rfl 3 (.slice Aq2 (l2).length cq2)) (i := 0) rfl 4 (.slice Aq3 (l3).length cq3)) (i := 0) rfl (by decide) 5 (.slice none 0 0))
    have q := (Rws.nil r)
    refine bodyPost_ret (results_ctt rfl _ _ g2 34 #[.int .i64 kind, .int .i64 0, .int .i64 0, .slice Aq2 (l2).length cq2, .slice Aq3 (l3).length cq3, .slice none 0 0] (0, 0) _ rfl (s.at_ 0 _ _ _ rfl).1 Try.underlying34 rfl (by kernel_rfl)) rfl ?_
    exact ⟨_, _, _, rfl, q.out3 0 1 2 rfl rfl rfl (by decide) (by decide), q.out3 1 0 2 rfl rfl rfl (by decide) (by decide), q.out3 2 0 1 rfl rfl rfl (by decide) (by decide), s.below⟩
  · rw [if_neg ce] at h
    simp only [Option.some.injEq, Prod.mk.injEq] at h
    obtain ⟨rfl, rfl, rfl, rfl, rfl, rfl, rfl, rfl⟩ := h
    have ceb : (e3 != 0) = true := bne_iff_ne.mpr ce
    clear ce
    go_enter Try.func18, Try.ntmps18
    go_upto_region 3 with (first | ((with_reducible refine gate_dst (N := 2) rfl ?_); refine box_event ?hg (N := 2) ?hd (cs := #[.int .i64 0, .int .i64 0, .int .i64 0, .slice none 0 0, .slice none 0 0, .slice none 0 0]) (t := 34) ?hr ?_; (case hd => rfl); (case hg => rfl); (case hr => first | (go_simp; done) | (go_simp; rfl)); intro g2 hg2 wg2 xg2 bg2; have n_ := Aside0.mk (show Bks w wg2 [(g2, #[.int .i64 0, .int .i64 0, .int .i64 0, .slice none 0 0, .slice none 0 0, .slice none 0 0], 34)] from Bks.new HS.out hg2 xg2 bg2); have m_ := Aside0.mk (show Rws w wg2 [] from Rws.step HR.out bg2); clear HS HR; have HS := n_; have HR := m_; clear n_ m_; clear hg2 xg2 bg2; have c_g2_0 : wg2.cell? ⟨g2, 0, none⟩ = some (.int .i64 0) := Bks.cell HS.out (i := 0) rfl 0 rfl; have c_g2_1 : wg2.cell? ⟨g2, 1, none⟩ = some (.int .i64 0) := Bks.cell HS.out (i := 0) rfl 1 rfl; have c_g2_2 : wg2.cell? ⟨g2, 2, none⟩ = some (.int .i64 0) := Bks.cell HS.out (i := 0) rfl 2 rfl; have c_g2_3 : wg2.cell? ⟨g2, 3, none⟩ = some (.slice none 0 0) := Bks.cell HS.out (i := 0) rfl 3 rfl; have c_g2_4 : wg2.cell? ⟨g2, 4, none⟩ = some (.slice none 0 0) := Bks.cell HS.out (i := 0) rfl 4 rfl; have c_g2_5 : wg2.cell? ⟨g2, 5, none⟩ = some (.slice none 0 0) := Bks.cell HS.out (i := 0) rfl 5 rfl; have f_g2 : ∀ j : Nat, wg2.frozen? ⟨g2, j, none⟩ = false := fun j => Bks.free HS.out (i := 0) rfl j) | ((with_reducible refine gate_dst (N := 9) rfl ?_); refine box_event ?hg (N := 9) ?hd (cs := #[.string a0, .int .i64 0, .int .i64 0]) (t := 103) ?hr ?_; (case hd => rfl); (case hg => rfl); (case hr => first | (go_simp; done) | (go_simp; rfl)); intro g9 hg9 wg9 xg9 bg9; have n_ := Aside0.mk (show Bks w wg9 [(g2, #[.int .i64 0, .int .i64 0, .int .i64 0, .slice none 0 0, .slice none 0 0, .slice none 0 0], 34), (g9, #[.string a0, .int .i64 0, .int .i64 0], 103)] from Bks.new HS.out hg9 xg9 bg9); have m_ := Aside0.mk (show Rws w wg9 [] from Rws.step HR.out bg9); clear HS HR; clear c_g2_0 c_g2_1 c_g2_2 c_g2_3 c_g2_4 c_g2_5 f_g2; have HS := n_; have HR := m_; clear n_ m_; clear hg9 xg9 bg9; have c_g2_0 : wg9.cell? ⟨g2, 0, none⟩ = some (.int .i64 0) := Bks.cell HS.out (i := 0) rfl 0 rfl; have c_g2_1 : wg9.cell? ⟨g2, 1, none⟩ = some (.int .i64 0) := Bks.cell HS.out (i := 0) rfl 1 rfl; have c_g2_2 : wg9.cell? ⟨g2, 2, none⟩ = some (.int .i64 0) := Bks.cell HS.out (i := 0) rfl 2 rfl; have c_g2_3 : wg9.cell? ⟨g2, 3, none⟩ = some (.slice none 0 0) := Bks.cell HS.out (i := 0) rfl 3 rfl; have c_g2_4 : wg9.cell? ⟨g2, 4, none⟩ = some (.slice none 0 0) := Bks.cell HS.out (i := 0) rfl 4 rfl; have c_g2_5 : wg9.cell? ⟨g2, 5, none⟩ = some (.slice none 0 0) := Bks.cell HS.out (i := 0) rfl 5 rfl; have f_g2 : ∀ j : Nat, wg9.frozen? ⟨g2, j, none⟩ = false := fun j => Bks.free HS.out (i := 0) rfl j; have c_g9_0 : wg9.cell? ⟨g9, 0, none⟩ = some (.string a0) := Bks.cell HS.out (i := 1) rfl 0 rfl; have c_g9_1 : wg9.cell? ⟨g9, 1, none⟩ = some (.int .i64 0) := Bks.cell HS.out (i := 1) rfl 1 rfl; have c_g9_2 : wg9.cell? ⟨g9, 2, none⟩ = some (.int .i64 0) := Bks.cell HS.out (i := 1) rfl 2 rfl; have f_g9 : ∀ j : Nat, wg9.frozen? ⟨g9, j, none⟩ = false := fun j => Bks.free HS.out (i := 1) rfl j; have ne_g2_g9 : g2 ≠ g9 := Bks.ne HS.out 0 1 _ _ rfl rfl (by decide); have ne_g9_g2 : g9 ≠ g2 := Bks.ne HS.out 1 0 _ _ rfl rfl (by decide)) | (go_at_call 68; (with_reducible refine (term_reader_num.calls k g9 a0 0 0 kind s1 at1 e1 w _ ?hI_ ?hB_ A1.out).mono ?_); (case hI_ => exact (HS.out).at_ 1 _ _ _ rfl); (case hB_ => exact (HS.out).below); rintro e wc1 ⟨rfl, hI1, hB1, hK1⟩; have n_ := Aside0.mk (show Bks w wc1 [(g2, #[.int .i64 0, .int .i64 0, .int .i64 0, .slice none 0 0, .slice none 0 0, .slice none 0 0], 34), (g9, #[.string s1, .int .i64 at1, .int .i64 e1], 103)] from Bks.keep HS.out (i := 1) rfl hI1.1 hB1 hK1); have m_ := Aside0.mk (show Rws w wc1 [] from (Rws.keep HR.out HS.out (i := 1) rfl (by decide) hK1)); clear HS HR; clear c_g2_0 c_g2_1 c_g2_2 c_g2_3 c_g2_4 c_g2_5 f_g2 c_g9_0 c_g9_1 c_g9_2 f_g9 ne_g2_g9 ne_g9_g2; have HS := n_; have HR := m_; clear n_ m_; clear hI1 hB1 hK1; have c_g2_0 : wc1.cell? ⟨g2, 0, none⟩ = some (.int .i64 0) := Bks.cell HS.out (i := 0) rfl 0 rfl; have c_g2_1 : wc1.cell? ⟨g2, 1, none⟩ = some (.int .i64 0) := Bks.cell HS.out (i := 0) rfl 1 rfl; have c_g2_2 : wc1.cell? ⟨g2, 2, none⟩ = some (.int .i64 0) := Bks.cell HS.out (i := 0) rfl 2 rfl; have c_g2_3 : wc1.cell? ⟨g2, 3, none⟩ = some (.slice none 0 0) := Bks.cell HS.out (i := 0) rfl 3 rfl; have c_g2_4 : wc1.cell? ⟨g2, 4, none⟩ = some (.slice none 0 0) := Bks.cell HS.out (i := 0) rfl 4 rfl; have c_g2_5 : wc1.cell? ⟨g2, 5, none⟩ = some (.slice none 0 0) := Bks.cell HS.out (i := 0) rfl 5 rfl; have f_g2 : ∀ j : Nat, wc1.frozen? ⟨g2, j, none⟩ = false := fun j => Bks.free HS.out (i := 0) rfl j; have c_g9_0 : wc1.cell? ⟨g9, 0, none⟩ = some (.string s1) := Bks.cell HS.out (i := 1) rfl 0 rfl; have c_g9_1 : wc1.cell? ⟨g9, 1, none⟩ = some (.int .i64 at1) := Bks.cell HS.out (i := 1) rfl 1 rfl; have c_g9_2 : wc1.cell? ⟨g9, 2, none⟩ = some (.int .i64 e1) := Bks.cell HS.out (i := 1) rfl 2 rfl; have f_g9 : ∀ j : Nat, wc1.frozen? ⟨g9, j, none⟩ = false := fun j => Bks.free HS.out (i := 1) rfl j; have ne_g2_g9 : g2 ≠ g9 := Bks.ne HS.out 0 1 _ _ rfl rfl (by decide); have ne_g9_g2 : g9 ≠ g2 := Bks.ne HS.out 1 0 _ _ rfl rfl (by decide)) | ((with_reducible refine gate_dst (N := 6) rfl ?_); refine box_event ?hg (N := 6) ?hd (cs := #[.int .i64 0, .int .i64 0, .int .i64 0, .slice none 0 0, .slice none 0 0, .slice none 0 0]) (t := 34) ?hr ?_; (case hd => rfl); (case hg => rfl); (case hr => first | (go_simp; done) | (go_simp; rfl)); intro g6 hg6 wg6 xg6 bg6; have n_ := Aside0.mk (show Bks w wg6 [(g2, #[.int .i64 0, .int .i64 0, .int .i64 0, .slice none 0 0, .slice none 0 0, .slice none 0 0], 34), (g9, #[.string s1, .int .i64 at1, .int .i64 e1], 103), (g6, #[.int .i64 0, .int .i64 0, .int .i64 0, .slice none 0 0, .slice none 0 0, .slice none 0 0], 34)] from Bks.new HS.out hg6 xg6 bg6); have m_ := Aside0.mk (show Rws w wg6 [] from Rws.step HR.out bg6); clear HS HR; clear c_g2_0 c_g2_1 c_g2_2 c_g2_3 c_g2_4 c_g2_5 f_g2 c_g9_0 c_g9_1 c_g9_2 f_g9 ne_g2_g9 ne_g9_g2; have HS := n_; have HR := m_; clear n_ m_; clear hg6 xg6 bg6; have c_g2_0 : wg6.cell? ⟨g2, 0, none⟩ = some (.int .i64 0) := Bks.cell HS.out (i := 0) rfl 0 rfl; have c_g2_1 : wg6.cell? ⟨g2, 1, none⟩ = some (.int .i64 0) := Bks.cell HS.out (i := 0) rfl 1 rfl; have c_g2_2 : wg6.cell? ⟨g2, 2, none⟩ = some (.int .i64 0) := Bks.cell HS.out (i := 0) rfl 2 rfl; have c_g2_3 : wg6.cell? ⟨g2, 3, none⟩ = some (.slice none 0 0) := Bks.cell HS.out (i := 0) rfl 3 rfl; have c_g2_4 : wg6.cell? ⟨g2, 4, none⟩ = some (.slice none 0 0) := Bks.cell HS.out (i := 0) rfl 4 rfl; have c_g2_5 : wg6.cell? ⟨g2, 5, none⟩ = some (.slice none 0 0) := Bks.cell HS.out (i := 0) rfl 5 rfl; have f_g2 : ∀ j : Nat, wg6.frozen? ⟨g2, j, none⟩ = false := fun j => Bks.free HS.out (i := 0) rfl j; have c_g9_0 : wg6.cell? ⟨g9, 0, none⟩ = some (.string s1) := Bks.cell HS.out (i := 1) rfl 0 rfl; have c_g9_1 : wg6.cell? ⟨g9, 1, none⟩ = some (.int .i64 at1) := Bks.cell HS.out (i := 1) rfl 1 rfl; have c_g9_2 : wg6.cell? ⟨g9, 2, none⟩ = some (.int .i64 e1) := Bks.cell HS.out (i := 1) rfl 2 rfl; have f_g9 : ∀ j : Nat, wg6.frozen? ⟨g9, j, none⟩ = false := fun j => Bks.free HS.out (i := 1) rfl j; have c_g6_0 : wg6.cell? ⟨g6, 0, none⟩ = some (.int .i64 0) := Bks.cell HS.out (i := 2) rfl 0 rfl; have c_g6_1 : wg6.cell? ⟨g6, 1, none⟩ = some (.int .i64 0) := Bks.cell HS.out (i := 2) rfl 1 rfl; have c_g6_2 : wg6.cell? ⟨g6, 2, none⟩ = some (.int .i64 0) := Bks.cell HS.out (i := 2) rfl 2 rfl; have c_g6_3 : wg6.cell? ⟨g6, 3, none⟩ = some (.slice none 0 0) := Bks.cell HS.out (i := 2) rfl 3 rfl; have c_g6_4 : wg6.cell? ⟨g6, 4, none⟩ = some (.slice none 0 0) := Bks.cell HS.out (i := 2) rfl 4 rfl; have c_g6_5 : wg6.cell? ⟨g6, 5, none⟩ = some (.slice none 0 0) := Bks.cell HS.out (i := 2) rfl 5 rfl; have f_g6 : ∀ j : Nat, wg6.frozen? ⟨g6, j, none⟩ = false := fun j => Bks.free HS.out (i := 2) rfl j; have ne_g2_g9 : g2 ≠ g9 := Bks.ne HS.out 0 1 _ _ rfl rfl (by decide); have ne_g2_g6 : g2 ≠ g6 := Bks.ne HS.out 0 2 _ _ rfl rfl (by decide); have ne_g9_g2 : g9 ≠ g2 := Bks.ne HS.out 1 0 _ _ rfl rfl (by decide); have ne_g9_g6 : g9 ≠ g6 := Bks.ne HS.out 1 2 _ _ rfl rfl (by decide); have ne_g6_g2 : g6 ≠ g2 := Bks.ne HS.out 2 0 _ _ rfl rfl (by decide); have ne_g6_g9 : g6 ≠ g9 := Bks.ne HS.out 2 1 _ _ rfl rfl (by decide)))
    have n_ := Aside0.mk (show Bks w ((((((wg6.setCell ⟨g6, 0, none⟩ (.int .i64 kind)).setCell ⟨g6, 1, none⟩ (.int .i64 0)).setCell ⟨g6, 2, none⟩ (.int .i64 0)).setCell ⟨g6, 3, none⟩ (.slice none 0 0)).setCell ⟨g6, 4, none⟩ (.slice none 0 0)).setCell ⟨g6, 5, none⟩ (.slice none 0 0)) [(g2, #[.int .i64 0, .int .i64 0, .int .i64 0, .slice none 0 0, .slice none 0 0, .slice none 0 0], 34), (g9, #[.string s1, .int .i64 at1, .int .i64 e1], 103), (g6, #[.int .i64 kind, .int .i64 0, .int .i64 0, .slice none 0 0, .slice none 0 0, .slice none 0 0], 34)] from (Bks.set (Bks.set (Bks.set (Bks.set (Bks.set (Bks.set HS.out (i := 2) rfl 0 (.int .i64 kind)) (i := 2) rfl 1 (.int .i64 0)) (i := 2) rfl 2 (.int .i64 0)) (i := 2) rfl 3 (.slice none 0 0)) (i := 2) rfl 4 (.slice none 0 0)) (i := 2) rfl 5 (.slice none 0 0)))
    have m_ := Aside0.mk (show Rws w ((((((wg6.setCell ⟨g6, 0, none⟩ (.int .i64 kind)).setCell ⟨g6, 1, none⟩ (.int .i64 0)).setCell ⟨g6, 2, none⟩ (.int .i64 0)).setCell ⟨g6, 3, none⟩ (.slice none 0 0)).setCell ⟨g6, 4, none⟩ (.slice none 0 0)).setCell ⟨g6, 5, none⟩ (.slice none 0 0)) [] from (Rws.set (Rws.set (Rws.set (Rws.set (Rws.set (Rws.set HR.out HS.out (i := 2) rfl (by decide) 0 (.int .i64 kind)) (Bks.set HS.out (i := 2) rfl 0 (.int .i64 kind)) (i := 2) rfl (by decide) 1 (.int .i64 0)) (Bks.set (Bks.set HS.out (i := 2) rfl 0 (.int .i64 kind)) (i := 2) rfl 1 (.int .i64 0)) (i := 2) rfl (by decide) 2 (.int .i64 0)) (Bks.set (Bks.set (Bks.set HS.out (i := 2) rfl 0 (.int .i64 kind)) (i := 2) rfl 1 (.int .i64 0)) (i := 2) rfl 2 (.int .i64 0)) (i := 2) rfl (by decide) 3 (.slice none 0 0)) (Bks.set (Bks.set (Bks.set (Bks.set HS.out (i := 2) rfl 0 (.int .i64 kind)) (i := 2) rfl 1 (.int .i64 0)) (i := 2) rfl 2 (.int .i64 0)) (i := 2) rfl 3 (.slice none 0 0)) (i := 2) rfl (by decide) 4 (.slice none 0 0)) (Bks.set (Bks.set (Bks.set (Bks.set (Bks.set HS.out (i := 2) rfl 0 (.int .i64 kind)) (i := 2) rfl 1 (.int .i64 0)) (i := 2) rfl 2 (.int .i64 0)) (i := 2) rfl 3 (.slice none 0 0)) (i := 2) rfl 4 (.slice none 0 0)) (i := 2) rfl (by decide) 5 (.slice none 0 0)))
    clear HS HR
    clear c_g2_0 c_g2_1 c_g2_2 c_g2_3 c_g2_4 c_g2_5 f_g2 c_g9_0 c_g9_1 c_g9_2 f_g9 c_g6_0 c_g6_1 c_g6_2 c_g6_3 c_g6_4 c_g6_5 f_g6 ne_g2_g9 ne_g2_g6 ne_g9_g2 ne_g9_g6 ne_g6_g2 ne_g6_g9
    generalize ((((((wg6.setCell ⟨g6, 0, none⟩ (.int .i64 kind)).setCell ⟨g6, 1, none⟩ (.int .i64 0)).setCell ⟨g6, 2, none⟩ (.int .i64 0)).setCell ⟨g6, 3, none⟩ (.slice none 0 0)).setCell ⟨g6, 4, none⟩ (.slice none 0 0)).setCell ⟨g6, 5, none⟩ (.slice none 0 0)) = w3 at n_ m_ ⊢
    have HS := n_
    have HR := m_
    clear n_ m_
    have c_g2_0 : w3.cell? ⟨g2, 0, none⟩ = some (.int .i64 0) := Bks.cell HS.out (i := 0) rfl 0 rfl
    have c_g2_1 : w3.cell? ⟨g2, 1, none⟩ = some (.int .i64 0) := Bks.cell HS.out (i := 0) rfl 1 rfl
    have c_g2_2 : w3.cell? ⟨g2, 2, none⟩ = some (.int .i64 0) := Bks.cell HS.out (i := 0) rfl 2 rfl
    have c_g2_3 : w3.cell? ⟨g2, 3, none⟩ = some (.slice none 0 0) := Bks.cell HS.out (i := 0) rfl 3 rfl
    have c_g2_4 : w3.cell? ⟨g2, 4, none⟩ = some (.slice none 0 0) := Bks.cell HS.out (i := 0) rfl 4 rfl
    have c_g2_5 : w3.cell? ⟨g2, 5, none⟩ = some (.slice none 0 0) := Bks.cell HS.out (i := 0) rfl 5 rfl
    have f_g2 : ∀ j : Nat, w3.frozen? ⟨g2, j, none⟩ = false := fun j => Bks.free HS.out (i := 0) rfl j
    have c_g9_0 : w3.cell? ⟨g9, 0, none⟩ = some (.string s1) := Bks.cell HS.out (i := 1) rfl 0 rfl
    have c_g9_1 : w3.cell? ⟨g9, 1, none⟩ = some (.int .i64 at1) := Bks.cell HS.out (i := 1) rfl 1 rfl
    have c_g9_2 : w3.cell? ⟨g9, 2, none⟩ = some (.int .i64 e1) := Bks.cell HS.out (i := 1) rfl 2 rfl
    have f_g9 : ∀ j : Nat, w3.frozen? ⟨g9, j, none⟩ = false := fun j => Bks.free HS.out (i := 1) rfl j
    have c_g6_0 : w3.cell? ⟨g6, 0, none⟩ = some (.int .i64 kind) := Bks.cell HS.out (i := 2) rfl 0 rfl
    have c_g6_1 : w3.cell? ⟨g6, 1, none⟩ = some (.int .i64 0) := Bks.cell HS.out (i := 2) rfl 1 rfl
    have c_g6_2 : w3.cell? ⟨g6, 2, none⟩ = some (.int .i64 0) := Bks.cell HS.out (i := 2) rfl 2 rfl
    have c_g6_3 : w3.cell? ⟨g6, 3, none⟩ = some (.slice none 0 0) := Bks.cell HS.out (i := 2) rfl 3 rfl
    have c_g6_4 : w3.cell? ⟨g6, 4, none⟩ = some (.slice none 0 0) := Bks.cell HS.out (i := 2) rfl 4 rfl
    have c_g6_5 : w3.cell? ⟨g6, 5, none⟩ = some (.slice none 0 0) := Bks.cell HS.out (i := 2) rfl 5 rfl
    have f_g6 : ∀ j : Nat, w3.frozen? ⟨g6, j, none⟩ = false := fun j => Bks.free HS.out (i := 2) rfl j
    have ne_g2_g9 : g2 ≠ g9 := Bks.ne HS.out 0 1 _ _ rfl rfl (by decide)
    have ne_g2_g6 : g2 ≠ g6 := Bks.ne HS.out 0 2 _ _ rfl rfl (by decide)
    have ne_g9_g2 : g9 ≠ g2 := Bks.ne HS.out 1 0 _ _ rfl rfl (by decide)
    have ne_g9_g6 : g9 ≠ g6 := Bks.ne HS.out 1 2 _ _ rfl rfl (by decide)
    have ne_g6_g2 : g6 ≠ g2 := Bks.ne HS.out 2 0 _ _ rfl rfl (by decide)
    have ne_g6_g9 : g6 ≠ g9 := Bks.ne HS.out 2 1 _ _ rfl rfl (by decide)
    go_upto_region 19 with (first | (go_at_call 69; (with_reducible refine (term_reader_list.calls k g9 s1 at1 e1 16 l2 s2 at2 0 w _ ?hI_ ?hB_ A2.out).mono ?_); (case hI_ => exact (HS.out).at_ 1 _ _ _ rfl); (case hB_ => exact (HS.out).below); rintro e wc2 ⟨vl2, rfl, hR2, hI2, hB2, hK2⟩; obtain ⟨Aq2, cq2, rfl⟩ := Kd.R_slice hR2; have n_ := Aside0.mk (show Bks w wc2 [(g2, #[.int .i64 0, .int .i64 0, .int .i64 0, .slice none 0 0, .slice none 0 0, .slice none 0 0], 34), (g9, #[.string s2, .int .i64 at2, .int .i64 0], 103), (g6, #[.int .i64 kind, .int .i64 0, .int .i64 0, .slice none 0 0, .slice none 0 0, .slice none 0 0], 34)] from Bks.keep HS.out (i := 1) rfl hI2.1 hB2 hK2); have m_ := Aside0.mk (show Rws w wc2 [(.slice Aq2 (l2).length cq2, l2)] from Rws.push HR.out (Rws.keep HR.out HS.out (i := 1) rfl (by decide) hK2) HS.out.below.size hR2); clear HS HR; clear c_g2_0 c_g2_1 c_g2_2 c_g2_3 c_g2_4 c_g2_5 f_g2 c_g9_0 c_g9_1 c_g9_2 f_g9 c_g6_0 c_g6_1 c_g6_2 c_g6_3 c_g6_4 c_g6_5 f_g6 ne_g2_g9 ne_g2_g6 ne_g9_g2 ne_g9_g6 ne_g6_g2 ne_g6_g9; have HS := n_; have HR := m_; clear n_ m_; clear hI2 hB2 hK2 hR2; have c_g2_0 : wc2.cell? ⟨g2, 0, none⟩ = some (.int .i64 0) := Bks.cell HS.out (i := 0) rfl 0 rfl; have c_g2_1 : wc2.cell? ⟨g2, 1, none⟩ = some (.int .i64 0) := Bks.cell HS.out (i := 0) rfl 1 rfl; have c_g2_2 : wc2.cell? ⟨g2, 2, none⟩ = some (.int .i64 0) := Bks.cell HS.out (i := 0) rfl 2 rfl; have c_g2_3 : wc2.cell? ⟨g2, 3, none⟩ = some (.slice none 0 0) := Bks.cell HS.out (i := 0) rfl 3 rfl; have c_g2_4 : wc2.cell? ⟨g2, 4, none⟩ = some (.slice none 0 0) := Bks.cell HS.out (i := 0) rfl 4 rfl; have c_g2_5 : wc2.cell? ⟨g2, 5, none⟩ = some (.slice none 0 0) := Bks.cell HS.out (i := 0) rfl 5 rfl; have f_g2 : ∀ j : Nat, wc2.frozen? ⟨g2, j, none⟩ = false := fun j => Bks.free HS.out (i := 0) rfl j; have c_g9_0 : wc2.cell? ⟨g9, 0, none⟩ = some (.string s2) := Bks.cell HS.out (i := 1) rfl 0 rfl; have c_g9_1 : wc2.cell? ⟨g9, 1, none⟩ = some (.int .i64 at2) := Bks.cell HS.out (i := 1) rfl 1 rfl; have c_g9_2 : wc2.cell? ⟨g9, 2, none⟩ = some (.int .i64 0) := Bks.cell HS.out (i := 1) rfl 2 rfl; have f_g9 : ∀ j : Nat, wc2.frozen? ⟨g9, j, none⟩ = false := fun j => Bks.free HS.out (i := 1) rfl j; have c_g6_0 : wc2.cell? ⟨g6, 0, none⟩ = some (.int .i64 kind) := Bks.cell HS.out (i := 2) rfl 0 rfl; have c_g6_1 : wc2.cell? ⟨g6, 1, none⟩ = some (.int .i64 0) := Bks.cell HS.out (i := 2) rfl 1 rfl; have c_g6_2 : wc2.cell? ⟨g6, 2, none⟩ = some (.int .i64 0) := Bks.cell HS.out (i := 2) rfl 2 rfl; have c_g6_3 : wc2.cell? ⟨g6, 3, none⟩ = some (.slice none 0 0) := Bks.cell HS.out (i := 2) rfl 3 rfl; have c_g6_4 : wc2.cell? ⟨g6, 4, none⟩ = some (.slice none 0 0) := Bks.cell HS.out (i := 2) rfl 4 rfl; have c_g6_5 : wc2.cell? ⟨g6, 5, none⟩ = some (.slice none 0 0) := Bks.cell HS.out (i := 2) rfl 5 rfl; have f_g6 : ∀ j : Nat, wc2.frozen? ⟨g6, j, none⟩ = false := fun j => Bks.free HS.out (i := 2) rfl j; have ne_g2_g9 : g2 ≠ g9 := Bks.ne HS.out 0 1 _ _ rfl rfl (by decide); have ne_g2_g6 : g2 ≠ g6 := Bks.ne HS.out 0 2 _ _ rfl rfl (by decide); have ne_g9_g2 : g9 ≠ g2 := Bks.ne HS.out 1 0 _ _ rfl rfl (by decide); have ne_g9_g6 : g9 ≠ g6 := Bks.ne HS.out 1 2 _ _ rfl rfl (by decide); have ne_g6_g2 : g6 ≠ g2 := Bks.ne HS.out 2 0 _ _ rfl rfl (by decide); have ne_g6_g9 : g6 ≠ g9 := Bks.ne HS.out 2 1 _ _ rfl rfl (by decide)) | (go_at_call 69; (with_reducible refine (term_reader_list.calls k g9 s2 at2 0 16 l3 s3 at3 e3 w _ ?hI_ ?hB_ A3.out).mono ?_); (case hI_ => exact ((Bks.set HS.out (i := 2) rfl 3 (.slice Aq2 (l2).length cq2))).at_ 1 _ _ _ rfl); (case hB_ => exact ((Bks.set HS.out (i := 2) rfl 3 (.slice Aq2 (l2).length cq2))).below); rintro e wc3 ⟨vl3, rfl, hR3, hI3, hB3, hK3⟩; obtain ⟨Aq3, cq3, rfl⟩ := Kd.R_slice hR3; have n_ := Aside0.mk (show Bks w wc3 [(g2, #[.int .i64 0, .int .i64 0, .int .i64 0, .slice none 0 0, .slice none 0 0, .slice none 0 0], 34), (g9, #[.string s3, .int .i64 at3, .int .i64 e3], 103), (g6, #[.int .i64 kind, .int .i64 0, .int .i64 0, .slice Aq2 (l2).length cq2, .slice none 0 0, .slice none 0 0], 34)] from Bks.keep (Bks.set HS.out (i := 2) rfl 3 (.slice Aq2 (l2).length cq2)) (i := 1) rfl hI3.1 hB3 hK3); have m_ := Aside0.mk (show Rws w wc3 [(.slice Aq2 (l2).length cq2, l2), (.slice Aq3 (l3).length cq3, l3)] from Rws.push (Rws.set HR.out HS.out (i := 2) rfl (by decide) 3 (.slice Aq2 (l2).length cq2)) (Rws.keep (Rws.set HR.out HS.out (i := 2) rfl (by decide) 3 (.slice Aq2 (l2).length cq2)) (Bks.set HS.out (i := 2) rfl 3 (.slice Aq2 (l2).length cq2)) (i := 1) rfl (by decide) hK3) (Bks.set HS.out (i := 2) rfl 3 (.slice Aq2 (l2).length cq2)).below.size hR3); clear HS HR; clear c_g2_0 c_g2_1 c_g2_2 c_g2_3 c_g2_4 c_g2_5 f_g2 c_g9_0 c_g9_1 c_g9_2 f_g9 c_g6_0 c_g6_1 c_g6_2 c_g6_3 c_g6_4 c_g6_5 f_g6 ne_g2_g9 ne_g2_g6 ne_g9_g2 ne_g9_g6 ne_g6_g2 ne_g6_g9; have HS := n_; have HR := m_; clear n_ m_; clear hI3 hB3 hK3 hR3; have c_g2_0 : wc3.cell? ⟨g2, 0, none⟩ = some (.int .i64 0) := Bks.cell HS.out (i := 0) rfl 0 rfl; have c_g2_1 : wc3.cell? ⟨g2, 1, none⟩ = some (.int .i64 0) := Bks.cell HS.out (i := 0) rfl 1 rfl; have c_g2_2 : wc3.cell? ⟨g2, 2, none⟩ = some (.int .i64 0) := Bks.cell HS.out (i := 0) rfl 2 rfl; have c_g2_3 : wc3.cell? ⟨g2, 3, none⟩ = some (.slice none 0 0) := Bks.cell HS.out (i := 0) rfl 3 rfl; have c_g2_4 : wc3.cell? ⟨g2, 4, none⟩ = some (.slice none 0 0) := Bks.cell HS.out (i := 0) rfl 4 rfl; have c_g2_5 : wc3.cell? ⟨g2, 5, none⟩ = some (.slice none 0 0) := Bks.cell HS.out (i := 0) rfl 5 rfl; have f_g2 : ∀ j : Nat, wc3.frozen? ⟨g2, j, none⟩ = false := fun j => Bks.free HS.out (i := 0) rfl j; have c_g9_0 : wc3.cell? ⟨g9, 0, none⟩ = some (.string s3) := Bks.cell HS.out (i := 1) rfl 0 rfl; have c_g9_1 : wc3.cell? ⟨g9, 1, none⟩ = some (.int .i64 at3) := Bks.cell HS.out (i := 1) rfl 1 rfl; have c_g9_2 : wc3.cell? ⟨g9, 2, none⟩ = some (.int .i64 e3) := Bks.cell HS.out (i := 1) rfl 2 rfl; have f_g9 : ∀ j : Nat, wc3.frozen? ⟨g9, j, none⟩ = false := fun j => Bks.free HS.out (i := 1) rfl j; have c_g6_0 : wc3.cell? ⟨g6, 0, none⟩ = some (.int .i64 kind) := Bks.cell HS.out (i := 2) rfl 0 rfl; have c_g6_1 : wc3.cell? ⟨g6, 1, none⟩ = some (.int .i64 0) := Bks.cell HS.out (i := 2) rfl 1 rfl; have c_g6_2 : wc3.cell? ⟨g6, 2, none⟩ = some (.int .i64 0) := Bks.cell HS.out (i := 2) rfl 2 rfl; have c_g6_3 : wc3.cell? ⟨g6, 3, none⟩ = some (.slice Aq2 (l2).length cq2) := Bks.cell HS.out (i := 2) rfl 3 rfl; have c_g6_4 : wc3.cell? ⟨g6, 4, none⟩ = some (.slice none 0 0) := Bks.cell HS.out (i := 2) rfl 4 rfl; have c_g6_5 : wc3.cell? ⟨g6, 5, none⟩ = some (.slice none 0 0) := Bks.cell HS.out (i := 2) rfl 5 rfl; have f_g6 : ∀ j : Nat, wc3.frozen? ⟨g6, j, none⟩ = false := fun j => Bks.free HS.out (i := 2) rfl j; have ne_g2_g9 : g2 ≠ g9 := Bks.ne HS.out 0 1 _ _ rfl rfl (by decide); have ne_g2_g6 : g2 ≠ g6 := Bks.ne HS.out 0 2 _ _ rfl rfl (by decide); have ne_g9_g2 : g9 ≠ g2 := Bks.ne HS.out 1 0 _ _ rfl rfl (by decide); have ne_g9_g6 : g9 ≠ g6 := Bks.ne HS.out 1 2 _ _ rfl rfl (by decide); have ne_g6_g2 : g6 ≠ g2 := Bks.ne HS.out 2 0 _ _ rfl rfl (by decide); have ne_g6_g9 : g6 ≠ g9 := Bks.ne HS.out 2 1 _ _ rfl rfl (by decide)))
    have n_ := Aside0.mk (show Bks w (wc3.setCell ⟨g6, 4, none⟩ (.slice Aq3 (l3).length cq3)) [(g2, #[.int .i64 0, .int .i64 0, .int .i64 0, .slice none 0 0, .slice none 0 0, .slice none 0 0], 34), (g9, #[.string s3, .int .i64 at3, .int .i64 e3], 103), (g6, #[.int .i64 kind, .int .i64 0, .int .i64 0, .slice Aq2 (l2).length cq2, .slice Aq3 (l3).length cq3, .slice none 0 0], 34)] from (Bks.set HS.out (i := 2) rfl 4 (.slice Aq3 (l3).length cq3)))
    have m_ := Aside0.mk (show Rws w (wc3.setCell ⟨g6, 4, none⟩ (.slice Aq3 (l3).length cq3)) [(.slice Aq2 (l2).length cq2, l2), (.slice Aq3 (l3).length cq3, l3)] from (Rws.set HR.out HS.out (i := 2) rfl (by decide) 4 (.slice Aq3 (l3).length cq3)))
    clear HS HR
    clear c_g2_0 c_g2_1 c_g2_2 c_g2_3 c_g2_4 c_g2_5 f_g2 c_g9_0 c_g9_1 c_g9_2 f_g9 c_g6_0 c_g6_1 c_g6_2 c_g6_3 c_g6_4 c_g6_5 f_g6 ne_g2_g9 ne_g2_g6 ne_g9_g2 ne_g9_g6 ne_g6_g2 ne_g6_g9
    generalize (wc3.setCell ⟨g6, 4, none⟩ (.slice Aq3 (l3).length cq3)) = w20 at n_ m_ ⊢
    have HS := n_
    have HR := m_
    clear n_ m_
    have c_g2_0 : w20.cell? ⟨g2, 0, none⟩ = some (.int .i64 0) := Bks.cell HS.out (i := 0) rfl 0 rfl
    have c_g2_1 : w20.cell? ⟨g2, 1, none⟩ = some (.int .i64 0) := Bks.cell HS.out (i := 0) rfl 1 rfl
    have c_g2_2 : w20.cell? ⟨g2, 2, none⟩ = some (.int .i64 0) := Bks.cell HS.out (i := 0) rfl 2 rfl
    have c_g2_3 : w20.cell? ⟨g2, 3, none⟩ = some (.slice none 0 0) := Bks.cell HS.out (i := 0) rfl 3 rfl
    have c_g2_4 : w20.cell? ⟨g2, 4, none⟩ = some (.slice none 0 0) := Bks.cell HS.out (i := 0) rfl 4 rfl
    have c_g2_5 : w20.cell? ⟨g2, 5, none⟩ = some (.slice none 0 0) := Bks.cell HS.out (i := 0) rfl 5 rfl
    have f_g2 : ∀ j : Nat, w20.frozen? ⟨g2, j, none⟩ = false := fun j => Bks.free HS.out (i := 0) rfl j
    have c_g9_0 : w20.cell? ⟨g9, 0, none⟩ = some (.string s3) := Bks.cell HS.out (i := 1) rfl 0 rfl
    have c_g9_1 : w20.cell? ⟨g9, 1, none⟩ = some (.int .i64 at3) := Bks.cell HS.out (i := 1) rfl 1 rfl
    have c_g9_2 : w20.cell? ⟨g9, 2, none⟩ = some (.int .i64 e3) := Bks.cell HS.out (i := 1) rfl 2 rfl
    have f_g9 : ∀ j : Nat, w20.frozen? ⟨g9, j, none⟩ = false := fun j => Bks.free HS.out (i := 1) rfl j
    have c_g6_0 : w20.cell? ⟨g6, 0, none⟩ = some (.int .i64 kind) := Bks.cell HS.out (i := 2) rfl 0 rfl
    have c_g6_1 : w20.cell? ⟨g6, 1, none⟩ = some (.int .i64 0) := Bks.cell HS.out (i := 2) rfl 1 rfl
    have c_g6_2 : w20.cell? ⟨g6, 2, none⟩ = some (.int .i64 0) := Bks.cell HS.out (i := 2) rfl 2 rfl
    have c_g6_3 : w20.cell? ⟨g6, 3, none⟩ = some (.slice Aq2 (l2).length cq2) := Bks.cell HS.out (i := 2) rfl 3 rfl
    have c_g6_4 : w20.cell? ⟨g6, 4, none⟩ = some (.slice Aq3 (l3).length cq3) := Bks.cell HS.out (i := 2) rfl 4 rfl
    have c_g6_5 : w20.cell? ⟨g6, 5, none⟩ = some (.slice none 0 0) := Bks.cell HS.out (i := 2) rfl 5 rfl
    have f_g6 : ∀ j : Nat, w20.frozen? ⟨g6, j, none⟩ = false := fun j => Bks.free HS.out (i := 2) rfl j
    have ne_g2_g9 : g2 ≠ g9 := Bks.ne HS.out 0 1 _ _ rfl rfl (by decide)
    have ne_g2_g6 : g2 ≠ g6 := Bks.ne HS.out 0 2 _ _ rfl rfl (by decide)
    have ne_g9_g2 : g9 ≠ g2 := Bks.ne HS.out 1 0 _ _ rfl rfl (by decide)
    have ne_g9_g6 : g9 ≠ g6 := Bks.ne HS.out 1 2 _ _ rfl rfl (by decide)
    have ne_g6_g2 : g6 ≠ g2 := Bks.ne HS.out 2 0 _ _ rfl rfl (by decide)
    have ne_g6_g9 : g6 ≠ g9 := Bks.ne HS.out 2 1 _ _ rfl rfl (by decide)
    have n_ := Aside0.mk (show Bks w (World.drew w20) [(g2, #[.int .i64 0, .int .i64 0, .int .i64 0, .slice none 0 0, .slice none 0 0, .slice none 0 0], 34), (g9, #[.string s3, .int .i64 at3, .int .i64 e3], 103), (g6, #[.int .i64 kind, .int .i64 0, .int .i64 0, .slice Aq2 (l2).length cq2, .slice Aq3 (l3).length cq3, .slice none 0 0], 34)] from Bks.drew HS.out)
    have m_ := Aside0.mk (show Rws w (World.drew w20) [(.slice Aq2 (l2).length cq2, l2), (.slice Aq3 (l3).length cq3, l3)] from Rws.drew HR.out)
    clear HS HR
    clear c_g2_0 c_g2_1 c_g2_2 c_g2_3 c_g2_4 c_g2_5 f_g2 c_g9_0 c_g9_1 c_g9_2 f_g9 c_g6_0 c_g6_1 c_g6_2 c_g6_3 c_g6_4 c_g6_5 f_g6 ne_g2_g9 ne_g2_g6 ne_g9_g2 ne_g9_g6 ne_g6_g2 ne_g6_g9
    have HS := n_
    have HR := m_
    clear n_ m_
    refine start_ (n := 8) (S := fun w' => w'.cell? ⟨g9, 2, none⟩ = some (.int .i64 e3)) (ds := []) #[false, false, false, false, false, false, false, false] (by kernel_rfl) rfl rfl (Bks.cell HS.out (i := 1) rfl 2 rfl) (fun hHeld => ?_)
    generalize World.drew w20 = w20d at HS HR hHeld ⊢
    refine pure_ (i := 0) (N := some 76) (v := ?_) (a' := ?_) #[true, false, false, false, false, false, false, false] rfl rfl (by kernel_rfl) (fun _ _ _ h => h) (Or.inl ⟨by rfl, ?_⟩) ?_ ?_
    rotate_left
    · intro w'
      go_simp
      with_reducible rfl
    rotate_left
    · simp only [Act.put, List.setIfInBounds_toArray, List.set_cons_zero, List.set_cons_succ, i64_w, i32_w]
      rfl
    refine pure_ (i := 1) (N := some 77) (v := ?_) (a' := ?_) #[true, true, false, false, false, false, false, false] rfl rfl (by kernel_rfl) (fun _ _ _ h => h) (Or.inl ⟨by rfl, ?_⟩) ?_ ?_
    rotate_left
    · intro w'
      go_simp
      with_reducible rfl
    rotate_left
    · simp only [Act.put, List.setIfInBounds_toArray, List.set_cons_zero, List.set_cons_succ, i64_w, i32_w]
      rfl
    refine pure_ (i := 2) (N := some 78) (v := ?_) (a' := ?_) #[true, true, true, false, false, false, false, false] rfl rfl (by kernel_rfl) (fun _ _ _ h => h) (Or.inl ⟨by rfl, ?_⟩) ?_ ?_
    rotate_left
    · intro w'
      go_simp
      with_reducible rfl
    rotate_left
    · simp only [Act.put, List.setIfInBounds_toArray, List.set_cons_zero, List.set_cons_succ, i64_w, i32_w]
      rfl
    refine pure_ (i := 3) (N := some 79) (v := ?_) (a' := ?_) #[true, true, true, true, false, false, false, false] rfl rfl (by kernel_rfl) (fun _ _ _ h => h) (Or.inl ⟨by rfl, ?_⟩) ?_ ?_
    rotate_left
    · intro w'
      go_simp
      with_reducible rfl
    rotate_left
    · simp only [Act.put, List.setIfInBounds_toArray, List.set_cons_zero, List.set_cons_succ, i64_w, i32_w]
      rfl
    refine take_ (i := 4) (N := some 80) (v := ?_) (a' := ?_) #[true, true, true, true, true, false, false, false] rfl rfl (by kernel_rfl) (fun _ _ _ h => h) (Or.inl ⟨by rfl, ?_⟩) hHeld ?_ ?_
    rotate_left
    · rintro w' s0
      go_simp
      with_reducible rfl
    rotate_left
    · simp only [Act.put, List.setIfInBounds_toArray, List.set_cons_zero, List.set_cons_succ, i64_w, i32_w]
      rfl
    have c_g2_0 : w20d.cell? ⟨g2, 0, none⟩ = some (.int .i64 0) := Bks.cell HS.out (i := 0) rfl 0 rfl
    have c_g2_1 : w20d.cell? ⟨g2, 1, none⟩ = some (.int .i64 0) := Bks.cell HS.out (i := 0) rfl 1 rfl
    have c_g2_2 : w20d.cell? ⟨g2, 2, none⟩ = some (.int .i64 0) := Bks.cell HS.out (i := 0) rfl 2 rfl
    have c_g2_3 : w20d.cell? ⟨g2, 3, none⟩ = some (.slice none 0 0) := Bks.cell HS.out (i := 0) rfl 3 rfl
    have c_g2_4 : w20d.cell? ⟨g2, 4, none⟩ = some (.slice none 0 0) := Bks.cell HS.out (i := 0) rfl 4 rfl
    have c_g2_5 : w20d.cell? ⟨g2, 5, none⟩ = some (.slice none 0 0) := Bks.cell HS.out (i := 0) rfl 5 rfl
    have f_g2 : ∀ j : Nat, w20d.frozen? ⟨g2, j, none⟩ = false := fun j => Bks.free HS.out (i := 0) rfl j
    have c_g9_0 : w20d.cell? ⟨g9, 0, none⟩ = some (.string s3) := Bks.cell HS.out (i := 1) rfl 0 rfl
    have c_g9_1 : w20d.cell? ⟨g9, 1, none⟩ = some (.int .i64 at3) := Bks.cell HS.out (i := 1) rfl 1 rfl
    have c_g9_2 : w20d.cell? ⟨g9, 2, none⟩ = some (.int .i64 e3) := Bks.cell HS.out (i := 1) rfl 2 rfl
    have f_g9 : ∀ j : Nat, w20d.frozen? ⟨g9, j, none⟩ = false := fun j => Bks.free HS.out (i := 1) rfl j
    have c_g6_0 : w20d.cell? ⟨g6, 0, none⟩ = some (.int .i64 kind) := Bks.cell HS.out (i := 2) rfl 0 rfl
    have c_g6_1 : w20d.cell? ⟨g6, 1, none⟩ = some (.int .i64 0) := Bks.cell HS.out (i := 2) rfl 1 rfl
    have c_g6_2 : w20d.cell? ⟨g6, 2, none⟩ = some (.int .i64 0) := Bks.cell HS.out (i := 2) rfl 2 rfl
    have c_g6_3 : w20d.cell? ⟨g6, 3, none⟩ = some (.slice Aq2 (l2).length cq2) := Bks.cell HS.out (i := 2) rfl 3 rfl
    have c_g6_4 : w20d.cell? ⟨g6, 4, none⟩ = some (.slice Aq3 (l3).length cq3) := Bks.cell HS.out (i := 2) rfl 4 rfl
    have c_g6_5 : w20d.cell? ⟨g6, 5, none⟩ = some (.slice none 0 0) := Bks.cell HS.out (i := 2) rfl 5 rfl
    have f_g6 : ∀ j : Nat, w20d.frozen? ⟨g6, j, none⟩ = false := fun j => Bks.free HS.out (i := 2) rfl j
    have ne_g2_g9 : g2 ≠ g9 := Bks.ne HS.out 0 1 _ _ rfl rfl (by decide)
    have ne_g2_g6 : g2 ≠ g6 := Bks.ne HS.out 0 2 _ _ rfl rfl (by decide)
    have ne_g9_g2 : g9 ≠ g2 := Bks.ne HS.out 1 0 _ _ rfl rfl (by decide)
    have ne_g9_g6 : g9 ≠ g6 := Bks.ne HS.out 1 2 _ _ rfl rfl (by decide)
    have ne_g6_g2 : g6 ≠ g2 := Bks.ne HS.out 2 0 _ _ rfl rfl (by decide)
    have ne_g6_g9 : g6 ≠ g9 := Bks.ne HS.out 2 1 _ _ rfl rfl (by decide)
    refine one_ (i := 5) (N := none) #[true, true, true, true, true, true, false, false] rfl rfl (by kernel_rfl) (by decide) (fun K hK => ?_)
    refine skip_ (w1 := ((((((w20d.setCell ⟨g2, 0, none⟩ (.int .i64 0)).setCell ⟨g2, 1, none⟩ (.int .i64 0)).setCell ⟨g2, 2, none⟩ (.int .i64 0)).setCell ⟨g2, 3, none⟩ (.slice none 0 0)).setCell ⟨g2, 4, none⟩ (.slice none 0 0)).setCell ⟨g2, 5, none⟩ (.slice none 0 0))) (by rfl) rfl (by first | (go_simp; done) | (go_simp; rfl)) ?_
    refine hK.out _ _ (Bks.cell (Bks.set (Bks.set (Bks.set (Bks.set (Bks.set (Bks.set HS.out (i := 0) rfl 0 (.int .i64 0)) (i := 0) rfl 1 (.int .i64 0)) (i := 0) rfl 2 (.int .i64 0)) (i := 0) rfl 3 (.slice none 0 0)) (i := 0) rfl 4 (.slice none 0 0)) (i := 0) rfl 5 (.slice none 0 0)) (i := 1) rfl 2 rfl) (fun hHeld => ?_)
    clear hK K
    refine pure_ (i := 6) (N := some 3) (v := ?_) (a' := ?_) #[true, true, true, true, true, true, true, false] rfl rfl (by kernel_rfl) (fun _ _ _ h => h) (Or.inl ⟨by rfl, ?_⟩) ?_ ?_
    rotate_left
    · intro w'
      go_simp
      with_reducible rfl
    rotate_left
    · simp only [Act.put, List.setIfInBounds_toArray, List.set_cons_zero, List.set_cons_succ, i64_w, i32_w]
      rfl
    refine pure_ (i := 7) (N := some 4) (v := ?_) (a' := ?_) #[true, true, true, true, true, true, true, true] rfl rfl (by kernel_rfl) (fun _ _ _ h => h) (Or.inl ⟨by rfl, ?_⟩) ?_ ?_
    rotate_left
    · intro w'
      go_simp
      with_reducible rfl
    rotate_left
    · simp only [Act.put, List.setIfInBounds_toArray, List.set_cons_zero, List.set_cons_succ, i64_w, i32_w]
      rfl
    refine done_ (by kernel_rfl) ?_
    go_wp2
    have s := (Bks.set (Bks.set (Bks.set (Bks.set (Bks.set (Bks.set HS.out (i := 0) rfl 0 (.int .i64 0)) (i := 0) rfl 1 (.int .i64 0)) (i := 0) rfl 2 (.int .i64 0)) (i := 0) rfl 3 (.slice none 0 0)) (i := 0) rfl 4 (.slice none 0 0)) (i := 0) rfl 5 (.slice none 0 0))
    have r := (Rws.set (Rws.set (Rws.set (Rws.set (Rws.set (Rws.set HR.out HS.out (i := 0) rfl (by decide) 0 (.int .i64 0)) (Bks.set HS.out (i := 0) rfl 0 (.int .i64 0)) (i := 0) rfl (by decide) 1 (.int .i64 0)) (Bks.set (Bks.set HS.out (i := 0) rfl 0 (.int .i64 0)) (i := 0) rfl 1 (.int .i64 0)) (i := 0) rfl (by decide) 2 (.int .i64 0)) (Bks.set (Bks.set (Bks.set HS.out (i := 0) rfl 0 (.int .i64 0)) (i := 0) rfl 1 (.int .i64 0)) (i := 0) rfl 2 (.int .i64 0)) (i := 0) rfl (by decide) 3 (.slice none 0 0)) (Bks.set (Bks.set (Bks.set (Bks.set HS.out (i := 0) rfl 0 (.int .i64 0)) (i := 0) rfl 1 (.int .i64 0)) (i := 0) rfl 2 (.int .i64 0)) (i := 0) rfl 3 (.slice none 0 0)) (i := 0) rfl (by decide) 4 (.slice none 0 0)) (Bks.set (Bks.set (Bks.set (Bks.set (Bks.set HS.out (i := 0) rfl 0 (.int .i64 0)) (i := 0) rfl 1 (.int .i64 0)) (i := 0) rfl 2 (.int .i64 0)) (i := 0) rfl 3 (.slice none 0 0)) (i := 0) rfl 4 (.slice none 0 0)) (i := 0) rfl (by decide) 5 (.slice none 0 0))
    have q := (Rws.nil (Rws.nil (Rws.nil r)))
    refine bodyPost_ret (results_ctt rfl _ _ g2 34 #[.int .i64 0, .int .i64 0, .int .i64 0, .slice none 0 0, .slice none 0 0, .slice none 0 0] (0, 0) _ rfl (s.at_ 0 _ _ _ rfl).1 Try.underlying34 rfl (by kernel_rfl)) rfl ?_
    exact ⟨_, _, _, rfl, q.out3 2 3 4 rfl rfl rfl (by decide) (by decide), q.out3 3 2 4 rfl rfl rfl (by decide) (by decide), q.out3 4 2 3 rfl rfl rfl (by decide) (by decide), s.below⟩

end Go.Proofs.Ythhebinonpoddaa.GTermBack
