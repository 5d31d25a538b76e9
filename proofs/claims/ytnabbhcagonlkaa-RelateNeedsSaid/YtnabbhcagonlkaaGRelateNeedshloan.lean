/- Written for this claim by gp.py, a program of this session's, over the kit's print. Lean checks it. -/
import Derived.Test.YtnabbhcagonlkaaGRelateNeedsx0
import Derived.Test.YtnabbhcagonlkaaGRelateNeedshx
import Derived.Test.YtnabbhcagonlkaaGRelateNeedshrows
import Derived.Test.YtnabbhcagonlkaaGRelateNeedshshape
import Derived.Test.YtnabbhcagonlkaaGRelateNeedshkept
import Derived.Test.YtnabbhcagonlkaaGRelateNeedshref
import Derived.Test.YtnabbhcagonlkaaGRelateNeedshput
import Derived.Test.YtnabbhcagonlkaaGRelateNeedshslots
namespace Go.Proofs.Ytnabbhcagonlkaa.GRelateNeeds
open Go.RowKit Go.Proofs.YtnabbhcagonlkaaW.PrintWords Go.Proofs.YtnabbhcagonlkaaW.PrintLast Go.Proofs.YtnabbhcagonlkaaW.PrintMore
attribute [local go_sem] max2_int min2_int max_two min_two max_three min_three max_four min_four   -- for this text's walks alone
set_option linter.unusedVariables false
set_option linter.unusedSimpArgs false

/-- What it needs that a reference to a value of one type, for a region, is laid into another type. -/
def relate_Loan.fin (a b : List S107) (region : Int) : Option (List S35 × Int) := if 0 < b.length then (if a.length = (b.drop 1).length then (if a.length < 1000000000 then some ([⟨region, (rd_T107 b 0).f0, 2, 0, false⟩] ++ slx 1 1 a (b.drop 1) 0, 0) else none) else none) else none
def relate_Loan.f (a b : List S107) (region : Int) (mut_ : Bool) : Option (List S35 × Int) := (row_Ref.f a region mut_).bind fun t => if shp t b = true then relate_Loan.fin a b region else some ([], 8)
set_option maxHeartbeats 16000000 in
set_option maxRecDepth 100000 in
theorem relate_Loan.calls (A0_0 : Option Addr) (c0_0 : Nat) (l0_0 : List (S107)) (A1_0 : Option Addr) (c1_0 : Nat) (l1_0 : List (S107)) (a2 : Int) (a3 : Bool) (r1 : List (S35)) (r2 : Int) (w : World) (hr0_0 : Kd.C k107 w A0_0 l0_0.length l0_0) (hc0_0 : l0_0.length ≤ c0_0) (hr1_0 : Kd.C k107 w A1_0 l1_0.length l1_0) (hc1_0 : l1_0.length ≤ c1_0) (h : relate_Loan.f l0_0 l1_0 a2 a3 = some (r1, r2)) :
    Calls Try.prog 51 #[.agg #[.slice A0_0 l0_0.length c0_0], .agg #[.slice A1_0 l1_0.length c1_0], .int .i64 a2, .bool a3] w fun e w' => ∃ v0_ : Value, e = .returned (.tuple #[v0_, .int .i64 r2]) ∧ Kd.R k35 35 w' w.heap.size (fun _ => True) v0_ r1 ∧ Below w.heap.size w w' := by
  have hu1 := Try.underlying110
  have hu3 := Try.underlying24
  have hu4 := Try.underlying107
  have HS := Aside0.mk (Bks.start (Below.refl w.heap.size w))
  have HR := Aside0.mk (Rws.start (w0 := w) (W := w))
  have HR0 := Aside0.mk hr0_0
  have HR1 := Aside0.mk hr1_0
  have HC0 := Aside0.mk hc0_0
  have HC1 := Aside0.mk hc1_0
  have H := h
  unfold relate_Loan.f at H
  clear h hr0_0 hr1_0 hc0_0 hc1_0
  obtain ⟨t, A50, H⟩ := Option.bind_eq_some_iff.mp H
  have A5 := Aside0.mk A50
  clear A50
  by_cases c7 : shp t l1_0 = true
  · rw [if_pos c7] at H
    have C7 := Aside0.mk c7
    clear c7
    unfold relate_Loan.fin at H
    by_cases c8 : 0 < l1_0.length
    · rw [if_pos c8] at H
      by_cases c9 : l0_0.length = (l1_0.drop 1).length
      · rw [if_pos c9] at H
        by_cases c10 : l0_0.length < 1000000000
        · rw [if_pos c10] at H
          simp only [Option.some.injEq, Prod.mk.injEq] at H
          obtain ⟨rfl, rfl⟩ := H
          have C8 := Aside0.mk c8
          have C9 := Aside0.mk c9
          have C10 := Aside0.mk c10
          clear c8 c9 c10
          obtain ⟨x, hx⟩ : ∃ x, x = rd_T107 l1_0 0 := ⟨_, rfl⟩
          rw [← hx]
          obtain ⟨y, hy⟩ : ∃ y, y = l1_0.drop 1 := ⟨_, rfl⟩
          rw [← hy]
          obtain ⟨R, hR⟩ : ∃ R, R = [(⟨a2, x.f0, 2, 0, false⟩ : S35)] ++ slx 1 1 l0_0 y 0 := ⟨_, rfl⟩
          rw [← hR]
          have NX := Aside0.mk hx
          have NY := Aside0.mk hy
          have NR := Aside0.mk hR
          clear hx hy hR
          go_enter Try.func51, Try.ntmps51
          go_upto_region 1 with (first | ((with_reducible refine gate_dst (N := 4) rfl ?_); refine box_event ?hg (N := 4) ?hd (cs := #[.slice A0_0 l0_0.length c0_0]) (t := 24) ?hr ?_; (case hd => rfl); (case hg => rfl); (case hr => first | (go_simp; done) | (go_simp; rfl)); intro g4 hg4 wg4 xg4 bg4; have n_ := Aside0.mk (show Bks w wg4 [(g4, #[.slice A0_0 l0_0.length c0_0], 24)] from Bks.new HS.out hg4 xg4 bg4); have m_ := Aside0.mk (show Rws w wg4 [] from Rws.step HR.out bg4); clear HS HR; have HS := n_; have HR := m_; clear n_ m_; clear hg4 xg4 bg4; have c_g4_0 : wg4.cell? ⟨g4, 0, none⟩ = some (.slice A0_0 l0_0.length c0_0) := Bks.cell HS.out (i := 0) rfl 0 rfl; have f_g4 : ∀ j : Nat, wg4.frozen? ⟨g4, j, none⟩ = false := fun j => Bks.free HS.out (i := 0) rfl j) | ((with_reducible refine gate_dst (N := 5) rfl ?_); refine box_event ?hg (N := 5) ?hd (cs := #[.slice A1_0 l1_0.length c1_0]) (t := 24) ?hr ?_; (case hd => rfl); (case hg => rfl); (case hr => first | (go_simp; done) | (go_simp; rfl)); intro g5 hg5 wg5 xg5 bg5; have n_ := Aside0.mk (show Bks w wg5 [(g4, #[.slice A0_0 l0_0.length c0_0], 24), (g5, #[.slice A1_0 l1_0.length c1_0], 24)] from Bks.new HS.out hg5 xg5 bg5); have m_ := Aside0.mk (show Rws w wg5 [] from Rws.step HR.out bg5); clear HS HR; clear c_g4_0 f_g4; have HS := n_; have HR := m_; clear n_ m_; clear hg5 xg5 bg5; have c_g4_0 : wg5.cell? ⟨g4, 0, none⟩ = some (.slice A0_0 l0_0.length c0_0) := Bks.cell HS.out (i := 0) rfl 0 rfl; have f_g4 : ∀ j : Nat, wg5.frozen? ⟨g4, j, none⟩ = false := fun j => Bks.free HS.out (i := 0) rfl j; have c_g5_0 : wg5.cell? ⟨g5, 0, none⟩ = some (.slice A1_0 l1_0.length c1_0) := Bks.cell HS.out (i := 1) rfl 0 rfl; have f_g5 : ∀ j : Nat, wg5.frozen? ⟨g5, j, none⟩ = false := fun j => Bks.free HS.out (i := 1) rfl j; have ne_g4_g5 : g4 ≠ g5 := Bks.ne HS.out 0 1 _ _ rfl rfl (by decide); have ne_g5_g4 : g5 ≠ g4 := Bks.ne HS.out 1 0 _ _ rfl rfl (by decide)))
          have n_ := Aside0.mk (show Bks w wg5 [(g4, #[.slice A0_0 l0_0.length c0_0], 24), (g5, #[.slice A1_0 l1_0.length c1_0], 24)] from HS.out)
          have m_ := Aside0.mk (show Rws w wg5 [] from HR.out)
          clear HS HR
          clear c_g4_0 f_g4 c_g5_0 f_g5 ne_g4_g5 ne_g5_g4
          generalize wg5 = w1 at n_ m_ ⊢
          have HS := n_
          have HR := m_
          clear n_ m_
          have c_g4_0 : w1.cell? ⟨g4, 0, none⟩ = some (.slice A0_0 l0_0.length c0_0) := Bks.cell HS.out (i := 0) rfl 0 rfl
          have f_g4 : ∀ j : Nat, w1.frozen? ⟨g4, j, none⟩ = false := fun j => Bks.free HS.out (i := 0) rfl j
          have c_g5_0 : w1.cell? ⟨g5, 0, none⟩ = some (.slice A1_0 l1_0.length c1_0) := Bks.cell HS.out (i := 1) rfl 0 rfl
          have f_g5 : ∀ j : Nat, w1.frozen? ⟨g5, j, none⟩ = false := fun j => Bks.free HS.out (i := 1) rfl j
          have ne_g4_g5 : g4 ≠ g5 := Bks.ne HS.out 0 1 _ _ rfl rfl (by decide)
          have ne_g5_g4 : g5 ≠ g4 := Bks.ne HS.out 1 0 _ _ rfl rfl (by decide)
          have n_ := Aside0.mk (show Bks w (World.drew w1) [(g4, #[.slice A0_0 l0_0.length c0_0], 24), (g5, #[.slice A1_0 l1_0.length c1_0], 24)] from Bks.drew HS.out)
          clear HS HR c_g4_0 f_g4 c_g5_0 f_g5 ne_g4_g5 ne_g5_g4
          have HS := n_
          clear n_
          refine start_ (n := 7) (S := fun w' => w'.cell? ⟨g4, 0, none⟩ = some (.slice A0_0 l0_0.length c0_0) ∧ w'.cell? ⟨g5, 0, none⟩ = some (.slice A1_0 l1_0.length c1_0)) (ds := []) #[false, false, false, false, false, false, false] (by kernel_rfl) rfl rfl ⟨Bks.cell HS.out (i := 0) rfl 0 rfl, Bks.cell HS.out (i := 1) rfl 0 rfl⟩ (fun hHeld => ?_)
          generalize World.drew w1 = w2 at HS hHeld ⊢
          refine pure_ (i := 1) (N := some 12) (v := ?_) (a' := ?_) #[false, true, false, false, false, false, false] rfl rfl (by kernel_rfl) (fun _ _ _ h => h) (Or.inl ⟨by rfl, ?_⟩) ?_ ?_
          rotate_left
          · intro w'
            go_simp
            with_reducible rfl
          rotate_left
          · simp only [Act.put, List.setIfInBounds_toArray, List.set_cons_zero, List.set_cons_succ, i64_w, i32_w]
            rfl
          refine pure_ (i := 2) (N := some 13) (v := ?_) (a' := ?_) #[false, true, true, false, false, false, false] rfl rfl (by kernel_rfl) (fun _ _ _ h => h) (Or.inl ⟨by rfl, ?_⟩) ?_ ?_
          rotate_left
          · intro w'
            go_simp
            with_reducible rfl
          rotate_left
          · simp only [Act.put, List.setIfInBounds_toArray, List.set_cons_zero, List.set_cons_succ, i64_w, i32_w]
            rfl
          refine take_ (i := 0) (N := some 11) (v := ?_) (a' := ?_) #[true, true, true, false, false, false, false] rfl rfl (by kernel_rfl) (fun _ _ _ h => h) (Or.inl ⟨by rfl, ?_⟩) hHeld ?_ ?_
          rotate_left
          · rintro w' ⟨s0, s1⟩
            go_simp
            with_reducible rfl
          rotate_left
          · simp only [Act.put, List.setIfInBounds_toArray, List.set_cons_zero, List.set_cons_succ, i64_w, i32_w]
            rfl
          refine take_ (i := 4) (N := some 15) (v := ?_) (a' := ?_) #[true, true, true, false, true, false, false] rfl rfl (by kernel_rfl) (fun _ _ _ h => h) (Or.inl ⟨by rfl, ?_⟩) hHeld ?_ ?_
          rotate_left
          · rintro w' ⟨s0, s1⟩
            go_simp
            with_reducible rfl
          rotate_left
          · simp only [Act.put, List.setIfInBounds_toArray, List.set_cons_zero, List.set_cons_succ, i64_w, i32_w]
            rfl
          refine one_ (i := 3) (N := some 14) #[true, true, true, true, true, false, false] rfl rfl (by kernel_rfl) (by decide) (fun K hK => ?_)
          refine goes_ Try.func83 (by kernel_rfl) rfl #[.agg #[.slice A0_0 l0_0.length c0_0], .int .i64 a2, .bool a3] (by rfl) rfl rfl (by (try simp only [List.map_toArray, List.map_cons, List.map_nil]); first | done | rfl) ?_
          refine (row_Ref.calls _ _ l0_0 a2 a3 t _ (Kd.C_below HR0.out HS.out.below) HC0.out A5.out).mono ?_
          rintro e w3 ⟨v3, rfl, ho3, hb3⟩
          refine ⟨_, rfl, ?_⟩
          obtain ⟨A3, k3, rfl⟩ := Kd.R_slice ho3
          have n_ := Aside0.mk (show Bks w w3 [(g4, #[.slice A0_0 l0_0.length c0_0], 24), (g5, #[.slice A1_0 l1_0.length c1_0], 24)] from Bks.step HS.out hb3)
          have HO3 := Aside0.mk ho3
          clear HS ho3 hb3
          have HS := n_
          clear n_
          refine hK.out _ _ ⟨Bks.cell HS.out (i := 0) rfl 0 rfl, Bks.cell HS.out (i := 1) rfl 0 rfl⟩ (fun hHeld => ?_)
          clear hK K
          refine norm_ (a' := ?_) ?_ ?_
          rotate_left
          · show Act.put _ (some 14) _ = _
            simp only [Act.put, List.setIfInBounds_toArray, List.set_cons_zero, List.set_cons_succ, i64_w, i32_w]
            rfl
          refine one_ (i := 5) (N := some 16) #[true, true, true, true, true, true, false] rfl rfl (by kernel_rfl) (by decide) (fun K hK => ?_)
          refine goes_ Try.func71 (by kernel_rfl) rfl #[.agg #[.slice A3 t.length k3], .agg #[.slice A1_0 l1_0.length c1_0]] (by rfl) rfl rfl (by (try simp only [List.map_toArray, List.map_cons, List.map_nil]); first | done | rfl) ?_
          refine (row_Shape.calls _ _ t _ _ l1_0 true _ (Kd.R_reads' HO3.out).2.2 (Kd.R_reads' HO3.out).2.1 (Kd.C_below HR1.out HS.out.below) HC1.out (congrArg some C7.out)).mono ?_
          rintro e w4 ⟨rfl, hb4⟩
          refine ⟨_, rfl, ?_⟩
          have n_ := Aside0.mk (show Bks w w4 [(g4, #[.slice A0_0 l0_0.length c0_0], 24), (g5, #[.slice A1_0 l1_0.length c1_0], 24)] from Bks.step HS.out hb4)
          clear HS HO3 hb4
          have HS := n_
          clear n_
          refine hK.out _ _ ⟨Bks.cell HS.out (i := 0) rfl 0 rfl, Bks.cell HS.out (i := 1) rfl 0 rfl⟩ (fun hHeld => ?_)
          clear hK K
          refine norm_ (a' := ?_) ?_ ?_
          rotate_left
          · show Act.put _ (some 16) _ = _
            simp only [Act.put, List.setIfInBounds_toArray, List.set_cons_zero, List.set_cons_succ, i64_w, i32_w]
            rfl
          refine pure_ (i := 6) (N := some 17) (v := ?_) (a' := ?_) #[true, true, true, true, true, true, true] rfl rfl (by kernel_rfl) (fun _ _ _ h => h) (Or.inl ⟨by rfl, ?_⟩) ?_ ?_
          rotate_left
          · intro w'
            go_simp
            with_reducible rfl
          rotate_left
          · simp only [Act.put, List.setIfInBounds_toArray, List.set_cons_zero, List.set_cons_succ, i64_w, i32_w]
            rfl
          refine done_ (by kernel_rfl) ?_
          have HR := Aside0.mk (Rws.start (w0 := w) (W := w4))
          obtain ⟨ad, e1, h0, h1⟩ := at_T107 HR1.out 0 (by omega) (by have := C8.out; omega)
          cases e1
          rw [← NX.out] at h0 h1
          rw [show ((0 : Int)).toNat = 0 from rfl, show 0 * 2 = 0 from rfl, Addr.add_zero'] at h0
          rw [show ((0 : Int)).toNat = 0 from rfl, show 0 * 2 = 0 from rfl, Addr.add_zero'] at h1
          have K0 : ∀ W, Below w.heap.size w W → W.cell? _ = some _ := fun W hb => (hb.cell (World.block_lt_of_cell? w _ h0)).trans h0
          clear h0 h1
          have p1 : (0 < (l1_0.length : Int)) = True := eq_true (by have := C8.out; omega)
          have p2 : (0 < l1_0.length) = True := eq_true C8.out
          have c_g4_0 : w4.cell? ⟨g4, 0, none⟩ = some (.slice A0_0 l0_0.length c0_0) := Bks.cell HS.out (i := 0) rfl 0 rfl
          have f_g4 : ∀ j : Nat, w4.frozen? ⟨g4, j, none⟩ = false := fun j => Bks.free HS.out (i := 0) rfl j
          have c_g5_0 : w4.cell? ⟨g5, 0, none⟩ = some (.slice (some ad) l1_0.length c1_0) := Bks.cell HS.out (i := 1) rfl 0 rfl
          have f_g5 : ∀ j : Nat, w4.frozen? ⟨g5, j, none⟩ = false := fun j => Bks.free HS.out (i := 1) rfl j
          have ne_g4_g5 : g4 ≠ g5 := Bks.ne HS.out 0 1 _ _ rfl rfl (by decide)
          have ne_g5_g4 : g5 ≠ g4 := Bks.ne HS.out 1 0 _ _ rfl rfl (by decide)
          go_upto_region 4 with (first | ((with_reducible refine gate_dst (N := 10) rfl ?_); refine box_event ?hg (N := 10) ?hd (cs := #[.slice none 0 0]) (t := 110) ?hr ?_; (case hd => rfl); (case hg => rfl); (case hr => first | (go_simp; done) | (go_simp; rfl)); intro g10 hg10 wg10 xg10 bg10; have n_ := Aside0.mk (show Bks w wg10 [(g4, #[.slice A0_0 l0_0.length c0_0], 24), (g5, #[.slice (some ad) l1_0.length c1_0], 24), (g10, #[.slice none 0 0], 110)] from Bks.new HS.out hg10 xg10 bg10); have m_ := Aside0.mk (show Rws w wg10 [] from Rws.step HR.out bg10); clear HS HR; clear c_g4_0 f_g4 c_g5_0 f_g5 ne_g4_g5 ne_g5_g4; have HS := n_; have HR := m_; clear n_ m_; clear hg10 xg10 bg10; have c_g4_0 : wg10.cell? ⟨g4, 0, none⟩ = some (.slice A0_0 l0_0.length c0_0) := Bks.cell HS.out (i := 0) rfl 0 rfl; have f_g4 : ∀ j : Nat, wg10.frozen? ⟨g4, j, none⟩ = false := fun j => Bks.free HS.out (i := 0) rfl j; have c_g5_0 : wg10.cell? ⟨g5, 0, none⟩ = some (.slice (some ad) l1_0.length c1_0) := Bks.cell HS.out (i := 1) rfl 0 rfl; have f_g5 : ∀ j : Nat, wg10.frozen? ⟨g5, j, none⟩ = false := fun j => Bks.free HS.out (i := 1) rfl j; have c_g10_0 : wg10.cell? ⟨g10, 0, none⟩ = some (.slice none 0 0) := Bks.cell HS.out (i := 2) rfl 0 rfl; have f_g10 : ∀ j : Nat, wg10.frozen? ⟨g10, j, none⟩ = false := fun j => Bks.free HS.out (i := 2) rfl j; have ne_g4_g5 : g4 ≠ g5 := Bks.ne HS.out 0 1 _ _ rfl rfl (by decide); have ne_g4_g10 : g4 ≠ g10 := Bks.ne HS.out 0 2 _ _ rfl rfl (by decide); have ne_g5_g4 : g5 ≠ g4 := Bks.ne HS.out 1 0 _ _ rfl rfl (by decide); have ne_g5_g10 : g5 ≠ g10 := Bks.ne HS.out 1 2 _ _ rfl rfl (by decide); have ne_g10_g4 : g10 ≠ g4 := Bks.ne HS.out 2 0 _ _ rfl rfl (by decide); have ne_g10_g5 : g10 ≠ g5 := Bks.ne HS.out 2 1 _ _ rfl rfl (by decide)))
          have n_ := Aside0.mk (show Bks w wg10 [(g4, #[.slice A0_0 l0_0.length c0_0], 24), (g5, #[.slice (some ad) l1_0.length c1_0], 24), (g10, #[.slice none 0 0], 110)] from HS.out)
          have m_ := Aside0.mk (show Rws w wg10 [] from HR.out)
          clear HS HR
          clear c_g4_0 f_g4 c_g5_0 f_g5 c_g10_0 f_g10 ne_g4_g5 ne_g4_g10 ne_g5_g4 ne_g5_g10 ne_g10_g4 ne_g10_g5
          generalize wg10 = w5 at n_ m_ ⊢
          have HS := n_
          have HR := m_
          clear n_ m_
          have c_g4_0 : w5.cell? ⟨g4, 0, none⟩ = some (.slice A0_0 l0_0.length c0_0) := Bks.cell HS.out (i := 0) rfl 0 rfl
          have f_g4 : ∀ j : Nat, w5.frozen? ⟨g4, j, none⟩ = false := fun j => Bks.free HS.out (i := 0) rfl j
          have c_g5_0 : w5.cell? ⟨g5, 0, none⟩ = some (.slice (some ad) l1_0.length c1_0) := Bks.cell HS.out (i := 1) rfl 0 rfl
          have f_g5 : ∀ j : Nat, w5.frozen? ⟨g5, j, none⟩ = false := fun j => Bks.free HS.out (i := 1) rfl j
          have c_g10_0 : w5.cell? ⟨g10, 0, none⟩ = some (.slice none 0 0) := Bks.cell HS.out (i := 2) rfl 0 rfl
          have f_g10 : ∀ j : Nat, w5.frozen? ⟨g10, j, none⟩ = false := fun j => Bks.free HS.out (i := 2) rfl j
          have ne_g4_g5 : g4 ≠ g5 := Bks.ne HS.out 0 1 _ _ rfl rfl (by decide)
          have ne_g4_g10 : g4 ≠ g10 := Bks.ne HS.out 0 2 _ _ rfl rfl (by decide)
          have ne_g5_g4 : g5 ≠ g4 := Bks.ne HS.out 1 0 _ _ rfl rfl (by decide)
          have ne_g5_g10 : g5 ≠ g10 := Bks.ne HS.out 1 2 _ _ rfl rfl (by decide)
          have ne_g10_g4 : g10 ≠ g4 := Bks.ne HS.out 2 0 _ _ rfl rfl (by decide)
          have ne_g10_g5 : g10 ≠ g5 := Bks.ne HS.out 2 1 _ _ rfl rfl (by decide)
          have h0 := K0 _ HS.out.below
          have HP := Aside0.mk (relate_put g10 (.slice none 0 0) [] a2 x.f0 2 0 w _ (HS.out.at_ 2 _ _ _ rfl).1 (HS.out.at_ 2 _ _ _ rfl).2 HS.out.below (Kd.R_nil _ _ _ _ _) (by decide))
          go_upto_region 5 with (first | (go_at_call 84; (with_reducible refine HP.out.mono ?_); rintro e w6 ⟨rfl, v6, z1, z2, z3, z4⟩; rw [List.nil_append] at z2; have n_ := Aside0.mk (show Bks w w6 [(g4, #[.slice A0_0 l0_0.length c0_0], 24), (g5, #[.slice (some ad) l1_0.length c1_0], 24), (g10, #[v6], 110)] from Bks.keptS (S := fun k => k = g10 ∨ (Value.slice none 0 0).ownBlock = some k) HS.out (i := 2) rfl z1 z3 z4 (fun j q hq hj => fun e => e.elim (HS.out.ne j 2 q _ hq rfl hj) (fun e => by simp [Value.ownBlock] at e))); have HO := Aside0.mk z2; clear HS HP z1 z2 z3 z4 h0; have HS := n_; clear n_))
          clear HR K0 c_g4_0 f_g4 c_g5_0 f_g5 c_g10_0 f_g10 ne_g4_g5 ne_g4_g10 ne_g5_g4 ne_g5_g10 ne_g10_g4 ne_g10_g5
          have hcap : l1_0.length ≤ c1_0 := HC1.out
          obtain ⟨i0, hi0, _, hsz0, _⟩ := info_parts info107
          have hcut := cut_from (P := Try.prog) 22 107 .i64 Try.underlying22 hi0 2 hsz0 (some ad) l1_0.length c1_0 1 (by omega) (by have := C8.out; omega)
          have hr2 := Kd.C_drop (m := (1 : Int).toNat) (c := c1_0) HR1.out (by have := C8.out; omega) hcap
          obtain ⟨A2, hA2⟩ : ∃ A1, A1 = (if c1_0 = (1 : Int).toNat then (some ad) else ((some ad) : Option Addr).map (·.add ((1 : Int).toNat * 2))) := ⟨_, rfl⟩
          obtain ⟨c2, hc2⟩ : ∃ c1, c1 = c1_0 - (1 : Int).toNat := ⟨_, rfl⟩
          have hy2 : y.length = l1_0.length - (1 : Int).toNat := (by rw [NY.out, List.length_drop] <;> omega)
          rw [show (l1_0).drop (1 : Int).toNat = y from NY.out.symm] at hr2
          replace hr2 : Kd.C k107 _ A2 y.length y := (by rw [hA2]; exact hr2)
          rw [← hy2, ← hA2, ← hc2] at hcut
          have HY := Aside0.mk hr2
          have p3 : ((1 : Int) ≤ (l1_0.length : Int)) = True := eq_true (by have := C8.out; omega)
          clear hr2 hA2 hc2 hy2 hcap
          have C9' := Aside0.mk (show l0_0.length = y.length by rw [NY.out]; exact C9.out)
          have n_ := Aside0.mk (show Bks w (World.drew w6) [(g4, #[.slice A0_0 l0_0.length c0_0], 24), (g5, #[.slice (some ad) l1_0.length c1_0], 24), (g10, #[v6], 110)] from Bks.drew HS.out)
          have o_ := Aside0.mk (Kd.R_drew HO.out)
          clear HS HO
          have HS := n_
          have HO := o_
          clear n_ o_
          refine start_ (n := 6) (S := fun w' => w'.cell? ⟨g4, 0, none⟩ = some (.slice A0_0 l0_0.length c0_0) ∧ w'.cell? ⟨g5, 0, none⟩ = some (.slice (some ad) l1_0.length c1_0)) (ds := [5]) #[false, false, false, false, false, false] (by kernel_rfl) rfl rfl ⟨Bks.cell HS.out (i := 0) rfl 0 rfl, Bks.cell HS.out (i := 1) rfl 0 rfl⟩ (fun hHeld => ?_)
          generalize World.drew w6 = w7 at HS HO hHeld ⊢
          refine pure_ (i := 0) (N := some 25) (v := ?_) (a' := ?_) #[true, false, false, false, false, false] rfl rfl (by kernel_rfl) (fun _ _ _ h => h) (Or.inl ⟨by rfl, ?_⟩) ?_ ?_
          rotate_left
          · intro w'
            go_simp
            with_reducible rfl
          rotate_left
          · simp only [Act.put, List.setIfInBounds_toArray, List.set_cons_zero, List.set_cons_succ, i64_w, i32_w]
            rfl
          refine pure_ (i := 2) (N := some 27) (v := ?_) (a' := ?_) #[true, false, true, false, false, false] rfl rfl (by kernel_rfl) (fun _ _ _ h => h) (Or.inl ⟨by rfl, ?_⟩) ?_ ?_
          rotate_left
          · intro w'
            go_simp
            with_reducible rfl
          rotate_left
          · simp only [Act.put, List.setIfInBounds_toArray, List.set_cons_zero, List.set_cons_succ, i64_w, i32_w]
            rfl
          refine take_ (i := 1) (N := some 26) (v := ?_) (a' := ?_) #[true, true, true, false, false, false] rfl rfl (by kernel_rfl) (fun _ _ _ h => h) (Or.inl ⟨by rfl, ?_⟩) hHeld ?_ ?_
          rotate_left
          · rintro w' ⟨s0, s1⟩
            go_simp
            with_reducible rfl
          rotate_left
          · simp only [Act.put, List.setIfInBounds_toArray, List.set_cons_zero, List.set_cons_succ, i64_w, i32_w]
            rfl
          refine take_ (i := 3) (N := some 28) (v := ?_) (a' := ?_) #[true, true, true, true, false, false] rfl rfl (by kernel_rfl) (fun _ _ _ h => h) (Or.inl ⟨by rfl, ?_⟩) hHeld ?_ ?_
          rotate_left
          · rintro w' ⟨s0, s1⟩
            go_simp
            with_reducible rfl
          rotate_left
          · simp only [Act.put, List.setIfInBounds_toArray, List.set_cons_zero, List.set_cons_succ, i64_w, i32_w]
            rfl
          refine pure_ (i := 4) (N := some 29) (v := ?_) (a' := ?_) #[true, true, true, true, true, false] rfl rfl (by kernel_rfl) (fun _ _ _ h => h) (Or.inl ⟨by rfl, ?_⟩) ?_ ?_
          rotate_left
          · intro w'
            go_simp
            with_reducible rfl
          rotate_left
          · simp only [Act.put, List.setIfInBounds_toArray, List.set_cons_zero, List.set_cons_succ, i64_w, i32_w]
            rfl
          refine last_ (i := 5) (N := some 30) #[true, true, true, true, true, true] rfl rfl (by kernel_rfl) (by decide) (fun K hK => ?_)
          refine goes_ Try.func72 (by kernel_rfl) rfl #[.pointer (some ⟨g10, 0, none⟩), .slice A0_0 l0_0.length c0_0, .slice A2 y.length c2, .int .i64 1, .int .i64 1] (by rfl) rfl rfl (by (try simp only [List.map_toArray, List.map_cons, List.map_nil]); first | done | rfl) ?_
          refine (relate_slots A0_0 c0_0 l0_0 A2 c2 y 1 1 g10 v6 _ w _ HR0.out HY.out C9'.out (HS.out.at_ 2 _ _ _ rfl).1 (HS.out.at_ 2 _ _ _ rfl).2 HS.out.below HO.out (show 1 < 100 by decide) C10.out).mono ?_
          rintro e w9 ⟨rfl, v9, z1, z2, z3⟩
          refine ⟨_, rfl, ?_⟩
          rw [← NR.out] at z2
          obtain ⟨A9, k9, rfl⟩ := Kd.R_slice z2
          have c9 := blk_cell z1 0
          have Z2 := Aside0.mk z2
          have Z3 := Aside0.mk z3
          clear z1 z2 z3 HS HO
          refine hK.out _ _ ?_
          clear hK K
          refine norm_ (a' := ?_) ?_ ?_
          rotate_left
          · show Act.put _ (some 30) _ = _
            simp only [Act.put, List.setIfInBounds_toArray, List.set_cons_zero, List.set_cons_succ, i64_w, i32_w]
            rfl
          refine done_ (by kernel_rfl) ?_
          clear hcut
          go_wp2
          go_ret2
          exact ⟨_, rfl, Z2.out, Z3.out⟩
        · rw [if_neg c10] at H
          exact absurd H (by simp)
      · rw [if_neg c9] at H
        exact absurd H (by simp)
    · rw [if_neg c8] at H
      exact absurd H (by simp)
  · rw [if_neg c7] at H
    simp only [Option.some.injEq, Prod.mk.injEq] at H
    obtain ⟨rfl, rfl⟩ := H
    have C7 := Aside0.mk (show shp t l1_0 = false from Bool.eq_false_iff.mpr c7)
    clear c7
    go_enter Try.func51, Try.ntmps51
    go_upto_region 1 with (first | ((with_reducible refine gate_dst (N := 4) rfl ?_); refine box_event ?hg (N := 4) ?hd (cs := #[.slice A0_0 l0_0.length c0_0]) (t := 24) ?hr ?_; (case hd => rfl); (case hg => rfl); (case hr => first | (go_simp; done) | (go_simp; rfl)); intro g4 hg4 wg4 xg4 bg4; have n_ := Aside0.mk (show Bks w wg4 [(g4, #[.slice A0_0 l0_0.length c0_0], 24)] from Bks.new HS.out hg4 xg4 bg4); have m_ := Aside0.mk (show Rws w wg4 [] from Rws.step HR.out bg4); clear HS HR; have HS := n_; have HR := m_; clear n_ m_; clear hg4 xg4 bg4; have c_g4_0 : wg4.cell? ⟨g4, 0, none⟩ = some (.slice A0_0 l0_0.length c0_0) := Bks.cell HS.out (i := 0) rfl 0 rfl; have f_g4 : ∀ j : Nat, wg4.frozen? ⟨g4, j, none⟩ = false := fun j => Bks.free HS.out (i := 0) rfl j) | ((with_reducible refine gate_dst (N := 5) rfl ?_); refine box_event ?hg (N := 5) ?hd (cs := #[.slice A1_0 l1_0.length c1_0]) (t := 24) ?hr ?_; (case hd => rfl); (case hg => rfl); (case hr => first | (go_simp; done) | (go_simp; rfl)); intro g5 hg5 wg5 xg5 bg5; have n_ := Aside0.mk (show Bks w wg5 [(g4, #[.slice A0_0 l0_0.length c0_0], 24), (g5, #[.slice A1_0 l1_0.length c1_0], 24)] from Bks.new HS.out hg5 xg5 bg5); have m_ := Aside0.mk (show Rws w wg5 [] from Rws.step HR.out bg5); clear HS HR; clear c_g4_0 f_g4; have HS := n_; have HR := m_; clear n_ m_; clear hg5 xg5 bg5; have c_g4_0 : wg5.cell? ⟨g4, 0, none⟩ = some (.slice A0_0 l0_0.length c0_0) := Bks.cell HS.out (i := 0) rfl 0 rfl; have f_g4 : ∀ j : Nat, wg5.frozen? ⟨g4, j, none⟩ = false := fun j => Bks.free HS.out (i := 0) rfl j; have c_g5_0 : wg5.cell? ⟨g5, 0, none⟩ = some (.slice A1_0 l1_0.length c1_0) := Bks.cell HS.out (i := 1) rfl 0 rfl; have f_g5 : ∀ j : Nat, wg5.frozen? ⟨g5, j, none⟩ = false := fun j => Bks.free HS.out (i := 1) rfl j; have ne_g4_g5 : g4 ≠ g5 := Bks.ne HS.out 0 1 _ _ rfl rfl (by decide); have ne_g5_g4 : g5 ≠ g4 := Bks.ne HS.out 1 0 _ _ rfl rfl (by decide)))
    have n_ := Aside0.mk (show Bks w wg5 [(g4, #[.slice A0_0 l0_0.length c0_0], 24), (g5, #[.slice A1_0 l1_0.length c1_0], 24)] from HS.out)
    have m_ := Aside0.mk (show Rws w wg5 [] from HR.out)
    clear HS HR
    clear c_g4_0 f_g4 c_g5_0 f_g5 ne_g4_g5 ne_g5_g4
    generalize wg5 = w1 at n_ m_ ⊢
    have HS := n_
    have HR := m_
    clear n_ m_
    have c_g4_0 : w1.cell? ⟨g4, 0, none⟩ = some (.slice A0_0 l0_0.length c0_0) := Bks.cell HS.out (i := 0) rfl 0 rfl
    have f_g4 : ∀ j : Nat, w1.frozen? ⟨g4, j, none⟩ = false := fun j => Bks.free HS.out (i := 0) rfl j
    have c_g5_0 : w1.cell? ⟨g5, 0, none⟩ = some (.slice A1_0 l1_0.length c1_0) := Bks.cell HS.out (i := 1) rfl 0 rfl
    have f_g5 : ∀ j : Nat, w1.frozen? ⟨g5, j, none⟩ = false := fun j => Bks.free HS.out (i := 1) rfl j
    have ne_g4_g5 : g4 ≠ g5 := Bks.ne HS.out 0 1 _ _ rfl rfl (by decide)
    have ne_g5_g4 : g5 ≠ g4 := Bks.ne HS.out 1 0 _ _ rfl rfl (by decide)
    have n_ := Aside0.mk (show Bks w (World.drew w1) [(g4, #[.slice A0_0 l0_0.length c0_0], 24), (g5, #[.slice A1_0 l1_0.length c1_0], 24)] from Bks.drew HS.out)
    clear HS HR c_g4_0 f_g4 c_g5_0 f_g5 ne_g4_g5 ne_g5_g4
    have HS := n_
    clear n_
    refine start_ (n := 7) (S := fun w' => w'.cell? ⟨g4, 0, none⟩ = some (.slice A0_0 l0_0.length c0_0) ∧ w'.cell? ⟨g5, 0, none⟩ = some (.slice A1_0 l1_0.length c1_0)) (ds := []) #[false, false, false, false, false, false, false] (by kernel_rfl) rfl rfl ⟨Bks.cell HS.out (i := 0) rfl 0 rfl, Bks.cell HS.out (i := 1) rfl 0 rfl⟩ (fun hHeld => ?_)
    generalize World.drew w1 = w2 at HS hHeld ⊢
    refine pure_ (i := 1) (N := some 12) (v := ?_) (a' := ?_) #[false, true, false, false, false, false, false] rfl rfl (by kernel_rfl) (fun _ _ _ h => h) (Or.inl ⟨by rfl, ?_⟩) ?_ ?_
    rotate_left
    · intro w'
      go_simp
      with_reducible rfl
    rotate_left
    · simp only [Act.put, List.setIfInBounds_toArray, List.set_cons_zero, List.set_cons_succ, i64_w, i32_w]
      rfl
    refine pure_ (i := 2) (N := some 13) (v := ?_) (a' := ?_) #[false, true, true, false, false, false, false] rfl rfl (by kernel_rfl) (fun _ _ _ h => h) (Or.inl ⟨by rfl, ?_⟩) ?_ ?_
    rotate_left
    · intro w'
      go_simp
      with_reducible rfl
    rotate_left
    · simp only [Act.put, List.setIfInBounds_toArray, List.set_cons_zero, List.set_cons_succ, i64_w, i32_w]
      rfl
    refine take_ (i := 0) (N := some 11) (v := ?_) (a' := ?_) #[true, true, true, false, false, false, false] rfl rfl (by kernel_rfl) (fun _ _ _ h => h) (Or.inl ⟨by rfl, ?_⟩) hHeld ?_ ?_
    rotate_left
    · rintro w' ⟨s0, s1⟩
      go_simp
      with_reducible rfl
    rotate_left
    · simp only [Act.put, List.setIfInBounds_toArray, List.set_cons_zero, List.set_cons_succ, i64_w, i32_w]
      rfl
    refine take_ (i := 4) (N := some 15) (v := ?_) (a' := ?_) #[true, true, true, false, true, false, false] rfl rfl (by kernel_rfl) (fun _ _ _ h => h) (Or.inl ⟨by rfl, ?_⟩) hHeld ?_ ?_
    rotate_left
    · rintro w' ⟨s0, s1⟩
      go_simp
      with_reducible rfl
    rotate_left
    · simp only [Act.put, List.setIfInBounds_toArray, List.set_cons_zero, List.set_cons_succ, i64_w, i32_w]
      rfl
    refine one_ (i := 3) (N := some 14) #[true, true, true, true, true, false, false] rfl rfl (by kernel_rfl) (by decide) (fun K hK => ?_)
    refine goes_ Try.func83 (by kernel_rfl) rfl #[.agg #[.slice A0_0 l0_0.length c0_0], .int .i64 a2, .bool a3] (by rfl) rfl rfl (by (try simp only [List.map_toArray, List.map_cons, List.map_nil]); first | done | rfl) ?_
    refine (row_Ref.calls _ _ l0_0 a2 a3 t _ (Kd.C_below HR0.out HS.out.below) HC0.out A5.out).mono ?_
    rintro e w3 ⟨v3, rfl, ho3, hb3⟩
    refine ⟨_, rfl, ?_⟩
    obtain ⟨A3, k3, rfl⟩ := Kd.R_slice ho3
    have n_ := Aside0.mk (show Bks w w3 [(g4, #[.slice A0_0 l0_0.length c0_0], 24), (g5, #[.slice A1_0 l1_0.length c1_0], 24)] from Bks.step HS.out hb3)
    have HO3 := Aside0.mk ho3
    clear HS ho3 hb3
    have HS := n_
    clear n_
    refine hK.out _ _ ⟨Bks.cell HS.out (i := 0) rfl 0 rfl, Bks.cell HS.out (i := 1) rfl 0 rfl⟩ (fun hHeld => ?_)
    clear hK K
    refine norm_ (a' := ?_) ?_ ?_
    rotate_left
    · show Act.put _ (some 14) _ = _
      simp only [Act.put, List.setIfInBounds_toArray, List.set_cons_zero, List.set_cons_succ, i64_w, i32_w]
      rfl
    refine one_ (i := 5) (N := some 16) #[true, true, true, true, true, true, false] rfl rfl (by kernel_rfl) (by decide) (fun K hK => ?_)
    refine goes_ Try.func71 (by kernel_rfl) rfl #[.agg #[.slice A3 t.length k3], .agg #[.slice A1_0 l1_0.length c1_0]] (by rfl) rfl rfl (by (try simp only [List.map_toArray, List.map_cons, List.map_nil]); first | done | rfl) ?_
    refine (row_Shape.calls _ _ t _ _ l1_0 false _ (Kd.R_reads' HO3.out).2.2 (Kd.R_reads' HO3.out).2.1 (Kd.C_below HR1.out HS.out.below) HC1.out (congrArg some C7.out)).mono ?_
    rintro e w4 ⟨rfl, hb4⟩
    refine ⟨_, rfl, ?_⟩
    have n_ := Aside0.mk (show Bks w w4 [(g4, #[.slice A0_0 l0_0.length c0_0], 24), (g5, #[.slice A1_0 l1_0.length c1_0], 24)] from Bks.step HS.out hb4)
    clear HS HO3 hb4
    have HS := n_
    clear n_
    refine hK.out _ _ ⟨Bks.cell HS.out (i := 0) rfl 0 rfl, Bks.cell HS.out (i := 1) rfl 0 rfl⟩ (fun hHeld => ?_)
    clear hK K
    refine norm_ (a' := ?_) ?_ ?_
    rotate_left
    · show Act.put _ (some 16) _ = _
      simp only [Act.put, List.setIfInBounds_toArray, List.set_cons_zero, List.set_cons_succ, i64_w, i32_w]
      rfl
    refine pure_ (i := 6) (N := some 17) (v := ?_) (a' := ?_) #[true, true, true, true, true, true, true] rfl rfl (by kernel_rfl) (fun _ _ _ h => h) (Or.inl ⟨by rfl, ?_⟩) ?_ ?_
    rotate_left
    · intro w'
      go_simp
      with_reducible rfl
    rotate_left
    · simp only [Act.put, List.setIfInBounds_toArray, List.set_cons_zero, List.set_cons_succ, i64_w, i32_w]
      rfl
    refine done_ (by kernel_rfl) ?_
    have HR := Aside0.mk (Rws.start (w0 := w) (W := w4))
    go_wp2
    go_ret2
    exact ⟨_, rfl, Kd.R_nil _ _ _ _ _, HS.out.below⟩

end Go.Proofs.Ytnabbhcagonlkaa.GRelateNeeds
