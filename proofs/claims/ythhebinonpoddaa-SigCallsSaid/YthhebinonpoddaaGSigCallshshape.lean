/- Written for this claim by gp.py, a program of this session's, over the kit's print. Lean checks it. -/
import Derived.Test.YthhebinonpoddaaGSigCallsx0
import Derived.Test.YthhebinonpoddaaGSigCallshx
import Derived.Test.YthhebinonpoddaaGSigCallshrows
namespace Go.Proofs.Ythhebinonpoddaa.GSigCalls
open Go.RowKit Go.Proofs.YthhebinonpoddaaW.PrintWords Go.Proofs.YthhebinonpoddaaW.PrintLast Go.Proofs.YthhebinonpoddaaW.PrintMore
attribute [local go_sem] max2_int min2_int max_two min_two max_three min_three max_four min_four   -- for this text's walks alone
set_option linter.unusedVariables false
set_option linter.unusedSimpArgs false

/-- Slots of the same kinds? -/
def shp (a b : List S115) : Bool := decide (a.map (fun x => x.f1) = b.map (fun x => x.f1))
def row_Shape.f (a b : List S115) : Option Bool := some (shp a b)
theorem shp_len {a b : List S115} (h : a.length ≠ b.length) : shp a b = false := by
  unfold shp
  refine decide_eq_false (fun e => h ?_)
  have := congrArg List.length e
  simpa using this
theorem shp_rd {l m : List S115} {i : Nat} (h : l.length = m.length) (hi : i < l.length) (hne : (rd_T115 l (i : Int)).f1 ≠ (rd_T115 m (i : Int)).f1) : shp l m = false := by
  unfold shp
  refine decide_eq_false (fun e => hne ?_)
  have := congrArg (fun z => z[i]?) e
  have hm : i < m.length := by omega
  simp only [List.getElem?_map, List.getElem?_eq_getElem hi, List.getElem?_eq_getElem hm, Option.map_some, Option.some.injEq] at this
  unfold rd_T115
  rw [Int.toNat_natCast, List.getD_eq_getElem?_getD, List.getD_eq_getElem?_getD, List.getElem?_eq_getElem hi, List.getElem?_eq_getElem hm]
  exact this
theorem shp_all {l m : List S115} (h : l.length = m.length) (ha : ∀ i : Nat, i < l.length → (rd_T115 l (i : Int)).f1 = (rd_T115 m (i : Int)).f1) : shp l m = true := by
  unfold shp
  refine decide_eq_true (List.ext_getElem (by simpa using h) (fun i h1 h2 => ?_))
  have hi : i < l.length := by simpa using h1
  have hm : i < m.length := by simpa using h2
  have := ha i hi
  unfold rd_T115 at this
  rw [Int.toNat_natCast, List.getD_eq_getElem?_getD, List.getD_eq_getElem?_getD, List.getElem?_eq_getElem hi, List.getElem?_eq_getElem hm] at this
  simpa using this
set_option maxHeartbeats 8000000 in
set_option maxRecDepth 100000 in
theorem row_Shape.lit (x : Int) (p : Bool) (y : Int) (q : Bool) (w : World) : Calls Try.prog 116 #[.agg #[.int .i64 x, .bool p], .agg #[.int .i64 y, .bool q]] w fun e w' => e = .returned (.bool (p == q)) ∧ Below w.heap.size w w' := by
  have hu := Try.underlying115
  have HS := Aside0.mk (Bks.start (Below.refl w.heap.size w))
  go_enter Try.func116, Try.ntmps116
  go_wp2_with (first | ((with_reducible refine bZ (N := 2) rfl ?_); refine bY ?hg (N := 2) ?hd (cs := #[.int .i64 x, .bool p]) (t := 115) ?hr ?_; (case hd => rfl); (case hg => rfl); (case hr => first | (go_simp; done) | (go_simp; rfl)); intro g2 hg2 wg2 xg2 bg2; have n_ := Aside0.mk (show Bks w wg2 [(g2, #[.int .i64 x, .bool p], 115)] from Bks.new (by repeat (first | exact HS.out | refine Bks.drewN ?_ _ | refine Bks.drew ?_)) hg2 xg2 bg2); clear HS; have HS := n_; clear n_ hg2 xg2 bg2; have c_g2_0 : wg2.cell? ⟨g2, 0, none⟩ = some (.int .i64 x) := Bks.cell HS.out (i := 0) rfl 0 rfl; have c_g2_1 : wg2.cell? ⟨g2, 1, none⟩ = some (.bool p) := Bks.cell HS.out (i := 0) rfl 1 rfl; have f_g2 : ∀ j : Nat, wg2.frozen? ⟨g2, j, none⟩ = false := fun j => Bks.free HS.out (i := 0) rfl j) | ((with_reducible refine bZ (N := 3) rfl ?_); refine bY ?hg (N := 3) ?hd (cs := #[.int .i64 y, .bool q]) (t := 115) ?hr ?_; (case hd => rfl); (case hg => rfl); (case hr => first | (go_simp; done) | (go_simp; rfl)); intro g3 hg3 wg3 xg3 bg3; have n_ := Aside0.mk (show Bks w wg3 [(g2, #[.int .i64 x, .bool p], 115), (g3, #[.int .i64 y, .bool q], 115)] from Bks.new (by repeat (first | exact HS.out | refine Bks.drewN ?_ _ | refine Bks.drew ?_)) hg3 xg3 bg3); clear HS; clear c_g2_0 c_g2_1 f_g2; have HS := n_; clear n_ hg3 xg3 bg3; have c_g2_0 : wg3.cell? ⟨g2, 0, none⟩ = some (.int .i64 x) := Bks.cell HS.out (i := 0) rfl 0 rfl; have c_g2_1 : wg3.cell? ⟨g2, 1, none⟩ = some (.bool p) := Bks.cell HS.out (i := 0) rfl 1 rfl; have f_g2 : ∀ j : Nat, wg3.frozen? ⟨g2, j, none⟩ = false := fun j => Bks.free HS.out (i := 0) rfl j; have c_g3_0 : wg3.cell? ⟨g3, 0, none⟩ = some (.int .i64 y) := Bks.cell HS.out (i := 1) rfl 0 rfl; have c_g3_1 : wg3.cell? ⟨g3, 1, none⟩ = some (.bool q) := Bks.cell HS.out (i := 1) rfl 1 rfl; have f_g3 : ∀ j : Nat, wg3.frozen? ⟨g3, j, none⟩ = false := fun j => Bks.free HS.out (i := 1) rfl j; have ne_g2_g3 : g2 ≠ g3 := Bks.ne HS.out 0 1 _ _ rfl rfl (by decide); have ne_g3_g2 : g3 ≠ g2 := Bks.ne HS.out 1 0 _ _ rfl rfl (by decide)))
  go_ret
  exact ⟨rfl, HS.out.below⟩
set_option maxHeartbeats 8000000 in
set_option maxRecDepth 100000 in
theorem row_Shape.eqf (A1 : Option Addr) (c1 : Nat) (l : List S115) (A2 : Option Addr) (c2 : Nat) (m : List S115) (w : World) (hr1 : Kd.C k115 w A1 l.length l) (hr2 : Kd.C k115 w A2 m.length m) :
    Calls Try.prog 115 #[.slice A1 l.length c1, .slice A2 m.length c2, .func (.func 116) #[] #[]] w fun e w' => e = .returned (.bool (shp l m)) ∧ Below w.heap.size w w' := by
  have hu := Try.underlying115
  have HR1 := Aside0.mk hr1
  have HR2 := Aside0.mk hr2
  clear hr1 hr2
  have HS := Aside0.mk (Bks.start (Below.refl w.heap.size w))
  by_cases c0 : l.length = m.length
  · have c0b : ((l.length : Int) != (m.length : Int)) = false := by rw [c0]; exact bne_self_eq_false _
    have C0 := Aside0.mk c0
    clear c0
    go_enter Try.func115, Try.ntmps115
    go_wp2
    go_loopg [17] l.length (fun kq v17 w' => ∃ j : Int, v17 = .int .i64 j ∧ Aside0 (0 ≤ j ∧ j + kq = l.length) ∧ Aside0 (∀ i : Nat, (i : Int) < j → (rd_T115 l (i : Int)).f1 = (rd_T115 m (i : Int)).f1) ∧ Aside0 (Bks w w' []))
    case atStart => exact ⟨0, rfl, ⟨⟨Int.le_refl _, Int.zero_add _⟩⟩, ⟨fun i hi => absurd hi (by omega)⟩, HS⟩
    case round =>
      clear HS c0b
      obtain ⟨j, rfl, HJ, HA, HS⟩ := hrel
      by_cases c1 : j < (l.length : Int)
      · obtain ⟨k1, rfl⟩ : ∃ k1, gk = k1 + 1 := ⟨gk - 1, by have := HJ.out; omega⟩
        have c1b : decide (j < (l.length : Int)) = true := decide_eq_true c1
        have c2b : decide (j < (m.length : Int)) = true := decide_eq_true (by rw [← C0.out]; exact c1)
        have c3b : decide (0 ≤ j) = true := decide_eq_true HJ.out.1
        obtain ⟨ad1, e1, h10, h11⟩ := at_T115 HR1.out j HJ.out.1 c1
        obtain ⟨ad2, e2, h20, h21⟩ := at_T115 HR2.out j HJ.out.1 (by rw [← C0.out]; exact c1)
        cases e1
        cases e2
        have hj : wrap64 (j + 1) = j + 1 := by have := Kd.C_max HR1.out; have := HJ.out; unfold wrap64; omega
        generalize hx : rd_T115 l j = x at h10 h11
        generalize hy : rd_T115 m j = y at h20 h21
        have HX := Aside0.mk hx
        have HY := Aside0.mk hy
        have K20 : ∀ W, Below w.heap.size w W → W.cell? _ = some _ := fun W hb => (hb.cell (World.block_lt_of_cell? w _ h20)).trans h20
        have K21 : ∀ W, Below w.heap.size w W → W.cell? _ = some _ := fun W hb => (hb.cell (World.block_lt_of_cell? w _ h21)).trans h21
        have p1 : (0 ≤ j) = True := eq_true HJ.out.1
        have q1 : (j < (l.length : Int)) = True := eq_true c1
        have q2 : (j < (m.length : Int)) = True := eq_true (by rw [← C0.out]; exact c1)
        clear hx hy h20 h21 c1
        replace h10 := (HS.out.below.cell (World.block_lt_of_cell? w _ h10)).trans h10
        replace h11 := (HS.out.below.cell (World.block_lt_of_cell? w _ h11)).trans h11
        have HR := Aside0.mk (Rws.start (w0 := w) (W := wr))
        go_upto_region 6 with (first | ((with_reducible refine bZ (N := 8) rfl ?_); refine bY ?hg (N := 8) ?hd (cs := #[.int .i64 0, .bool false]) (t := 115) ?hr ?_; (case hd => rfl); (case hg => rfl); (case hr => first | (go_simp; done) | (go_simp; rfl)); intro g8 hg8 wg8 xg8 bg8; have n_ := Aside0.mk (show Bks w wg8 [(g8, #[.int .i64 0, .bool false], 115)] from Bks.new HS.out hg8 xg8 bg8); have m_ := Aside0.mk (show Rws w wg8 [] from Rws.step HR.out bg8); clear HS HR; have HS := n_; have HR := m_; clear n_ m_; clear hg8 xg8 bg8; have c_g8_0 : wg8.cell? ⟨g8, 0, none⟩ = some (.int .i64 0) := Bks.cell HS.out (i := 0) rfl 0 rfl; have c_g8_1 : wg8.cell? ⟨g8, 1, none⟩ = some (.bool false) := Bks.cell HS.out (i := 0) rfl 1 rfl; have f_g8 : ∀ j : Nat, wg8.frozen? ⟨g8, j, none⟩ = false := fun j => Bks.free HS.out (i := 0) rfl j))
        have n_ := Aside0.mk (show Bks w ((wg8.setCell ⟨g8, 0, none⟩ (.int .i64 x.f0)).setCell ⟨g8, 1, none⟩ (.bool x.f1)) [(g8, #[.int .i64 x.f0, .bool x.f1], 115)] from (Bks.set (Bks.set HS.out (i := 0) rfl 0 (.int .i64 x.f0)) (i := 0) rfl 1 (.bool x.f1)))
        have m_ := Aside0.mk (show Rws w ((wg8.setCell ⟨g8, 0, none⟩ (.int .i64 x.f0)).setCell ⟨g8, 1, none⟩ (.bool x.f1)) [] from (Rws.set (Rws.set HR.out HS.out (i := 0) rfl (by decide) 0 (.int .i64 x.f0)) (Bks.set HS.out (i := 0) rfl 0 (.int .i64 x.f0)) (i := 0) rfl (by decide) 1 (.bool x.f1)))
        clear HS HR
        clear c_g8_0 c_g8_1 f_g8
        generalize ((wg8.setCell ⟨g8, 0, none⟩ (.int .i64 x.f0)).setCell ⟨g8, 1, none⟩ (.bool x.f1)) = w6 at n_ m_ ⊢
        have HS := n_
        have HR := m_
        clear n_ m_
        have c_g8_0 : w6.cell? ⟨g8, 0, none⟩ = some (.int .i64 x.f0) := Bks.cell HS.out (i := 0) rfl 0 rfl
        have c_g8_1 : w6.cell? ⟨g8, 1, none⟩ = some (.bool x.f1) := Bks.cell HS.out (i := 0) rfl 1 rfl
        have f_g8 : ∀ j : Nat, w6.frozen? ⟨g8, j, none⟩ = false := fun j => Bks.free HS.out (i := 0) rfl j
        have h20 := K20 _ HS.out.below
        have h21 := K21 _ HS.out.below
        go_upto_region 7 with (first | ((with_reducible refine bZ (N := 9) rfl ?_); refine bY ?hg (N := 9) ?hd (cs := #[.int .i64 0, .bool false]) (t := 115) ?hr ?_; (case hd => rfl); (case hg => rfl); (case hr => first | (go_simp; done) | (go_simp; rfl)); intro g9 hg9 wg9 xg9 bg9; have n_ := Aside0.mk (show Bks w wg9 [(g8, #[.int .i64 x.f0, .bool x.f1], 115), (g9, #[.int .i64 0, .bool false], 115)] from Bks.new HS.out hg9 xg9 bg9); have m_ := Aside0.mk (show Rws w wg9 [] from Rws.step HR.out bg9); clear HS HR; clear c_g8_0 c_g8_1 f_g8; have HS := n_; have HR := m_; clear n_ m_; clear hg9 xg9 bg9; have c_g8_0 : wg9.cell? ⟨g8, 0, none⟩ = some (.int .i64 x.f0) := Bks.cell HS.out (i := 0) rfl 0 rfl; have c_g8_1 : wg9.cell? ⟨g8, 1, none⟩ = some (.bool x.f1) := Bks.cell HS.out (i := 0) rfl 1 rfl; have f_g8 : ∀ j : Nat, wg9.frozen? ⟨g8, j, none⟩ = false := fun j => Bks.free HS.out (i := 0) rfl j; have c_g9_0 : wg9.cell? ⟨g9, 0, none⟩ = some (.int .i64 0) := Bks.cell HS.out (i := 1) rfl 0 rfl; have c_g9_1 : wg9.cell? ⟨g9, 1, none⟩ = some (.bool false) := Bks.cell HS.out (i := 1) rfl 1 rfl; have f_g9 : ∀ j : Nat, wg9.frozen? ⟨g9, j, none⟩ = false := fun j => Bks.free HS.out (i := 1) rfl j; have ne_g8_g9 : g8 ≠ g9 := Bks.ne HS.out 0 1 _ _ rfl rfl (by decide); have ne_g9_g8 : g9 ≠ g8 := Bks.ne HS.out 1 0 _ _ rfl rfl (by decide); have h20 := K20 _ HS.out.below; have h21 := K21 _ HS.out.below))
        have n_ := Aside0.mk (show Bks w ((wg9.setCell ⟨g9, 0, none⟩ (.int .i64 y.f0)).setCell ⟨g9, 1, none⟩ (.bool y.f1)) [(g8, #[.int .i64 x.f0, .bool x.f1], 115), (g9, #[.int .i64 y.f0, .bool y.f1], 115)] from (Bks.set (Bks.set HS.out (i := 1) rfl 0 (.int .i64 y.f0)) (i := 1) rfl 1 (.bool y.f1)))
        have m_ := Aside0.mk (show Rws w ((wg9.setCell ⟨g9, 0, none⟩ (.int .i64 y.f0)).setCell ⟨g9, 1, none⟩ (.bool y.f1)) [] from (Rws.set (Rws.set HR.out HS.out (i := 1) rfl (by decide) 0 (.int .i64 y.f0)) (Bks.set HS.out (i := 1) rfl 0 (.int .i64 y.f0)) (i := 1) rfl (by decide) 1 (.bool y.f1)))
        clear HS HR
        clear c_g8_0 c_g8_1 f_g8 c_g9_0 c_g9_1 f_g9 ne_g8_g9 ne_g9_g8
        generalize ((wg9.setCell ⟨g9, 0, none⟩ (.int .i64 y.f0)).setCell ⟨g9, 1, none⟩ (.bool y.f1)) = w7 at n_ m_ ⊢
        have HS := n_
        have HR := m_
        clear n_ m_
        have c_g8_0 : w7.cell? ⟨g8, 0, none⟩ = some (.int .i64 x.f0) := Bks.cell HS.out (i := 0) rfl 0 rfl
        have c_g8_1 : w7.cell? ⟨g8, 1, none⟩ = some (.bool x.f1) := Bks.cell HS.out (i := 0) rfl 1 rfl
        have f_g8 : ∀ j : Nat, w7.frozen? ⟨g8, j, none⟩ = false := fun j => Bks.free HS.out (i := 0) rfl j
        have c_g9_0 : w7.cell? ⟨g9, 0, none⟩ = some (.int .i64 y.f0) := Bks.cell HS.out (i := 1) rfl 0 rfl
        have c_g9_1 : w7.cell? ⟨g9, 1, none⟩ = some (.bool y.f1) := Bks.cell HS.out (i := 1) rfl 1 rfl
        have f_g9 : ∀ j : Nat, w7.frozen? ⟨g9, j, none⟩ = false := fun j => Bks.free HS.out (i := 1) rfl j
        have ne_g8_g9 : g8 ≠ g9 := Bks.ne HS.out 0 1 _ _ rfl rfl (by decide)
        have ne_g9_g8 : g9 ≠ g8 := Bks.ne HS.out 1 0 _ _ rfl rfl (by decide)
        clear h20 h21
        by_cases c5 : (x.f1 == y.f1) = true
        · go_wp2_with (first | (go_at_call 116; (with_reducible refine (row_Shape.lit _ _ _ _ _).mono ?_); rintro e w8 ⟨rfl, hb⟩; rw [c5]; have n_ := Aside0.mk (Bks.step HS.out hb); clear HS hb; have HS := n_; clear n_))
          go_roundg k1
          case measure => omega
          case rel =>
            refine ⟨j + 1, by rw [hj], ⟨by have := HJ.out; omega⟩, ⟨fun i hi => ?_⟩, ⟨Bks.start HS.out.below⟩⟩
            by_cases hij : (i : Int) = j
            · rw [hij, HX.out, HY.out]
              exact eq_of_beq c5
            · exact HA.out i (by omega)
        · replace c5 : (x.f1 == y.f1) = false := by simpa using c5
          go_wp2_with (first | (go_at_call 116; (with_reducible refine (row_Shape.lit _ _ _ _ _).mono ?_); rintro e w8 ⟨rfl, hb⟩; rw [c5]; have n_ := Aside0.mk (Bks.step HS.out hb); clear HS hb; have HS := n_; clear n_))
          go_ret
          refine ⟨?_, HS.out.below⟩
          have e : (j.toNat : Int) = j := Int.toNat_of_nonneg HJ.out.1
          rw [shp_rd (i := j.toNat) C0.out (by have := HJ.out; omega) (by rw [e, HX.out, HY.out]; simpa using c5)]
          rfl
      · have c1b : decide (j < (l.length : Int)) = false := decide_eq_false c1
        go_wp2
        go_ret
        refine ⟨?_, HS.out.below⟩
        rw [shp_all C0.out (fun i hi => HA.out i (by omega))]
        rfl
  · have c0b : ((l.length : Int) != (m.length : Int)) = true := bne_iff_ne.mpr (by omega)
    go_enter Try.func115, Try.ntmps115
    rw [shp_len c0]
    clear c0
    go_wp2
    go_ret
    exact ⟨rfl, HS.out.below⟩
/-- Have two types slots of the same kinds? -/
theorem row_Shape.calls (A0_0 : Option Addr) (c0_0 : Nat) (l0_0 : List (S115)) (A1_0 : Option Addr) (c1_0 : Nat) (l1_0 : List (S115)) (r : Bool) (w : World) (hr0_0 : Kd.C k115 w A0_0 l0_0.length l0_0) (hc0_0 : l0_0.length ≤ c0_0) (hr1_0 : Kd.C k115 w A1_0 l1_0.length l1_0) (hc1_0 : l1_0.length ≤ c1_0) (h : row_Shape.f l0_0 l1_0 = some r) :
    Calls Try.prog 107 #[.agg #[.slice A0_0 l0_0.length c0_0], .agg #[.slice A1_0 l1_0.length c1_0]] w fun e w' => e = .returned (.bool r) ∧ Below w.heap.size w w' := by
  have hu := Try.underlying44
  obtain rfl : shp l0_0 l1_0 = r := Option.some.inj h
  clear h
  have HA := Aside0.mk (fun (W : World) (hb : Below w.heap.size w W) => row_Shape.eqf A0_0 c0_0 l0_0 A1_0 c1_0 l1_0 W (Kd.bW hr0_0 hb) (Kd.bW hr1_0 hb))
  clear hr0_0 hr1_0
  have HS := Aside0.mk (Bks.start (Below.refl w.heap.size w))
  go_enter Try.func107, Try.ntmps107
  go_wp2_with (first | ((with_reducible refine bZ (N := 2) rfl ?_); refine bY ?hg (N := 2) ?hd (cs := #[.slice A0_0 l0_0.length c0_0]) (t := 44) ?hr ?_; (case hd => rfl); (case hg => rfl); (case hr => first | (go_simp; done) | (go_simp; rfl)); intro g2 hg2 wg2 xg2 bg2; have n_ := Aside0.mk (show Bks w wg2 [(g2, #[.slice A0_0 l0_0.length c0_0], 44)] from Bks.new (by repeat (first | exact HS.out | refine Bks.drewN ?_ _ | refine Bks.drew ?_)) hg2 xg2 bg2); clear HS; have HS := n_; clear n_ hg2 xg2 bg2; have c_g2_0 : wg2.cell? ⟨g2, 0, none⟩ = some (.slice A0_0 l0_0.length c0_0) := Bks.cell HS.out (i := 0) rfl 0 rfl; have f_g2 : ∀ j : Nat, wg2.frozen? ⟨g2, j, none⟩ = false := fun j => Bks.free HS.out (i := 0) rfl j) | ((with_reducible refine bZ (N := 3) rfl ?_); refine bY ?hg (N := 3) ?hd (cs := #[.slice A1_0 l1_0.length c1_0]) (t := 44) ?hr ?_; (case hd => rfl); (case hg => rfl); (case hr => first | (go_simp; done) | (go_simp; rfl)); intro g3 hg3 wg3 xg3 bg3; have n_ := Aside0.mk (show Bks w wg3 [(g2, #[.slice A0_0 l0_0.length c0_0], 44), (g3, #[.slice A1_0 l1_0.length c1_0], 44)] from Bks.new (by repeat (first | exact HS.out | refine Bks.drewN ?_ _ | refine Bks.drew ?_)) hg3 xg3 bg3); clear HS; clear c_g2_0 f_g2; have HS := n_; clear n_ hg3 xg3 bg3; have c_g2_0 : wg3.cell? ⟨g2, 0, none⟩ = some (.slice A0_0 l0_0.length c0_0) := Bks.cell HS.out (i := 0) rfl 0 rfl; have f_g2 : ∀ j : Nat, wg3.frozen? ⟨g2, j, none⟩ = false := fun j => Bks.free HS.out (i := 0) rfl j; have c_g3_0 : wg3.cell? ⟨g3, 0, none⟩ = some (.slice A1_0 l1_0.length c1_0) := Bks.cell HS.out (i := 1) rfl 0 rfl; have f_g3 : ∀ j : Nat, wg3.frozen? ⟨g3, j, none⟩ = false := fun j => Bks.free HS.out (i := 1) rfl j; have ne_g2_g3 : g2 ≠ g3 := Bks.ne HS.out 0 1 _ _ rfl rfl (by decide); have ne_g3_g2 : g3 ≠ g2 := Bks.ne HS.out 1 0 _ _ rfl rfl (by decide)) | (go_at_call 115; (with_reducible refine (HA.out _ HS.out.below).mono ?_); rintro e w8 ⟨rfl, hb⟩; have n_ := Aside0.mk (Bks.step HS.out hb); clear HS hb; have HS := n_; clear n_))
  go_ret
  exact ⟨rfl, HS.out.below⟩

end Go.Proofs.Ythhebinonpoddaa.GSigCalls
