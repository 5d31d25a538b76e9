/- Written for this claim by gp.py, a program of this session's, over the kit's print. Lean checks it. -/
import Derived.Test.YtnabbhcagonlkaaGRelateNeedsx0
import Derived.Test.YtnabbhcagonlkaaGRelateNeedshx
import Derived.Test.YtnabbhcagonlkaaGRelateNeedshrows
import Derived.Test.YtnabbhcagonlkaaGRelateNeedshshape
import Derived.Test.YtnabbhcagonlkaaGRelateNeedshkept
import Derived.Test.YtnabbhcagonlkaaGRelateNeedshput
import Derived.Test.YtnabbhcagonlkaaGRelateNeedshslots
import Derived.Test.YtnabbhcagonlkaaGRelateNeedshflow
import Derived.Test.YtnabbhcagonlkaaGRelateNeedshderef
import Derived.WalkSpells
namespace Go.Proofs.Ytnabbhcagonlkaa.GRelateNeeds
open Go.RowKit Go.Proofs.YtnabbhcagonlkaaW.PrintWords Go.Proofs.YtnabbhcagonlkaaW.PrintLast Go.Proofs.YtnabbhcagonlkaaW.PrintMore
attribute [local go_sem] max2_int min2_int max_two min_two max_three min_three max_four min_four   -- for this text's walks alone
set_option linter.unusedVariables false
set_option linter.unusedSimpArgs false

--import Derived.WalkSpells
/-- What it needs that what a reference leads to is borrowed again, for a region. -/
def relate_Again.fin (a b : List S107) (region : Int) (mut_ : Bool) : Option (List S35 × Int) :=
  if (mut_ && !(a.drop 1).all (fun s => s.f1)) = true then some ([], 8) else some ([⟨(rd_T107 a 0).f0, region, 3, 0, false⟩] ++ [⟨region, (rd_T107 b 0).f0, 2, 0, false⟩] ++ slx 1 1 (a.drop 1) (b.drop 1) 0, 0)
def relate_Again.f (a b : List S107) (region : Int) (mut_ : Bool) : Option (List S35 × Int) :=
  if a.length < 1000000000 then (if b.length < 1000000000 then (if drf a = true then (if drf b = true then (if shp a b = true then relate_Again.fin a b region mut_ else some ([], 8)) else some ([], 8)) else some ([], 8)) else none) else none
theorem all_rd {l : List S107} (h : ∀ i : Nat, i < l.length → (rd_T107 l (i : Int)).f1 = true) : l.all (fun s => s.f1) = true := by
  rw [List.all_eq_true]
  intro s hs
  obtain ⟨i, hi, rfl⟩ := List.getElem_of_mem hs
  have := h i hi
  unfold rd_T107 at this
  rwa [Int.toNat_natCast, List.getD_eq_getElem?_getD, List.getElem?_eq_getElem hi] at this
theorem not_all_rd {l : List S107} {j : Int} (h0 : 0 ≤ j) (h1 : j < l.length) (h : (rd_T107 l j).f1 = false) : l.all (fun s => s.f1) = false := by
  refine Bool.eq_false_iff.mpr (fun ha => ?_)
  have hj : j.toNat < l.length := by omega
  have := (List.all_eq_true.1 ha) l[j.toNat] (List.getElem_mem hj)
  unfold rd_T107 at h
  rw [List.getD_eq_getElem?_getD, List.getElem?_eq_getElem hj] at h
  rw [show (some l[j.toNat]).getD z107 = l[j.toNat] from rfl] at h
  rw [h] at this
  exact absurd this (by decide)
set_option maxHeartbeats 16000000 in
set_option maxRecDepth 100000 in
theorem relate_Again.calls (A0_0 : Option Addr) (c0_0 : Nat) (l0_0 : List (S107)) (A1_0 : Option Addr) (c1_0 : Nat) (l1_0 : List (S107)) (a2 : Int) (a3 : Bool) (r1 : List (S35)) (r2 : Int) (w : World) (hr0_0 : Kd.C k107 w A0_0 l0_0.length l0_0) (hc0_0 : l0_0.length ≤ c0_0) (hr1_0 : Kd.C k107 w A1_0 l1_0.length l1_0) (hc1_0 : l1_0.length ≤ c1_0) (h : relate_Again.f l0_0 l1_0 a2 a3 = some (r1, r2)) :
    Calls Try.prog 53 #[.agg #[.slice A0_0 l0_0.length c0_0], .agg #[.slice A1_0 l1_0.length c1_0], .int .i64 a2, .bool a3] w fun e w' => ∃ v0_ : Value, e = .returned (.tuple #[v0_, .int .i64 r2]) ∧ Kd.R k35 35 w' w.heap.size (fun _ => True) v0_ r1 ∧ Below w.heap.size w w' := by
  have hu1 := Try.underlying110
  have hu3 := Try.underlying24
  have hu4 := Try.underlying107
  have H := h
  unfold relate_Again.f at H
  by_cases c1 : l0_0.length < 1000000000
  rotate_left
  · rw [if_neg c1] at H
    exact absurd H (by simp)
  rw [if_pos c1] at H
  by_cases c2 : l1_0.length < 1000000000
  rotate_left
  · rw [if_neg c2] at H
    exact absurd H (by simp)
  rw [if_pos c2] at H
  have HS := Aside0.mk (Bks.start (Below.refl w.heap.size w))
  have HR := Aside0.mk (Rws.start (w0 := w) (W := w))
  have HD1 := Aside0.mk (fun (W : World) (hb : Below w.heap.size w W) => row_deref_any A0_0 c0_0 l0_0 W (Kd.C_below hr0_0 hb) hc0_0 c1)
  have HY1 := Aside0.mk (fun (hd : drf l0_0 = true) (W : World) (hb : Below w.heap.size w W) => row_deref_yes A0_0 c0_0 l0_0 W (Kd.C_below hr0_0 hb) hc0_0 c1 hd)
  have HD2 := Aside0.mk (fun (W : World) (hb : Below w.heap.size w W) => row_deref_any A1_0 c1_0 l1_0 W (Kd.C_below hr1_0 hb) hc1_0 c2)
  have HSH := Aside0.mk (fun (W : World) (hb : Below w.heap.size w W) => row_Shape.calls A0_0 c0_0 l0_0 A1_0 c1_0 l1_0 (shp l0_0 l1_0) W (Kd.C_below hr0_0 hb) hc0_0 (Kd.C_below hr1_0 hb) hc1_0 rfl)
  have HC1 := Aside0.mk hc1_0
  have HR1 := Aside0.mk hr1_0
  have C1 := Aside0.mk c1
  have C2 := Aside0.mk c2
  clear h hr0_0 hr1_0 hc0_0 hc1_0 c1 c2
  by_cases d1 : drf l0_0 = true
  rotate_left
  · rw [if_neg d1] at H
    simp only [Option.some.injEq, Prod.mk.injEq] at H
    obtain ⟨rfl, rfl⟩ := H
    have D1 := Aside0.mk (show drf l0_0 = false from Bool.eq_false_iff.mpr d1)
    clear d1
    go_enter Try.func53, Try.ntmps53
    go_upto_region 2 with (first | ((with_reducible refine gate_dst (N := 4) rfl ?_); refine box_event ?hg (N := 4) ?hd (cs := #[.slice A0_0 l0_0.length c0_0]) (t := 24) ?hr ?_; (case hd => rfl); (case hg => rfl); (case hr => first | (go_simp; done) | (go_simp; rfl)); intro g4 hg4 wg4 xg4 bg4; have n_ := Aside0.mk (show Bks w wg4 [(g4, #[.slice A0_0 l0_0.length c0_0], 24)] from Bks.new HS.out hg4 xg4 bg4); have m_ := Aside0.mk (show Rws w wg4 [] from Rws.step HR.out bg4); clear HS HR; have HS := n_; have HR := m_; clear n_ m_; clear hg4 xg4 bg4; have c_g4_0 : wg4.cell? ⟨g4, 0, none⟩ = some (.slice A0_0 l0_0.length c0_0) := Bks.cell HS.out (i := 0) rfl 0 rfl; have f_g4 : ∀ j : Nat, wg4.frozen? ⟨g4, j, none⟩ = false := fun j => Bks.free HS.out (i := 0) rfl j) | ((with_reducible refine gate_dst (N := 5) rfl ?_); refine box_event ?hg (N := 5) ?hd (cs := #[.slice A1_0 l1_0.length c1_0]) (t := 24) ?hr ?_; (case hd => rfl); (case hg => rfl); (case hr => first | (go_simp; done) | (go_simp; rfl)); intro g5 hg5 wg5 xg5 bg5; have n_ := Aside0.mk (show Bks w wg5 [(g4, #[.slice A0_0 l0_0.length c0_0], 24), (g5, #[.slice A1_0 l1_0.length c1_0], 24)] from Bks.new HS.out hg5 xg5 bg5); have m_ := Aside0.mk (show Rws w wg5 [] from Rws.step HR.out bg5); clear HS HR; clear c_g4_0 f_g4; have HS := n_; have HR := m_; clear n_ m_; clear hg5 xg5 bg5; have c_g4_0 : wg5.cell? ⟨g4, 0, none⟩ = some (.slice A0_0 l0_0.length c0_0) := Bks.cell HS.out (i := 0) rfl 0 rfl; have f_g4 : ∀ j : Nat, wg5.frozen? ⟨g4, j, none⟩ = false := fun j => Bks.free HS.out (i := 0) rfl j; have c_g5_0 : wg5.cell? ⟨g5, 0, none⟩ = some (.slice A1_0 l1_0.length c1_0) := Bks.cell HS.out (i := 1) rfl 0 rfl; have f_g5 : ∀ j : Nat, wg5.frozen? ⟨g5, j, none⟩ = false := fun j => Bks.free HS.out (i := 1) rfl j; have ne_g4_g5 : g4 ≠ g5 := Bks.ne HS.out 0 1 _ _ rfl rfl (by decide); have ne_g5_g4 : g5 ≠ g4 := Bks.ne HS.out 1 0 _ _ rfl rfl (by decide)) | (go_at_call 86; (with_reducible refine (HD1.out _ HS.out.below).mono ?_); rintro e wd1 ⟨A1, n1, k1, o1, rfl, hb⟩; rw [D1.out]; have n_ := Aside0.mk (show Bks w wd1 [(g4, #[.slice A0_0 l0_0.length c0_0], 24), (g5, #[.slice A1_0 l1_0.length c1_0], 24)] from Bks.step HS.out hb); have m_ := Aside0.mk (show Rws w wd1 [] from Rws.step HR.out hb); clear HS HR; clear c_g4_0 f_g4 c_g5_0 f_g5 ne_g4_g5 ne_g5_g4; have HS := n_; have HR := m_; clear n_ m_; clear hb; have c_g4_0 : wd1.cell? ⟨g4, 0, none⟩ = some (.slice A0_0 l0_0.length c0_0) := Bks.cell HS.out (i := 0) rfl 0 rfl; have f_g4 : ∀ j : Nat, wd1.frozen? ⟨g4, j, none⟩ = false := fun j => Bks.free HS.out (i := 0) rfl j; have c_g5_0 : wd1.cell? ⟨g5, 0, none⟩ = some (.slice A1_0 l1_0.length c1_0) := Bks.cell HS.out (i := 1) rfl 0 rfl; have f_g5 : ∀ j : Nat, wd1.frozen? ⟨g5, j, none⟩ = false := fun j => Bks.free HS.out (i := 1) rfl j; have ne_g4_g5 : g4 ≠ g5 := Bks.ne HS.out 0 1 _ _ rfl rfl (by decide); have ne_g5_g4 : g5 ≠ g4 := Bks.ne HS.out 1 0 _ _ rfl rfl (by decide)) | ((with_reducible refine gate_dst (N := 10) rfl ?_); refine box_event ?hg (N := 10) ?hd (cs := #[.slice none 0 0]) (t := 24) ?hr ?_; (case hd => rfl); (case hg => rfl); (case hr => first | (go_simp; done) | (go_simp; rfl)); intro g10 hg10 wg10 xg10 bg10; have n_ := Aside0.mk (show Bks w wg10 [(g4, #[.slice A0_0 l0_0.length c0_0], 24), (g5, #[.slice A1_0 l1_0.length c1_0], 24), (g10, #[.slice none 0 0], 24)] from Bks.new HS.out hg10 xg10 bg10); have m_ := Aside0.mk (show Rws w wg10 [] from Rws.step HR.out bg10); clear HS HR; clear c_g4_0 f_g4 c_g5_0 f_g5 ne_g4_g5 ne_g5_g4; have HS := n_; have HR := m_; clear n_ m_; clear hg10 xg10 bg10; have c_g4_0 : wg10.cell? ⟨g4, 0, none⟩ = some (.slice A0_0 l0_0.length c0_0) := Bks.cell HS.out (i := 0) rfl 0 rfl; have f_g4 : ∀ j : Nat, wg10.frozen? ⟨g4, j, none⟩ = false := fun j => Bks.free HS.out (i := 0) rfl j; have c_g5_0 : wg10.cell? ⟨g5, 0, none⟩ = some (.slice A1_0 l1_0.length c1_0) := Bks.cell HS.out (i := 1) rfl 0 rfl; have f_g5 : ∀ j : Nat, wg10.frozen? ⟨g5, j, none⟩ = false := fun j => Bks.free HS.out (i := 1) rfl j; have c_g10_0 : wg10.cell? ⟨g10, 0, none⟩ = some (.slice none 0 0) := Bks.cell HS.out (i := 2) rfl 0 rfl; have f_g10 : ∀ j : Nat, wg10.frozen? ⟨g10, j, none⟩ = false := fun j => Bks.free HS.out (i := 2) rfl j; have ne_g4_g5 : g4 ≠ g5 := Bks.ne HS.out 0 1 _ _ rfl rfl (by decide); have ne_g4_g10 : g4 ≠ g10 := Bks.ne HS.out 0 2 _ _ rfl rfl (by decide); have ne_g5_g4 : g5 ≠ g4 := Bks.ne HS.out 1 0 _ _ rfl rfl (by decide); have ne_g5_g10 : g5 ≠ g10 := Bks.ne HS.out 1 2 _ _ rfl rfl (by decide); have ne_g10_g4 : g10 ≠ g4 := Bks.ne HS.out 2 0 _ _ rfl rfl (by decide); have ne_g10_g5 : g10 ≠ g5 := Bks.ne HS.out 2 1 _ _ rfl rfl (by decide)))
    have n_ := Aside0.mk (show Bks w (wg10.setCell ⟨g10, 0, none⟩ (.slice A1 n1 k1)) [(g4, #[.slice A0_0 l0_0.length c0_0], 24), (g5, #[.slice A1_0 l1_0.length c1_0], 24), (g10, #[.slice A1 n1 k1], 24)] from (Bks.set HS.out (i := 2) rfl 0 (.slice A1 n1 k1)))
    have m_ := Aside0.mk (show Rws w (wg10.setCell ⟨g10, 0, none⟩ (.slice A1 n1 k1)) [] from (Rws.set HR.out HS.out (i := 2) rfl (by decide) 0 (.slice A1 n1 k1)))
    clear HS HR
    clear c_g4_0 f_g4 c_g5_0 f_g5 c_g10_0 f_g10 ne_g4_g5 ne_g4_g10 ne_g5_g4 ne_g5_g10 ne_g10_g4 ne_g10_g5
    generalize (wg10.setCell ⟨g10, 0, none⟩ (.slice A1 n1 k1)) = w2 at n_ m_ ⊢
    have HS := n_
    have HR := m_
    clear n_ m_
    have c_g4_0 : w2.cell? ⟨g4, 0, none⟩ = some (.slice A0_0 l0_0.length c0_0) := Bks.cell HS.out (i := 0) rfl 0 rfl
    have f_g4 : ∀ j : Nat, w2.frozen? ⟨g4, j, none⟩ = false := fun j => Bks.free HS.out (i := 0) rfl j
    have c_g5_0 : w2.cell? ⟨g5, 0, none⟩ = some (.slice A1_0 l1_0.length c1_0) := Bks.cell HS.out (i := 1) rfl 0 rfl
    have f_g5 : ∀ j : Nat, w2.frozen? ⟨g5, j, none⟩ = false := fun j => Bks.free HS.out (i := 1) rfl j
    have c_g10_0 : w2.cell? ⟨g10, 0, none⟩ = some (.slice A1 n1 k1) := Bks.cell HS.out (i := 2) rfl 0 rfl
    have f_g10 : ∀ j : Nat, w2.frozen? ⟨g10, j, none⟩ = false := fun j => Bks.free HS.out (i := 2) rfl j
    have ne_g4_g5 : g4 ≠ g5 := Bks.ne HS.out 0 1 _ _ rfl rfl (by decide)
    have ne_g4_g10 : g4 ≠ g10 := Bks.ne HS.out 0 2 _ _ rfl rfl (by decide)
    have ne_g5_g4 : g5 ≠ g4 := Bks.ne HS.out 1 0 _ _ rfl rfl (by decide)
    have ne_g5_g10 : g5 ≠ g10 := Bks.ne HS.out 1 2 _ _ rfl rfl (by decide)
    have ne_g10_g4 : g10 ≠ g4 := Bks.ne HS.out 2 0 _ _ rfl rfl (by decide)
    have ne_g10_g5 : g10 ≠ g5 := Bks.ne HS.out 2 1 _ _ rfl rfl (by decide)
    go_upto_region 3 with (first | (go_at_call 86; (with_reducible refine (HD2.out _ HS.out.below).mono ?_); rintro e wd2 ⟨A2, n2, k2, o2, rfl, hb⟩; have n_ := Aside0.mk (show Bks w wd2 [(g4, #[.slice A0_0 l0_0.length c0_0], 24), (g5, #[.slice A1_0 l1_0.length c1_0], 24), (g10, #[.slice A1 n1 k1], 24)] from Bks.step HS.out hb); have m_ := Aside0.mk (show Rws w wd2 [] from Rws.step HR.out hb); clear HS HR; clear c_g4_0 f_g4 c_g5_0 f_g5 c_g10_0 f_g10 ne_g4_g5 ne_g4_g10 ne_g5_g4 ne_g5_g10 ne_g10_g4 ne_g10_g5; have HS := n_; have HR := m_; clear n_ m_; clear hb; have c_g4_0 : wd2.cell? ⟨g4, 0, none⟩ = some (.slice A0_0 l0_0.length c0_0) := Bks.cell HS.out (i := 0) rfl 0 rfl; have f_g4 : ∀ j : Nat, wd2.frozen? ⟨g4, j, none⟩ = false := fun j => Bks.free HS.out (i := 0) rfl j; have c_g5_0 : wd2.cell? ⟨g5, 0, none⟩ = some (.slice A1_0 l1_0.length c1_0) := Bks.cell HS.out (i := 1) rfl 0 rfl; have f_g5 : ∀ j : Nat, wd2.frozen? ⟨g5, j, none⟩ = false := fun j => Bks.free HS.out (i := 1) rfl j; have c_g10_0 : wd2.cell? ⟨g10, 0, none⟩ = some (.slice A1 n1 k1) := Bks.cell HS.out (i := 2) rfl 0 rfl; have f_g10 : ∀ j : Nat, wd2.frozen? ⟨g10, j, none⟩ = false := fun j => Bks.free HS.out (i := 2) rfl j; have ne_g4_g5 : g4 ≠ g5 := Bks.ne HS.out 0 1 _ _ rfl rfl (by decide); have ne_g4_g10 : g4 ≠ g10 := Bks.ne HS.out 0 2 _ _ rfl rfl (by decide); have ne_g5_g4 : g5 ≠ g4 := Bks.ne HS.out 1 0 _ _ rfl rfl (by decide); have ne_g5_g10 : g5 ≠ g10 := Bks.ne HS.out 1 2 _ _ rfl rfl (by decide); have ne_g10_g4 : g10 ≠ g4 := Bks.ne HS.out 2 0 _ _ rfl rfl (by decide); have ne_g10_g5 : g10 ≠ g5 := Bks.ne HS.out 2 1 _ _ rfl rfl (by decide)) | ((with_reducible refine gate_dst (N := 13) rfl ?_); refine box_event ?hg (N := 13) ?hd (cs := #[.slice none 0 0]) (t := 24) ?hr ?_; (case hd => rfl); (case hg => rfl); (case hr => first | (go_simp; done) | (go_simp; rfl)); intro g13 hg13 wg13 xg13 bg13; have n_ := Aside0.mk (show Bks w wg13 [(g4, #[.slice A0_0 l0_0.length c0_0], 24), (g5, #[.slice A1_0 l1_0.length c1_0], 24), (g10, #[.slice A1 n1 k1], 24), (g13, #[.slice none 0 0], 24)] from Bks.new HS.out hg13 xg13 bg13); have m_ := Aside0.mk (show Rws w wg13 [] from Rws.step HR.out bg13); clear HS HR; clear c_g4_0 f_g4 c_g5_0 f_g5 c_g10_0 f_g10 ne_g4_g5 ne_g4_g10 ne_g5_g4 ne_g5_g10 ne_g10_g4 ne_g10_g5; have HS := n_; have HR := m_; clear n_ m_; clear hg13 xg13 bg13; have c_g4_0 : wg13.cell? ⟨g4, 0, none⟩ = some (.slice A0_0 l0_0.length c0_0) := Bks.cell HS.out (i := 0) rfl 0 rfl; have f_g4 : ∀ j : Nat, wg13.frozen? ⟨g4, j, none⟩ = false := fun j => Bks.free HS.out (i := 0) rfl j; have c_g5_0 : wg13.cell? ⟨g5, 0, none⟩ = some (.slice A1_0 l1_0.length c1_0) := Bks.cell HS.out (i := 1) rfl 0 rfl; have f_g5 : ∀ j : Nat, wg13.frozen? ⟨g5, j, none⟩ = false := fun j => Bks.free HS.out (i := 1) rfl j; have c_g10_0 : wg13.cell? ⟨g10, 0, none⟩ = some (.slice A1 n1 k1) := Bks.cell HS.out (i := 2) rfl 0 rfl; have f_g10 : ∀ j : Nat, wg13.frozen? ⟨g10, j, none⟩ = false := fun j => Bks.free HS.out (i := 2) rfl j; have c_g13_0 : wg13.cell? ⟨g13, 0, none⟩ = some (.slice none 0 0) := Bks.cell HS.out (i := 3) rfl 0 rfl; have f_g13 : ∀ j : Nat, wg13.frozen? ⟨g13, j, none⟩ = false := fun j => Bks.free HS.out (i := 3) rfl j; have ne_g4_g5 : g4 ≠ g5 := Bks.ne HS.out 0 1 _ _ rfl rfl (by decide); have ne_g4_g10 : g4 ≠ g10 := Bks.ne HS.out 0 2 _ _ rfl rfl (by decide); have ne_g4_g13 : g4 ≠ g13 := Bks.ne HS.out 0 3 _ _ rfl rfl (by decide); have ne_g5_g4 : g5 ≠ g4 := Bks.ne HS.out 1 0 _ _ rfl rfl (by decide); have ne_g5_g10 : g5 ≠ g10 := Bks.ne HS.out 1 2 _ _ rfl rfl (by decide); have ne_g5_g13 : g5 ≠ g13 := Bks.ne HS.out 1 3 _ _ rfl rfl (by decide); have ne_g10_g4 : g10 ≠ g4 := Bks.ne HS.out 2 0 _ _ rfl rfl (by decide); have ne_g10_g5 : g10 ≠ g5 := Bks.ne HS.out 2 1 _ _ rfl rfl (by decide); have ne_g10_g13 : g10 ≠ g13 := Bks.ne HS.out 2 3 _ _ rfl rfl (by decide); have ne_g13_g4 : g13 ≠ g4 := Bks.ne HS.out 3 0 _ _ rfl rfl (by decide); have ne_g13_g5 : g13 ≠ g5 := Bks.ne HS.out 3 1 _ _ rfl rfl (by decide); have ne_g13_g10 : g13 ≠ g10 := Bks.ne HS.out 3 2 _ _ rfl rfl (by decide)))
    have n_ := Aside0.mk (show Bks w (wg13.setCell ⟨g13, 0, none⟩ (.slice A2 n2 k2)) [(g4, #[.slice A0_0 l0_0.length c0_0], 24), (g5, #[.slice A1_0 l1_0.length c1_0], 24), (g10, #[.slice A1 n1 k1], 24), (g13, #[.slice A2 n2 k2], 24)] from (Bks.set HS.out (i := 3) rfl 0 (.slice A2 n2 k2)))
    have m_ := Aside0.mk (show Rws w (wg13.setCell ⟨g13, 0, none⟩ (.slice A2 n2 k2)) [] from (Rws.set HR.out HS.out (i := 3) rfl (by decide) 0 (.slice A2 n2 k2)))
    clear HS HR
    clear c_g4_0 f_g4 c_g5_0 f_g5 c_g10_0 f_g10 c_g13_0 f_g13 ne_g4_g5 ne_g4_g10 ne_g4_g13 ne_g5_g4 ne_g5_g10 ne_g5_g13 ne_g10_g4 ne_g10_g5 ne_g10_g13 ne_g13_g4 ne_g13_g5 ne_g13_g10
    generalize (wg13.setCell ⟨g13, 0, none⟩ (.slice A2 n2 k2)) = w3 at n_ m_ ⊢
    have HS := n_
    have HR := m_
    clear n_ m_
    have c_g4_0 : w3.cell? ⟨g4, 0, none⟩ = some (.slice A0_0 l0_0.length c0_0) := Bks.cell HS.out (i := 0) rfl 0 rfl
    have f_g4 : ∀ j : Nat, w3.frozen? ⟨g4, j, none⟩ = false := fun j => Bks.free HS.out (i := 0) rfl j
    have c_g5_0 : w3.cell? ⟨g5, 0, none⟩ = some (.slice A1_0 l1_0.length c1_0) := Bks.cell HS.out (i := 1) rfl 0 rfl
    have f_g5 : ∀ j : Nat, w3.frozen? ⟨g5, j, none⟩ = false := fun j => Bks.free HS.out (i := 1) rfl j
    have c_g10_0 : w3.cell? ⟨g10, 0, none⟩ = some (.slice A1 n1 k1) := Bks.cell HS.out (i := 2) rfl 0 rfl
    have f_g10 : ∀ j : Nat, w3.frozen? ⟨g10, j, none⟩ = false := fun j => Bks.free HS.out (i := 2) rfl j
    have c_g13_0 : w3.cell? ⟨g13, 0, none⟩ = some (.slice A2 n2 k2) := Bks.cell HS.out (i := 3) rfl 0 rfl
    have f_g13 : ∀ j : Nat, w3.frozen? ⟨g13, j, none⟩ = false := fun j => Bks.free HS.out (i := 3) rfl j
    have ne_g4_g5 : g4 ≠ g5 := Bks.ne HS.out 0 1 _ _ rfl rfl (by decide)
    have ne_g4_g10 : g4 ≠ g10 := Bks.ne HS.out 0 2 _ _ rfl rfl (by decide)
    have ne_g4_g13 : g4 ≠ g13 := Bks.ne HS.out 0 3 _ _ rfl rfl (by decide)
    have ne_g5_g4 : g5 ≠ g4 := Bks.ne HS.out 1 0 _ _ rfl rfl (by decide)
    have ne_g5_g10 : g5 ≠ g10 := Bks.ne HS.out 1 2 _ _ rfl rfl (by decide)
    have ne_g5_g13 : g5 ≠ g13 := Bks.ne HS.out 1 3 _ _ rfl rfl (by decide)
    have ne_g10_g4 : g10 ≠ g4 := Bks.ne HS.out 2 0 _ _ rfl rfl (by decide)
    have ne_g10_g5 : g10 ≠ g5 := Bks.ne HS.out 2 1 _ _ rfl rfl (by decide)
    have ne_g10_g13 : g10 ≠ g13 := Bks.ne HS.out 2 3 _ _ rfl rfl (by decide)
    have ne_g13_g4 : g13 ≠ g4 := Bks.ne HS.out 3 0 _ _ rfl rfl (by decide)
    have ne_g13_g5 : g13 ≠ g5 := Bks.ne HS.out 3 1 _ _ rfl rfl (by decide)
    have ne_g13_g10 : g13 ≠ g10 := Bks.ne HS.out 3 2 _ _ rfl rfl (by decide)
    go_wp2
    go_ret2
    exact ⟨_, rfl, Kd.R_nil _ _ _ _ _, HS.out.below⟩
  rw [if_pos d1] at H
  have D1 := Aside0.mk d1
  clear d1
  by_cases d2 : drf l1_0 = true
  rotate_left
  · rw [if_neg d2] at H
    simp only [Option.some.injEq, Prod.mk.injEq] at H
    obtain ⟨rfl, rfl⟩ := H
    have D2 := Aside0.mk (show drf l1_0 = false from Bool.eq_false_iff.mpr d2)
    clear d2
    go_enter Try.func53, Try.ntmps53
    go_upto_region 2 with (first | ((with_reducible refine gate_dst (N := 4) rfl ?_); refine box_event ?hg (N := 4) ?hd (cs := #[.slice A0_0 l0_0.length c0_0]) (t := 24) ?hr ?_; (case hd => rfl); (case hg => rfl); (case hr => first | (go_simp; done) | (go_simp; rfl)); intro g4 hg4 wg4 xg4 bg4; have n_ := Aside0.mk (show Bks w wg4 [(g4, #[.slice A0_0 l0_0.length c0_0], 24)] from Bks.new HS.out hg4 xg4 bg4); have m_ := Aside0.mk (show Rws w wg4 [] from Rws.step HR.out bg4); clear HS HR; have HS := n_; have HR := m_; clear n_ m_; clear hg4 xg4 bg4; have c_g4_0 : wg4.cell? ⟨g4, 0, none⟩ = some (.slice A0_0 l0_0.length c0_0) := Bks.cell HS.out (i := 0) rfl 0 rfl; have f_g4 : ∀ j : Nat, wg4.frozen? ⟨g4, j, none⟩ = false := fun j => Bks.free HS.out (i := 0) rfl j) | ((with_reducible refine gate_dst (N := 5) rfl ?_); refine box_event ?hg (N := 5) ?hd (cs := #[.slice A1_0 l1_0.length c1_0]) (t := 24) ?hr ?_; (case hd => rfl); (case hg => rfl); (case hr => first | (go_simp; done) | (go_simp; rfl)); intro g5 hg5 wg5 xg5 bg5; have n_ := Aside0.mk (show Bks w wg5 [(g4, #[.slice A0_0 l0_0.length c0_0], 24), (g5, #[.slice A1_0 l1_0.length c1_0], 24)] from Bks.new HS.out hg5 xg5 bg5); have m_ := Aside0.mk (show Rws w wg5 [] from Rws.step HR.out bg5); clear HS HR; clear c_g4_0 f_g4; have HS := n_; have HR := m_; clear n_ m_; clear hg5 xg5 bg5; have c_g4_0 : wg5.cell? ⟨g4, 0, none⟩ = some (.slice A0_0 l0_0.length c0_0) := Bks.cell HS.out (i := 0) rfl 0 rfl; have f_g4 : ∀ j : Nat, wg5.frozen? ⟨g4, j, none⟩ = false := fun j => Bks.free HS.out (i := 0) rfl j; have c_g5_0 : wg5.cell? ⟨g5, 0, none⟩ = some (.slice A1_0 l1_0.length c1_0) := Bks.cell HS.out (i := 1) rfl 0 rfl; have f_g5 : ∀ j : Nat, wg5.frozen? ⟨g5, j, none⟩ = false := fun j => Bks.free HS.out (i := 1) rfl j; have ne_g4_g5 : g4 ≠ g5 := Bks.ne HS.out 0 1 _ _ rfl rfl (by decide); have ne_g5_g4 : g5 ≠ g4 := Bks.ne HS.out 1 0 _ _ rfl rfl (by decide)) | (go_at_call 86; (with_reducible refine (HD1.out _ HS.out.below).mono ?_); rintro e wd1 ⟨A1, n1, k1, o1, rfl, hb⟩; rw [D1.out]; have n_ := Aside0.mk (show Bks w wd1 [(g4, #[.slice A0_0 l0_0.length c0_0], 24), (g5, #[.slice A1_0 l1_0.length c1_0], 24)] from Bks.step HS.out hb); have m_ := Aside0.mk (show Rws w wd1 [] from Rws.step HR.out hb); clear HS HR; clear c_g4_0 f_g4 c_g5_0 f_g5 ne_g4_g5 ne_g5_g4; have HS := n_; have HR := m_; clear n_ m_; clear hb; have c_g4_0 : wd1.cell? ⟨g4, 0, none⟩ = some (.slice A0_0 l0_0.length c0_0) := Bks.cell HS.out (i := 0) rfl 0 rfl; have f_g4 : ∀ j : Nat, wd1.frozen? ⟨g4, j, none⟩ = false := fun j => Bks.free HS.out (i := 0) rfl j; have c_g5_0 : wd1.cell? ⟨g5, 0, none⟩ = some (.slice A1_0 l1_0.length c1_0) := Bks.cell HS.out (i := 1) rfl 0 rfl; have f_g5 : ∀ j : Nat, wd1.frozen? ⟨g5, j, none⟩ = false := fun j => Bks.free HS.out (i := 1) rfl j; have ne_g4_g5 : g4 ≠ g5 := Bks.ne HS.out 0 1 _ _ rfl rfl (by decide); have ne_g5_g4 : g5 ≠ g4 := Bks.ne HS.out 1 0 _ _ rfl rfl (by decide)) | ((with_reducible refine gate_dst (N := 10) rfl ?_); refine box_event ?hg (N := 10) ?hd (cs := #[.slice none 0 0]) (t := 24) ?hr ?_; (case hd => rfl); (case hg => rfl); (case hr => first | (go_simp; done) | (go_simp; rfl)); intro g10 hg10 wg10 xg10 bg10; have n_ := Aside0.mk (show Bks w wg10 [(g4, #[.slice A0_0 l0_0.length c0_0], 24), (g5, #[.slice A1_0 l1_0.length c1_0], 24), (g10, #[.slice none 0 0], 24)] from Bks.new HS.out hg10 xg10 bg10); have m_ := Aside0.mk (show Rws w wg10 [] from Rws.step HR.out bg10); clear HS HR; clear c_g4_0 f_g4 c_g5_0 f_g5 ne_g4_g5 ne_g5_g4; have HS := n_; have HR := m_; clear n_ m_; clear hg10 xg10 bg10; have c_g4_0 : wg10.cell? ⟨g4, 0, none⟩ = some (.slice A0_0 l0_0.length c0_0) := Bks.cell HS.out (i := 0) rfl 0 rfl; have f_g4 : ∀ j : Nat, wg10.frozen? ⟨g4, j, none⟩ = false := fun j => Bks.free HS.out (i := 0) rfl j; have c_g5_0 : wg10.cell? ⟨g5, 0, none⟩ = some (.slice A1_0 l1_0.length c1_0) := Bks.cell HS.out (i := 1) rfl 0 rfl; have f_g5 : ∀ j : Nat, wg10.frozen? ⟨g5, j, none⟩ = false := fun j => Bks.free HS.out (i := 1) rfl j; have c_g10_0 : wg10.cell? ⟨g10, 0, none⟩ = some (.slice none 0 0) := Bks.cell HS.out (i := 2) rfl 0 rfl; have f_g10 : ∀ j : Nat, wg10.frozen? ⟨g10, j, none⟩ = false := fun j => Bks.free HS.out (i := 2) rfl j; have ne_g4_g5 : g4 ≠ g5 := Bks.ne HS.out 0 1 _ _ rfl rfl (by decide); have ne_g4_g10 : g4 ≠ g10 := Bks.ne HS.out 0 2 _ _ rfl rfl (by decide); have ne_g5_g4 : g5 ≠ g4 := Bks.ne HS.out 1 0 _ _ rfl rfl (by decide); have ne_g5_g10 : g5 ≠ g10 := Bks.ne HS.out 1 2 _ _ rfl rfl (by decide); have ne_g10_g4 : g10 ≠ g4 := Bks.ne HS.out 2 0 _ _ rfl rfl (by decide); have ne_g10_g5 : g10 ≠ g5 := Bks.ne HS.out 2 1 _ _ rfl rfl (by decide)))
    have n_ := Aside0.mk (show Bks w (wg10.setCell ⟨g10, 0, none⟩ (.slice A1 n1 k1)) [(g4, #[.slice A0_0 l0_0.length c0_0], 24), (g5, #[.slice A1_0 l1_0.length c1_0], 24), (g10, #[.slice A1 n1 k1], 24)] from (Bks.set HS.out (i := 2) rfl 0 (.slice A1 n1 k1)))
    have m_ := Aside0.mk (show Rws w (wg10.setCell ⟨g10, 0, none⟩ (.slice A1 n1 k1)) [] from (Rws.set HR.out HS.out (i := 2) rfl (by decide) 0 (.slice A1 n1 k1)))
    clear HS HR
    clear c_g4_0 f_g4 c_g5_0 f_g5 c_g10_0 f_g10 ne_g4_g5 ne_g4_g10 ne_g5_g4 ne_g5_g10 ne_g10_g4 ne_g10_g5
    generalize (wg10.setCell ⟨g10, 0, none⟩ (.slice A1 n1 k1)) = w2 at n_ m_ ⊢
    have HS := n_
    have HR := m_
    clear n_ m_
    have c_g4_0 : w2.cell? ⟨g4, 0, none⟩ = some (.slice A0_0 l0_0.length c0_0) := Bks.cell HS.out (i := 0) rfl 0 rfl
    have f_g4 : ∀ j : Nat, w2.frozen? ⟨g4, j, none⟩ = false := fun j => Bks.free HS.out (i := 0) rfl j
    have c_g5_0 : w2.cell? ⟨g5, 0, none⟩ = some (.slice A1_0 l1_0.length c1_0) := Bks.cell HS.out (i := 1) rfl 0 rfl
    have f_g5 : ∀ j : Nat, w2.frozen? ⟨g5, j, none⟩ = false := fun j => Bks.free HS.out (i := 1) rfl j
    have c_g10_0 : w2.cell? ⟨g10, 0, none⟩ = some (.slice A1 n1 k1) := Bks.cell HS.out (i := 2) rfl 0 rfl
    have f_g10 : ∀ j : Nat, w2.frozen? ⟨g10, j, none⟩ = false := fun j => Bks.free HS.out (i := 2) rfl j
    have ne_g4_g5 : g4 ≠ g5 := Bks.ne HS.out 0 1 _ _ rfl rfl (by decide)
    have ne_g4_g10 : g4 ≠ g10 := Bks.ne HS.out 0 2 _ _ rfl rfl (by decide)
    have ne_g5_g4 : g5 ≠ g4 := Bks.ne HS.out 1 0 _ _ rfl rfl (by decide)
    have ne_g5_g10 : g5 ≠ g10 := Bks.ne HS.out 1 2 _ _ rfl rfl (by decide)
    have ne_g10_g4 : g10 ≠ g4 := Bks.ne HS.out 2 0 _ _ rfl rfl (by decide)
    have ne_g10_g5 : g10 ≠ g5 := Bks.ne HS.out 2 1 _ _ rfl rfl (by decide)
    go_upto_region 3 with (first | (go_at_call 86; (with_reducible refine (HD2.out _ HS.out.below).mono ?_); rintro e wd2 ⟨A2, n2, k2, o2, rfl, hb⟩; rw [D2.out]; have n_ := Aside0.mk (show Bks w wd2 [(g4, #[.slice A0_0 l0_0.length c0_0], 24), (g5, #[.slice A1_0 l1_0.length c1_0], 24), (g10, #[.slice A1 n1 k1], 24)] from Bks.step HS.out hb); have m_ := Aside0.mk (show Rws w wd2 [] from Rws.step HR.out hb); clear HS HR; clear c_g4_0 f_g4 c_g5_0 f_g5 c_g10_0 f_g10 ne_g4_g5 ne_g4_g10 ne_g5_g4 ne_g5_g10 ne_g10_g4 ne_g10_g5; have HS := n_; have HR := m_; clear n_ m_; clear hb; have c_g4_0 : wd2.cell? ⟨g4, 0, none⟩ = some (.slice A0_0 l0_0.length c0_0) := Bks.cell HS.out (i := 0) rfl 0 rfl; have f_g4 : ∀ j : Nat, wd2.frozen? ⟨g4, j, none⟩ = false := fun j => Bks.free HS.out (i := 0) rfl j; have c_g5_0 : wd2.cell? ⟨g5, 0, none⟩ = some (.slice A1_0 l1_0.length c1_0) := Bks.cell HS.out (i := 1) rfl 0 rfl; have f_g5 : ∀ j : Nat, wd2.frozen? ⟨g5, j, none⟩ = false := fun j => Bks.free HS.out (i := 1) rfl j; have c_g10_0 : wd2.cell? ⟨g10, 0, none⟩ = some (.slice A1 n1 k1) := Bks.cell HS.out (i := 2) rfl 0 rfl; have f_g10 : ∀ j : Nat, wd2.frozen? ⟨g10, j, none⟩ = false := fun j => Bks.free HS.out (i := 2) rfl j; have ne_g4_g5 : g4 ≠ g5 := Bks.ne HS.out 0 1 _ _ rfl rfl (by decide); have ne_g4_g10 : g4 ≠ g10 := Bks.ne HS.out 0 2 _ _ rfl rfl (by decide); have ne_g5_g4 : g5 ≠ g4 := Bks.ne HS.out 1 0 _ _ rfl rfl (by decide); have ne_g5_g10 : g5 ≠ g10 := Bks.ne HS.out 1 2 _ _ rfl rfl (by decide); have ne_g10_g4 : g10 ≠ g4 := Bks.ne HS.out 2 0 _ _ rfl rfl (by decide); have ne_g10_g5 : g10 ≠ g5 := Bks.ne HS.out 2 1 _ _ rfl rfl (by decide)) | ((with_reducible refine gate_dst (N := 13) rfl ?_); refine box_event ?hg (N := 13) ?hd (cs := #[.slice none 0 0]) (t := 24) ?hr ?_; (case hd => rfl); (case hg => rfl); (case hr => first | (go_simp; done) | (go_simp; rfl)); intro g13 hg13 wg13 xg13 bg13; have n_ := Aside0.mk (show Bks w wg13 [(g4, #[.slice A0_0 l0_0.length c0_0], 24), (g5, #[.slice A1_0 l1_0.length c1_0], 24), (g10, #[.slice A1 n1 k1], 24), (g13, #[.slice none 0 0], 24)] from Bks.new HS.out hg13 xg13 bg13); have m_ := Aside0.mk (show Rws w wg13 [] from Rws.step HR.out bg13); clear HS HR; clear c_g4_0 f_g4 c_g5_0 f_g5 c_g10_0 f_g10 ne_g4_g5 ne_g4_g10 ne_g5_g4 ne_g5_g10 ne_g10_g4 ne_g10_g5; have HS := n_; have HR := m_; clear n_ m_; clear hg13 xg13 bg13; have c_g4_0 : wg13.cell? ⟨g4, 0, none⟩ = some (.slice A0_0 l0_0.length c0_0) := Bks.cell HS.out (i := 0) rfl 0 rfl; have f_g4 : ∀ j : Nat, wg13.frozen? ⟨g4, j, none⟩ = false := fun j => Bks.free HS.out (i := 0) rfl j; have c_g5_0 : wg13.cell? ⟨g5, 0, none⟩ = some (.slice A1_0 l1_0.length c1_0) := Bks.cell HS.out (i := 1) rfl 0 rfl; have f_g5 : ∀ j : Nat, wg13.frozen? ⟨g5, j, none⟩ = false := fun j => Bks.free HS.out (i := 1) rfl j; have c_g10_0 : wg13.cell? ⟨g10, 0, none⟩ = some (.slice A1 n1 k1) := Bks.cell HS.out (i := 2) rfl 0 rfl; have f_g10 : ∀ j : Nat, wg13.frozen? ⟨g10, j, none⟩ = false := fun j => Bks.free HS.out (i := 2) rfl j; have c_g13_0 : wg13.cell? ⟨g13, 0, none⟩ = some (.slice none 0 0) := Bks.cell HS.out (i := 3) rfl 0 rfl; have f_g13 : ∀ j : Nat, wg13.frozen? ⟨g13, j, none⟩ = false := fun j => Bks.free HS.out (i := 3) rfl j; have ne_g4_g5 : g4 ≠ g5 := Bks.ne HS.out 0 1 _ _ rfl rfl (by decide); have ne_g4_g10 : g4 ≠ g10 := Bks.ne HS.out 0 2 _ _ rfl rfl (by decide); have ne_g4_g13 : g4 ≠ g13 := Bks.ne HS.out 0 3 _ _ rfl rfl (by decide); have ne_g5_g4 : g5 ≠ g4 := Bks.ne HS.out 1 0 _ _ rfl rfl (by decide); have ne_g5_g10 : g5 ≠ g10 := Bks.ne HS.out 1 2 _ _ rfl rfl (by decide); have ne_g5_g13 : g5 ≠ g13 := Bks.ne HS.out 1 3 _ _ rfl rfl (by decide); have ne_g10_g4 : g10 ≠ g4 := Bks.ne HS.out 2 0 _ _ rfl rfl (by decide); have ne_g10_g5 : g10 ≠ g5 := Bks.ne HS.out 2 1 _ _ rfl rfl (by decide); have ne_g10_g13 : g10 ≠ g13 := Bks.ne HS.out 2 3 _ _ rfl rfl (by decide); have ne_g13_g4 : g13 ≠ g4 := Bks.ne HS.out 3 0 _ _ rfl rfl (by decide); have ne_g13_g5 : g13 ≠ g5 := Bks.ne HS.out 3 1 _ _ rfl rfl (by decide); have ne_g13_g10 : g13 ≠ g10 := Bks.ne HS.out 3 2 _ _ rfl rfl (by decide)))
    have n_ := Aside0.mk (show Bks w (wg13.setCell ⟨g13, 0, none⟩ (.slice A2 n2 k2)) [(g4, #[.slice A0_0 l0_0.length c0_0], 24), (g5, #[.slice A1_0 l1_0.length c1_0], 24), (g10, #[.slice A1 n1 k1], 24), (g13, #[.slice A2 n2 k2], 24)] from (Bks.set HS.out (i := 3) rfl 0 (.slice A2 n2 k2)))
    have m_ := Aside0.mk (show Rws w (wg13.setCell ⟨g13, 0, none⟩ (.slice A2 n2 k2)) [] from (Rws.set HR.out HS.out (i := 3) rfl (by decide) 0 (.slice A2 n2 k2)))
    clear HS HR
    clear c_g4_0 f_g4 c_g5_0 f_g5 c_g10_0 f_g10 c_g13_0 f_g13 ne_g4_g5 ne_g4_g10 ne_g4_g13 ne_g5_g4 ne_g5_g10 ne_g5_g13 ne_g10_g4 ne_g10_g5 ne_g10_g13 ne_g13_g4 ne_g13_g5 ne_g13_g10
    generalize (wg13.setCell ⟨g13, 0, none⟩ (.slice A2 n2 k2)) = w3 at n_ m_ ⊢
    have HS := n_
    have HR := m_
    clear n_ m_
    have c_g4_0 : w3.cell? ⟨g4, 0, none⟩ = some (.slice A0_0 l0_0.length c0_0) := Bks.cell HS.out (i := 0) rfl 0 rfl
    have f_g4 : ∀ j : Nat, w3.frozen? ⟨g4, j, none⟩ = false := fun j => Bks.free HS.out (i := 0) rfl j
    have c_g5_0 : w3.cell? ⟨g5, 0, none⟩ = some (.slice A1_0 l1_0.length c1_0) := Bks.cell HS.out (i := 1) rfl 0 rfl
    have f_g5 : ∀ j : Nat, w3.frozen? ⟨g5, j, none⟩ = false := fun j => Bks.free HS.out (i := 1) rfl j
    have c_g10_0 : w3.cell? ⟨g10, 0, none⟩ = some (.slice A1 n1 k1) := Bks.cell HS.out (i := 2) rfl 0 rfl
    have f_g10 : ∀ j : Nat, w3.frozen? ⟨g10, j, none⟩ = false := fun j => Bks.free HS.out (i := 2) rfl j
    have c_g13_0 : w3.cell? ⟨g13, 0, none⟩ = some (.slice A2 n2 k2) := Bks.cell HS.out (i := 3) rfl 0 rfl
    have f_g13 : ∀ j : Nat, w3.frozen? ⟨g13, j, none⟩ = false := fun j => Bks.free HS.out (i := 3) rfl j
    have ne_g4_g5 : g4 ≠ g5 := Bks.ne HS.out 0 1 _ _ rfl rfl (by decide)
    have ne_g4_g10 : g4 ≠ g10 := Bks.ne HS.out 0 2 _ _ rfl rfl (by decide)
    have ne_g4_g13 : g4 ≠ g13 := Bks.ne HS.out 0 3 _ _ rfl rfl (by decide)
    have ne_g5_g4 : g5 ≠ g4 := Bks.ne HS.out 1 0 _ _ rfl rfl (by decide)
    have ne_g5_g10 : g5 ≠ g10 := Bks.ne HS.out 1 2 _ _ rfl rfl (by decide)
    have ne_g5_g13 : g5 ≠ g13 := Bks.ne HS.out 1 3 _ _ rfl rfl (by decide)
    have ne_g10_g4 : g10 ≠ g4 := Bks.ne HS.out 2 0 _ _ rfl rfl (by decide)
    have ne_g10_g5 : g10 ≠ g5 := Bks.ne HS.out 2 1 _ _ rfl rfl (by decide)
    have ne_g10_g13 : g10 ≠ g13 := Bks.ne HS.out 2 3 _ _ rfl rfl (by decide)
    have ne_g13_g4 : g13 ≠ g4 := Bks.ne HS.out 3 0 _ _ rfl rfl (by decide)
    have ne_g13_g5 : g13 ≠ g5 := Bks.ne HS.out 3 1 _ _ rfl rfl (by decide)
    have ne_g13_g10 : g13 ≠ g10 := Bks.ne HS.out 3 2 _ _ rfl rfl (by decide)
    go_wp2
    go_ret2
    exact ⟨_, rfl, Kd.R_nil _ _ _ _ _, HS.out.below⟩
  rw [if_pos d2] at H
  have D2 := Aside0.mk d2
  clear d2
  by_cases d3 : shp l0_0 l1_0 = true
  rotate_left
  · rw [if_neg d3] at H
    simp only [Option.some.injEq, Prod.mk.injEq] at H
    obtain ⟨rfl, rfl⟩ := H
    have D3 := Aside0.mk (show shp l0_0 l1_0 = false from Bool.eq_false_iff.mpr d3)
    clear d3
    go_enter Try.func53, Try.ntmps53
    go_upto_region 2 with (first | ((with_reducible refine gate_dst (N := 4) rfl ?_); refine box_event ?hg (N := 4) ?hd (cs := #[.slice A0_0 l0_0.length c0_0]) (t := 24) ?hr ?_; (case hd => rfl); (case hg => rfl); (case hr => first | (go_simp; done) | (go_simp; rfl)); intro g4 hg4 wg4 xg4 bg4; have n_ := Aside0.mk (show Bks w wg4 [(g4, #[.slice A0_0 l0_0.length c0_0], 24)] from Bks.new HS.out hg4 xg4 bg4); have m_ := Aside0.mk (show Rws w wg4 [] from Rws.step HR.out bg4); clear HS HR; have HS := n_; have HR := m_; clear n_ m_; clear hg4 xg4 bg4; have c_g4_0 : wg4.cell? ⟨g4, 0, none⟩ = some (.slice A0_0 l0_0.length c0_0) := Bks.cell HS.out (i := 0) rfl 0 rfl; have f_g4 : ∀ j : Nat, wg4.frozen? ⟨g4, j, none⟩ = false := fun j => Bks.free HS.out (i := 0) rfl j) | ((with_reducible refine gate_dst (N := 5) rfl ?_); refine box_event ?hg (N := 5) ?hd (cs := #[.slice A1_0 l1_0.length c1_0]) (t := 24) ?hr ?_; (case hd => rfl); (case hg => rfl); (case hr => first | (go_simp; done) | (go_simp; rfl)); intro g5 hg5 wg5 xg5 bg5; have n_ := Aside0.mk (show Bks w wg5 [(g4, #[.slice A0_0 l0_0.length c0_0], 24), (g5, #[.slice A1_0 l1_0.length c1_0], 24)] from Bks.new HS.out hg5 xg5 bg5); have m_ := Aside0.mk (show Rws w wg5 [] from Rws.step HR.out bg5); clear HS HR; clear c_g4_0 f_g4; have HS := n_; have HR := m_; clear n_ m_; clear hg5 xg5 bg5; have c_g4_0 : wg5.cell? ⟨g4, 0, none⟩ = some (.slice A0_0 l0_0.length c0_0) := Bks.cell HS.out (i := 0) rfl 0 rfl; have f_g4 : ∀ j : Nat, wg5.frozen? ⟨g4, j, none⟩ = false := fun j => Bks.free HS.out (i := 0) rfl j; have c_g5_0 : wg5.cell? ⟨g5, 0, none⟩ = some (.slice A1_0 l1_0.length c1_0) := Bks.cell HS.out (i := 1) rfl 0 rfl; have f_g5 : ∀ j : Nat, wg5.frozen? ⟨g5, j, none⟩ = false := fun j => Bks.free HS.out (i := 1) rfl j; have ne_g4_g5 : g4 ≠ g5 := Bks.ne HS.out 0 1 _ _ rfl rfl (by decide); have ne_g5_g4 : g5 ≠ g4 := Bks.ne HS.out 1 0 _ _ rfl rfl (by decide)) | (go_at_call 86; (with_reducible refine (HD1.out _ HS.out.below).mono ?_); rintro e wd1 ⟨A1, n1, k1, o1, rfl, hb⟩; rw [D1.out]; have n_ := Aside0.mk (show Bks w wd1 [(g4, #[.slice A0_0 l0_0.length c0_0], 24), (g5, #[.slice A1_0 l1_0.length c1_0], 24)] from Bks.step HS.out hb); have m_ := Aside0.mk (show Rws w wd1 [] from Rws.step HR.out hb); clear HS HR; clear c_g4_0 f_g4 c_g5_0 f_g5 ne_g4_g5 ne_g5_g4; have HS := n_; have HR := m_; clear n_ m_; clear hb; have c_g4_0 : wd1.cell? ⟨g4, 0, none⟩ = some (.slice A0_0 l0_0.length c0_0) := Bks.cell HS.out (i := 0) rfl 0 rfl; have f_g4 : ∀ j : Nat, wd1.frozen? ⟨g4, j, none⟩ = false := fun j => Bks.free HS.out (i := 0) rfl j; have c_g5_0 : wd1.cell? ⟨g5, 0, none⟩ = some (.slice A1_0 l1_0.length c1_0) := Bks.cell HS.out (i := 1) rfl 0 rfl; have f_g5 : ∀ j : Nat, wd1.frozen? ⟨g5, j, none⟩ = false := fun j => Bks.free HS.out (i := 1) rfl j; have ne_g4_g5 : g4 ≠ g5 := Bks.ne HS.out 0 1 _ _ rfl rfl (by decide); have ne_g5_g4 : g5 ≠ g4 := Bks.ne HS.out 1 0 _ _ rfl rfl (by decide)) | ((with_reducible refine gate_dst (N := 10) rfl ?_); refine box_event ?hg (N := 10) ?hd (cs := #[.slice none 0 0]) (t := 24) ?hr ?_; (case hd => rfl); (case hg => rfl); (case hr => first | (go_simp; done) | (go_simp; rfl)); intro g10 hg10 wg10 xg10 bg10; have n_ := Aside0.mk (show Bks w wg10 [(g4, #[.slice A0_0 l0_0.length c0_0], 24), (g5, #[.slice A1_0 l1_0.length c1_0], 24), (g10, #[.slice none 0 0], 24)] from Bks.new HS.out hg10 xg10 bg10); have m_ := Aside0.mk (show Rws w wg10 [] from Rws.step HR.out bg10); clear HS HR; clear c_g4_0 f_g4 c_g5_0 f_g5 ne_g4_g5 ne_g5_g4; have HS := n_; have HR := m_; clear n_ m_; clear hg10 xg10 bg10; have c_g4_0 : wg10.cell? ⟨g4, 0, none⟩ = some (.slice A0_0 l0_0.length c0_0) := Bks.cell HS.out (i := 0) rfl 0 rfl; have f_g4 : ∀ j : Nat, wg10.frozen? ⟨g4, j, none⟩ = false := fun j => Bks.free HS.out (i := 0) rfl j; have c_g5_0 : wg10.cell? ⟨g5, 0, none⟩ = some (.slice A1_0 l1_0.length c1_0) := Bks.cell HS.out (i := 1) rfl 0 rfl; have f_g5 : ∀ j : Nat, wg10.frozen? ⟨g5, j, none⟩ = false := fun j => Bks.free HS.out (i := 1) rfl j; have c_g10_0 : wg10.cell? ⟨g10, 0, none⟩ = some (.slice none 0 0) := Bks.cell HS.out (i := 2) rfl 0 rfl; have f_g10 : ∀ j : Nat, wg10.frozen? ⟨g10, j, none⟩ = false := fun j => Bks.free HS.out (i := 2) rfl j; have ne_g4_g5 : g4 ≠ g5 := Bks.ne HS.out 0 1 _ _ rfl rfl (by decide); have ne_g4_g10 : g4 ≠ g10 := Bks.ne HS.out 0 2 _ _ rfl rfl (by decide); have ne_g5_g4 : g5 ≠ g4 := Bks.ne HS.out 1 0 _ _ rfl rfl (by decide); have ne_g5_g10 : g5 ≠ g10 := Bks.ne HS.out 1 2 _ _ rfl rfl (by decide); have ne_g10_g4 : g10 ≠ g4 := Bks.ne HS.out 2 0 _ _ rfl rfl (by decide); have ne_g10_g5 : g10 ≠ g5 := Bks.ne HS.out 2 1 _ _ rfl rfl (by decide)))
    have n_ := Aside0.mk (show Bks w (wg10.setCell ⟨g10, 0, none⟩ (.slice A1 n1 k1)) [(g4, #[.slice A0_0 l0_0.length c0_0], 24), (g5, #[.slice A1_0 l1_0.length c1_0], 24), (g10, #[.slice A1 n1 k1], 24)] from (Bks.set HS.out (i := 2) rfl 0 (.slice A1 n1 k1)))
    have m_ := Aside0.mk (show Rws w (wg10.setCell ⟨g10, 0, none⟩ (.slice A1 n1 k1)) [] from (Rws.set HR.out HS.out (i := 2) rfl (by decide) 0 (.slice A1 n1 k1)))
    clear HS HR
    clear c_g4_0 f_g4 c_g5_0 f_g5 c_g10_0 f_g10 ne_g4_g5 ne_g4_g10 ne_g5_g4 ne_g5_g10 ne_g10_g4 ne_g10_g5
    generalize (wg10.setCell ⟨g10, 0, none⟩ (.slice A1 n1 k1)) = w2 at n_ m_ ⊢
    have HS := n_
    have HR := m_
    clear n_ m_
    have c_g4_0 : w2.cell? ⟨g4, 0, none⟩ = some (.slice A0_0 l0_0.length c0_0) := Bks.cell HS.out (i := 0) rfl 0 rfl
    have f_g4 : ∀ j : Nat, w2.frozen? ⟨g4, j, none⟩ = false := fun j => Bks.free HS.out (i := 0) rfl j
    have c_g5_0 : w2.cell? ⟨g5, 0, none⟩ = some (.slice A1_0 l1_0.length c1_0) := Bks.cell HS.out (i := 1) rfl 0 rfl
    have f_g5 : ∀ j : Nat, w2.frozen? ⟨g5, j, none⟩ = false := fun j => Bks.free HS.out (i := 1) rfl j
    have c_g10_0 : w2.cell? ⟨g10, 0, none⟩ = some (.slice A1 n1 k1) := Bks.cell HS.out (i := 2) rfl 0 rfl
    have f_g10 : ∀ j : Nat, w2.frozen? ⟨g10, j, none⟩ = false := fun j => Bks.free HS.out (i := 2) rfl j
    have ne_g4_g5 : g4 ≠ g5 := Bks.ne HS.out 0 1 _ _ rfl rfl (by decide)
    have ne_g4_g10 : g4 ≠ g10 := Bks.ne HS.out 0 2 _ _ rfl rfl (by decide)
    have ne_g5_g4 : g5 ≠ g4 := Bks.ne HS.out 1 0 _ _ rfl rfl (by decide)
    have ne_g5_g10 : g5 ≠ g10 := Bks.ne HS.out 1 2 _ _ rfl rfl (by decide)
    have ne_g10_g4 : g10 ≠ g4 := Bks.ne HS.out 2 0 _ _ rfl rfl (by decide)
    have ne_g10_g5 : g10 ≠ g5 := Bks.ne HS.out 2 1 _ _ rfl rfl (by decide)
    go_upto_region 3 with (first | (go_at_call 86; (with_reducible refine (HD2.out _ HS.out.below).mono ?_); rintro e wd2 ⟨A2, n2, k2, o2, rfl, hb⟩; rw [D2.out]; have n_ := Aside0.mk (show Bks w wd2 [(g4, #[.slice A0_0 l0_0.length c0_0], 24), (g5, #[.slice A1_0 l1_0.length c1_0], 24), (g10, #[.slice A1 n1 k1], 24)] from Bks.step HS.out hb); have m_ := Aside0.mk (show Rws w wd2 [] from Rws.step HR.out hb); clear HS HR; clear c_g4_0 f_g4 c_g5_0 f_g5 c_g10_0 f_g10 ne_g4_g5 ne_g4_g10 ne_g5_g4 ne_g5_g10 ne_g10_g4 ne_g10_g5; have HS := n_; have HR := m_; clear n_ m_; clear hb; have c_g4_0 : wd2.cell? ⟨g4, 0, none⟩ = some (.slice A0_0 l0_0.length c0_0) := Bks.cell HS.out (i := 0) rfl 0 rfl; have f_g4 : ∀ j : Nat, wd2.frozen? ⟨g4, j, none⟩ = false := fun j => Bks.free HS.out (i := 0) rfl j; have c_g5_0 : wd2.cell? ⟨g5, 0, none⟩ = some (.slice A1_0 l1_0.length c1_0) := Bks.cell HS.out (i := 1) rfl 0 rfl; have f_g5 : ∀ j : Nat, wd2.frozen? ⟨g5, j, none⟩ = false := fun j => Bks.free HS.out (i := 1) rfl j; have c_g10_0 : wd2.cell? ⟨g10, 0, none⟩ = some (.slice A1 n1 k1) := Bks.cell HS.out (i := 2) rfl 0 rfl; have f_g10 : ∀ j : Nat, wd2.frozen? ⟨g10, j, none⟩ = false := fun j => Bks.free HS.out (i := 2) rfl j; have ne_g4_g5 : g4 ≠ g5 := Bks.ne HS.out 0 1 _ _ rfl rfl (by decide); have ne_g4_g10 : g4 ≠ g10 := Bks.ne HS.out 0 2 _ _ rfl rfl (by decide); have ne_g5_g4 : g5 ≠ g4 := Bks.ne HS.out 1 0 _ _ rfl rfl (by decide); have ne_g5_g10 : g5 ≠ g10 := Bks.ne HS.out 1 2 _ _ rfl rfl (by decide); have ne_g10_g4 : g10 ≠ g4 := Bks.ne HS.out 2 0 _ _ rfl rfl (by decide); have ne_g10_g5 : g10 ≠ g5 := Bks.ne HS.out 2 1 _ _ rfl rfl (by decide)) | ((with_reducible refine gate_dst (N := 13) rfl ?_); refine box_event ?hg (N := 13) ?hd (cs := #[.slice none 0 0]) (t := 24) ?hr ?_; (case hd => rfl); (case hg => rfl); (case hr => first | (go_simp; done) | (go_simp; rfl)); intro g13 hg13 wg13 xg13 bg13; have n_ := Aside0.mk (show Bks w wg13 [(g4, #[.slice A0_0 l0_0.length c0_0], 24), (g5, #[.slice A1_0 l1_0.length c1_0], 24), (g10, #[.slice A1 n1 k1], 24), (g13, #[.slice none 0 0], 24)] from Bks.new HS.out hg13 xg13 bg13); have m_ := Aside0.mk (show Rws w wg13 [] from Rws.step HR.out bg13); clear HS HR; clear c_g4_0 f_g4 c_g5_0 f_g5 c_g10_0 f_g10 ne_g4_g5 ne_g4_g10 ne_g5_g4 ne_g5_g10 ne_g10_g4 ne_g10_g5; have HS := n_; have HR := m_; clear n_ m_; clear hg13 xg13 bg13; have c_g4_0 : wg13.cell? ⟨g4, 0, none⟩ = some (.slice A0_0 l0_0.length c0_0) := Bks.cell HS.out (i := 0) rfl 0 rfl; have f_g4 : ∀ j : Nat, wg13.frozen? ⟨g4, j, none⟩ = false := fun j => Bks.free HS.out (i := 0) rfl j; have c_g5_0 : wg13.cell? ⟨g5, 0, none⟩ = some (.slice A1_0 l1_0.length c1_0) := Bks.cell HS.out (i := 1) rfl 0 rfl; have f_g5 : ∀ j : Nat, wg13.frozen? ⟨g5, j, none⟩ = false := fun j => Bks.free HS.out (i := 1) rfl j; have c_g10_0 : wg13.cell? ⟨g10, 0, none⟩ = some (.slice A1 n1 k1) := Bks.cell HS.out (i := 2) rfl 0 rfl; have f_g10 : ∀ j : Nat, wg13.frozen? ⟨g10, j, none⟩ = false := fun j => Bks.free HS.out (i := 2) rfl j; have c_g13_0 : wg13.cell? ⟨g13, 0, none⟩ = some (.slice none 0 0) := Bks.cell HS.out (i := 3) rfl 0 rfl; have f_g13 : ∀ j : Nat, wg13.frozen? ⟨g13, j, none⟩ = false := fun j => Bks.free HS.out (i := 3) rfl j; have ne_g4_g5 : g4 ≠ g5 := Bks.ne HS.out 0 1 _ _ rfl rfl (by decide); have ne_g4_g10 : g4 ≠ g10 := Bks.ne HS.out 0 2 _ _ rfl rfl (by decide); have ne_g4_g13 : g4 ≠ g13 := Bks.ne HS.out 0 3 _ _ rfl rfl (by decide); have ne_g5_g4 : g5 ≠ g4 := Bks.ne HS.out 1 0 _ _ rfl rfl (by decide); have ne_g5_g10 : g5 ≠ g10 := Bks.ne HS.out 1 2 _ _ rfl rfl (by decide); have ne_g5_g13 : g5 ≠ g13 := Bks.ne HS.out 1 3 _ _ rfl rfl (by decide); have ne_g10_g4 : g10 ≠ g4 := Bks.ne HS.out 2 0 _ _ rfl rfl (by decide); have ne_g10_g5 : g10 ≠ g5 := Bks.ne HS.out 2 1 _ _ rfl rfl (by decide); have ne_g10_g13 : g10 ≠ g13 := Bks.ne HS.out 2 3 _ _ rfl rfl (by decide); have ne_g13_g4 : g13 ≠ g4 := Bks.ne HS.out 3 0 _ _ rfl rfl (by decide); have ne_g13_g5 : g13 ≠ g5 := Bks.ne HS.out 3 1 _ _ rfl rfl (by decide); have ne_g13_g10 : g13 ≠ g10 := Bks.ne HS.out 3 2 _ _ rfl rfl (by decide)))
    have n_ := Aside0.mk (show Bks w (wg13.setCell ⟨g13, 0, none⟩ (.slice A2 n2 k2)) [(g4, #[.slice A0_0 l0_0.length c0_0], 24), (g5, #[.slice A1_0 l1_0.length c1_0], 24), (g10, #[.slice A1 n1 k1], 24), (g13, #[.slice A2 n2 k2], 24)] from (Bks.set HS.out (i := 3) rfl 0 (.slice A2 n2 k2)))
    have m_ := Aside0.mk (show Rws w (wg13.setCell ⟨g13, 0, none⟩ (.slice A2 n2 k2)) [] from (Rws.set HR.out HS.out (i := 3) rfl (by decide) 0 (.slice A2 n2 k2)))
    clear HS HR
    clear c_g4_0 f_g4 c_g5_0 f_g5 c_g10_0 f_g10 c_g13_0 f_g13 ne_g4_g5 ne_g4_g10 ne_g4_g13 ne_g5_g4 ne_g5_g10 ne_g5_g13 ne_g10_g4 ne_g10_g5 ne_g10_g13 ne_g13_g4 ne_g13_g5 ne_g13_g10
    generalize (wg13.setCell ⟨g13, 0, none⟩ (.slice A2 n2 k2)) = w3 at n_ m_ ⊢
    have HS := n_
    have HR := m_
    clear n_ m_
    have c_g4_0 : w3.cell? ⟨g4, 0, none⟩ = some (.slice A0_0 l0_0.length c0_0) := Bks.cell HS.out (i := 0) rfl 0 rfl
    have f_g4 : ∀ j : Nat, w3.frozen? ⟨g4, j, none⟩ = false := fun j => Bks.free HS.out (i := 0) rfl j
    have c_g5_0 : w3.cell? ⟨g5, 0, none⟩ = some (.slice A1_0 l1_0.length c1_0) := Bks.cell HS.out (i := 1) rfl 0 rfl
    have f_g5 : ∀ j : Nat, w3.frozen? ⟨g5, j, none⟩ = false := fun j => Bks.free HS.out (i := 1) rfl j
    have c_g10_0 : w3.cell? ⟨g10, 0, none⟩ = some (.slice A1 n1 k1) := Bks.cell HS.out (i := 2) rfl 0 rfl
    have f_g10 : ∀ j : Nat, w3.frozen? ⟨g10, j, none⟩ = false := fun j => Bks.free HS.out (i := 2) rfl j
    have c_g13_0 : w3.cell? ⟨g13, 0, none⟩ = some (.slice A2 n2 k2) := Bks.cell HS.out (i := 3) rfl 0 rfl
    have f_g13 : ∀ j : Nat, w3.frozen? ⟨g13, j, none⟩ = false := fun j => Bks.free HS.out (i := 3) rfl j
    have ne_g4_g5 : g4 ≠ g5 := Bks.ne HS.out 0 1 _ _ rfl rfl (by decide)
    have ne_g4_g10 : g4 ≠ g10 := Bks.ne HS.out 0 2 _ _ rfl rfl (by decide)
    have ne_g4_g13 : g4 ≠ g13 := Bks.ne HS.out 0 3 _ _ rfl rfl (by decide)
    have ne_g5_g4 : g5 ≠ g4 := Bks.ne HS.out 1 0 _ _ rfl rfl (by decide)
    have ne_g5_g10 : g5 ≠ g10 := Bks.ne HS.out 1 2 _ _ rfl rfl (by decide)
    have ne_g5_g13 : g5 ≠ g13 := Bks.ne HS.out 1 3 _ _ rfl rfl (by decide)
    have ne_g10_g4 : g10 ≠ g4 := Bks.ne HS.out 2 0 _ _ rfl rfl (by decide)
    have ne_g10_g5 : g10 ≠ g5 := Bks.ne HS.out 2 1 _ _ rfl rfl (by decide)
    have ne_g10_g13 : g10 ≠ g13 := Bks.ne HS.out 2 3 _ _ rfl rfl (by decide)
    have ne_g13_g4 : g13 ≠ g4 := Bks.ne HS.out 3 0 _ _ rfl rfl (by decide)
    have ne_g13_g5 : g13 ≠ g5 := Bks.ne HS.out 3 1 _ _ rfl rfl (by decide)
    have ne_g13_g10 : g13 ≠ g10 := Bks.ne HS.out 3 2 _ _ rfl rfl (by decide)
    go_wp2_with (first | (go_at_call 71; (with_reducible refine (HSH.out _ HS.out.below).mono ?_); rintro e w4 ⟨rfl, hb⟩; rw [D3.out]; have n_ := Aside0.mk (show Bks w w4 [(g4, #[.slice A0_0 l0_0.length c0_0], 24), (g5, #[.slice A1_0 l1_0.length c1_0], 24), (g10, #[.slice A1 n1 k1], 24), (g13, #[.slice A2 n2 k2], 24)] from Bks.step HS.out hb); have m_ := Aside0.mk (show Rws w w4 [] from Rws.step HR.out hb); clear HS HR; clear c_g4_0 f_g4 c_g5_0 f_g5 c_g10_0 f_g10 c_g13_0 f_g13 ne_g4_g5 ne_g4_g10 ne_g4_g13 ne_g5_g4 ne_g5_g10 ne_g5_g13 ne_g10_g4 ne_g10_g5 ne_g10_g13 ne_g13_g4 ne_g13_g5 ne_g13_g10; have HS := n_; have HR := m_; clear n_ m_; clear hb; have c_g4_0 : w4.cell? ⟨g4, 0, none⟩ = some (.slice A0_0 l0_0.length c0_0) := Bks.cell HS.out (i := 0) rfl 0 rfl; have f_g4 : ∀ j : Nat, w4.frozen? ⟨g4, j, none⟩ = false := fun j => Bks.free HS.out (i := 0) rfl j; have c_g5_0 : w4.cell? ⟨g5, 0, none⟩ = some (.slice A1_0 l1_0.length c1_0) := Bks.cell HS.out (i := 1) rfl 0 rfl; have f_g5 : ∀ j : Nat, w4.frozen? ⟨g5, j, none⟩ = false := fun j => Bks.free HS.out (i := 1) rfl j; have c_g10_0 : w4.cell? ⟨g10, 0, none⟩ = some (.slice A1 n1 k1) := Bks.cell HS.out (i := 2) rfl 0 rfl; have f_g10 : ∀ j : Nat, w4.frozen? ⟨g10, j, none⟩ = false := fun j => Bks.free HS.out (i := 2) rfl j; have c_g13_0 : w4.cell? ⟨g13, 0, none⟩ = some (.slice A2 n2 k2) := Bks.cell HS.out (i := 3) rfl 0 rfl; have f_g13 : ∀ j : Nat, w4.frozen? ⟨g13, j, none⟩ = false := fun j => Bks.free HS.out (i := 3) rfl j; have ne_g4_g5 : g4 ≠ g5 := Bks.ne HS.out 0 1 _ _ rfl rfl (by decide); have ne_g4_g10 : g4 ≠ g10 := Bks.ne HS.out 0 2 _ _ rfl rfl (by decide); have ne_g4_g13 : g4 ≠ g13 := Bks.ne HS.out 0 3 _ _ rfl rfl (by decide); have ne_g5_g4 : g5 ≠ g4 := Bks.ne HS.out 1 0 _ _ rfl rfl (by decide); have ne_g5_g10 : g5 ≠ g10 := Bks.ne HS.out 1 2 _ _ rfl rfl (by decide); have ne_g5_g13 : g5 ≠ g13 := Bks.ne HS.out 1 3 _ _ rfl rfl (by decide); have ne_g10_g4 : g10 ≠ g4 := Bks.ne HS.out 2 0 _ _ rfl rfl (by decide); have ne_g10_g5 : g10 ≠ g5 := Bks.ne HS.out 2 1 _ _ rfl rfl (by decide); have ne_g10_g13 : g10 ≠ g13 := Bks.ne HS.out 2 3 _ _ rfl rfl (by decide); have ne_g13_g4 : g13 ≠ g4 := Bks.ne HS.out 3 0 _ _ rfl rfl (by decide); have ne_g13_g5 : g13 ≠ g5 := Bks.ne HS.out 3 1 _ _ rfl rfl (by decide); have ne_g13_g10 : g13 ≠ g10 := Bks.ne HS.out 3 2 _ _ rfl rfl (by decide)))
    go_ret2
    exact ⟨_, rfl, Kd.R_nil _ _ _ _ _, HS.out.below⟩
  rw [if_pos d3] at H
  have D3 := Aside0.mk d3
  clear d3
  obtain ⟨y0, hy0⟩ : ∃ y, y = l0_0.drop 1 := ⟨_, rfl⟩
  obtain ⟨y, hy⟩ : ∃ y, y = l1_0.drop 1 := ⟨_, rfl⟩
  obtain ⟨x0, hx0⟩ : ∃ x, x = rd_T107 l0_0 0 := ⟨_, rfl⟩
  obtain ⟨x, hx⟩ : ∃ x, x = rd_T107 l1_0 0 := ⟨_, rfl⟩
  unfold relate_Again.fin at H
  rw [← hy0, ← hy, ← hx0, ← hx] at H
  have HH := Aside0.mk H
  have N0 := Aside0.mk hy0
  have NY := Aside0.mk hy
  have NX0 := Aside0.mk hx0
  have NX := Aside0.mk hx
  have C8 := Aside0.mk (drf_yes D2.out).1
  have L0 := Aside0.mk (show y0.length < 1000000000 by have := C1.out; rw [hy0, List.length_drop]; omega)
  have LE := Aside0.mk (show y0.length = y.length by have := shp_eq D3.out; rw [hy0, hy, List.length_drop, List.length_drop]; omega)
  clear H hy0 hy hx0 hx
  obtain ⟨R, hR⟩ : ∃ R, R = [(⟨x0.f0, a2, 3, 0, false⟩ : S35)] ++ [(⟨a2, x.f0, 2, 0, false⟩ : S35)] ++ slx 1 1 y0 y 0 := ⟨_, rfl⟩
  have NR := Aside0.mk hR
  clear hR
  go_enter Try.func53, Try.ntmps53
  go_upto_region 2 with (first | ((with_reducible refine gate_dst (N := 4) rfl ?_); refine box_event ?hg (N := 4) ?hd (cs := #[.slice A0_0 l0_0.length c0_0]) (t := 24) ?hr ?_; (case hd => rfl); (case hg => rfl); (case hr => first | (go_simp; done) | (go_simp; rfl)); intro g4 hg4 wg4 xg4 bg4; have n_ := Aside0.mk (show Bks w wg4 [(g4, #[.slice A0_0 l0_0.length c0_0], 24)] from Bks.new HS.out hg4 xg4 bg4); have m_ := Aside0.mk (show Rws w wg4 [] from Rws.step HR.out bg4); clear HS HR; have HS := n_; have HR := m_; clear n_ m_; clear hg4 xg4 bg4; have c_g4_0 : wg4.cell? ⟨g4, 0, none⟩ = some (.slice A0_0 l0_0.length c0_0) := Bks.cell HS.out (i := 0) rfl 0 rfl; have f_g4 : ∀ j : Nat, wg4.frozen? ⟨g4, j, none⟩ = false := fun j => Bks.free HS.out (i := 0) rfl j) | ((with_reducible refine gate_dst (N := 5) rfl ?_); refine box_event ?hg (N := 5) ?hd (cs := #[.slice A1_0 l1_0.length c1_0]) (t := 24) ?hr ?_; (case hd => rfl); (case hg => rfl); (case hr => first | (go_simp; done) | (go_simp; rfl)); intro g5 hg5 wg5 xg5 bg5; have n_ := Aside0.mk (show Bks w wg5 [(g4, #[.slice A0_0 l0_0.length c0_0], 24), (g5, #[.slice A1_0 l1_0.length c1_0], 24)] from Bks.new HS.out hg5 xg5 bg5); have m_ := Aside0.mk (show Rws w wg5 [] from Rws.step HR.out bg5); clear HS HR; clear c_g4_0 f_g4; have HS := n_; have HR := m_; clear n_ m_; clear hg5 xg5 bg5; have c_g4_0 : wg5.cell? ⟨g4, 0, none⟩ = some (.slice A0_0 l0_0.length c0_0) := Bks.cell HS.out (i := 0) rfl 0 rfl; have f_g4 : ∀ j : Nat, wg5.frozen? ⟨g4, j, none⟩ = false := fun j => Bks.free HS.out (i := 0) rfl j; have c_g5_0 : wg5.cell? ⟨g5, 0, none⟩ = some (.slice A1_0 l1_0.length c1_0) := Bks.cell HS.out (i := 1) rfl 0 rfl; have f_g5 : ∀ j : Nat, wg5.frozen? ⟨g5, j, none⟩ = false := fun j => Bks.free HS.out (i := 1) rfl j; have ne_g4_g5 : g4 ≠ g5 := Bks.ne HS.out 0 1 _ _ rfl rfl (by decide); have ne_g5_g4 : g5 ≠ g4 := Bks.ne HS.out 1 0 _ _ rfl rfl (by decide)) | (go_at_call 86; (with_reducible refine (HY1.out D1.out _ HS.out.below).mono ?_); rintro e wd1 ⟨A1, k1, rfl, ho, hb⟩; rw [← N0.out] at ho; rw [← N0.out, ← NX0.out]; have HO := Aside0.mk (Kd.R_lower ho HS.out.below.size); clear ho HY1; have n_ := Aside0.mk (show Bks w wd1 [(g4, #[.slice A0_0 l0_0.length c0_0], 24), (g5, #[.slice A1_0 l1_0.length c1_0], 24)] from Bks.step HS.out hb); have m_ := Aside0.mk (show Rws w wd1 [] from Rws.step HR.out hb); clear HS HR; clear c_g4_0 f_g4 c_g5_0 f_g5 ne_g4_g5 ne_g5_g4; have HS := n_; have HR := m_; clear n_ m_; clear hb; have c_g4_0 : wd1.cell? ⟨g4, 0, none⟩ = some (.slice A0_0 l0_0.length c0_0) := Bks.cell HS.out (i := 0) rfl 0 rfl; have f_g4 : ∀ j : Nat, wd1.frozen? ⟨g4, j, none⟩ = false := fun j => Bks.free HS.out (i := 0) rfl j; have c_g5_0 : wd1.cell? ⟨g5, 0, none⟩ = some (.slice A1_0 l1_0.length c1_0) := Bks.cell HS.out (i := 1) rfl 0 rfl; have f_g5 : ∀ j : Nat, wd1.frozen? ⟨g5, j, none⟩ = false := fun j => Bks.free HS.out (i := 1) rfl j; have ne_g4_g5 : g4 ≠ g5 := Bks.ne HS.out 0 1 _ _ rfl rfl (by decide); have ne_g5_g4 : g5 ≠ g4 := Bks.ne HS.out 1 0 _ _ rfl rfl (by decide)) | ((with_reducible refine gate_dst (N := 10) rfl ?_); refine box_event ?hg (N := 10) ?hd (cs := #[.slice none 0 0]) (t := 24) ?hr ?_; (case hd => rfl); (case hg => rfl); (case hr => first | (go_simp; done) | (go_simp; rfl)); intro g10 hg10 wg10 xg10 bg10; have o_ := Aside0.mk (show Kd.R k107 107 wg10 w.heap.size (fun _ => True) (.slice A1 y0.length k1) y0 from Kd.R_below HO.out bg10); clear HO; have HO := o_; clear o_; have n_ := Aside0.mk (show Bks w wg10 [(g4, #[.slice A0_0 l0_0.length c0_0], 24), (g5, #[.slice A1_0 l1_0.length c1_0], 24), (g10, #[.slice none 0 0], 24)] from Bks.new HS.out hg10 xg10 bg10); have m_ := Aside0.mk (show Rws w wg10 [] from Rws.step HR.out bg10); clear HS HR; clear c_g4_0 f_g4 c_g5_0 f_g5 ne_g4_g5 ne_g5_g4; have HS := n_; have HR := m_; clear n_ m_; clear hg10 xg10 bg10; have c_g4_0 : wg10.cell? ⟨g4, 0, none⟩ = some (.slice A0_0 l0_0.length c0_0) := Bks.cell HS.out (i := 0) rfl 0 rfl; have f_g4 : ∀ j : Nat, wg10.frozen? ⟨g4, j, none⟩ = false := fun j => Bks.free HS.out (i := 0) rfl j; have c_g5_0 : wg10.cell? ⟨g5, 0, none⟩ = some (.slice A1_0 l1_0.length c1_0) := Bks.cell HS.out (i := 1) rfl 0 rfl; have f_g5 : ∀ j : Nat, wg10.frozen? ⟨g5, j, none⟩ = false := fun j => Bks.free HS.out (i := 1) rfl j; have c_g10_0 : wg10.cell? ⟨g10, 0, none⟩ = some (.slice none 0 0) := Bks.cell HS.out (i := 2) rfl 0 rfl; have f_g10 : ∀ j : Nat, wg10.frozen? ⟨g10, j, none⟩ = false := fun j => Bks.free HS.out (i := 2) rfl j; have ne_g4_g5 : g4 ≠ g5 := Bks.ne HS.out 0 1 _ _ rfl rfl (by decide); have ne_g4_g10 : g4 ≠ g10 := Bks.ne HS.out 0 2 _ _ rfl rfl (by decide); have ne_g5_g4 : g5 ≠ g4 := Bks.ne HS.out 1 0 _ _ rfl rfl (by decide); have ne_g5_g10 : g5 ≠ g10 := Bks.ne HS.out 1 2 _ _ rfl rfl (by decide); have ne_g10_g4 : g10 ≠ g4 := Bks.ne HS.out 2 0 _ _ rfl rfl (by decide); have ne_g10_g5 : g10 ≠ g5 := Bks.ne HS.out 2 1 _ _ rfl rfl (by decide)))
  have o_ := Aside0.mk (show Kd.R k107 107 (wg10.setCell ⟨g10, 0, none⟩ (.slice A1 y0.length k1)) w.heap.size (fun _ => True) (.slice A1 y0.length k1) y0 from (Kd.R_set HO.out ((HS.out).at_ 2 _ _ _ rfl).1 (by decide) 0 (.slice A1 y0.length k1)))
  clear HO
  have HO := o_
  clear o_
  have n_ := Aside0.mk (show Bks w (wg10.setCell ⟨g10, 0, none⟩ (.slice A1 y0.length k1)) [(g4, #[.slice A0_0 l0_0.length c0_0], 24), (g5, #[.slice A1_0 l1_0.length c1_0], 24), (g10, #[.slice A1 y0.length k1], 24)] from (Bks.set HS.out (i := 2) rfl 0 (.slice A1 y0.length k1)))
  have m_ := Aside0.mk (show Rws w (wg10.setCell ⟨g10, 0, none⟩ (.slice A1 y0.length k1)) [] from (Rws.set HR.out HS.out (i := 2) rfl (by decide) 0 (.slice A1 y0.length k1)))
  clear HS HR
  clear c_g4_0 f_g4 c_g5_0 f_g5 c_g10_0 f_g10 ne_g4_g5 ne_g4_g10 ne_g5_g4 ne_g5_g10 ne_g10_g4 ne_g10_g5
  generalize (wg10.setCell ⟨g10, 0, none⟩ (.slice A1 y0.length k1)) = w2 at n_ m_ HO ⊢
  have HS := n_
  have HR := m_
  clear n_ m_
  have c_g4_0 : w2.cell? ⟨g4, 0, none⟩ = some (.slice A0_0 l0_0.length c0_0) := Bks.cell HS.out (i := 0) rfl 0 rfl
  have f_g4 : ∀ j : Nat, w2.frozen? ⟨g4, j, none⟩ = false := fun j => Bks.free HS.out (i := 0) rfl j
  have c_g5_0 : w2.cell? ⟨g5, 0, none⟩ = some (.slice A1_0 l1_0.length c1_0) := Bks.cell HS.out (i := 1) rfl 0 rfl
  have f_g5 : ∀ j : Nat, w2.frozen? ⟨g5, j, none⟩ = false := fun j => Bks.free HS.out (i := 1) rfl j
  have c_g10_0 : w2.cell? ⟨g10, 0, none⟩ = some (.slice A1 y0.length k1) := Bks.cell HS.out (i := 2) rfl 0 rfl
  have f_g10 : ∀ j : Nat, w2.frozen? ⟨g10, j, none⟩ = false := fun j => Bks.free HS.out (i := 2) rfl j
  have ne_g4_g5 : g4 ≠ g5 := Bks.ne HS.out 0 1 _ _ rfl rfl (by decide)
  have ne_g4_g10 : g4 ≠ g10 := Bks.ne HS.out 0 2 _ _ rfl rfl (by decide)
  have ne_g5_g4 : g5 ≠ g4 := Bks.ne HS.out 1 0 _ _ rfl rfl (by decide)
  have ne_g5_g10 : g5 ≠ g10 := Bks.ne HS.out 1 2 _ _ rfl rfl (by decide)
  have ne_g10_g4 : g10 ≠ g4 := Bks.ne HS.out 2 0 _ _ rfl rfl (by decide)
  have ne_g10_g5 : g10 ≠ g5 := Bks.ne HS.out 2 1 _ _ rfl rfl (by decide)
  go_upto_region 3 with (first | (go_at_call 86; (with_reducible refine (HD2.out _ HS.out.below).mono ?_); rintro e wd2 ⟨A2, n2, k2, o2, rfl, hb⟩; rw [D2.out]; have o_ := Aside0.mk (show Kd.R k107 107 wd2 w.heap.size (fun _ => True) (.slice A1 y0.length k1) y0 from Kd.R_below HO.out hb); clear HO; have HO := o_; clear o_; have n_ := Aside0.mk (show Bks w wd2 [(g4, #[.slice A0_0 l0_0.length c0_0], 24), (g5, #[.slice A1_0 l1_0.length c1_0], 24), (g10, #[.slice A1 y0.length k1], 24)] from Bks.step HS.out hb); have m_ := Aside0.mk (show Rws w wd2 [] from Rws.step HR.out hb); clear HS HR; clear c_g4_0 f_g4 c_g5_0 f_g5 c_g10_0 f_g10 ne_g4_g5 ne_g4_g10 ne_g5_g4 ne_g5_g10 ne_g10_g4 ne_g10_g5; have HS := n_; have HR := m_; clear n_ m_; clear hb; have c_g4_0 : wd2.cell? ⟨g4, 0, none⟩ = some (.slice A0_0 l0_0.length c0_0) := Bks.cell HS.out (i := 0) rfl 0 rfl; have f_g4 : ∀ j : Nat, wd2.frozen? ⟨g4, j, none⟩ = false := fun j => Bks.free HS.out (i := 0) rfl j; have c_g5_0 : wd2.cell? ⟨g5, 0, none⟩ = some (.slice A1_0 l1_0.length c1_0) := Bks.cell HS.out (i := 1) rfl 0 rfl; have f_g5 : ∀ j : Nat, wd2.frozen? ⟨g5, j, none⟩ = false := fun j => Bks.free HS.out (i := 1) rfl j; have c_g10_0 : wd2.cell? ⟨g10, 0, none⟩ = some (.slice A1 y0.length k1) := Bks.cell HS.out (i := 2) rfl 0 rfl; have f_g10 : ∀ j : Nat, wd2.frozen? ⟨g10, j, none⟩ = false := fun j => Bks.free HS.out (i := 2) rfl j; have ne_g4_g5 : g4 ≠ g5 := Bks.ne HS.out 0 1 _ _ rfl rfl (by decide); have ne_g4_g10 : g4 ≠ g10 := Bks.ne HS.out 0 2 _ _ rfl rfl (by decide); have ne_g5_g4 : g5 ≠ g4 := Bks.ne HS.out 1 0 _ _ rfl rfl (by decide); have ne_g5_g10 : g5 ≠ g10 := Bks.ne HS.out 1 2 _ _ rfl rfl (by decide); have ne_g10_g4 : g10 ≠ g4 := Bks.ne HS.out 2 0 _ _ rfl rfl (by decide); have ne_g10_g5 : g10 ≠ g5 := Bks.ne HS.out 2 1 _ _ rfl rfl (by decide)) | ((with_reducible refine gate_dst (N := 13) rfl ?_); refine box_event ?hg (N := 13) ?hd (cs := #[.slice none 0 0]) (t := 24) ?hr ?_; (case hd => rfl); (case hg => rfl); (case hr => first | (go_simp; done) | (go_simp; rfl)); intro g13 hg13 wg13 xg13 bg13; have o_ := Aside0.mk (show Kd.R k107 107 wg13 w.heap.size (fun _ => True) (.slice A1 y0.length k1) y0 from Kd.R_below HO.out bg13); clear HO; have HO := o_; clear o_; have n_ := Aside0.mk (show Bks w wg13 [(g4, #[.slice A0_0 l0_0.length c0_0], 24), (g5, #[.slice A1_0 l1_0.length c1_0], 24), (g10, #[.slice A1 y0.length k1], 24), (g13, #[.slice none 0 0], 24)] from Bks.new HS.out hg13 xg13 bg13); have m_ := Aside0.mk (show Rws w wg13 [] from Rws.step HR.out bg13); clear HS HR; clear c_g4_0 f_g4 c_g5_0 f_g5 c_g10_0 f_g10 ne_g4_g5 ne_g4_g10 ne_g5_g4 ne_g5_g10 ne_g10_g4 ne_g10_g5; have HS := n_; have HR := m_; clear n_ m_; clear hg13 xg13 bg13; have c_g4_0 : wg13.cell? ⟨g4, 0, none⟩ = some (.slice A0_0 l0_0.length c0_0) := Bks.cell HS.out (i := 0) rfl 0 rfl; have f_g4 : ∀ j : Nat, wg13.frozen? ⟨g4, j, none⟩ = false := fun j => Bks.free HS.out (i := 0) rfl j; have c_g5_0 : wg13.cell? ⟨g5, 0, none⟩ = some (.slice A1_0 l1_0.length c1_0) := Bks.cell HS.out (i := 1) rfl 0 rfl; have f_g5 : ∀ j : Nat, wg13.frozen? ⟨g5, j, none⟩ = false := fun j => Bks.free HS.out (i := 1) rfl j; have c_g10_0 : wg13.cell? ⟨g10, 0, none⟩ = some (.slice A1 y0.length k1) := Bks.cell HS.out (i := 2) rfl 0 rfl; have f_g10 : ∀ j : Nat, wg13.frozen? ⟨g10, j, none⟩ = false := fun j => Bks.free HS.out (i := 2) rfl j; have c_g13_0 : wg13.cell? ⟨g13, 0, none⟩ = some (.slice none 0 0) := Bks.cell HS.out (i := 3) rfl 0 rfl; have f_g13 : ∀ j : Nat, wg13.frozen? ⟨g13, j, none⟩ = false := fun j => Bks.free HS.out (i := 3) rfl j; have ne_g4_g5 : g4 ≠ g5 := Bks.ne HS.out 0 1 _ _ rfl rfl (by decide); have ne_g4_g10 : g4 ≠ g10 := Bks.ne HS.out 0 2 _ _ rfl rfl (by decide); have ne_g4_g13 : g4 ≠ g13 := Bks.ne HS.out 0 3 _ _ rfl rfl (by decide); have ne_g5_g4 : g5 ≠ g4 := Bks.ne HS.out 1 0 _ _ rfl rfl (by decide); have ne_g5_g10 : g5 ≠ g10 := Bks.ne HS.out 1 2 _ _ rfl rfl (by decide); have ne_g5_g13 : g5 ≠ g13 := Bks.ne HS.out 1 3 _ _ rfl rfl (by decide); have ne_g10_g4 : g10 ≠ g4 := Bks.ne HS.out 2 0 _ _ rfl rfl (by decide); have ne_g10_g5 : g10 ≠ g5 := Bks.ne HS.out 2 1 _ _ rfl rfl (by decide); have ne_g10_g13 : g10 ≠ g13 := Bks.ne HS.out 2 3 _ _ rfl rfl (by decide); have ne_g13_g4 : g13 ≠ g4 := Bks.ne HS.out 3 0 _ _ rfl rfl (by decide); have ne_g13_g5 : g13 ≠ g5 := Bks.ne HS.out 3 1 _ _ rfl rfl (by decide); have ne_g13_g10 : g13 ≠ g10 := Bks.ne HS.out 3 2 _ _ rfl rfl (by decide)))
  have o_ := Aside0.mk (show Kd.R k107 107 (wg13.setCell ⟨g13, 0, none⟩ (.slice A2 n2 k2)) w.heap.size (fun _ => True) (.slice A1 y0.length k1) y0 from (Kd.R_set HO.out ((HS.out).at_ 3 _ _ _ rfl).1 (by decide) 0 (.slice A2 n2 k2)))
  clear HO
  have HO := o_
  clear o_
  have n_ := Aside0.mk (show Bks w (wg13.setCell ⟨g13, 0, none⟩ (.slice A2 n2 k2)) [(g4, #[.slice A0_0 l0_0.length c0_0], 24), (g5, #[.slice A1_0 l1_0.length c1_0], 24), (g10, #[.slice A1 y0.length k1], 24), (g13, #[.slice A2 n2 k2], 24)] from (Bks.set HS.out (i := 3) rfl 0 (.slice A2 n2 k2)))
  have m_ := Aside0.mk (show Rws w (wg13.setCell ⟨g13, 0, none⟩ (.slice A2 n2 k2)) [] from (Rws.set HR.out HS.out (i := 3) rfl (by decide) 0 (.slice A2 n2 k2)))
  clear HS HR
  clear c_g4_0 f_g4 c_g5_0 f_g5 c_g10_0 f_g10 c_g13_0 f_g13 ne_g4_g5 ne_g4_g10 ne_g4_g13 ne_g5_g4 ne_g5_g10 ne_g5_g13 ne_g10_g4 ne_g10_g5 ne_g10_g13 ne_g13_g4 ne_g13_g5 ne_g13_g10
  generalize (wg13.setCell ⟨g13, 0, none⟩ (.slice A2 n2 k2)) = w3 at n_ m_ HO ⊢
  have HS := n_
  have HR := m_
  clear n_ m_
  have c_g4_0 : w3.cell? ⟨g4, 0, none⟩ = some (.slice A0_0 l0_0.length c0_0) := Bks.cell HS.out (i := 0) rfl 0 rfl
  have f_g4 : ∀ j : Nat, w3.frozen? ⟨g4, j, none⟩ = false := fun j => Bks.free HS.out (i := 0) rfl j
  have c_g5_0 : w3.cell? ⟨g5, 0, none⟩ = some (.slice A1_0 l1_0.length c1_0) := Bks.cell HS.out (i := 1) rfl 0 rfl
  have f_g5 : ∀ j : Nat, w3.frozen? ⟨g5, j, none⟩ = false := fun j => Bks.free HS.out (i := 1) rfl j
  have c_g10_0 : w3.cell? ⟨g10, 0, none⟩ = some (.slice A1 y0.length k1) := Bks.cell HS.out (i := 2) rfl 0 rfl
  have f_g10 : ∀ j : Nat, w3.frozen? ⟨g10, j, none⟩ = false := fun j => Bks.free HS.out (i := 2) rfl j
  have c_g13_0 : w3.cell? ⟨g13, 0, none⟩ = some (.slice A2 n2 k2) := Bks.cell HS.out (i := 3) rfl 0 rfl
  have f_g13 : ∀ j : Nat, w3.frozen? ⟨g13, j, none⟩ = false := fun j => Bks.free HS.out (i := 3) rfl j
  have ne_g4_g5 : g4 ≠ g5 := Bks.ne HS.out 0 1 _ _ rfl rfl (by decide)
  have ne_g4_g10 : g4 ≠ g10 := Bks.ne HS.out 0 2 _ _ rfl rfl (by decide)
  have ne_g4_g13 : g4 ≠ g13 := Bks.ne HS.out 0 3 _ _ rfl rfl (by decide)
  have ne_g5_g4 : g5 ≠ g4 := Bks.ne HS.out 1 0 _ _ rfl rfl (by decide)
  have ne_g5_g10 : g5 ≠ g10 := Bks.ne HS.out 1 2 _ _ rfl rfl (by decide)
  have ne_g5_g13 : g5 ≠ g13 := Bks.ne HS.out 1 3 _ _ rfl rfl (by decide)
  have ne_g10_g4 : g10 ≠ g4 := Bks.ne HS.out 2 0 _ _ rfl rfl (by decide)
  have ne_g10_g5 : g10 ≠ g5 := Bks.ne HS.out 2 1 _ _ rfl rfl (by decide)
  have ne_g10_g13 : g10 ≠ g13 := Bks.ne HS.out 2 3 _ _ rfl rfl (by decide)
  have ne_g13_g4 : g13 ≠ g4 := Bks.ne HS.out 3 0 _ _ rfl rfl (by decide)
  have ne_g13_g5 : g13 ≠ g5 := Bks.ne HS.out 3 1 _ _ rfl rfl (by decide)
  have ne_g13_g10 : g13 ≠ g10 := Bks.ne HS.out 3 2 _ _ rfl rfl (by decide)
  go_upto_region 5 with (first | (go_at_call 71; (with_reducible refine (HSH.out _ HS.out.below).mono ?_); rintro e w4 ⟨rfl, hb⟩; rw [D3.out]; have o_ := Aside0.mk (show Kd.R k107 107 w4 w.heap.size (fun _ => True) (.slice A1 y0.length k1) y0 from Kd.R_below HO.out hb); clear HO; have HO := o_; clear o_; have n_ := Aside0.mk (show Bks w w4 [(g4, #[.slice A0_0 l0_0.length c0_0], 24), (g5, #[.slice A1_0 l1_0.length c1_0], 24), (g10, #[.slice A1 y0.length k1], 24), (g13, #[.slice A2 n2 k2], 24)] from Bks.step HS.out hb); have m_ := Aside0.mk (show Rws w w4 [] from Rws.step HR.out hb); clear HS HR; clear c_g4_0 f_g4 c_g5_0 f_g5 c_g10_0 f_g10 c_g13_0 f_g13 ne_g4_g5 ne_g4_g10 ne_g4_g13 ne_g5_g4 ne_g5_g10 ne_g5_g13 ne_g10_g4 ne_g10_g5 ne_g10_g13 ne_g13_g4 ne_g13_g5 ne_g13_g10; have HS := n_; have HR := m_; clear n_ m_; clear hb; have c_g4_0 : w4.cell? ⟨g4, 0, none⟩ = some (.slice A0_0 l0_0.length c0_0) := Bks.cell HS.out (i := 0) rfl 0 rfl; have f_g4 : ∀ j : Nat, w4.frozen? ⟨g4, j, none⟩ = false := fun j => Bks.free HS.out (i := 0) rfl j; have c_g5_0 : w4.cell? ⟨g5, 0, none⟩ = some (.slice A1_0 l1_0.length c1_0) := Bks.cell HS.out (i := 1) rfl 0 rfl; have f_g5 : ∀ j : Nat, w4.frozen? ⟨g5, j, none⟩ = false := fun j => Bks.free HS.out (i := 1) rfl j; have c_g10_0 : w4.cell? ⟨g10, 0, none⟩ = some (.slice A1 y0.length k1) := Bks.cell HS.out (i := 2) rfl 0 rfl; have f_g10 : ∀ j : Nat, w4.frozen? ⟨g10, j, none⟩ = false := fun j => Bks.free HS.out (i := 2) rfl j; have c_g13_0 : w4.cell? ⟨g13, 0, none⟩ = some (.slice A2 n2 k2) := Bks.cell HS.out (i := 3) rfl 0 rfl; have f_g13 : ∀ j : Nat, w4.frozen? ⟨g13, j, none⟩ = false := fun j => Bks.free HS.out (i := 3) rfl j; have ne_g4_g5 : g4 ≠ g5 := Bks.ne HS.out 0 1 _ _ rfl rfl (by decide); have ne_g4_g10 : g4 ≠ g10 := Bks.ne HS.out 0 2 _ _ rfl rfl (by decide); have ne_g4_g13 : g4 ≠ g13 := Bks.ne HS.out 0 3 _ _ rfl rfl (by decide); have ne_g5_g4 : g5 ≠ g4 := Bks.ne HS.out 1 0 _ _ rfl rfl (by decide); have ne_g5_g10 : g5 ≠ g10 := Bks.ne HS.out 1 2 _ _ rfl rfl (by decide); have ne_g5_g13 : g5 ≠ g13 := Bks.ne HS.out 1 3 _ _ rfl rfl (by decide); have ne_g10_g4 : g10 ≠ g4 := Bks.ne HS.out 2 0 _ _ rfl rfl (by decide); have ne_g10_g5 : g10 ≠ g5 := Bks.ne HS.out 2 1 _ _ rfl rfl (by decide); have ne_g10_g13 : g10 ≠ g13 := Bks.ne HS.out 2 3 _ _ rfl rfl (by decide); have ne_g13_g4 : g13 ≠ g4 := Bks.ne HS.out 3 0 _ _ rfl rfl (by decide); have ne_g13_g5 : g13 ≠ g5 := Bks.ne HS.out 3 1 _ _ rfl rfl (by decide); have ne_g13_g10 : g13 ≠ g10 := Bks.ne HS.out 3 2 _ _ rfl rfl (by decide)))
  have HW := Aside0.mk HS.out.below
  have K_g4 : ∀ W, Below w4.heap.size w4 W → W.cell? ⟨g4, 0, none⟩ = some (.slice A0_0 l0_0.length c0_0) := fun W hb => (hb.cell (World.block_lt_of_cell? w4 _ (Bks.cell HS.out (i := 0) rfl 0 rfl))).trans (Bks.cell HS.out (i := 0) rfl 0 rfl)
  have K_g5 : ∀ W, Below w4.heap.size w4 W → W.cell? ⟨g5, 0, none⟩ = some (.slice A1_0 l1_0.length c1_0) := fun W hb => (hb.cell (World.block_lt_of_cell? w4 _ (Bks.cell HS.out (i := 1) rfl 0 rfl))).trans (Bks.cell HS.out (i := 1) rfl 0 rfl)
  have K_g10 : ∀ W, Below w4.heap.size w4 W → W.cell? ⟨g10, 0, none⟩ = some (.slice A1 y0.length k1) := fun W hb => (hb.cell (World.block_lt_of_cell? w4 _ (Bks.cell HS.out (i := 2) rfl 0 rfl))).trans (Bks.cell HS.out (i := 2) rfl 0 rfl)
  have HI := Aside0.mk (Kd.R_reads' HO.out).2.2
  have HIc := Aside0.mk (Kd.R_reads' HO.out).2.1
  have HR1' := Aside0.mk (Kd.C_below HR1.out HW.out)
  clear HS HO HR HR1 HD1 HD2 HSH c_g4_0 f_g4 c_g5_0 f_g5 c_g10_0 f_g10 c_g13_0 f_g13 ne_g4_g5 ne_g4_g10 ne_g4_g13 ne_g5_g4 ne_g5_g10 ne_g5_g13 ne_g10_g4 ne_g10_g5 ne_g10_g13 ne_g13_g4 ne_g13_g5 ne_g13_g10
  have HR1 := HR1'
  clear HR1'
  have HS := Aside0.mk (Bks.start (Below.refl w4.heap.size w4))
  have c10 := K_g10 _ HS.out.below
  go_wp2
  clear c10
  go_loopg [46] y0.length (fun kq v46 w' => ∃ j : Int, v46 = .int .i64 j ∧ Aside0 (0 ≤ j ∧ j + kq = y0.length) ∧ Aside0 (a3 = true → ∀ i : Nat, (i : Int) < j → (rd_T107 y0 (i : Int)).f1 = true) ∧ Aside0 (Bks w4 w' []))
  case atStart => exact ⟨0, rfl, ⟨⟨Int.le_refl _, Int.zero_add _⟩⟩, ⟨fun _ i hi => absurd hi (by omega)⟩, HS⟩
  case round =>
    clear HS
    obtain ⟨j, rfl, HJ, HA, HS⟩ := hrel
    have HR := Aside0.mk (Rws.start (w0 := w4) (W := wr))
    by_cases c1 : j < (y0.length : Int)
    · obtain ⟨k1', rfl⟩ : ∃ k1, gk = k1 + 1 := ⟨gk - 1, by have := HJ.out; omega⟩
      have c1b : decide (j < (y0.length : Int)) = true := decide_eq_true c1
      obtain ⟨ad1, e1, h10, h11⟩ := at_T107 HI.out j HJ.out.1 c1
      cases e1
      have hj : wrap64 (j + 1) = j + 1 := by have := L0.out; have := HJ.out; unfold wrap64; omega
      generalize hz : rd_T107 y0 j = z at h10 h11
      have NZ := Aside0.mk hz
      have p1 : (0 ≤ j) = True := eq_true HJ.out.1
      have q1 : (j < (y0.length : Int)) = True := eq_true c1
      have Q1 := Aside0.mk c1
      replace h10 := (HS.out.below.cell (World.block_lt_of_cell? w4 _ h10)).trans h10
      replace h11 := (HS.out.below.cell (World.block_lt_of_cell? w4 _ h11)).trans h11
      clear hz c1
      go_upto_region 8 with (first | ((with_reducible refine gate_dst (N := 17) rfl ?_); refine box_event ?hg (N := 17) ?hd (cs := #[.int .i64 0, .bool false]) (t := 107) ?hr ?_; (case hd => rfl); (case hg => rfl); (case hr => first | (go_simp; done) | (go_simp; rfl)); intro g17 hg17 wg17 xg17 bg17; have n_ := Aside0.mk (show Bks w4 wg17 [(g17, #[.int .i64 0, .bool false], 107)] from Bks.new HS.out hg17 xg17 bg17); have m_ := Aside0.mk (show Rws w4 wg17 [] from Rws.step HR.out bg17); clear HS HR; have HS := n_; have HR := m_; clear n_ m_; clear hg17 xg17 bg17; have c_g17_0 : wg17.cell? ⟨g17, 0, none⟩ = some (.int .i64 0) := Bks.cell HS.out (i := 0) rfl 0 rfl; have c_g17_1 : wg17.cell? ⟨g17, 1, none⟩ = some (.bool false) := Bks.cell HS.out (i := 0) rfl 1 rfl; have f_g17 : ∀ j : Nat, wg17.frozen? ⟨g17, j, none⟩ = false := fun j => Bks.free HS.out (i := 0) rfl j))
      have n_ := Aside0.mk (show Bks w4 ((wg17.setCell ⟨g17, 0, none⟩ (.int .i64 z.f0)).setCell ⟨g17, 1, none⟩ (.bool z.f1)) [(g17, #[.int .i64 z.f0, .bool z.f1], 107)] from (Bks.set (Bks.set HS.out (i := 0) rfl 0 (.int .i64 z.f0)) (i := 0) rfl 1 (.bool z.f1)))
      have m_ := Aside0.mk (show Rws w4 ((wg17.setCell ⟨g17, 0, none⟩ (.int .i64 z.f0)).setCell ⟨g17, 1, none⟩ (.bool z.f1)) [] from (Rws.set (Rws.set HR.out HS.out (i := 0) rfl (by decide) 0 (.int .i64 z.f0)) (Bks.set HS.out (i := 0) rfl 0 (.int .i64 z.f0)) (i := 0) rfl (by decide) 1 (.bool z.f1)))
      clear HS HR
      clear c_g17_0 c_g17_1 f_g17
      generalize ((wg17.setCell ⟨g17, 0, none⟩ (.int .i64 z.f0)).setCell ⟨g17, 1, none⟩ (.bool z.f1)) = w8 at n_ m_ ⊢
      have HS := n_
      have HR := m_
      clear n_ m_
      have c_g17_0 : w8.cell? ⟨g17, 0, none⟩ = some (.int .i64 z.f0) := Bks.cell HS.out (i := 0) rfl 0 rfl
      have c_g17_1 : w8.cell? ⟨g17, 1, none⟩ = some (.bool z.f1) := Bks.cell HS.out (i := 0) rfl 1 rfl
      have f_g17 : ∀ j : Nat, w8.frozen? ⟨g17, j, none⟩ = false := fun j => Bks.free HS.out (i := 0) rfl j
      clear h10 h11 HR
      cases a3 with
      | false =>
        go_wp2
        go_roundg k1'
        case measure => omega
        case rel => exact ⟨j + 1, by first | rfl | rw [hj], ⟨by have := HJ.out; omega⟩, ⟨fun h => absurd h (by decide)⟩, ⟨Bks.start HS.out.below⟩⟩
      | true =>
        by_cases hb : z.f1 = true
        · rw [hb] at c_g17_1
          have HB := Aside0.mk hb
          clear hb
          go_wp2
          go_roundg k1'
          case measure => omega
          case rel =>
            refine ⟨j + 1, by first | rfl | rw [hj], ⟨by have := HJ.out; omega⟩, ⟨fun h i hi => ?_⟩, ⟨Bks.start HS.out.below⟩⟩
            by_cases hij : (i : Int) = j
            · rw [hij, NZ.out]
              exact HB.out
            · exact HA.out h i (by omega)
        · replace hb : z.f1 = false := Bool.eq_false_iff.mpr hb
          rw [hb] at c_g17_1
          have H := HH.out
          have hna := not_all_rd HJ.out.1 Q1.out (by rw [NZ.out]; exact hb)
          rw [if_pos (by rw [hna]; rfl)] at H
          simp only [Option.some.injEq, Prod.mk.injEq] at H
          obtain ⟨rfl, rfl⟩ := H
          clear HH hb hna
          go_wp2
          go_ret2
          exact ⟨_, rfl, Kd.R_nil _ _ _ _ _, below_step HW.out HS.out.below⟩
    · have c1b : decide (j < (y0.length : Int)) = false := decide_eq_false c1
      have hall : (a3 && !y0.all (fun s => s.f1)) = false := by
        cases h3 : a3 with
        | false => rfl
        | true => rw [all_rd (fun i hi => HA.out h3 i (by omega))]; rfl
      have H := HH.out
      rw [if_neg (by rw [hall]; decide), ← NR.out] at H
      simp only [Option.some.injEq, Prod.mk.injEq] at H
      obtain ⟨rfl, rfl⟩ := H
      clear HH hall c1
      obtain ⟨ad, e1, h0, h1⟩ := at_T107 HR1.out 0 (by omega) (by have := C8.out; omega)
      cases e1
      rw [← NX.out] at h0 h1
      rw [show ((0 : Int)).toNat = 0 from rfl, show 0 * 2 = 0 from rfl, Addr.add_zero'] at h0
      rw [show ((0 : Int)).toNat = 0 from rfl, show 0 * 2 = 0 from rfl, Addr.add_zero'] at h1
      have K0 : ∀ W, Below w4.heap.size w4 W → W.cell? _ = some _ := fun W hb => (hb.cell (World.block_lt_of_cell? w4 _ h0)).trans h0
      clear h0 h1
      have p1 : (0 < (l1_0.length : Int)) = True := eq_true (by have := C8.out; omega)
      have p2 : (0 < l1_0.length) = True := eq_true C8.out
      go_upto_region 12 with (first | ((with_reducible refine gate_dst (N := 18) rfl ?_); refine box_event ?hg (N := 18) ?hd (cs := #[.slice none 0 0]) (t := 110) ?hr ?_; (case hd => rfl); (case hg => rfl); (case hr => first | (go_simp; done) | (go_simp; rfl)); intro g18 hg18 wg18 xg18 bg18; have n_ := Aside0.mk (show Bks w4 wg18 [(g18, #[.slice none 0 0], 110)] from Bks.new HS.out hg18 xg18 bg18); have m_ := Aside0.mk (show Rws w4 wg18 [] from Rws.step HR.out bg18); clear HS HR; have HS := n_; have HR := m_; clear n_ m_; clear hg18 xg18 bg18; have c_g18_0 : wg18.cell? ⟨g18, 0, none⟩ = some (.slice none 0 0) := Bks.cell HS.out (i := 0) rfl 0 rfl; have f_g18 : ∀ j : Nat, wg18.frozen? ⟨g18, j, none⟩ = false := fun j => Bks.free HS.out (i := 0) rfl j))
      have n_ := Aside0.mk (show Bks w4 wg18 [(g18, #[.slice none 0 0], 110)] from HS.out)
      have m_ := Aside0.mk (show Rws w4 wg18 [] from HR.out)
      clear HS HR
      clear c_g18_0 f_g18
      generalize wg18 = w5 at n_ m_ ⊢
      have HS := n_
      have HR := m_
      clear n_ m_
      have c_g18_0 : w5.cell? ⟨g18, 0, none⟩ = some (.slice none 0 0) := Bks.cell HS.out (i := 0) rfl 0 rfl
      have f_g18 : ∀ j : Nat, w5.frozen? ⟨g18, j, none⟩ = false := fun j => Bks.free HS.out (i := 0) rfl j
      have HP := Aside0.mk (relate_put g18 (.slice none 0 0) [] x0.f0 a2 3 0 w4 _ (HS.out.at_ 0 _ _ _ rfl).1 (HS.out.at_ 0 _ _ _ rfl).2 HS.out.below (Kd.R_nil _ _ _ _ _) (by decide))
      go_upto_region 13 with (first | (go_at_call 84; (with_reducible refine HP.out.mono ?_); rintro e w6 ⟨rfl, v6, z1, z2, z3, z4⟩; have n_ := Aside0.mk (Bks.one z3 z1 (HS.out.at_ 0 _ _ _ rfl).2); rw [List.nil_append] at z2; have o_ := Aside0.mk z2; clear HS HP z1 z2 z3 z4; have HS := n_; have HO := o_; clear n_ o_))
      clear HR c_g18_0 f_g18
      have h0 := K0 _ HS.out.below
      have h5 := K_g5 _ HS.out.below
      have HP := Aside0.mk (relate_put g18 v6 [(⟨x0.f0, a2, 3, 0, false⟩ : S35)] a2 x.f0 2 0 w4 _ (HS.out.at_ 0 _ _ _ rfl).1 (HS.out.at_ 0 _ _ _ rfl).2 HS.out.below HO.out (show 1 < 1000000000000 by decide))
      go_upto_region 14 with (first | (go_at_call 84; (with_reducible refine HP.out.mono ?_); rintro e w7 ⟨rfl, v7, z1, z2, z3, z4⟩; have n_ := Aside0.mk (Bks.one z3 z1 (HS.out.at_ 0 _ _ _ rfl).2); have o_ := Aside0.mk z2; clear HS HO HP z1 z2 z3 z4; have HS := n_; have HO := o_; clear n_ o_))
      clear h0 h5 K0
      have hcap : l1_0.length ≤ c1_0 := HC1.out
      obtain ⟨i0, hi0, _, hsz0, _⟩ := info_parts info107
      have hcut := cut_from (P := Try.prog) 22 107 .i64 Try.underlying22 hi0 2 hsz0 (some ad) l1_0.length c1_0 1 (by omega) (by have := C8.out; omega)
      have hr2 := Kd.C_drop (m := (1 : Int).toNat) (c := c1_0) HR1.out (by have := C8.out; omega) hcap
      obtain ⟨A2', hA2⟩ : ∃ A1, A1 = (if c1_0 = (1 : Int).toNat then (some ad) else ((some ad) : Option Addr).map (·.add ((1 : Int).toNat * 2))) := ⟨_, rfl⟩
      obtain ⟨c2, hc2⟩ : ∃ c1, c1 = c1_0 - (1 : Int).toNat := ⟨_, rfl⟩
      have hy2 : y.length = l1_0.length - (1 : Int).toNat := (by rw [NY.out, List.length_drop] <;> omega)
      rw [show (l1_0).drop (1 : Int).toNat = y from NY.out.symm] at hr2
      replace hr2 : Kd.C k107 _ A2' y.length y := (by rw [hA2]; exact hr2)
      rw [← hy2, ← hA2, ← hc2] at hcut
      have HY := Aside0.mk hr2
      have p3 : ((1 : Int) ≤ (l1_0.length : Int)) = True := eq_true (by have := C8.out; omega)
      clear hr2 hA2 hc2 hy2 hcap
      have n_ := Aside0.mk (Bks.drew HS.out)
      have o_ := Aside0.mk (Kd.R_drew HO.out)
      clear HS HO
      have HS := n_
      have HO := o_
      clear n_ o_
      refine start_ (n := 6) (S := fun w' => w'.cell? ⟨g10, 0, none⟩ = some (.slice A1 y0.length k1) ∧ w'.cell? ⟨g5, 0, none⟩ = some (.slice (some ad) l1_0.length c1_0)) (ds := [5]) #[false, false, false, false, false, false] (by kernel_rfl) rfl rfl ⟨K_g10 _ HS.out.below, K_g5 _ HS.out.below⟩ (fun hHeld => ?_)
      generalize World.drew w7 = w8 at HS HO hHeld ⊢
      refine pure_ (i := 0) (N := some 67) (v := ?_) (a' := ?_) #[true, false, false, false, false, false] rfl rfl (by kernel_rfl) (fun _ _ _ h => h) (Or.inl ⟨by rfl, ?_⟩) ?_ ?_
      rotate_left
      · intro w'
        go_simp
        with_reducible rfl
      rotate_left
      · simp only [Act.put, List.setIfInBounds_toArray, List.set_cons_zero, List.set_cons_succ, i64_w, i32_w]
        rfl
      refine pure_ (i := 2) (N := some 69) (v := ?_) (a' := ?_) #[true, false, true, false, false, false] rfl rfl (by kernel_rfl) (fun _ _ _ h => h) (Or.inl ⟨by rfl, ?_⟩) ?_ ?_
      rotate_left
      · intro w'
        go_simp
        with_reducible rfl
      rotate_left
      · simp only [Act.put, List.setIfInBounds_toArray, List.set_cons_zero, List.set_cons_succ, i64_w, i32_w]
        rfl
      refine take_ (i := 1) (N := some 68) (v := ?_) (a' := ?_) #[true, true, true, false, false, false] rfl rfl (by kernel_rfl) (fun _ _ _ h => h) (Or.inl ⟨by rfl, ?_⟩) hHeld ?_ ?_
      rotate_left
      · rintro w' ⟨s0, s1⟩
        go_simp
        with_reducible rfl
      rotate_left
      · simp only [Act.put, List.setIfInBounds_toArray, List.set_cons_zero, List.set_cons_succ, i64_w, i32_w]
        rfl
      refine take_ (i := 3) (N := some 70) (v := ?_) (a' := ?_) #[true, true, true, true, false, false] rfl rfl (by kernel_rfl) (fun _ _ _ h => h) (Or.inl ⟨by rfl, ?_⟩) hHeld ?_ ?_
      rotate_left
      · rintro w' ⟨s0, s1⟩
        go_simp
        with_reducible rfl
      rotate_left
      · simp only [Act.put, List.setIfInBounds_toArray, List.set_cons_zero, List.set_cons_succ, i64_w, i32_w]
        rfl
      refine pure_ (i := 4) (N := some 71) (v := ?_) (a' := ?_) #[true, true, true, true, true, false] rfl rfl (by kernel_rfl) (fun _ _ _ h => h) (Or.inl ⟨by rfl, ?_⟩) ?_ ?_
      rotate_left
      · intro w'
        go_simp
        with_reducible rfl
      rotate_left
      · simp only [Act.put, List.setIfInBounds_toArray, List.set_cons_zero, List.set_cons_succ, i64_w, i32_w]
        rfl
      refine last_ (i := 5) (N := some 72) #[true, true, true, true, true, true] rfl rfl (by kernel_rfl) (by decide) (fun K hK => ?_)
      refine goes_ Try.func72 (by kernel_rfl) rfl #[.pointer (some ⟨g18, 0, none⟩), .slice A1 y0.length k1, .slice A2' y.length c2, .int .i64 1, .int .i64 1] (by rfl) rfl rfl (by (try simp only [List.map_toArray, List.map_cons, List.map_nil]); first | done | rfl) ?_
      refine (relate_slots A1 k1 y0 A2' c2 y 1 1 g18 v7 _ w4 _ HI.out HY.out LE.out (HS.out.at_ 0 _ _ _ rfl).1 (HS.out.at_ 0 _ _ _ rfl).2 HS.out.below HO.out (show 2 < 100 by decide) L0.out).mono ?_
      rintro e w9 ⟨rfl, v9, z1, z2, z3⟩
      refine ⟨_, rfl, ?_⟩
      rw [← NR.out] at z2
      obtain ⟨A9, k9, rfl⟩ := Kd.R_slice z2
      have c9 := blk_cell z1 0
      have Z2 := Aside0.mk z2
      have Z3 := Aside0.mk z3
      clear z1 z2 z3 HS HO
      refine hK.out _ _ ?_
      clear hK K
      refine norm_ (a' := ?_) ?_ ?_
      rotate_left
      · show Act.put _ (some 72) _ = _
        simp only [Act.put, List.setIfInBounds_toArray, List.set_cons_zero, List.set_cons_succ, i64_w, i32_w]
        rfl
      refine done_ (by kernel_rfl) ?_
      clear hcut
      go_wp2
      go_ret2
      exact ⟨_, rfl, Kd.R_lower Z2.out HW.out.size, below_step HW.out Z3.out⟩

end Go.Proofs.Ytnabbhcagonlkaa.GRelateNeeds
