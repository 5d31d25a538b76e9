/- Written for this claim by gp.py, a program of this session's, over the kit's print. Lean checks it. -/
import Derived.Test.YthhebinonpoddaaGSigCallsx0
import Derived.Test.YthhebinonpoddaaGSigCallshx
import Derived.Test.YthhebinonpoddaaGSigCallshshape
import Derived.Test.YthhebinonpoddaaGSigCallshslots
namespace Go.Proofs.Ythhebinonpoddaa.GSigCalls
open Go.RowKit Go.Proofs.YthhebinonpoddaaW.PrintWords Go.Proofs.YthhebinonpoddaaW.PrintLast Go.Proofs.YthhebinonpoddaaW.PrintMore
attribute [local go_sem] max2_int min2_int max_two min_two max_three min_three max_four min_four   -- for this text's walks alone
set_option linter.unusedVariables false
set_option linter.unusedSimpArgs false

/-- What it needs that a value of one type is taken as one of another type. -/
def relate_Flow.f (a b : List S115) (kind from_ : Int) : Option (List S129 × Int) := if shp a b = true then (if a.length < 1000000000 then some (slx kind from_ a b 0, 0) else none) else some ([], 8)
theorem shp_eq {a b : List S115} (h : shp a b = true) : a.length = b.length := by
  refine Classical.byContradiction fun hne => ?_
  rw [shp_len hne] at h
  exact absurd h (by decide)
set_option maxHeartbeats 16000000 in
set_option maxRecDepth 100000 in
theorem relate_Flow.calls (A0_0 : Option Addr) (c0_0 : Nat) (l0_0 : List (S115)) (A1_0 : Option Addr) (c1_0 : Nat) (l1_0 : List (S115)) (a2 : Int) (a3 : Int) (r1 : List (S129)) (r2 : Int) (w : World) (hr0_0 : Kd.C k115 w A0_0 l0_0.length l0_0) (hc0_0 : l0_0.length ≤ c0_0) (hr1_0 : Kd.C k115 w A1_0 l1_0.length l1_0) (hc1_0 : l1_0.length ≤ c1_0) (h : relate_Flow.f l0_0 l1_0 a2 a3 = some (r1, r2)) :
    Calls Try.prog 92 #[.agg #[.slice A0_0 l0_0.length c0_0], .agg #[.slice A1_0 l1_0.length c1_0], .int .i64 a2, .int .i64 a3] w fun e w' => ∃ v0_ : Value, e = .returned (.tuple #[v0_, .int .i64 r2]) ∧ Kd.R k129 129 w' w.heap.size (fun _ => True) v0_ r1 ∧ Below w.heap.size w w' := by
  have hu1 := Try.underlying144
  have hu3 := Try.underlying44
  have HS := Aside0.mk (Bks.start (Below.refl w.heap.size w))
  have HA := Aside0.mk (fun (W : World) (hb : Below w.heap.size w W) => row_Shape.calls A0_0 c0_0 l0_0 A1_0 c1_0 l1_0 (shp l0_0 l1_0) W (Kd.bW hr0_0 hb) hc0_0 (Kd.bW hr1_0 hb) hc1_0 rfl)
  have HR0 := Aside0.mk hr0_0
  have HR1 := Aside0.mk hr1_0
  have H := h
  unfold relate_Flow.f at H
  clear h hr0_0 hr1_0
  by_cases c1 : shp l0_0 l1_0 = true
  · rw [if_pos c1] at H
    have C1 := Aside0.mk c1
    by_cases c2 : l0_0.length < 1000000000
    · rw [if_pos c2] at H
      simp only [Option.some.injEq, Prod.mk.injEq] at H
      obtain ⟨rfl, rfl⟩ := H
      have C2 := Aside0.mk c2
      clear c2
      obtain ⟨R, hR⟩ : ∃ R, R = slx a2 a3 l0_0 l1_0 0 := ⟨_, rfl⟩
      rw [← hR]
      have NR := Aside0.mk hR
      clear hR
      go_enter Try.func92, Try.ntmps92
      go_upto_region 4 with (first | ((with_reducible refine bZ (N := 4) rfl ?_); refine bY ?hg (N := 4) ?hd (cs := #[.slice A0_0 l0_0.length c0_0]) (t := 44) ?hr ?_; (case hd => rfl); (case hg => rfl); (case hr => first | (go_simp; done) | (go_simp; rfl)); intro g4 hg4 wg4 xg4 bg4; have n_ := Aside0.mk (show Bks w wg4 [(g4, #[.slice A0_0 l0_0.length c0_0], 44)] from Bks.new (by repeat (first | exact HS.out | refine Bks.drewN ?_ _ | refine Bks.drew ?_)) hg4 xg4 bg4); clear HS; have HS := n_; clear n_ hg4 xg4 bg4; have c_g4_0 : wg4.cell? ⟨g4, 0, none⟩ = some (.slice A0_0 l0_0.length c0_0) := Bks.cell HS.out (i := 0) rfl 0 rfl; have f_g4 : ∀ j : Nat, wg4.frozen? ⟨g4, j, none⟩ = false := fun j => Bks.free HS.out (i := 0) rfl j) | ((with_reducible refine bZ (N := 5) rfl ?_); refine bY ?hg (N := 5) ?hd (cs := #[.slice A1_0 l1_0.length c1_0]) (t := 44) ?hr ?_; (case hd => rfl); (case hg => rfl); (case hr => first | (go_simp; done) | (go_simp; rfl)); intro g5 hg5 wg5 xg5 bg5; have n_ := Aside0.mk (show Bks w wg5 [(g4, #[.slice A0_0 l0_0.length c0_0], 44), (g5, #[.slice A1_0 l1_0.length c1_0], 44)] from Bks.new (by repeat (first | exact HS.out | refine Bks.drewN ?_ _ | refine Bks.drew ?_)) hg5 xg5 bg5); clear HS; clear c_g4_0 f_g4; have HS := n_; clear n_ hg5 xg5 bg5; have c_g4_0 : wg5.cell? ⟨g4, 0, none⟩ = some (.slice A0_0 l0_0.length c0_0) := Bks.cell HS.out (i := 0) rfl 0 rfl; have f_g4 : ∀ j : Nat, wg5.frozen? ⟨g4, j, none⟩ = false := fun j => Bks.free HS.out (i := 0) rfl j; have c_g5_0 : wg5.cell? ⟨g5, 0, none⟩ = some (.slice A1_0 l1_0.length c1_0) := Bks.cell HS.out (i := 1) rfl 0 rfl; have f_g5 : ∀ j : Nat, wg5.frozen? ⟨g5, j, none⟩ = false := fun j => Bks.free HS.out (i := 1) rfl j; have ne_g4_g5 : g4 ≠ g5 := Bks.ne HS.out 0 1 _ _ rfl rfl (by decide); have ne_g5_g4 : g5 ≠ g4 := Bks.ne HS.out 1 0 _ _ rfl rfl (by decide)) | (go_at_call 107; (with_reducible refine (HA.out _ HS.out.below).mono ?_); rintro e w8 ⟨rfl, hb⟩; rw [C1.out]; have n_ := Aside0.mk (show Bks w w8 [(g4, #[.slice A0_0 l0_0.length c0_0], 44), (g5, #[.slice A1_0 l1_0.length c1_0], 44)] from Bks.step HS.out hb); clear HS; clear c_g4_0 f_g4 c_g5_0 f_g5 ne_g4_g5 ne_g5_g4; have HS := n_; clear n_; have c_g4_0 : w8.cell? ⟨g4, 0, none⟩ = some (.slice A0_0 l0_0.length c0_0) := Bks.cell HS.out (i := 0) rfl 0 rfl; have f_g4 : ∀ j : Nat, w8.frozen? ⟨g4, j, none⟩ = false := fun j => Bks.free HS.out (i := 0) rfl j; have c_g5_0 : w8.cell? ⟨g5, 0, none⟩ = some (.slice A1_0 l1_0.length c1_0) := Bks.cell HS.out (i := 1) rfl 0 rfl; have f_g5 : ∀ j : Nat, w8.frozen? ⟨g5, j, none⟩ = false := fun j => Bks.free HS.out (i := 1) rfl j; have ne_g4_g5 : g4 ≠ g5 := Bks.ne HS.out 0 1 _ _ rfl rfl (by decide); have ne_g5_g4 : g5 ≠ g4 := Bks.ne HS.out 1 0 _ _ rfl rfl (by decide); clear hb) | ((with_reducible refine bZ (N := 10) rfl ?_); refine bY ?hg (N := 10) ?hd (cs := #[.slice none 0 0]) (t := 144) ?hr ?_; (case hd => rfl); (case hg => rfl); (case hr => first | (go_simp; done) | (go_simp; rfl)); intro g10 hg10 wg10 xg10 bg10; have n_ := Aside0.mk (show Bks w wg10 [(g4, #[.slice A0_0 l0_0.length c0_0], 44), (g5, #[.slice A1_0 l1_0.length c1_0], 44), (g10, #[.slice none 0 0], 144)] from Bks.new (by repeat (first | exact HS.out | refine Bks.drewN ?_ _ | refine Bks.drew ?_)) hg10 xg10 bg10); clear HS; clear c_g4_0 f_g4 c_g5_0 f_g5 ne_g4_g5 ne_g5_g4; have HS := n_; clear n_ hg10 xg10 bg10; have c_g4_0 : wg10.cell? ⟨g4, 0, none⟩ = some (.slice A0_0 l0_0.length c0_0) := Bks.cell HS.out (i := 0) rfl 0 rfl; have f_g4 : ∀ j : Nat, wg10.frozen? ⟨g4, j, none⟩ = false := fun j => Bks.free HS.out (i := 0) rfl j; have c_g5_0 : wg10.cell? ⟨g5, 0, none⟩ = some (.slice A1_0 l1_0.length c1_0) := Bks.cell HS.out (i := 1) rfl 0 rfl; have f_g5 : ∀ j : Nat, wg10.frozen? ⟨g5, j, none⟩ = false := fun j => Bks.free HS.out (i := 1) rfl j; have c_g10_0 : wg10.cell? ⟨g10, 0, none⟩ = some (.slice none 0 0) := Bks.cell HS.out (i := 2) rfl 0 rfl; have f_g10 : ∀ j : Nat, wg10.frozen? ⟨g10, j, none⟩ = false := fun j => Bks.free HS.out (i := 2) rfl j; have ne_g4_g5 : g4 ≠ g5 := Bks.ne HS.out 0 1 _ _ rfl rfl (by decide); have ne_g4_g10 : g4 ≠ g10 := Bks.ne HS.out 0 2 _ _ rfl rfl (by decide); have ne_g5_g4 : g5 ≠ g4 := Bks.ne HS.out 1 0 _ _ rfl rfl (by decide); have ne_g5_g10 : g5 ≠ g10 := Bks.ne HS.out 1 2 _ _ rfl rfl (by decide); have ne_g10_g4 : g10 ≠ g4 := Bks.ne HS.out 2 0 _ _ rfl rfl (by decide); have ne_g10_g5 : g10 ≠ g5 := Bks.ne HS.out 2 1 _ _ rfl rfl (by decide)))
      clear c1 HA
      have HC := Aside0.mk (relate_slots A0_0 c0_0 l0_0 A1_0 c1_0 l1_0 a2 a3 g10 (.slice none 0 0) [] w _ HR0.out HR1.out (shp_eq C1.out) (HS.out.at_ 2 _ _ _ rfl).1 (HS.out.at_ 2 _ _ _ rfl).2 HS.out.below (Kd.R_nil _ _ _ _ _) (by decide) C2.out)
      go_wp2_with (first | (go_at_call 108; (with_reducible refine HC.out.mono ?_); rintro e w9 ⟨rfl, v9, z1, z2, z3⟩; rw [List.nil_append] at z2; rw [← NR.out] at z2; obtain ⟨A9, k9, rfl⟩ := Kd.R_slice z2; have c9 := bH z1 0; have Z2 := Aside0.mk z2; have Z3 := Aside0.mk z3; clear z1 z2 z3 HC HS))
      go_ret2
      exact ⟨_, rfl, Z2.out, Z3.out⟩
    · rw [if_neg c2] at H
      exact absurd H (by simp)
  · rw [if_neg c1] at H
    simp only [Option.some.injEq, Prod.mk.injEq] at H
    obtain ⟨rfl, rfl⟩ := H
    replace c1 : shp l0_0 l1_0 = false := Bool.eq_false_iff.mpr c1
    have C1 := Aside0.mk c1
    clear c1
    go_enter Try.func92, Try.ntmps92
    go_wp2_with (first | ((with_reducible refine bZ (N := 4) rfl ?_); refine bY ?hg (N := 4) ?hd (cs := #[.slice A0_0 l0_0.length c0_0]) (t := 44) ?hr ?_; (case hd => rfl); (case hg => rfl); (case hr => first | (go_simp; done) | (go_simp; rfl)); intro g4 hg4 wg4 xg4 bg4; have n_ := Aside0.mk (show Bks w wg4 [(g4, #[.slice A0_0 l0_0.length c0_0], 44)] from Bks.new (by repeat (first | exact HS.out | refine Bks.drewN ?_ _ | refine Bks.drew ?_)) hg4 xg4 bg4); clear HS; have HS := n_; clear n_ hg4 xg4 bg4; have c_g4_0 : wg4.cell? ⟨g4, 0, none⟩ = some (.slice A0_0 l0_0.length c0_0) := Bks.cell HS.out (i := 0) rfl 0 rfl; have f_g4 : ∀ j : Nat, wg4.frozen? ⟨g4, j, none⟩ = false := fun j => Bks.free HS.out (i := 0) rfl j) | ((with_reducible refine bZ (N := 5) rfl ?_); refine bY ?hg (N := 5) ?hd (cs := #[.slice A1_0 l1_0.length c1_0]) (t := 44) ?hr ?_; (case hd => rfl); (case hg => rfl); (case hr => first | (go_simp; done) | (go_simp; rfl)); intro g5 hg5 wg5 xg5 bg5; have n_ := Aside0.mk (show Bks w wg5 [(g4, #[.slice A0_0 l0_0.length c0_0], 44), (g5, #[.slice A1_0 l1_0.length c1_0], 44)] from Bks.new (by repeat (first | exact HS.out | refine Bks.drewN ?_ _ | refine Bks.drew ?_)) hg5 xg5 bg5); clear HS; clear c_g4_0 f_g4; have HS := n_; clear n_ hg5 xg5 bg5; have c_g4_0 : wg5.cell? ⟨g4, 0, none⟩ = some (.slice A0_0 l0_0.length c0_0) := Bks.cell HS.out (i := 0) rfl 0 rfl; have f_g4 : ∀ j : Nat, wg5.frozen? ⟨g4, j, none⟩ = false := fun j => Bks.free HS.out (i := 0) rfl j; have c_g5_0 : wg5.cell? ⟨g5, 0, none⟩ = some (.slice A1_0 l1_0.length c1_0) := Bks.cell HS.out (i := 1) rfl 0 rfl; have f_g5 : ∀ j : Nat, wg5.frozen? ⟨g5, j, none⟩ = false := fun j => Bks.free HS.out (i := 1) rfl j; have ne_g4_g5 : g4 ≠ g5 := Bks.ne HS.out 0 1 _ _ rfl rfl (by decide); have ne_g5_g4 : g5 ≠ g4 := Bks.ne HS.out 1 0 _ _ rfl rfl (by decide)) | (go_at_call 107; (with_reducible refine (HA.out _ HS.out.below).mono ?_); rintro e w8 ⟨rfl, hb⟩; rw [C1.out]; have n_ := Aside0.mk (show Bks w w8 [(g4, #[.slice A0_0 l0_0.length c0_0], 44), (g5, #[.slice A1_0 l1_0.length c1_0], 44)] from Bks.step HS.out hb); clear HS; clear c_g4_0 f_g4 c_g5_0 f_g5 ne_g4_g5 ne_g5_g4; have HS := n_; clear n_; have c_g4_0 : w8.cell? ⟨g4, 0, none⟩ = some (.slice A0_0 l0_0.length c0_0) := Bks.cell HS.out (i := 0) rfl 0 rfl; have f_g4 : ∀ j : Nat, w8.frozen? ⟨g4, j, none⟩ = false := fun j => Bks.free HS.out (i := 0) rfl j; have c_g5_0 : w8.cell? ⟨g5, 0, none⟩ = some (.slice A1_0 l1_0.length c1_0) := Bks.cell HS.out (i := 1) rfl 0 rfl; have f_g5 : ∀ j : Nat, w8.frozen? ⟨g5, j, none⟩ = false := fun j => Bks.free HS.out (i := 1) rfl j; have ne_g4_g5 : g4 ≠ g5 := Bks.ne HS.out 0 1 _ _ rfl rfl (by decide); have ne_g5_g4 : g5 ≠ g4 := Bks.ne HS.out 1 0 _ _ rfl rfl (by decide); clear hb))
    go_ret2
    exact ⟨_, rfl, Kd.R_nil _ _ _ _ _, HS.out.below⟩

end Go.Proofs.Ythhebinonpoddaa.GSigCalls
