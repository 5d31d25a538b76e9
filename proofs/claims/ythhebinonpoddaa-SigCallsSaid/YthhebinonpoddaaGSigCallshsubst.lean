/- Written for this claim by gp.py, a program of this session's, over the kit's print. Lean checks it. -/
import Derived.Test.YthhebinonpoddaaGSigCallsx0
import Derived.Test.YthhebinonpoddaaGSigCallsx6
import Derived.Test.YthhebinonpoddaaGSigCallshx
import Derived.Test.YthhebinonpoddaaGSigCallshrows
import Derived.Test.YthhebinonpoddaaGSigCallshclone
import Derived.Test.YthhebinonpoddaaGSigCallshkept
namespace Go.Proofs.Ythhebinonpoddaa.GSigCalls
open Go.RowKit Go.Proofs.YthhebinonpoddaaW.PrintWords Go.Proofs.YthhebinonpoddaaW.PrintLast Go.Proofs.YthhebinonpoddaaW.PrintMore
attribute [local go_sem] max2_int min2_int max_two min_two max_three min_three max_four min_four   -- for this text's walks alone
set_option linter.unusedVariables false
set_option linter.unusedSimpArgs false

/-- A slot whose region is named by a list. -/
def sbx (names : List Int) (s : S115) : S115 := ⟨rd names s.f0, s.f1⟩
def okx (names : List Int) (s : S115) : Bool := decide (0 ≤ s.f0) && decide (s.f0 < (names.length : Int))
def row_Subst.f (l : List S115) (names : List Int) : Option (List S115 × Int) := if l.length < 1000000000 then (if l.all (okx names) = true then some (l.map (sbx names), 0) else some ([], 7)) else none
theorem okx_all {l : List S115} (p : S115 → Bool) (h : ∀ i : Nat, i < l.length → p (rd_T115 l (i : Int)) = true) : l.all p = true := by
  rw [List.all_eq_true]
  intro s hs
  obtain ⟨i, hi, rfl⟩ := List.getElem_of_mem hs
  have := h i hi
  unfold rd_T115 at this
  rwa [Int.toNat_natCast, List.getD_eq_getElem?_getD, List.getElem?_eq_getElem hi] at this
theorem not_okx_all {l : List S115} (p : S115 → Bool) {j : Int} (h0 : 0 ≤ j) (h1 : j < l.length) (h : p (rd_T115 l j) = false) : l.all p = false := by
  refine Bool.eq_false_iff.mpr (fun ha => ?_)
  have hj : j.toNat < l.length := by omega
  have := (List.all_eq_true.1 ha) l[j.toNat] (List.getElem_mem hj)
  unfold rd_T115 at h
  rw [List.getD_eq_getElem?_getD, List.getElem?_eq_getElem hj] at h
  rw [show (some l[j.toNat]).getD z115 = l[j.toNat] from rfl] at h
  rw [h] at this
  exact absurd this (by decide)
/-- So many slots are done. -/
def part_ (names : List Int) (l : List S115) (j : Int) : List S115 := (l.take j.toNat).map (sbx names) ++ l.drop j.toNat
theorem part_rd (names : List Int) (l : List S115) {j : Int} (h0 : 0 ≤ j) (h1 : j < l.length) : rd_T115 (part_ names l j) j = rd_T115 l j := by
  have hj : j.toNat < l.length := by omega
  unfold rd_T115 part_
  rw [List.getD_eq_getElem?_getD, List.getD_eq_getElem?_getD, List.getElem?_append_right (by simp; omega), List.length_map, List.length_take, Nat.min_eq_left (by omega), Nat.sub_self, List.getElem?_drop, Nat.add_zero]
theorem part_len (names : List Int) (l : List S115) (j : Int) : (part_ names l j).length = l.length := by
  unfold part_
  rw [List.length_append, List.length_map, List.length_take, List.length_drop]
  omega
theorem part_set (names : List Int) (l : List S115) {j : Int} (h0 : 0 ≤ j) (h1 : j < l.length) : (part_ names l j).set j.toNat (sbx names (rd_T115 l j)) = part_ names l (j + 1) := by
  have hj : j.toNat < l.length := by omega
  have e : (j + 1).toNat = j.toNat + 1 := by omega
  have r : rd_T115 l j = l[j.toNat] := by unfold rd_T115; rw [List.getD_eq_getElem?_getD, List.getElem?_eq_getElem hj]; rfl
  unfold part_
  rw [e, r, List.set_append_right _ _ (by simp; omega), List.length_map, List.length_take, Nat.min_eq_left (by omega), Nat.sub_self, List.drop_eq_getElem_cons hj, List.set_cons_zero, List.take_succ_eq_append_getElem hj, List.map_append, List.append_assoc]
  rfl
theorem part_all (names : List Int) (l : List S115) {j : Int} (h : (l.length : Int) ≤ j) : part_ names l j = l.map (sbx names) := by
  unfold part_
  rw [List.take_of_length_le (by omega), List.drop_eq_nil_of_le (by omega), List.append_nil]
set_option maxHeartbeats 16000000 in
set_option maxRecDepth 100000 in
theorem row_Subst.calls (A0_0 : Option Addr) (c0_0 : Nat) (l0_0 : List (S115)) (A1 : Option Addr) (c1 : Nat) (l1 : List Int) (r1 : List (S115)) (r2 : Int) (w : World) (hr0_0 : Kd.C k115 w A0_0 l0_0.length l0_0) (hc0_0 : l0_0.length ≤ c0_0) (hr1 : Kd.C (Kd.int .i64) w A1 l1.length l1) (hc1 : l1.length ≤ c1) (h : row_Subst.f l0_0 l1 = some (r1, r2)) :
    Calls Try.prog 91 #[.agg #[.slice A0_0 l0_0.length c0_0], .slice A1 l1.length c1] w fun e w' => ∃ v0_ : Value, e = .returned (.tuple #[.agg #[v0_], .int .i64 r2]) ∧ Kd.R k115 115 w' w.heap.size (fun _ => True) v0_ r1 ∧ Below w.heap.size w w' := by
  have hu3 := Try.underlying44
  have hu4 := Try.underlying115
  have hu5 := Try.underlying32
  have HS := Aside0.mk (Bks.start (Below.refl w.heap.size w))
  have HR := Aside0.mk (Rws.start (w0 := w) (W := w))
  have HN := Aside0.mk hr1
  have H := h
  unfold row_Subst.f at H
  by_cases cl : l0_0.length < 1000000000
  rotate_left
  · rw [if_neg cl] at H
    exact absurd H (by simp)
  rw [if_pos cl] at H
  have HH := Aside0.mk H
  have HC := Aside0.mk (fun (W : World) (hb : Below w.heap.size w W) => row_Clone.calls A0_0 c0_0 l0_0 l0_0 W (Kd.bW hr0_0 hb) hc0_0 (by unfold row_Clone.f api_Slot.f; rw [if_pos cl]; rfl))
  have CL := Aside0.mk cl
  clear h H hr0_0 hc0_0 hr1 hc1 cl
  obtain ⟨n, hn⟩ : ∃ n, n = l0_0.length := ⟨_, rfl⟩
  have NN := Aside0.mk hn
  clear hn
  go_enter Try.func91, Try.ntmps91
  go_upto_region 2 with (first | ((with_reducible refine bZ (N := 2) rfl ?_); refine bY ?hg (N := 2) ?hd (cs := #[.slice A0_0 l0_0.length c0_0]) (t := 44) ?hr ?_; (case hd => rfl); (case hg => rfl); (case hr => first | (go_simp; done) | (go_simp; rfl)); intro g2 hg2 wg2 xg2 bg2; have n_ := Aside0.mk (show Bks w wg2 [(g2, #[.slice A0_0 l0_0.length c0_0], 44)] from Bks.new HS.out hg2 xg2 bg2); have m_ := Aside0.mk (show Rws w wg2 [] from Rws.step HR.out bg2); clear HS HR; have HS := n_; have HR := m_; clear n_ m_; clear hg2 xg2 bg2; have c_g2_0 : wg2.cell? ⟨g2, 0, none⟩ = some (.slice A0_0 l0_0.length c0_0) := Bks.cell HS.out (i := 0) rfl 0 rfl; have f_g2 : ∀ j : Nat, wg2.frozen? ⟨g2, j, none⟩ = false := fun j => Bks.free HS.out (i := 0) rfl j) | ((with_reducible refine bZ (N := 4) rfl ?_); refine bY ?hg (N := 4) ?hd (cs := #[.slice none 0 0]) (t := 44) ?hr ?_; (case hd => rfl); (case hg => rfl); (case hr => first | (go_simp; done) | (go_simp; rfl)); intro g4 hg4 wg4 xg4 bg4; have n_ := Aside0.mk (show Bks w wg4 [(g2, #[.slice A0_0 l0_0.length c0_0], 44), (g4, #[.slice none 0 0], 44)] from Bks.new HS.out hg4 xg4 bg4); have m_ := Aside0.mk (show Rws w wg4 [] from Rws.step HR.out bg4); clear HS HR; clear c_g2_0 f_g2; have HS := n_; have HR := m_; clear n_ m_; clear hg4 xg4 bg4; have c_g2_0 : wg4.cell? ⟨g2, 0, none⟩ = some (.slice A0_0 l0_0.length c0_0) := Bks.cell HS.out (i := 0) rfl 0 rfl; have f_g2 : ∀ j : Nat, wg4.frozen? ⟨g2, j, none⟩ = false := fun j => Bks.free HS.out (i := 0) rfl j; have c_g4_0 : wg4.cell? ⟨g4, 0, none⟩ = some (.slice none 0 0) := Bks.cell HS.out (i := 1) rfl 0 rfl; have f_g4 : ∀ j : Nat, wg4.frozen? ⟨g4, j, none⟩ = false := fun j => Bks.free HS.out (i := 1) rfl j; have ne_g2_g4 : g2 ≠ g4 := Bks.ne HS.out 0 1 _ _ rfl rfl (by decide); have ne_g4_g2 : g4 ≠ g2 := Bks.ne HS.out 1 0 _ _ rfl rfl (by decide)) | (go_at_call 106; (with_reducible refine (HC.out _ HS.out.below).mono ?_); rintro e wc ⟨v1, rfl, ho, hb⟩; obtain ⟨Ar, kr, hv⟩ := Kd.R_slice ho; rw [← NN.out] at hv; subst hv; have HO := Aside0.mk (Kd.R_lower ho HS.out.below.size); clear ho; have n_ := Aside0.mk (show Bks w wc [(g2, #[.slice A0_0 l0_0.length c0_0], 44), (g4, #[.slice none 0 0], 44)] from Bks.step HS.out hb); have m_ := Aside0.mk (show Rws w wc [] from Rws.step HR.out hb); clear HS HR; clear c_g2_0 f_g2 c_g4_0 f_g4 ne_g2_g4 ne_g4_g2; have HS := n_; have HR := m_; clear n_ m_; clear hb; have c_g2_0 : wc.cell? ⟨g2, 0, none⟩ = some (.slice A0_0 l0_0.length c0_0) := Bks.cell HS.out (i := 0) rfl 0 rfl; have f_g2 : ∀ j : Nat, wc.frozen? ⟨g2, j, none⟩ = false := fun j => Bks.free HS.out (i := 0) rfl j; have c_g4_0 : wc.cell? ⟨g4, 0, none⟩ = some (.slice none 0 0) := Bks.cell HS.out (i := 1) rfl 0 rfl; have f_g4 : ∀ j : Nat, wc.frozen? ⟨g4, j, none⟩ = false := fun j => Bks.free HS.out (i := 1) rfl j; have ne_g2_g4 : g2 ≠ g4 := Bks.ne HS.out 0 1 _ _ rfl rfl (by decide); have ne_g4_g2 : g4 ≠ g2 := Bks.ne HS.out 1 0 _ _ rfl rfl (by decide)) | ((with_reducible refine bZ (N := 6) rfl ?_); refine bY ?hg (N := 6) ?hd (cs := #[.slice none 0 0]) (t := 44) ?hr ?_; (case hd => rfl); (case hg => rfl); (case hr => first | (go_simp; done) | (go_simp; rfl)); intro g6 hg6 wg6 xg6 bg6; have o_ := Aside0.mk (show Kd.R k115 115 wg6 w.heap.size (fun _ => True) (.slice Ar n kr) l0_0 from Kd.cC HO.out bg6); clear HO; have HO := o_; clear o_; have n_ := Aside0.mk (show Bks w wg6 [(g2, #[.slice A0_0 l0_0.length c0_0], 44), (g4, #[.slice none 0 0], 44), (g6, #[.slice none 0 0], 44)] from Bks.new HS.out hg6 xg6 bg6); have m_ := Aside0.mk (show Rws w wg6 [] from Rws.step HR.out bg6); clear HS HR; clear c_g2_0 f_g2 c_g4_0 f_g4 ne_g2_g4 ne_g4_g2; have HS := n_; have HR := m_; clear n_ m_; clear hg6 xg6 bg6; have c_g2_0 : wg6.cell? ⟨g2, 0, none⟩ = some (.slice A0_0 l0_0.length c0_0) := Bks.cell HS.out (i := 0) rfl 0 rfl; have f_g2 : ∀ j : Nat, wg6.frozen? ⟨g2, j, none⟩ = false := fun j => Bks.free HS.out (i := 0) rfl j; have c_g4_0 : wg6.cell? ⟨g4, 0, none⟩ = some (.slice none 0 0) := Bks.cell HS.out (i := 1) rfl 0 rfl; have f_g4 : ∀ j : Nat, wg6.frozen? ⟨g4, j, none⟩ = false := fun j => Bks.free HS.out (i := 1) rfl j; have c_g6_0 : wg6.cell? ⟨g6, 0, none⟩ = some (.slice none 0 0) := Bks.cell HS.out (i := 2) rfl 0 rfl; have f_g6 : ∀ j : Nat, wg6.frozen? ⟨g6, j, none⟩ = false := fun j => Bks.free HS.out (i := 2) rfl j; have ne_g2_g4 : g2 ≠ g4 := Bks.ne HS.out 0 1 _ _ rfl rfl (by decide); have ne_g2_g6 : g2 ≠ g6 := Bks.ne HS.out 0 2 _ _ rfl rfl (by decide); have ne_g4_g2 : g4 ≠ g2 := Bks.ne HS.out 1 0 _ _ rfl rfl (by decide); have ne_g4_g6 : g4 ≠ g6 := Bks.ne HS.out 1 2 _ _ rfl rfl (by decide); have ne_g6_g2 : g6 ≠ g2 := Bks.ne HS.out 2 0 _ _ rfl rfl (by decide); have ne_g6_g4 : g6 ≠ g4 := Bks.ne HS.out 2 1 _ _ rfl rfl (by decide)))
  have o_ := Aside0.mk (show Kd.R k115 115 (wg6.setCell ⟨g6, 0, none⟩ (.slice Ar n kr)) w.heap.size (fun _ => True) (.slice Ar n kr) l0_0 from (Kd.R_set HO.out ((HS.out).at_ 2 _ _ _ rfl).1 (by decide) 0 (.slice Ar n kr)))
  clear HO
  have HO := o_
  clear o_
  have n_ := Aside0.mk (show Bks w (wg6.setCell ⟨g6, 0, none⟩ (.slice Ar n kr)) [(g2, #[.slice A0_0 l0_0.length c0_0], 44), (g4, #[.slice none 0 0], 44), (g6, #[.slice Ar n kr], 44)] from (Bks.set HS.out (i := 2) rfl 0 (.slice Ar n kr)))
  have m_ := Aside0.mk (show Rws w (wg6.setCell ⟨g6, 0, none⟩ (.slice Ar n kr)) [] from (Rws.set HR.out HS.out (i := 2) rfl (by decide) 0 (.slice Ar n kr)))
  clear HS HR
  clear c_g2_0 f_g2 c_g4_0 f_g4 c_g6_0 f_g6 ne_g2_g4 ne_g2_g6 ne_g4_g2 ne_g4_g6 ne_g6_g2 ne_g6_g4
  generalize (wg6.setCell ⟨g6, 0, none⟩ (.slice Ar n kr)) = w2 at n_ m_ HO ⊢
  have HS := n_
  have HR := m_
  clear n_ m_
  have c_g2_0 : w2.cell? ⟨g2, 0, none⟩ = some (.slice A0_0 l0_0.length c0_0) := Bks.cell HS.out (i := 0) rfl 0 rfl
  have f_g2 : ∀ j : Nat, w2.frozen? ⟨g2, j, none⟩ = false := fun j => Bks.free HS.out (i := 0) rfl j
  have c_g4_0 : w2.cell? ⟨g4, 0, none⟩ = some (.slice none 0 0) := Bks.cell HS.out (i := 1) rfl 0 rfl
  have f_g4 : ∀ j : Nat, w2.frozen? ⟨g4, j, none⟩ = false := fun j => Bks.free HS.out (i := 1) rfl j
  have c_g6_0 : w2.cell? ⟨g6, 0, none⟩ = some (.slice Ar n kr) := Bks.cell HS.out (i := 2) rfl 0 rfl
  have f_g6 : ∀ j : Nat, w2.frozen? ⟨g6, j, none⟩ = false := fun j => Bks.free HS.out (i := 2) rfl j
  have ne_g2_g4 : g2 ≠ g4 := Bks.ne HS.out 0 1 _ _ rfl rfl (by decide)
  have ne_g2_g6 : g2 ≠ g6 := Bks.ne HS.out 0 2 _ _ rfl rfl (by decide)
  have ne_g4_g2 : g4 ≠ g2 := Bks.ne HS.out 1 0 _ _ rfl rfl (by decide)
  have ne_g4_g6 : g4 ≠ g6 := Bks.ne HS.out 1 2 _ _ rfl rfl (by decide)
  have ne_g6_g2 : g6 ≠ g2 := Bks.ne HS.out 2 0 _ _ rfl rfl (by decide)
  have ne_g6_g4 : g6 ≠ g4 := Bks.ne HS.out 2 1 _ _ rfl rfl (by decide)
  go_wp2
  clear HR c_g2_0 f_g2 c_g4_0 f_g4 c_g6_0 f_g6 ne_g2_g4 ne_g2_g6 ne_g4_g2 ne_g4_g6 ne_g6_g2 ne_g6_g4
  have HP0 := Aside0.mk (show Kd.R k115 115 w2 w.heap.size (fun _ => True) (.slice Ar n kr) (part_ l1 l0_0 0) from HO.out)
  go_loopg [14] n (fun kq v14 w' => ∃ j : Int, v14 = .int .i64 j ∧ Aside0 (0 ≤ j ∧ j + kq = n) ∧ Aside0 (∀ i : Nat, (i : Int) < j → okx l1 (rd_T115 l0_0 (i : Int)) = true) ∧ Aside0 (Bks w w' [(g2, #[.slice A0_0 l0_0.length c0_0], 44), (g4, #[.slice none 0 0], 44), (g6, #[.slice Ar n kr], 44)]) ∧ Aside0 (Kd.R k115 115 w' w.heap.size (fun _ => True) (.slice Ar n kr) (part_ l1 l0_0 j)))
  case atStart => exact ⟨0, rfl, ⟨⟨Int.le_refl _, Int.zero_add _⟩⟩, ⟨fun i hi => absurd hi (by omega)⟩, HS, HP0⟩
  case round =>
    clear HS HO HP0 HC
    obtain ⟨j, rfl, HJ, HA, HS, HO⟩ := hrel
    by_cases c1 : j < (n : Int)
    · obtain ⟨k1, rfl⟩ : ∃ k1, gk = k1 + 1 := ⟨gk - 1, by have := HJ.out; omega⟩
      have cj : j < (l0_0.length : Int) := by have := NN.out; omega
      have CJ := Aside0.mk cj
      have c1b : decide (j < (n : Int)) = true := decide_eq_true c1
      have hyl := part_len l1 l0_0 j
      obtain ⟨gr, capr, hv, _⟩ := Kd.R_form HO.out (by rw [hyl]; have := HJ.out; omega)
      have ev1 : Ar = some ⟨gr, 0, none⟩ := by injection hv
      clear hv
      subst ev1
      obtain ⟨cc, _, hcM, hcc, _⟩ := Kd.R_elem HO.out z115 j HJ.out.1 (by have := HJ.out; omega)
      rw [show (part_ l1 l0_0 j).getD j.toNat z115 = rd_T115 l0_0 j from part_rd l1 l0_0 HJ.out.1 cj] at hcM
      obtain rfl := k115_openM hcM
      have h10 : wr.cell? ⟨gr, j.toNat * 2, none⟩ = some (.int .i64 (rd_T115 l0_0 j).f0) := hcc 0 _ rfl
      have h11 : wr.cell? ⟨gr, j.toNat * 2 + 1, none⟩ = some (.bool (rd_T115 l0_0 j).f1) := hcc 1 _ rfl
      clear hcM hcc
      have hj : wrap64 (j + 1) = j + 1 := by have := CL.out; have := HJ.out; have := NN.out; unfold wrap64; omega
      generalize hx : rd_T115 l0_0 j = x at h10 h11
      have HX := Aside0.mk hx
      have p1 : (0 ≤ j) = True := eq_true HJ.out.1
      have q1 : (j < (n : Int)) = True := eq_true c1
      clear hx c1 cj hyl
      obtain ⟨y, hy⟩ : ∃ y, y = part_ l1 l0_0 j := ⟨_, rfl⟩
      have NY := Aside0.mk hy
      have o_ := Aside0.mk (show Kd.R k115 115 wr w.heap.size (fun _ => True) (.slice (some ⟨gr, 0, none⟩) n kr) y by rw [hy]; exact HO.out)
      clear HO hy
      have HO := o_
      clear o_
      have HR := Aside0.mk (Rws.start (w0 := w) (W := wr))
      have c_g2_0 : wr.cell? ⟨g2, 0, none⟩ = some (.slice A0_0 l0_0.length c0_0) := Bks.cell HS.out (i := 0) rfl 0 rfl
      have f_g2 : ∀ j : Nat, wr.frozen? ⟨g2, j, none⟩ = false := fun j => Bks.free HS.out (i := 0) rfl j
      have c_g4_0 : wr.cell? ⟨g4, 0, none⟩ = some (.slice none 0 0) := Bks.cell HS.out (i := 1) rfl 0 rfl
      have f_g4 : ∀ j : Nat, wr.frozen? ⟨g4, j, none⟩ = false := fun j => Bks.free HS.out (i := 1) rfl j
      have c_g6_0 : wr.cell? ⟨g6, 0, none⟩ = some (.slice (some ⟨gr, 0, none⟩) n kr) := Bks.cell HS.out (i := 2) rfl 0 rfl
      have f_g6 : ∀ j : Nat, wr.frozen? ⟨g6, j, none⟩ = false := fun j => Bks.free HS.out (i := 2) rfl j
      have ne_g2_g4 : g2 ≠ g4 := Bks.ne HS.out 0 1 _ _ rfl rfl (by decide)
      have ne_g2_g6 : g2 ≠ g6 := Bks.ne HS.out 0 2 _ _ rfl rfl (by decide)
      have ne_g4_g2 : g4 ≠ g2 := Bks.ne HS.out 1 0 _ _ rfl rfl (by decide)
      have ne_g4_g6 : g4 ≠ g6 := Bks.ne HS.out 1 2 _ _ rfl rfl (by decide)
      have ne_g6_g2 : g6 ≠ g2 := Bks.ne HS.out 2 0 _ _ rfl rfl (by decide)
      have ne_g6_g4 : g6 ≠ g4 := Bks.ne HS.out 2 1 _ _ rfl rfl (by decide)
      go_upto_region 5 with (first | ((with_reducible refine bZ (N := 8) rfl ?_); refine bY ?hg (N := 8) ?hd (cs := #[.int .i64 0, .bool false]) (t := 115) ?hr ?_; (case hd => rfl); (case hg => rfl); (case hr => first | (go_simp; done) | (go_simp; rfl)); intro g8 hg8 wg8 xg8 bg8; have o_ := Aside0.mk (show Kd.R k115 115 wg8 w.heap.size (fun k => True ∧ k ≠ g8) (.slice (some ⟨gr, 0, none⟩) n kr) y from Kd.cC (Kd.R_elderB HO.out g8 (Nat.le_of_eq hg8.symm)) bg8); clear HO; have HO := o_; clear o_; have n_ := Aside0.mk (show Bks w wg8 [(g2, #[.slice A0_0 l0_0.length c0_0], 44), (g4, #[.slice none 0 0], 44), (g6, #[.slice (some ⟨gr, 0, none⟩) n kr], 44), (g8, #[.int .i64 0, .bool false], 115)] from Bks.new HS.out hg8 xg8 bg8); have m_ := Aside0.mk (show Rws w wg8 [] from Rws.step HR.out bg8); clear HS HR; clear c_g2_0 f_g2 c_g4_0 f_g4 c_g6_0 f_g6 ne_g2_g4 ne_g2_g6 ne_g4_g2 ne_g4_g6 ne_g6_g2 ne_g6_g4; have HS := n_; have HR := m_; clear n_ m_; clear hg8 xg8 bg8; have c_g2_0 : wg8.cell? ⟨g2, 0, none⟩ = some (.slice A0_0 l0_0.length c0_0) := Bks.cell HS.out (i := 0) rfl 0 rfl; have f_g2 : ∀ j : Nat, wg8.frozen? ⟨g2, j, none⟩ = false := fun j => Bks.free HS.out (i := 0) rfl j; have c_g4_0 : wg8.cell? ⟨g4, 0, none⟩ = some (.slice none 0 0) := Bks.cell HS.out (i := 1) rfl 0 rfl; have f_g4 : ∀ j : Nat, wg8.frozen? ⟨g4, j, none⟩ = false := fun j => Bks.free HS.out (i := 1) rfl j; have c_g6_0 : wg8.cell? ⟨g6, 0, none⟩ = some (.slice (some ⟨gr, 0, none⟩) n kr) := Bks.cell HS.out (i := 2) rfl 0 rfl; have f_g6 : ∀ j : Nat, wg8.frozen? ⟨g6, j, none⟩ = false := fun j => Bks.free HS.out (i := 2) rfl j; have c_g8_0 : wg8.cell? ⟨g8, 0, none⟩ = some (.int .i64 0) := Bks.cell HS.out (i := 3) rfl 0 rfl; have c_g8_1 : wg8.cell? ⟨g8, 1, none⟩ = some (.bool false) := Bks.cell HS.out (i := 3) rfl 1 rfl; have f_g8 : ∀ j : Nat, wg8.frozen? ⟨g8, j, none⟩ = false := fun j => Bks.free HS.out (i := 3) rfl j; have ne_g2_g4 : g2 ≠ g4 := Bks.ne HS.out 0 1 _ _ rfl rfl (by decide); have ne_g2_g6 : g2 ≠ g6 := Bks.ne HS.out 0 2 _ _ rfl rfl (by decide); have ne_g2_g8 : g2 ≠ g8 := Bks.ne HS.out 0 3 _ _ rfl rfl (by decide); have ne_g4_g2 : g4 ≠ g2 := Bks.ne HS.out 1 0 _ _ rfl rfl (by decide); have ne_g4_g6 : g4 ≠ g6 := Bks.ne HS.out 1 2 _ _ rfl rfl (by decide); have ne_g4_g8 : g4 ≠ g8 := Bks.ne HS.out 1 3 _ _ rfl rfl (by decide); have ne_g6_g2 : g6 ≠ g2 := Bks.ne HS.out 2 0 _ _ rfl rfl (by decide); have ne_g6_g4 : g6 ≠ g4 := Bks.ne HS.out 2 1 _ _ rfl rfl (by decide); have ne_g6_g8 : g6 ≠ g8 := Bks.ne HS.out 2 3 _ _ rfl rfl (by decide); have ne_g8_g2 : g8 ≠ g2 := Bks.ne HS.out 3 0 _ _ rfl rfl (by decide); have ne_g8_g4 : g8 ≠ g4 := Bks.ne HS.out 3 1 _ _ rfl rfl (by decide); have ne_g8_g6 : g8 ≠ g6 := Bks.ne HS.out 3 2 _ _ rfl rfl (by decide)))
      have o_ := Aside0.mk (show Kd.R k115 115 ((wg8.setCell ⟨g8, 0, none⟩ (.int .i64 x.f0)).setCell ⟨g8, 1, none⟩ (.bool x.f1)) w.heap.size (fun k => True ∧ k ≠ g8) (.slice (some ⟨gr, 0, none⟩) n kr) y from (Kd.R_far (p := ⟨g8, 1, none⟩) (Kd.R_far (p := ⟨g8, 0, none⟩) HO.out (fun _ hk => hk.2) (.int .i64 x.f0)) (fun _ hk => hk.2) (.bool x.f1)))
      clear HO
      have HO := o_
      clear o_
      have n_ := Aside0.mk (show Bks w ((wg8.setCell ⟨g8, 0, none⟩ (.int .i64 x.f0)).setCell ⟨g8, 1, none⟩ (.bool x.f1)) [(g2, #[.slice A0_0 l0_0.length c0_0], 44), (g4, #[.slice none 0 0], 44), (g6, #[.slice (some ⟨gr, 0, none⟩) n kr], 44), (g8, #[.int .i64 x.f0, .bool x.f1], 115)] from (Bks.set (Bks.set HS.out (i := 3) rfl 0 (.int .i64 x.f0)) (i := 3) rfl 1 (.bool x.f1)))
      have m_ := Aside0.mk (show Rws w ((wg8.setCell ⟨g8, 0, none⟩ (.int .i64 x.f0)).setCell ⟨g8, 1, none⟩ (.bool x.f1)) [] from (Rws.set (Rws.set HR.out HS.out (i := 3) rfl (by decide) 0 (.int .i64 x.f0)) (Bks.set HS.out (i := 3) rfl 0 (.int .i64 x.f0)) (i := 3) rfl (by decide) 1 (.bool x.f1)))
      clear HS HR
      clear c_g2_0 f_g2 c_g4_0 f_g4 c_g6_0 f_g6 c_g8_0 c_g8_1 f_g8 ne_g2_g4 ne_g2_g6 ne_g2_g8 ne_g4_g2 ne_g4_g6 ne_g4_g8 ne_g6_g2 ne_g6_g4 ne_g6_g8 ne_g8_g2 ne_g8_g4 ne_g8_g6
      generalize ((wg8.setCell ⟨g8, 0, none⟩ (.int .i64 x.f0)).setCell ⟨g8, 1, none⟩ (.bool x.f1)) = w5 at n_ m_ HO ⊢
      have HS := n_
      have HR := m_
      clear n_ m_
      have c_g2_0 : w5.cell? ⟨g2, 0, none⟩ = some (.slice A0_0 l0_0.length c0_0) := Bks.cell HS.out (i := 0) rfl 0 rfl
      have f_g2 : ∀ j : Nat, w5.frozen? ⟨g2, j, none⟩ = false := fun j => Bks.free HS.out (i := 0) rfl j
      have c_g4_0 : w5.cell? ⟨g4, 0, none⟩ = some (.slice none 0 0) := Bks.cell HS.out (i := 1) rfl 0 rfl
      have f_g4 : ∀ j : Nat, w5.frozen? ⟨g4, j, none⟩ = false := fun j => Bks.free HS.out (i := 1) rfl j
      have c_g6_0 : w5.cell? ⟨g6, 0, none⟩ = some (.slice (some ⟨gr, 0, none⟩) n kr) := Bks.cell HS.out (i := 2) rfl 0 rfl
      have f_g6 : ∀ j : Nat, w5.frozen? ⟨g6, j, none⟩ = false := fun j => Bks.free HS.out (i := 2) rfl j
      have c_g8_0 : w5.cell? ⟨g8, 0, none⟩ = some (.int .i64 x.f0) := Bks.cell HS.out (i := 3) rfl 0 rfl
      have c_g8_1 : w5.cell? ⟨g8, 1, none⟩ = some (.bool x.f1) := Bks.cell HS.out (i := 3) rfl 1 rfl
      have f_g8 : ∀ j : Nat, w5.frozen? ⟨g8, j, none⟩ = false := fun j => Bks.free HS.out (i := 3) rfl j
      have ne_g2_g4 : g2 ≠ g4 := Bks.ne HS.out 0 1 _ _ rfl rfl (by decide)
      have ne_g2_g6 : g2 ≠ g6 := Bks.ne HS.out 0 2 _ _ rfl rfl (by decide)
      have ne_g2_g8 : g2 ≠ g8 := Bks.ne HS.out 0 3 _ _ rfl rfl (by decide)
      have ne_g4_g2 : g4 ≠ g2 := Bks.ne HS.out 1 0 _ _ rfl rfl (by decide)
      have ne_g4_g6 : g4 ≠ g6 := Bks.ne HS.out 1 2 _ _ rfl rfl (by decide)
      have ne_g4_g8 : g4 ≠ g8 := Bks.ne HS.out 1 3 _ _ rfl rfl (by decide)
      have ne_g6_g2 : g6 ≠ g2 := Bks.ne HS.out 2 0 _ _ rfl rfl (by decide)
      have ne_g6_g4 : g6 ≠ g4 := Bks.ne HS.out 2 1 _ _ rfl rfl (by decide)
      have ne_g6_g8 : g6 ≠ g8 := Bks.ne HS.out 2 3 _ _ rfl rfl (by decide)
      have ne_g8_g2 : g8 ≠ g2 := Bks.ne HS.out 3 0 _ _ rfl rfl (by decide)
      have ne_g8_g4 : g8 ≠ g4 := Bks.ne HS.out 3 1 _ _ rfl rfl (by decide)
      have ne_g8_g6 : g8 ≠ g6 := Bks.ne HS.out 3 2 _ _ rfl rfl (by decide)
      clear h10 h11
      by_cases ok : okx l1 x = true
      · have OK := Aside0.mk ok
        unfold okx at ok
        rw [Bool.and_eq_true, decide_eq_true_eq, decide_eq_true_eq] at ok
        obtain ⟨o1, o2⟩ := ok
        have b1 : decide (x.f0 < 0) = false := decide_eq_false (by omega)
        have b2 : decide (x.f0 ≥ (l1.length : Int)) = false := decide_eq_false (by omega)
        obtain ⟨adn, en, hn⟩ := Kd.at_int HN.out x.f0 o1 o2
        cases en
        have KN : ∀ W, Below w.heap.size w W → W.cell? _ = some _ := fun W hb => (hb.cell (World.block_lt_of_cell? w _ hn)).trans hn
        have p2 : (0 ≤ x.f0) = True := eq_true o1
        have q2 : (x.f0 < (l1.length : Int)) = True := eq_true o2
        clear hn o1 o2
        go_upto_region 7 with fail
        clear HR b1 b2 c_g2_0 f_g2 c_g4_0 f_g4 c_g6_0 f_g6 c_g8_0 c_g8_1 f_g8 ne_g2_g4 ne_g2_g6 ne_g2_g8 ne_g4_g2 ne_g4_g6 ne_g4_g8 ne_g6_g2 ne_g6_g4 ne_g6_g8 ne_g8_g2 ne_g8_g4 ne_g8_g6
        have n_ := Aside0.mk (show Bks w (World.drew w5) [(g2, #[.slice A0_0 l0_0.length c0_0], 44), (g4, #[.slice none 0 0], 44), (g6, #[.slice (some ⟨gr, 0, none⟩) n kr], 44), (g8, #[.int .i64 x.f0, .bool x.f1], 115)] from Bks.drew HS.out)
        have o_ := Aside0.mk (Kd.bT HO.out)
        clear HS HO
        have HS := n_
        have HO := o_
        clear n_ o_
        refine start_ (n := 11) (S := fun w' => w'.cell? ⟨g6, 0, none⟩ = some (.slice (some ⟨gr, 0, none⟩) n kr) ∧ w'.cell? ⟨g8, 0, none⟩ = some (.int .i64 x.f0) ∧ w'.cell? (adn.add x.f0.toNat) = some (.int .i64 (rd l1 x.f0))) (ds := [10]) #[false, false, false, false, false, false, false, false, false, false, false] (by kernel_rfl) rfl rfl ⟨Bks.cell HS.out (i := 2) rfl 0 rfl, Bks.cell HS.out (i := 3) rfl 0 rfl, KN _ HS.out.below⟩ (fun hHeld => ?_)
        generalize World.drew w5 = w6 at HS HO hHeld ⊢
        refine bX (i := 0) (N := some 30) (v := ?_) (a' := ?_) #[true, false, false, false, false, false, false, false, false, false, false] rfl rfl (by kernel_rfl) (fun _ _ _ h => h) (Or.inl ⟨by rfl, ?_⟩) ?_ ?_
        rotate_left
        · intro w'
          go_simp
          with_reducible rfl
        rotate_left
        · simp only [Act.put, sZ1, sZ2, sZ3, bN, bP]
          rfl
        refine bX (i := 2) (N := some 32) (v := ?_) (a' := ?_) #[true, false, true, false, false, false, false, false, false, false, false] rfl rfl (by kernel_rfl) (fun _ _ _ h => h) (Or.inl ⟨by rfl, ?_⟩) ?_ ?_
        rotate_left
        · intro w'
          go_simp
          with_reducible rfl
        rotate_left
        · simp only [Act.put, sZ1, sZ2, sZ3, bN, bP]
          rfl
        refine bX (i := 3) (N := some 33) (v := ?_) (a' := ?_) #[true, false, true, true, false, false, false, false, false, false, false] rfl rfl (by kernel_rfl) (fun _ _ _ h => h) (Or.inl ⟨by rfl, ?_⟩) ?_ ?_
        rotate_left
        · intro w'
          go_simp
          with_reducible rfl
        rotate_left
        · simp only [Act.put, sZ1, sZ2, sZ3, bN, bP]
          rfl
        refine bX (i := 4) (N := some 34) (v := ?_) (a' := ?_) #[true, false, true, true, true, false, false, false, false, false, false] rfl rfl (by kernel_rfl) (fun _ _ _ h => h) (Or.inl ⟨by rfl, ?_⟩) ?_ ?_
        rotate_left
        · intro w'
          go_simp
          with_reducible rfl
        rotate_left
        · simp only [Act.put, sZ1, sZ2, sZ3, bN, bP]
          rfl
        refine take_ (i := 1) (N := some 31) (v := ?_) (a' := ?_) #[true, true, true, true, true, false, false, false, false, false, false] rfl rfl (by kernel_rfl) (fun _ _ _ h => h) (Or.inl ⟨by rfl, ?_⟩) hHeld ?_ ?_
        rotate_left
        · rintro w' ⟨s0, s1, s2⟩
          go_simp
          with_reducible rfl
        rotate_left
        · simp only [Act.put, sZ1, sZ2, sZ3, bN, bP]
          rfl
        refine take_ (i := 5) (N := some 35) (v := ?_) (a' := ?_) #[true, true, true, true, true, true, false, false, false, false, false] rfl rfl (by kernel_rfl) (fun _ _ _ h => h) (Or.inl ⟨by rfl, ?_⟩) hHeld ?_ ?_
        rotate_left
        · rintro w' ⟨s0, s1, s2⟩
          go_simp
          with_reducible rfl
        rotate_left
        · simp only [Act.put, sZ1, sZ2, sZ3, bN, bP]
          rfl
        refine bX (i := 6) (N := some 36) (v := ?_) (a' := ?_) #[true, true, true, true, true, true, true, false, false, false, false] rfl rfl (by kernel_rfl) (fun _ _ _ h => h) (Or.inl ⟨by rfl, ?_⟩) ?_ ?_
        rotate_left
        · intro w'
          go_simp
          with_reducible rfl
        rotate_left
        · simp only [Act.put, sZ1, sZ2, sZ3, bN, bP]
          rfl
        refine take_ (i := 7) (N := some 37) (v := ?_) (a' := ?_) #[true, true, true, true, true, true, true, true, false, false, false] rfl rfl (by kernel_rfl) (fun _ _ _ h => h) (Or.inl ⟨by rfl, ?_⟩) hHeld ?_ ?_
        rotate_left
        · rintro w' ⟨s0, s1, s2⟩
          go_simp
          with_reducible rfl
        rotate_left
        · simp only [Act.put, sZ1, sZ2, sZ3, bN, bP]
          rfl
        refine bX (i := 8) (N := some 38) (v := ?_) (a' := ?_) #[true, true, true, true, true, true, true, true, true, false, false] rfl rfl (by kernel_rfl) (fun _ _ _ h => h) (Or.inl ⟨by rfl, ?_⟩) ?_ ?_
        rotate_left
        · intro w'
          go_simp
          with_reducible rfl
        rotate_left
        · simp only [Act.put, sZ1, sZ2, sZ3, bN, bP]
          rfl
        refine bX (i := 9) (N := some 39) (v := ?_) (a' := ?_) #[true, true, true, true, true, true, true, true, true, true, false] rfl rfl (by kernel_rfl) (fun _ _ _ h => h) (Or.inl ⟨by rfl, ?_⟩) ?_ ?_
        rotate_left
        · intro w'
          go_simp
          with_reducible rfl
        rotate_left
        · simp only [Act.put, sZ1, sZ2, sZ3, bN, bP]
          rfl
        have hlen : j < ((n : Nat) : Int) := by have := CJ.out; have := NN.out; omega
        obtain ⟨cc, hcl, hcM, hcc, hcf⟩ := Kd.R_elem HO.out z115 j HJ.out.1 hlen
        have hf := hcf 0
        rw [show j.toNat * k115.sz + 0 = j.toNat * 2 from rfl] at hf
        have hxx : y.getD j.toNat z115 = x := by rw [NY.out]; exact (part_rd l1 l0_0 HJ.out.1 CJ.out).trans HX.out
        rw [hxx] at hcM
        obtain rfl := k115_openM hcM
        have hseg := Kd.R_seg HO.out j HJ.out.1 hlen (seg := [.int .i64 (rd l1 x.f0)]) (j := 0) hcl hcc (show 0 + 1 ≤ 2 from by decide) (x' := sbx l1 x) (k115_mkM _ _ _ (sbx l1 x)) (fun _ hk => hk)
        have hc0 : w6.cell? ⟨gr, j.toNat * 2, none⟩ = some (.int .i64 x.f0) := hcc 0 _ rfl
        refine last_ (i := 10) (N := none) #[true, true, true, true, true, true, true, true, true, true, true] rfl rfl (by kernel_rfl) (by decide) (fun K hK => ?_)
        refine skip_ (w1 := (w6.setCell ⟨gr, j.toNat * 2, none⟩ (.int .i64 (rd l1 x.f0)))) (by rfl) rfl (by first | (go_simp; done) | (go_simp; rfl)) ?_
        refine hK.out _ _ ?_
        clear hK K
        refine done_ (by kernel_rfl) ?_
        have s := Aside0.mk hseg.1
        have gw := Aside0.mk (show w6.grownBy (w6.setCell ⟨gr, j.toNat * 2, none⟩ (.int .i64 (rd l1 x.f0))) (some gr) from hseg.2)
        clear hseg hcl hcc hcf hf hc0 hcM
        have hgr : w.heap.size ≤ gr := Kd.R_base HO.out gr rfl
        have n_ := Aside0.mk (show Bks w (w6.setCell ⟨gr, j.toNat * 2, none⟩ (.int .i64 (rd l1 x.f0))) [(g2, #[.slice A0_0 l0_0.length c0_0], 44), (g4, #[.slice none 0 0], 44), (g6, #[.slice (some ⟨gr, 0, none⟩) n kr], 44), (g8, #[.int .i64 x.f0, .bool x.f1], 115)] from Bks.keptA HS.out (Kept.of_grown (S := fun k => some gr = some k) gw.out (Kept.refl w6 _) (fun k e => .inl e)) (bD HS.out.below hgr) (by intro p hp; simp only [List.mem_cons, List.not_mem_nil, or_false] at hp; rcases hp with rfl | rfl | rfl | rfl; (· exact fun e => Kd.R_ne HO.out (HS.out.at_ 0 _ _ _ rfl).1 (by decide) e.symm); (· exact fun e => Kd.R_ne HO.out (HS.out.at_ 1 _ _ _ rfl).1 (by decide) e.symm); (· exact fun e => Kd.R_ne HO.out (HS.out.at_ 2 _ _ _ rfl).1 (by decide) e.symm); (· exact fun e => Kd.R_away HO.out (fun _ hk => hk.2) e.symm)))
        clear HS gw
        have HS := n_
        clear n_
        go_wp2
        go_roundg k1
        case measure => omega
        case rel =>
          refine ⟨j + 1, by first | rfl | rw [hj], ⟨by have := HJ.out; omega⟩, ⟨fun i hi => ?_⟩, ⟨Bks.pre (m := [_]) HS.out⟩, ⟨?_⟩⟩
          · by_cases hij : (i : Int) = j
            · rw [hij, HX.out]
              exact OK.out
            · exact HA.out i (by omega)
          · rw [← part_set l1 l0_0 HJ.out.1 CJ.out, HX.out, ← NY.out]
            exact Kd.R_mono s.out (fun _ _ => trivial)
      · have OK := Aside0.mk (Bool.eq_false_iff.mpr ok)
        have H := HH.out
        rw [if_neg (by rw [not_okx_all (okx l1) HJ.out.1 CJ.out (by rw [HX.out]; exact OK.out)]; decide)] at H
        simp only [Option.some.injEq, Prod.mk.injEq] at H
        obtain ⟨rfl, rfl⟩ := H
        clear HH ok
        by_cases b1 : x.f0 < 0
        · have b1b : decide (x.f0 < 0) = true := decide_eq_true b1
          clear b1
          go_wp2
          have s := Aside0.mk (Bks.set HS.out (i := 1) rfl 0 (.slice none 0 0))
          refine bodyPost_ret (results_ct rfl _ _ g4 44 #[.slice none 0 0] (0, 0) _ rfl (s.out.at_ 1 _ _ _ rfl).1 Try.underlying44 rfl (by kernel_rfl)) rfl ?_
          exact ⟨_, rfl, Kd.R_nil _ _ _ _ _, s.out.below⟩
        · have b1b : decide (x.f0 < 0) = false := decide_eq_false b1
          have b2b : decide (x.f0 ≥ (l1.length : Int)) = true := by
            have := OK.out
            unfold okx at this
            rw [Bool.and_eq_false_iff, decide_eq_false_iff_not, decide_eq_false_iff_not] at this
            exact decide_eq_true (by omega)
          clear b1
          go_wp2
          have s := Aside0.mk (Bks.set HS.out (i := 1) rfl 0 (.slice none 0 0))
          refine bodyPost_ret (results_ct rfl _ _ g4 44 #[.slice none 0 0] (0, 0) _ rfl (s.out.at_ 1 _ _ _ rfl).1 Try.underlying44 rfl (by kernel_rfl)) rfl ?_
          exact ⟨_, rfl, Kd.R_nil _ _ _ _ _, s.out.below⟩
    · have c1b : decide (j < (n : Int)) = false := decide_eq_false c1
      have hall : l0_0.all (okx l1) = true := okx_all (okx l1) (fun i hi => HA.out i (by have := NN.out; omega))
      have H := HH.out
      rw [if_pos hall] at H
      simp only [Option.some.injEq, Prod.mk.injEq] at H
      obtain ⟨rfl, rfl⟩ := H
      clear HH hall
      have o_ := Aside0.mk (show Kd.R k115 115 wr w.heap.size (fun _ => True) (.slice Ar n kr) (l0_0.map (sbx l1)) by rw [← part_all l1 l0_0 (j := j) (by have := NN.out; omega)]; exact HO.out)
      clear HO
      have HO := o_
      clear o_ c1
      have c_g2_0 : wr.cell? ⟨g2, 0, none⟩ = some (.slice A0_0 l0_0.length c0_0) := Bks.cell HS.out (i := 0) rfl 0 rfl
      have f_g2 : ∀ j : Nat, wr.frozen? ⟨g2, j, none⟩ = false := fun j => Bks.free HS.out (i := 0) rfl j
      have c_g4_0 : wr.cell? ⟨g4, 0, none⟩ = some (.slice none 0 0) := Bks.cell HS.out (i := 1) rfl 0 rfl
      have f_g4 : ∀ j : Nat, wr.frozen? ⟨g4, j, none⟩ = false := fun j => Bks.free HS.out (i := 1) rfl j
      have c_g6_0 : wr.cell? ⟨g6, 0, none⟩ = some (.slice Ar n kr) := Bks.cell HS.out (i := 2) rfl 0 rfl
      have f_g6 : ∀ j : Nat, wr.frozen? ⟨g6, j, none⟩ = false := fun j => Bks.free HS.out (i := 2) rfl j
      have ne_g2_g4 : g2 ≠ g4 := Bks.ne HS.out 0 1 _ _ rfl rfl (by decide)
      have ne_g2_g6 : g2 ≠ g6 := Bks.ne HS.out 0 2 _ _ rfl rfl (by decide)
      have ne_g4_g2 : g4 ≠ g2 := Bks.ne HS.out 1 0 _ _ rfl rfl (by decide)
      have ne_g4_g6 : g4 ≠ g6 := Bks.ne HS.out 1 2 _ _ rfl rfl (by decide)
      have ne_g6_g2 : g6 ≠ g2 := Bks.ne HS.out 2 0 _ _ rfl rfl (by decide)
      have ne_g6_g4 : g6 ≠ g4 := Bks.ne HS.out 2 1 _ _ rfl rfl (by decide)
      go_wp2
      have s := Aside0.mk (Bks.set HS.out (i := 1) rfl 0 (.slice Ar n kr))
      refine bodyPost_ret (results_ct rfl _ _ g4 44 #[.slice Ar n kr] (0, 0) _ rfl (s.out.at_ 1 _ _ _ rfl).1 Try.underlying44 rfl (by kernel_rfl)) rfl ?_
      exact ⟨_, rfl, Kd.R_set HO.out (HS.out.at_ 1 _ _ _ rfl).1 (by decide) 0 _, s.out.below⟩

end Go.Proofs.Ythhebinonpoddaa.GSigCalls
