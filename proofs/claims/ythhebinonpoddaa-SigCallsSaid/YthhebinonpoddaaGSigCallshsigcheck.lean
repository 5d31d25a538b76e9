/- Written for this claim by gp.py, a program of this session's, over the kit's print. Lean checks it. -/
import Derived.Test.YthhebinonpoddaaGSigCallsx0
import Derived.Test.YthhebinonpoddaaGSigCallsx2
import Derived.Test.YthhebinonpoddaaGSigCallshx
import Derived.Test.YthhebinonpoddaaGSigCallshrows
import Derived.Test.YthhebinonpoddaaGSigCallshkept
namespace Go.Proofs.Ythhebinonpoddaa.GSigCalls
open Go.RowKit Go.Proofs.YthhebinonpoddaaW.PrintWords Go.Proofs.YthhebinonpoddaaW.PrintLast Go.Proofs.YthhebinonpoddaaW.PrintMore
attribute [local go_sem] max2_int min2_int max_two min_two max_three min_three max_four min_four   -- for this text's walks alone
set_option linter.unusedVariables false
set_option linter.unusedSimpArgs false

/-! types as values in a row -/
def slv (x : Option Addr × Nat × Nat) : Value := .slice x.1 x.2.1 x.2.2
def kTy : Kd (Option Addr × Nat × Nat) := Kd.scalar slv (fun _ => rfl)
def zTy : Option Addr × Nat × Nat := (none, 0, 0)
/-- A value that leads to a type's slots. -/
def gdT (w : World) (t : Option Addr × Nat × Nat) (l : List S115) : Prop := t.2.1 = l.length ∧ t.2.1 ≤ t.2.2 ∧ Kd.C k115 w t.1 l.length l
theorem types_read {w : World} {A : Option Addr} {l : List S44} (h : Kd.C k44 w A l.length l) : ∃ ts : List (Option Addr × Nat × Nat), ts.length = l.length ∧ ReadsOf slv zTy w A l.length ts ∧ ∀ i (hi : i < l.length), gdT w (ts.getD i zTy) l[i].f0 := by
  have hm := Kd.C_max h
  rcases Nat.eq_zero_or_pos l.length with h0 | h0
  · refine ⟨[], by rw [h0]; rfl, ⟨by rw [h0]; rfl, hm, fun hp => by omega⟩, fun i hi => by omega⟩
  obtain ⟨ad, _, _, e, _⟩ := at_T44 h 0 (by omega) (by omega)
  subst e
  have each : ∀ i, i < l.length → ∃ t : Option Addr × Nat × Nat, w.cell? (ad.add i) = some (slv t) ∧ ∀ hi : i < l.length, gdT w t l[i].f0 := by
    intro i hi
    obtain ⟨ad', A0, c0, e, hc, hl, hC⟩ := at_T44 h (i : Int) (by omega) (by omega)
    injection e with e
    subst e
    rw [Int.toNat_natCast] at hc
    have hr : rd_T44 l (i : Int) = l[i] := by unfold rd_T44; rw [Int.toNat_natCast, List.getD_eq_getElem?_getD, List.getElem?_eq_getElem hi]; rfl
    rw [hr] at hc hl hC
    exact ⟨(A0, l[i].f0.length, c0), hc, fun _ => ⟨rfl, hl, hC⟩⟩
  have hget : ∀ i, (hi : i < l.length) → ((List.range l.length).map (fun i => if h : i < l.length then Classical.choose (each i h) else zTy)).getD i zTy = Classical.choose (each i hi) := by
    intro i hi
    rw [List.getD_eq_getElem?_getD, List.getElem?_map, List.getElem?_range hi]
    simp [hi]
  refine ⟨(List.range l.length).map (fun i => if h : i < l.length then Classical.choose (each i h) else zTy), by simp, ⟨by simp, hm, fun _ => ⟨ad, rfl, fun j hj => ?_⟩⟩, fun i hi => ?_⟩
  · rw [hget j hj]
    exact (Classical.choose_spec (each j hj)).1
  · rw [hget i hi]
    exact (Classical.choose_spec (each i hi)).2 hi
/-! may a signature be -/
def badB (p : Int) (b : S117) : Bool := decide (b.f0 < 0) || (decide (b.f0 ≥ p) || (decide (b.f1 < 0) || decide (b.f1 ≥ p)))
def rck (p : Int) (l : List S115) : Int := if (l.length : Int) > 16 then 6 else if l.all (fun s => decide (0 ≤ s.f0) && decide (s.f0 < p)) = true then 0 else 7
def firstErr (p : Int) : List (List S115) → Int
  | [] => 0
  | l :: r => if rck p l = 0 then firstErr p r else rck p l
def sig_Check.f (p : Int) (bs : List S117) (tys : List S44) (ret : List S115) : Option Int :=
  some (if p < 0 then 7 else if p > 16 ∨ (bs.length : Int) > 16 ∨ (tys.length : Int) > 16 then 6 else if bs.any (badB p) = true then 7 else firstErr p (tys.map (fun t => t.f0) ++ [ret]))
theorem rck_loop (p : Int) (l : List S115) (hl : l.length ≤ 16) : ∀ (d i : Nat), i + d = l.length → row_Check.l0 (d + 1) p l (l.length : Int) (i : Int) = some (if (l.drop i).all (fun s => decide (0 ≤ s.f0) && decide (s.f0 < p)) = true then 0 else 7)
  | 0, i, hd => by
    simp only [row_Check.l0]
    rw [if_neg (by omega), List.drop_eq_nil_of_le (by omega)]
    rfl
  | d + 1, i, hd => by
    have ih := rck_loop p l hl d (i + 1) (by omega)
    generalize d + 1 = D at ih
    simp only [row_Check.l0]
    have hi : i < l.length := by omega
    have e1 : wrap64 ((i : Int) + 1) = ((i + 1 : Nat) : Int) := by unfold wrap64; omega
    have hr : rd_T115 l (i : Int) = l[i] := by unfold rd_T115; rw [Int.toNat_natCast, List.getD_eq_getElem?_getD, List.getElem?_eq_getElem hi]; rfl
    rw [if_pos (by omega), if_pos (by omega), if_pos (by omega), hr, e1, ih, List.drop_eq_getElem_cons hi, List.all_cons]
    by_cases c1 : l[i].f0 < 0
    · rw [if_pos c1, decide_eq_false (show ¬ 0 ≤ l[i].f0 by omega)]; rfl
    rw [if_neg c1]
    by_cases c2 : l[i].f0 ≥ p
    · rw [if_pos c2, decide_eq_false (show ¬ l[i].f0 < p by omega), Bool.and_false]; rfl
    rw [if_neg c2, decide_eq_true (show 0 ≤ l[i].f0 by omega), decide_eq_true (show l[i].f0 < p by omega)]
    rfl
theorem rck_eq (p : Int) (l : List S115) : row_Check.f (l.length + 1) l p = some (rck p l) := by
  unfold row_Check.f rck
  by_cases c : (l.length : Int) > 16
  · rw [if_pos c, if_pos c]
  · rw [if_neg c, if_neg c]
    exact rck_loop p l (by omega) l.length 0 (by omega)
theorem first_ok (p : Int) : ∀ (L : List (List S115)), (∀ i : Nat, i < L.length → rck p (L.getD i []) = 0) → firstErr p L = 0
  | [], _ => rfl
  | l :: r, h => by
    have h0 : rck p l = 0 := h 0 (by simp)
    unfold firstErr
    rw [if_pos h0]
    exact first_ok p r (fun i hi => h (i + 1) (by simp; omega))
theorem first_bad (p : Int) : ∀ (L : List (List S115)) (j : Nat), j < L.length → (∀ i : Nat, i < j → rck p (L.getD i []) = 0) → rck p (L.getD j []) ≠ 0 → firstErr p L = rck p (L.getD j [])
  | [], j, hj, _, _ => by simp at hj
  | l :: r, 0, hj, h, hb => by
    have hb' : ¬ rck p l = 0 := hb
    unfold firstErr
    rw [if_neg hb']
    rfl
  | l :: r, j + 1, hj, h, hb => by
    have h0 : rck p l = 0 := h 0 (by omega)
    unfold firstErr
    rw [if_pos h0]
    exact first_bad p r j (by simpa using hj) (fun i hi => h (i + 1) (by omega)) hb
theorem any_rd {l : List S117} (q : S117 → Bool) (h : ∀ i : Nat, i < l.length → q (rd_T117 l (i : Int)) = false) : l.any q = false := by
  rw [List.any_eq_false]
  intro s hs
  obtain ⟨i, hi, rfl⟩ := List.getElem_of_mem hs
  have := h i hi
  unfold rd_T117 at this
  rw [Int.toNat_natCast, List.getD_eq_getElem?_getD, List.getElem?_eq_getElem hi] at this
  rw [show (some l[i]).getD z117 = l[i] from rfl] at this
  rw [this]
  decide
theorem some_rd {l : List S117} (q : S117 → Bool) {j : Int} (h0 : 0 ≤ j) (h1 : j < l.length) (h : q (rd_T117 l j) = true) : l.any q = true := by
  have hj : j.toNat < l.length := by omega
  rw [List.any_eq_true]
  refine ⟨l[j.toNat], List.getElem_mem hj, ?_⟩
  unfold rd_T117 at h
  rw [List.getD_eq_getElem?_getD, List.getElem?_eq_getElem hj] at h
  exact h
set_option maxHeartbeats 16000000 in
set_option maxRecDepth 100000 in
theorem sig_Check.calls (a0_0 : Int) (A0_1 : Option Addr) (c0_1 : Nat) (l0_1 : List (S117)) (A0_2 : Option Addr) (c0_2 : Nat) (l0_2 : List (S44)) (A0_3 : Option Addr) (c0_3 : Nat) (l0_3 : List (S115)) (r : Int) (w : World) (hr0_1 : Kd.C k117 w A0_1 l0_1.length l0_1) (hc0_1 : l0_1.length ≤ c0_1) (hr0_2 : Kd.C k44 w A0_2 l0_2.length l0_2) (hc0_2 : l0_2.length ≤ c0_2) (hr0_3 : Kd.C k115 w A0_3 l0_3.length l0_3) (hc0_3 : l0_3.length ≤ c0_3) (h : sig_Check.f a0_0 l0_1 l0_2 l0_3 = some r) :
    Calls Try.prog 46 #[.agg #[.int .i64 a0_0, .slice A0_1 l0_1.length c0_1, .slice A0_2 l0_2.length c0_2, .slice A0_3 l0_3.length c0_3]] w fun e w' => e = .returned (.int .i64 r) ∧ Below w.heap.size w w' := by
  have hu1 := Try.underlying52
  have hu2 := Try.underlying117
  have hu3 := Try.underlying44
  have HS := Aside0.mk (Bks.start (Below.refl w.heap.size w))
  have HR := Aside0.mk (Rws.start (w0 := w) (W := w))
  have HB := Aside0.mk hr0_1
  obtain ⟨ts, htl, htr, htg⟩ := types_read hr0_2
  have HTL := Aside0.mk htl
  have HTR := Aside0.mk htr
  have HGD := Aside0.mk (show ∀ i : Nat, i < (l0_2.map (fun t => t.f0) ++ [l0_3]).length → gdT w ((ts ++ [(A0_3, l0_3.length, c0_3)]).getD i zTy) ((l0_2.map (fun t => t.f0) ++ [l0_3]).getD i []) by
    intro i hi
    rw [List.length_append, List.length_map, List.length_singleton] at hi
    rw [List.getD_eq_getElem?_getD, List.getD_eq_getElem?_getD]
    by_cases c : i < l0_2.length
    · rw [List.getElem?_append_left (by omega), List.getElem?_append_left (by rw [List.length_map]; exact c), List.getElem?_map, List.getElem?_eq_getElem c, ← List.getD_eq_getElem?_getD]
      exact htg i c
    · obtain rfl : i = l0_2.length := by omega
      rw [List.getElem?_append_right (by omega), List.getElem?_append_right (by rw [List.length_map]; omega), List.length_map, htl, Nat.sub_self]
      exact ⟨rfl, hc0_3, hr0_3⟩)
  obtain ⟨R, hR⟩ : ∃ R, R = r := ⟨_, rfl⟩
  have NR := Aside0.mk (hR.trans (Option.some.inj h).symm)
  rw [← hR]
  clear hR h hr0_1 hc0_1 hr0_2 hc0_2 hr0_3 hc0_3 htl htr htg
  obtain ⟨n2, hn2⟩ : ∃ n, n = l0_2.length := ⟨_, rfl⟩
  have N2 := Aside0.mk hn2
  rw [← hn2]
  clear hn2
  by_cases c1 : a0_0 < 0
  · have c1b : decide (a0_0 < 0) = true := decide_eq_true c1
    have C1 := Aside0.mk c1
    clear c1
    go_enter Try.func46, Try.ntmps46
    go_wp2_with (first | ((with_reducible refine bZ (N := 1) rfl ?_); refine bY ?hg (N := 1) ?hd (cs := #[.int .i64 a0_0, .slice A0_1 l0_1.length c0_1, .slice A0_2 n2 c0_2, .slice A0_3 l0_3.length c0_3]) (t := 52) ?hr ?_; (case hd => rfl); (case hg => rfl); (case hr => first | (go_simp; done) | (go_simp; rfl)); intro g1 hg1 wg1 xg1 bg1; have n_ := Aside0.mk (show Bks w wg1 [(g1, #[.int .i64 a0_0, .slice A0_1 l0_1.length c0_1, .slice A0_2 n2 c0_2, .slice A0_3 l0_3.length c0_3], 52)] from Bks.new HS.out hg1 xg1 bg1); have m_ := Aside0.mk (show Rws w wg1 [] from Rws.step HR.out bg1); clear HS HR; have HS := n_; have HR := m_; clear n_ m_; clear hg1 xg1 bg1; have c_g1_0 : wg1.cell? ⟨g1, 0, none⟩ = some (.int .i64 a0_0) := Bks.cell HS.out (i := 0) rfl 0 rfl; have c_g1_1 : wg1.cell? ⟨g1, 1, none⟩ = some (.slice A0_1 l0_1.length c0_1) := Bks.cell HS.out (i := 0) rfl 1 rfl; have c_g1_2 : wg1.cell? ⟨g1, 2, none⟩ = some (.slice A0_2 n2 c0_2) := Bks.cell HS.out (i := 0) rfl 2 rfl; have c_g1_3 : wg1.cell? ⟨g1, 3, none⟩ = some (.slice A0_3 l0_3.length c0_3) := Bks.cell HS.out (i := 0) rfl 3 rfl; have f_g1 : ∀ j : Nat, wg1.frozen? ⟨g1, j, none⟩ = false := fun j => Bks.free HS.out (i := 0) rfl j))
    go_ret
    exact ⟨by rw [show R = 7 from by rw [NR.out]; exact if_pos (by have := C1.out; omega)]; rfl, HS.out.below⟩
  have C1 := Aside0.mk c1
  have c1b : decide (a0_0 < 0) = false := decide_eq_false c1
  clear c1
  by_cases c2 : a0_0 > 16
  · have c2b : decide (a0_0 > 16) = true := decide_eq_true c2
    have C := Aside0.mk c2
    clear c2
    go_enter Try.func46, Try.ntmps46
    go_wp2_with (first | ((with_reducible refine bZ (N := 1) rfl ?_); refine bY ?hg (N := 1) ?hd (cs := #[.int .i64 a0_0, .slice A0_1 l0_1.length c0_1, .slice A0_2 n2 c0_2, .slice A0_3 l0_3.length c0_3]) (t := 52) ?hr ?_; (case hd => rfl); (case hg => rfl); (case hr => first | (go_simp; done) | (go_simp; rfl)); intro g1 hg1 wg1 xg1 bg1; have n_ := Aside0.mk (show Bks w wg1 [(g1, #[.int .i64 a0_0, .slice A0_1 l0_1.length c0_1, .slice A0_2 n2 c0_2, .slice A0_3 l0_3.length c0_3], 52)] from Bks.new HS.out hg1 xg1 bg1); have m_ := Aside0.mk (show Rws w wg1 [] from Rws.step HR.out bg1); clear HS HR; have HS := n_; have HR := m_; clear n_ m_; clear hg1 xg1 bg1; have c_g1_0 : wg1.cell? ⟨g1, 0, none⟩ = some (.int .i64 a0_0) := Bks.cell HS.out (i := 0) rfl 0 rfl; have c_g1_1 : wg1.cell? ⟨g1, 1, none⟩ = some (.slice A0_1 l0_1.length c0_1) := Bks.cell HS.out (i := 0) rfl 1 rfl; have c_g1_2 : wg1.cell? ⟨g1, 2, none⟩ = some (.slice A0_2 n2 c0_2) := Bks.cell HS.out (i := 0) rfl 2 rfl; have c_g1_3 : wg1.cell? ⟨g1, 3, none⟩ = some (.slice A0_3 l0_3.length c0_3) := Bks.cell HS.out (i := 0) rfl 3 rfl; have f_g1 : ∀ j : Nat, wg1.frozen? ⟨g1, j, none⟩ = false := fun j => Bks.free HS.out (i := 0) rfl j))
    go_ret
    exact ⟨by rw [show R = 6 from by rw [NR.out]; rw [if_neg (show ¬ a0_0 < 0 by have := C1.out; omega)]; exact if_pos (by have h1 := C.out; have h2 := N2.out; omega)]; rfl, HS.out.below⟩
  have C20 := Aside0.mk c2
  have c2b0 : decide (a0_0 > 16) = false := decide_eq_false c2
  clear c2
  by_cases c2 : (l0_1.length : Int) > 16
  · have c2b : decide ((l0_1.length : Int) > 16) = true := decide_eq_true c2
    have C := Aside0.mk c2
    clear c2
    go_enter Try.func46, Try.ntmps46
    go_wp2_with (first | ((with_reducible refine bZ (N := 1) rfl ?_); refine bY ?hg (N := 1) ?hd (cs := #[.int .i64 a0_0, .slice A0_1 l0_1.length c0_1, .slice A0_2 n2 c0_2, .slice A0_3 l0_3.length c0_3]) (t := 52) ?hr ?_; (case hd => rfl); (case hg => rfl); (case hr => first | (go_simp; done) | (go_simp; rfl)); intro g1 hg1 wg1 xg1 bg1; have n_ := Aside0.mk (show Bks w wg1 [(g1, #[.int .i64 a0_0, .slice A0_1 l0_1.length c0_1, .slice A0_2 n2 c0_2, .slice A0_3 l0_3.length c0_3], 52)] from Bks.new HS.out hg1 xg1 bg1); have m_ := Aside0.mk (show Rws w wg1 [] from Rws.step HR.out bg1); clear HS HR; have HS := n_; have HR := m_; clear n_ m_; clear hg1 xg1 bg1; have c_g1_0 : wg1.cell? ⟨g1, 0, none⟩ = some (.int .i64 a0_0) := Bks.cell HS.out (i := 0) rfl 0 rfl; have c_g1_1 : wg1.cell? ⟨g1, 1, none⟩ = some (.slice A0_1 l0_1.length c0_1) := Bks.cell HS.out (i := 0) rfl 1 rfl; have c_g1_2 : wg1.cell? ⟨g1, 2, none⟩ = some (.slice A0_2 n2 c0_2) := Bks.cell HS.out (i := 0) rfl 2 rfl; have c_g1_3 : wg1.cell? ⟨g1, 3, none⟩ = some (.slice A0_3 l0_3.length c0_3) := Bks.cell HS.out (i := 0) rfl 3 rfl; have f_g1 : ∀ j : Nat, wg1.frozen? ⟨g1, j, none⟩ = false := fun j => Bks.free HS.out (i := 0) rfl j))
    go_ret
    exact ⟨by rw [show R = 6 from by rw [NR.out]; rw [if_neg (show ¬ a0_0 < 0 by have := C1.out; omega)]; exact if_pos (by have h1 := C.out; have h2 := N2.out; omega)]; rfl, HS.out.below⟩
  have C21 := Aside0.mk c2
  have c2b1 : decide ((l0_1.length : Int) > 16) = false := decide_eq_false c2
  clear c2
  by_cases c2 : (n2 : Int) > 16
  · have c2b : decide ((n2 : Int) > 16) = true := decide_eq_true c2
    have C := Aside0.mk c2
    clear c2
    go_enter Try.func46, Try.ntmps46
    go_wp2_with (first | ((with_reducible refine bZ (N := 1) rfl ?_); refine bY ?hg (N := 1) ?hd (cs := #[.int .i64 a0_0, .slice A0_1 l0_1.length c0_1, .slice A0_2 n2 c0_2, .slice A0_3 l0_3.length c0_3]) (t := 52) ?hr ?_; (case hd => rfl); (case hg => rfl); (case hr => first | (go_simp; done) | (go_simp; rfl)); intro g1 hg1 wg1 xg1 bg1; have n_ := Aside0.mk (show Bks w wg1 [(g1, #[.int .i64 a0_0, .slice A0_1 l0_1.length c0_1, .slice A0_2 n2 c0_2, .slice A0_3 l0_3.length c0_3], 52)] from Bks.new HS.out hg1 xg1 bg1); have m_ := Aside0.mk (show Rws w wg1 [] from Rws.step HR.out bg1); clear HS HR; have HS := n_; have HR := m_; clear n_ m_; clear hg1 xg1 bg1; have c_g1_0 : wg1.cell? ⟨g1, 0, none⟩ = some (.int .i64 a0_0) := Bks.cell HS.out (i := 0) rfl 0 rfl; have c_g1_1 : wg1.cell? ⟨g1, 1, none⟩ = some (.slice A0_1 l0_1.length c0_1) := Bks.cell HS.out (i := 0) rfl 1 rfl; have c_g1_2 : wg1.cell? ⟨g1, 2, none⟩ = some (.slice A0_2 n2 c0_2) := Bks.cell HS.out (i := 0) rfl 2 rfl; have c_g1_3 : wg1.cell? ⟨g1, 3, none⟩ = some (.slice A0_3 l0_3.length c0_3) := Bks.cell HS.out (i := 0) rfl 3 rfl; have f_g1 : ∀ j : Nat, wg1.frozen? ⟨g1, j, none⟩ = false := fun j => Bks.free HS.out (i := 0) rfl j))
    go_ret
    exact ⟨by rw [show R = 6 from by rw [NR.out]; rw [if_neg (show ¬ a0_0 < 0 by have := C1.out; omega)]; exact if_pos (by have h1 := C.out; have h2 := N2.out; omega)]; rfl, HS.out.below⟩
  have C22 := Aside0.mk c2
  have c2b2 : decide ((n2 : Int) > 16) = false := decide_eq_false c2
  clear c2
  have C3 := Aside0.mk (show ¬ (a0_0 > 16 ∨ (l0_1.length : Int) > 16 ∨ (l0_2.length : Int) > 16) by have h0 := C20.out; have h1 := C21.out; have h2 := C22.out; have h3 := N2.out; omega)
  go_enter Try.func46, Try.ntmps46
  go_upto_region 5 with (first | ((with_reducible refine bZ (N := 1) rfl ?_); refine bY ?hg (N := 1) ?hd (cs := #[.int .i64 a0_0, .slice A0_1 l0_1.length c0_1, .slice A0_2 n2 c0_2, .slice A0_3 l0_3.length c0_3]) (t := 52) ?hr ?_; (case hd => rfl); (case hg => rfl); (case hr => first | (go_simp; done) | (go_simp; rfl)); intro g1 hg1 wg1 xg1 bg1; have n_ := Aside0.mk (show Bks w wg1 [(g1, #[.int .i64 a0_0, .slice A0_1 l0_1.length c0_1, .slice A0_2 n2 c0_2, .slice A0_3 l0_3.length c0_3], 52)] from Bks.new HS.out hg1 xg1 bg1); have m_ := Aside0.mk (show Rws w wg1 [] from Rws.step HR.out bg1); clear HS HR; have HS := n_; have HR := m_; clear n_ m_; clear hg1 xg1 bg1; have c_g1_0 : wg1.cell? ⟨g1, 0, none⟩ = some (.int .i64 a0_0) := Bks.cell HS.out (i := 0) rfl 0 rfl; have c_g1_1 : wg1.cell? ⟨g1, 1, none⟩ = some (.slice A0_1 l0_1.length c0_1) := Bks.cell HS.out (i := 0) rfl 1 rfl; have c_g1_2 : wg1.cell? ⟨g1, 2, none⟩ = some (.slice A0_2 n2 c0_2) := Bks.cell HS.out (i := 0) rfl 2 rfl; have c_g1_3 : wg1.cell? ⟨g1, 3, none⟩ = some (.slice A0_3 l0_3.length c0_3) := Bks.cell HS.out (i := 0) rfl 3 rfl; have f_g1 : ∀ j : Nat, wg1.frozen? ⟨g1, j, none⟩ = false := fun j => Bks.free HS.out (i := 0) rfl j))
  have n_ := Aside0.mk (show Bks w wg1 [(g1, #[.int .i64 a0_0, .slice A0_1 l0_1.length c0_1, .slice A0_2 n2 c0_2, .slice A0_3 l0_3.length c0_3], 52)] from HS.out)
  have m_ := Aside0.mk (show Rws w wg1 [] from HR.out)
  clear HS HR
  clear c_g1_0 c_g1_1 c_g1_2 c_g1_3 f_g1
  generalize wg1 = w5 at n_ m_ ⊢
  have HS := n_
  have HR := m_
  clear n_ m_
  have c_g1_0 : w5.cell? ⟨g1, 0, none⟩ = some (.int .i64 a0_0) := Bks.cell HS.out (i := 0) rfl 0 rfl
  have c_g1_1 : w5.cell? ⟨g1, 1, none⟩ = some (.slice A0_1 l0_1.length c0_1) := Bks.cell HS.out (i := 0) rfl 1 rfl
  have c_g1_2 : w5.cell? ⟨g1, 2, none⟩ = some (.slice A0_2 n2 c0_2) := Bks.cell HS.out (i := 0) rfl 2 rfl
  have c_g1_3 : w5.cell? ⟨g1, 3, none⟩ = some (.slice A0_3 l0_3.length c0_3) := Bks.cell HS.out (i := 0) rfl 3 rfl
  have f_g1 : ∀ j : Nat, w5.frozen? ⟨g1, j, none⟩ = false := fun j => Bks.free HS.out (i := 0) rfl j
  go_wp2
  clear HR c1b c2b0 c2b1 c2b2 c_g1_0 c_g1_1 c_g1_2 c_g1_3 f_g1
  go_loopg [31] l0_1.length (fun kq v31 w' => ∃ j : Int, v31 = .int .i64 j ∧ Aside0 (0 ≤ j ∧ j + kq = l0_1.length) ∧ Aside0 (∀ i : Nat, (i : Int) < j → badB a0_0 (rd_T117 l0_1 (i : Int)) = false) ∧ Aside0 (Bks w w' [(g1, #[.int .i64 a0_0, .slice A0_1 l0_1.length c0_1, .slice A0_2 n2 c0_2, .slice A0_3 l0_3.length c0_3], 52)]))
  case atStart => exact ⟨0, rfl, ⟨⟨Int.le_refl _, Int.zero_add _⟩⟩, ⟨fun i hi => absurd hi (by omega)⟩, HS⟩
  case round =>
    clear HS
    obtain ⟨j, rfl, HJ, HA, HS⟩ := hrel
    have HR := Aside0.mk (Rws.start (w0 := w) (W := wr))
    by_cases c1 : j < (l0_1.length : Int)
    · obtain ⟨k1, rfl⟩ : ∃ k1, gk = k1 + 1 := ⟨gk - 1, by have := HJ.out; omega⟩
      have c1b : decide (j < (l0_1.length : Int)) = true := decide_eq_true c1
      obtain ⟨ad1, e1, h0, h1⟩ := at_T117 HB.out j HJ.out.1 c1
      cases e1
      have hj : wrap64 (j + 1) = j + 1 := by have := C21.out; have := HJ.out; unfold wrap64; omega
      generalize hx : rd_T117 l0_1 j = x at h0 h1
      have HX := Aside0.mk hx
      have p1 : (0 ≤ j) = True := eq_true HJ.out.1
      have q1 : (j < (l0_1.length : Int)) = True := eq_true c1
      have Q1 := Aside0.mk c1
      clear hx c1
      replace h0 := (HS.out.below.cell (World.block_lt_of_cell? w _ h0)).trans h0
      replace h1 := (HS.out.below.cell (World.block_lt_of_cell? w _ h1)).trans h1
      have c_g1_0 : wr.cell? ⟨g1, 0, none⟩ = some (.int .i64 a0_0) := Bks.cell HS.out (i := 0) rfl 0 rfl
      have c_g1_1 : wr.cell? ⟨g1, 1, none⟩ = some (.slice (some ad1) l0_1.length c0_1) := Bks.cell HS.out (i := 0) rfl 1 rfl
      have c_g1_2 : wr.cell? ⟨g1, 2, none⟩ = some (.slice A0_2 n2 c0_2) := Bks.cell HS.out (i := 0) rfl 2 rfl
      have c_g1_3 : wr.cell? ⟨g1, 3, none⟩ = some (.slice A0_3 l0_3.length c0_3) := Bks.cell HS.out (i := 0) rfl 3 rfl
      have f_g1 : ∀ j : Nat, wr.frozen? ⟨g1, j, none⟩ = false := fun j => Bks.free HS.out (i := 0) rfl j
      go_upto_region 8 with (first | ((with_reducible refine bZ (N := 4) rfl ?_); refine bY ?hg (N := 4) ?hd (cs := #[.int .i64 0, .int .i64 0]) (t := 117) ?hr ?_; (case hd => rfl); (case hg => rfl); (case hr => first | (go_simp; done) | (go_simp; rfl)); intro g4 hg4 wg4 xg4 bg4; have n_ := Aside0.mk (show Bks w wg4 [(g1, #[.int .i64 a0_0, .slice (some ad1) l0_1.length c0_1, .slice A0_2 n2 c0_2, .slice A0_3 l0_3.length c0_3], 52), (g4, #[.int .i64 0, .int .i64 0], 117)] from Bks.new HS.out hg4 xg4 bg4); have m_ := Aside0.mk (show Rws w wg4 [] from Rws.step HR.out bg4); clear HS HR; clear c_g1_0 c_g1_1 c_g1_2 c_g1_3 f_g1; have HS := n_; have HR := m_; clear n_ m_; clear hg4 xg4 bg4; have c_g1_0 : wg4.cell? ⟨g1, 0, none⟩ = some (.int .i64 a0_0) := Bks.cell HS.out (i := 0) rfl 0 rfl; have c_g1_1 : wg4.cell? ⟨g1, 1, none⟩ = some (.slice (some ad1) l0_1.length c0_1) := Bks.cell HS.out (i := 0) rfl 1 rfl; have c_g1_2 : wg4.cell? ⟨g1, 2, none⟩ = some (.slice A0_2 n2 c0_2) := Bks.cell HS.out (i := 0) rfl 2 rfl; have c_g1_3 : wg4.cell? ⟨g1, 3, none⟩ = some (.slice A0_3 l0_3.length c0_3) := Bks.cell HS.out (i := 0) rfl 3 rfl; have f_g1 : ∀ j : Nat, wg4.frozen? ⟨g1, j, none⟩ = false := fun j => Bks.free HS.out (i := 0) rfl j; have c_g4_0 : wg4.cell? ⟨g4, 0, none⟩ = some (.int .i64 0) := Bks.cell HS.out (i := 1) rfl 0 rfl; have c_g4_1 : wg4.cell? ⟨g4, 1, none⟩ = some (.int .i64 0) := Bks.cell HS.out (i := 1) rfl 1 rfl; have f_g4 : ∀ j : Nat, wg4.frozen? ⟨g4, j, none⟩ = false := fun j => Bks.free HS.out (i := 1) rfl j; have ne_g1_g4 : g1 ≠ g4 := Bks.ne HS.out 0 1 _ _ rfl rfl (by decide); have ne_g4_g1 : g4 ≠ g1 := Bks.ne HS.out 1 0 _ _ rfl rfl (by decide)))
      have n_ := Aside0.mk (show Bks w ((wg4.setCell ⟨g4, 0, none⟩ (.int .i64 x.f0)).setCell ⟨g4, 1, none⟩ (.int .i64 x.f1)) [(g1, #[.int .i64 a0_0, .slice (some ad1) l0_1.length c0_1, .slice A0_2 n2 c0_2, .slice A0_3 l0_3.length c0_3], 52), (g4, #[.int .i64 x.f0, .int .i64 x.f1], 117)] from (Bks.set (Bks.set HS.out (i := 1) rfl 0 (.int .i64 x.f0)) (i := 1) rfl 1 (.int .i64 x.f1)))
      have m_ := Aside0.mk (show Rws w ((wg4.setCell ⟨g4, 0, none⟩ (.int .i64 x.f0)).setCell ⟨g4, 1, none⟩ (.int .i64 x.f1)) [] from (Rws.set (Rws.set HR.out HS.out (i := 1) rfl (by decide) 0 (.int .i64 x.f0)) (Bks.set HS.out (i := 1) rfl 0 (.int .i64 x.f0)) (i := 1) rfl (by decide) 1 (.int .i64 x.f1)))
      clear HS HR
      clear c_g1_0 c_g1_1 c_g1_2 c_g1_3 f_g1 c_g4_0 c_g4_1 f_g4 ne_g1_g4 ne_g4_g1
      generalize ((wg4.setCell ⟨g4, 0, none⟩ (.int .i64 x.f0)).setCell ⟨g4, 1, none⟩ (.int .i64 x.f1)) = w8 at n_ m_ ⊢
      have HS := n_
      have HR := m_
      clear n_ m_
      have c_g1_0 : w8.cell? ⟨g1, 0, none⟩ = some (.int .i64 a0_0) := Bks.cell HS.out (i := 0) rfl 0 rfl
      have c_g1_1 : w8.cell? ⟨g1, 1, none⟩ = some (.slice (some ad1) l0_1.length c0_1) := Bks.cell HS.out (i := 0) rfl 1 rfl
      have c_g1_2 : w8.cell? ⟨g1, 2, none⟩ = some (.slice A0_2 n2 c0_2) := Bks.cell HS.out (i := 0) rfl 2 rfl
      have c_g1_3 : w8.cell? ⟨g1, 3, none⟩ = some (.slice A0_3 l0_3.length c0_3) := Bks.cell HS.out (i := 0) rfl 3 rfl
      have f_g1 : ∀ j : Nat, w8.frozen? ⟨g1, j, none⟩ = false := fun j => Bks.free HS.out (i := 0) rfl j
      have c_g4_0 : w8.cell? ⟨g4, 0, none⟩ = some (.int .i64 x.f0) := Bks.cell HS.out (i := 1) rfl 0 rfl
      have c_g4_1 : w8.cell? ⟨g4, 1, none⟩ = some (.int .i64 x.f1) := Bks.cell HS.out (i := 1) rfl 1 rfl
      have f_g4 : ∀ j : Nat, w8.frozen? ⟨g4, j, none⟩ = false := fun j => Bks.free HS.out (i := 1) rfl j
      have ne_g1_g4 : g1 ≠ g4 := Bks.ne HS.out 0 1 _ _ rfl rfl (by decide)
      have ne_g4_g1 : g4 ≠ g1 := Bks.ne HS.out 1 0 _ _ rfl rfl (by decide)
      clear h0 h1 HR
      by_cases b0 : x.f0 < 0
      · have b0b : decide (x.f0 < 0) = true := decide_eq_true b0
        have B := Aside0.mk b0b
        clear b0
        go_wp2
        go_ret
        exact ⟨by rw [show R = 7 from by rw [NR.out, if_neg (show ¬ a0_0 < 0 by have := C1.out; omega), if_neg (show ¬ (a0_0 > 16 ∨ (l0_1.length : Int) > 16 ∨ (l0_2.length : Int) > 16) by have := C3.out; omega)]; exact if_pos (some_rd (badB a0_0) HJ.out.1 Q1.out (by rw [HX.out]; unfold badB; rw [B.out]; simp))]; rfl, HS.out.below⟩
      have b0b : decide (x.f0 < 0) = false := decide_eq_false b0
      clear b0
      by_cases b1 : x.f0 ≥ a0_0
      · have b1b : decide (x.f0 ≥ a0_0) = true := decide_eq_true b1
        have B := Aside0.mk b1b
        clear b1
        go_wp2
        go_ret
        exact ⟨by rw [show R = 7 from by rw [NR.out, if_neg (show ¬ a0_0 < 0 by have := C1.out; omega), if_neg (show ¬ (a0_0 > 16 ∨ (l0_1.length : Int) > 16 ∨ (l0_2.length : Int) > 16) by have := C3.out; omega)]; exact if_pos (some_rd (badB a0_0) HJ.out.1 Q1.out (by rw [HX.out]; unfold badB; rw [B.out]; simp))]; rfl, HS.out.below⟩
      have b1b : decide (x.f0 ≥ a0_0) = false := decide_eq_false b1
      clear b1
      by_cases b2 : x.f1 < 0
      · have b2b : decide (x.f1 < 0) = true := decide_eq_true b2
        have B := Aside0.mk b2b
        clear b2
        go_wp2
        go_ret
        exact ⟨by rw [show R = 7 from by rw [NR.out, if_neg (show ¬ a0_0 < 0 by have := C1.out; omega), if_neg (show ¬ (a0_0 > 16 ∨ (l0_1.length : Int) > 16 ∨ (l0_2.length : Int) > 16) by have := C3.out; omega)]; exact if_pos (some_rd (badB a0_0) HJ.out.1 Q1.out (by rw [HX.out]; unfold badB; rw [B.out]; simp))]; rfl, HS.out.below⟩
      have b2b : decide (x.f1 < 0) = false := decide_eq_false b2
      clear b2
      by_cases b3 : x.f1 ≥ a0_0
      · have b3b : decide (x.f1 ≥ a0_0) = true := decide_eq_true b3
        have B := Aside0.mk b3b
        clear b3
        go_wp2
        go_ret
        exact ⟨by rw [show R = 7 from by rw [NR.out, if_neg (show ¬ a0_0 < 0 by have := C1.out; omega), if_neg (show ¬ (a0_0 > 16 ∨ (l0_1.length : Int) > 16 ∨ (l0_2.length : Int) > 16) by have := C3.out; omega)]; exact if_pos (some_rd (badB a0_0) HJ.out.1 Q1.out (by rw [HX.out]; unfold badB; rw [B.out]; simp))]; rfl, HS.out.below⟩
      have b3b : decide (x.f1 ≥ a0_0) = false := decide_eq_false b3
      clear b3
      have NB := Aside0.mk (show badB a0_0 x = false by unfold badB; rw [b0b, b1b, b2b, b3b]; rfl)
      go_wp2
      go_roundg k1
      case measure => omega
      case rel =>
        refine ⟨j + 1, by first | rfl | rw [hj], ⟨by have := HJ.out; omega⟩, ⟨fun i hi => ?_⟩, ⟨Bks.pre (m := [_]) HS.out⟩⟩
        by_cases hij : (i : Int) = j
        · rw [hij, HX.out]
          exact NB.out
        · exact HA.out i (by omega)
    · have c1b : decide (j < (l0_1.length : Int)) = false := decide_eq_false c1
      have NF := Aside0.mk (show R = firstErr a0_0 (l0_2.map (fun t => t.f0) ++ [l0_3]) by rw [NR.out, if_neg (show ¬ a0_0 < 0 by have := C1.out; omega), if_neg (show ¬ (a0_0 > 16 ∨ (l0_1.length : Int) > 16 ∨ (l0_2.length : Int) > 16) by have := C3.out; omega), any_rd (badB a0_0) (fun i hi => HA.out i (by omega))]; exact if_neg (by decide))
      clear c1
      have c_g1_0 : wr.cell? ⟨g1, 0, none⟩ = some (.int .i64 a0_0) := Bks.cell HS.out (i := 0) rfl 0 rfl
      have c_g1_1 : wr.cell? ⟨g1, 1, none⟩ = some (.slice A0_1 l0_1.length c0_1) := Bks.cell HS.out (i := 0) rfl 1 rfl
      have c_g1_2 : wr.cell? ⟨g1, 2, none⟩ = some (.slice A0_2 n2 c0_2) := Bks.cell HS.out (i := 0) rfl 2 rfl
      have c_g1_3 : wr.cell? ⟨g1, 3, none⟩ = some (.slice A0_3 l0_3.length c0_3) := Bks.cell HS.out (i := 0) rfl 3 rfl
      have f_g1 : ∀ j : Nat, wr.frozen? ⟨g1, j, none⟩ = false := fun j => Bks.free HS.out (i := 0) rfl j
      go_upto_region 11 with fail
      clear HR c1b c_g1_0 c_g1_1 c_g1_2 c_g1_3 f_g1
      have n_ := Aside0.mk (show Bks w (World.drew wr) [(g1, #[.int .i64 a0_0, .slice A0_1 l0_1.length c0_1, .slice A0_2 n2 c0_2, .slice A0_3 l0_3.length c0_3], 52)] from Bks.drew HS.out)
      clear HS
      have HS := n_
      clear n_
      obtain ⟨TS, hTS⟩ : ∃ TS, TS = ts ++ [(A0_3, l0_3.length, c0_3)] := ⟨_, rfl⟩
      rw [← hTS] at HGD
      have NTS := Aside0.mk hTS
      clear hTS
      have I44 : (Try.prog.info? 44).map (fun i => (i.zero, i.size, i.bytes)) = some (some (.agg #[.slice none 0 0]), 1, 24) := by kernel_rfl
      have I44' := Aside0.mk I44
      clear I44
      refine start_ (n := 9) (S := fun w' => w'.cell? ⟨g1, 2, none⟩ = some (.slice A0_2 n2 c0_2) ∧ w'.cell? ⟨g1, 3, none⟩ = some (.slice A0_3 l0_3.length c0_3)) (ds := []) #[false, false, false, false, false, false, false, false, false] (by kernel_rfl) rfl rfl ⟨Bks.cell HS.out (i := 0) rfl 2 rfl, Bks.cell HS.out (i := 0) rfl 3 rfl⟩ (fun hHeld => ?_)
      generalize World.drew wr = w0_ at HS hHeld ⊢
      refine bX (i := 0) (N := some 58) (v := ?_) (a' := ?_) #[true, false, false, false, false, false, false, false, false] rfl rfl (by kernel_rfl) (fun _ _ _ h => h) (Or.inl ⟨by rfl, ?_⟩) ?_ ?_
      rotate_left
      · intro w'
        go_simp
        with_reducible rfl
      rotate_left
      · simp only [Act.put, sZ1, sZ2, sZ3, bN, bP]
        rfl
      refine take_ (i := 1) (N := some 59) (v := ?_) (a' := ?_) #[true, true, false, false, false, false, false, false, false] rfl rfl (by kernel_rfl) (fun _ _ _ h => h) (Or.inl ⟨by rfl, ?_⟩) hHeld ?_ ?_
      rotate_left
      · rintro w' ⟨s0, s1⟩
        go_simp
        with_reducible rfl
      rotate_left
      · simp only [Act.put, sZ1, sZ2, sZ3, bN, bP]
        rfl
      refine bX (i := 3) (N := some 61) (v := ?_) (a' := ?_) #[true, true, false, true, false, false, false, false, false] rfl rfl (by kernel_rfl) (fun _ _ _ h => h) (Or.inl ⟨by rfl, ?_⟩) ?_ ?_
      rotate_left
      · intro w'
        go_simp
        with_reducible rfl
      rotate_left
      · simp only [Act.put, sZ1, sZ2, sZ3, bN, bP]
        rfl
      refine take_ (i := 4) (N := some 62) (v := ?_) (a' := ?_) #[true, true, false, true, true, false, false, false, false] rfl rfl (by kernel_rfl) (fun _ _ _ h => h) (Or.inl ⟨by rfl, ?_⟩) hHeld ?_ ?_
      rotate_left
      · rintro w' ⟨s0, s1⟩
        go_simp
        with_reducible rfl
      rotate_left
      · simp only [Act.put, sZ1, sZ2, sZ3, bN, bP]
        rfl
      refine bX (i := 8) (N := some 66) (v := ?_) (a' := ?_) #[true, true, false, true, true, false, false, false, true] rfl rfl (by kernel_rfl) (fun _ _ _ h => h) (Or.inl ⟨by rfl, ?_⟩) ?_ ?_
      rotate_left
      · intro w'
        go_simp
        with_reducible rfl
      rotate_left
      · simp only [Act.put, sZ1, sZ2, sZ3, bN, bP]
        rfl
      refine two_ (i := 2) (j := 5) (Ni := some 60) (Nj := some 63) #[true, true, true, true, true, false, false, false, true] #[true, true, false, true, true, true, false, false, true] rfl rfl rfl rfl (by kernel_rfl) (by decide) (by decide) (fun K hK => ?_) (fun K hK => ?_)
      · refine Kd.R_append_rows_step kTy (Rr := kTy.K w) (w0 := w) w.heap.size (by rfl) (.const (.slice none 0 0)) (.tmp 59) 50 44 (.agg #[.slice none 0 0]) 24 rfl Try.underlying50 I44'.out rfl (by decide) (by omega) (.slice none 0 0) [] ts A0_2 n2 c0_2 (fun _ => True) (fun _ => False) rfl rfl ?aO ?aR (fun _ _ h => h) (fun _ h => h.elim) ?aF ?aB ?aS ?aL ?_
        (case aO => exact Kd.R_nil _ _ _ _ _)
        (case aR => rw [N2.out]; exact Kd.C_of_reads (ReadsOf.below HTR.out HS.out.below))
        (case aF => exact fun _ _ => trivial)
        (case aB => exact HS.out.below)
        (case aS => exact HS.out.below.size)
        (case aL => have := C22.out; simp only [List.length_nil]; omega)
        intro v2 w2 ho hb hg hat
        rw [List.nil_append] at ho
        obtain ⟨A2, k2, e2⟩ := Kd.R_slice ho
        subst e2
        have HO := Aside0.mk ho
        have n_ := Aside0.mk (show Bks w w2 [(g1, #[.int .i64 a0_0, .slice A0_1 l0_1.length c0_1, .slice A0_2 n2 c0_2, .slice A0_3 l0_3.length c0_3], 52)] from Bks.keptA HS.out (Kept.of_grown (S := fun _ => False) hg (Kept.refl _ _) (fun k e => by simp [Value.ownBlock] at e)) hb (fun _ _ h => h))
        clear HS ho hb hg hat
        have HS := n_
        clear n_
        refine hK.out _ _ ⟨Bks.cell HS.out (i := 0) rfl 2 rfl, Bks.cell HS.out (i := 0) rfl 3 rfl⟩ (fun hHeld => ?_)
        clear hK K
        refine norm_ (a' := ?_) ?_ ?_
        rotate_left
        · show Act.put _ (some 60) _ = _
          simp only [Act.put, sZ1, sZ2, sZ3, bN, bP]
          rfl
        refine one_ (i := 5) (N := some 63) #[true, true, true, true, true, true, false, false, true] rfl rfl (by kernel_rfl) (by decide) (fun K hK => ?_)
        obtain ⟨g5, hg5⟩ : ∃ g : Nat, g = (World.heap w2).size := ⟨_, rfl⟩
        refine value_ (w1 := ?_) (v := ?_) (by rfl) rfl ?_ ?_
        rotate_left 2
        · go_simp
          first | done | (constructor <;> rfl) | rfl
        refine hK.out _ _ ⟨Bks.cell (Bks.step HS.out (bC (Below.refl _ _) _)) (i := 0) rfl 2 rfl, Bks.cell (Bks.step HS.out (bC (Below.refl _ _) _)) (i := 0) rfl 3 rfl⟩ (fun hHeld => ?_)
        clear hK K
        have n_ := Aside0.mk (show Bks w _ [(g1, #[.int .i64 a0_0, .slice A0_1 l0_1.length c0_1, .slice A0_2 n2 c0_2, .slice A0_3 l0_3.length c0_3], 52), (g5, #[.slice A0_3 l0_3.length c0_3], 44)] from Bks.new HS.out hg5 (by rw [hg5]; exact blk_new w2 _) (bC (Below.refl _ _) _))
        have o_ := Aside0.mk (Kd.bR HO.out (.cells #[.slice A0_3 l0_3.length c0_3] 44))
        clear HO
        have HO := o_
        clear o_
        clear HS
        have HS := n_
        clear n_
        refine norm_ (a' := ?_) ?_ ?_
        rotate_left
        · show Act.put _ (some 63) _ = _
          simp only [Act.put, sZ1, sZ2, sZ3, bN, bP]
          rfl
        rw [← hg5]
        clear hg5
        refine one_ (i := 6) (N := some 64) #[true, true, true, true, true, true, true, false, true] rfl rfl (by kernel_rfl) (by decide) (fun K hK => ?_)
        have hlit : Kd.C kTy _ (some ⟨g5, 0, none⟩) 1 [(A0_3, l0_3.length, c0_3)] := Kd.C_of_reads (d := zTy) ⟨rfl, by decide, fun _ => ⟨_, rfl, fun j hj => by obtain rfl : j = 0 := (by omega); exact Bks.cell HS.out (i := 1) rfl 0 rfl⟩⟩
        refine Kd.R_append_rows_step kTy (Rr := kTy.K w) (w0 := w) w.heap.size (by rfl) (.tmp 60) (.tmp 63) 50 44 (.agg #[.slice none 0 0]) 24 rfl Try.underlying50 I44'.out rfl (by decide) (by omega) (.slice A2 ts.length k2) ts [(A0_3, l0_3.length, c0_3)] (some ⟨g5, 0, none⟩) 1 1 (fun _ => True) (fun _ => False) rfl rfl ?aO ?aR (fun _ _ h => h) (fun _ h => h.elim) ?aF ?aB ?aS ?aL ?_
        (case aO => exact HO.out)
        (case aR => exact hlit)
        (case aF => exact fun _ _ => trivial)
        (case aB => exact HS.out.below)
        (case aS => exact HS.out.below.size)
        (case aL => have h1 := C22.out; have h2 := HTL.out; have h3 := N2.out; omega)
        intro v6 w6 ho hb hg hat
        rw [← NTS.out] at ho
        obtain ⟨A6, k6, e6⟩ := Kd.R_slice ho
        subst e6
        have n_ := Aside0.mk (show Bks w w6 [(g1, #[.int .i64 a0_0, .slice A0_1 l0_1.length c0_1, .slice A0_2 n2 c0_2, .slice A0_3 l0_3.length c0_3], 52)] from Bks.keptA (Bks.pre (m := [_]) HS.out) (Kept.of_grown (S := fun k => (Value.slice A2 ts.length k2).ownBlock = some k) hg (Kept.refl _ _) (fun k e => .inl e)) hb (by intro p hp; simp only [List.mem_cons, List.not_mem_nil, or_false] at hp; rcases hp with rfl; exact fun e => Kd.R_ne HO.out (HS.out.at_ 0 _ _ _ rfl).1 (by decide) e.symm))
        have o_ := Aside0.mk ho
        clear HS HO ho hb hg hat hlit
        have HS := n_
        have HO := o_
        clear n_ o_
        refine hK.out _ _ ⟨Bks.cell HS.out (i := 0) rfl 2 rfl, Bks.cell HS.out (i := 0) rfl 3 rfl⟩ (fun hHeld => ?_)
        clear hK K
        refine norm_ (a' := ?_) ?_ ?_
        rotate_left
        · show Act.put _ (some 64) _ = _
          simp only [Act.put, sZ1, sZ2, sZ3, bN, bP]
          rfl
        refine bX (i := 7) (N := some 65) (v := ?_) (a' := ?_) #[true, true, true, true, true, true, true, true, true] rfl rfl (by kernel_rfl) (fun _ _ _ h => h) (Or.inl ⟨by rfl, ?_⟩) ?_ ?_
        rotate_left
        · intro w'
          go_simp
          with_reducible rfl
        rotate_left
        · simp only [Act.put, sZ1, sZ2, sZ3, bN, bP]
          rfl
        refine done_ (by kernel_rfl) ?_
        go_wp2
        have HLEN := Aside0.mk (show TS.length = (l0_2.map (fun t => t.f0) ++ [l0_3]).length by rw [NTS.out, List.length_append, List.length_append, HTL.out, List.length_map]; rfl)
        go_loopg [66] TS.length (fun kq v66 w' => ∃ j : Int, v66 = .int .i64 j ∧ Aside0 (0 ≤ j ∧ j + kq = TS.length) ∧ Aside0 (∀ i : Nat, (i : Int) < j → rck a0_0 ((l0_2.map (fun t => t.f0) ++ [l0_3]).getD i []) = 0) ∧ Aside0 (Bks w w' [(g1, #[.int .i64 a0_0, .slice A0_1 l0_1.length c0_1, .slice A0_2 n2 c0_2, .slice A0_3 l0_3.length c0_3], 52)]) ∧ Aside0 (Kd.R kTy 44 w' w.heap.size (fun _ => True) (.slice A6 TS.length k6) TS))
        case atStart => exact ⟨0, rfl, ⟨⟨Int.le_refl _, Int.zero_add _⟩⟩, ⟨fun i hi => absurd hi (by omega)⟩, HS, HO⟩
        case round =>
          clear HS HO HJ HA
          obtain ⟨j, rfl, HJ, HA, HS, HO⟩ := hrel
          by_cases c1 : j < (TS.length : Int)
          · obtain ⟨k1', rfl⟩ : ∃ k1, gk = k1 + 1 := ⟨gk - 1, by have := HJ.out; omega⟩
            have c1b : decide (j < (TS.length : Int)) = true := decide_eq_true c1
            have CJ := Aside0.mk c1
            obtain ⟨gr, capr, hv, _⟩ := Kd.R_form HO.out (by have := HJ.out; omega)
            have ev1 : A6 = some ⟨gr, 0, none⟩ := by injection hv
            clear hv
            subst ev1
            obtain ⟨cc, _, hcM, hcc, _⟩ := Kd.R_elem HO.out zTy j HJ.out.1 (by have := HJ.out; omega)
            have hjl : j.toNat < (l0_2.map (fun t => t.f0) ++ [l0_3]).length := by have h1 := HLEN.out; have h2 := HJ.out; omega
            have hgd := HGD.out j.toNat hjl
            have hT : (TS.getD j.toNat zTy) = TS.getD j.toNat zTy := rfl
            generalize TS.getD j.toNat zTy = t at hcM hgd hT
            clear hT
            generalize hl : (l0_2.map (fun t => t.f0) ++ [l0_3]).getD j.toNat [] = l at hgd
            have HL := Aside0.mk hl
            obtain ⟨At, nt, ct⟩ := t
            obtain ⟨g1_, g2_, g3_⟩ := hgd
            dsimp only at g1_ g2_ g3_
            subst g1_
            obtain rfl : cc = [slv (At, l.length, ct)] := hcM
            have h10 : wr.cell? ⟨gr, j.toNat, none⟩ = some (.slice At l.length ct) := by have := hcc 0 _ rfl; rwa [show j.toNat * kTy.sz + 0 = j.toNat from Nat.mul_one _] at this
            have hj : wrap64 (j + 1) = j + 1 := by have h1 := HLEN.out; have h2 := HJ.out; have h3 := C22.out; have h4 := N2.out; rw [List.length_append, List.length_map, List.length_singleton] at h1; unfold wrap64; omega
            have HCK := Aside0.mk (fun (W : World) (hb : Below w.heap.size w W) => row_Check.calls (l.length + 1) At ct l a0_0 (rck a0_0 l) W (Kd.bW g3_ hb) g2_ (rck_eq a0_0 l))
            have p1 : (0 ≤ j) = True := eq_true HJ.out.1
            have q1 : (j < (TS.length : Int)) = True := eq_true c1
            clear hcc hl g2_ g3_ c1
            have HR := Aside0.mk (Rws.start (w0 := w) (W := wr))
            have c_g1_0 : wr.cell? ⟨g1, 0, none⟩ = some (.int .i64 a0_0) := Bks.cell HS.out (i := 0) rfl 0 rfl
            have c_g1_1 : wr.cell? ⟨g1, 1, none⟩ = some (.slice A0_1 l0_1.length c0_1) := Bks.cell HS.out (i := 0) rfl 1 rfl
            have c_g1_2 : wr.cell? ⟨g1, 2, none⟩ = some (.slice A0_2 n2 c0_2) := Bks.cell HS.out (i := 0) rfl 2 rfl
            have c_g1_3 : wr.cell? ⟨g1, 3, none⟩ = some (.slice A0_3 l0_3.length c0_3) := Bks.cell HS.out (i := 0) rfl 3 rfl
            have f_g1 : ∀ j : Nat, wr.frozen? ⟨g1, j, none⟩ = false := fun j => Bks.free HS.out (i := 0) rfl j
            go_upto_region 14 with (first | ((with_reducible refine bZ (N := 6) rfl ?_); refine bY ?hg (N := 6) ?hd (cs := #[.slice none 0 0]) (t := 44) ?hr ?_; (case hd => rfl); (case hg => rfl); (case hr => first | (go_simp; done) | (go_simp; rfl)); intro g6 hg6 wg6 xg6 bg6; have o_ := Aside0.mk (show Kd.R kTy 44 wg6 w.heap.size (fun k => True ∧ k ≠ g6) (.slice (some ⟨gr, 0, none⟩) TS.length k6) TS from Kd.cC (Kd.R_elderB HO.out g6 (Nat.le_of_eq hg6.symm)) bg6); clear HO; have HO := o_; clear o_; have n_ := Aside0.mk (show Bks w wg6 [(g1, #[.int .i64 a0_0, .slice A0_1 l0_1.length c0_1, .slice A0_2 n2 c0_2, .slice A0_3 l0_3.length c0_3], 52), (g6, #[.slice none 0 0], 44)] from Bks.new HS.out hg6 xg6 bg6); have m_ := Aside0.mk (show Rws w wg6 [] from Rws.step HR.out bg6); clear HS HR; clear c_g1_0 c_g1_1 c_g1_2 c_g1_3 f_g1; have HS := n_; have HR := m_; clear n_ m_; clear hg6 xg6 bg6; have c_g1_0 : wg6.cell? ⟨g1, 0, none⟩ = some (.int .i64 a0_0) := Bks.cell HS.out (i := 0) rfl 0 rfl; have c_g1_1 : wg6.cell? ⟨g1, 1, none⟩ = some (.slice A0_1 l0_1.length c0_1) := Bks.cell HS.out (i := 0) rfl 1 rfl; have c_g1_2 : wg6.cell? ⟨g1, 2, none⟩ = some (.slice A0_2 n2 c0_2) := Bks.cell HS.out (i := 0) rfl 2 rfl; have c_g1_3 : wg6.cell? ⟨g1, 3, none⟩ = some (.slice A0_3 l0_3.length c0_3) := Bks.cell HS.out (i := 0) rfl 3 rfl; have f_g1 : ∀ j : Nat, wg6.frozen? ⟨g1, j, none⟩ = false := fun j => Bks.free HS.out (i := 0) rfl j; have c_g6_0 : wg6.cell? ⟨g6, 0, none⟩ = some (.slice none 0 0) := Bks.cell HS.out (i := 1) rfl 0 rfl; have f_g6 : ∀ j : Nat, wg6.frozen? ⟨g6, j, none⟩ = false := fun j => Bks.free HS.out (i := 1) rfl j; have ne_g1_g6 : g1 ≠ g6 := Bks.ne HS.out 0 1 _ _ rfl rfl (by decide); have ne_g6_g1 : g6 ≠ g1 := Bks.ne HS.out 1 0 _ _ rfl rfl (by decide)))
            have o_ := Aside0.mk (show Kd.R kTy 44 (wg6.setCell ⟨g6, 0, none⟩ (.slice At l.length ct)) w.heap.size (fun k => True ∧ k ≠ g6) (.slice (some ⟨gr, 0, none⟩) TS.length k6) TS from (Kd.R_far (p := ⟨g6, 0, none⟩) HO.out (fun _ hk => hk.2) (.slice At l.length ct)))
            clear HO
            have HO := o_
            clear o_
            have n_ := Aside0.mk (show Bks w (wg6.setCell ⟨g6, 0, none⟩ (.slice At l.length ct)) [(g1, #[.int .i64 a0_0, .slice A0_1 l0_1.length c0_1, .slice A0_2 n2 c0_2, .slice A0_3 l0_3.length c0_3], 52), (g6, #[.slice At l.length ct], 44)] from (Bks.set HS.out (i := 1) rfl 0 (.slice At l.length ct)))
            have m_ := Aside0.mk (show Rws w (wg6.setCell ⟨g6, 0, none⟩ (.slice At l.length ct)) [] from (Rws.set HR.out HS.out (i := 1) rfl (by decide) 0 (.slice At l.length ct)))
            clear HS HR
            clear c_g1_0 c_g1_1 c_g1_2 c_g1_3 f_g1 c_g6_0 f_g6 ne_g1_g6 ne_g6_g1
            generalize (wg6.setCell ⟨g6, 0, none⟩ (.slice At l.length ct)) = w14 at n_ m_ HO ⊢
            have HS := n_
            have HR := m_
            clear n_ m_
            have c_g1_0 : w14.cell? ⟨g1, 0, none⟩ = some (.int .i64 a0_0) := Bks.cell HS.out (i := 0) rfl 0 rfl
            have c_g1_1 : w14.cell? ⟨g1, 1, none⟩ = some (.slice A0_1 l0_1.length c0_1) := Bks.cell HS.out (i := 0) rfl 1 rfl
            have c_g1_2 : w14.cell? ⟨g1, 2, none⟩ = some (.slice A0_2 n2 c0_2) := Bks.cell HS.out (i := 0) rfl 2 rfl
            have c_g1_3 : w14.cell? ⟨g1, 3, none⟩ = some (.slice A0_3 l0_3.length c0_3) := Bks.cell HS.out (i := 0) rfl 3 rfl
            have f_g1 : ∀ j : Nat, w14.frozen? ⟨g1, j, none⟩ = false := fun j => Bks.free HS.out (i := 0) rfl j
            have c_g6_0 : w14.cell? ⟨g6, 0, none⟩ = some (.slice At l.length ct) := Bks.cell HS.out (i := 1) rfl 0 rfl
            have f_g6 : ∀ j : Nat, w14.frozen? ⟨g6, j, none⟩ = false := fun j => Bks.free HS.out (i := 1) rfl j
            have ne_g1_g6 : g1 ≠ g6 := Bks.ne HS.out 0 1 _ _ rfl rfl (by decide)
            have ne_g6_g1 : g6 ≠ g1 := Bks.ne HS.out 1 0 _ _ rfl rfl (by decide)
            clear h10 HR
            by_cases cz : rck a0_0 l = 0
            · have czb : (rck a0_0 l != 0) = false := bne_eq_false_iff_eq.mpr cz
              have CZ := Aside0.mk cz
              clear cz
              go_wp2_with (first | (go_at_call 94; (with_reducible refine (HCK.out _ HS.out.below).mono ?_); rintro e w15 ⟨rfl, hb⟩; have n_ := Aside0.mk (Bks.step HS.out hb); have o_ := Aside0.mk (Kd.cC HO.out hb); clear HS HO HCK hb; have HS := n_; have HO := o_; clear n_ o_))
              go_roundg k1'
              case measure => omega
              case rel =>
                refine ⟨j + 1, by first | rfl | rw [hj], ⟨by have := HJ.out; omega⟩, ⟨fun i hi => ?_⟩, ⟨Bks.pre (m := [_]) HS.out⟩, ⟨Kd.R_mono HO.out (fun _ _ => trivial)⟩⟩
                by_cases hij : (i : Int) = j
                · obtain rfl : i = j.toNat := by omega
                  rw [HL.out]
                  exact CZ.out
                · exact HA.out i (by omega)
            · have czb : (rck a0_0 l != 0) = true := bne_iff_ne.mpr cz
              have CZ := Aside0.mk cz
              clear cz
              go_wp2_with (first | (go_at_call 94; (with_reducible refine (HCK.out _ HS.out.below).mono ?_); rintro e w15 ⟨rfl, hb⟩; have n_ := Aside0.mk (Bks.step HS.out hb); have o_ := Aside0.mk (Kd.cC HO.out hb); clear HS HO HCK hb; have HS := n_; have HO := o_; clear n_ o_))
              go_ret
              refine ⟨?_, HS.out.below⟩
              rw [NF.out, first_bad a0_0 _ j.toNat (by have h1 := HLEN.out; have h2 := CJ.out; have h3 := HJ.out; omega) (fun i hi => HA.out i (by have := HJ.out; omega)) (by rw [HL.out]; exact CZ.out), HL.out]
              rfl
          · have c1b : decide (j < (TS.length : Int)) = false := decide_eq_false c1
            go_wp2
            go_ret
            refine ⟨?_, HS.out.below⟩
            rw [NF.out, first_ok a0_0 _ (fun i hi => HA.out i (by have h1 := HLEN.out; omega))]
            rfl
      · obtain ⟨g5, hg5⟩ : ∃ g : Nat, g = (World.heap w0_).size := ⟨_, rfl⟩
        refine value_ (w1 := ?_) (v := ?_) (by rfl) rfl ?_ ?_
        rotate_left 2
        · go_simp
          first | done | (constructor <;> rfl) | rfl
        refine hK.out _ _ ⟨Bks.cell (Bks.step HS.out (bC (Below.refl _ _) _)) (i := 0) rfl 2 rfl, Bks.cell (Bks.step HS.out (bC (Below.refl _ _) _)) (i := 0) rfl 3 rfl⟩ (fun hHeld => ?_)
        clear hK K
        have n_ := Aside0.mk (show Bks w _ [(g1, #[.int .i64 a0_0, .slice A0_1 l0_1.length c0_1, .slice A0_2 n2 c0_2, .slice A0_3 l0_3.length c0_3], 52), (g5, #[.slice A0_3 l0_3.length c0_3], 44)] from Bks.new HS.out hg5 (by rw [hg5]; exact blk_new w0_ _) (bC (Below.refl _ _) _))
        clear HS
        have HS := n_
        clear n_
        refine norm_ (a' := ?_) ?_ ?_
        rotate_left
        · show Act.put _ (some 63) _ = _
          simp only [Act.put, sZ1, sZ2, sZ3, bN, bP]
          rfl
        rw [← hg5]
        clear hg5
        refine one_ (i := 2) (N := some 60) #[true, true, true, true, true, true, false, false, true] rfl rfl (by kernel_rfl) (by decide) (fun K hK => ?_)
        refine Kd.R_append_rows_step kTy (Rr := kTy.K w) (w0 := w) w.heap.size (by rfl) (.const (.slice none 0 0)) (.tmp 59) 50 44 (.agg #[.slice none 0 0]) 24 rfl Try.underlying50 I44'.out rfl (by decide) (by omega) (.slice none 0 0) [] ts A0_2 n2 c0_2 (fun _ => True) (fun _ => False) rfl rfl ?aO ?aR (fun _ _ h => h) (fun _ h => h.elim) ?aF ?aB ?aS ?aL ?_
        (case aO => exact Kd.R_nil _ _ _ _ _)
        (case aR => rw [N2.out]; exact Kd.C_of_reads (ReadsOf.below HTR.out HS.out.below))
        (case aF => exact fun _ _ => trivial)
        (case aB => exact HS.out.below)
        (case aS => exact HS.out.below.size)
        (case aL => have := C22.out; simp only [List.length_nil]; omega)
        intro v2 w2 ho hb hg hat
        rw [List.nil_append] at ho
        obtain ⟨A2, k2, e2⟩ := Kd.R_slice ho
        subst e2
        have HO := Aside0.mk ho
        have n_ := Aside0.mk (show Bks w w2 [(g1, #[.int .i64 a0_0, .slice A0_1 l0_1.length c0_1, .slice A0_2 n2 c0_2, .slice A0_3 l0_3.length c0_3], 52), (g5, #[.slice A0_3 l0_3.length c0_3], 44)] from Bks.keptA HS.out (Kept.of_grown (S := fun _ => False) hg (Kept.refl _ _) (fun k e => by simp [Value.ownBlock] at e)) hb (fun _ _ h => h))
        clear HS ho hb hg hat
        have HS := n_
        clear n_
        refine hK.out _ _ ⟨Bks.cell HS.out (i := 0) rfl 2 rfl, Bks.cell HS.out (i := 0) rfl 3 rfl⟩ (fun hHeld => ?_)
        clear hK K
        refine norm_ (a' := ?_) ?_ ?_
        rotate_left
        · show Act.put _ (some 60) _ = _
          simp only [Act.put, sZ1, sZ2, sZ3, bN, bP]
          rfl
        refine one_ (i := 6) (N := some 64) #[true, true, true, true, true, true, true, false, true] rfl rfl (by kernel_rfl) (by decide) (fun K hK => ?_)
        have hlit : Kd.C kTy _ (some ⟨g5, 0, none⟩) 1 [(A0_3, l0_3.length, c0_3)] := Kd.C_of_reads (d := zTy) ⟨rfl, by decide, fun _ => ⟨_, rfl, fun j hj => by obtain rfl : j = 0 := (by omega); exact Bks.cell HS.out (i := 1) rfl 0 rfl⟩⟩
        refine Kd.R_append_rows_step kTy (Rr := kTy.K w) (w0 := w) w.heap.size (by rfl) (.tmp 60) (.tmp 63) 50 44 (.agg #[.slice none 0 0]) 24 rfl Try.underlying50 I44'.out rfl (by decide) (by omega) (.slice A2 ts.length k2) ts [(A0_3, l0_3.length, c0_3)] (some ⟨g5, 0, none⟩) 1 1 (fun _ => True) (fun _ => False) rfl rfl ?aO ?aR (fun _ _ h => h) (fun _ h => h.elim) ?aF ?aB ?aS ?aL ?_
        (case aO => exact HO.out)
        (case aR => exact hlit)
        (case aF => exact fun _ _ => trivial)
        (case aB => exact HS.out.below)
        (case aS => exact HS.out.below.size)
        (case aL => have h1 := C22.out; have h2 := HTL.out; have h3 := N2.out; omega)
        intro v6 w6 ho hb hg hat
        rw [← NTS.out] at ho
        obtain ⟨A6, k6, e6⟩ := Kd.R_slice ho
        subst e6
        have n_ := Aside0.mk (show Bks w w6 [(g1, #[.int .i64 a0_0, .slice A0_1 l0_1.length c0_1, .slice A0_2 n2 c0_2, .slice A0_3 l0_3.length c0_3], 52)] from Bks.keptA (Bks.pre (m := [_]) HS.out) (Kept.of_grown (S := fun k => (Value.slice A2 ts.length k2).ownBlock = some k) hg (Kept.refl _ _) (fun k e => .inl e)) hb (by intro p hp; simp only [List.mem_cons, List.not_mem_nil, or_false] at hp; rcases hp with rfl; exact fun e => Kd.R_ne HO.out (HS.out.at_ 0 _ _ _ rfl).1 (by decide) e.symm))
        have o_ := Aside0.mk ho
        clear HS HO ho hb hg hat hlit
        have HS := n_
        have HO := o_
        clear n_ o_
        refine hK.out _ _ ⟨Bks.cell HS.out (i := 0) rfl 2 rfl, Bks.cell HS.out (i := 0) rfl 3 rfl⟩ (fun hHeld => ?_)
        clear hK K
        refine norm_ (a' := ?_) ?_ ?_
        rotate_left
        · show Act.put _ (some 64) _ = _
          simp only [Act.put, sZ1, sZ2, sZ3, bN, bP]
          rfl
        refine bX (i := 7) (N := some 65) (v := ?_) (a' := ?_) #[true, true, true, true, true, true, true, true, true] rfl rfl (by kernel_rfl) (fun _ _ _ h => h) (Or.inl ⟨by rfl, ?_⟩) ?_ ?_
        rotate_left
        · intro w'
          go_simp
          with_reducible rfl
        rotate_left
        · simp only [Act.put, sZ1, sZ2, sZ3, bN, bP]
          rfl
        refine done_ (by kernel_rfl) ?_
        go_wp2
        have HLEN := Aside0.mk (show TS.length = (l0_2.map (fun t => t.f0) ++ [l0_3]).length by rw [NTS.out, List.length_append, List.length_append, HTL.out, List.length_map]; rfl)
        go_loopg [66] TS.length (fun kq v66 w' => ∃ j : Int, v66 = .int .i64 j ∧ Aside0 (0 ≤ j ∧ j + kq = TS.length) ∧ Aside0 (∀ i : Nat, (i : Int) < j → rck a0_0 ((l0_2.map (fun t => t.f0) ++ [l0_3]).getD i []) = 0) ∧ Aside0 (Bks w w' [(g1, #[.int .i64 a0_0, .slice A0_1 l0_1.length c0_1, .slice A0_2 n2 c0_2, .slice A0_3 l0_3.length c0_3], 52)]) ∧ Aside0 (Kd.R kTy 44 w' w.heap.size (fun _ => True) (.slice A6 TS.length k6) TS))
        case atStart => exact ⟨0, rfl, ⟨⟨Int.le_refl _, Int.zero_add _⟩⟩, ⟨fun i hi => absurd hi (by omega)⟩, HS, HO⟩
        case round =>
          clear HS HO HJ HA
          obtain ⟨j, rfl, HJ, HA, HS, HO⟩ := hrel
          by_cases c1 : j < (TS.length : Int)
          · obtain ⟨k1', rfl⟩ : ∃ k1, gk = k1 + 1 := ⟨gk - 1, by have := HJ.out; omega⟩
            have c1b : decide (j < (TS.length : Int)) = true := decide_eq_true c1
            have CJ := Aside0.mk c1
            obtain ⟨gr, capr, hv, _⟩ := Kd.R_form HO.out (by have := HJ.out; omega)
            have ev1 : A6 = some ⟨gr, 0, none⟩ := by injection hv
            clear hv
            subst ev1
            obtain ⟨cc, _, hcM, hcc, _⟩ := Kd.R_elem HO.out zTy j HJ.out.1 (by have := HJ.out; omega)
            have hjl : j.toNat < (l0_2.map (fun t => t.f0) ++ [l0_3]).length := by have h1 := HLEN.out; have h2 := HJ.out; omega
            have hgd := HGD.out j.toNat hjl
            have hT : (TS.getD j.toNat zTy) = TS.getD j.toNat zTy := rfl
            generalize TS.getD j.toNat zTy = t at hcM hgd hT
            clear hT
            generalize hl : (l0_2.map (fun t => t.f0) ++ [l0_3]).getD j.toNat [] = l at hgd
            have HL := Aside0.mk hl
            obtain ⟨At, nt, ct⟩ := t
            obtain ⟨g1_, g2_, g3_⟩ := hgd
            dsimp only at g1_ g2_ g3_
            subst g1_
            obtain rfl : cc = [slv (At, l.length, ct)] := hcM
            have h10 : wr.cell? ⟨gr, j.toNat, none⟩ = some (.slice At l.length ct) := by have := hcc 0 _ rfl; rwa [show j.toNat * kTy.sz + 0 = j.toNat from Nat.mul_one _] at this
            have hj : wrap64 (j + 1) = j + 1 := by have h1 := HLEN.out; have h2 := HJ.out; have h3 := C22.out; have h4 := N2.out; rw [List.length_append, List.length_map, List.length_singleton] at h1; unfold wrap64; omega
            have HCK := Aside0.mk (fun (W : World) (hb : Below w.heap.size w W) => row_Check.calls (l.length + 1) At ct l a0_0 (rck a0_0 l) W (Kd.bW g3_ hb) g2_ (rck_eq a0_0 l))
            have p1 : (0 ≤ j) = True := eq_true HJ.out.1
            have q1 : (j < (TS.length : Int)) = True := eq_true c1
            clear hcc hl g2_ g3_ c1
            have HR := Aside0.mk (Rws.start (w0 := w) (W := wr))
            have c_g1_0 : wr.cell? ⟨g1, 0, none⟩ = some (.int .i64 a0_0) := Bks.cell HS.out (i := 0) rfl 0 rfl
            have c_g1_1 : wr.cell? ⟨g1, 1, none⟩ = some (.slice A0_1 l0_1.length c0_1) := Bks.cell HS.out (i := 0) rfl 1 rfl
            have c_g1_2 : wr.cell? ⟨g1, 2, none⟩ = some (.slice A0_2 n2 c0_2) := Bks.cell HS.out (i := 0) rfl 2 rfl
            have c_g1_3 : wr.cell? ⟨g1, 3, none⟩ = some (.slice A0_3 l0_3.length c0_3) := Bks.cell HS.out (i := 0) rfl 3 rfl
            have f_g1 : ∀ j : Nat, wr.frozen? ⟨g1, j, none⟩ = false := fun j => Bks.free HS.out (i := 0) rfl j
            go_upto_region 14 with (first | ((with_reducible refine bZ (N := 6) rfl ?_); refine bY ?hg (N := 6) ?hd (cs := #[.slice none 0 0]) (t := 44) ?hr ?_; (case hd => rfl); (case hg => rfl); (case hr => first | (go_simp; done) | (go_simp; rfl)); intro g6 hg6 wg6 xg6 bg6; have o_ := Aside0.mk (show Kd.R kTy 44 wg6 w.heap.size (fun k => True ∧ k ≠ g6) (.slice (some ⟨gr, 0, none⟩) TS.length k6) TS from Kd.cC (Kd.R_elderB HO.out g6 (Nat.le_of_eq hg6.symm)) bg6); clear HO; have HO := o_; clear o_; have n_ := Aside0.mk (show Bks w wg6 [(g1, #[.int .i64 a0_0, .slice A0_1 l0_1.length c0_1, .slice A0_2 n2 c0_2, .slice A0_3 l0_3.length c0_3], 52), (g6, #[.slice none 0 0], 44)] from Bks.new HS.out hg6 xg6 bg6); have m_ := Aside0.mk (show Rws w wg6 [] from Rws.step HR.out bg6); clear HS HR; clear c_g1_0 c_g1_1 c_g1_2 c_g1_3 f_g1; have HS := n_; have HR := m_; clear n_ m_; clear hg6 xg6 bg6; have c_g1_0 : wg6.cell? ⟨g1, 0, none⟩ = some (.int .i64 a0_0) := Bks.cell HS.out (i := 0) rfl 0 rfl; have c_g1_1 : wg6.cell? ⟨g1, 1, none⟩ = some (.slice A0_1 l0_1.length c0_1) := Bks.cell HS.out (i := 0) rfl 1 rfl; have c_g1_2 : wg6.cell? ⟨g1, 2, none⟩ = some (.slice A0_2 n2 c0_2) := Bks.cell HS.out (i := 0) rfl 2 rfl; have c_g1_3 : wg6.cell? ⟨g1, 3, none⟩ = some (.slice A0_3 l0_3.length c0_3) := Bks.cell HS.out (i := 0) rfl 3 rfl; have f_g1 : ∀ j : Nat, wg6.frozen? ⟨g1, j, none⟩ = false := fun j => Bks.free HS.out (i := 0) rfl j; have c_g6_0 : wg6.cell? ⟨g6, 0, none⟩ = some (.slice none 0 0) := Bks.cell HS.out (i := 1) rfl 0 rfl; have f_g6 : ∀ j : Nat, wg6.frozen? ⟨g6, j, none⟩ = false := fun j => Bks.free HS.out (i := 1) rfl j; have ne_g1_g6 : g1 ≠ g6 := Bks.ne HS.out 0 1 _ _ rfl rfl (by decide); have ne_g6_g1 : g6 ≠ g1 := Bks.ne HS.out 1 0 _ _ rfl rfl (by decide)))
            have o_ := Aside0.mk (show Kd.R kTy 44 (wg6.setCell ⟨g6, 0, none⟩ (.slice At l.length ct)) w.heap.size (fun k => True ∧ k ≠ g6) (.slice (some ⟨gr, 0, none⟩) TS.length k6) TS from (Kd.R_far (p := ⟨g6, 0, none⟩) HO.out (fun _ hk => hk.2) (.slice At l.length ct)))
            clear HO
            have HO := o_
            clear o_
            have n_ := Aside0.mk (show Bks w (wg6.setCell ⟨g6, 0, none⟩ (.slice At l.length ct)) [(g1, #[.int .i64 a0_0, .slice A0_1 l0_1.length c0_1, .slice A0_2 n2 c0_2, .slice A0_3 l0_3.length c0_3], 52), (g6, #[.slice At l.length ct], 44)] from (Bks.set HS.out (i := 1) rfl 0 (.slice At l.length ct)))
            have m_ := Aside0.mk (show Rws w (wg6.setCell ⟨g6, 0, none⟩ (.slice At l.length ct)) [] from (Rws.set HR.out HS.out (i := 1) rfl (by decide) 0 (.slice At l.length ct)))
            clear HS HR
            clear c_g1_0 c_g1_1 c_g1_2 c_g1_3 f_g1 c_g6_0 f_g6 ne_g1_g6 ne_g6_g1
            generalize (wg6.setCell ⟨g6, 0, none⟩ (.slice At l.length ct)) = w14 at n_ m_ HO ⊢
            have HS := n_
            have HR := m_
            clear n_ m_
            have c_g1_0 : w14.cell? ⟨g1, 0, none⟩ = some (.int .i64 a0_0) := Bks.cell HS.out (i := 0) rfl 0 rfl
            have c_g1_1 : w14.cell? ⟨g1, 1, none⟩ = some (.slice A0_1 l0_1.length c0_1) := Bks.cell HS.out (i := 0) rfl 1 rfl
            have c_g1_2 : w14.cell? ⟨g1, 2, none⟩ = some (.slice A0_2 n2 c0_2) := Bks.cell HS.out (i := 0) rfl 2 rfl
            have c_g1_3 : w14.cell? ⟨g1, 3, none⟩ = some (.slice A0_3 l0_3.length c0_3) := Bks.cell HS.out (i := 0) rfl 3 rfl
            have f_g1 : ∀ j : Nat, w14.frozen? ⟨g1, j, none⟩ = false := fun j => Bks.free HS.out (i := 0) rfl j
            have c_g6_0 : w14.cell? ⟨g6, 0, none⟩ = some (.slice At l.length ct) := Bks.cell HS.out (i := 1) rfl 0 rfl
            have f_g6 : ∀ j : Nat, w14.frozen? ⟨g6, j, none⟩ = false := fun j => Bks.free HS.out (i := 1) rfl j
            have ne_g1_g6 : g1 ≠ g6 := Bks.ne HS.out 0 1 _ _ rfl rfl (by decide)
            have ne_g6_g1 : g6 ≠ g1 := Bks.ne HS.out 1 0 _ _ rfl rfl (by decide)
            clear h10 HR
            by_cases cz : rck a0_0 l = 0
            · have czb : (rck a0_0 l != 0) = false := bne_eq_false_iff_eq.mpr cz
              have CZ := Aside0.mk cz
              clear cz
              go_wp2_with (first | (go_at_call 94; (with_reducible refine (HCK.out _ HS.out.below).mono ?_); rintro e w15 ⟨rfl, hb⟩; have n_ := Aside0.mk (Bks.step HS.out hb); have o_ := Aside0.mk (Kd.cC HO.out hb); clear HS HO HCK hb; have HS := n_; have HO := o_; clear n_ o_))
              go_roundg k1'
              case measure => omega
              case rel =>
                refine ⟨j + 1, by first | rfl | rw [hj], ⟨by have := HJ.out; omega⟩, ⟨fun i hi => ?_⟩, ⟨Bks.pre (m := [_]) HS.out⟩, ⟨Kd.R_mono HO.out (fun _ _ => trivial)⟩⟩
                by_cases hij : (i : Int) = j
                · obtain rfl : i = j.toNat := by omega
                  rw [HL.out]
                  exact CZ.out
                · exact HA.out i (by omega)
            · have czb : (rck a0_0 l != 0) = true := bne_iff_ne.mpr cz
              have CZ := Aside0.mk cz
              clear cz
              go_wp2_with (first | (go_at_call 94; (with_reducible refine (HCK.out _ HS.out.below).mono ?_); rintro e w15 ⟨rfl, hb⟩; have n_ := Aside0.mk (Bks.step HS.out hb); have o_ := Aside0.mk (Kd.cC HO.out hb); clear HS HO HCK hb; have HS := n_; have HO := o_; clear n_ o_))
              go_ret
              refine ⟨?_, HS.out.below⟩
              rw [NF.out, first_bad a0_0 _ j.toNat (by have h1 := HLEN.out; have h2 := CJ.out; have h3 := HJ.out; omega) (fun i hi => HA.out i (by have := HJ.out; omega)) (by rw [HL.out]; exact CZ.out), HL.out]
              rfl
          · have c1b : decide (j < (TS.length : Int)) = false := decide_eq_false c1
            go_wp2
            go_ret
            refine ⟨?_, HS.out.below⟩
            rw [NF.out, first_ok a0_0 _ (fun i hi => HA.out i (by have h1 := HLEN.out; omega))]
            rfl

end Go.Proofs.Ythhebinonpoddaa.GSigCalls
