/- Written for this claim by gp.py, a program of this session's, over the kit's print. Lean checks it. -/
import Derived.Test.YtnabbhcagonlkaaGRelateNeedsx0
import Derived.Test.YtnabbhcagonlkaaGRelateNeedshx
import Derived.Test.YtnabbhcagonlkaaGRelateNeedshrows
import Derived.WalkSpells
namespace Go.Proofs.Ytnabbhcagonlkaa.GRelateNeeds
open Go.RowKit Go.Proofs.YtnabbhcagonlkaaW.PrintWords Go.Proofs.YtnabbhcagonlkaaW.PrintLast Go.Proofs.YtnabbhcagonlkaaW.PrintMore
attribute [local go_sem] max2_int min2_int max_two min_two max_three min_three max_four min_four   -- for this text's walks alone
set_option linter.unusedVariables false
set_option linter.unusedSimpArgs false

--import Derived.WalkSpells
/-- Does a type lead to something? -/
def drf (l : List S107) : Bool := match l with | [] => false | s :: _ => !s.f1
set_option maxHeartbeats 16000000 in
set_option maxRecDepth 100000 in
theorem slot_clone (A : Option Addr) (c : Nat) (l : List S107) (w : World) (hr : Kd.C k107 w A l.length l) (hl : l.length < 1000000000) :
    Calls Try.prog 91 #[.slice A l.length c] w fun e w' => ∃ A' c', e = .returned (.slice A' l.length c') ∧ Kd.R k107 107 w' w.heap.size (fun _ => True) (.slice A' l.length c') l ∧ Below w.heap.size w w' := by
  have hu1 := Try.underlying22
  have q : ∀ (W : World) (a : Option Addr) (n c : Nat), (binOp .eql 22 (.slice a n c) (.slice none 0 0)).run Try.prog W = .ok (.bool a.isNone) W := fun W a n c => Lib.run_eql_slice_nil W 22 107 a n c 0 0 hu1
  have HR := Aside0.mk hr
  have HL := Aside0.mk hl
  clear hr hl
  have HB := Aside0.mk (Below.refl w.heap.size w)
  obtain ⟨n, hn⟩ : ∃ n, n = l.length := ⟨_, rfl⟩
  have HN := Aside0.mk hn
  rw [← hn]
  clear hn
  cases A with
  | none =>
    have hz : l = [] := by
      refine Classical.byContradiction fun hne => ?_
      obtain ⟨ad, e1, _⟩ := at_T107 HR.out 0 (by omega) (by have := List.length_pos_iff.2 hne; omega)
      cases e1
    subst hz
    obtain rfl : n = 0 := HN.out
    go_enter Try.func91, Try.ntmps91
    go_wp2
    go_ret
    exact ⟨none, 0, rfl, Kd.R_nil _ _ _ _ _, HB.out⟩
  | some ad =>
    go_enter Try.func91, Try.ntmps91
    go_wp2_with (first | ((with_reducible refine gate_dst (N := 5) rfl ?_); refine Kd.R_lit k107 _ 107 ?hg (N := 5) ?hd (xs := ([] : List S107)) (inner := []) (ok := fun _ => True) (okp := fun _ => True) ?hr ?hp (fun _ hk => hk) trivial (Below.refl _ _) (Nat.le_refl _) (by simp) ?_; (case hd => rfl); (case hg => rfl); (case hr => first | (go_simp; done) | (go_simp; rfl)); (case hp => exact (Reps.none _ _)); intro v5 w5 ho hb hg_ hnew_; have HO := Aside0.mk ho; have HB5 := Aside0.mk hb; clear ho hb hg_ hnew_; obtain ⟨A5, k5, e5⟩ := Kd.R_slice HO.out; subst e5) | ((with_reducible refine gate_builtin (b := .append) (xs := #[.tmp 5, .tmp 6]) rfl ?_); at_builtin; refine Kd.R_append_rows k107 (w0 := w) w.heap.size rfl (.tmp 5) (.tmp 6) 22 107 (.agg #[(.int .i64 0), (.bool false)]) 16 rfl Try.underlying22 info107 rfl (by decide) (by omega) (.slice A5 ([] : List S107).length k5) [] l _ n _ (fun _ => True) (fun _ => False) rfl rfl ?aO ?aR (fun _ _ h => h) (fun _ h => h.elim) ?aF ?aB ?aS ?aL ?_; (case aR => rw [HN.out]; exact Kd.C_below HR.out HB5.out); (case aO => exact HO.out); (case aF => exact fun _ _ => trivial); (case aB => exact HB5.out); (case aS => exact HB5.out.size); (case aL => have := HN.out; have := HL.out; simp only [List.length_nil]; omega); intro v7 w7 ho hb hgr hat; rw [List.nil_append] at ho; obtain ⟨A7, k7, e7⟩ := Kd.R_slice ho; rw [← HN.out] at e7; subst e7; have HO7 := Aside0.mk ho; have HB7 := Aside0.mk hb; clear ho hb hgr hat HO HB5))
    go_ret
    exact ⟨A7, k7, rfl, HO7.out, HB7.out⟩
theorem drf_yes {l : List S107} (h : drf l = true) : 0 < l.length ∧ (rd_T107 l 0).f1 = false := by
  cases l with
  | nil => exact absurd h (by decide)
  | cons s l => exact ⟨Nat.succ_pos _, by unfold drf at h; simpa [rd_T107] using h⟩
theorem drf_no {l : List S107} (h : drf l = false) (hl : 0 < l.length) : (rd_T107 l 0).f1 = true := by
  cases l with
  | nil => exact absurd hl (by decide)
  | cons s l => unfold drf at h; simpa [rd_T107] using h
set_option maxHeartbeats 16000000 in
set_option maxRecDepth 100000 in
theorem row_deref_yes (A : Option Addr) (c : Nat) (l : List S107) (w : World) (hr : Kd.C k107 w A l.length l) (hc : l.length ≤ c) (hl : l.length < 1000000000) (hd : drf l = true) :
    Calls Try.prog 86 #[.agg #[.slice A l.length c]] w fun e w' => ∃ A' c', e = .returned (.tuple #[.agg #[.slice A' (l.drop 1).length c'], .int .i64 (rd_T107 l 0).f0, .bool true]) ∧ Kd.R k107 107 w' w.heap.size (fun _ => True) (.slice A' (l.drop 1).length c') (l.drop 1) ∧ Below w.heap.size w w' := by
  have hu3 := Try.underlying24
  have hu4 := Try.underlying107
  have HR1 := Aside0.mk hr
  have HC1 := Aside0.mk hc
  have HL := Aside0.mk hl
  obtain ⟨c8, hf⟩ := drf_yes hd
  have C8 := Aside0.mk c8
  clear hr hc hl hd c8
  have HS := Aside0.mk (Bks.start (Below.refl w.heap.size w))
  have HR := Aside0.mk (Rws.start (w0 := w) (W := w))
  obtain ⟨x, hx⟩ : ∃ x, x = rd_T107 l 0 := ⟨_, rfl⟩
  rw [← hx] at hf ⊢
  obtain ⟨y, hy⟩ : ∃ y, y = l.drop 1 := ⟨_, rfl⟩
  rw [← hy]
  have NX := Aside0.mk hx
  have NY := Aside0.mk hy
  have HF := Aside0.mk hf
  clear hx hy hf
  obtain ⟨ad, e1, h0, h1⟩ := at_T107 HR1.out 0 (by omega) (by have := C8.out; omega)
  cases e1
  rw [← NX.out] at h0 h1
  rw [HF.out] at h1
  rw [show ((0 : Int)).toNat = 0 from rfl, show 0 * 2 = 0 from rfl, Addr.add_zero'] at h0
  rw [show ((0 : Int)).toNat = 0 from rfl, show 0 * 2 = 0 from rfl, Addr.add_zero'] at h1
  have K0 : ∀ W, Below w.heap.size w W → W.cell? _ = some _ := fun W hb => (hb.cell (World.block_lt_of_cell? w _ h0)).trans h0
  have K1 : ∀ W, Below w.heap.size w W → W.cell? _ = some _ := fun W hb => (hb.cell (World.block_lt_of_cell? w _ h1)).trans h1
  clear h0 h1
  have p1 : (0 < (l.length : Int)) = True := eq_true (by have := C8.out; omega)
  have p2 : (0 < l.length) = True := eq_true C8.out
  have p0 : ((l.length : Int) == 0) = false := beq_eq_false_iff_ne.mpr (by have := C8.out; omega)
  go_enter Try.func86, Try.ntmps86
  go_upto_region 1 with (first | ((with_reducible refine gate_dst (N := 1) rfl ?_); refine box_event ?hg (N := 1) ?hd (cs := #[.slice (some ad) l.length c]) (t := 24) ?hr ?_; (case hd => rfl); (case hg => rfl); (case hr => first | (go_simp; done) | (go_simp; rfl)); intro g1 hg1 wg1 xg1 bg1; have n_ := Aside0.mk (show Bks w wg1 [(g1, #[.slice (some ad) l.length c], 24)] from Bks.new HS.out hg1 xg1 bg1); have m_ := Aside0.mk (show Rws w wg1 [] from Rws.step HR.out bg1); clear HS HR; have HS := n_; have HR := m_; clear n_ m_; clear hg1 xg1 bg1; have c_g1_0 : wg1.cell? ⟨g1, 0, none⟩ = some (.slice (some ad) l.length c) := Bks.cell HS.out (i := 0) rfl 0 rfl; have f_g1 : ∀ j : Nat, wg1.frozen? ⟨g1, j, none⟩ = false := fun j => Bks.free HS.out (i := 0) rfl j) | ((with_reducible refine gate_dst (N := 2) rfl ?_); refine box_event ?hg (N := 2) ?hd (cs := #[.slice none 0 0]) (t := 24) ?hr ?_; (case hd => rfl); (case hg => rfl); (case hr => first | (go_simp; done) | (go_simp; rfl)); intro g2 hg2 wg2 xg2 bg2; have n_ := Aside0.mk (show Bks w wg2 [(g1, #[.slice (some ad) l.length c], 24), (g2, #[.slice none 0 0], 24)] from Bks.new HS.out hg2 xg2 bg2); have m_ := Aside0.mk (show Rws w wg2 [] from Rws.step HR.out bg2); clear HS HR; clear c_g1_0 f_g1; have HS := n_; have HR := m_; clear n_ m_; clear hg2 xg2 bg2; have c_g1_0 : wg2.cell? ⟨g1, 0, none⟩ = some (.slice (some ad) l.length c) := Bks.cell HS.out (i := 0) rfl 0 rfl; have f_g1 : ∀ j : Nat, wg2.frozen? ⟨g1, j, none⟩ = false := fun j => Bks.free HS.out (i := 0) rfl j; have c_g2_0 : wg2.cell? ⟨g2, 0, none⟩ = some (.slice none 0 0) := Bks.cell HS.out (i := 1) rfl 0 rfl; have f_g2 : ∀ j : Nat, wg2.frozen? ⟨g2, j, none⟩ = false := fun j => Bks.free HS.out (i := 1) rfl j; have ne_g1_g2 : g1 ≠ g2 := Bks.ne HS.out 0 1 _ _ rfl rfl (by decide); have ne_g2_g1 : g2 ≠ g1 := Bks.ne HS.out 1 0 _ _ rfl rfl (by decide)))
  have n_ := Aside0.mk (show Bks w wg2 [(g1, #[.slice (some ad) l.length c], 24), (g2, #[.slice none 0 0], 24)] from HS.out)
  have m_ := Aside0.mk (show Rws w wg2 [] from HR.out)
  clear HS HR
  clear c_g1_0 f_g1 c_g2_0 f_g2 ne_g1_g2 ne_g2_g1
  generalize wg2 = w1 at n_ m_ ⊢
  have HS := n_
  have HR := m_
  clear n_ m_
  have c_g1_0 : w1.cell? ⟨g1, 0, none⟩ = some (.slice (some ad) l.length c) := Bks.cell HS.out (i := 0) rfl 0 rfl
  have f_g1 : ∀ j : Nat, w1.frozen? ⟨g1, j, none⟩ = false := fun j => Bks.free HS.out (i := 0) rfl j
  have c_g2_0 : w1.cell? ⟨g2, 0, none⟩ = some (.slice none 0 0) := Bks.cell HS.out (i := 1) rfl 0 rfl
  have f_g2 : ∀ j : Nat, w1.frozen? ⟨g2, j, none⟩ = false := fun j => Bks.free HS.out (i := 1) rfl j
  have ne_g1_g2 : g1 ≠ g2 := Bks.ne HS.out 0 1 _ _ rfl rfl (by decide)
  have ne_g2_g1 : g2 ≠ g1 := Bks.ne HS.out 1 0 _ _ rfl rfl (by decide)
  have h0 := K0 _ HS.out.below
  have h1 := K1 _ HS.out.below
  go_upto_region 3 with fail
  clear h0 h1 HR p0 c_g1_0 f_g1 c_g2_0 f_g2 ne_g1_g2 ne_g2_g1
  have hcap : l.length ≤ c := HC1.out
  obtain ⟨i0, hi0, _, hsz0, _⟩ := info_parts info107
  have hcut := cut_from (P := Try.prog) 22 107 .i64 Try.underlying22 hi0 2 hsz0 (some ad) l.length c 1 (by omega) (by have := C8.out; omega)
  have hr2 := Kd.C_drop (m := (1 : Int).toNat) (c := c) HR1.out (by have := C8.out; omega) hcap
  obtain ⟨A2, hA2⟩ : ∃ A1, A1 = (if c = (1 : Int).toNat then (some ad) else ((some ad) : Option Addr).map (·.add ((1 : Int).toNat * 2))) := ⟨_, rfl⟩
  obtain ⟨c2, hc2⟩ : ∃ c1, c1 = c - (1 : Int).toNat := ⟨_, rfl⟩
  have hy2 : y.length = l.length - (1 : Int).toNat := (by rw [NY.out, List.length_drop] <;> omega)
  rw [show (l).drop (1 : Int).toNat = y from NY.out.symm] at hr2
  replace hr2 : Kd.C k107 _ A2 y.length y := (by rw [hA2]; exact hr2)
  rw [← hy2, ← hA2, ← hc2] at hcut
  have HY := Aside0.mk hr2
  have p3 : ((1 : Int) ≤ (l.length : Int)) = True := eq_true (by have := C8.out; omega)
  clear hr2 hA2 hc2 hy2 hcap
  have n_ := Aside0.mk (show Bks w (World.drew w1) [(g1, #[.slice (some ad) l.length c], 24), (g2, #[.slice none 0 0], 24)] from Bks.drew HS.out)
  clear HS
  have HS := n_
  clear n_
  refine start_ (n := 13) (S := fun w' => w'.cell? ⟨g1, 0, none⟩ = some (.slice (some ad) l.length c) ∧ w'.cell? ad = some (.int .i64 x.f0)) (ds := []) #[false, false, false, false, false, false, false, false, false, false, false, false, false] (by kernel_rfl) rfl rfl ⟨Bks.cell HS.out (i := 0) rfl 0 rfl, K0 _ HS.out.below⟩ (fun hHeld => ?_)
  generalize World.drew w1 = w2 at HS hHeld ⊢
  refine pure_ (i := 0) (N := some 17) (v := ?_) (a' := ?_) #[true, false, false, false, false, false, false, false, false, false, false, false, false] rfl rfl (by kernel_rfl) (fun _ _ _ h => h) (Or.inl ⟨by rfl, ?_⟩) ?_ ?_
  rotate_left
  · intro w'
    go_simp
    with_reducible rfl
  rotate_left
  · simp only [Act.put, List.setIfInBounds_toArray, List.set_cons_zero, List.set_cons_succ, i64_w, i32_w]
    rfl
  refine take_ (i := 1) (N := some 18) (v := ?_) (a' := ?_) #[true, true, false, false, false, false, false, false, false, false, false, false, false] rfl rfl (by kernel_rfl) (fun _ _ _ h => h) (Or.inl ⟨by rfl, ?_⟩) hHeld ?_ ?_
  rotate_left
  · rintro w' ⟨s0, s1⟩
    go_simp
    with_reducible rfl
  rotate_left
  · simp only [Act.put, List.setIfInBounds_toArray, List.set_cons_zero, List.set_cons_succ, i64_w, i32_w]
    rfl
  refine pure_ (i := 2) (N := some 19) (v := ?_) (a' := ?_) #[true, true, true, false, false, false, false, false, false, false, false, false, false] rfl rfl (by kernel_rfl) (fun _ _ _ h => h) (Or.inl ⟨by rfl, ?_⟩) ?_ ?_
  rotate_left
  · intro w'
    go_simp
    with_reducible rfl
  rotate_left
  · simp only [Act.put, List.setIfInBounds_toArray, List.set_cons_zero, List.set_cons_succ, i64_w, i32_w]
    rfl
  refine pure_ (i := 5) (N := some 22) (v := ?_) (a' := ?_) #[true, true, true, false, false, true, false, false, false, false, false, false, false] rfl rfl (by kernel_rfl) (fun _ _ _ h => h) (Or.inl ⟨by rfl, ?_⟩) ?_ ?_
  rotate_left
  · intro w'
    go_simp
    with_reducible rfl
  rotate_left
  · simp only [Act.put, List.setIfInBounds_toArray, List.set_cons_zero, List.set_cons_succ, i64_w, i32_w]
    rfl
  refine two_ (i := 3) (j := 6) (Ni := some 20) (Nj := some 23) #[true, true, true, true, false, true, false, false, false, false, false, false, false] #[true, true, true, false, false, true, true, false, false, false, false, false, false] rfl rfl rfl rfl (by kernel_rfl) (by decide) (by decide) (fun K hK => ?_) (fun K hK => ?_)
  · refine goes_ Try.func91 (by kernel_rfl) rfl #[.slice A2 y.length c2] (by rfl) rfl rfl (by (try simp only [List.map_toArray, List.map_cons, List.map_nil]); first | done | rfl) ?_
    refine (slot_clone A2 c2 y _ (Kd.C_below HY.out HS.out.below) (by have := HL.out; rw [NY.out, List.length_drop]; omega)).mono ?_
    rintro e w3 ⟨A3, k3, rfl, ho3, hb3⟩
    refine ⟨_, rfl, ?_⟩
    have HO := Aside0.mk (Kd.R_lower ho3 HS.out.below.size)
    have n_ := Aside0.mk (show Bks w w3 [(g1, #[.slice (some ad) l.length c], 24), (g2, #[.slice none 0 0], 24)] from Bks.step HS.out hb3)
    clear HS ho3 hb3
    have HS := n_
    clear n_
    refine hK.out _ _ ⟨Bks.cell HS.out (i := 0) rfl 0 rfl, K0 _ HS.out.below⟩ (fun hHeld => ?_)
    clear hK K
    refine norm_ (a' := ?_) ?_ ?_
    rotate_left
    · show Act.put _ (some 20) _ = _
      simp only [Act.put, List.setIfInBounds_toArray, List.set_cons_zero, List.set_cons_succ, i64_w, i32_w]
      rfl
    refine pure_ (i := 4) (N := some 21) (v := ?_) (a' := ?_) #[true, true, true, true, true, true, false, false, false, false, false, false, false] rfl rfl (by kernel_rfl) (fun _ _ _ h => h) (Or.inl ⟨by rfl, ?_⟩) ?_ ?_
    rotate_left
    · intro w'
      go_simp
      with_reducible rfl
    rotate_left
    · simp only [Act.put, List.setIfInBounds_toArray, List.set_cons_zero, List.set_cons_succ, i64_w, i32_w]
      rfl
    refine two_ (i := 6) (j := 10) (Ni := some 23) (Nj := none) #[true, true, true, true, true, true, true, false, false, false, false, false, false] #[true, true, true, true, true, true, false, false, false, false, true, false, false] rfl rfl rfl rfl (by kernel_rfl) (by decide) (by decide) (fun K hK => ?_) (fun K hK => ?_)
    · obtain ⟨s0, s1⟩ := hHeld
      refine value_ (w1 := ?_) (v := ?_) (by rfl) rfl ?_ ?_
      rotate_left 2
      · go_simp
        first | done | (constructor <;> rfl) | rfl
      refine hK.out _ _ ⟨s0, s1⟩ (fun hHeld => ?_)
      clear hK K
      refine norm_ (a' := ?_) ?_ ?_
      rotate_left
      · show Act.put _ (some 23) _ = _
        simp only [Act.put, List.setIfInBounds_toArray, List.set_cons_zero, List.set_cons_succ, i64_w, i32_w]
        rfl
      refine pure_ (i := 7) (N := some 24) (v := ?_) (a' := ?_) #[true, true, true, true, true, true, true, true, false, false, false, false, false] rfl rfl (by kernel_rfl) (fun _ _ _ h => h) (Or.inl ⟨by rfl, ?_⟩) ?_ ?_
      rotate_left
      · intro w'
        go_simp
        with_reducible rfl
      rotate_left
      · simp only [Act.put, List.setIfInBounds_toArray, List.set_cons_zero, List.set_cons_succ, i64_w, i32_w]
        rfl
      refine pure_ (i := 8) (N := some 25) (v := ?_) (a' := ?_) #[true, true, true, true, true, true, true, true, true, false, false, false, false] rfl rfl (by kernel_rfl) (fun _ _ _ h => h) (Or.inl ⟨by rfl, ?_⟩) ?_ ?_
      rotate_left
      · intro w'
        go_simp
        with_reducible rfl
      rotate_left
      · simp only [Act.put, List.setIfInBounds_toArray, List.set_cons_zero, List.set_cons_succ, i64_w, i32_w]
        rfl
      refine two_ (i := 9) (j := 10) (Ni := some 26) (Nj := none) #[true, true, true, true, true, true, true, true, true, true, false, false, false] #[true, true, true, true, true, true, true, true, true, false, true, false, false] rfl rfl rfl rfl (by kernel_rfl) (by decide) (by decide) (fun K hK => ?_) (fun K hK => ?_)
      · obtain ⟨s0, s1⟩ := hHeld
        refine value_ (w1 := ?_) (v := ?_) (by rfl) rfl ?_ ?_
        rotate_left 2
        · go_simp
          first | done | (constructor <;> rfl) | rfl
        refine hK.out _ _ ⟨s0, s1⟩ (fun hHeld => ?_)
        clear hK K
        refine norm_ (a' := ?_) ?_ ?_
        rotate_left
        · show Act.put _ (some 26) _ = _
          simp only [Act.put, List.setIfInBounds_toArray, List.set_cons_zero, List.set_cons_succ, i64_w, i32_w]
          rfl
        refine one_ (i := 10) (N := none) #[true, true, true, true, true, true, true, true, true, true, true, false, false] rfl rfl (by kernel_rfl) (by decide) (fun K hK => ?_)
        have f_g := Bks.free HS.out (i := 1) rfl 0
        have c_g := Bks.cell HS.out (i := 1) rfl 0 rfl
        refine skip_ (w1 := (w3.setCell ⟨g2, 0, none⟩ (.slice A3 y.length k3))) (by rfl) rfl (by first | (go_simp; done) | (go_simp; rfl)) ?_
        refine hK.out _ _ ⟨Bks.cell (Bks.set HS.out (i := 1) rfl 0 _) (i := 0) rfl 0 rfl, K0 _ (Bks.set HS.out (i := 1) rfl 0 _).below⟩ (fun hHeld => ?_)
        clear hK K
        have n_ := Aside0.mk (Bks.set HS.out (i := 1) rfl 0 (.slice A3 y.length k3))
        have o_ := Aside0.mk (Kd.R_set HO.out (HS.out.at_ 1 _ _ _ rfl).1 (by decide) 0 (.slice A3 y.length k3))
        clear HS HO
        have HS := n_
        have HO := o_
        clear n_ o_ f_g c_g
        refine pure_ (i := 11) (N := some 3) (v := ?_) (a' := ?_) #[true, true, true, true, true, true, true, true, true, true, true, true, false] rfl rfl (by kernel_rfl) (fun _ _ _ h => h) (Or.inl ⟨by rfl, ?_⟩) ?_ ?_
        rotate_left
        · intro w'
          go_simp
          with_reducible rfl
        rotate_left
        · simp only [Act.put, List.setIfInBounds_toArray, List.set_cons_zero, List.set_cons_succ, i64_w, i32_w]
          rfl
        refine pure_ (i := 12) (N := some 4) (v := ?_) (a' := ?_) #[true, true, true, true, true, true, true, true, true, true, true, true, true] rfl rfl (by kernel_rfl) (fun _ _ _ h => h) (Or.inl ⟨by rfl, ?_⟩) ?_ ?_
        rotate_left
        · intro w'
          go_simp
          with_reducible rfl
        rotate_left
        · simp only [Act.put, List.setIfInBounds_toArray, List.set_cons_zero, List.set_cons_succ, i64_w, i32_w]
          rfl
        refine done_ (by kernel_rfl) ?_
        clear hcut
        go_wp2
        refine bodyPost_ret (results_ctt rfl _ _ g2 24 #[.slice A3 y.length k3] (0, 0) _ rfl (HS.out.at_ 1 _ _ _ rfl).1 Try.underlying24 rfl (by kernel_rfl)) rfl ?_
        exact ⟨_, _, rfl, HO.out, HS.out.below⟩
      · have f_g := Bks.free HS.out (i := 1) rfl 0
        have c_g := Bks.cell HS.out (i := 1) rfl 0 rfl
        refine skip_ (w1 := (w3.setCell ⟨g2, 0, none⟩ (.slice A3 y.length k3))) (by rfl) rfl (by first | (go_simp; done) | (go_simp; rfl)) ?_
        refine hK.out _ _ ⟨Bks.cell (Bks.set HS.out (i := 1) rfl 0 _) (i := 0) rfl 0 rfl, K0 _ (Bks.set HS.out (i := 1) rfl 0 _).below⟩ (fun hHeld => ?_)
        clear hK K
        have n_ := Aside0.mk (Bks.set HS.out (i := 1) rfl 0 (.slice A3 y.length k3))
        have o_ := Aside0.mk (Kd.R_set HO.out (HS.out.at_ 1 _ _ _ rfl).1 (by decide) 0 (.slice A3 y.length k3))
        clear HS HO
        have HS := n_
        have HO := o_
        clear n_ o_ f_g c_g
        refine one_ (i := 9) (N := some 26) #[true, true, true, true, true, true, true, true, true, true, true, false, false] rfl rfl (by kernel_rfl) (by decide) (fun K hK => ?_)
        obtain ⟨s0, s1⟩ := hHeld
        refine value_ (w1 := ?_) (v := ?_) (by rfl) rfl ?_ ?_
        rotate_left 2
        · go_simp
          first | done | (constructor <;> rfl) | rfl
        refine hK.out _ _ ⟨s0, s1⟩ (fun hHeld => ?_)
        clear hK K
        refine norm_ (a' := ?_) ?_ ?_
        rotate_left
        · show Act.put _ (some 26) _ = _
          simp only [Act.put, List.setIfInBounds_toArray, List.set_cons_zero, List.set_cons_succ, i64_w, i32_w]
          rfl
        refine pure_ (i := 11) (N := some 3) (v := ?_) (a' := ?_) #[true, true, true, true, true, true, true, true, true, true, true, true, false] rfl rfl (by kernel_rfl) (fun _ _ _ h => h) (Or.inl ⟨by rfl, ?_⟩) ?_ ?_
        rotate_left
        · intro w'
          go_simp
          with_reducible rfl
        rotate_left
        · simp only [Act.put, List.setIfInBounds_toArray, List.set_cons_zero, List.set_cons_succ, i64_w, i32_w]
          rfl
        refine pure_ (i := 12) (N := some 4) (v := ?_) (a' := ?_) #[true, true, true, true, true, true, true, true, true, true, true, true, true] rfl rfl (by kernel_rfl) (fun _ _ _ h => h) (Or.inl ⟨by rfl, ?_⟩) ?_ ?_
        rotate_left
        · intro w'
          go_simp
          with_reducible rfl
        rotate_left
        · simp only [Act.put, List.setIfInBounds_toArray, List.set_cons_zero, List.set_cons_succ, i64_w, i32_w]
          rfl
        refine done_ (by kernel_rfl) ?_
        clear hcut
        go_wp2
        refine bodyPost_ret (results_ctt rfl _ _ g2 24 #[.slice A3 y.length k3] (0, 0) _ rfl (HS.out.at_ 1 _ _ _ rfl).1 Try.underlying24 rfl (by kernel_rfl)) rfl ?_
        exact ⟨_, _, rfl, HO.out, HS.out.below⟩
    · have f_g := Bks.free HS.out (i := 1) rfl 0
      have c_g := Bks.cell HS.out (i := 1) rfl 0 rfl
      refine skip_ (w1 := (w3.setCell ⟨g2, 0, none⟩ (.slice A3 y.length k3))) (by rfl) rfl (by first | (go_simp; done) | (go_simp; rfl)) ?_
      refine hK.out _ _ ⟨Bks.cell (Bks.set HS.out (i := 1) rfl 0 _) (i := 0) rfl 0 rfl, K0 _ (Bks.set HS.out (i := 1) rfl 0 _).below⟩ (fun hHeld => ?_)
      clear hK K
      have n_ := Aside0.mk (Bks.set HS.out (i := 1) rfl 0 (.slice A3 y.length k3))
      have o_ := Aside0.mk (Kd.R_set HO.out (HS.out.at_ 1 _ _ _ rfl).1 (by decide) 0 (.slice A3 y.length k3))
      clear HS HO
      have HS := n_
      have HO := o_
      clear n_ o_ f_g c_g
      refine one_ (i := 6) (N := some 23) #[true, true, true, true, true, true, true, false, false, false, true, false, false] rfl rfl (by kernel_rfl) (by decide) (fun K hK => ?_)
      obtain ⟨s0, s1⟩ := hHeld
      refine value_ (w1 := ?_) (v := ?_) (by rfl) rfl ?_ ?_
      rotate_left 2
      · go_simp
        first | done | (constructor <;> rfl) | rfl
      refine hK.out _ _ ⟨s0, s1⟩ (fun hHeld => ?_)
      clear hK K
      refine norm_ (a' := ?_) ?_ ?_
      rotate_left
      · show Act.put _ (some 23) _ = _
        simp only [Act.put, List.setIfInBounds_toArray, List.set_cons_zero, List.set_cons_succ, i64_w, i32_w]
        rfl
      refine pure_ (i := 7) (N := some 24) (v := ?_) (a' := ?_) #[true, true, true, true, true, true, true, true, false, false, true, false, false] rfl rfl (by kernel_rfl) (fun _ _ _ h => h) (Or.inl ⟨by rfl, ?_⟩) ?_ ?_
      rotate_left
      · intro w'
        go_simp
        with_reducible rfl
      rotate_left
      · simp only [Act.put, List.setIfInBounds_toArray, List.set_cons_zero, List.set_cons_succ, i64_w, i32_w]
        rfl
      refine pure_ (i := 8) (N := some 25) (v := ?_) (a' := ?_) #[true, true, true, true, true, true, true, true, true, false, true, false, false] rfl rfl (by kernel_rfl) (fun _ _ _ h => h) (Or.inl ⟨by rfl, ?_⟩) ?_ ?_
      rotate_left
      · intro w'
        go_simp
        with_reducible rfl
      rotate_left
      · simp only [Act.put, List.setIfInBounds_toArray, List.set_cons_zero, List.set_cons_succ, i64_w, i32_w]
        rfl
      refine one_ (i := 9) (N := some 26) #[true, true, true, true, true, true, true, true, true, true, true, false, false] rfl rfl (by kernel_rfl) (by decide) (fun K hK => ?_)
      obtain ⟨s0, s1⟩ := hHeld
      refine value_ (w1 := ?_) (v := ?_) (by rfl) rfl ?_ ?_
      rotate_left 2
      · go_simp
        first | done | (constructor <;> rfl) | rfl
      refine hK.out _ _ ⟨s0, s1⟩ (fun hHeld => ?_)
      clear hK K
      refine norm_ (a' := ?_) ?_ ?_
      rotate_left
      · show Act.put _ (some 26) _ = _
        simp only [Act.put, List.setIfInBounds_toArray, List.set_cons_zero, List.set_cons_succ, i64_w, i32_w]
        rfl
      refine pure_ (i := 11) (N := some 3) (v := ?_) (a' := ?_) #[true, true, true, true, true, true, true, true, true, true, true, true, false] rfl rfl (by kernel_rfl) (fun _ _ _ h => h) (Or.inl ⟨by rfl, ?_⟩) ?_ ?_
      rotate_left
      · intro w'
        go_simp
        with_reducible rfl
      rotate_left
      · simp only [Act.put, List.setIfInBounds_toArray, List.set_cons_zero, List.set_cons_succ, i64_w, i32_w]
        rfl
      refine pure_ (i := 12) (N := some 4) (v := ?_) (a' := ?_) #[true, true, true, true, true, true, true, true, true, true, true, true, true] rfl rfl (by kernel_rfl) (fun _ _ _ h => h) (Or.inl ⟨by rfl, ?_⟩) ?_ ?_
      rotate_left
      · intro w'
        go_simp
        with_reducible rfl
      rotate_left
      · simp only [Act.put, List.setIfInBounds_toArray, List.set_cons_zero, List.set_cons_succ, i64_w, i32_w]
        rfl
      refine done_ (by kernel_rfl) ?_
      clear hcut
      go_wp2
      refine bodyPost_ret (results_ctt rfl _ _ g2 24 #[.slice A3 y.length k3] (0, 0) _ rfl (HS.out.at_ 1 _ _ _ rfl).1 Try.underlying24 rfl (by kernel_rfl)) rfl ?_
      exact ⟨_, _, rfl, HO.out, HS.out.below⟩
  · obtain ⟨s0, s1⟩ := hHeld
    refine value_ (w1 := ?_) (v := ?_) (by rfl) rfl ?_ ?_
    rotate_left 2
    · go_simp
      first | done | (constructor <;> rfl) | rfl
    refine hK.out _ _ ⟨s0, s1⟩ (fun hHeld => ?_)
    clear hK K
    refine norm_ (a' := ?_) ?_ ?_
    rotate_left
    · show Act.put _ (some 23) _ = _
      simp only [Act.put, List.setIfInBounds_toArray, List.set_cons_zero, List.set_cons_succ, i64_w, i32_w]
      rfl
    refine pure_ (i := 7) (N := some 24) (v := ?_) (a' := ?_) #[true, true, true, false, false, true, true, true, false, false, false, false, false] rfl rfl (by kernel_rfl) (fun _ _ _ h => h) (Or.inl ⟨by rfl, ?_⟩) ?_ ?_
    rotate_left
    · intro w'
      go_simp
      with_reducible rfl
    rotate_left
    · simp only [Act.put, List.setIfInBounds_toArray, List.set_cons_zero, List.set_cons_succ, i64_w, i32_w]
      rfl
    refine pure_ (i := 8) (N := some 25) (v := ?_) (a' := ?_) #[true, true, true, false, false, true, true, true, true, false, false, false, false] rfl rfl (by kernel_rfl) (fun _ _ _ h => h) (Or.inl ⟨by rfl, ?_⟩) ?_ ?_
    rotate_left
    · intro w'
      go_simp
      with_reducible rfl
    rotate_left
    · simp only [Act.put, List.setIfInBounds_toArray, List.set_cons_zero, List.set_cons_succ, i64_w, i32_w]
      rfl
    refine two_ (i := 3) (j := 9) (Ni := some 20) (Nj := some 26) #[true, true, true, true, false, true, true, true, true, false, false, false, false] #[true, true, true, false, false, true, true, true, true, true, false, false, false] rfl rfl rfl rfl (by kernel_rfl) (by decide) (by decide) (fun K hK => ?_) (fun K hK => ?_)
    · refine goes_ Try.func91 (by kernel_rfl) rfl #[.slice A2 y.length c2] (by rfl) rfl rfl (by (try simp only [List.map_toArray, List.map_cons, List.map_nil]); first | done | rfl) ?_
      refine (slot_clone A2 c2 y _ (Kd.C_below HY.out HS.out.below) (by have := HL.out; rw [NY.out, List.length_drop]; omega)).mono ?_
      rintro e w3 ⟨A3, k3, rfl, ho3, hb3⟩
      refine ⟨_, rfl, ?_⟩
      have HO := Aside0.mk (Kd.R_lower ho3 HS.out.below.size)
      have n_ := Aside0.mk (show Bks w w3 [(g1, #[.slice (some ad) l.length c], 24), (g2, #[.slice none 0 0], 24)] from Bks.step HS.out hb3)
      clear HS ho3 hb3
      have HS := n_
      clear n_
      refine hK.out _ _ ⟨Bks.cell HS.out (i := 0) rfl 0 rfl, K0 _ HS.out.below⟩ (fun hHeld => ?_)
      clear hK K
      refine norm_ (a' := ?_) ?_ ?_
      rotate_left
      · show Act.put _ (some 20) _ = _
        simp only [Act.put, List.setIfInBounds_toArray, List.set_cons_zero, List.set_cons_succ, i64_w, i32_w]
        rfl
      refine pure_ (i := 4) (N := some 21) (v := ?_) (a' := ?_) #[true, true, true, true, true, true, true, true, true, false, false, false, false] rfl rfl (by kernel_rfl) (fun _ _ _ h => h) (Or.inl ⟨by rfl, ?_⟩) ?_ ?_
      rotate_left
      · intro w'
        go_simp
        with_reducible rfl
      rotate_left
      · simp only [Act.put, List.setIfInBounds_toArray, List.set_cons_zero, List.set_cons_succ, i64_w, i32_w]
        rfl
      refine two_ (i := 9) (j := 10) (Ni := some 26) (Nj := none) #[true, true, true, true, true, true, true, true, true, true, false, false, false] #[true, true, true, true, true, true, true, true, true, false, true, false, false] rfl rfl rfl rfl (by kernel_rfl) (by decide) (by decide) (fun K hK => ?_) (fun K hK => ?_)
      · obtain ⟨s0, s1⟩ := hHeld
        refine value_ (w1 := ?_) (v := ?_) (by rfl) rfl ?_ ?_
        rotate_left 2
        · go_simp
          first | done | (constructor <;> rfl) | rfl
        refine hK.out _ _ ⟨s0, s1⟩ (fun hHeld => ?_)
        clear hK K
        refine norm_ (a' := ?_) ?_ ?_
        rotate_left
        · show Act.put _ (some 26) _ = _
          simp only [Act.put, List.setIfInBounds_toArray, List.set_cons_zero, List.set_cons_succ, i64_w, i32_w]
          rfl
        refine one_ (i := 10) (N := none) #[true, true, true, true, true, true, true, true, true, true, true, false, false] rfl rfl (by kernel_rfl) (by decide) (fun K hK => ?_)
        have f_g := Bks.free HS.out (i := 1) rfl 0
        have c_g := Bks.cell HS.out (i := 1) rfl 0 rfl
        refine skip_ (w1 := (w3.setCell ⟨g2, 0, none⟩ (.slice A3 y.length k3))) (by rfl) rfl (by first | (go_simp; done) | (go_simp; rfl)) ?_
        refine hK.out _ _ ⟨Bks.cell (Bks.set HS.out (i := 1) rfl 0 _) (i := 0) rfl 0 rfl, K0 _ (Bks.set HS.out (i := 1) rfl 0 _).below⟩ (fun hHeld => ?_)
        clear hK K
        have n_ := Aside0.mk (Bks.set HS.out (i := 1) rfl 0 (.slice A3 y.length k3))
        have o_ := Aside0.mk (Kd.R_set HO.out (HS.out.at_ 1 _ _ _ rfl).1 (by decide) 0 (.slice A3 y.length k3))
        clear HS HO
        have HS := n_
        have HO := o_
        clear n_ o_ f_g c_g
        refine pure_ (i := 11) (N := some 3) (v := ?_) (a' := ?_) #[true, true, true, true, true, true, true, true, true, true, true, true, false] rfl rfl (by kernel_rfl) (fun _ _ _ h => h) (Or.inl ⟨by rfl, ?_⟩) ?_ ?_
        rotate_left
        · intro w'
          go_simp
          with_reducible rfl
        rotate_left
        · simp only [Act.put, List.setIfInBounds_toArray, List.set_cons_zero, List.set_cons_succ, i64_w, i32_w]
          rfl
        refine pure_ (i := 12) (N := some 4) (v := ?_) (a' := ?_) #[true, true, true, true, true, true, true, true, true, true, true, true, true] rfl rfl (by kernel_rfl) (fun _ _ _ h => h) (Or.inl ⟨by rfl, ?_⟩) ?_ ?_
        rotate_left
        · intro w'
          go_simp
          with_reducible rfl
        rotate_left
        · simp only [Act.put, List.setIfInBounds_toArray, List.set_cons_zero, List.set_cons_succ, i64_w, i32_w]
          rfl
        refine done_ (by kernel_rfl) ?_
        clear hcut
        go_wp2
        refine bodyPost_ret (results_ctt rfl _ _ g2 24 #[.slice A3 y.length k3] (0, 0) _ rfl (HS.out.at_ 1 _ _ _ rfl).1 Try.underlying24 rfl (by kernel_rfl)) rfl ?_
        exact ⟨_, _, rfl, HO.out, HS.out.below⟩
      · have f_g := Bks.free HS.out (i := 1) rfl 0
        have c_g := Bks.cell HS.out (i := 1) rfl 0 rfl
        refine skip_ (w1 := (w3.setCell ⟨g2, 0, none⟩ (.slice A3 y.length k3))) (by rfl) rfl (by first | (go_simp; done) | (go_simp; rfl)) ?_
        refine hK.out _ _ ⟨Bks.cell (Bks.set HS.out (i := 1) rfl 0 _) (i := 0) rfl 0 rfl, K0 _ (Bks.set HS.out (i := 1) rfl 0 _).below⟩ (fun hHeld => ?_)
        clear hK K
        have n_ := Aside0.mk (Bks.set HS.out (i := 1) rfl 0 (.slice A3 y.length k3))
        have o_ := Aside0.mk (Kd.R_set HO.out (HS.out.at_ 1 _ _ _ rfl).1 (by decide) 0 (.slice A3 y.length k3))
        clear HS HO
        have HS := n_
        have HO := o_
        clear n_ o_ f_g c_g
        refine one_ (i := 9) (N := some 26) #[true, true, true, true, true, true, true, true, true, true, true, false, false] rfl rfl (by kernel_rfl) (by decide) (fun K hK => ?_)
        obtain ⟨s0, s1⟩ := hHeld
        refine value_ (w1 := ?_) (v := ?_) (by rfl) rfl ?_ ?_
        rotate_left 2
        · go_simp
          first | done | (constructor <;> rfl) | rfl
        refine hK.out _ _ ⟨s0, s1⟩ (fun hHeld => ?_)
        clear hK K
        refine norm_ (a' := ?_) ?_ ?_
        rotate_left
        · show Act.put _ (some 26) _ = _
          simp only [Act.put, List.setIfInBounds_toArray, List.set_cons_zero, List.set_cons_succ, i64_w, i32_w]
          rfl
        refine pure_ (i := 11) (N := some 3) (v := ?_) (a' := ?_) #[true, true, true, true, true, true, true, true, true, true, true, true, false] rfl rfl (by kernel_rfl) (fun _ _ _ h => h) (Or.inl ⟨by rfl, ?_⟩) ?_ ?_
        rotate_left
        · intro w'
          go_simp
          with_reducible rfl
        rotate_left
        · simp only [Act.put, List.setIfInBounds_toArray, List.set_cons_zero, List.set_cons_succ, i64_w, i32_w]
          rfl
        refine pure_ (i := 12) (N := some 4) (v := ?_) (a' := ?_) #[true, true, true, true, true, true, true, true, true, true, true, true, true] rfl rfl (by kernel_rfl) (fun _ _ _ h => h) (Or.inl ⟨by rfl, ?_⟩) ?_ ?_
        rotate_left
        · intro w'
          go_simp
          with_reducible rfl
        rotate_left
        · simp only [Act.put, List.setIfInBounds_toArray, List.set_cons_zero, List.set_cons_succ, i64_w, i32_w]
          rfl
        refine done_ (by kernel_rfl) ?_
        clear hcut
        go_wp2
        refine bodyPost_ret (results_ctt rfl _ _ g2 24 #[.slice A3 y.length k3] (0, 0) _ rfl (HS.out.at_ 1 _ _ _ rfl).1 Try.underlying24 rfl (by kernel_rfl)) rfl ?_
        exact ⟨_, _, rfl, HO.out, HS.out.below⟩
    · obtain ⟨s0, s1⟩ := hHeld
      refine value_ (w1 := ?_) (v := ?_) (by rfl) rfl ?_ ?_
      rotate_left 2
      · go_simp
        first | done | (constructor <;> rfl) | rfl
      refine hK.out _ _ ⟨s0, s1⟩ (fun hHeld => ?_)
      clear hK K
      refine norm_ (a' := ?_) ?_ ?_
      rotate_left
      · show Act.put _ (some 26) _ = _
        simp only [Act.put, List.setIfInBounds_toArray, List.set_cons_zero, List.set_cons_succ, i64_w, i32_w]
        rfl
      refine one_ (i := 3) (N := some 20) #[true, true, true, true, false, true, true, true, true, true, false, false, false] rfl rfl (by kernel_rfl) (by decide) (fun K hK => ?_)
      refine goes_ Try.func91 (by kernel_rfl) rfl #[.slice A2 y.length c2] (by rfl) rfl rfl (by (try simp only [List.map_toArray, List.map_cons, List.map_nil]); first | done | rfl) ?_
      refine (slot_clone A2 c2 y _ (Kd.C_below HY.out HS.out.below) (by have := HL.out; rw [NY.out, List.length_drop]; omega)).mono ?_
      rintro e w3 ⟨A3, k3, rfl, ho3, hb3⟩
      refine ⟨_, rfl, ?_⟩
      have HO := Aside0.mk (Kd.R_lower ho3 HS.out.below.size)
      have n_ := Aside0.mk (show Bks w w3 [(g1, #[.slice (some ad) l.length c], 24), (g2, #[.slice none 0 0], 24)] from Bks.step HS.out hb3)
      clear HS ho3 hb3
      have HS := n_
      clear n_
      refine hK.out _ _ ⟨Bks.cell HS.out (i := 0) rfl 0 rfl, K0 _ HS.out.below⟩ (fun hHeld => ?_)
      clear hK K
      refine norm_ (a' := ?_) ?_ ?_
      rotate_left
      · show Act.put _ (some 20) _ = _
        simp only [Act.put, List.setIfInBounds_toArray, List.set_cons_zero, List.set_cons_succ, i64_w, i32_w]
        rfl
      refine pure_ (i := 4) (N := some 21) (v := ?_) (a' := ?_) #[true, true, true, true, true, true, true, true, true, true, false, false, false] rfl rfl (by kernel_rfl) (fun _ _ _ h => h) (Or.inl ⟨by rfl, ?_⟩) ?_ ?_
      rotate_left
      · intro w'
        go_simp
        with_reducible rfl
      rotate_left
      · simp only [Act.put, List.setIfInBounds_toArray, List.set_cons_zero, List.set_cons_succ, i64_w, i32_w]
        rfl
      refine one_ (i := 10) (N := none) #[true, true, true, true, true, true, true, true, true, true, true, false, false] rfl rfl (by kernel_rfl) (by decide) (fun K hK => ?_)
      have f_g := Bks.free HS.out (i := 1) rfl 0
      have c_g := Bks.cell HS.out (i := 1) rfl 0 rfl
      refine skip_ (w1 := (w3.setCell ⟨g2, 0, none⟩ (.slice A3 y.length k3))) (by rfl) rfl (by first | (go_simp; done) | (go_simp; rfl)) ?_
      refine hK.out _ _ ⟨Bks.cell (Bks.set HS.out (i := 1) rfl 0 _) (i := 0) rfl 0 rfl, K0 _ (Bks.set HS.out (i := 1) rfl 0 _).below⟩ (fun hHeld => ?_)
      clear hK K
      have n_ := Aside0.mk (Bks.set HS.out (i := 1) rfl 0 (.slice A3 y.length k3))
      have o_ := Aside0.mk (Kd.R_set HO.out (HS.out.at_ 1 _ _ _ rfl).1 (by decide) 0 (.slice A3 y.length k3))
      clear HS HO
      have HS := n_
      have HO := o_
      clear n_ o_ f_g c_g
      refine pure_ (i := 11) (N := some 3) (v := ?_) (a' := ?_) #[true, true, true, true, true, true, true, true, true, true, true, true, false] rfl rfl (by kernel_rfl) (fun _ _ _ h => h) (Or.inl ⟨by rfl, ?_⟩) ?_ ?_
      rotate_left
      · intro w'
        go_simp
        with_reducible rfl
      rotate_left
      · simp only [Act.put, List.setIfInBounds_toArray, List.set_cons_zero, List.set_cons_succ, i64_w, i32_w]
        rfl
      refine pure_ (i := 12) (N := some 4) (v := ?_) (a' := ?_) #[true, true, true, true, true, true, true, true, true, true, true, true, true] rfl rfl (by kernel_rfl) (fun _ _ _ h => h) (Or.inl ⟨by rfl, ?_⟩) ?_ ?_
      rotate_left
      · intro w'
        go_simp
        with_reducible rfl
      rotate_left
      · simp only [Act.put, List.setIfInBounds_toArray, List.set_cons_zero, List.set_cons_succ, i64_w, i32_w]
        rfl
      refine done_ (by kernel_rfl) ?_
      clear hcut
      go_wp2
      refine bodyPost_ret (results_ctt rfl _ _ g2 24 #[.slice A3 y.length k3] (0, 0) _ rfl (HS.out.at_ 1 _ _ _ rfl).1 Try.underlying24 rfl (by kernel_rfl)) rfl ?_
      exact ⟨_, _, rfl, HO.out, HS.out.below⟩
set_option maxHeartbeats 16000000 in
set_option maxRecDepth 100000 in
theorem row_deref_no (A : Option Addr) (c : Nat) (l : List S107) (w : World) (hr : Kd.C k107 w A l.length l) (hd : drf l = false) :
    Calls Try.prog 86 #[.agg #[.slice A l.length c]] w fun e w' => e = .returned (.tuple #[.agg #[.slice none 0 0], .int .i64 0, .bool false]) ∧ Below w.heap.size w w' := by
  have hu3 := Try.underlying24
  have hu4 := Try.underlying107
  have HR1 := Aside0.mk hr
  have HD := Aside0.mk hd
  clear hr hd
  have HS := Aside0.mk (Bks.start (Below.refl w.heap.size w))
  have HR := Aside0.mk (Rws.start (w0 := w) (W := w))
  by_cases c8 : 0 < l.length
  · have C8 := Aside0.mk c8
    have hf := drf_no HD.out c8
    clear c8
    obtain ⟨x, hx⟩ : ∃ x, x = rd_T107 l 0 := ⟨_, rfl⟩
    rw [← hx] at hf
    have NX := Aside0.mk hx
    have HF := Aside0.mk hf
    clear hx hf
    obtain ⟨ad, e1, h0, h1⟩ := at_T107 HR1.out 0 (by omega) (by have := C8.out; omega)
    cases e1
    rw [← NX.out] at h0 h1
    rw [HF.out] at h1
    rw [show ((0 : Int)).toNat = 0 from rfl, show 0 * 2 = 0 from rfl, Addr.add_zero'] at h0
    rw [show ((0 : Int)).toNat = 0 from rfl, show 0 * 2 = 0 from rfl, Addr.add_zero'] at h1
    have K0 : ∀ W, Below w.heap.size w W → W.cell? _ = some _ := fun W hb => (hb.cell (World.block_lt_of_cell? w _ h0)).trans h0
    have K1 : ∀ W, Below w.heap.size w W → W.cell? _ = some _ := fun W hb => (hb.cell (World.block_lt_of_cell? w _ h1)).trans h1
    clear h0 h1
    have p1 : (0 < (l.length : Int)) = True := eq_true (by have := C8.out; omega)
    have p2 : (0 < l.length) = True := eq_true C8.out
    have p0 : ((l.length : Int) == 0) = false := beq_eq_false_iff_ne.mpr (by have := C8.out; omega)
    go_enter Try.func86, Try.ntmps86
    go_upto_region 1 with (first | ((with_reducible refine gate_dst (N := 1) rfl ?_); refine box_event ?hg (N := 1) ?hd (cs := #[.slice (some ad) l.length c]) (t := 24) ?hr ?_; (case hd => rfl); (case hg => rfl); (case hr => first | (go_simp; done) | (go_simp; rfl)); intro g1 hg1 wg1 xg1 bg1; have n_ := Aside0.mk (show Bks w wg1 [(g1, #[.slice (some ad) l.length c], 24)] from Bks.new HS.out hg1 xg1 bg1); have m_ := Aside0.mk (show Rws w wg1 [] from Rws.step HR.out bg1); clear HS HR; have HS := n_; have HR := m_; clear n_ m_; clear hg1 xg1 bg1; have c_g1_0 : wg1.cell? ⟨g1, 0, none⟩ = some (.slice (some ad) l.length c) := Bks.cell HS.out (i := 0) rfl 0 rfl; have f_g1 : ∀ j : Nat, wg1.frozen? ⟨g1, j, none⟩ = false := fun j => Bks.free HS.out (i := 0) rfl j) | ((with_reducible refine gate_dst (N := 2) rfl ?_); refine box_event ?hg (N := 2) ?hd (cs := #[.slice none 0 0]) (t := 24) ?hr ?_; (case hd => rfl); (case hg => rfl); (case hr => first | (go_simp; done) | (go_simp; rfl)); intro g2 hg2 wg2 xg2 bg2; have n_ := Aside0.mk (show Bks w wg2 [(g1, #[.slice (some ad) l.length c], 24), (g2, #[.slice none 0 0], 24)] from Bks.new HS.out hg2 xg2 bg2); have m_ := Aside0.mk (show Rws w wg2 [] from Rws.step HR.out bg2); clear HS HR; clear c_g1_0 f_g1; have HS := n_; have HR := m_; clear n_ m_; clear hg2 xg2 bg2; have c_g1_0 : wg2.cell? ⟨g1, 0, none⟩ = some (.slice (some ad) l.length c) := Bks.cell HS.out (i := 0) rfl 0 rfl; have f_g1 : ∀ j : Nat, wg2.frozen? ⟨g1, j, none⟩ = false := fun j => Bks.free HS.out (i := 0) rfl j; have c_g2_0 : wg2.cell? ⟨g2, 0, none⟩ = some (.slice none 0 0) := Bks.cell HS.out (i := 1) rfl 0 rfl; have f_g2 : ∀ j : Nat, wg2.frozen? ⟨g2, j, none⟩ = false := fun j => Bks.free HS.out (i := 1) rfl j; have ne_g1_g2 : g1 ≠ g2 := Bks.ne HS.out 0 1 _ _ rfl rfl (by decide); have ne_g2_g1 : g2 ≠ g1 := Bks.ne HS.out 1 0 _ _ rfl rfl (by decide)))
    have n_ := Aside0.mk (show Bks w wg2 [(g1, #[.slice (some ad) l.length c], 24), (g2, #[.slice none 0 0], 24)] from HS.out)
    have m_ := Aside0.mk (show Rws w wg2 [] from HR.out)
    clear HS HR
    clear c_g1_0 f_g1 c_g2_0 f_g2 ne_g1_g2 ne_g2_g1
    generalize wg2 = w1 at n_ m_ ⊢
    have HS := n_
    have HR := m_
    clear n_ m_
    have c_g1_0 : w1.cell? ⟨g1, 0, none⟩ = some (.slice (some ad) l.length c) := Bks.cell HS.out (i := 0) rfl 0 rfl
    have f_g1 : ∀ j : Nat, w1.frozen? ⟨g1, j, none⟩ = false := fun j => Bks.free HS.out (i := 0) rfl j
    have c_g2_0 : w1.cell? ⟨g2, 0, none⟩ = some (.slice none 0 0) := Bks.cell HS.out (i := 1) rfl 0 rfl
    have f_g2 : ∀ j : Nat, w1.frozen? ⟨g2, j, none⟩ = false := fun j => Bks.free HS.out (i := 1) rfl j
    have ne_g1_g2 : g1 ≠ g2 := Bks.ne HS.out 0 1 _ _ rfl rfl (by decide)
    have ne_g2_g1 : g2 ≠ g1 := Bks.ne HS.out 1 0 _ _ rfl rfl (by decide)
    have h0 := K0 _ HS.out.below
    have h1 := K1 _ HS.out.below
    go_wp2
    have s := Aside0.mk (Bks.set HS.out (i := 1) rfl 0 (.slice none 0 0))
    refine bodyPost_ret (results_ctt rfl _ _ g2 24 #[.slice none 0 0] (0, 0) _ rfl (s.out.at_ 1 _ _ _ rfl).1 Try.underlying24 rfl (by kernel_rfl)) rfl ?_
    exact ⟨rfl, s.out.below⟩
  · obtain rfl : l = [] := List.eq_nil_of_length_eq_zero (by omega)
    clear c8
    go_enter Try.func86, Try.ntmps86
    go_upto_region 1 with (first | ((with_reducible refine gate_dst (N := 1) rfl ?_); refine box_event ?hg (N := 1) ?hd (cs := #[.slice A 0 c]) (t := 24) ?hr ?_; (case hd => rfl); (case hg => rfl); (case hr => first | (go_simp; done) | (go_simp; rfl)); intro g1 hg1 wg1 xg1 bg1; have n_ := Aside0.mk (show Bks w wg1 [(g1, #[.slice A 0 c], 24)] from Bks.new HS.out hg1 xg1 bg1); have m_ := Aside0.mk (show Rws w wg1 [] from Rws.step HR.out bg1); clear HS HR; have HS := n_; have HR := m_; clear n_ m_; clear hg1 xg1 bg1; have c_g1_0 : wg1.cell? ⟨g1, 0, none⟩ = some (.slice A 0 c) := Bks.cell HS.out (i := 0) rfl 0 rfl; have f_g1 : ∀ j : Nat, wg1.frozen? ⟨g1, j, none⟩ = false := fun j => Bks.free HS.out (i := 0) rfl j) | ((with_reducible refine gate_dst (N := 2) rfl ?_); refine box_event ?hg (N := 2) ?hd (cs := #[.slice none 0 0]) (t := 24) ?hr ?_; (case hd => rfl); (case hg => rfl); (case hr => first | (go_simp; done) | (go_simp; rfl)); intro g2 hg2 wg2 xg2 bg2; have n_ := Aside0.mk (show Bks w wg2 [(g1, #[.slice A 0 c], 24), (g2, #[.slice none 0 0], 24)] from Bks.new HS.out hg2 xg2 bg2); have m_ := Aside0.mk (show Rws w wg2 [] from Rws.step HR.out bg2); clear HS HR; clear c_g1_0 f_g1; have HS := n_; have HR := m_; clear n_ m_; clear hg2 xg2 bg2; have c_g1_0 : wg2.cell? ⟨g1, 0, none⟩ = some (.slice A 0 c) := Bks.cell HS.out (i := 0) rfl 0 rfl; have f_g1 : ∀ j : Nat, wg2.frozen? ⟨g1, j, none⟩ = false := fun j => Bks.free HS.out (i := 0) rfl j; have c_g2_0 : wg2.cell? ⟨g2, 0, none⟩ = some (.slice none 0 0) := Bks.cell HS.out (i := 1) rfl 0 rfl; have f_g2 : ∀ j : Nat, wg2.frozen? ⟨g2, j, none⟩ = false := fun j => Bks.free HS.out (i := 1) rfl j; have ne_g1_g2 : g1 ≠ g2 := Bks.ne HS.out 0 1 _ _ rfl rfl (by decide); have ne_g2_g1 : g2 ≠ g1 := Bks.ne HS.out 1 0 _ _ rfl rfl (by decide)))
    have n_ := Aside0.mk (show Bks w wg2 [(g1, #[.slice A 0 c], 24), (g2, #[.slice none 0 0], 24)] from HS.out)
    have m_ := Aside0.mk (show Rws w wg2 [] from HR.out)
    clear HS HR
    clear c_g1_0 f_g1 c_g2_0 f_g2 ne_g1_g2 ne_g2_g1
    generalize wg2 = w1 at n_ m_ ⊢
    have HS := n_
    have HR := m_
    clear n_ m_
    have c_g1_0 : w1.cell? ⟨g1, 0, none⟩ = some (.slice A 0 c) := Bks.cell HS.out (i := 0) rfl 0 rfl
    have f_g1 : ∀ j : Nat, w1.frozen? ⟨g1, j, none⟩ = false := fun j => Bks.free HS.out (i := 0) rfl j
    have c_g2_0 : w1.cell? ⟨g2, 0, none⟩ = some (.slice none 0 0) := Bks.cell HS.out (i := 1) rfl 0 rfl
    have f_g2 : ∀ j : Nat, w1.frozen? ⟨g2, j, none⟩ = false := fun j => Bks.free HS.out (i := 1) rfl j
    have ne_g1_g2 : g1 ≠ g2 := Bks.ne HS.out 0 1 _ _ rfl rfl (by decide)
    have ne_g2_g1 : g2 ≠ g1 := Bks.ne HS.out 1 0 _ _ rfl rfl (by decide)
    go_wp2
    have s := Aside0.mk (Bks.set HS.out (i := 1) rfl 0 (.slice none 0 0))
    refine bodyPost_ret (results_ctt rfl _ _ g2 24 #[.slice none 0 0] (0, 0) _ rfl (s.out.at_ 1 _ _ _ rfl).1 Try.underlying24 rfl (by kernel_rfl)) rfl ?_
    exact ⟨rfl, s.out.below⟩
theorem row_deref_any (A : Option Addr) (c : Nat) (l : List S107) (w : World) (hr : Kd.C k107 w A l.length l) (hc : l.length ≤ c) (hl : l.length < 1000000000) :
    Calls Try.prog 86 #[.agg #[.slice A l.length c]] w fun e w' => ∃ A' n' c' o, e = .returned (.tuple #[.agg #[.slice A' n' c'], .int .i64 o, .bool (drf l)]) ∧ Below w.heap.size w w' := by
  cases hd : drf l with
  | true =>
    refine (row_deref_yes A c l w hr hc hl hd).mono ?_
    rintro e w' ⟨A', c', rfl, _, hb⟩
    exact ⟨A', _, c', _, rfl, hb⟩
  | false =>
    refine (row_deref_no A c l w hr hd).mono ?_
    rintro e w' ⟨rfl, hb⟩
    exact ⟨none, 0, 0, 0, rfl, hb⟩

end Go.Proofs.Ytnabbhcagonlkaa.GRelateNeeds
