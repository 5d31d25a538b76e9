/- Written for this claim by gp.py, a program of this session's, over the kit's print. Lean checks it. -/
import Derived.Test.YthhebinonpoddaaGSigCallsx0
import Derived.Test.YthhebinonpoddaaGSigCallshx
import Derived.Test.YthhebinonpoddaaGSigCallshrows
import Derived.Test.YthhebinonpoddaaGSigCallshkept
import Derived.Test.YthhebinonpoddaaGSigCallshput
import Derived.StillTailTactics
namespace Go.Proofs.Ythhebinonpoddaa.GSigCalls
open Go.RowKit Go.Proofs.YthhebinonpoddaaW.PrintWords Go.Proofs.YthhebinonpoddaaW.PrintLast Go.Proofs.YthhebinonpoddaaW.PrintMore
attribute [local go_sem] max2_int min2_int max_two min_two max_three min_three max_four min_four   -- for this text's walks alone
set_option linter.unusedVariables false
set_option linter.unusedSimpArgs false

--import Derived.StillTailTactics
/-- What flows from slots to slots, from the i-th one on. -/
def slx (kind from_ : Int) : List S115 → List S115 → Int → List S129
  | s :: a, t :: b, i => ⟨s.f0, t.f0, kind, wrap64 (from_ + i), false⟩ :: ((if t.f1 = true then [⟨t.f0, s.f0, kind, wrap64 (from_ + i), true⟩] else []) ++ slx kind from_ a b (i + 1))
  | [], _, _ => []
  | _ :: _, [], _ => []
theorem slx_step (kind from_ : Int) (a b : List S115) (j : Int) (h0 : 0 ≤ j) (ha : j < a.length) (hb : j < b.length) :
    slx kind from_ (a.drop j.toNat) (b.drop j.toNat) j = [⟨(rd_T115 a j).f0, (rd_T115 b j).f0, kind, wrap64 (from_ + j), false⟩] ++ ((if (rd_T115 b j).f1 = true then [⟨(rd_T115 b j).f0, (rd_T115 a j).f0, kind, wrap64 (from_ + j), true⟩] else []) ++ slx kind from_ (a.drop (j + 1).toNat) (b.drop (j + 1).toNat) (j + 1)) := by
  have ea : (j + 1).toNat = j.toNat + 1 := by omega
  have h1 : j.toNat < a.length := by omega
  have h2 : j.toNat < b.length := by omega
  have r1 : rd_T115 a j = a[j.toNat] := by unfold rd_T115; rw [List.getD_eq_getElem?_getD, List.getElem?_eq_getElem h1]; rfl
  have r2 : rd_T115 b j = b[j.toNat] := by unfold rd_T115; rw [List.getD_eq_getElem?_getD, List.getElem?_eq_getElem h2]; rfl
  rw [ea, List.drop_eq_getElem_cons h1, List.drop_eq_getElem_cons h2, r1, r2]
  rfl
set_option maxHeartbeats 16000000 in
set_option maxRecDepth 100000 in
/-- Slots of one shape, related. -/
theorem relate_slots (A1 : Option Addr) (c1 : Nat) (l : List S115) (A2 : Option Addr) (c2 : Nat) (m : List S115) (kind from_ : Int) (g : Nat) (v : Value) (xs : List S129) (w0 w : World)
    (hr1 : Kd.C k115 w0 A1 l.length l) (hr2 : Kd.C k115 w0 A2 m.length m) (hlm : l.length = m.length)
    (hg : w.heap[g]? = some (.cells #[v] 144 (0, 0))) (hg0 : w0.heap.size ≤ g) (hB : Below w0.heap.size w0 w) (hR : Kd.R k129 129 w w0.heap.size (fun _ => True) v xs) (hl : xs.length < 100) (hm : l.length < 1000000000) :
    Calls Try.prog 108 #[.pointer (some ⟨g, 0, none⟩), .slice A1 l.length c1, .slice A2 m.length c2, .int .i64 kind, .int .i64 from_] w fun e w' => e = .returned (.tuple #[]) ∧ ∃ v', w'.heap[g]? = some (.cells #[v'] 144 (0, 0)) ∧
      Kd.R k129 129 w' w0.heap.size (fun _ => True) v' (xs ++ slx kind from_ l m 0) ∧ Below w0.heap.size w0 w' := by
  have hu1 := Try.underlying144
  have hu2 := Try.underlying129
  have hu3 := Try.underlying115
  have HR1 := Aside0.mk hr1
  have HR2 := Aside0.mk hr2
  have HE := Aside0.mk hlm
  have HL := Aside0.mk hl
  have HM := Aside0.mk hm
  have HG0 := Aside0.mk hg0
  have HS := Aside0.mk (show Bks w0 w [(g, #[v], 144)] from by have := Bks.one hB hg hg0; exact this)
  have HO := Aside0.mk hR
  clear hr1 hr2 hlm hl hm hg hg0 hB hR
  obtain ⟨R, hr⟩ : ∃ R, R = xs ++ slx kind from_ l m 0 := ⟨_, rfl⟩
  rw [← hr]
  have HX := Aside0.mk hr
  clear hr
  go_enter Try.func108, Try.ntmps108
  go_wp2
  go_loopg [14] l.length (fun kq v14 w' => ∃ (j : Int) (u : Value) (ys : List S129), v14 = .int .i64 j ∧ Aside0 (0 ≤ j ∧ j + kq = l.length) ∧ Aside0 (R = ys ++ slx kind from_ (l.drop j.toNat) (m.drop j.toNat) j) ∧ Aside0 ((ys.length : Int) ≤ xs.length + 2 * j) ∧ Aside0 (Bks w0 w' [(g, #[u], 144)]) ∧ Aside0 (Kd.R k129 129 w' w0.heap.size (fun _ => True) u ys))
  case atStart => exact ⟨0, v, xs, rfl, ⟨⟨Int.le_refl _, Int.zero_add _⟩⟩, ⟨HX.out⟩, ⟨by omega⟩, HS, HO⟩
  case round =>
    clear HS HO HX
    obtain ⟨j, u, ys, rfl, HJ, HX, HY, HS, HO⟩ := hrel
    by_cases c1 : j < (l.length : Int)
    · obtain ⟨k1, rfl⟩ : ∃ k1, gk = k1 + 1 := ⟨gk - 1, by have := HJ.out; omega⟩
      have c1b : decide (j < (l.length : Int)) = true := decide_eq_true c1
      have cm : j < (m.length : Int) := by rw [← HE.out]; exact c1
      obtain ⟨ad1, e1, h10, h11⟩ := at_T115 HR1.out j HJ.out.1 c1
      obtain ⟨ad2, e2, h20, h21⟩ := at_T115 HR2.out j HJ.out.1 cm
      cases e1
      cases e2
      have hj : wrap64 (j + 1) = j + 1 := by have := HM.out; have := HJ.out; unfold wrap64; omega
      have hst := slx_step kind from_ l m j HJ.out.1 c1 cm
      generalize hx : rd_T115 l j = x at h10 h11 hst
      generalize hy : rd_T115 m j = y at h20 h21 hst
      have HX2 := Aside0.mk (HX.out.trans (congrArg (ys ++ ·) hst))
      have K10 : ∀ W, Below w0.heap.size w0 W → W.cell? _ = some _ := fun W hb => (hb.cell (World.block_lt_of_cell? w0 _ h10)).trans h10
      have K11 : ∀ W, Below w0.heap.size w0 W → W.cell? _ = some _ := fun W hb => (hb.cell (World.block_lt_of_cell? w0 _ h11)).trans h11
      have K20 : ∀ W, Below w0.heap.size w0 W → W.cell? _ = some _ := fun W hb => (hb.cell (World.block_lt_of_cell? w0 _ h20)).trans h20
      have K21 : ∀ W, Below w0.heap.size w0 W → W.cell? _ = some _ := fun W hb => (hb.cell (World.block_lt_of_cell? w0 _ h21)).trans h21
      have p1 : (0 ≤ j) = True := eq_true HJ.out.1
      have q1 : (j < (l.length : Int)) = True := eq_true c1
      have q2 : (j < (m.length : Int)) = True := eq_true cm
      clear hx hy h10 h11 h20 h21 c1 cm hst HX
      have h10 := K10 _ HS.out.below
      have h11 := K11 _ HS.out.below
      obtain ⟨Au, cu, rfl⟩ := Kd.R_slice HO.out
      have HR := Aside0.mk (Rws.start (w0 := w0) (W := wr))
      have c_g_0 : wr.cell? ⟨g, 0, none⟩ = some (.slice Au ys.length cu) := Bks.cell HS.out (i := 0) rfl 0 rfl
      have f_g : ∀ j : Nat, wr.frozen? ⟨g, j, none⟩ = false := fun j => Bks.free HS.out (i := 0) rfl j
      go_upto_region 3 with (first | ((with_reducible refine bZ (N := 11) rfl ?_); refine bY ?hg (N := 11) ?hd (cs := #[.int .i64 0, .bool false]) (t := 115) ?hr ?_; (case hd => rfl); (case hg => rfl); (case hr => first | (go_simp; done) | (go_simp; rfl)); intro g11 hg11 wg11 xg11 bg11; have o_ := Aside0.mk (show Kd.R k129 129 wg11 w0.heap.size (fun _ => True) (.slice Au ys.length cu) ys from Kd.cC HO.out bg11); clear HO; have HO := o_; clear o_; have n_ := Aside0.mk (show Bks w0 wg11 [(g, #[.slice Au ys.length cu], 144), (g11, #[.int .i64 0, .bool false], 115)] from Bks.new HS.out hg11 xg11 bg11); have m_ := Aside0.mk (show Rws w0 wg11 [] from Rws.step HR.out bg11); clear HS HR; clear c_g_0 f_g; have HS := n_; have HR := m_; clear n_ m_; clear hg11 xg11 bg11; have c_g_0 : wg11.cell? ⟨g, 0, none⟩ = some (.slice Au ys.length cu) := Bks.cell HS.out (i := 0) rfl 0 rfl; have f_g : ∀ j : Nat, wg11.frozen? ⟨g, j, none⟩ = false := fun j => Bks.free HS.out (i := 0) rfl j; have c_g11_0 : wg11.cell? ⟨g11, 0, none⟩ = some (.int .i64 0) := Bks.cell HS.out (i := 1) rfl 0 rfl; have c_g11_1 : wg11.cell? ⟨g11, 1, none⟩ = some (.bool false) := Bks.cell HS.out (i := 1) rfl 1 rfl; have f_g11 : ∀ j : Nat, wg11.frozen? ⟨g11, j, none⟩ = false := fun j => Bks.free HS.out (i := 1) rfl j; have ne_g_g11 : g ≠ g11 := Bks.ne HS.out 0 1 _ _ rfl rfl (by decide); have ne_g11_g : g11 ≠ g := Bks.ne HS.out 1 0 _ _ rfl rfl (by decide); have h10 := K10 _ HS.out.below; have h11 := K11 _ HS.out.below))
      have o_ := Aside0.mk (show Kd.R k129 129 ((wg11.setCell ⟨g11, 0, none⟩ (.int .i64 x.f0)).setCell ⟨g11, 1, none⟩ (.bool x.f1)) w0.heap.size (fun _ => True) (.slice Au ys.length cu) ys from (Kd.R_set (Kd.R_set HO.out ((HS.out).at_ 1 _ _ _ rfl).1 (by decide) 0 (.int .i64 x.f0)) (((Bks.set HS.out (i := 1) rfl 0 (.int .i64 x.f0))).at_ 1 _ _ _ rfl).1 (by decide) 1 (.bool x.f1)))
      clear HO
      have HO := o_
      clear o_
      have n_ := Aside0.mk (show Bks w0 ((wg11.setCell ⟨g11, 0, none⟩ (.int .i64 x.f0)).setCell ⟨g11, 1, none⟩ (.bool x.f1)) [(g, #[.slice Au ys.length cu], 144), (g11, #[.int .i64 x.f0, .bool x.f1], 115)] from (Bks.set (Bks.set HS.out (i := 1) rfl 0 (.int .i64 x.f0)) (i := 1) rfl 1 (.bool x.f1)))
      have m_ := Aside0.mk (show Rws w0 ((wg11.setCell ⟨g11, 0, none⟩ (.int .i64 x.f0)).setCell ⟨g11, 1, none⟩ (.bool x.f1)) [] from (Rws.set (Rws.set HR.out HS.out (i := 1) rfl (by decide) 0 (.int .i64 x.f0)) (Bks.set HS.out (i := 1) rfl 0 (.int .i64 x.f0)) (i := 1) rfl (by decide) 1 (.bool x.f1)))
      clear HS HR
      clear c_g_0 f_g c_g11_0 c_g11_1 f_g11 ne_g_g11 ne_g11_g
      generalize ((wg11.setCell ⟨g11, 0, none⟩ (.int .i64 x.f0)).setCell ⟨g11, 1, none⟩ (.bool x.f1)) = w3 at n_ m_ HO ⊢
      have HS := n_
      have HR := m_
      clear n_ m_
      have c_g_0 : w3.cell? ⟨g, 0, none⟩ = some (.slice Au ys.length cu) := Bks.cell HS.out (i := 0) rfl 0 rfl
      have f_g : ∀ j : Nat, w3.frozen? ⟨g, j, none⟩ = false := fun j => Bks.free HS.out (i := 0) rfl j
      have c_g11_0 : w3.cell? ⟨g11, 0, none⟩ = some (.int .i64 x.f0) := Bks.cell HS.out (i := 1) rfl 0 rfl
      have c_g11_1 : w3.cell? ⟨g11, 1, none⟩ = some (.bool x.f1) := Bks.cell HS.out (i := 1) rfl 1 rfl
      have f_g11 : ∀ j : Nat, w3.frozen? ⟨g11, j, none⟩ = false := fun j => Bks.free HS.out (i := 1) rfl j
      have ne_g_g11 : g ≠ g11 := Bks.ne HS.out 0 1 _ _ rfl rfl (by decide)
      have ne_g11_g : g11 ≠ g := Bks.ne HS.out 1 0 _ _ rfl rfl (by decide)
      clear h10 h11
      refine wp_region_still_tail 12 (by kernel_rfl) (by kernel_rfl) ?_
      simp only [List.take_succ_cons, List.take_zero, List.drop_succ_cons, List.drop_zero]
      change wpStill _ _ (World.drew w3) (fun a' => wpList _ _ _ _ a' (World.drew w3)) _ _
      have o_ := Aside0.mk (show Kd.R k129 129 (World.drew w3) w0.heap.size (fun _ => True) (.slice Au ys.length cu) ys from Kd.bT HO.out)
      clear HO
      have HO := o_
      clear o_
      have n_ := Aside0.mk (show Bks w0 (World.drew w3) [(g, #[.slice Au ys.length cu], 144), (g11, #[.int .i64 x.f0, .bool x.f1], 115)] from Bks.drew HS.out)
      have m_ := Aside0.mk (show Rws w0 (World.drew w3) [] from Rws.drew HR.out)
      clear HS HR
      clear c_g_0 f_g c_g11_0 c_g11_1 f_g11 ne_g_g11 ne_g11_g
      generalize World.drew w3 = w3d at n_ m_ HO ⊢
      have HS := n_
      have HR := m_
      have h20 := K20 _ HS.out.below
      clear n_ m_
      have c_g_0 : w3d.cell? ⟨g, 0, none⟩ = some (.slice Au ys.length cu) := Bks.cell HS.out (i := 0) rfl 0 rfl
      have f_g : ∀ j : Nat, w3d.frozen? ⟨g, j, none⟩ = false := fun j => Bks.free HS.out (i := 0) rfl j
      have c_g11_0 : w3d.cell? ⟨g11, 0, none⟩ = some (.int .i64 x.f0) := Bks.cell HS.out (i := 1) rfl 0 rfl
      have c_g11_1 : w3d.cell? ⟨g11, 1, none⟩ = some (.bool x.f1) := Bks.cell HS.out (i := 1) rfl 1 rfl
      have f_g11 : ∀ j : Nat, w3d.frozen? ⟨g11, j, none⟩ = false := fun j => Bks.free HS.out (i := 1) rfl j
      have ne_g_g11 : g ≠ g11 := Bks.ne HS.out 0 1 _ _ rfl rfl (by decide)
      have ne_g11_g : g11 ≠ g := Bks.ne HS.out 1 0 _ _ rfl rfl (by decide)
      repeat still_step
      refine wpStill_nil ?_
      have HC := Aside0.mk (fun a b c d => relate_put g _ ys a b c d w0 _ (HS.out.at_ 0 _ _ _ rfl).1 HG0.out HS.out.below HO.out (by have := HY.out; have := HL.out; have := HM.out; have := HJ.out; omega))
      go_upto_region 4 with (first | (go_at_call 112; (with_reducible refine (HC.out _ _ _ _).mono ?_); rintro e w4 ⟨rfl, v4, z1, z2, z3, z4⟩; generalize hy4 : ys ++ [_] = ys4 at z2; obtain ⟨A4, k4, rfl⟩ := Kd.R_slice z2; have NY4 := Aside0.mk hy4; clear hy4; have n_ := Aside0.mk (show Bks w0 w4 [(g, #[.slice A4 ys4.length k4], 144), (g11, #[.int .i64 x.f0, .bool x.f1], 115)] from Bks.keptS (S := fun k => k = g ∨ (Value.slice Au ys.length cu).ownBlock = some k) HS.out (i := 0) rfl z1 z3 z4 (Bks.two_ (S := fun k => k = g ∨ (Value.slice Au ys.length cu).ownBlock = some k) (fun (e : g11 = g ∨ (Value.slice Au ys.length cu).ownBlock = some g11) => e.elim (Bks.ne HS.out 1 0 _ _ rfl rfl (by decide)) (fun e => Kd.R_ne HO.out (HS.out.at_ 1 _ _ _ rfl).1 (by decide) e.symm)))); have o_ := Aside0.mk z2; clear HS HO HC z1 z2 z3 z4 h20; have HS := n_; have HO := o_; clear n_ o_))
      clear c_g_0 f_g c_g11_0 c_g11_1 f_g11 ne_g_g11 ne_g11_g
      clear HR
      have HR := Aside0.mk (Rws.start (w0 := w0) (W := w4))
      have h21 := K21 _ HS.out.below
      by_cases hb : y.f1 = true
      · rw [hb] at h21
        go_upto_region 5 with fail
        clear h21
        have n_ := Aside0.mk (show Bks w0 (World.drew w4) [(g, #[.slice A4 ys4.length k4], 144), (g11, #[.int .i64 x.f0, .bool x.f1], 115)] from Bks.drew HS.out)
        have o_ := Aside0.mk (Kd.bT HO.out)
        clear HS HO HR
        have HS := n_
        have HO := o_
        clear n_ o_
        refine start_ (n := 22) (S := fun w' => w'.cell? ⟨g, 0, none⟩ = some (.slice A4 ys4.length k4) ∧ w'.cell? (ad2.add (j.toNat * 2)) = some (.int .i64 y.f0) ∧ w'.cell? ⟨g11, 0, none⟩ = some (.int .i64 x.f0)) (ds := [18, 21]) #[false, false, false, false, false, false, false, false, false, false, false, false, false, false, false, false, false, false, false, false, false, false] (by kernel_rfl) rfl rfl ⟨Bks.cell HS.out (i := 0) rfl 0 rfl, K20 _ HS.out.below, Bks.cell HS.out (i := 1) rfl 0 rfl⟩ (fun hHeld => ?_)
        generalize World.drew w4 = w5 at HS HO hHeld ⊢
        refine bX (i := 0) (N := some 37) (v := ?_) (a' := ?_) #[true, false, false, false, false, false, false, false, false, false, false, false, false, false, false, false, false, false, false, false, false, false] rfl rfl (by kernel_rfl) (fun _ _ _ h => h) (Or.inl ⟨by rfl, ?_⟩) ?_ ?_
        rotate_left
        · intro w'
          go_simp
          with_reducible rfl
        rotate_left
        · simp only [Act.put, sZ1, sZ2, sZ3, bN, bP]
          rfl
        refine bX (i := 1) (N := some 38) (v := ?_) (a' := ?_) #[true, true, false, false, false, false, false, false, false, false, false, false, false, false, false, false, false, false, false, false, false, false] rfl rfl (by kernel_rfl) (fun _ _ _ h => h) (Or.inl ⟨by rfl, ?_⟩) ?_ ?_
        rotate_left
        · intro w'
          go_simp
          with_reducible rfl
        rotate_left
        · simp only [Act.put, sZ1, sZ2, sZ3, bN, bP]
          rfl
        refine bX (i := 2) (N := some 39) (v := ?_) (a' := ?_) #[true, true, true, false, false, false, false, false, false, false, false, false, false, false, false, false, false, false, false, false, false, false] rfl rfl (by kernel_rfl) (fun _ _ _ h => h) (Or.inl ⟨by rfl, ?_⟩) ?_ ?_
        rotate_left
        · intro w'
          go_simp
          with_reducible rfl
        rotate_left
        · simp only [Act.put, sZ1, sZ2, sZ3, bN, bP]
          rfl
        refine bX (i := 3) (N := some 40) (v := ?_) (a' := ?_) #[true, true, true, true, false, false, false, false, false, false, false, false, false, false, false, false, false, false, false, false, false, false] rfl rfl (by kernel_rfl) (fun _ _ _ h => h) (Or.inl ⟨by rfl, ?_⟩) ?_ ?_
        rotate_left
        · intro w'
          go_simp
          with_reducible rfl
        rotate_left
        · simp only [Act.put, sZ1, sZ2, sZ3, bN, bP]
          rfl
        refine take_ (i := 4) (N := some 41) (v := ?_) (a' := ?_) #[true, true, true, true, true, false, false, false, false, false, false, false, false, false, false, false, false, false, false, false, false, false] rfl rfl (by kernel_rfl) (fun _ _ _ h => h) (Or.inl ⟨by rfl, ?_⟩) hHeld ?_ ?_
        rotate_left
        · rintro w' ⟨s0, s1, s2⟩
          go_simp
          with_reducible rfl
        rotate_left
        · simp only [Act.put, sZ1, sZ2, sZ3, bN, bP]
          rfl
        refine bX (i := 5) (N := some 42) (v := ?_) (a' := ?_) #[true, true, true, true, true, true, false, false, false, false, false, false, false, false, false, false, false, false, false, false, false, false] rfl rfl (by kernel_rfl) (fun _ _ _ h => h) (Or.inl ⟨by rfl, ?_⟩) ?_ ?_
        rotate_left
        · intro w'
          go_simp
          with_reducible rfl
        rotate_left
        · simp only [Act.put, sZ1, sZ2, sZ3, bN, bP]
          rfl
        refine bX (i := 6) (N := some 43) (v := ?_) (a' := ?_) #[true, true, true, true, true, true, true, false, false, false, false, false, false, false, false, false, false, false, false, false, false, false] rfl rfl (by kernel_rfl) (fun _ _ _ h => h) (Or.inl ⟨by rfl, ?_⟩) ?_ ?_
        rotate_left
        · intro w'
          go_simp
          with_reducible rfl
        rotate_left
        · simp only [Act.put, sZ1, sZ2, sZ3, bN, bP]
          rfl
        refine bX (i := 7) (N := some 44) (v := ?_) (a' := ?_) #[true, true, true, true, true, true, true, true, false, false, false, false, false, false, false, false, false, false, false, false, false, false] rfl rfl (by kernel_rfl) (fun _ _ _ h => h) (Or.inl ⟨by rfl, ?_⟩) ?_ ?_
        rotate_left
        · intro w'
          go_simp
          with_reducible rfl
        rotate_left
        · simp only [Act.put, sZ1, sZ2, sZ3, bN, bP]
          rfl
        refine bX (i := 8) (N := some 45) (v := ?_) (a' := ?_) #[true, true, true, true, true, true, true, true, true, false, false, false, false, false, false, false, false, false, false, false, false, false] rfl rfl (by kernel_rfl) (fun _ _ _ h => h) (Or.inl ⟨by rfl, ?_⟩) ?_ ?_
        rotate_left
        · intro w'
          go_simp
          with_reducible rfl
        rotate_left
        · simp only [Act.put, sZ1, sZ2, sZ3, bN, bP]
          rfl
        refine take_ (i := 9) (N := some 46) (v := ?_) (a' := ?_) #[true, true, true, true, true, true, true, true, true, true, false, false, false, false, false, false, false, false, false, false, false, false] rfl rfl (by kernel_rfl) (fun _ _ _ h => h) (Or.inl ⟨by rfl, ?_⟩) hHeld ?_ ?_
        rotate_left
        · rintro w' ⟨s0, s1, s2⟩
          go_simp
          with_reducible rfl
        rotate_left
        · simp only [Act.put, sZ1, sZ2, sZ3, bN, bP]
          rfl
        refine bX (i := 10) (N := some 47) (v := ?_) (a' := ?_) #[true, true, true, true, true, true, true, true, true, true, true, false, false, false, false, false, false, false, false, false, false, false] rfl rfl (by kernel_rfl) (fun _ _ _ h => h) (Or.inl ⟨by rfl, ?_⟩) ?_ ?_
        rotate_left
        · intro w'
          go_simp
          with_reducible rfl
        rotate_left
        · simp only [Act.put, sZ1, sZ2, sZ3, bN, bP]
          rfl
        refine take_ (i := 11) (N := some 48) (v := ?_) (a' := ?_) #[true, true, true, true, true, true, true, true, true, true, true, true, false, false, false, false, false, false, false, false, false, false] rfl rfl (by kernel_rfl) (fun _ _ _ h => h) (Or.inl ⟨by rfl, ?_⟩) hHeld ?_ ?_
        rotate_left
        · rintro w' ⟨s0, s1, s2⟩
          go_simp
          with_reducible rfl
        rotate_left
        · simp only [Act.put, sZ1, sZ2, sZ3, bN, bP]
          rfl
        refine bX (i := 12) (N := some 49) (v := ?_) (a' := ?_) #[true, true, true, true, true, true, true, true, true, true, true, true, true, false, false, false, false, false, false, false, false, false] rfl rfl (by kernel_rfl) (fun _ _ _ h => h) (Or.inl ⟨by rfl, ?_⟩) ?_ ?_
        rotate_left
        · intro w'
          go_simp
          with_reducible rfl
        rotate_left
        · simp only [Act.put, sZ1, sZ2, sZ3, bN, bP]
          rfl
        refine bX (i := 13) (N := some 50) (v := ?_) (a' := ?_) #[true, true, true, true, true, true, true, true, true, true, true, true, true, true, false, false, false, false, false, false, false, false] rfl rfl (by kernel_rfl) (fun _ _ _ h => h) (Or.inl ⟨by rfl, ?_⟩) ?_ ?_
        rotate_left
        · intro w'
          go_simp
          with_reducible rfl
        rotate_left
        · simp only [Act.put, sZ1, sZ2, sZ3, bN, bP]
          rfl
        refine bX (i := 14) (N := some 51) (v := ?_) (a' := ?_) #[true, true, true, true, true, true, true, true, true, true, true, true, true, true, true, false, false, false, false, false, false, false] rfl rfl (by kernel_rfl) (fun _ _ _ h => h) (Or.inl ⟨by rfl, ?_⟩) ?_ ?_
        rotate_left
        · intro w'
          go_simp
          with_reducible rfl
        rotate_left
        · simp only [Act.put, sZ1, sZ2, sZ3, bN, bP]
          rfl
        refine bX (i := 15) (N := some 52) (v := ?_) (a' := ?_) #[true, true, true, true, true, true, true, true, true, true, true, true, true, true, true, true, false, false, false, false, false, false] rfl rfl (by kernel_rfl) (fun _ _ _ h => h) (Or.inl ⟨by rfl, ?_⟩) ?_ ?_
        rotate_left
        · intro w'
          go_simp
          with_reducible rfl
        rotate_left
        · simp only [Act.put, sZ1, sZ2, sZ3, bN, bP]
          rfl
        refine bX (i := 16) (N := some 53) (v := ?_) (a' := ?_) #[true, true, true, true, true, true, true, true, true, true, true, true, true, true, true, true, true, false, false, false, false, false] rfl rfl (by kernel_rfl) (fun _ _ _ h => h) (Or.inl ⟨by rfl, ?_⟩) ?_ ?_
        rotate_left
        · intro w'
          go_simp
          with_reducible rfl
        rotate_left
        · simp only [Act.put, sZ1, sZ2, sZ3, bN, bP]
          rfl
        refine one_ (i := 17) (N := some 54) #[true, true, true, true, true, true, true, true, true, true, true, true, true, true, true, true, true, true, false, false, false, false] rfl rfl (by kernel_rfl) (by decide) (fun K hK => ?_)
        refine value_ (w1 := ?_) (v := ?_) (by rfl) rfl ?_ ?_
        rotate_left 2
        · go_simp
          constructor
          · rfl
          · rfl
        refine hK.out _ _ ⟨Bks.cell (Bks.step HS.out (bC (Below.refl _ _) _)) (i := 0) rfl 0 rfl, K20 _ (Bks.step HS.out (bC (Below.refl _ _) _)).below, Bks.cell (Bks.step HS.out (bC (Below.refl _ _) _)) (i := 1) rfl 0 rfl⟩ (fun hHeld => ?_)
        clear hK K
        refine norm_ (a' := ?_) ?_ ?_
        rotate_left
        · show Act.put _ (some 54) _ = _
          simp only [Act.put, sZ1, sZ2, sZ3, bN, bP]
          rfl
        refine last_ (i := 18) (N := some 55) #[true, true, true, true, true, true, true, true, true, true, true, true, true, true, true, true, true, true, true, false, false, false] rfl rfl (by kernel_rfl) (by decide) (fun K hK => ?_)
        obtain ⟨ys6, hy6⟩ : ∃ y_ : List S129, y_ = ys4 ++ [(⟨y.f0, x.f0, kind, wrap64 (from_ + j), true⟩ : S129)] := ⟨_, rfl⟩
        have NY6 := Aside0.mk hy6
        clear hy6
        refine Kd.R_append_step k129 (w0 := w0) w0.heap.size (by rfl) (.tmp 41) (.tmp 54) 60 129 (.agg #[(.int .i64 0), (.int .i64 0), (.int .i64 0), (.int .i64 0), (.bool false)]) 40 rfl Try.underlying60 info129 rfl (by decide) (by omega) (.slice A4 ys4.length k4) ys4 (⟨y.f0, x.f0, kind, wrap64 (from_ + j), true⟩ : S129) [.int .i64 y.f0, .int .i64 x.f0, .int .i64 kind, .int .i64 (wrap64 (from_ + j)), .bool true] (fun _ => True) (fun _ => False) rfl rfl ?aP (fun _ hk => hk.elim) ?aF ?aO ?aB ?aS ?aL ?_
        (case aP => exact k129_mkM _ _ _ (⟨y.f0, x.f0, kind, wrap64 (from_ + j), true⟩ : S129))
        (case aB => exact HS.out.below)
        (case aF => exact fun _ _ => trivial)
        (case aO => exact HO.out)
        (case aS => exact HS.out.below.size)
        (case aL => have h1 := HY.out; have h2 := HL.out; have h3 := HM.out; have h4 := HJ.out; have h5 := congrArg List.length NY4.out; rw [List.length_append] at h5; simp only [List.length_singleton] at h5; omega)
        intro v6 w6 ho hb6 hgr hat
        rw [← NY6.out] at ho
        obtain ⟨A6, k6, rfl⟩ := Kd.R_slice ho
        have n_ := Aside0.mk (show Bks w0 w6 [(g, #[.slice A4 ys4.length k4], 144), (g11, #[.int .i64 x.f0, .bool x.f1], 115)] from Bks.kept HS.out (Kept.of_grown (S := fun k => (Value.slice A4 ys4.length k4).ownBlock = some k) hgr (Kept.refl w5 _) (fun k e => .inl e)) hb6 (Bks.both_ (S := fun k => (Value.slice A4 ys4.length k4).ownBlock = some k) (fun e => Kd.R_ne HO.out (HS.out.at_ 0 _ _ _ rfl).1 (by decide) e.symm) (fun e => Kd.R_ne HO.out (HS.out.at_ 1 _ _ _ rfl).1 (by decide) e.symm)))
        have o_ := Aside0.mk ho
        clear HS HO ho hb6 hgr hat
        have HS := n_
        have HO := o_
        clear n_ o_
        refine hK.out _ _ ?_
        clear hK K
        refine norm_ (a' := ?_) ?_ ?_
        rotate_left
        · show Act.put _ (some 55) _ = _
          simp only [Act.put, sZ1, sZ2, sZ3, bN, bP]
          rfl
        refine bX (i := 19) (N := some 56) (v := ?_) (a' := ?_) #[true, true, true, true, true, true, true, true, true, true, true, true, true, true, true, true, true, true, true, true, false, false] rfl rfl (by kernel_rfl) (fun _ _ _ h => h) (Or.inl ⟨by rfl, ?_⟩) ?_ ?_
        rotate_left
        · intro w'
          go_simp
          with_reducible rfl
        rotate_left
        · simp only [Act.put, sZ1, sZ2, sZ3, bN, bP]
          rfl
        refine bX (i := 20) (N := some 57) (v := ?_) (a' := ?_) #[true, true, true, true, true, true, true, true, true, true, true, true, true, true, true, true, true, true, true, true, true, false] rfl rfl (by kernel_rfl) (fun _ _ _ h => h) (Or.inl ⟨by rfl, ?_⟩) ?_ ?_
        rotate_left
        · intro w'
          go_simp
          with_reducible rfl
        rotate_left
        · simp only [Act.put, sZ1, sZ2, sZ3, bN, bP]
          rfl
        have f_g := Bks.free HS.out (i := 0) rfl 0
        have c_g := Bks.cell HS.out (i := 0) rfl 0 rfl
        refine last_ (i := 21) (N := none) #[true, true, true, true, true, true, true, true, true, true, true, true, true, true, true, true, true, true, true, true, true, true] rfl rfl (by kernel_rfl) (by decide) (fun K hK => ?_)
        refine skip_ (w1 := (w6.setCell ⟨g, 0, none⟩ (.slice A6 ys6.length k6))) (by rfl) rfl (by first | (go_simp; done) | (go_simp; rfl)) ?_
        refine hK.out _ _ ?_
        clear hK K
        refine done_ (by kernel_rfl) ?_
        go_wp2
        go_roundg k1
        case measure => omega
        case rel =>
          refine ⟨j + 1, _, ys6, by rw [hj], ⟨by have := HJ.out; omega⟩, ⟨?_⟩, ⟨?_⟩, ⟨Bks.pre (m := [_]) (Bks.set HS.out (i := 0) rfl 0 (.slice A6 ys6.length k6))⟩, ⟨Kd.R_set HO.out (HS.out.at_ 0 _ _ _ rfl).1 (by decide) 0 _⟩⟩
          · rw [HX2.out, NY6.out, ← NY4.out, if_pos hb]
            simp only [List.append_assoc]
          · have h1 := HY.out
            rw [NY6.out, ← NY4.out, List.length_append, List.length_append]
            simp only [List.length_singleton]
            omega
      · replace hb : y.f1 = false := Bool.eq_false_iff.mpr hb
        rw [hb] at h21
        go_wp2
        go_roundg k1
        case measure => omega
        case rel =>
          refine ⟨j + 1, _, ys4, by rw [hj], ⟨by have := HJ.out; omega⟩, ⟨?_⟩, ⟨?_⟩, ⟨Bks.pre (m := [_]) HS.out⟩, HO⟩
          · rw [HX2.out, ← NY4.out, if_neg (by rw [hb]; decide)]
            simp only [List.append_assoc, List.nil_append]
          · have h1 := HY.out
            rw [← NY4.out, List.length_append]
            simp only [List.length_singleton]
            omega
    · have c1b : decide (j < (l.length : Int)) = false := decide_eq_false c1
      have ej : l.drop j.toNat = [] := List.drop_eq_nil_of_le (by have := HJ.out; omega)
      have HX2 := Aside0.mk (show R = ys by rw [HX.out, ej]; simp [slx])
      go_wp2
      go_end0
      rw [HX2.out]
      exact ⟨rfl, u, (HS.out.at_ 0 _ _ _ rfl).1, HO.out, HS.out.below⟩

end Go.Proofs.Ythhebinonpoddaa.GSigCalls
