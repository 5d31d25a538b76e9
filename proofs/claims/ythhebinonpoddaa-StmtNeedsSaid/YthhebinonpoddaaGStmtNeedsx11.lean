/- Written for this claim by gp.py, a program of this session's, over the kit's print. Lean checks it. -/
import Derived.Test.YthhebinonpoddaaGStmtNeedsx0
namespace Go.Proofs.Ythhebinonpoddaa.GStmtNeeds
open Go.RowKit Go.Proofs.YthhebinonpoddaaW.PrintWords Go.Proofs.YthhebinonpoddaaW.PrintLast Go.Proofs.YthhebinonpoddaaW.PrintMore
attribute [local go_sem] max2_int min2_int max_two min_two max_three min_three max_four min_four   -- for this text's walks alone
set_option linter.unusedVariables false
set_option linter.unusedSimpArgs false

/-! ### easementref15_Ref: function 105 -/
def easementref15_Ref.l0 : Nat → Bool → List (S115) → Int → List (S115) → Option ((List (S115)))
 | 0, _, _, _, _ => none
 | k + 1, x2, x7, x8, x210000 => if x8 < (x210000.length : Int) then (if 0 ≤ x8 then (if (rd_T115 x210000 x8).f1 = true then (if x7.length < 8796093022208 then (easementref15_Ref.l0 k x2 (x7 ++ [(⟨(rd_T115 x210000 x8).f0, true⟩ : S115)]) (wrap64 (x8 + 1)) x210000) else (none)) else (if x7.length < 8796093022208 then (easementref15_Ref.l0 k x2 (x7 ++ [(⟨(rd_T115 x210000 x8).f0, x2⟩ : S115)]) (wrap64 (x8 + 1)) x210000) else (none))) else (none)) else (some x7)
def easementref15_Ref.f (k : Nat) (l0_0 : List (S115)) (a1 : Int) (a2 : Bool) : Option ((List (S115))) := easementref15_Ref.l0 k a2 (([(⟨a1, false⟩ : S115)] : List (S115))) 0 l0_0
theorem easementref15_Ref.mono_l : ∀ k, (∀ y0 y1 y2 y3, LeO (easementref15_Ref.l0 k y0 y1 y2 y3) (easementref15_Ref.l0 (k + 1) y0 y1 y2 y3))
 | 0 => fun _ _ _ _ r h => by simp [easementref15_Ref.l0] at h
 | k + 1 => by
  have ih0 := easementref15_Ref.mono_l k
  ·intro y0 y1 y2 y3
   unfold easementref15_Ref.l0
   repeat' first
   | (with_reducible exact ih0 _ _ _ _)
   | (with_reducible exact LeO.refl _)
   | (with_reducible exact LeO.none _)
   | (with_reducible refine LeO.ite ?_ ?_)
   | (with_reducible refine LeO.bind ?_ (fun _ => ?_))
   | exact ih0 _ _ _ _
   | exact LeO.none _
   | refine LeO.ite ?_ ?_
   | refine LeO.bind ?_ (fun _ => ?_)
theorem easementref15_Ref.mono : ∀ a0 a1 a2 k, LeO (easementref15_Ref.f k a0 a1 a2) (easementref15_Ref.f (k + 1) a0 a1 a2) := by
 intro a0 a1 a2 k
 have ih0 := easementref15_Ref.mono_l k
 unfold easementref15_Ref.f
 repeat' first
   | (with_reducible exact ih0 _ _ _ _)
   | (with_reducible exact LeO.refl _)
   | (with_reducible exact LeO.none _)
   | (with_reducible refine LeO.ite ?_ ?_)
   | (with_reducible refine LeO.bind ?_ (fun _ => ?_))
   | exact ih0 _ _ _ _
   | exact LeO.none _
   | refine LeO.ite ?_ ?_
   | refine LeO.bind ?_ (fun _ => ?_)
def easementref15_Ref.T5 : Bool × List (List Nat × List Nat) := (true, [([], []), ([], []), ([1], [1]), ([], []), ([2, 3], [2, 3]), ([4], [4]), ([5], [5]), ([], []), ([7], [7]), ([], []), ([8, 9], [8, 9]), ([10], [10]), ([11], [11]), ([12], [12]), ([13], [13]), ([13, 14], [13, 14]), ([6, 15], [6, 15]), ([16], [16]), ([0, 17, 13], [0, 17]), ([18, 18, 0, 1, 2, 3, 4, 5, 6, 7, 8, 9, 10, 11, 12, 13, 14, 15, 16, 17, 18], [0, 18])])
def easementref15_Ref.B5 : List Nat := [0, 0, 2, 0, 14, 30, 62, 0, 128, 0, 896, 1920, 3968, 8064, 16256, 32640, 65534, 131070, 262143, 524287]
theorem easementref15_Ref.tab5 : rtab .any (opsOf Try.f105 5) = easementref15_Ref.T5 := by kernel_rfl
theorem easementref15_Ref.bits5 : waitsOk easementref15_Ref.T5.2 easementref15_Ref.B5 = true := by kernel_rfl
set_option maxHeartbeats 8000000 in
set_option maxRecDepth 100000 in
theorem easementref15_Ref.calls (k : Nat) (A0_0 : Option Addr) (c0_0 : Nat) (l0_0 : List (S115)) (a1 : Int) (a2 : Bool) (r : List (S115)) (w : World) (hr0_0 : Kd.C k115 w A0_0 l0_0.length l0_0) (hc0_0 : l0_0.length ≤ c0_0) (h : easementref15_Ref.f k l0_0 a1 a2 = some r) :
  Calls Try.prog 105 #[.agg #[.slice A0_0 l0_0.length c0_0], .int .i64 a1, .bool a2] w fun e w' => ∃ v0_ : Value, e = .returned (.agg #[v0_]) ∧ Kd.R k115 115 w' w.heap.size (fun _ => True) v0_ r ∧ Below w.heap.size w w' := by
 have hu44 := Try.underlying44
 have hu115 := Try.underlying115
 have HR0_0 := Aside0.mk hr0_0
 have HC0_0 := Aside0.mk hc0_0
 clear hr0_0 hc0_0
 have HB := Aside0.mk (Below.refl w.heap.size w)
 have H : (easementref15_Ref.l0 k a2 (([(⟨a1, false⟩ : S115)] : List (S115))) 0 l0_0) = some r := h
 clear h
 obtain ⟨y211, hy211⟩ : ∃ y_ : List (S115), y_ = (([(⟨a1, false⟩ : S115)] : List (S115))) := ⟨_, rfl⟩
 replace H : (easementref15_Ref.l0 k a2 y211 0 l0_0) = some r := by first | (rw [hy211]; with_reducible exact H) | (have H2_ := (Option.bind_some _ _).symm.trans H; rw [hy211]; with_reducible exact H2_) | (have H2_ := (Option.bind_some _ _).symm.trans H; with_reducible exact H2_) | with_reducible exact H | (rw [hy211]; exact H) | exact H
 have Ny211 := Aside0.mk hy211
 clear hy211
 have H' := Aside0.mk H
 clear H
 go_enter Try.func105, Try.ntmps105
 go_wp2_with (first | ((with_reducible refine bT (N := 3) rfl ?_); refine bS ?hg (N := 3) ?hd (cs := #[.slice A0_0 l0_0.length c0_0]) (t := 44) ?hr ?_; (case hd => rfl); (case hg => rfl); (case hr => first | (go_simp; done) | (go_simp; rfl)); intro gb209 hg w4 hbox hb; have n0_ := Aside0.mk (bP (by repeat (first | (with_reducible first | exact HB.out | apply bE | apply bA | apply bD) | exact HB.out)) hb); have n1_ := Aside0.mk (hbox); have n2_ := Aside0.mk ((by rw [hg]; exact (bK (by repeat (first | (with_reducible first | exact HB.out | apply bE | apply bA | apply bD) | exact HB.out))) : w.heap.size ≤ gb209)); have n3_ := Aside0.mk ((by rw [hg]; exact (bK (by repeat (first | (with_reducible first | exact HB.out | apply bE | apply bA | apply bD) | exact HB.out))) : w.heap.size ≤ gb209)); clear HB; have HB := n0_; have BK209 := n1_; have GW209 := n2_; have GE209 := n3_; clear n0_ n1_ n2_ n3_; clear hb hbox hg) | ((with_reducible refine bT (N := 6) rfl ?_); refine bS ?hg (N := 6) ?hd (cs := #[.slice none 0 0]) (t := 44) ?hr ?_; (case hd => rfl); (case hg => rfl); (case hr => first | (go_simp; done) | (go_simp; rfl)); intro gb210 hg w5 hbox hb; have n0_ := Aside0.mk (bU (g := gb209) (o := .cells #[.slice A0_0 l0_0.length c0_0] 44 (0, 0)) (by (with_reducible repeat (first | refine bG ?_ _ | refine bH ?_ | refine bF ?_ _)); exact BK209.out) hb); have n1_ := Aside0.mk (bP (by repeat (first | (with_reducible first | exact HB.out | apply bE | apply bA | apply bD | refine bJ ?_ GE209.out) | exact HB.out)) hb); have n2_ := Aside0.mk (hbox); have n3_ := Aside0.mk ((by rw [hg]; exact (bK (by repeat (first | (with_reducible first | exact HB.out | apply bE | apply bA | apply bD | refine bJ ?_ GE209.out) | exact HB.out))) : w.heap.size ≤ gb210)); have n4_ := Aside0.mk ((by rw [hg]; exact (bK (by repeat (first | (with_reducible first | exact HB.out | apply bE | apply bA | apply bD | refine bJ ?_ GE209.out) | exact HB.out))) : w.heap.size ≤ gb210)); have n5_ := Aside0.mk ((by rw [hg]; exact Nat.ne_of_lt (blk_lt (g := gb209) (o := .cells #[.slice A0_0 l0_0.length c0_0] 44 (0, 0)) (by (with_reducible repeat (first | refine bG ?_ _ | refine bH ?_ | refine bF ?_ _)); exact BK209.out)) : gb209 ≠ gb210)); have n6_ := Aside0.mk ((by rw [hg]; exact Nat.ne_of_gt (blk_lt (g := gb209) (o := .cells #[.slice A0_0 l0_0.length c0_0] 44 (0, 0)) (by (with_reducible repeat (first | refine bG ?_ _ | refine bH ?_ | refine bF ?_ _)); exact BK209.out)) : gb210 ≠ gb209)); clear BK209; clear HB; have BK209 := n0_; have HB := n1_; have BK210 := n2_; have GW210 := n3_; have GE210 := n4_; have NB209_210 := n5_; have NB210_209 := n6_; clear n0_ n1_ n2_ n3_ n4_ n5_ n6_; clear hb hbox hg) | ((with_reducible refine bT (N := 11) rfl ?_); refine Kd.R_lit k115 _ 115 ?hg (N := 11) ?hd (xs := ([(⟨a1, false⟩ : S115)] : List (S115))) (inner := [.int .i64 a1, .bool false]) (ok := fun _ => True) (okp := fun _ => True) ?hr ?hp (fun _ hk => hk) trivial (Below.refl _ _) (Nat.le_refl _) (by simp) ?_; (case hd => rfl); (case hg => rfl); (case hr => first | (go_simp; done) | (go_simp; rfl)); (case hp => exact (Reps.c2 (show Kd.M k115 _ _ _ (⟨a1, false⟩ : S115) [.int .i64 a1, .bool false] from (k115_mkM _ _ _ (⟨a1, false⟩ : S115) )) (Reps.none _ _))); intro v212 w6 ho7 hb hg_ hnew_; clear hg_ hnew_; (first | rw [← Ny211.out] at ho7 | (simp only [Int.reduceToNat] at ho7; rw [← Ny211.out] at ho7)); have n0_ := Aside0.mk (Kd.R_lower ho7 (bK (by repeat (first | (with_reducible first | exact HB.out | apply bE | apply bA | apply bD | refine bJ ?_ GE209.out | refine bJ ?_ GE210.out) | exact HB.out)))); have n1_ := Aside0.mk (bU (g := gb209) (o := .cells #[.slice A0_0 l0_0.length c0_0] 44 (0, 0)) (by (with_reducible repeat (first | refine bG ?_ _ | refine bH ?_ | refine bF ?_ _)); exact BK209.out) hb); have n2_ := Aside0.mk (bU (g := gb210) (o := .cells #[.slice none 0 0] 44 (0, 0)) (by (with_reducible repeat (first | refine bG ?_ _ | refine bH ?_ | refine bF ?_ _)); exact BK210.out) hb); have n3_ := Aside0.mk (bP (by repeat (first | (with_reducible first | exact HB.out | apply bE | apply bA | apply bD | refine bJ ?_ GE209.out | refine bJ ?_ GE210.out) | exact HB.out)) hb); clear BK209; clear BK210; clear HB; have HO213 := n0_; have BK209 := n1_; have BK210 := n2_; have HB := n3_; clear n0_ n1_ n2_ n3_; clear hb ho7))
 go_loopg [7, 8] k (fun kq v7 v8 w' => ∃ (x7_1 : List (S115)) (x8_1 : Int), v8 = .int .i64 x8_1 ∧ Aside0 (easementref15_Ref.l0 kq a2 x7_1 x8_1 l0_0 = some r) ∧ Aside0 (kq ≤ k) ∧ Aside0 (Kd.R k115 115 w' w.heap.size (fun _ => True) v7 x7_1) ∧ Aside0 (w'.heap[gb209]? = some (.cells #[(.slice A0_0 l0_0.length c0_0)] 44 (0, 0))) ∧ Aside0 (w'.heap[gb210]? = some (.cells #[(.slice none 0 0)] 44 (0, 0))) ∧ Aside0 (Below w.heap.size w w'))
 case atStart => exact ⟨(y211), (0), (by first | rfl | (simp; done) | (simp [*]; done)), H', ⟨Nat.le_refl _⟩, ⟨by (with_reducible repeat (first | apply Kd.R_alloc | apply Kd.R_drewN | apply Kd.R_drew)); exact HO213.out⟩, ⟨by (with_reducible repeat (first | refine bG ?_ _ | refine bH ?_ | refine bF ?_ _)); exact BK209.out⟩, ⟨by (with_reducible repeat (first | refine bG ?_ _ | refine bH ?_ | refine bF ?_ _)); exact BK210.out⟩, ⟨by repeat (first | (with_reducible first | exact HB.out | apply bE | apply bA | apply bD | refine bJ ?_ GE209.out | refine bJ ?_ GE210.out) | exact HB.out)⟩⟩
 case round =>
  clear H'
  try clear c1
  try clear c2
  try clear p2
  obtain ⟨x7_1, x8_1, rfl, HA, HK1, HO_7, BK209, BK210, HB⟩ := hrel
  cases gk with
  | zero => exact absurd HA.out (by simp [easementref15_Ref.l0])
  | succ k1 =>
   have H := HA.out
   clear HA
   simp only [easementref15_Ref.l0] at H
   by_cases c8 : x8_1 < (l0_0.length : Int)
   ·rw [if_pos c8] at H
    have c8b0 : decide (x8_1 < (l0_0.length : Int)) = true := decide_eq_true c8
    clear c8
    by_cases c9 : 0 ≤ x8_1
    ·rw [if_pos c9] at H
     have c9b0 : decide (0 ≤ x8_1) = true := decide_eq_true c9
     clear c9
     obtain ⟨bq10, hbq10⟩ : ∃ b_ : Bool, b_ = ((rd_T115 l0_0 x8_1).f1) := ⟨_, rfl⟩
     replace H : (if bq10 = true then (if x7_1.length < 8796093022208 then (easementref15_Ref.l0 k1 a2 (x7_1 ++ [(⟨(rd_T115 l0_0 x8_1).f0, true⟩ : S115)]) (wrap64 (x8_1 + 1)) l0_0) else (none)) else (if x7_1.length < 8796093022208 then (easementref15_Ref.l0 k1 a2 (x7_1 ++ [(⟨(rd_T115 l0_0 x8_1).f0, a2⟩ : S115)]) (wrap64 (x8_1 + 1)) l0_0) else (none))) = some r := by rw [← hbq10] at H; exact H
     have Nbq10 := Aside0.mk hbq10
     clear hbq10
     by_cases c11 : bq10 = true
     ·subst c11
      have H1 : (if x7_1.length < 8796093022208 then (easementref15_Ref.l0 k1 a2 (x7_1 ++ [(⟨(rd_T115 l0_0 x8_1).f0, true⟩ : S115)]) (wrap64 (x8_1 + 1)) l0_0) else (none)) = some r := by rw [if_pos rfl] at H; exact H
      clear H
      have H := H1
      clear H1
      by_cases c12 : x7_1.length < 8796093022208
      ·rw [if_pos c12] at H
       have LMc12 := Aside0.mk c12
       clear c12
       obtain ⟨y216, hy216⟩ : ∃ y_ : List (S115), y_ = (x7_1 ++ [(⟨(rd_T115 l0_0 x8_1).f0, true⟩ : S115)]) := ⟨_, rfl⟩
       replace H : (easementref15_Ref.l0 k1 a2 y216 (wrap64 (x8_1 + 1)) l0_0) = some r := by first | (rw [hy216]; with_reducible exact H) | (have H2_ := (Option.bind_some _ _).symm.trans H; rw [hy216]; with_reducible exact H2_) | (have H2_ := (Option.bind_some _ _).symm.trans H; with_reducible exact H2_) | with_reducible exact H | (rw [hy216]; exact H) | exact H
       have Ny216 := Aside0.mk hy216
       clear hy216
       have H' := Aside0.mk H
       clear H
       have hnb13 := NB209_210.out
       have hnc13 := NB210_209.out
       have hcz14_0 : wr.cell? ⟨gb209, 0, none⟩ = some (.slice A0_0 l0_0.length c0_0) := (bC BK209.out 0).trans rfl
       have hfz14_0 := bB BK209.out 0
       try go_wp2
       have n0_ := Aside0.mk (Kd.R_drew HO_7.out)
       have n1_ := Aside0.mk (bH BK209.out)
       have n2_ := Aside0.mk (bH BK210.out)
       have n3_ := Aside0.mk (bD HB.out)
       clear HO_7
       clear BK209
       clear BK210
       clear HB
       have HO_7 := n0_
       have BK209 := n1_
       have BK210 := n2_
       have HB := n3_
       clear n0_ n1_ n2_ n3_
       have p214 : 0 ≤ (x8_1 : Int) := of_decide_eq_true (by first | (with_reducible assumption) | assumption)
       have q214 : x8_1 < (l0_0.length : Int) := of_decide_eq_true (by first | (with_reducible assumption) | assumption)
       obtain ⟨ad214, e214, hx214_0, hx214_1⟩ := at_T115 HR0_0.out x8_1 p214 q214
       have hw214_1 := hx214_1
       have hw214_0 := hx214_0
       (try rw [← Nbq10.out] at hx214_1)
       (try rw [← Nbq10.out] at hw214_1)
       cases e214
       replace hx214_0 := (HB.out.cell (World.block_lt_of_cell? w _ hx214_0)).trans hx214_0
       replace hx214_1 := (HB.out.cell (World.block_lt_of_cell? w _ hx214_1)).trans hx214_1
       replace p214 := eq_true p214
       replace q214 := eq_true q214
       have p215 : 0 ≤ (x8_1 : Int) := of_decide_eq_true (by first | (with_reducible assumption) | assumption)
       have q215 : x8_1 < (l0_0.length : Int) := of_decide_eq_true (by first | (with_reducible assumption) | assumption)
       obtain ⟨ad215, e215, hx215_0, hx215_1⟩ := at_T115 HR0_0.out x8_1 p215 q215
       have hw215_1 := hx215_1
       have hw215_0 := hx215_0
       (try rw [← Nbq10.out] at hx215_1)
       (try rw [← Nbq10.out] at hw215_1)
       obtain rfl : ad214 = ad215 := (by injection e215)
       replace hx215_0 := (HB.out.cell (World.block_lt_of_cell? w _ hx215_0)).trans hx215_0
       replace hx215_1 := (HB.out.cell (World.block_lt_of_cell? w _ hx215_1)).trans hx215_1
       replace p215 := eq_true p215
       replace q215 := eq_true q215
       refine start_ (n := 20) (S := fun w' => w'.cell? ⟨gb209, 0, none⟩ = some (.slice (some ad214) l0_0.length c0_0) ∧ w'.cell? (ad214.add ((x8_1).toNat * 2)) = some (.int .i64 ((rd_T115 l0_0 x8_1).f0)) ∧ w'.cell? ⟨(ad214.add ((x8_1).toNat * 2)).block, (ad214.add ((x8_1).toNat * 2)).off + 1, none⟩ = some (.bool true) ∧ w'.cell? (ad214.add ((x8_1).toNat * 2)) = some (.int .i64 ((rd_T115 l0_0 x8_1).f0)) ∧ w'.cell? ⟨(ad214.add ((x8_1).toNat * 2)).block, (ad214.add ((x8_1).toNat * 2)).off + 1, none⟩ = some (.bool true)) (ds := []) #[false, false, false, false, false, false, false, false, false, false, false, false, false, false, false, false, false, false, false, false] (by kernel_rfl) rfl rfl ⟨(bC BK209.out 0).trans rfl, ((HB.out.cell (World.block_lt_of_cell? w _ hw214_0)).trans hw214_0), ((HB.out.cell (World.block_lt_of_cell? w _ hw214_1)).trans hw214_1), ((HB.out.cell (World.block_lt_of_cell? w _ hw215_0)).trans hw215_0), ((HB.out.cell (World.block_lt_of_cell? w _ hw215_1)).trans hw215_1)⟩ (fun hHeld => ?_); refine with_tabW easementref15_Ref.tab5 easementref15_Ref.bits5 (fun HT_ HW_ => ?_)
       generalize wr.drew = w15 at HO_7 BK209 BK210 HB hx214_0 hx214_1 hx215_0 hx215_1 hHeld ⊢
       refine bR (i := 0) (N := some 19) (v := ?_) (a' := ?_) #[true, false, false, false, false, false, false, false, false, false, false, false, false, false, false, false, false, false, false, false] rfl rfl (bQ HT_.out (by kernel_rfl)) (fun _ _ _ h => h) (Or.inl ⟨by rfl, ?_⟩) ?_ ?_
       rotate_left
       ·intro w'
        go_simp
        with_reducible rfl
       rotate_left
       ·simp only [Act.put, sZ1, sZ2, sZ3, bL, bM]
        rfl
       refine bR (i := 1) (N := some 20) (v := ?_) (a' := ?_) #[true, true, false, false, false, false, false, false, false, false, false, false, false, false, false, false, false, false, false, false] rfl rfl (bQ HT_.out (by kernel_rfl)) (fun _ _ _ h => h) (Or.inl ⟨by rfl, ?_⟩) ?_ ?_
       rotate_left
       ·intro w'
        go_simp
        with_reducible rfl
       rotate_left
       ·simp only [Act.put, sZ1, sZ2, sZ3, bL, bM]
        rfl
       refine bR (i := 3) (N := some 22) (v := ?_) (a' := ?_) #[true, true, false, true, false, false, false, false, false, false, false, false, false, false, false, false, false, false, false, false] rfl rfl (bQ HT_.out (by kernel_rfl)) (fun _ _ _ h => h) (Or.inl ⟨by rfl, ?_⟩) ?_ ?_
       rotate_left
       ·intro w'
        go_simp
        with_reducible rfl
       rotate_left
       ·simp only [Act.put, sZ1, sZ2, sZ3, bL, bM]
        rfl
       refine bR (i := 7) (N := some 26) (v := ?_) (a' := ?_) #[true, true, false, true, false, false, false, true, false, false, false, false, false, false, false, false, false, false, false, false] rfl rfl (bQ HT_.out (by kernel_rfl)) (fun _ _ _ h => h) (Or.inl ⟨by rfl, ?_⟩) ?_ ?_
       rotate_left
       ·intro w'
        go_simp
        with_reducible rfl
       rotate_left
       ·simp only [Act.put, sZ1, sZ2, sZ3, bL, bM]
        rfl
       refine bR (i := 9) (N := some 28) (v := ?_) (a' := ?_) #[true, true, false, true, false, false, false, true, false, true, false, false, false, false, false, false, false, false, false, false] rfl rfl (bQ HT_.out (by kernel_rfl)) (fun _ _ _ h => h) (Or.inl ⟨by rfl, ?_⟩) ?_ ?_
       rotate_left
       ·intro w'
        go_simp
        with_reducible rfl
       rotate_left
       ·simp only [Act.put, sZ1, sZ2, sZ3, bL, bM]
        rfl
       refine take_ (i := 2) (N := some 21) (v := ?_) (a' := ?_) #[true, true, true, true, false, false, false, true, false, true, false, false, false, false, false, false, false, false, false, false] rfl rfl (bX HT_.out HW_.out (by kernel_rfl)) (fun _ _ _ h => h) (Or.inl ⟨by rfl, ?_⟩) hHeld ?_ ?_
       rotate_left
       ·rintro w' ⟨s0, s1, s2, s3, s4⟩
        go_simp
        with_reducible rfl
       rotate_left
       ·simp only [Act.put, sZ1, sZ2, sZ3, bL, bM]
        rfl
       refine bR (i := 4) (N := some 23) (v := ?_) (a' := ?_) #[true, true, true, true, true, false, false, true, false, true, false, false, false, false, false, false, false, false, false, false] rfl rfl (bQ HT_.out (by kernel_rfl)) (fun _ _ _ h => h) (Or.inl ⟨by rfl, ?_⟩) ?_ ?_
       rotate_left
       ·intro w'
        go_simp
        with_reducible rfl
       rotate_left
       ·simp only [Act.put, sZ1, sZ2, sZ3, bL, bM]
        rfl
       refine bR (i := 5) (N := some 24) (v := ?_) (a' := ?_) #[true, true, true, true, true, true, false, true, false, true, false, false, false, false, false, false, false, false, false, false] rfl rfl (bQ HT_.out (by kernel_rfl)) (fun _ _ _ h => h) (Or.inl ⟨by rfl, ?_⟩) ?_ ?_
       rotate_left
       ·intro w'
        go_simp
        with_reducible rfl
       rotate_left
       ·simp only [Act.put, sZ1, sZ2, sZ3, bL, bM]
        rfl
       refine take_ (i := 6) (N := some 25) (v := ?_) (a' := ?_) #[true, true, true, true, true, true, true, true, false, true, false, false, false, false, false, false, false, false, false, false] rfl rfl (bX HT_.out HW_.out (by kernel_rfl)) (fun _ _ _ h => h) (Or.inl ⟨by rfl, ?_⟩) hHeld ?_ ?_
       rotate_left
       ·rintro w' ⟨s0, s1, s2, s3, s4⟩
        go_simp
        with_reducible rfl
       rotate_left
       ·simp only [Act.put, sZ1, sZ2, sZ3, bL, bM]
        rfl
       refine take_ (i := 8) (N := some 27) (v := ?_) (a' := ?_) #[true, true, true, true, true, true, true, true, true, true, false, false, false, false, false, false, false, false, false, false] rfl rfl (bX HT_.out HW_.out (by kernel_rfl)) (fun _ _ _ h => h) (Or.inl ⟨by rfl, ?_⟩) hHeld ?_ ?_
       rotate_left
       ·rintro w' ⟨s0, s1, s2, s3, s4⟩
        go_simp
        with_reducible rfl
       rotate_left
       ·simp only [Act.put, sZ1, sZ2, sZ3, bL, bM]
        rfl
       refine bR (i := 10) (N := some 29) (v := ?_) (a' := ?_) #[true, true, true, true, true, true, true, true, true, true, true, false, false, false, false, false, false, false, false, false] rfl rfl (bQ HT_.out (by kernel_rfl)) (fun _ _ _ h => h) (Or.inl ⟨by rfl, ?_⟩) ?_ ?_
       rotate_left
       ·intro w'
        go_simp
        with_reducible rfl
       rotate_left
       ·simp only [Act.put, sZ1, sZ2, sZ3, bL, bM]
        rfl
       refine bR (i := 11) (N := some 30) (v := ?_) (a' := ?_) #[true, true, true, true, true, true, true, true, true, true, true, true, false, false, false, false, false, false, false, false] rfl rfl (bQ HT_.out (by kernel_rfl)) (fun _ _ _ h => h) (Or.inl ⟨by rfl, ?_⟩) ?_ ?_
       rotate_left
       ·intro w'
        go_simp
        with_reducible rfl
       rotate_left
       ·simp only [Act.put, sZ1, sZ2, sZ3, bL, bM]
        rfl
       refine take_ (i := 12) (N := some 31) (v := ?_) (a' := ?_) #[true, true, true, true, true, true, true, true, true, true, true, true, true, false, false, false, false, false, false, false] rfl rfl (bX HT_.out HW_.out (by kernel_rfl)) (fun _ _ _ h => h) (Or.inl ⟨by rfl, ?_⟩) hHeld ?_ ?_
       rotate_left
       ·rintro w' ⟨s0, s1, s2, s3, s4⟩
        go_simp
        with_reducible rfl
       rotate_left
       ·simp only [Act.put, sZ1, sZ2, sZ3, bL, bM]
        rfl
       refine bR (i := 13) (N := some 32) (v := ?_) (a' := ?_) #[true, true, true, true, true, true, true, true, true, true, true, true, true, true, false, false, false, false, false, false] rfl rfl (bQ HT_.out (by kernel_rfl)) (fun _ _ _ h => h) (Or.inl ⟨by rfl, ?_⟩) ?_ ?_
       rotate_left
       ·intro w'
        go_simp
        with_reducible rfl
       rotate_left
       ·simp only [Act.put, sZ1, sZ2, sZ3, bL, bM]
        rfl
       refine bR (i := 14) (N := some 33) (v := undef) (a' := ?_) #[true, true, true, true, true, true, true, true, true, true, true, true, true, true, true, false, false, false, false, false] rfl rfl (bQ HT_.out (by kernel_rfl)) (fun _ _ _ h => h) (Or.inr ⟨by rfl, rfl⟩) ?_ ?_
       rotate_left
       ·simp only [Act.put, sZ1, sZ2, sZ3, bL, bM]
        rfl
       refine bR (i := 15) (N := some 34) (v := ?_) (a' := ?_) #[true, true, true, true, true, true, true, true, true, true, true, true, true, true, true, true, false, false, false, false] rfl rfl (bQ HT_.out (by kernel_rfl)) (fun _ _ _ h => h) (Or.inl ⟨by rfl, ?_⟩) ?_ ?_
       rotate_left
       ·intro w'
        go_simp
        with_reducible rfl
       rotate_left
       ·simp only [Act.put, sZ1, sZ2, sZ3, bL, bM]
        rfl
       refine bR (i := 16) (N := some 35) (v := ?_) (a' := ?_) #[true, true, true, true, true, true, true, true, true, true, true, true, true, true, true, true, true, false, false, false] rfl rfl (bQ HT_.out (by kernel_rfl)) (fun _ _ _ h => h) (Or.inl ⟨by rfl, ?_⟩) ?_ ?_
       rotate_left
       ·intro w'
        go_simp
        with_reducible rfl
       rotate_left
       ·simp only [Act.put, sZ1, sZ2, sZ3, bL, bM]
        rfl
       refine one_ (i := 17) (N := some 36) #[true, true, true, true, true, true, true, true, true, true, true, true, true, true, true, true, true, true, false, false] rfl rfl (one_of HT_.out (by kernel_rfl)) (by decide) (fun K hK => ?_)
       refine value_ (w1 := ?_) (v := ?_) (by rfl) rfl ?_ ?_
       rotate_left 2
       ·go_simp
        constructor
        ·rfl
        ·rfl
       refine hK.out _ _ ⟨(bC (bF BK209.out _) 0).trans rfl, (World.cell?_alloc_lt _ _ _ (World.block_lt_of_cell? _ _ (((HB.out.cell (World.block_lt_of_cell? w _ hw214_0)).trans hw214_0)))).trans (((HB.out.cell (World.block_lt_of_cell? w _ hw214_0)).trans hw214_0)), (World.cell?_alloc_lt _ _ _ (World.block_lt_of_cell? _ _ (((HB.out.cell (World.block_lt_of_cell? w _ hw214_1)).trans hw214_1)))).trans (((HB.out.cell (World.block_lt_of_cell? w _ hw214_1)).trans hw214_1)), (World.cell?_alloc_lt _ _ _ (World.block_lt_of_cell? _ _ (((HB.out.cell (World.block_lt_of_cell? w _ hw215_0)).trans hw215_0)))).trans (((HB.out.cell (World.block_lt_of_cell? w _ hw215_0)).trans hw215_0)), (World.cell?_alloc_lt _ _ _ (World.block_lt_of_cell? _ _ (((HB.out.cell (World.block_lt_of_cell? w _ hw215_1)).trans hw215_1)))).trans (((HB.out.cell (World.block_lt_of_cell? w _ hw215_1)).trans hw215_1))⟩ (fun hHeld => ?_)
       clear hK K
       refine norm_ (a' := ?_) ?_ ?_
       rotate_left
       ·show Act.put _ (some 36) _ = _
        simp only [Act.put, sZ1, sZ2, sZ3, bL, bM]
        rfl
       refine one_ (i := 18) (N := some 37) #[true, true, true, true, true, true, true, true, true, true, true, true, true, true, true, true, true, true, true, false] rfl rfl (one_of HT_.out (by kernel_rfl)) (by decide) (fun K hK => ?_)
       refine Kd.R_append_step k115 (w0 := w) w.heap.size (by rfl) (.tmp 19) (.tmp 36) 42 115 (.agg #[(.int .i64 0), (.bool false)]) 16 rfl Try.underlying42 info115 rfl (by decide) (by omega) u7 x7_1 (⟨(rd_T115 l0_0 x8_1).f0, true⟩ : S115) [.int .i64 ((rd_T115 l0_0 x8_1).f0), .bool true] (fun _ => True) (fun _ => False) rfl rfl ?aP (fun _ hk => hk.elim) ?aF ?aO ?aB ?aS ?aL ?_
       (case aP => exact k115_mkM _ _ _ (⟨(rd_T115 l0_0 x8_1).f0, true⟩ : S115))
       (case aB => exact (by repeat (first | (with_reducible first | exact HB.out | apply bE | apply bA | apply bD | refine bJ ?_ GE209.out | refine bJ ?_ GE210.out) | exact HB.out)))
       (case aF => exact (fun _ _ => trivial))
       (case aO => exact (by (with_reducible repeat (first | apply Kd.R_alloc | apply Kd.R_drewN | apply Kd.R_drew)); exact HO_7.out))
       (case aS => exact (bK (by repeat (first | (with_reducible first | exact HB.out | apply bE | apply bA | apply bD | refine bJ ?_ GE209.out | refine bJ ?_ GE210.out) | exact HB.out))))
       (case aL => have := LMc12.out; omega)
       intro v217 w16 ho hb hg hat
       rw [← Ny216.out] at ho
       have n0_ := Aside0.mk (blk_grown (g := gb209) (o := .cells #[.slice (some ad214) l0_0.length c0_0] 44 (0, 0)) (by (with_reducible repeat (first | refine bG ?_ _ | refine bH ?_ | refine bF ?_ _)); exact BK209.out) hg (Kd.R_ne HO_7.out BK209.out (by decide)))
       have n1_ := Aside0.mk (blk_grown (g := gb210) (o := .cells #[.slice none 0 0] 44 (0, 0)) (by (with_reducible repeat (first | refine bG ?_ _ | refine bH ?_ | refine bF ?_ _)); exact BK210.out) hg (Kd.R_ne HO_7.out BK210.out (by decide)))
       have n2_ := Aside0.mk (hb)
       have n3_ := Aside0.mk (ho)
       clear BK209
       clear BK210
       clear HB
       clear HO_7
       have BK209 := n0_
       have BK210 := n1_
       have HB := n2_
       have HO218 := n3_
       clear n0_ n1_ n2_ n3_
       clear ho hb hg hat
       refine hK.out _ _ ⟨(bC BK209.out 0).trans rfl, ((HB.out.cell (World.block_lt_of_cell? w _ hw214_0)).trans hw214_0), ((HB.out.cell (World.block_lt_of_cell? w _ hw214_1)).trans hw214_1), ((HB.out.cell (World.block_lt_of_cell? w _ hw215_0)).trans hw215_0), ((HB.out.cell (World.block_lt_of_cell? w _ hw215_1)).trans hw215_1)⟩ (fun hHeld => ?_)
       clear hK K
       refine norm_ (a' := ?_) ?_ ?_
       rotate_left
       ·show Act.put _ (some 37) _ = _
        simp only [Act.put, sZ1, sZ2, sZ3, bL, bM]
        rfl
       refine bR (i := 19) (N := some 7) (v := ?_) (a' := ?_) #[true, true, true, true, true, true, true, true, true, true, true, true, true, true, true, true, true, true, true, true] rfl rfl (bQ HT_.out (by kernel_rfl)) (fun _ _ _ h => h) (Or.inl ⟨by rfl, ?_⟩) ?_ ?_
       rotate_left
       ·intro w'
        go_simp
        with_reducible rfl
       rotate_left
       ·simp only [Act.put, sZ1, sZ2, sZ3, bL, bM]
        rfl
       refine done_ (done_of HT_.out (by kernel_rfl)) ?_
       try go_wp2
       go_roundg k1
       case measure => have := HK1.out; omega
       case rel => exact ⟨(y216), (wrap64 (x8_1 + 1)), (by first | rfl | (simp; done) | (simp [*]; done)), H', ⟨by have := HK1.out; omega⟩, ⟨by (with_reducible repeat (first | apply Kd.R_alloc | apply Kd.R_drewN | apply Kd.R_drew)); exact HO218.out⟩, ⟨by (with_reducible repeat (first | refine bG ?_ _ | refine bH ?_ | refine bF ?_ _)); exact BK209.out⟩, ⟨by (with_reducible repeat (first | refine bG ?_ _ | refine bH ?_ | refine bF ?_ _)); exact BK210.out⟩, ⟨by repeat (first | (with_reducible first | exact HB.out | apply bE | apply bA | apply bD | refine bJ ?_ GE209.out | refine bJ ?_ GE210.out) | exact HB.out)⟩⟩
      ·rw [if_neg c12] at H
       exact absurd H (by simp)
     ·replace c11 := Bool.eq_false_iff.mpr c11
      subst c11
      have H1 : (if x7_1.length < 8796093022208 then (easementref15_Ref.l0 k1 a2 (x7_1 ++ [(⟨(rd_T115 l0_0 x8_1).f0, a2⟩ : S115)]) (wrap64 (x8_1 + 1)) l0_0) else (none)) = some r := by rw [if_neg (show ¬ (false = true) by decide)] at H; exact H
      clear H
      have H := H1
      clear H1
      by_cases c17 : x7_1.length < 8796093022208
      ·rw [if_pos c17] at H
       have LMc17 := Aside0.mk c17
       clear c17
       obtain ⟨y219, hy219⟩ : ∃ y_ : List (S115), y_ = (x7_1 ++ [(⟨(rd_T115 l0_0 x8_1).f0, a2⟩ : S115)]) := ⟨_, rfl⟩
       replace H : (easementref15_Ref.l0 k1 a2 y219 (wrap64 (x8_1 + 1)) l0_0) = some r := by first | (rw [hy219]; with_reducible exact H) | (have H2_ := (Option.bind_some _ _).symm.trans H; rw [hy219]; with_reducible exact H2_) | (have H2_ := (Option.bind_some _ _).symm.trans H; with_reducible exact H2_) | with_reducible exact H | (rw [hy219]; exact H) | exact H
       have Ny219 := Aside0.mk hy219
       clear hy219
       have H' := Aside0.mk H
       clear H
       have hnb18 := NB209_210.out
       have hnc18 := NB210_209.out
       have hcz19_0 : wr.cell? ⟨gb209, 0, none⟩ = some (.slice A0_0 l0_0.length c0_0) := (bC BK209.out 0).trans rfl
       have hfz19_0 := bB BK209.out 0
       try go_wp2
       have n0_ := Aside0.mk (Kd.R_drew HO_7.out)
       have n1_ := Aside0.mk (bH BK209.out)
       have n2_ := Aside0.mk (bH BK210.out)
       have n3_ := Aside0.mk (bD HB.out)
       clear HO_7
       clear BK209
       clear BK210
       clear HB
       have HO_7 := n0_
       have BK209 := n1_
       have BK210 := n2_
       have HB := n3_
       clear n0_ n1_ n2_ n3_
       have p214 : 0 ≤ (x8_1 : Int) := of_decide_eq_true (by first | (with_reducible assumption) | assumption)
       have q214 : x8_1 < (l0_0.length : Int) := of_decide_eq_true (by first | (with_reducible assumption) | assumption)
       obtain ⟨ad214, e214, hx214_0, hx214_1⟩ := at_T115 HR0_0.out x8_1 p214 q214
       have hw214_1 := hx214_1
       have hw214_0 := hx214_0
       (try rw [← Nbq10.out] at hx214_1)
       (try rw [← Nbq10.out] at hw214_1)
       cases e214
       replace hx214_0 := (HB.out.cell (World.block_lt_of_cell? w _ hx214_0)).trans hx214_0
       replace hx214_1 := (HB.out.cell (World.block_lt_of_cell? w _ hx214_1)).trans hx214_1
       replace p214 := eq_true p214
       replace q214 := eq_true q214
       have p215 : 0 ≤ (x8_1 : Int) := of_decide_eq_true (by first | (with_reducible assumption) | assumption)
       have q215 : x8_1 < (l0_0.length : Int) := of_decide_eq_true (by first | (with_reducible assumption) | assumption)
       obtain ⟨ad215, e215, hx215_0, hx215_1⟩ := at_T115 HR0_0.out x8_1 p215 q215
       have hw215_1 := hx215_1
       have hw215_0 := hx215_0
       (try rw [← Nbq10.out] at hx215_1)
       (try rw [← Nbq10.out] at hw215_1)
       obtain rfl : ad214 = ad215 := (by injection e215)
       replace hx215_0 := (HB.out.cell (World.block_lt_of_cell? w _ hx215_0)).trans hx215_0
       replace hx215_1 := (HB.out.cell (World.block_lt_of_cell? w _ hx215_1)).trans hx215_1
       replace p215 := eq_true p215
       replace q215 := eq_true q215
       refine start_ (n := 20) (S := fun w' => w'.cell? ⟨gb209, 0, none⟩ = some (.slice (some ad214) l0_0.length c0_0) ∧ w'.cell? (ad214.add ((x8_1).toNat * 2)) = some (.int .i64 ((rd_T115 l0_0 x8_1).f0)) ∧ w'.cell? ⟨(ad214.add ((x8_1).toNat * 2)).block, (ad214.add ((x8_1).toNat * 2)).off + 1, none⟩ = some (.bool false) ∧ w'.cell? (ad214.add ((x8_1).toNat * 2)) = some (.int .i64 ((rd_T115 l0_0 x8_1).f0)) ∧ w'.cell? ⟨(ad214.add ((x8_1).toNat * 2)).block, (ad214.add ((x8_1).toNat * 2)).off + 1, none⟩ = some (.bool false)) (ds := []) #[false, false, false, false, false, false, false, false, false, false, false, false, false, false, false, false, false, false, false, false] (by kernel_rfl) rfl rfl ⟨(bC BK209.out 0).trans rfl, ((HB.out.cell (World.block_lt_of_cell? w _ hw214_0)).trans hw214_0), ((HB.out.cell (World.block_lt_of_cell? w _ hw214_1)).trans hw214_1), ((HB.out.cell (World.block_lt_of_cell? w _ hw215_0)).trans hw215_0), ((HB.out.cell (World.block_lt_of_cell? w _ hw215_1)).trans hw215_1)⟩ (fun hHeld => ?_); refine with_tabW easementref15_Ref.tab5 easementref15_Ref.bits5 (fun HT_ HW_ => ?_)
       generalize wr.drew = w20 at HO_7 BK209 BK210 HB hx214_0 hx214_1 hx215_0 hx215_1 hHeld ⊢
       refine bR (i := 0) (N := some 19) (v := ?_) (a' := ?_) #[true, false, false, false, false, false, false, false, false, false, false, false, false, false, false, false, false, false, false, false] rfl rfl (bQ HT_.out (by kernel_rfl)) (fun _ _ _ h => h) (Or.inl ⟨by rfl, ?_⟩) ?_ ?_
       rotate_left
       ·intro w'
        go_simp
        with_reducible rfl
       rotate_left
       ·simp only [Act.put, sZ1, sZ2, sZ3, bL, bM]
        rfl
       refine bR (i := 1) (N := some 20) (v := ?_) (a' := ?_) #[true, true, false, false, false, false, false, false, false, false, false, false, false, false, false, false, false, false, false, false] rfl rfl (bQ HT_.out (by kernel_rfl)) (fun _ _ _ h => h) (Or.inl ⟨by rfl, ?_⟩) ?_ ?_
       rotate_left
       ·intro w'
        go_simp
        with_reducible rfl
       rotate_left
       ·simp only [Act.put, sZ1, sZ2, sZ3, bL, bM]
        rfl
       refine bR (i := 3) (N := some 22) (v := ?_) (a' := ?_) #[true, true, false, true, false, false, false, false, false, false, false, false, false, false, false, false, false, false, false, false] rfl rfl (bQ HT_.out (by kernel_rfl)) (fun _ _ _ h => h) (Or.inl ⟨by rfl, ?_⟩) ?_ ?_
       rotate_left
       ·intro w'
        go_simp
        with_reducible rfl
       rotate_left
       ·simp only [Act.put, sZ1, sZ2, sZ3, bL, bM]
        rfl
       refine bR (i := 7) (N := some 26) (v := ?_) (a' := ?_) #[true, true, false, true, false, false, false, true, false, false, false, false, false, false, false, false, false, false, false, false] rfl rfl (bQ HT_.out (by kernel_rfl)) (fun _ _ _ h => h) (Or.inl ⟨by rfl, ?_⟩) ?_ ?_
       rotate_left
       ·intro w'
        go_simp
        with_reducible rfl
       rotate_left
       ·simp only [Act.put, sZ1, sZ2, sZ3, bL, bM]
        rfl
       refine bR (i := 9) (N := some 28) (v := ?_) (a' := ?_) #[true, true, false, true, false, false, false, true, false, true, false, false, false, false, false, false, false, false, false, false] rfl rfl (bQ HT_.out (by kernel_rfl)) (fun _ _ _ h => h) (Or.inl ⟨by rfl, ?_⟩) ?_ ?_
       rotate_left
       ·intro w'
        go_simp
        with_reducible rfl
       rotate_left
       ·simp only [Act.put, sZ1, sZ2, sZ3, bL, bM]
        rfl
       refine take_ (i := 2) (N := some 21) (v := ?_) (a' := ?_) #[true, true, true, true, false, false, false, true, false, true, false, false, false, false, false, false, false, false, false, false] rfl rfl (bX HT_.out HW_.out (by kernel_rfl)) (fun _ _ _ h => h) (Or.inl ⟨by rfl, ?_⟩) hHeld ?_ ?_
       rotate_left
       ·rintro w' ⟨s0, s1, s2, s3, s4⟩
        go_simp
        with_reducible rfl
       rotate_left
       ·simp only [Act.put, sZ1, sZ2, sZ3, bL, bM]
        rfl
       refine bR (i := 4) (N := some 23) (v := ?_) (a' := ?_) #[true, true, true, true, true, false, false, true, false, true, false, false, false, false, false, false, false, false, false, false] rfl rfl (bQ HT_.out (by kernel_rfl)) (fun _ _ _ h => h) (Or.inl ⟨by rfl, ?_⟩) ?_ ?_
       rotate_left
       ·intro w'
        go_simp
        with_reducible rfl
       rotate_left
       ·simp only [Act.put, sZ1, sZ2, sZ3, bL, bM]
        rfl
       refine bR (i := 5) (N := some 24) (v := ?_) (a' := ?_) #[true, true, true, true, true, true, false, true, false, true, false, false, false, false, false, false, false, false, false, false] rfl rfl (bQ HT_.out (by kernel_rfl)) (fun _ _ _ h => h) (Or.inl ⟨by rfl, ?_⟩) ?_ ?_
       rotate_left
       ·intro w'
        go_simp
        with_reducible rfl
       rotate_left
       ·simp only [Act.put, sZ1, sZ2, sZ3, bL, bM]
        rfl
       refine take_ (i := 6) (N := some 25) (v := ?_) (a' := ?_) #[true, true, true, true, true, true, true, true, false, true, false, false, false, false, false, false, false, false, false, false] rfl rfl (bX HT_.out HW_.out (by kernel_rfl)) (fun _ _ _ h => h) (Or.inl ⟨by rfl, ?_⟩) hHeld ?_ ?_
       rotate_left
       ·rintro w' ⟨s0, s1, s2, s3, s4⟩
        go_simp
        with_reducible rfl
       rotate_left
       ·simp only [Act.put, sZ1, sZ2, sZ3, bL, bM]
        rfl
       refine take_ (i := 8) (N := some 27) (v := ?_) (a' := ?_) #[true, true, true, true, true, true, true, true, true, true, false, false, false, false, false, false, false, false, false, false] rfl rfl (bX HT_.out HW_.out (by kernel_rfl)) (fun _ _ _ h => h) (Or.inl ⟨by rfl, ?_⟩) hHeld ?_ ?_
       rotate_left
       ·rintro w' ⟨s0, s1, s2, s3, s4⟩
        go_simp
        with_reducible rfl
       rotate_left
       ·simp only [Act.put, sZ1, sZ2, sZ3, bL, bM]
        rfl
       refine bR (i := 10) (N := some 29) (v := ?_) (a' := ?_) #[true, true, true, true, true, true, true, true, true, true, true, false, false, false, false, false, false, false, false, false] rfl rfl (bQ HT_.out (by kernel_rfl)) (fun _ _ _ h => h) (Or.inl ⟨by rfl, ?_⟩) ?_ ?_
       rotate_left
       ·intro w'
        go_simp
        with_reducible rfl
       rotate_left
       ·simp only [Act.put, sZ1, sZ2, sZ3, bL, bM]
        rfl
       refine bR (i := 11) (N := some 30) (v := ?_) (a' := ?_) #[true, true, true, true, true, true, true, true, true, true, true, true, false, false, false, false, false, false, false, false] rfl rfl (bQ HT_.out (by kernel_rfl)) (fun _ _ _ h => h) (Or.inl ⟨by rfl, ?_⟩) ?_ ?_
       rotate_left
       ·intro w'
        go_simp
        with_reducible rfl
       rotate_left
       ·simp only [Act.put, sZ1, sZ2, sZ3, bL, bM]
        rfl
       refine take_ (i := 12) (N := some 31) (v := ?_) (a' := ?_) #[true, true, true, true, true, true, true, true, true, true, true, true, true, false, false, false, false, false, false, false] rfl rfl (bX HT_.out HW_.out (by kernel_rfl)) (fun _ _ _ h => h) (Or.inl ⟨by rfl, ?_⟩) hHeld ?_ ?_
       rotate_left
       ·rintro w' ⟨s0, s1, s2, s3, s4⟩
        go_simp
        with_reducible rfl
       rotate_left
       ·simp only [Act.put, sZ1, sZ2, sZ3, bL, bM]
        rfl
       refine bR (i := 13) (N := some 32) (v := ?_) (a' := ?_) #[true, true, true, true, true, true, true, true, true, true, true, true, true, true, false, false, false, false, false, false] rfl rfl (bQ HT_.out (by kernel_rfl)) (fun _ _ _ h => h) (Or.inl ⟨by rfl, ?_⟩) ?_ ?_
       rotate_left
       ·intro w'
        go_simp
        with_reducible rfl
       rotate_left
       ·simp only [Act.put, sZ1, sZ2, sZ3, bL, bM]
        rfl
       refine bR (i := 14) (N := some 33) (v := ?_) (a' := ?_) #[true, true, true, true, true, true, true, true, true, true, true, true, true, true, true, false, false, false, false, false] rfl rfl (bQ HT_.out (by kernel_rfl)) (fun _ _ _ h => h) (Or.inl ⟨by rfl, ?_⟩) ?_ ?_
       rotate_left
       ·intro w'
        go_simp
        with_reducible rfl
       rotate_left
       ·simp only [Act.put, sZ1, sZ2, sZ3, bL, bM]
        rfl
       refine bR (i := 15) (N := some 34) (v := ?_) (a' := ?_) #[true, true, true, true, true, true, true, true, true, true, true, true, true, true, true, true, false, false, false, false] rfl rfl (bQ HT_.out (by kernel_rfl)) (fun _ _ _ h => h) (Or.inl ⟨by rfl, ?_⟩) ?_ ?_
       rotate_left
       ·intro w'
        go_simp
        with_reducible rfl
       rotate_left
       ·simp only [Act.put, sZ1, sZ2, sZ3, bL, bM]
        rfl
       refine bR (i := 16) (N := some 35) (v := ?_) (a' := ?_) #[true, true, true, true, true, true, true, true, true, true, true, true, true, true, true, true, true, false, false, false] rfl rfl (bQ HT_.out (by kernel_rfl)) (fun _ _ _ h => h) (Or.inl ⟨by rfl, ?_⟩) ?_ ?_
       rotate_left
       ·intro w'
        go_simp
        with_reducible rfl
       rotate_left
       ·simp only [Act.put, sZ1, sZ2, sZ3, bL, bM]
        rfl
       refine one_ (i := 17) (N := some 36) #[true, true, true, true, true, true, true, true, true, true, true, true, true, true, true, true, true, true, false, false] rfl rfl (one_of HT_.out (by kernel_rfl)) (by decide) (fun K hK => ?_)
       refine value_ (w1 := ?_) (v := ?_) (by rfl) rfl ?_ ?_
       rotate_left 2
       ·go_simp
        constructor
        ·rfl
        ·rfl
       refine hK.out _ _ ⟨(bC (bF BK209.out _) 0).trans rfl, (World.cell?_alloc_lt _ _ _ (World.block_lt_of_cell? _ _ (((HB.out.cell (World.block_lt_of_cell? w _ hw214_0)).trans hw214_0)))).trans (((HB.out.cell (World.block_lt_of_cell? w _ hw214_0)).trans hw214_0)), (World.cell?_alloc_lt _ _ _ (World.block_lt_of_cell? _ _ (((HB.out.cell (World.block_lt_of_cell? w _ hw214_1)).trans hw214_1)))).trans (((HB.out.cell (World.block_lt_of_cell? w _ hw214_1)).trans hw214_1)), (World.cell?_alloc_lt _ _ _ (World.block_lt_of_cell? _ _ (((HB.out.cell (World.block_lt_of_cell? w _ hw215_0)).trans hw215_0)))).trans (((HB.out.cell (World.block_lt_of_cell? w _ hw215_0)).trans hw215_0)), (World.cell?_alloc_lt _ _ _ (World.block_lt_of_cell? _ _ (((HB.out.cell (World.block_lt_of_cell? w _ hw215_1)).trans hw215_1)))).trans (((HB.out.cell (World.block_lt_of_cell? w _ hw215_1)).trans hw215_1))⟩ (fun hHeld => ?_)
       clear hK K
       refine norm_ (a' := ?_) ?_ ?_
       rotate_left
       ·show Act.put _ (some 36) _ = _
        simp only [Act.put, sZ1, sZ2, sZ3, bL, bM]
        rfl
       refine one_ (i := 18) (N := some 37) #[true, true, true, true, true, true, true, true, true, true, true, true, true, true, true, true, true, true, true, false] rfl rfl (one_of HT_.out (by kernel_rfl)) (by decide) (fun K hK => ?_)
       refine Kd.R_append_step k115 (w0 := w) w.heap.size (by rfl) (.tmp 19) (.tmp 36) 42 115 (.agg #[(.int .i64 0), (.bool false)]) 16 rfl Try.underlying42 info115 rfl (by decide) (by omega) u7 x7_1 (⟨(rd_T115 l0_0 x8_1).f0, a2⟩ : S115) [.int .i64 ((rd_T115 l0_0 x8_1).f0), .bool a2] (fun _ => True) (fun _ => False) rfl rfl ?aP (fun _ hk => hk.elim) ?aF ?aO ?aB ?aS ?aL ?_
       (case aP => exact k115_mkM _ _ _ (⟨(rd_T115 l0_0 x8_1).f0, a2⟩ : S115))
       (case aB => exact (by repeat (first | (with_reducible first | exact HB.out | apply bE | apply bA | apply bD | refine bJ ?_ GE209.out | refine bJ ?_ GE210.out) | exact HB.out)))
       (case aF => exact (fun _ _ => trivial))
       (case aO => exact (by (with_reducible repeat (first | apply Kd.R_alloc | apply Kd.R_drewN | apply Kd.R_drew)); exact HO_7.out))
       (case aS => exact (bK (by repeat (first | (with_reducible first | exact HB.out | apply bE | apply bA | apply bD | refine bJ ?_ GE209.out | refine bJ ?_ GE210.out) | exact HB.out))))
       (case aL => have := LMc17.out; omega)
       intro v220 w21 ho hb hg hat
       rw [← Ny219.out] at ho
       have n0_ := Aside0.mk (blk_grown (g := gb209) (o := .cells #[.slice (some ad214) l0_0.length c0_0] 44 (0, 0)) (by (with_reducible repeat (first | refine bG ?_ _ | refine bH ?_ | refine bF ?_ _)); exact BK209.out) hg (Kd.R_ne HO_7.out BK209.out (by decide)))
       have n1_ := Aside0.mk (blk_grown (g := gb210) (o := .cells #[.slice none 0 0] 44 (0, 0)) (by (with_reducible repeat (first | refine bG ?_ _ | refine bH ?_ | refine bF ?_ _)); exact BK210.out) hg (Kd.R_ne HO_7.out BK210.out (by decide)))
       have n2_ := Aside0.mk (hb)
       have n3_ := Aside0.mk (ho)
       clear BK209
       clear BK210
       clear HB
       clear HO_7
       have BK209 := n0_
       have BK210 := n1_
       have HB := n2_
       have HO221 := n3_
       clear n0_ n1_ n2_ n3_
       clear ho hb hg hat
       refine hK.out _ _ ⟨(bC BK209.out 0).trans rfl, ((HB.out.cell (World.block_lt_of_cell? w _ hw214_0)).trans hw214_0), ((HB.out.cell (World.block_lt_of_cell? w _ hw214_1)).trans hw214_1), ((HB.out.cell (World.block_lt_of_cell? w _ hw215_0)).trans hw215_0), ((HB.out.cell (World.block_lt_of_cell? w _ hw215_1)).trans hw215_1)⟩ (fun hHeld => ?_)
       clear hK K
       refine norm_ (a' := ?_) ?_ ?_
       rotate_left
       ·show Act.put _ (some 37) _ = _
        simp only [Act.put, sZ1, sZ2, sZ3, bL, bM]
        rfl
       refine bR (i := 19) (N := some 7) (v := ?_) (a' := ?_) #[true, true, true, true, true, true, true, true, true, true, true, true, true, true, true, true, true, true, true, true] rfl rfl (bQ HT_.out (by kernel_rfl)) (fun _ _ _ h => h) (Or.inl ⟨by rfl, ?_⟩) ?_ ?_
       rotate_left
       ·intro w'
        go_simp
        with_reducible rfl
       rotate_left
       ·simp only [Act.put, sZ1, sZ2, sZ3, bL, bM]
        rfl
       refine done_ (done_of HT_.out (by kernel_rfl)) ?_
       try go_wp2
       go_roundg k1
       case measure => have := HK1.out; omega
       case rel => exact ⟨(y219), (wrap64 (x8_1 + 1)), (by first | rfl | (simp; done) | (simp [*]; done)), H', ⟨by have := HK1.out; omega⟩, ⟨by (with_reducible repeat (first | apply Kd.R_alloc | apply Kd.R_drewN | apply Kd.R_drew)); exact HO221.out⟩, ⟨by (with_reducible repeat (first | refine bG ?_ _ | refine bH ?_ | refine bF ?_ _)); exact BK209.out⟩, ⟨by (with_reducible repeat (first | refine bG ?_ _ | refine bH ?_ | refine bF ?_ _)); exact BK210.out⟩, ⟨by repeat (first | (with_reducible first | exact HB.out | apply bE | apply bA | apply bD | refine bJ ?_ GE209.out | refine bJ ?_ GE210.out) | exact HB.out)⟩⟩
      ·rw [if_neg c17] at H
       exact absurd H (by simp)
    ·rw [if_neg c9] at H
     exact absurd H (by simp)
   ·rw [if_neg c8] at H
    have c8b0 : decide (x8_1 < (l0_0.length : Int)) = false := decide_eq_false c8
    clear c8
    obtain rfl := Option.some.inj H
    have hnb22 := NB209_210.out
    have hnc22 := NB210_209.out
    have hcz23_0 : wr.cell? ⟨gb209, 0, none⟩ = some (.slice A0_0 l0_0.length c0_0) := (bC BK209.out 0).trans rfl
    have hfz23_0 := bB BK209.out 0
    obtain ⟨Ao24, co24, eo24⟩ := Kd.R_slice HO_7.out
    subst eo24
    have hcz25_0 : wr.cell? ⟨gb210, 0, none⟩ = some (.slice none 0 0) := (bC BK210.out 0).trans rfl
    have hfz25_0 := bB BK210.out 0
    go_wp2
    refine bodyPost_ret (results_cell_row rfl _ _ gb210 44 #[.slice Ao24 x7_1.length co24] (0, 0) _ rfl (by (with_reducible repeat (first | refine bG ?_ _ | refine bH ?_ | refine bF ?_ _)); refine bY (cs := #[.slice none 0 0]) ?_ 0 _ rfl; (with_reducible repeat (first | refine bG ?_ _ | refine bH ?_ | refine bF ?_ _)); exact BK210.out) Try.underlying44 rfl (by kernel_rfl)) rfl ?_
    exact ⟨_, by first | rfl | (simp [errW_none, errW_some] <;> rfl) | (simp [*, errW_none, errW_some] <;> rfl), by (with_reducible repeat (first | apply Kd.R_alloc | apply Kd.R_drewN | apply Kd.R_drew)); exact Kd.R_mono (Kd.R_far (p := ⟨gb210, 0, none⟩) (Kd.R_types HO_7.out BK210.out (by decide)) (fun _ hk => hk.2) (.slice Ao24 x7_1.length co24)) (fun _ hk => trivial), by repeat (first | (with_reducible first | exact HB.out | apply bE | apply bA | apply bD | refine bJ ?_ GE209.out | refine bJ ?_ GE210.out) | exact HB.out)⟩

end Go.Proofs.Ythhebinonpoddaa.GStmtNeeds
