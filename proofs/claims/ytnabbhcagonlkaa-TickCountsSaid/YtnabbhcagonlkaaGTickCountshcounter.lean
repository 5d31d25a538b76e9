/- Written for this claim by gp.py, a program of this session's, over the kit's print. Lean checks it. -/
import Derived.Test.YtnabbhcagonlkaaGTickCountsx0
import Derived.Test.YtnabbhcagonlkaaGTickCountsx1
import Derived.StillTailTactics
namespace Go.Proofs.Ytnabbhcagonlkaa.GTickCounts
open Go.RowKit Go.Proofs.YtnabbhcagonlkaaW.PrintWords Go.Proofs.YtnabbhcagonlkaaW.PrintLast Go.Proofs.YtnabbhcagonlkaaW.PrintMore
attribute [local go_sem] max2_int min2_int max_two min_two max_three min_three max_four min_four   -- for this text's walks alone
set_option linter.unusedVariables false
set_option linter.unusedSimpArgs false

--import Derived.StillTailTactics
def addv (s n : Int) : Int := if n > wrap64 (9223372036854775807 - s) then 9223372036854775807 else wrap64 (s + n)
def addp (j p s n : Int) : Int := if p = j ∧ 0 ≤ n then addv s n else s
def tick_Counter_Add.f (s0_0 s0_1 s0_2 s0_3 s0_4 s0_5 s0_6 : Int) (a1 a2 : Int) : Option (Int × Int × Int × Int × Int × Int × Int) := some (addp 0 a1 s0_0 a2, addp 1 a1 s0_1 a2, addp 2 a1 s0_2 a2, addp 3 a1 s0_3 a2, addp 4 a1 s0_4 a2, addp 5 a1 s0_5 a2, addp 6 a1 s0_6 a2)
def atp (s0_0 s0_1 s0_2 s0_3 s0_4 s0_5 s0_6 : Int) (p : Int) : Int := if p = 0 then s0_0 else if p = 1 then s0_1 else if p = 2 then s0_2 else if p = 3 then s0_3 else if p = 4 then s0_4 else if p = 5 then s0_5 else if p = 6 then s0_6 else 0
def tick_Counter_Of.f (s0_0 s0_1 s0_2 s0_3 s0_4 s0_5 s0_6 : Int) (a1 : Int) : Option (Int × Int × Int × Int × Int × Int × Int × Int) := some (atp s0_0 s0_1 s0_2 s0_3 s0_4 s0_5 s0_6 a1, s0_0, s0_1, s0_2, s0_3, s0_4, s0_5, s0_6)
set_option maxHeartbeats 4000000 in
set_option maxRecDepth 100000 in
theorem tick_Counter_Add.p0 (g : Nat) (s0_0 s0_1 s0_2 s0_3 s0_4 s0_5 s0_6 : Int) (a2 : Int) (w0 w : World) (hI : IsS73 w0 w g s0_0 s0_1 s0_2 s0_3 s0_4 s0_5 s0_6) (hB : Below w0.heap.size w0 w) (hn : 0 ≤ a2) : Calls Try.prog 45 #[.pointer (some ⟨g, 0, none⟩), .int .i64 0, .int .i64 a2] w fun e w' => e = .returned (.tuple #[]) ∧ IsS73 w0 w' g (addv s0_0 a2) s0_1 s0_2 s0_3 s0_4 s0_5 s0_6 ∧ Below w0.heap.size w0 w' ∧ KeepBut w w' g none := by
  have hu := Try.underlying73
  have c_0 : w.cell? ⟨g, 0, none⟩ = some (.int .i64 s0_0) := (blk_cell hI.1 0).trans rfl
  have c_1 : w.cell? ⟨g, 1, none⟩ = some (.int .i64 s0_1) := (blk_cell hI.1 1).trans rfl
  have c_2 : w.cell? ⟨g, 2, none⟩ = some (.int .i64 s0_2) := (blk_cell hI.1 2).trans rfl
  have c_3 : w.cell? ⟨g, 3, none⟩ = some (.int .i64 s0_3) := (blk_cell hI.1 3).trans rfl
  have c_4 : w.cell? ⟨g, 4, none⟩ = some (.int .i64 s0_4) := (blk_cell hI.1 4).trans rfl
  have c_5 : w.cell? ⟨g, 5, none⟩ = some (.int .i64 s0_5) := (blk_cell hI.1 5).trans rfl
  have c_6 : w.cell? ⟨g, 6, none⟩ = some (.int .i64 s0_6) := (blk_cell hI.1 6).trans rfl
  have fz : ∀ j : Nat, w.frozen? ⟨g, j, none⟩ = false := fun j => blk_frozen hI.1 j
  have HI := Aside0.mk hI
  have HB := Aside0.mk hB
  clear hI hB
  have nb : decide (a2 < 0) = false := decide_eq_false (by omega)
  clear hn
  unfold addv
  by_cases c : a2 > wrap64 (9223372036854775807 - s0_0)
  · rw [if_pos c]
    have cb : decide (a2 > wrap64 (9223372036854775807 - s0_0)) = true := decide_eq_true c
    clear c
    go_enter Try.func45, Try.ntmps45
    go_wp2
    repeat (go_quiet (fail); try go_wp2)
    first | go_end0 | ((try simp only [Exit.inBlock, Exit.then]); refine bodyPost_ret (results_none rfl _ _ _) rfl ?_)
    exact ⟨rfl, IsS73.set_0 HI.out _, below_set HB.out (IsS73.ge HI.out), by repeat (first | exact HK.out | exact KeepBut.refl w g none | apply KeepBut.set_)⟩
  · rw [if_neg c]
    have cb : decide (a2 > wrap64 (9223372036854775807 - s0_0)) = false := decide_eq_false c
    clear c
    go_enter Try.func45, Try.ntmps45
    go_upto_region 3 with fail
    refine wp_region_still_tail 11 (by kernel_rfl) (by kernel_rfl) ?_
    simp only [List.take_succ_cons, List.take_zero, List.drop_succ_cons, List.drop_zero]
    change wpStill _ _ (World.drew w) (fun a' => wpList _ _ _ _ a' (World.drew w)) _ _
    replace HI := Aside0.mk (IsS73.drew HI.out)
    replace HB := Aside0.mk (below_drew1 HB.out)
    have HK := Aside0.mk (keep_drew (KeepBut.refl w g none))
    clear c_0 c_1 c_2 c_3 c_4 c_5 c_6 fz
    generalize World.drew w = w3 at HI HB HK ⊢
    have c_0 : w3.cell? ⟨g, 0, none⟩ = some (.int .i64 s0_0) := (blk_cell HI.out.1 0).trans rfl
    have fz : ∀ j : Nat, w3.frozen? ⟨g, j, none⟩ = false := fun j => blk_frozen HI.out.1 j
    repeat still_step
    refine wpStill_nil ?_
    go_wp2
    first | go_end0 | ((try simp only [Exit.inBlock, Exit.then]); refine bodyPost_ret (results_none rfl _ _ _) rfl ?_)
    exact ⟨rfl, IsS73.set_0 HI.out _, below_set HB.out (IsS73.ge HI.out), by repeat (first | exact HK.out | exact KeepBut.refl w g none | apply KeepBut.set_)⟩
set_option maxHeartbeats 4000000 in
set_option maxRecDepth 100000 in
theorem tick_Counter_Add.p1 (g : Nat) (s0_0 s0_1 s0_2 s0_3 s0_4 s0_5 s0_6 : Int) (a2 : Int) (w0 w : World) (hI : IsS73 w0 w g s0_0 s0_1 s0_2 s0_3 s0_4 s0_5 s0_6) (hB : Below w0.heap.size w0 w) (hn : 0 ≤ a2) : Calls Try.prog 45 #[.pointer (some ⟨g, 0, none⟩), .int .i64 1, .int .i64 a2] w fun e w' => e = .returned (.tuple #[]) ∧ IsS73 w0 w' g s0_0 (addv s0_1 a2) s0_2 s0_3 s0_4 s0_5 s0_6 ∧ Below w0.heap.size w0 w' ∧ KeepBut w w' g none := by
  have hu := Try.underlying73
  have c_0 : w.cell? ⟨g, 0, none⟩ = some (.int .i64 s0_0) := (blk_cell hI.1 0).trans rfl
  have c_1 : w.cell? ⟨g, 1, none⟩ = some (.int .i64 s0_1) := (blk_cell hI.1 1).trans rfl
  have c_2 : w.cell? ⟨g, 2, none⟩ = some (.int .i64 s0_2) := (blk_cell hI.1 2).trans rfl
  have c_3 : w.cell? ⟨g, 3, none⟩ = some (.int .i64 s0_3) := (blk_cell hI.1 3).trans rfl
  have c_4 : w.cell? ⟨g, 4, none⟩ = some (.int .i64 s0_4) := (blk_cell hI.1 4).trans rfl
  have c_5 : w.cell? ⟨g, 5, none⟩ = some (.int .i64 s0_5) := (blk_cell hI.1 5).trans rfl
  have c_6 : w.cell? ⟨g, 6, none⟩ = some (.int .i64 s0_6) := (blk_cell hI.1 6).trans rfl
  have fz : ∀ j : Nat, w.frozen? ⟨g, j, none⟩ = false := fun j => blk_frozen hI.1 j
  have HI := Aside0.mk hI
  have HB := Aside0.mk hB
  clear hI hB
  have nb : decide (a2 < 0) = false := decide_eq_false (by omega)
  clear hn
  unfold addv
  by_cases c : a2 > wrap64 (9223372036854775807 - s0_1)
  · rw [if_pos c]
    have cb : decide (a2 > wrap64 (9223372036854775807 - s0_1)) = true := decide_eq_true c
    clear c
    go_enter Try.func45, Try.ntmps45
    go_wp2
    repeat (go_quiet (fail); try go_wp2)
    first | go_end0 | ((try simp only [Exit.inBlock, Exit.then]); refine bodyPost_ret (results_none rfl _ _ _) rfl ?_)
    exact ⟨rfl, IsS73.set_1 HI.out _, below_set HB.out (IsS73.ge HI.out), by repeat (first | exact HK.out | exact KeepBut.refl w g none | apply KeepBut.set_)⟩
  · rw [if_neg c]
    have cb : decide (a2 > wrap64 (9223372036854775807 - s0_1)) = false := decide_eq_false c
    clear c
    go_enter Try.func45, Try.ntmps45
    go_upto_region 3 with fail
    refine wp_region_still_tail 11 (by kernel_rfl) (by kernel_rfl) ?_
    simp only [List.take_succ_cons, List.take_zero, List.drop_succ_cons, List.drop_zero]
    change wpStill _ _ (World.drew w) (fun a' => wpList _ _ _ _ a' (World.drew w)) _ _
    replace HI := Aside0.mk (IsS73.drew HI.out)
    replace HB := Aside0.mk (below_drew1 HB.out)
    have HK := Aside0.mk (keep_drew (KeepBut.refl w g none))
    clear c_0 c_1 c_2 c_3 c_4 c_5 c_6 fz
    generalize World.drew w = w3 at HI HB HK ⊢
    have c_1 : w3.cell? ⟨g, 1, none⟩ = some (.int .i64 s0_1) := (blk_cell HI.out.1 1).trans rfl
    have fz : ∀ j : Nat, w3.frozen? ⟨g, j, none⟩ = false := fun j => blk_frozen HI.out.1 j
    repeat still_step
    refine wpStill_nil ?_
    go_wp2
    first | go_end0 | ((try simp only [Exit.inBlock, Exit.then]); refine bodyPost_ret (results_none rfl _ _ _) rfl ?_)
    exact ⟨rfl, IsS73.set_1 HI.out _, below_set HB.out (IsS73.ge HI.out), by repeat (first | exact HK.out | exact KeepBut.refl w g none | apply KeepBut.set_)⟩
set_option maxHeartbeats 4000000 in
set_option maxRecDepth 100000 in
theorem tick_Counter_Add.p2 (g : Nat) (s0_0 s0_1 s0_2 s0_3 s0_4 s0_5 s0_6 : Int) (a2 : Int) (w0 w : World) (hI : IsS73 w0 w g s0_0 s0_1 s0_2 s0_3 s0_4 s0_5 s0_6) (hB : Below w0.heap.size w0 w) (hn : 0 ≤ a2) : Calls Try.prog 45 #[.pointer (some ⟨g, 0, none⟩), .int .i64 2, .int .i64 a2] w fun e w' => e = .returned (.tuple #[]) ∧ IsS73 w0 w' g s0_0 s0_1 (addv s0_2 a2) s0_3 s0_4 s0_5 s0_6 ∧ Below w0.heap.size w0 w' ∧ KeepBut w w' g none := by
  have hu := Try.underlying73
  have c_0 : w.cell? ⟨g, 0, none⟩ = some (.int .i64 s0_0) := (blk_cell hI.1 0).trans rfl
  have c_1 : w.cell? ⟨g, 1, none⟩ = some (.int .i64 s0_1) := (blk_cell hI.1 1).trans rfl
  have c_2 : w.cell? ⟨g, 2, none⟩ = some (.int .i64 s0_2) := (blk_cell hI.1 2).trans rfl
  have c_3 : w.cell? ⟨g, 3, none⟩ = some (.int .i64 s0_3) := (blk_cell hI.1 3).trans rfl
  have c_4 : w.cell? ⟨g, 4, none⟩ = some (.int .i64 s0_4) := (blk_cell hI.1 4).trans rfl
  have c_5 : w.cell? ⟨g, 5, none⟩ = some (.int .i64 s0_5) := (blk_cell hI.1 5).trans rfl
  have c_6 : w.cell? ⟨g, 6, none⟩ = some (.int .i64 s0_6) := (blk_cell hI.1 6).trans rfl
  have fz : ∀ j : Nat, w.frozen? ⟨g, j, none⟩ = false := fun j => blk_frozen hI.1 j
  have HI := Aside0.mk hI
  have HB := Aside0.mk hB
  clear hI hB
  have nb : decide (a2 < 0) = false := decide_eq_false (by omega)
  clear hn
  unfold addv
  by_cases c : a2 > wrap64 (9223372036854775807 - s0_2)
  · rw [if_pos c]
    have cb : decide (a2 > wrap64 (9223372036854775807 - s0_2)) = true := decide_eq_true c
    clear c
    go_enter Try.func45, Try.ntmps45
    go_wp2
    repeat (go_quiet (fail); try go_wp2)
    first | go_end0 | ((try simp only [Exit.inBlock, Exit.then]); refine bodyPost_ret (results_none rfl _ _ _) rfl ?_)
    exact ⟨rfl, IsS73.set_2 HI.out _, below_set HB.out (IsS73.ge HI.out), by repeat (first | exact HK.out | exact KeepBut.refl w g none | apply KeepBut.set_)⟩
  · rw [if_neg c]
    have cb : decide (a2 > wrap64 (9223372036854775807 - s0_2)) = false := decide_eq_false c
    clear c
    go_enter Try.func45, Try.ntmps45
    go_upto_region 3 with fail
    refine wp_region_still_tail 11 (by kernel_rfl) (by kernel_rfl) ?_
    simp only [List.take_succ_cons, List.take_zero, List.drop_succ_cons, List.drop_zero]
    change wpStill _ _ (World.drew w) (fun a' => wpList _ _ _ _ a' (World.drew w)) _ _
    replace HI := Aside0.mk (IsS73.drew HI.out)
    replace HB := Aside0.mk (below_drew1 HB.out)
    have HK := Aside0.mk (keep_drew (KeepBut.refl w g none))
    clear c_0 c_1 c_2 c_3 c_4 c_5 c_6 fz
    generalize World.drew w = w3 at HI HB HK ⊢
    have c_2 : w3.cell? ⟨g, 2, none⟩ = some (.int .i64 s0_2) := (blk_cell HI.out.1 2).trans rfl
    have fz : ∀ j : Nat, w3.frozen? ⟨g, j, none⟩ = false := fun j => blk_frozen HI.out.1 j
    repeat still_step
    refine wpStill_nil ?_
    go_wp2
    first | go_end0 | ((try simp only [Exit.inBlock, Exit.then]); refine bodyPost_ret (results_none rfl _ _ _) rfl ?_)
    exact ⟨rfl, IsS73.set_2 HI.out _, below_set HB.out (IsS73.ge HI.out), by repeat (first | exact HK.out | exact KeepBut.refl w g none | apply KeepBut.set_)⟩
set_option maxHeartbeats 4000000 in
set_option maxRecDepth 100000 in
theorem tick_Counter_Add.p3 (g : Nat) (s0_0 s0_1 s0_2 s0_3 s0_4 s0_5 s0_6 : Int) (a2 : Int) (w0 w : World) (hI : IsS73 w0 w g s0_0 s0_1 s0_2 s0_3 s0_4 s0_5 s0_6) (hB : Below w0.heap.size w0 w) (hn : 0 ≤ a2) : Calls Try.prog 45 #[.pointer (some ⟨g, 0, none⟩), .int .i64 3, .int .i64 a2] w fun e w' => e = .returned (.tuple #[]) ∧ IsS73 w0 w' g s0_0 s0_1 s0_2 (addv s0_3 a2) s0_4 s0_5 s0_6 ∧ Below w0.heap.size w0 w' ∧ KeepBut w w' g none := by
  have hu := Try.underlying73
  have c_0 : w.cell? ⟨g, 0, none⟩ = some (.int .i64 s0_0) := (blk_cell hI.1 0).trans rfl
  have c_1 : w.cell? ⟨g, 1, none⟩ = some (.int .i64 s0_1) := (blk_cell hI.1 1).trans rfl
  have c_2 : w.cell? ⟨g, 2, none⟩ = some (.int .i64 s0_2) := (blk_cell hI.1 2).trans rfl
  have c_3 : w.cell? ⟨g, 3, none⟩ = some (.int .i64 s0_3) := (blk_cell hI.1 3).trans rfl
  have c_4 : w.cell? ⟨g, 4, none⟩ = some (.int .i64 s0_4) := (blk_cell hI.1 4).trans rfl
  have c_5 : w.cell? ⟨g, 5, none⟩ = some (.int .i64 s0_5) := (blk_cell hI.1 5).trans rfl
  have c_6 : w.cell? ⟨g, 6, none⟩ = some (.int .i64 s0_6) := (blk_cell hI.1 6).trans rfl
  have fz : ∀ j : Nat, w.frozen? ⟨g, j, none⟩ = false := fun j => blk_frozen hI.1 j
  have HI := Aside0.mk hI
  have HB := Aside0.mk hB
  clear hI hB
  have nb : decide (a2 < 0) = false := decide_eq_false (by omega)
  clear hn
  unfold addv
  by_cases c : a2 > wrap64 (9223372036854775807 - s0_3)
  · rw [if_pos c]
    have cb : decide (a2 > wrap64 (9223372036854775807 - s0_3)) = true := decide_eq_true c
    clear c
    go_enter Try.func45, Try.ntmps45
    go_wp2
    repeat (go_quiet (fail); try go_wp2)
    first | go_end0 | ((try simp only [Exit.inBlock, Exit.then]); refine bodyPost_ret (results_none rfl _ _ _) rfl ?_)
    exact ⟨rfl, IsS73.set_3 HI.out _, below_set HB.out (IsS73.ge HI.out), by repeat (first | exact HK.out | exact KeepBut.refl w g none | apply KeepBut.set_)⟩
  · rw [if_neg c]
    have cb : decide (a2 > wrap64 (9223372036854775807 - s0_3)) = false := decide_eq_false c
    clear c
    go_enter Try.func45, Try.ntmps45
    go_upto_region 3 with fail
    refine wp_region_still_tail 11 (by kernel_rfl) (by kernel_rfl) ?_
    simp only [List.take_succ_cons, List.take_zero, List.drop_succ_cons, List.drop_zero]
    change wpStill _ _ (World.drew w) (fun a' => wpList _ _ _ _ a' (World.drew w)) _ _
    replace HI := Aside0.mk (IsS73.drew HI.out)
    replace HB := Aside0.mk (below_drew1 HB.out)
    have HK := Aside0.mk (keep_drew (KeepBut.refl w g none))
    clear c_0 c_1 c_2 c_3 c_4 c_5 c_6 fz
    generalize World.drew w = w3 at HI HB HK ⊢
    have c_3 : w3.cell? ⟨g, 3, none⟩ = some (.int .i64 s0_3) := (blk_cell HI.out.1 3).trans rfl
    have fz : ∀ j : Nat, w3.frozen? ⟨g, j, none⟩ = false := fun j => blk_frozen HI.out.1 j
    repeat still_step
    refine wpStill_nil ?_
    go_wp2
    first | go_end0 | ((try simp only [Exit.inBlock, Exit.then]); refine bodyPost_ret (results_none rfl _ _ _) rfl ?_)
    exact ⟨rfl, IsS73.set_3 HI.out _, below_set HB.out (IsS73.ge HI.out), by repeat (first | exact HK.out | exact KeepBut.refl w g none | apply KeepBut.set_)⟩
set_option maxHeartbeats 4000000 in
set_option maxRecDepth 100000 in
theorem tick_Counter_Add.p4 (g : Nat) (s0_0 s0_1 s0_2 s0_3 s0_4 s0_5 s0_6 : Int) (a2 : Int) (w0 w : World) (hI : IsS73 w0 w g s0_0 s0_1 s0_2 s0_3 s0_4 s0_5 s0_6) (hB : Below w0.heap.size w0 w) (hn : 0 ≤ a2) : Calls Try.prog 45 #[.pointer (some ⟨g, 0, none⟩), .int .i64 4, .int .i64 a2] w fun e w' => e = .returned (.tuple #[]) ∧ IsS73 w0 w' g s0_0 s0_1 s0_2 s0_3 (addv s0_4 a2) s0_5 s0_6 ∧ Below w0.heap.size w0 w' ∧ KeepBut w w' g none := by
  have hu := Try.underlying73
  have c_0 : w.cell? ⟨g, 0, none⟩ = some (.int .i64 s0_0) := (blk_cell hI.1 0).trans rfl
  have c_1 : w.cell? ⟨g, 1, none⟩ = some (.int .i64 s0_1) := (blk_cell hI.1 1).trans rfl
  have c_2 : w.cell? ⟨g, 2, none⟩ = some (.int .i64 s0_2) := (blk_cell hI.1 2).trans rfl
  have c_3 : w.cell? ⟨g, 3, none⟩ = some (.int .i64 s0_3) := (blk_cell hI.1 3).trans rfl
  have c_4 : w.cell? ⟨g, 4, none⟩ = some (.int .i64 s0_4) := (blk_cell hI.1 4).trans rfl
  have c_5 : w.cell? ⟨g, 5, none⟩ = some (.int .i64 s0_5) := (blk_cell hI.1 5).trans rfl
  have c_6 : w.cell? ⟨g, 6, none⟩ = some (.int .i64 s0_6) := (blk_cell hI.1 6).trans rfl
  have fz : ∀ j : Nat, w.frozen? ⟨g, j, none⟩ = false := fun j => blk_frozen hI.1 j
  have HI := Aside0.mk hI
  have HB := Aside0.mk hB
  clear hI hB
  have nb : decide (a2 < 0) = false := decide_eq_false (by omega)
  clear hn
  unfold addv
  by_cases c : a2 > wrap64 (9223372036854775807 - s0_4)
  · rw [if_pos c]
    have cb : decide (a2 > wrap64 (9223372036854775807 - s0_4)) = true := decide_eq_true c
    clear c
    go_enter Try.func45, Try.ntmps45
    go_wp2
    repeat (go_quiet (fail); try go_wp2)
    first | go_end0 | ((try simp only [Exit.inBlock, Exit.then]); refine bodyPost_ret (results_none rfl _ _ _) rfl ?_)
    exact ⟨rfl, IsS73.set_4 HI.out _, below_set HB.out (IsS73.ge HI.out), by repeat (first | exact HK.out | exact KeepBut.refl w g none | apply KeepBut.set_)⟩
  · rw [if_neg c]
    have cb : decide (a2 > wrap64 (9223372036854775807 - s0_4)) = false := decide_eq_false c
    clear c
    go_enter Try.func45, Try.ntmps45
    go_upto_region 3 with fail
    refine wp_region_still_tail 11 (by kernel_rfl) (by kernel_rfl) ?_
    simp only [List.take_succ_cons, List.take_zero, List.drop_succ_cons, List.drop_zero]
    change wpStill _ _ (World.drew w) (fun a' => wpList _ _ _ _ a' (World.drew w)) _ _
    replace HI := Aside0.mk (IsS73.drew HI.out)
    replace HB := Aside0.mk (below_drew1 HB.out)
    have HK := Aside0.mk (keep_drew (KeepBut.refl w g none))
    clear c_0 c_1 c_2 c_3 c_4 c_5 c_6 fz
    generalize World.drew w = w3 at HI HB HK ⊢
    have c_4 : w3.cell? ⟨g, 4, none⟩ = some (.int .i64 s0_4) := (blk_cell HI.out.1 4).trans rfl
    have fz : ∀ j : Nat, w3.frozen? ⟨g, j, none⟩ = false := fun j => blk_frozen HI.out.1 j
    repeat still_step
    refine wpStill_nil ?_
    go_wp2
    first | go_end0 | ((try simp only [Exit.inBlock, Exit.then]); refine bodyPost_ret (results_none rfl _ _ _) rfl ?_)
    exact ⟨rfl, IsS73.set_4 HI.out _, below_set HB.out (IsS73.ge HI.out), by repeat (first | exact HK.out | exact KeepBut.refl w g none | apply KeepBut.set_)⟩
set_option maxHeartbeats 4000000 in
set_option maxRecDepth 100000 in
theorem tick_Counter_Add.p5 (g : Nat) (s0_0 s0_1 s0_2 s0_3 s0_4 s0_5 s0_6 : Int) (a2 : Int) (w0 w : World) (hI : IsS73 w0 w g s0_0 s0_1 s0_2 s0_3 s0_4 s0_5 s0_6) (hB : Below w0.heap.size w0 w) (hn : 0 ≤ a2) : Calls Try.prog 45 #[.pointer (some ⟨g, 0, none⟩), .int .i64 5, .int .i64 a2] w fun e w' => e = .returned (.tuple #[]) ∧ IsS73 w0 w' g s0_0 s0_1 s0_2 s0_3 s0_4 (addv s0_5 a2) s0_6 ∧ Below w0.heap.size w0 w' ∧ KeepBut w w' g none := by
  have hu := Try.underlying73
  have c_0 : w.cell? ⟨g, 0, none⟩ = some (.int .i64 s0_0) := (blk_cell hI.1 0).trans rfl
  have c_1 : w.cell? ⟨g, 1, none⟩ = some (.int .i64 s0_1) := (blk_cell hI.1 1).trans rfl
  have c_2 : w.cell? ⟨g, 2, none⟩ = some (.int .i64 s0_2) := (blk_cell hI.1 2).trans rfl
  have c_3 : w.cell? ⟨g, 3, none⟩ = some (.int .i64 s0_3) := (blk_cell hI.1 3).trans rfl
  have c_4 : w.cell? ⟨g, 4, none⟩ = some (.int .i64 s0_4) := (blk_cell hI.1 4).trans rfl
  have c_5 : w.cell? ⟨g, 5, none⟩ = some (.int .i64 s0_5) := (blk_cell hI.1 5).trans rfl
  have c_6 : w.cell? ⟨g, 6, none⟩ = some (.int .i64 s0_6) := (blk_cell hI.1 6).trans rfl
  have fz : ∀ j : Nat, w.frozen? ⟨g, j, none⟩ = false := fun j => blk_frozen hI.1 j
  have HI := Aside0.mk hI
  have HB := Aside0.mk hB
  clear hI hB
  have nb : decide (a2 < 0) = false := decide_eq_false (by omega)
  clear hn
  unfold addv
  by_cases c : a2 > wrap64 (9223372036854775807 - s0_5)
  · rw [if_pos c]
    have cb : decide (a2 > wrap64 (9223372036854775807 - s0_5)) = true := decide_eq_true c
    clear c
    go_enter Try.func45, Try.ntmps45
    go_wp2
    repeat (go_quiet (fail); try go_wp2)
    first | go_end0 | ((try simp only [Exit.inBlock, Exit.then]); refine bodyPost_ret (results_none rfl _ _ _) rfl ?_)
    exact ⟨rfl, IsS73.set_5 HI.out _, below_set HB.out (IsS73.ge HI.out), by repeat (first | exact HK.out | exact KeepBut.refl w g none | apply KeepBut.set_)⟩
  · rw [if_neg c]
    have cb : decide (a2 > wrap64 (9223372036854775807 - s0_5)) = false := decide_eq_false c
    clear c
    go_enter Try.func45, Try.ntmps45
    go_upto_region 3 with fail
    refine wp_region_still_tail 11 (by kernel_rfl) (by kernel_rfl) ?_
    simp only [List.take_succ_cons, List.take_zero, List.drop_succ_cons, List.drop_zero]
    change wpStill _ _ (World.drew w) (fun a' => wpList _ _ _ _ a' (World.drew w)) _ _
    replace HI := Aside0.mk (IsS73.drew HI.out)
    replace HB := Aside0.mk (below_drew1 HB.out)
    have HK := Aside0.mk (keep_drew (KeepBut.refl w g none))
    clear c_0 c_1 c_2 c_3 c_4 c_5 c_6 fz
    generalize World.drew w = w3 at HI HB HK ⊢
    have c_5 : w3.cell? ⟨g, 5, none⟩ = some (.int .i64 s0_5) := (blk_cell HI.out.1 5).trans rfl
    have fz : ∀ j : Nat, w3.frozen? ⟨g, j, none⟩ = false := fun j => blk_frozen HI.out.1 j
    repeat still_step
    refine wpStill_nil ?_
    go_wp2
    first | go_end0 | ((try simp only [Exit.inBlock, Exit.then]); refine bodyPost_ret (results_none rfl _ _ _) rfl ?_)
    exact ⟨rfl, IsS73.set_5 HI.out _, below_set HB.out (IsS73.ge HI.out), by repeat (first | exact HK.out | exact KeepBut.refl w g none | apply KeepBut.set_)⟩
set_option maxHeartbeats 4000000 in
set_option maxRecDepth 100000 in
theorem tick_Counter_Add.p6 (g : Nat) (s0_0 s0_1 s0_2 s0_3 s0_4 s0_5 s0_6 : Int) (a2 : Int) (w0 w : World) (hI : IsS73 w0 w g s0_0 s0_1 s0_2 s0_3 s0_4 s0_5 s0_6) (hB : Below w0.heap.size w0 w) (hn : 0 ≤ a2) : Calls Try.prog 45 #[.pointer (some ⟨g, 0, none⟩), .int .i64 6, .int .i64 a2] w fun e w' => e = .returned (.tuple #[]) ∧ IsS73 w0 w' g s0_0 s0_1 s0_2 s0_3 s0_4 s0_5 (addv s0_6 a2) ∧ Below w0.heap.size w0 w' ∧ KeepBut w w' g none := by
  have hu := Try.underlying73
  have c_0 : w.cell? ⟨g, 0, none⟩ = some (.int .i64 s0_0) := (blk_cell hI.1 0).trans rfl
  have c_1 : w.cell? ⟨g, 1, none⟩ = some (.int .i64 s0_1) := (blk_cell hI.1 1).trans rfl
  have c_2 : w.cell? ⟨g, 2, none⟩ = some (.int .i64 s0_2) := (blk_cell hI.1 2).trans rfl
  have c_3 : w.cell? ⟨g, 3, none⟩ = some (.int .i64 s0_3) := (blk_cell hI.1 3).trans rfl
  have c_4 : w.cell? ⟨g, 4, none⟩ = some (.int .i64 s0_4) := (blk_cell hI.1 4).trans rfl
  have c_5 : w.cell? ⟨g, 5, none⟩ = some (.int .i64 s0_5) := (blk_cell hI.1 5).trans rfl
  have c_6 : w.cell? ⟨g, 6, none⟩ = some (.int .i64 s0_6) := (blk_cell hI.1 6).trans rfl
  have fz : ∀ j : Nat, w.frozen? ⟨g, j, none⟩ = false := fun j => blk_frozen hI.1 j
  have HI := Aside0.mk hI
  have HB := Aside0.mk hB
  clear hI hB
  have nb : decide (a2 < 0) = false := decide_eq_false (by omega)
  clear hn
  unfold addv
  by_cases c : a2 > wrap64 (9223372036854775807 - s0_6)
  · rw [if_pos c]
    have cb : decide (a2 > wrap64 (9223372036854775807 - s0_6)) = true := decide_eq_true c
    clear c
    go_enter Try.func45, Try.ntmps45
    go_wp2
    repeat (go_quiet (fail); try go_wp2)
    first | go_end0 | ((try simp only [Exit.inBlock, Exit.then]); refine bodyPost_ret (results_none rfl _ _ _) rfl ?_)
    exact ⟨rfl, IsS73.set_6 HI.out _, below_set HB.out (IsS73.ge HI.out), by repeat (first | exact HK.out | exact KeepBut.refl w g none | apply KeepBut.set_)⟩
  · rw [if_neg c]
    have cb : decide (a2 > wrap64 (9223372036854775807 - s0_6)) = false := decide_eq_false c
    clear c
    go_enter Try.func45, Try.ntmps45
    go_upto_region 3 with fail
    refine wp_region_still_tail 11 (by kernel_rfl) (by kernel_rfl) ?_
    simp only [List.take_succ_cons, List.take_zero, List.drop_succ_cons, List.drop_zero]
    change wpStill _ _ (World.drew w) (fun a' => wpList _ _ _ _ a' (World.drew w)) _ _
    replace HI := Aside0.mk (IsS73.drew HI.out)
    replace HB := Aside0.mk (below_drew1 HB.out)
    have HK := Aside0.mk (keep_drew (KeepBut.refl w g none))
    clear c_0 c_1 c_2 c_3 c_4 c_5 c_6 fz
    generalize World.drew w = w3 at HI HB HK ⊢
    have c_6 : w3.cell? ⟨g, 6, none⟩ = some (.int .i64 s0_6) := (blk_cell HI.out.1 6).trans rfl
    have fz : ∀ j : Nat, w3.frozen? ⟨g, j, none⟩ = false := fun j => blk_frozen HI.out.1 j
    repeat still_step
    refine wpStill_nil ?_
    go_wp2
    first | go_end0 | ((try simp only [Exit.inBlock, Exit.then]); refine bodyPost_ret (results_none rfl _ _ _) rfl ?_)
    exact ⟨rfl, IsS73.set_6 HI.out _, below_set HB.out (IsS73.ge HI.out), by repeat (first | exact HK.out | exact KeepBut.refl w g none | apply KeepBut.set_)⟩
set_option maxHeartbeats 4000000 in
set_option maxRecDepth 100000 in
theorem tick_Counter_Of.p0 (g : Nat) (s0_0 s0_1 s0_2 s0_3 s0_4 s0_5 s0_6 : Int) (w0 w : World) (hI : IsS73 w0 w g s0_0 s0_1 s0_2 s0_3 s0_4 s0_5 s0_6) (hB : Below w0.heap.size w0 w) : Calls Try.prog 49 #[.pointer (some ⟨g, 0, none⟩), .int .i64 0] w fun e w' => e = .returned (.int .i64 s0_0) ∧ IsS73 w0 w' g s0_0 s0_1 s0_2 s0_3 s0_4 s0_5 s0_6 ∧ Below w0.heap.size w0 w' ∧ KeepBut w w' g none := by
  have hu := Try.underlying73
  have c_0 : w.cell? ⟨g, 0, none⟩ = some (.int .i64 s0_0) := (blk_cell hI.1 0).trans rfl
  have c_1 : w.cell? ⟨g, 1, none⟩ = some (.int .i64 s0_1) := (blk_cell hI.1 1).trans rfl
  have c_2 : w.cell? ⟨g, 2, none⟩ = some (.int .i64 s0_2) := (blk_cell hI.1 2).trans rfl
  have c_3 : w.cell? ⟨g, 3, none⟩ = some (.int .i64 s0_3) := (blk_cell hI.1 3).trans rfl
  have c_4 : w.cell? ⟨g, 4, none⟩ = some (.int .i64 s0_4) := (blk_cell hI.1 4).trans rfl
  have c_5 : w.cell? ⟨g, 5, none⟩ = some (.int .i64 s0_5) := (blk_cell hI.1 5).trans rfl
  have c_6 : w.cell? ⟨g, 6, none⟩ = some (.int .i64 s0_6) := (blk_cell hI.1 6).trans rfl
  have fz : ∀ j : Nat, w.frozen? ⟨g, j, none⟩ = false := fun j => blk_frozen hI.1 j
  have HI := Aside0.mk hI
  have HB := Aside0.mk hB
  clear hI hB
  go_enter Try.func49, Try.ntmps49
  go_wp2
  repeat (go_quiet (fail); try go_wp2)
  go_ret
  exact ⟨rfl, by repeat (first | exact HI.out | apply IsS73.drewN | apply IsS73.drew), by repeat (first | exact HB.out | apply pw_below_drewN | apply below_drew1), by repeat (first | exact KeepBut.refl w g none | apply keep_drewN | apply keep_drew)⟩
set_option maxHeartbeats 4000000 in
set_option maxRecDepth 100000 in
theorem tick_Counter_Of.p1 (g : Nat) (s0_0 s0_1 s0_2 s0_3 s0_4 s0_5 s0_6 : Int) (w0 w : World) (hI : IsS73 w0 w g s0_0 s0_1 s0_2 s0_3 s0_4 s0_5 s0_6) (hB : Below w0.heap.size w0 w) : Calls Try.prog 49 #[.pointer (some ⟨g, 0, none⟩), .int .i64 1] w fun e w' => e = .returned (.int .i64 s0_1) ∧ IsS73 w0 w' g s0_0 s0_1 s0_2 s0_3 s0_4 s0_5 s0_6 ∧ Below w0.heap.size w0 w' ∧ KeepBut w w' g none := by
  have hu := Try.underlying73
  have c_0 : w.cell? ⟨g, 0, none⟩ = some (.int .i64 s0_0) := (blk_cell hI.1 0).trans rfl
  have c_1 : w.cell? ⟨g, 1, none⟩ = some (.int .i64 s0_1) := (blk_cell hI.1 1).trans rfl
  have c_2 : w.cell? ⟨g, 2, none⟩ = some (.int .i64 s0_2) := (blk_cell hI.1 2).trans rfl
  have c_3 : w.cell? ⟨g, 3, none⟩ = some (.int .i64 s0_3) := (blk_cell hI.1 3).trans rfl
  have c_4 : w.cell? ⟨g, 4, none⟩ = some (.int .i64 s0_4) := (blk_cell hI.1 4).trans rfl
  have c_5 : w.cell? ⟨g, 5, none⟩ = some (.int .i64 s0_5) := (blk_cell hI.1 5).trans rfl
  have c_6 : w.cell? ⟨g, 6, none⟩ = some (.int .i64 s0_6) := (blk_cell hI.1 6).trans rfl
  have fz : ∀ j : Nat, w.frozen? ⟨g, j, none⟩ = false := fun j => blk_frozen hI.1 j
  have HI := Aside0.mk hI
  have HB := Aside0.mk hB
  clear hI hB
  go_enter Try.func49, Try.ntmps49
  go_wp2
  repeat (go_quiet (fail); try go_wp2)
  go_ret
  exact ⟨rfl, by repeat (first | exact HI.out | apply IsS73.drewN | apply IsS73.drew), by repeat (first | exact HB.out | apply pw_below_drewN | apply below_drew1), by repeat (first | exact KeepBut.refl w g none | apply keep_drewN | apply keep_drew)⟩
set_option maxHeartbeats 4000000 in
set_option maxRecDepth 100000 in
theorem tick_Counter_Of.p2 (g : Nat) (s0_0 s0_1 s0_2 s0_3 s0_4 s0_5 s0_6 : Int) (w0 w : World) (hI : IsS73 w0 w g s0_0 s0_1 s0_2 s0_3 s0_4 s0_5 s0_6) (hB : Below w0.heap.size w0 w) : Calls Try.prog 49 #[.pointer (some ⟨g, 0, none⟩), .int .i64 2] w fun e w' => e = .returned (.int .i64 s0_2) ∧ IsS73 w0 w' g s0_0 s0_1 s0_2 s0_3 s0_4 s0_5 s0_6 ∧ Below w0.heap.size w0 w' ∧ KeepBut w w' g none := by
  have hu := Try.underlying73
  have c_0 : w.cell? ⟨g, 0, none⟩ = some (.int .i64 s0_0) := (blk_cell hI.1 0).trans rfl
  have c_1 : w.cell? ⟨g, 1, none⟩ = some (.int .i64 s0_1) := (blk_cell hI.1 1).trans rfl
  have c_2 : w.cell? ⟨g, 2, none⟩ = some (.int .i64 s0_2) := (blk_cell hI.1 2).trans rfl
  have c_3 : w.cell? ⟨g, 3, none⟩ = some (.int .i64 s0_3) := (blk_cell hI.1 3).trans rfl
  have c_4 : w.cell? ⟨g, 4, none⟩ = some (.int .i64 s0_4) := (blk_cell hI.1 4).trans rfl
  have c_5 : w.cell? ⟨g, 5, none⟩ = some (.int .i64 s0_5) := (blk_cell hI.1 5).trans rfl
  have c_6 : w.cell? ⟨g, 6, none⟩ = some (.int .i64 s0_6) := (blk_cell hI.1 6).trans rfl
  have fz : ∀ j : Nat, w.frozen? ⟨g, j, none⟩ = false := fun j => blk_frozen hI.1 j
  have HI := Aside0.mk hI
  have HB := Aside0.mk hB
  clear hI hB
  go_enter Try.func49, Try.ntmps49
  go_wp2
  repeat (go_quiet (fail); try go_wp2)
  go_ret
  exact ⟨rfl, by repeat (first | exact HI.out | apply IsS73.drewN | apply IsS73.drew), by repeat (first | exact HB.out | apply pw_below_drewN | apply below_drew1), by repeat (first | exact KeepBut.refl w g none | apply keep_drewN | apply keep_drew)⟩
set_option maxHeartbeats 4000000 in
set_option maxRecDepth 100000 in
theorem tick_Counter_Of.p3 (g : Nat) (s0_0 s0_1 s0_2 s0_3 s0_4 s0_5 s0_6 : Int) (w0 w : World) (hI : IsS73 w0 w g s0_0 s0_1 s0_2 s0_3 s0_4 s0_5 s0_6) (hB : Below w0.heap.size w0 w) : Calls Try.prog 49 #[.pointer (some ⟨g, 0, none⟩), .int .i64 3] w fun e w' => e = .returned (.int .i64 s0_3) ∧ IsS73 w0 w' g s0_0 s0_1 s0_2 s0_3 s0_4 s0_5 s0_6 ∧ Below w0.heap.size w0 w' ∧ KeepBut w w' g none := by
  have hu := Try.underlying73
  have c_0 : w.cell? ⟨g, 0, none⟩ = some (.int .i64 s0_0) := (blk_cell hI.1 0).trans rfl
  have c_1 : w.cell? ⟨g, 1, none⟩ = some (.int .i64 s0_1) := (blk_cell hI.1 1).trans rfl
  have c_2 : w.cell? ⟨g, 2, none⟩ = some (.int .i64 s0_2) := (blk_cell hI.1 2).trans rfl
  have c_3 : w.cell? ⟨g, 3, none⟩ = some (.int .i64 s0_3) := (blk_cell hI.1 3).trans rfl
  have c_4 : w.cell? ⟨g, 4, none⟩ = some (.int .i64 s0_4) := (blk_cell hI.1 4).trans rfl
  have c_5 : w.cell? ⟨g, 5, none⟩ = some (.int .i64 s0_5) := (blk_cell hI.1 5).trans rfl
  have c_6 : w.cell? ⟨g, 6, none⟩ = some (.int .i64 s0_6) := (blk_cell hI.1 6).trans rfl
  have fz : ∀ j : Nat, w.frozen? ⟨g, j, none⟩ = false := fun j => blk_frozen hI.1 j
  have HI := Aside0.mk hI
  have HB := Aside0.mk hB
  clear hI hB
  go_enter Try.func49, Try.ntmps49
  go_wp2
  repeat (go_quiet (fail); try go_wp2)
  go_ret
  exact ⟨rfl, by repeat (first | exact HI.out | apply IsS73.drewN | apply IsS73.drew), by repeat (first | exact HB.out | apply pw_below_drewN | apply below_drew1), by repeat (first | exact KeepBut.refl w g none | apply keep_drewN | apply keep_drew)⟩
set_option maxHeartbeats 4000000 in
set_option maxRecDepth 100000 in
theorem tick_Counter_Of.p4 (g : Nat) (s0_0 s0_1 s0_2 s0_3 s0_4 s0_5 s0_6 : Int) (w0 w : World) (hI : IsS73 w0 w g s0_0 s0_1 s0_2 s0_3 s0_4 s0_5 s0_6) (hB : Below w0.heap.size w0 w) : Calls Try.prog 49 #[.pointer (some ⟨g, 0, none⟩), .int .i64 4] w fun e w' => e = .returned (.int .i64 s0_4) ∧ IsS73 w0 w' g s0_0 s0_1 s0_2 s0_3 s0_4 s0_5 s0_6 ∧ Below w0.heap.size w0 w' ∧ KeepBut w w' g none := by
  have hu := Try.underlying73
  have c_0 : w.cell? ⟨g, 0, none⟩ = some (.int .i64 s0_0) := (blk_cell hI.1 0).trans rfl
  have c_1 : w.cell? ⟨g, 1, none⟩ = some (.int .i64 s0_1) := (blk_cell hI.1 1).trans rfl
  have c_2 : w.cell? ⟨g, 2, none⟩ = some (.int .i64 s0_2) := (blk_cell hI.1 2).trans rfl
  have c_3 : w.cell? ⟨g, 3, none⟩ = some (.int .i64 s0_3) := (blk_cell hI.1 3).trans rfl
  have c_4 : w.cell? ⟨g, 4, none⟩ = some (.int .i64 s0_4) := (blk_cell hI.1 4).trans rfl
  have c_5 : w.cell? ⟨g, 5, none⟩ = some (.int .i64 s0_5) := (blk_cell hI.1 5).trans rfl
  have c_6 : w.cell? ⟨g, 6, none⟩ = some (.int .i64 s0_6) := (blk_cell hI.1 6).trans rfl
  have fz : ∀ j : Nat, w.frozen? ⟨g, j, none⟩ = false := fun j => blk_frozen hI.1 j
  have HI := Aside0.mk hI
  have HB := Aside0.mk hB
  clear hI hB
  go_enter Try.func49, Try.ntmps49
  go_wp2
  repeat (go_quiet (fail); try go_wp2)
  go_ret
  exact ⟨rfl, by repeat (first | exact HI.out | apply IsS73.drewN | apply IsS73.drew), by repeat (first | exact HB.out | apply pw_below_drewN | apply below_drew1), by repeat (first | exact KeepBut.refl w g none | apply keep_drewN | apply keep_drew)⟩
set_option maxHeartbeats 4000000 in
set_option maxRecDepth 100000 in
theorem tick_Counter_Of.p5 (g : Nat) (s0_0 s0_1 s0_2 s0_3 s0_4 s0_5 s0_6 : Int) (w0 w : World) (hI : IsS73 w0 w g s0_0 s0_1 s0_2 s0_3 s0_4 s0_5 s0_6) (hB : Below w0.heap.size w0 w) : Calls Try.prog 49 #[.pointer (some ⟨g, 0, none⟩), .int .i64 5] w fun e w' => e = .returned (.int .i64 s0_5) ∧ IsS73 w0 w' g s0_0 s0_1 s0_2 s0_3 s0_4 s0_5 s0_6 ∧ Below w0.heap.size w0 w' ∧ KeepBut w w' g none := by
  have hu := Try.underlying73
  have c_0 : w.cell? ⟨g, 0, none⟩ = some (.int .i64 s0_0) := (blk_cell hI.1 0).trans rfl
  have c_1 : w.cell? ⟨g, 1, none⟩ = some (.int .i64 s0_1) := (blk_cell hI.1 1).trans rfl
  have c_2 : w.cell? ⟨g, 2, none⟩ = some (.int .i64 s0_2) := (blk_cell hI.1 2).trans rfl
  have c_3 : w.cell? ⟨g, 3, none⟩ = some (.int .i64 s0_3) := (blk_cell hI.1 3).trans rfl
  have c_4 : w.cell? ⟨g, 4, none⟩ = some (.int .i64 s0_4) := (blk_cell hI.1 4).trans rfl
  have c_5 : w.cell? ⟨g, 5, none⟩ = some (.int .i64 s0_5) := (blk_cell hI.1 5).trans rfl
  have c_6 : w.cell? ⟨g, 6, none⟩ = some (.int .i64 s0_6) := (blk_cell hI.1 6).trans rfl
  have fz : ∀ j : Nat, w.frozen? ⟨g, j, none⟩ = false := fun j => blk_frozen hI.1 j
  have HI := Aside0.mk hI
  have HB := Aside0.mk hB
  clear hI hB
  go_enter Try.func49, Try.ntmps49
  go_wp2
  repeat (go_quiet (fail); try go_wp2)
  go_ret
  exact ⟨rfl, by repeat (first | exact HI.out | apply IsS73.drewN | apply IsS73.drew), by repeat (first | exact HB.out | apply pw_below_drewN | apply below_drew1), by repeat (first | exact KeepBut.refl w g none | apply keep_drewN | apply keep_drew)⟩
set_option maxHeartbeats 4000000 in
set_option maxRecDepth 100000 in
theorem tick_Counter_Of.p6 (g : Nat) (s0_0 s0_1 s0_2 s0_3 s0_4 s0_5 s0_6 : Int) (w0 w : World) (hI : IsS73 w0 w g s0_0 s0_1 s0_2 s0_3 s0_4 s0_5 s0_6) (hB : Below w0.heap.size w0 w) : Calls Try.prog 49 #[.pointer (some ⟨g, 0, none⟩), .int .i64 6] w fun e w' => e = .returned (.int .i64 s0_6) ∧ IsS73 w0 w' g s0_0 s0_1 s0_2 s0_3 s0_4 s0_5 s0_6 ∧ Below w0.heap.size w0 w' ∧ KeepBut w w' g none := by
  have hu := Try.underlying73
  have c_0 : w.cell? ⟨g, 0, none⟩ = some (.int .i64 s0_0) := (blk_cell hI.1 0).trans rfl
  have c_1 : w.cell? ⟨g, 1, none⟩ = some (.int .i64 s0_1) := (blk_cell hI.1 1).trans rfl
  have c_2 : w.cell? ⟨g, 2, none⟩ = some (.int .i64 s0_2) := (blk_cell hI.1 2).trans rfl
  have c_3 : w.cell? ⟨g, 3, none⟩ = some (.int .i64 s0_3) := (blk_cell hI.1 3).trans rfl
  have c_4 : w.cell? ⟨g, 4, none⟩ = some (.int .i64 s0_4) := (blk_cell hI.1 4).trans rfl
  have c_5 : w.cell? ⟨g, 5, none⟩ = some (.int .i64 s0_5) := (blk_cell hI.1 5).trans rfl
  have c_6 : w.cell? ⟨g, 6, none⟩ = some (.int .i64 s0_6) := (blk_cell hI.1 6).trans rfl
  have fz : ∀ j : Nat, w.frozen? ⟨g, j, none⟩ = false := fun j => blk_frozen hI.1 j
  have HI := Aside0.mk hI
  have HB := Aside0.mk hB
  clear hI hB
  go_enter Try.func49, Try.ntmps49
  go_wp2
  repeat (go_quiet (fail); try go_wp2)
  go_ret
  exact ⟨rfl, by repeat (first | exact HI.out | apply IsS73.drewN | apply IsS73.drew), by repeat (first | exact HB.out | apply pw_below_drewN | apply below_drew1), by repeat (first | exact KeepBut.refl w g none | apply keep_drewN | apply keep_drew)⟩
set_option maxHeartbeats 4000000 in
set_option maxRecDepth 100000 in
theorem tick_Counter_Add.off (g : Nat) (s0_0 s0_1 s0_2 s0_3 s0_4 s0_5 s0_6 : Int) (a1 a2 : Int) (w0 w : World) (hI : IsS73 w0 w g s0_0 s0_1 s0_2 s0_3 s0_4 s0_5 s0_6) (hB : Below w0.heap.size w0 w) (hn : a1 < 0 ∨ a1 ≥ 7 ∨ a2 < 0) : Calls Try.prog 45 #[.pointer (some ⟨g, 0, none⟩), .int .i64 a1, .int .i64 a2] w fun e w' => e = .returned (.tuple #[]) ∧ IsS73 w0 w' g s0_0 s0_1 s0_2 s0_3 s0_4 s0_5 s0_6 ∧ Below w0.heap.size w0 w' ∧ KeepBut w w' g none := by
  have hu := Try.underlying73
  have c_0 : w.cell? ⟨g, 0, none⟩ = some (.int .i64 s0_0) := (blk_cell hI.1 0).trans rfl
  have c_1 : w.cell? ⟨g, 1, none⟩ = some (.int .i64 s0_1) := (blk_cell hI.1 1).trans rfl
  have c_2 : w.cell? ⟨g, 2, none⟩ = some (.int .i64 s0_2) := (blk_cell hI.1 2).trans rfl
  have c_3 : w.cell? ⟨g, 3, none⟩ = some (.int .i64 s0_3) := (blk_cell hI.1 3).trans rfl
  have c_4 : w.cell? ⟨g, 4, none⟩ = some (.int .i64 s0_4) := (blk_cell hI.1 4).trans rfl
  have c_5 : w.cell? ⟨g, 5, none⟩ = some (.int .i64 s0_5) := (blk_cell hI.1 5).trans rfl
  have c_6 : w.cell? ⟨g, 6, none⟩ = some (.int .i64 s0_6) := (blk_cell hI.1 6).trans rfl
  have fz : ∀ j : Nat, w.frozen? ⟨g, j, none⟩ = false := fun j => blk_frozen hI.1 j
  have HI := Aside0.mk hI
  have HB := Aside0.mk hB
  clear hI hB
  by_cases c1 : a1 < 0
  · have c1b : decide (a1 < 0) = true := decide_eq_true c1
    clear hn c1
    go_enter Try.func45, Try.ntmps45
    go_wp2
    repeat (go_quiet (fail); try go_wp2)
    first | go_end0 | ((try simp only [Exit.inBlock, Exit.then]); refine bodyPost_ret (results_none rfl _ _ _) rfl ?_)
    exact ⟨rfl, by repeat (first | exact HI.out | apply IsS73.drewN | apply IsS73.drew), by repeat (first | exact HB.out | apply pw_below_drewN | apply below_drew1), by repeat (first | exact KeepBut.refl w g none | apply keep_drewN | apply keep_drew)⟩
  have c1b : decide (a1 < 0) = false := decide_eq_false c1
  by_cases c2 : a1 ≥ 7
  · have c2b : decide (a1 ≥ 7) = true := decide_eq_true c2
    clear hn c1 c2
    go_enter Try.func45, Try.ntmps45
    go_wp2
    repeat (go_quiet (fail); try go_wp2)
    first | go_end0 | ((try simp only [Exit.inBlock, Exit.then]); refine bodyPost_ret (results_none rfl _ _ _) rfl ?_)
    exact ⟨rfl, by repeat (first | exact HI.out | apply IsS73.drewN | apply IsS73.drew), by repeat (first | exact HB.out | apply pw_below_drewN | apply below_drew1), by repeat (first | exact KeepBut.refl w g none | apply keep_drewN | apply keep_drew)⟩
  have c2b : decide (a1 ≥ 7) = false := decide_eq_false c2
  have c3b : decide (a2 < 0) = true := decide_eq_true (by omega)
  clear hn c1 c2
  go_enter Try.func45, Try.ntmps45
  go_wp2
  repeat (go_quiet (fail); try go_wp2)
  first | go_end0 | ((try simp only [Exit.inBlock, Exit.then]); refine bodyPost_ret (results_none rfl _ _ _) rfl ?_)
  exact ⟨rfl, by repeat (first | exact HI.out | apply IsS73.drewN | apply IsS73.drew), by repeat (first | exact HB.out | apply pw_below_drewN | apply below_drew1), by repeat (first | exact KeepBut.refl w g none | apply keep_drewN | apply keep_drew)⟩
set_option maxHeartbeats 4000000 in
set_option maxRecDepth 100000 in
theorem tick_Counter_Of.off (g : Nat) (s0_0 s0_1 s0_2 s0_3 s0_4 s0_5 s0_6 : Int) (a1 : Int) (w0 w : World) (hI : IsS73 w0 w g s0_0 s0_1 s0_2 s0_3 s0_4 s0_5 s0_6) (hB : Below w0.heap.size w0 w) (hn : a1 < 0 ∨ a1 ≥ 7) : Calls Try.prog 49 #[.pointer (some ⟨g, 0, none⟩), .int .i64 a1] w fun e w' => e = .returned (.int .i64 0) ∧ IsS73 w0 w' g s0_0 s0_1 s0_2 s0_3 s0_4 s0_5 s0_6 ∧ Below w0.heap.size w0 w' ∧ KeepBut w w' g none := by
  have hu := Try.underlying73
  have c_0 : w.cell? ⟨g, 0, none⟩ = some (.int .i64 s0_0) := (blk_cell hI.1 0).trans rfl
  have c_1 : w.cell? ⟨g, 1, none⟩ = some (.int .i64 s0_1) := (blk_cell hI.1 1).trans rfl
  have c_2 : w.cell? ⟨g, 2, none⟩ = some (.int .i64 s0_2) := (blk_cell hI.1 2).trans rfl
  have c_3 : w.cell? ⟨g, 3, none⟩ = some (.int .i64 s0_3) := (blk_cell hI.1 3).trans rfl
  have c_4 : w.cell? ⟨g, 4, none⟩ = some (.int .i64 s0_4) := (blk_cell hI.1 4).trans rfl
  have c_5 : w.cell? ⟨g, 5, none⟩ = some (.int .i64 s0_5) := (blk_cell hI.1 5).trans rfl
  have c_6 : w.cell? ⟨g, 6, none⟩ = some (.int .i64 s0_6) := (blk_cell hI.1 6).trans rfl
  have fz : ∀ j : Nat, w.frozen? ⟨g, j, none⟩ = false := fun j => blk_frozen hI.1 j
  have HI := Aside0.mk hI
  have HB := Aside0.mk hB
  clear hI hB
  by_cases c1 : a1 < 0
  · have c1b : decide (a1 < 0) = true := decide_eq_true c1
    clear hn c1
    go_enter Try.func49, Try.ntmps49
    go_wp2
    repeat (go_quiet (fail); try go_wp2)
    go_ret
    exact ⟨rfl, by repeat (first | exact HI.out | apply IsS73.drewN | apply IsS73.drew), by repeat (first | exact HB.out | apply pw_below_drewN | apply below_drew1), by repeat (first | exact KeepBut.refl w g none | apply keep_drewN | apply keep_drew)⟩
  have c1b : decide (a1 < 0) = false := decide_eq_false c1
  have c2b : decide (a1 ≥ 7) = true := decide_eq_true (by omega)
  clear hn c1
  go_enter Try.func49, Try.ntmps49
  go_wp2
  repeat (go_quiet (fail); try go_wp2)
  go_ret
  exact ⟨rfl, by repeat (first | exact HI.out | apply IsS73.drewN | apply IsS73.drew), by repeat (first | exact HB.out | apply pw_below_drewN | apply below_drew1), by repeat (first | exact KeepBut.refl w g none | apply keep_drewN | apply keep_drew)⟩
theorem tick_Counter_Add.calls (g : Nat) (s0_0 : Int) (s0_1 : Int) (s0_2 : Int) (s0_3 : Int) (s0_4 : Int) (s0_5 : Int) (s0_6 : Int) (a1 : Int) (a2 : Int) (r1 : Int) (r2 : Int) (r3 : Int) (r4 : Int) (r5 : Int) (r6 : Int) (r7 : Int) (w0 w : World) (hI : IsS73 w0 w g s0_0 s0_1 s0_2 s0_3 s0_4 s0_5 s0_6) (hB : Below w0.heap.size w0 w) (h : tick_Counter_Add.f s0_0 s0_1 s0_2 s0_3 s0_4 s0_5 s0_6 a1 a2 = some (r1, r2, r3, r4, r5, r6, r7)) :
    Calls Try.prog 45 #[.pointer (some ⟨g, 0, none⟩), .int .i64 a1, .int .i64 a2] w fun e w' => e = .returned (.tuple #[]) ∧ IsS73 w0 w' g r1 r2 r3 r4 r5 r6 r7 ∧ Below w0.heap.size w0 w' ∧ KeepBut w w' g none := by
  unfold tick_Counter_Add.f at h
  simp only [Option.some.injEq, Prod.mk.injEq] at h
  obtain ⟨rfl, rfl, rfl, rfl, rfl, rfl, rfl⟩ := h
  by_cases c : a1 < 0 ∨ a1 ≥ 7 ∨ a2 < 0
  · have hz : ∀ j s, 0 ≤ j → j < 7 → addp j a1 s a2 = s := fun j s h0 h7 => if_neg (fun hh => by obtain ⟨h1, h2⟩ := hh; omega)
    rw [hz 0 _ (by omega) (by omega), hz 1 _ (by omega) (by omega), hz 2 _ (by omega) (by omega), hz 3 _ (by omega) (by omega), hz 4 _ (by omega) (by omega), hz 5 _ (by omega) (by omega), hz 6 _ (by omega) (by omega)]
    exact tick_Counter_Add.off g s0_0 s0_1 s0_2 s0_3 s0_4 s0_5 s0_6 a1 a2 w0 w hI hB c
  have hn : 0 ≤ a2 := by omega
  have hy : ∀ j s, addp j j s a2 = addv s a2 := fun j s => if_pos ⟨rfl, hn⟩
  have hz : ∀ j p s, p ≠ j → addp j p s a2 = s := fun j p s hp => if_neg (fun hh => hp hh.1)
  obtain rfl | rfl | rfl | rfl | rfl | rfl | rfl : a1 = 0 ∨ a1 = 1 ∨ a1 = 2 ∨ a1 = 3 ∨ a1 = 4 ∨ a1 = 5 ∨ a1 = 6 := by omega
  · rw [hy 0, hz 1 0 _ (by decide), hz 2 0 _ (by decide), hz 3 0 _ (by decide), hz 4 0 _ (by decide), hz 5 0 _ (by decide), hz 6 0 _ (by decide)]; exact tick_Counter_Add.p0 g s0_0 s0_1 s0_2 s0_3 s0_4 s0_5 s0_6 a2 w0 w hI hB hn
  · rw [hz 0 1 _ (by decide), hy 1, hz 2 1 _ (by decide), hz 3 1 _ (by decide), hz 4 1 _ (by decide), hz 5 1 _ (by decide), hz 6 1 _ (by decide)]; exact tick_Counter_Add.p1 g s0_0 s0_1 s0_2 s0_3 s0_4 s0_5 s0_6 a2 w0 w hI hB hn
  · rw [hz 0 2 _ (by decide), hz 1 2 _ (by decide), hy 2, hz 3 2 _ (by decide), hz 4 2 _ (by decide), hz 5 2 _ (by decide), hz 6 2 _ (by decide)]; exact tick_Counter_Add.p2 g s0_0 s0_1 s0_2 s0_3 s0_4 s0_5 s0_6 a2 w0 w hI hB hn
  · rw [hz 0 3 _ (by decide), hz 1 3 _ (by decide), hz 2 3 _ (by decide), hy 3, hz 4 3 _ (by decide), hz 5 3 _ (by decide), hz 6 3 _ (by decide)]; exact tick_Counter_Add.p3 g s0_0 s0_1 s0_2 s0_3 s0_4 s0_5 s0_6 a2 w0 w hI hB hn
  · rw [hz 0 4 _ (by decide), hz 1 4 _ (by decide), hz 2 4 _ (by decide), hz 3 4 _ (by decide), hy 4, hz 5 4 _ (by decide), hz 6 4 _ (by decide)]; exact tick_Counter_Add.p4 g s0_0 s0_1 s0_2 s0_3 s0_4 s0_5 s0_6 a2 w0 w hI hB hn
  · rw [hz 0 5 _ (by decide), hz 1 5 _ (by decide), hz 2 5 _ (by decide), hz 3 5 _ (by decide), hz 4 5 _ (by decide), hy 5, hz 6 5 _ (by decide)]; exact tick_Counter_Add.p5 g s0_0 s0_1 s0_2 s0_3 s0_4 s0_5 s0_6 a2 w0 w hI hB hn
  · rw [hz 0 6 _ (by decide), hz 1 6 _ (by decide), hz 2 6 _ (by decide), hz 3 6 _ (by decide), hz 4 6 _ (by decide), hz 5 6 _ (by decide), hy 6]; exact tick_Counter_Add.p6 g s0_0 s0_1 s0_2 s0_3 s0_4 s0_5 s0_6 a2 w0 w hI hB hn
theorem tick_Counter_Of.calls (g : Nat) (s0_0 : Int) (s0_1 : Int) (s0_2 : Int) (s0_3 : Int) (s0_4 : Int) (s0_5 : Int) (s0_6 : Int) (a1 : Int) (r1 : Int) (r2 : Int) (r3 : Int) (r4 : Int) (r5 : Int) (r6 : Int) (r7 : Int) (r8 : Int) (w0 w : World) (hI : IsS73 w0 w g s0_0 s0_1 s0_2 s0_3 s0_4 s0_5 s0_6) (hB : Below w0.heap.size w0 w) (h : tick_Counter_Of.f s0_0 s0_1 s0_2 s0_3 s0_4 s0_5 s0_6 a1 = some (r1, r2, r3, r4, r5, r6, r7, r8)) :
    Calls Try.prog 49 #[.pointer (some ⟨g, 0, none⟩), .int .i64 a1] w fun e w' => e = .returned (.int .i64 r1) ∧ IsS73 w0 w' g r2 r3 r4 r5 r6 r7 r8 ∧ Below w0.heap.size w0 w' ∧ KeepBut w w' g none := by
  unfold tick_Counter_Of.f at h
  simp only [Option.some.injEq, Prod.mk.injEq] at h
  obtain ⟨rfl, rfl, rfl, rfl, rfl, rfl, rfl, rfl⟩ := h
  unfold atp
  by_cases c0 : a1 = 0
  · subst c0; rw [if_pos rfl]; exact tick_Counter_Of.p0 g s0_0 s0_1 s0_2 s0_3 s0_4 s0_5 s0_6 w0 w hI hB
  by_cases c1 : a1 = 1
  · subst c1; rw [if_neg (by decide), if_pos rfl]; exact tick_Counter_Of.p1 g s0_0 s0_1 s0_2 s0_3 s0_4 s0_5 s0_6 w0 w hI hB
  by_cases c2 : a1 = 2
  · subst c2; rw [if_neg (by decide), if_neg (by decide), if_pos rfl]; exact tick_Counter_Of.p2 g s0_0 s0_1 s0_2 s0_3 s0_4 s0_5 s0_6 w0 w hI hB
  by_cases c3 : a1 = 3
  · subst c3; rw [if_neg (by decide), if_neg (by decide), if_neg (by decide), if_pos rfl]; exact tick_Counter_Of.p3 g s0_0 s0_1 s0_2 s0_3 s0_4 s0_5 s0_6 w0 w hI hB
  by_cases c4 : a1 = 4
  · subst c4; rw [if_neg (by decide), if_neg (by decide), if_neg (by decide), if_neg (by decide), if_pos rfl]; exact tick_Counter_Of.p4 g s0_0 s0_1 s0_2 s0_3 s0_4 s0_5 s0_6 w0 w hI hB
  by_cases c5 : a1 = 5
  · subst c5; rw [if_neg (by decide), if_neg (by decide), if_neg (by decide), if_neg (by decide), if_neg (by decide), if_pos rfl]; exact tick_Counter_Of.p5 g s0_0 s0_1 s0_2 s0_3 s0_4 s0_5 s0_6 w0 w hI hB
  by_cases c6 : a1 = 6
  · subst c6; rw [if_neg (by decide), if_neg (by decide), if_neg (by decide), if_neg (by decide), if_neg (by decide), if_neg (by decide), if_pos rfl]; exact tick_Counter_Of.p6 g s0_0 s0_1 s0_2 s0_3 s0_4 s0_5 s0_6 w0 w hI hB
  rw [if_neg c0, if_neg c1, if_neg c2, if_neg c3, if_neg c4, if_neg c5, if_neg c6]
  exact tick_Counter_Of.off g s0_0 s0_1 s0_2 s0_3 s0_4 s0_5 s0_6 a1 w0 w hI hB (by omega)

end Go.Proofs.Ytnabbhcagonlkaa.GTickCounts
