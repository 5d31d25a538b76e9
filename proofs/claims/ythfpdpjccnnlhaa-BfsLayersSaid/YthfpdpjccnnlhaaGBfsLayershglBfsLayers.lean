/- Written for this claim by gp.py, a program of this session's, over the kit's print. Lean checks it. -/
import Derived.Test.YthfpdpjccnnlhaaGBfsLayersx0
import Derived.Test.YthfpdpjccnnlhaaGBfsLayershhp1
import Derived.Test.YthfpdpjccnnlhaaGBfsLayershhp2
import Derived.Test.YthfpdpjccnnlhaaGBfsLayershgp
import Derived.Test.YthfpdpjccnnlhaaGBfsLayershg1
import Derived.Test.YthfpdpjccnnlhaaGBfsLayershg4
import Derived.Test.YthfpdpjccnnlhaaGBfsLayershg5
import Derived.Test.YthfpdpjccnnlhaaGBfsLayershhp3
import Derived.Test.YthfpdpjccnnlhaaGBfsLayershb1a
import Derived.Test.YthfpdpjccnnlhaaGBfsLayershb4
import Derived.WalkKit
import Derived.StillTailTactics
import Derived.Deep.LoopGhost
import Derived.KernelRfl
import Derived.Deep.OwnRows
import Derived.Laws.OwnMore
import Derived.Laws.MakeOwn
import Derived.Maps.AppendAt
import Derived.OrdersHeld
namespace Go.Proofs.Ythfpdpjccnnlhaa.GBfsLayers
open Go.RowKit Go.Proofs.YthfpdpjccnnlhaaW.PrintWords Go.Proofs.YthfpdpjccnnlhaaW.PrintLast Go.Proofs.YthfpdpjccnnlhaaW.PrintMore
attribute [local go_sem] max2_int min2_int max_two min_two max_three min_three max_four min_four   -- for this text's walks alone
set_option linter.unusedVariables false
set_option linter.unusedSimpArgs false

--import Derived.WalkKit
--import Derived.StillTailTactics
--import Derived.Deep.LoopGhost
--import Derived.KernelRfl
--import Derived.Deep.OwnRows
--import Derived.Laws.OwnMore
--import Derived.Laws.MakeOwn
--import Derived.Maps.AppendAt
--import Derived.OrdersHeld
attribute [local irreducible] wpStill wpList Code.wp TA

theorem layr_le2 (ds : List Int) (d : Int) : (layr ds d ds.length).length ≤ ds.length := layr_le ds d ds.length

theorem le_fold (l : List Int) (a : Int) : a ≤ l.foldl max a ∧ ∀ x ∈ l, x ≤ l.foldl max a := by
  induction l generalizing a with
  | nil => exact ⟨Int.le_refl _, fun x hx => nomatch hx⟩
  | cons y l ih =>
    rw [List.foldl_cons]
    have h := ih (max a y)
    refine ⟨by omega, fun x hx => ?_⟩
    rcases List.mem_cons.1 hx with rfl | hx
    · omega
    · exact h.2 x hx
theorem fold_le (l : List Int) (a b : Int) (ha : a ≤ b) (h : ∀ x ∈ l, x ≤ b) : l.foldl max a ≤ b := by
  induction l generalizing a with
  | nil => exact ha
  | cons y l ih => rw [List.foldl_cons]; exact ih _ (by have := h y (List.mem_cons_self ..); omega) (fun x hx => h x (List.mem_cons_of_mem _ hx))
theorem far_ge {ds : List Int} {w : Int} (h0 : 0 ≤ w) (h1 : w < ds.length) : rdI ds w ≤ farth ds := by
  unfold farth; exact (le_fold ds (-1)).2 _ (rdI_in h0 h1)
theorem far_lo (ds : List Int) : -1 ≤ farth ds := by unfold farth; exact (le_fold ds (-1)).1
theorem far_lt {N : Nat} {arcs : List (Int × Int)} {v : Int} {ds : List Int} (hF : Fine N arcs) (h : DS N arcs v ds) : farth ds < N := by
  have : farth ds ≤ (N : Int) - 1 := by
    unfold farth
    refine fold_le ds _ _ (by omega) (fun x hx => ?_)
    obtain ⟨i, hi, rfl⟩ := List.getElem_of_mem hx
    have hl := h.ld
    have h2 := lvl h.ld h.ze h.pr hF (w := (i : Int)) (by omega) (by omega)
    have h3 := rdI_eq (xs := ds) (i := (i : Int)) (by omega) (by omega)
    rw [Int.toNat_natCast, List.getElem?_eq_getElem hi] at h3
    rw [Option.some.inj h3]; omega
  omega
theorem lcnt_step {ds : List Int} {d : Int} (h : 0 ≤ d) : lcnt ds (d + 1) = lcnt ds d + (layr ds d ds.length).length := by
  unfold lcnt layr
  rw [List.length_map, ← List.countP_eq_length_filter]
  exact countP_two (fun w : Nat => rdI ds (w : Int)) d h _
theorem layr_in {ds : List Int} {d k : Int} (k0 : 0 ≤ k) (k1 : k < (layr ds d ds.length).length) : 0 ≤ rdI (layr ds d ds.length) k ∧ rdI (layr ds d ds.length) k < ds.length ∧ rdI ds (rdI (layr ds d ds.length) k) = d := by
  have hm := rdI_in k0 k1
  generalize rdI (layr ds d ds.length) k = x at hm ⊢
  unfold layr at hm
  simp only [List.mem_map, List.mem_filter, List.mem_range, decide_eq_true_eq] at hm
  obtain ⟨w, ⟨h1, h2⟩, rfl⟩ := hm
  exact ⟨by omega, by omega, h2⟩
theorem met_all {N : Nat} {arcs : List (Int × Int)} {v d : Int} {ds : List Int} (hF : Fine N arcs) (h : DS N arcs v ds) (h0 : 0 ≤ v) (h1 : v < N) (hd : farth ds < d) : (lcnt ds d : Int) = ((reach N arcs v).length : Int) := by
  rw [lcnt_reach hF h h0 h1 (fun w a b => by have := far_ge (ds := ds) a (by have := h.ld; omega); omega)]
theorem gx_swap_len (arcs : List (Int × Int)) : (arcs.map swap).length = arcs.length := List.length_map _

set_option maxRecDepth 100000 in
set_option maxHeartbeats 1000000 in
theorem BfsLayers_walk (n v : Int) (A : Option Addr) (c : Nat) (arcs : List (Int × Int)) (W : World) (hr : Rd W A (cf arcC arcs)) : Calls Try.prog 8 #[.int .i64 n, .slice A arcs.length c, .int .i64 v] W fun e W' => e = .returned (.bool true) ∧ St W (owns []) W' [] := by
  have HS : St W (owns []) W [] := St.start W _
  refine calls_enter ((.int .i64 n) :: (.slice A arcs.length c) :: (.int .i64 v) :: undef :: undef :: undef :: undef :: undef :: undef :: undef :: undef :: undef :: undef :: undef :: undef :: undef :: undef :: undef :: undef :: undef :: undef :: undef :: undef :: undef :: undef :: undef :: undef :: undef :: undef :: undef :: undef :: undef :: undef :: undef :: undef :: undef :: undef :: undef :: undef :: undef :: undef :: undef :: undef :: undef :: undef :: undef :: undef :: undef :: undef :: undef :: undef :: undef :: undef :: undef :: undef :: undef :: undef :: undef :: undef :: undef :: undef :: undef :: undef :: undef :: undef :: undef :: undef :: undef :: undef :: undef :: undef :: undef :: undef :: undef :: undef :: undef :: undef :: undef :: undef :: undef :: undef :: undef :: undef :: undef :: undef :: undef :: undef :: undef :: undef :: undef :: undef :: undef :: undef :: undef :: undef :: undef :: undef :: undef :: undef :: undef :: undef :: undef :: undef :: undef :: undef :: undef :: undef :: undef :: undef :: undef :: undef :: undef :: undef :: undef :: undef :: undef :: undef :: undef :: undef :: undef :: undef :: undef :: undef :: undef :: undef :: undef :: undef :: undef :: undef :: undef :: undef :: undef :: undef :: undef :: undef :: undef :: undef :: undef :: undef :: undef :: undef :: undef :: undef :: []) Try.func8 rfl (by kernel_rfl) ?_
  refine wp_seq ?_
  refine wp_region_lit ?_
  refine ql (.bool false) (by kernel_rfl) (by kernel_rfl) ?_
  refine wpList_nil ?_
  refine x_then ?_
  refine wp_seq ?_
  refine wp_seq ?_
  refine wp_region_lit ?_
  refine ql (.int .i64 n) (by kernel_rfl) (by kernel_rfl) ?_
  by_cases hc1 : n > (16 : Int)
  · skip
    refine ql (.bool true) (by kernel_rfl) (R_bool (p := n > (16 : Int)) (by kernel_rfl) (hc1)) ?_
    refine ql (.bool true) (by kernel_rfl) (by kernel_rfl) ?_
    refine qln (by kernel_rfl) ?_
    refine qln (by kernel_rfl) ?_
    refine qln (by kernel_rfl) ?_
    refine ql (.bool true) (by kernel_rfl) (by kernel_rfl) ?_
    refine wpList_nil ?_
    refine x_then ?_
    refine wp_cond_true (by kernel_rfl) ?_
    refine wp_seq ?_
    refine wp_region_lit ?_
    refine qc (f := 29) (args := #[]) (by kernel_rfl) (R_call #[] Try.func29 (by kernel_rfl) (by kernel_rfl) (by kernel_rfl)) ?_
    refine (awake13 _).mono ?_
    rintro e W2 ⟨rfl, H_⟩
    refine ⟨_, rfl, ?_⟩
    replace HS : St W (owns []) W2 [] := HS.join (F := []) (G := []) H_
    clear H_
    refine ql (.bool true) (by kernel_rfl) (by kernel_rfl) ?_
    refine wpList_nil ?_
    refine x_then ?_
    refine wp_ret ?_
    refine x_thenR ?_
    refine ret_ (.bool true) (by kernel_rfl) ?_
    exact ⟨rfl, HS.tail (F := [])⟩
  · skip
    refine ql (.bool false) (by kernel_rfl) (R_nbool (p := n > (16 : Int)) (by kernel_rfl) (hc1)) ?_
    refine ql (.bool false) (by kernel_rfl) (by kernel_rfl) ?_
    refine ql (.slice A arcs.length c) (by kernel_rfl) (by kernel_rfl) ?_
    refine ql (.int .i64 (arcs.length : Int)) (by kernel_rfl) (by kernel_rfl) ?_
    by_cases hc3 : (arcs.length : Int) > (40 : Int)
    · skip
      refine ql (.bool true) (by kernel_rfl) (R_bool (p := (arcs.length : Int) > (40 : Int)) (by kernel_rfl) (hc3)) ?_
      refine ql (.bool true) (by kernel_rfl) (by kernel_rfl) ?_
      refine wpList_nil ?_
      refine x_then ?_
      refine wp_cond_true (by kernel_rfl) ?_
      refine wp_seq ?_
      refine wp_region_lit ?_
      refine qc (f := 29) (args := #[]) (by kernel_rfl) (R_call #[] Try.func29 (by kernel_rfl) (by kernel_rfl) (by kernel_rfl)) ?_
      refine (awake13 _).mono ?_
      rintro e W4 ⟨rfl, H_⟩
      refine ⟨_, rfl, ?_⟩
      replace HS : St W (owns []) W4 [] := HS.join (F := []) (G := []) H_
      clear H_
      refine ql (.bool true) (by kernel_rfl) (by kernel_rfl) ?_
      refine wpList_nil ?_
      refine x_then ?_
      refine wp_ret ?_
      refine x_thenR ?_
      refine ret_ (.bool true) (by kernel_rfl) ?_
      exact ⟨rfl, HS.tail (F := [])⟩
    · skip
      refine ql (.bool false) (by kernel_rfl) (R_nbool (p := (arcs.length : Int) > (40 : Int)) (by kernel_rfl) (hc3)) ?_
      refine ql (.bool false) (by kernel_rfl) (by kernel_rfl) ?_
      refine wpList_nil ?_
      refine x_then ?_
      refine wp_cond_false (by kernel_rfl) ?_
      refine wp_skip ?_
      refine x_then ?_
      refine wp_seq ?_
      refine wp_region_lit ?_
      refine ql (.int .i64 n) (by kernel_rfl) (by kernel_rfl) ?_
      refine ql (.slice A arcs.length c) (by kernel_rfl) (by kernel_rfl) ?_
      refine qc (f := 13) (args := #[.int .i64 n, .slice A arcs.length c]) (by kernel_rfl) (R_call #[.int .i64 n, .slice A arcs.length c] Try.func13 (by kernel_rfl) (by kernel_rfl) (by kernel_rfl)) ?_
      refine (of_calls n _ _ arcs _ (hr.old0 HS) (by first | omega | (rw [List.length_map]; omega))).mono ?_
      rintro e W5 (⟨hc, g, N, rfl, rfl, H_, hG⟩ | ⟨hc, rfl, H_⟩)
      · refine ⟨_, rfl, ?_⟩
        replace HS : St W (owns []) W5 [] := HS.join (F := []) (G := []) H_
        clear H_
        have HB6 := HS
        replace hr := hr.below (HB6.kept.below owns_nil)
        clear HS
        have HS : St W5 (owns []) W5 [] := St.start _ _
        have hFF := hG.fine
        refine ql (.tuple #[.pointer (some ⟨g, 0, none⟩), .int .i64 0]) (by kernel_rfl) (by kernel_rfl) ?_
        refine ql (.pointer (some ⟨g, 0, none⟩)) (by kernel_rfl) (by kernel_rfl) ?_
        refine ql (.int .i64 0) (by kernel_rfl) (by kernel_rfl) ?_
        refine ql (.pointer (some ⟨g, 0, none⟩)) (by kernel_rfl) (by kernel_rfl) ?_
        refine ql (.int .i64 0) (by kernel_rfl) (by kernel_rfl) ?_
        refine wpList_nil ?_
        refine x_then ?_
        refine wp_seq ?_
        refine wp_seq ?_
        refine wp_region_lit ?_
        refine ql (.int .i64 0) (by kernel_rfl) (by kernel_rfl) ?_
        refine ql (.bool false) (by kernel_rfl) (R_beq (b := ((0 : Int) != 0)) (by kernel_rfl) (by decide)) ?_
        refine wpList_nil ?_
        refine x_then ?_
        refine wp_cond_false (by kernel_rfl) ?_
        refine wp_skip ?_
        refine x_then ?_
        refine wp_seq ?_
        refine wp_region_lit ?_
        refine ql (.pointer (some ⟨g, 0, none⟩)) (by kernel_rfl) (by kernel_rfl) ?_
        refine ql (.int .i64 v) (by kernel_rfl) (by kernel_rfl) ?_
        refine qc (f := 30) (args := #[.pointer (some ⟨g, 0, none⟩), .int .i64 v, .pointer none]) (by kernel_rfl) (R_call #[.pointer (some ⟨g, 0, none⟩), .int .i64 v, .pointer none] Try.func30 (by kernel_rfl) (by kernel_rfl) (by kernel_rfl)) ?_
        refine (fromT g N arcs v _ (hG.below (HS.kept.below owns_nil)) (by omega) (by omega)).mono ?_
        rintro e W11 ⟨t7, ds9, bs10, rfl, H_, hTh8, hDh8, hKh8⟩
        refine ⟨_, rfl, ?_⟩
        replace HS : St W5 (owns []) W11 [] := HS.join (F := []) (G := []) H_
        clear H_
        have HB12 := HS
        replace hr := hr.below (HB12.kept.below owns_nil)
        replace hG := hG.below (HB12.kept.below owns_nil)
        clear HS
        have HS : St W11 (owns []) W11 [] := St.start _ _
        refine ql (.pointer (some ⟨t7, 0, none⟩)) (by kernel_rfl) (by kernel_rfl) ?_
        refine wpList_nil ?_
        refine x_then ?_
        refine wp_seq ?_
        refine wp_seq ?_
        refine wp_region_lit ?_
        refine ql (.int .i64 0) (by kernel_rfl) (by kernel_rfl) ?_
        refine wpList_nil ?_
        refine x_then ?_
        refine wp_block ?_
        have hdl := hDh8.ld
        refine wp_loop_ghost (fun kq a' w' => ∃ (J13 : Nat → Value) (i : Int) , a' = Fr ((.int .i64 (N : Int)) :: (.slice A arcs.length c) :: (.int .i64 v) :: undef :: undef :: undef :: ((J13 6)) :: (.pointer (some ⟨g, 0, none⟩)) :: (.int .i64 0) :: (.pointer (some ⟨t7, 0, none⟩)) :: (.int .i64 i) :: undef :: undef :: undef :: undef :: undef :: undef :: (.int .i64 (N : Int)) :: (.bool false) :: (.bool false) :: (.slice A arcs.length c) :: (.int .i64 (arcs.length : Int)) :: (.bool false) :: (.bool false) :: undef :: (.tuple #[.pointer (some ⟨g, 0, none⟩), .int .i64 0]) :: (.int .i64 (N : Int)) :: (.slice A arcs.length c) :: (.tuple #[.pointer (some ⟨g, 0, none⟩), .int .i64 0]) :: (.pointer (some ⟨g, 0, none⟩)) :: (.int .i64 0) :: (.int .i64 0) :: (.bool false) :: undef :: (.pointer (some ⟨g, 0, none⟩)) :: (.int .i64 v) :: (.pointer (some ⟨t7, 0, none⟩)) :: ((J13 37)) :: ((J13 38)) :: ((J13 39)) :: ((J13 40)) :: ((J13 41)) :: ((J13 42)) :: ((J13 43)) :: ((J13 44)) :: ((J13 45)) :: ((J13 46)) :: ((J13 47)) :: ((J13 48)) :: ((J13 49)) :: ((J13 50)) :: ((J13 51)) :: ((J13 52)) :: ((J13 53)) :: ((J13 54)) :: ((J13 55)) :: ((J13 56)) :: ((J13 57)) :: ((J13 58)) :: ((J13 59)) :: ((J13 60)) :: ((J13 61)) :: ((J13 62)) :: ((J13 63)) :: ((J13 64)) :: ((J13 65)) :: ((J13 66)) :: ((J13 67)) :: ((J13 68)) :: ((J13 69)) :: ((J13 70)) :: ((J13 71)) :: ((J13 72)) :: ((J13 73)) :: ((J13 74)) :: ((J13 75)) :: ((J13 76)) :: ((J13 77)) :: ((J13 78)) :: undef :: undef :: undef :: undef :: undef :: undef :: undef :: undef :: undef :: undef :: undef :: undef :: undef :: undef :: undef :: undef :: undef :: undef :: undef :: undef :: undef :: undef :: undef :: undef :: undef :: undef :: undef :: undef :: undef :: undef :: undef :: undef :: undef :: undef :: undef :: undef :: undef :: undef :: undef :: undef :: undef :: undef :: undef :: undef :: undef :: undef :: undef :: undef :: undef :: undef :: undef :: undef :: undef :: undef :: undef :: undef :: undef :: undef :: undef :: undef :: undef :: undef :: undef :: undef :: []) ∧ kq = (arcs.length - (i).toNat) ∧ (0 ≤ i) ∧ (i ≤ arcs.length) ∧ St W11 (owns []) w' []) (arcs.length - ((0 : Int)).toNat) ⟨(fun k_ : Nat => List.getD ((.int .i64 (N : Int)) :: (.slice A arcs.length c) :: (.int .i64 v) :: undef :: undef :: undef :: (.bool false) :: (.pointer (some ⟨g, 0, none⟩)) :: (.int .i64 0) :: (.pointer (some ⟨t7, 0, none⟩)) :: (.int .i64 0) :: undef :: undef :: undef :: undef :: undef :: undef :: (.int .i64 (N : Int)) :: (.bool false) :: (.bool false) :: (.slice A arcs.length c) :: (.int .i64 (arcs.length : Int)) :: (.bool false) :: (.bool false) :: undef :: (.tuple #[.pointer (some ⟨g, 0, none⟩), .int .i64 0]) :: (.int .i64 (N : Int)) :: (.slice A arcs.length c) :: (.tuple #[.pointer (some ⟨g, 0, none⟩), .int .i64 0]) :: (.pointer (some ⟨g, 0, none⟩)) :: (.int .i64 0) :: (.int .i64 0) :: (.bool false) :: undef :: (.pointer (some ⟨g, 0, none⟩)) :: (.int .i64 v) :: (.pointer (some ⟨t7, 0, none⟩)) :: undef :: undef :: undef :: undef :: undef :: undef :: undef :: undef :: undef :: undef :: undef :: undef :: undef :: undef :: undef :: undef :: undef :: undef :: undef :: undef :: undef :: undef :: undef :: undef :: undef :: undef :: undef :: undef :: undef :: undef :: undef :: undef :: undef :: undef :: undef :: undef :: undef :: undef :: undef :: undef :: undef :: undef :: undef :: undef :: undef :: undef :: undef :: undef :: undef :: undef :: undef :: undef :: undef :: undef :: undef :: undef :: undef :: undef :: undef :: undef :: undef :: undef :: undef :: undef :: undef :: undef :: undef :: undef :: undef :: undef :: undef :: undef :: undef :: undef :: undef :: undef :: undef :: undef :: undef :: undef :: undef :: undef :: undef :: undef :: undef :: undef :: undef :: undef :: undef :: undef :: undef :: undef :: undef :: undef :: undef :: undef :: undef :: undef :: undef :: undef :: undef :: undef :: undef :: undef :: undef :: undef :: []) k_ undef), (0 : Int), congrArg Fr (by kernel_rfl), rfl, by omega, by omega, HS⟩ ?_
        clear HS
        intro kq14 a' W15 hrel
        obtain ⟨J13, i, rfl, hk, i0, i1, HS⟩ := hrel
        refine wp_seq ?_
        refine wp_seq ?_
        refine wp_region_lit ?_
        refine ql (.int .i64 i) (by kernel_rfl) (by kernel_rfl) ?_
        refine ql (.slice A arcs.length c) (by kernel_rfl) (by kernel_rfl) ?_
        refine ql (.int .i64 (arcs.length : Int)) (by kernel_rfl) (by kernel_rfl) ?_
        by_cases hc16 : i < (arcs.length : Int)
        · skip
          refine ql (.bool true) (by kernel_rfl) (R_bool (p := i < (arcs.length : Int)) (by kernel_rfl) (hc16)) ?_
          refine wpList_nil ?_
          refine x_then ?_
          refine wp_cond_true (by kernel_rfl) ?_
          refine wp_skip ?_
          refine x_then ?_
          refine wp_seq ?_
          refine wp_block ?_
          refine wp_seq ?_
          have hf := gx_fine hFF i0 (by omega)
          have har := hDh8.ar i i0 (by omega)
          have hlv := lvl hDh8.ld hDh8.ze hDh8.pr hFF hf.1 hf.2.1
          refine t_start HS (fun _ => False) 36 (by kernel_rfl) rfl ?_
          intro W17 H_ HD_
          clear HD_
          replace HS : St W11 (owns []) W17 [] := H_
          clear H_
          have HV := HS
          have HK := Kpt.refl (fun _ => False) W17
          refine t_q (n := 35) 0 (.pointer (some ⟨t7, 0, none⟩)) rfl (by kernel_rfl) (by kernel_rfl) (fun _ _ _ h => h) (fun w' hk => (by kernel_rfl)) HK ?_
          refine t_q (n := 34) 1 (.slice A arcs.length c) rfl (by kernel_rfl) (by kernel_rfl) (fun _ _ _ h => h) (fun w' hk => (by kernel_rfl)) HK ?_
          refine t_q (n := 33) 2 (.int .i64 i) rfl (by kernel_rfl) (by kernel_rfl) (fun _ _ _ h => h) (fun w' hk => (by kernel_rfl)) HK ?_
          obtain ⟨ad18, rfl⟩ := Rd.isSome_ hr (by rw [cf_len (z := 2) (fun _ => rfl)]; omega)
          refine t_q (n := 32) 3 (.pointer (some (ad18.add (i.toNat * 2)))) rfl (by kernel_rfl) (by kernel_rfl) (fun _ _ _ h => h) (fun w' hk => (R_indexA (k := .i64) (p := ad18) (n := arcs.length) (c := c) (i := i) (by kernel_rfl) (by kernel_rfl) Try.underlying22 (by kernel_rfl) (by omega) (by omega))) HK ?_
          refine t_q (n := 31) 4 (.pointer (some (ad18.add (i.toNat * 2)))) rfl (by kernel_rfl) (by kernel_rfl) (fun _ _ _ h => h) (fun w' hk => (by kernel_rfl)) HK ?_
          refine t_q (n := 30) 5 (.int .i64 ((gx arcs i).1)) rfl (by kernel_rfl) (by kernel_rfl) (fun _ _ _ h => h) (fun w' hk => (R_load (p := ad18.add (i.toNat * 2)) (by kernel_rfl) (by kernel_rfl) (by kernel_rfl) (hk.cell (HV.old0 (Rd.elem0 (f := arcC) (fun _ => rfl) hr (gx_eq (by omega) (by omega)) rfl))))) HK ?_
          refine t_c (n := 29) 6 (f := 31) (args := #[.pointer (some ⟨t7, 0, none⟩), .int .i64 ((gx arcs i).1)]) rfl (by kernel_rfl) (by kernel_rfl) (R_call #[.pointer (some ⟨t7, 0, none⟩), .int .i64 ((gx arcs i).1)] Try.func31 (by kernel_rfl) (by kernel_rfl) (by kernel_rfl)) ?_
          refine (tdist_y t7 ds9 bs10 _ (hTh8.below (HS.kept.below owns_nil)) ((gx arcs i).1) (by omega) (by have h_ := hDh8.ld; omega)).mono ?_
          rintro e W19 ⟨rfl, H_⟩
          refine ⟨_, rfl, HK.tr H_.kept.nil, ?_⟩
          replace HK := HK.tr H_.kept.nil
          replace HS : St W11 (owns []) W19 [] := HS.join (F := []) (G := []) H_
          clear H_
          by_cases hc20 : (rdI ds9 ((gx arcs i).1)) ≥ (0 : Int)
          · skip
            refine t_q (n := 28) 7 (.bool true) rfl (by kernel_rfl) (by kernel_rfl) (fun _ _ _ h => h) (fun w' hk => (R_bool (p := (rdI ds9 ((gx arcs i).1)) ≥ (0 : Int)) (by kernel_rfl) (hc20))) HK ?_
            refine t_q (n := 27) 8 (.bool true) rfl (by kernel_rfl) (by kernel_rfl) (fun _ _ _ h => h) (fun w' hk => (by kernel_rfl)) HK ?_
            refine t_q (n := 26) 9 (.pointer (some ⟨t7, 0, none⟩)) rfl (by kernel_rfl) (by kernel_rfl) (fun _ _ _ h => h) (fun w' hk => (by kernel_rfl)) HK ?_
            refine t_q (n := 25) 10 (.slice (some ad18) arcs.length c) rfl (by kernel_rfl) (by kernel_rfl) (fun _ _ _ h => h) (fun w' hk => (by kernel_rfl)) HK ?_
            refine t_q (n := 24) 11 (.int .i64 i) rfl (by kernel_rfl) (by kernel_rfl) (fun _ _ _ h => h) (fun w' hk => (by kernel_rfl)) HK ?_
            refine t_q (n := 23) 12 (.pointer (some (ad18.add (i.toNat * 2)))) rfl (by kernel_rfl) (by kernel_rfl) (fun _ _ _ h => h) (fun w' hk => (R_indexA (k := .i64) (p := ad18) (n := arcs.length) (c := c) (i := i) (by kernel_rfl) (by kernel_rfl) Try.underlying22 (by kernel_rfl) (by omega) (by omega))) HK ?_
            refine t_q (n := 22) 13 (.pointer (some ((ad18.add (i.toNat * 2)).add 1))) rfl (by kernel_rfl) (by kernel_rfl) (fun _ _ _ h => h) (fun w' hk => (by kernel_rfl)) HK ?_
            refine t_q (n := 21) 14 (.int .i64 ((gx arcs i).2)) rfl (by kernel_rfl) (by kernel_rfl) (fun _ _ _ h => h) (fun w' hk => (R_load (p := (ad18.add (i.toNat * 2)).add 1) (by kernel_rfl) (by kernel_rfl) (by kernel_rfl) (hk.cell (HV.old0 (Rd.elem1 (k := 1) (f := arcC) (fun _ => rfl) hr (gx_eq (by omega) (by omega)) rfl))))) HK ?_
            refine t_c (n := 20) 15 (f := 31) (args := #[.pointer (some ⟨t7, 0, none⟩), .int .i64 ((gx arcs i).2)]) rfl (by kernel_rfl) (by kernel_rfl) (R_call #[.pointer (some ⟨t7, 0, none⟩), .int .i64 ((gx arcs i).2)] Try.func31 (by kernel_rfl) (by kernel_rfl) (by kernel_rfl)) ?_
            refine (tdist_y t7 ds9 bs10 _ (hTh8.below (HS.kept.below owns_nil)) ((gx arcs i).2) (by omega) (by have h_ := hDh8.ld; omega)).mono ?_
            rintro e W21 ⟨rfl, H_⟩
            refine ⟨_, rfl, HK.tr H_.kept.nil, ?_⟩
            replace HK := HK.tr H_.kept.nil
            replace HS : St W11 (owns []) W21 [] := HS.join (F := []) (G := []) H_
            clear H_
            refine t_q (n := 19) 16 (.bool false) rfl (by kernel_rfl) (by kernel_rfl) (fun _ _ _ h => h) (fun w' hk => (R_nbool (p := (rdI ds9 ((gx arcs i).2)) < (0 : Int)) (by kernel_rfl) (by omega))) HK ?_
            refine t_q (n := 18) 17 (.bool false) rfl (by kernel_rfl) (by kernel_rfl) (fun _ _ _ h => h) (fun w' hk => (by kernel_rfl)) HK ?_
            refine t_q (n := 17) 18 (.pointer (some ⟨t7, 0, none⟩)) rfl (by kernel_rfl) (by kernel_rfl) (fun _ _ _ h => h) (fun w' hk => (by kernel_rfl)) HK ?_
            refine t_q (n := 16) 19 (.slice (some ad18) arcs.length c) rfl (by kernel_rfl) (by kernel_rfl) (fun _ _ _ h => h) (fun w' hk => (by kernel_rfl)) HK ?_
            refine t_q (n := 15) 20 (.int .i64 i) rfl (by kernel_rfl) (by kernel_rfl) (fun _ _ _ h => h) (fun w' hk => (by kernel_rfl)) HK ?_
            refine t_q (n := 14) 21 (.pointer (some (ad18.add (i.toNat * 2)))) rfl (by kernel_rfl) (by kernel_rfl) (fun _ _ _ h => h) (fun w' hk => (R_indexA (k := .i64) (p := ad18) (n := arcs.length) (c := c) (i := i) (by kernel_rfl) (by kernel_rfl) Try.underlying22 (by kernel_rfl) (by omega) (by omega))) HK ?_
            refine t_q (n := 13) 22 (.pointer (some ((ad18.add (i.toNat * 2)).add 1))) rfl (by kernel_rfl) (by kernel_rfl) (fun _ _ _ h => h) (fun w' hk => (by kernel_rfl)) HK ?_
            refine t_q (n := 12) 23 (.int .i64 ((gx arcs i).2)) rfl (by kernel_rfl) (by kernel_rfl) (fun _ _ _ h => h) (fun w' hk => (R_load (p := (ad18.add (i.toNat * 2)).add 1) (by kernel_rfl) (by kernel_rfl) (by kernel_rfl) (hk.cell (HV.old0 (Rd.elem1 (k := 1) (f := arcC) (fun _ => rfl) hr (gx_eq (by omega) (by omega)) rfl))))) HK ?_
            refine t_q (n := 11) 25 (.pointer (some ⟨t7, 0, none⟩)) rfl (by kernel_rfl) (by kernel_rfl) (fun _ _ _ h => h) (fun w' hk => (by kernel_rfl)) HK ?_
            refine t_q (n := 10) 26 (.slice (some ad18) arcs.length c) rfl (by kernel_rfl) (by kernel_rfl) (fun _ _ _ h => h) (fun w' hk => (by kernel_rfl)) HK ?_
            refine t_q (n := 9) 27 (.int .i64 i) rfl (by kernel_rfl) (by kernel_rfl) (fun _ _ _ h => h) (fun w' hk => (by kernel_rfl)) HK ?_
            refine t_q (n := 8) 28 (.pointer (some (ad18.add (i.toNat * 2)))) rfl (by kernel_rfl) (by kernel_rfl) (fun _ _ _ h => h) (fun w' hk => (R_indexA (k := .i64) (p := ad18) (n := arcs.length) (c := c) (i := i) (by kernel_rfl) (by kernel_rfl) Try.underlying22 (by kernel_rfl) (by omega) (by omega))) HK ?_
            refine t_q (n := 7) 29 (.pointer (some (ad18.add (i.toNat * 2)))) rfl (by kernel_rfl) (by kernel_rfl) (fun _ _ _ h => h) (fun w' hk => (by kernel_rfl)) HK ?_
            refine t_q (n := 6) 30 (.int .i64 ((gx arcs i).1)) rfl (by kernel_rfl) (by kernel_rfl) (fun _ _ _ h => h) (fun w' hk => (R_load (p := ad18.add (i.toNat * 2)) (by kernel_rfl) (by kernel_rfl) (by kernel_rfl) (hk.cell (HV.old0 (Rd.elem0 (f := arcC) (fun _ => rfl) hr (gx_eq (by omega) (by omega)) rfl))))) HK ?_
            refine t_c (n := 5) 24 (f := 31) (args := #[.pointer (some ⟨t7, 0, none⟩), .int .i64 ((gx arcs i).2)]) rfl (by kernel_rfl) (by kernel_rfl) (R_call #[.pointer (some ⟨t7, 0, none⟩), .int .i64 ((gx arcs i).2)] Try.func31 (by kernel_rfl) (by kernel_rfl) (by kernel_rfl)) ?_
            refine (tdist_y t7 ds9 bs10 _ (hTh8.below (HS.kept.below owns_nil)) ((gx arcs i).2) (by omega) (by have h_ := hDh8.ld; omega)).mono ?_
            rintro e W22 ⟨rfl, H_⟩
            refine ⟨_, rfl, HK.tr H_.kept.nil, ?_⟩
            replace HK := HK.tr H_.kept.nil
            replace HS : St W11 (owns []) W22 [] := HS.join (F := []) (G := []) H_
            clear H_
            refine t_c (n := 4) 31 (f := 31) (args := #[.pointer (some ⟨t7, 0, none⟩), .int .i64 ((gx arcs i).1)]) rfl (by kernel_rfl) (by kernel_rfl) (R_call #[.pointer (some ⟨t7, 0, none⟩), .int .i64 ((gx arcs i).1)] Try.func31 (by kernel_rfl) (by kernel_rfl) (by kernel_rfl)) ?_
            refine (tdist_y t7 ds9 bs10 _ (hTh8.below (HS.kept.below owns_nil)) ((gx arcs i).1) (by omega) (by have h_ := hDh8.ld; omega)).mono ?_
            rintro e W23 ⟨rfl, H_⟩
            refine ⟨_, rfl, HK.tr H_.kept.nil, ?_⟩
            replace HK := HK.tr H_.kept.nil
            replace HS : St W11 (owns []) W23 [] := HS.join (F := []) (G := []) H_
            clear H_
            refine t_q (n := 3) 32 (.int .i64 ((rdI ds9 ((gx arcs i).1)) + 1)) rfl (by kernel_rfl) (by kernel_rfl) (fun _ _ _ h => h) (fun w' hk => (R_int (by kernel_rfl) (w64 (by omega)))) HK ?_
            refine t_q (n := 2) 33 (.bool false) rfl (by kernel_rfl) (by kernel_rfl) (fun _ _ _ h => h) (fun w' hk => (R_nbool (p := (rdI ds9 ((gx arcs i).2)) > ((rdI ds9 ((gx arcs i).1)) + 1)) (by kernel_rfl) (by omega))) HK ?_
            refine t_q (n := 1) 34 (.bool false) rfl (by kernel_rfl) (by kernel_rfl) (fun _ _ _ h => h) (fun w' hk => (by kernel_rfl)) HK ?_
            refine t_q (n := 0) 35 (.bool false) rfl (by kernel_rfl) (by kernel_rfl) (fun _ _ _ h => h) (fun w' hk => (by kernel_rfl)) HK ?_
            refine t_done (by kernel_rfl) ?_
            clear HV HK
            refine x_then ?_
            refine wp_cond_false (by kernel_rfl) ?_
            refine wp_skip ?_
            refine x_inb ?_
            refine x_then ?_
            refine wp_region_lit ?_
            refine ql (.int .i64 i) (by kernel_rfl) (by kernel_rfl) ?_
            refine ql (.int .i64 (i + 1)) (by kernel_rfl) (R_int (by kernel_rfl) (w64 (by omega))) ?_
            refine ql (.int .i64 (i + 1)) (by kernel_rfl) (by kernel_rfl) ?_
            refine wpList_nil ?_
            refine x_then ?_
            exact ⟨arcs.length - (i + 1).toNat, by omega, (fun k_ : Nat => List.getD ((.int .i64 (N : Int)) :: (.slice (some ad18) arcs.length c) :: (.int .i64 v) :: undef :: undef :: undef :: ((J13 6)) :: (.pointer (some ⟨g, 0, none⟩)) :: (.int .i64 0) :: (.pointer (some ⟨t7, 0, none⟩)) :: (.int .i64 (i + 1)) :: undef :: undef :: undef :: undef :: undef :: undef :: (.int .i64 (N : Int)) :: (.bool false) :: (.bool false) :: (.slice (some ad18) arcs.length c) :: (.int .i64 (arcs.length : Int)) :: (.bool false) :: (.bool false) :: undef :: (.tuple #[.pointer (some ⟨g, 0, none⟩), .int .i64 0]) :: (.int .i64 (N : Int)) :: (.slice (some ad18) arcs.length c) :: (.tuple #[.pointer (some ⟨g, 0, none⟩), .int .i64 0]) :: (.pointer (some ⟨g, 0, none⟩)) :: (.int .i64 0) :: (.int .i64 0) :: (.bool false) :: undef :: (.pointer (some ⟨g, 0, none⟩)) :: (.int .i64 v) :: (.pointer (some ⟨t7, 0, none⟩)) :: (.int .i64 i) :: (.slice (some ad18) arcs.length c) :: (.int .i64 (arcs.length : Int)) :: (.bool true) :: (.int .i64 i) :: (.int .i64 (i + 1)) :: (.pointer (some ⟨t7, 0, none⟩)) :: (.slice (some ad18) arcs.length c) :: (.int .i64 i) :: (.pointer (some (ad18.add (i.toNat * 2)))) :: (.pointer (some (ad18.add (i.toNat * 2)))) :: (.int .i64 ((gx arcs i).1)) :: (.int .i64 (rdI ds9 ((gx arcs i).1))) :: (.bool true) :: (.bool true) :: (.pointer (some ⟨t7, 0, none⟩)) :: (.slice (some ad18) arcs.length c) :: (.int .i64 i) :: (.pointer (some (ad18.add (i.toNat * 2)))) :: (.pointer (some ((ad18.add (i.toNat * 2)).add 1))) :: (.int .i64 ((gx arcs i).2)) :: (.int .i64 (rdI ds9 ((gx arcs i).2))) :: (.bool false) :: (.bool false) :: (.pointer (some ⟨t7, 0, none⟩)) :: (.slice (some ad18) arcs.length c) :: (.int .i64 i) :: (.pointer (some (ad18.add (i.toNat * 2)))) :: (.pointer (some ((ad18.add (i.toNat * 2)).add 1))) :: (.int .i64 ((gx arcs i).2)) :: (.int .i64 (rdI ds9 ((gx arcs i).2))) :: (.pointer (some ⟨t7, 0, none⟩)) :: (.slice (some ad18) arcs.length c) :: (.int .i64 i) :: (.pointer (some (ad18.add (i.toNat * 2)))) :: (.pointer (some (ad18.add (i.toNat * 2)))) :: (.int .i64 ((gx arcs i).1)) :: (.int .i64 (rdI ds9 ((gx arcs i).1))) :: (.int .i64 ((rdI ds9 ((gx arcs i).1)) + 1)) :: (.bool false) :: (.bool false) :: (.bool false) :: undef :: undef :: undef :: undef :: undef :: undef :: undef :: undef :: undef :: undef :: undef :: undef :: undef :: undef :: undef :: undef :: undef :: undef :: undef :: undef :: undef :: undef :: undef :: undef :: undef :: undef :: undef :: undef :: undef :: undef :: undef :: undef :: undef :: undef :: undef :: undef :: undef :: undef :: undef :: undef :: undef :: undef :: undef :: undef :: undef :: undef :: undef :: undef :: undef :: undef :: undef :: undef :: undef :: undef :: undef :: undef :: undef :: undef :: undef :: undef :: undef :: undef :: undef :: undef :: []) k_ undef), i + 1, congrArg Fr (by kernel_rfl), rfl, by omega, by omega, HS⟩
          · skip
            refine t_q (n := 28) 7 (.bool false) rfl (by kernel_rfl) (by kernel_rfl) (fun _ _ _ h => h) (fun w' hk => (R_nbool (p := (rdI ds9 ((gx arcs i).1)) ≥ (0 : Int)) (by kernel_rfl) (hc20))) HK ?_
            refine t_q (n := 27) 8 (.bool false) rfl (by kernel_rfl) (by kernel_rfl) (fun _ _ _ h => h) (fun w' hk => (by kernel_rfl)) HK ?_
            refine t_qn (n := 26) 9 rfl (by kernel_rfl) (by kernel_rfl) (fun _ _ _ h => h) HK ?_
            refine t_qn (n := 25) 10 rfl (by kernel_rfl) (by kernel_rfl) (fun _ _ _ h => h) HK ?_
            refine t_qn (n := 24) 11 rfl (by kernel_rfl) (by kernel_rfl) (fun _ _ _ h => h) HK ?_
            refine t_qn (n := 23) 12 rfl (by kernel_rfl) (by kernel_rfl) (fun _ _ _ h => h) HK ?_
            refine t_qn (n := 22) 13 rfl (by kernel_rfl) (by kernel_rfl) (fun _ _ _ h => h) HK ?_
            refine t_qn (n := 21) 14 rfl (by kernel_rfl) (by kernel_rfl) (fun _ _ _ h => h) HK ?_
            refine t_qn (n := 20) 15 rfl (by kernel_rfl) (by kernel_rfl) (fun _ _ _ h => h) HK ?_
            refine t_qn (n := 19) 16 rfl (by kernel_rfl) (by kernel_rfl) (fun _ _ _ h => h) HK ?_
            refine t_qn (n := 18) 17 rfl (by kernel_rfl) (by kernel_rfl) (fun _ _ _ h => h) HK ?_
            refine t_qn (n := 17) 18 rfl (by kernel_rfl) (by kernel_rfl) (fun _ _ _ h => h) HK ?_
            refine t_qn (n := 16) 19 rfl (by kernel_rfl) (by kernel_rfl) (fun _ _ _ h => h) HK ?_
            refine t_qn (n := 15) 20 rfl (by kernel_rfl) (by kernel_rfl) (fun _ _ _ h => h) HK ?_
            refine t_qn (n := 14) 21 rfl (by kernel_rfl) (by kernel_rfl) (fun _ _ _ h => h) HK ?_
            refine t_qn (n := 13) 22 rfl (by kernel_rfl) (by kernel_rfl) (fun _ _ _ h => h) HK ?_
            refine t_qn (n := 12) 23 rfl (by kernel_rfl) (by kernel_rfl) (fun _ _ _ h => h) HK ?_
            refine t_qn (n := 11) 24 rfl (by kernel_rfl) (by kernel_rfl) (fun _ _ _ h => h) HK ?_
            refine t_qn (n := 10) 25 rfl (by kernel_rfl) (by kernel_rfl) (fun _ _ _ h => h) HK ?_
            refine t_qn (n := 9) 26 rfl (by kernel_rfl) (by kernel_rfl) (fun _ _ _ h => h) HK ?_
            refine t_qn (n := 8) 27 rfl (by kernel_rfl) (by kernel_rfl) (fun _ _ _ h => h) HK ?_
            refine t_qn (n := 7) 28 rfl (by kernel_rfl) (by kernel_rfl) (fun _ _ _ h => h) HK ?_
            refine t_qn (n := 6) 29 rfl (by kernel_rfl) (by kernel_rfl) (fun _ _ _ h => h) HK ?_
            refine t_qn (n := 5) 30 rfl (by kernel_rfl) (by kernel_rfl) (fun _ _ _ h => h) HK ?_
            refine t_qn (n := 4) 31 rfl (by kernel_rfl) (by kernel_rfl) (fun _ _ _ h => h) HK ?_
            refine t_qn (n := 3) 32 rfl (by kernel_rfl) (by kernel_rfl) (fun _ _ _ h => h) HK ?_
            refine t_qn (n := 2) 33 rfl (by kernel_rfl) (by kernel_rfl) (fun _ _ _ h => h) HK ?_
            refine t_qn (n := 1) 34 rfl (by kernel_rfl) (by kernel_rfl) (fun _ _ _ h => h) HK ?_
            refine t_q (n := 0) 35 (.bool false) rfl (by kernel_rfl) (by kernel_rfl) (fun _ _ _ h => h) (fun w' hk => (by kernel_rfl)) HK ?_
            refine t_done (by kernel_rfl) ?_
            clear HV HK
            refine x_then ?_
            refine wp_cond_false (by kernel_rfl) ?_
            refine wp_skip ?_
            refine x_inb ?_
            refine x_then ?_
            refine wp_region_lit ?_
            refine ql (.int .i64 i) (by kernel_rfl) (by kernel_rfl) ?_
            refine ql (.int .i64 (i + 1)) (by kernel_rfl) (R_int (by kernel_rfl) (w64 (by omega))) ?_
            refine ql (.int .i64 (i + 1)) (by kernel_rfl) (by kernel_rfl) ?_
            refine wpList_nil ?_
            refine x_then ?_
            exact ⟨arcs.length - (i + 1).toNat, by omega, (fun k_ : Nat => List.getD ((.int .i64 (N : Int)) :: (.slice (some ad18) arcs.length c) :: (.int .i64 v) :: undef :: undef :: undef :: ((J13 6)) :: (.pointer (some ⟨g, 0, none⟩)) :: (.int .i64 0) :: (.pointer (some ⟨t7, 0, none⟩)) :: (.int .i64 (i + 1)) :: undef :: undef :: undef :: undef :: undef :: undef :: (.int .i64 (N : Int)) :: (.bool false) :: (.bool false) :: (.slice (some ad18) arcs.length c) :: (.int .i64 (arcs.length : Int)) :: (.bool false) :: (.bool false) :: undef :: (.tuple #[.pointer (some ⟨g, 0, none⟩), .int .i64 0]) :: (.int .i64 (N : Int)) :: (.slice (some ad18) arcs.length c) :: (.tuple #[.pointer (some ⟨g, 0, none⟩), .int .i64 0]) :: (.pointer (some ⟨g, 0, none⟩)) :: (.int .i64 0) :: (.int .i64 0) :: (.bool false) :: undef :: (.pointer (some ⟨g, 0, none⟩)) :: (.int .i64 v) :: (.pointer (some ⟨t7, 0, none⟩)) :: (.int .i64 i) :: (.slice (some ad18) arcs.length c) :: (.int .i64 (arcs.length : Int)) :: (.bool true) :: (.int .i64 i) :: (.int .i64 (i + 1)) :: (.pointer (some ⟨t7, 0, none⟩)) :: (.slice (some ad18) arcs.length c) :: (.int .i64 i) :: (.pointer (some (ad18.add (i.toNat * 2)))) :: (.pointer (some (ad18.add (i.toNat * 2)))) :: (.int .i64 ((gx arcs i).1)) :: (.int .i64 (rdI ds9 ((gx arcs i).1))) :: (.bool false) :: (.bool false) :: undef :: undef :: undef :: undef :: undef :: undef :: undef :: undef :: undef :: undef :: undef :: undef :: undef :: undef :: undef :: undef :: undef :: undef :: undef :: undef :: undef :: undef :: undef :: undef :: undef :: undef :: (.bool false) :: undef :: undef :: undef :: undef :: undef :: undef :: undef :: undef :: undef :: undef :: undef :: undef :: undef :: undef :: undef :: undef :: undef :: undef :: undef :: undef :: undef :: undef :: undef :: undef :: undef :: undef :: undef :: undef :: undef :: undef :: undef :: undef :: undef :: undef :: undef :: undef :: undef :: undef :: undef :: undef :: undef :: undef :: undef :: undef :: undef :: undef :: undef :: undef :: undef :: undef :: undef :: undef :: undef :: undef :: undef :: undef :: undef :: undef :: undef :: undef :: undef :: undef :: undef :: undef :: []) k_ undef), i + 1, congrArg Fr (by kernel_rfl), rfl, by omega, by omega, HS⟩
        · skip
          refine ql (.bool false) (by kernel_rfl) (R_nbool (p := i < (arcs.length : Int)) (by kernel_rfl) (hc16)) ?_
          refine wpList_nil ?_
          refine x_then ?_
          refine wp_cond_false (by kernel_rfl) ?_
          refine wp_exit ?_
          refine x_thenE ?_
          refine x_thenE ?_
          refine x_hit ?_
          refine x_then ?_
          refine wp_seq ?_
          refine wp_region_lit ?_
          refine ql (.int .i64 0) (by kernel_rfl) (by kernel_rfl) ?_
          refine wpList_nil ?_
          refine x_then ?_
          refine wp_seq ?_
          refine wp_seq ?_
          refine wp_region_lit ?_
          refine ql (.int .i64 0) (by kernel_rfl) (by kernel_rfl) ?_
          refine wpList_nil ?_
          refine x_then ?_
          refine wp_block ?_
          have hfl := far_lo ds9
          have hft := far_lt hFF hDh8
          refine wp_loop_ghost (fun kq a' w' => ∃ (J24 : Nat → Value) (d : Int) (m : Int) , a' = Fr ((.int .i64 (N : Int)) :: (.slice A arcs.length c) :: (.int .i64 v) :: undef :: undef :: undef :: ((J24 6)) :: (.pointer (some ⟨g, 0, none⟩)) :: (.int .i64 0) :: (.pointer (some ⟨t7, 0, none⟩)) :: (.int .i64 i) :: (.int .i64 m) :: (.int .i64 d) :: ((J24 13)) :: ((J24 14)) :: ((J24 15)) :: ((J24 16)) :: (.int .i64 (N : Int)) :: (.bool false) :: (.bool false) :: (.slice A arcs.length c) :: (.int .i64 (arcs.length : Int)) :: (.bool false) :: (.bool false) :: undef :: (.tuple #[.pointer (some ⟨g, 0, none⟩), .int .i64 0]) :: (.int .i64 (N : Int)) :: (.slice A arcs.length c) :: (.tuple #[.pointer (some ⟨g, 0, none⟩), .int .i64 0]) :: (.pointer (some ⟨g, 0, none⟩)) :: (.int .i64 0) :: (.int .i64 0) :: (.bool false) :: undef :: (.pointer (some ⟨g, 0, none⟩)) :: (.int .i64 v) :: (.pointer (some ⟨t7, 0, none⟩)) :: (.int .i64 i) :: (.slice A arcs.length c) :: (.int .i64 (arcs.length : Int)) :: (.bool false) :: ((J13 41)) :: ((J13 42)) :: ((J13 43)) :: ((J13 44)) :: ((J13 45)) :: ((J13 46)) :: ((J13 47)) :: ((J13 48)) :: ((J13 49)) :: ((J13 50)) :: ((J13 51)) :: ((J13 52)) :: ((J13 53)) :: ((J13 54)) :: ((J13 55)) :: ((J13 56)) :: ((J13 57)) :: ((J13 58)) :: ((J13 59)) :: ((J13 60)) :: ((J13 61)) :: ((J13 62)) :: ((J13 63)) :: ((J13 64)) :: ((J13 65)) :: ((J13 66)) :: ((J13 67)) :: ((J13 68)) :: ((J13 69)) :: ((J13 70)) :: ((J13 71)) :: ((J13 72)) :: ((J13 73)) :: ((J13 74)) :: ((J13 75)) :: ((J13 76)) :: ((J13 77)) :: ((J13 78)) :: ((J24 79)) :: ((J24 80)) :: ((J24 81)) :: ((J24 82)) :: ((J24 83)) :: ((J24 84)) :: ((J24 85)) :: ((J24 86)) :: ((J24 87)) :: ((J24 88)) :: ((J24 89)) :: ((J24 90)) :: ((J24 91)) :: ((J24 92)) :: ((J24 93)) :: ((J24 94)) :: ((J24 95)) :: ((J24 96)) :: ((J24 97)) :: ((J24 98)) :: ((J24 99)) :: ((J24 100)) :: ((J24 101)) :: ((J24 102)) :: ((J24 103)) :: ((J24 104)) :: ((J24 105)) :: ((J24 106)) :: ((J24 107)) :: ((J24 108)) :: ((J24 109)) :: ((J24 110)) :: ((J24 111)) :: ((J24 112)) :: ((J24 113)) :: ((J24 114)) :: ((J24 115)) :: ((J24 116)) :: ((J24 117)) :: ((J24 118)) :: ((J24 119)) :: ((J24 120)) :: ((J24 121)) :: ((J24 122)) :: ((J24 123)) :: ((J24 124)) :: ((J24 125)) :: ((J24 126)) :: ((J24 127)) :: ((J24 128)) :: ((J24 129)) :: ((J24 130)) :: ((J24 131)) :: ((J24 132)) :: ((J24 133)) :: undef :: undef :: undef :: undef :: undef :: undef :: undef :: undef :: undef :: []) ∧ kq = ((farth ds9 + 1 - d).toNat) ∧ (0 ≤ d) ∧ (d ≤ farth ds9 + 1) ∧ (m = (lcnt ds9 d : Int)) ∧ St W11 (owns []) w' []) ((farth ds9 + 1 - (0 : Int)).toNat) ⟨(fun k_ : Nat => List.getD ((.int .i64 (N : Int)) :: (.slice A arcs.length c) :: (.int .i64 v) :: undef :: undef :: undef :: ((J13 6)) :: (.pointer (some ⟨g, 0, none⟩)) :: (.int .i64 0) :: (.pointer (some ⟨t7, 0, none⟩)) :: (.int .i64 i) :: (.int .i64 0) :: (.int .i64 0) :: undef :: undef :: undef :: undef :: (.int .i64 (N : Int)) :: (.bool false) :: (.bool false) :: (.slice A arcs.length c) :: (.int .i64 (arcs.length : Int)) :: (.bool false) :: (.bool false) :: undef :: (.tuple #[.pointer (some ⟨g, 0, none⟩), .int .i64 0]) :: (.int .i64 (N : Int)) :: (.slice A arcs.length c) :: (.tuple #[.pointer (some ⟨g, 0, none⟩), .int .i64 0]) :: (.pointer (some ⟨g, 0, none⟩)) :: (.int .i64 0) :: (.int .i64 0) :: (.bool false) :: undef :: (.pointer (some ⟨g, 0, none⟩)) :: (.int .i64 v) :: (.pointer (some ⟨t7, 0, none⟩)) :: (.int .i64 i) :: (.slice A arcs.length c) :: (.int .i64 (arcs.length : Int)) :: (.bool false) :: ((J13 41)) :: ((J13 42)) :: ((J13 43)) :: ((J13 44)) :: ((J13 45)) :: ((J13 46)) :: ((J13 47)) :: ((J13 48)) :: ((J13 49)) :: ((J13 50)) :: ((J13 51)) :: ((J13 52)) :: ((J13 53)) :: ((J13 54)) :: ((J13 55)) :: ((J13 56)) :: ((J13 57)) :: ((J13 58)) :: ((J13 59)) :: ((J13 60)) :: ((J13 61)) :: ((J13 62)) :: ((J13 63)) :: ((J13 64)) :: ((J13 65)) :: ((J13 66)) :: ((J13 67)) :: ((J13 68)) :: ((J13 69)) :: ((J13 70)) :: ((J13 71)) :: ((J13 72)) :: ((J13 73)) :: ((J13 74)) :: ((J13 75)) :: ((J13 76)) :: ((J13 77)) :: ((J13 78)) :: undef :: undef :: undef :: undef :: undef :: undef :: undef :: undef :: undef :: undef :: undef :: undef :: undef :: undef :: undef :: undef :: undef :: undef :: undef :: undef :: undef :: undef :: undef :: undef :: undef :: undef :: undef :: undef :: undef :: undef :: undef :: undef :: undef :: undef :: undef :: undef :: undef :: undef :: undef :: undef :: undef :: undef :: undef :: undef :: undef :: undef :: undef :: undef :: undef :: undef :: undef :: undef :: undef :: undef :: undef :: undef :: undef :: undef :: undef :: undef :: undef :: undef :: undef :: undef :: []) k_ undef), (0 : Int), (0 : Int), congrArg Fr (by kernel_rfl), rfl, by omega, by omega, by rw [lcnt_zero]; rfl, HS⟩ ?_
          clear HS
          intro kq25 a' W26 hrel
          obtain ⟨J24, d, m, rfl, hk, d0, d1, hm, HS⟩ := hrel
          have hml := lcnt_le ds9 d
          have hll := layr_le2 ds9 d
          refine wp_seq ?_
          refine wp_seq ?_
          refine wp_region_lit ?_
          refine ql (.int .i64 d) (by kernel_rfl) (by kernel_rfl) ?_
          refine ql (.pointer (some ⟨t7, 0, none⟩)) (by kernel_rfl) (by kernel_rfl) ?_
          refine qc (f := 32) (args := #[.pointer (some ⟨t7, 0, none⟩)]) (by kernel_rfl) (R_call #[.pointer (some ⟨t7, 0, none⟩)] Try.func32 (by kernel_rfl) (by kernel_rfl) (by kernel_rfl)) ?_
          refine (tfar_ t7 ds9 bs10 _ (hTh8.below (HS.kept.below owns_nil)) (by rw [hDh8.ld]; omega)).mono ?_
          rintro e W27 ⟨rfl, H_⟩
          refine ⟨_, rfl, ?_⟩
          replace HS : St W11 (owns []) W27 [] := HS.join (F := []) (G := []) H_
          clear H_
          by_cases hc28 : d ≤ (farth ds9)
          · skip
            refine ql (.bool true) (by kernel_rfl) (R_bool (p := d ≤ (farth ds9)) (by kernel_rfl) (hc28)) ?_
            refine wpList_nil ?_
            refine x_then ?_
            refine wp_cond_true (by kernel_rfl) ?_
            refine wp_skip ?_
            refine x_then ?_
            refine wp_seq ?_
            refine wp_block ?_
            refine wp_seq ?_
            refine wp_region_lit ?_
            refine ql (.pointer (some ⟨t7, 0, none⟩)) (by kernel_rfl) (by kernel_rfl) ?_
            refine ql (.int .i64 d) (by kernel_rfl) (by kernel_rfl) ?_
            refine qc (f := 36) (args := #[.pointer (some ⟨t7, 0, none⟩), .int .i64 d]) (by kernel_rfl) (R_call #[.pointer (some ⟨t7, 0, none⟩), .int .i64 d] Try.func36 (by kernel_rfl) (by kernel_rfl) (by kernel_rfl)) ?_
            refine (tlayer_y t7 ds9 bs10 _ (hTh8.below (HS.kept.below owns_nil)) d (by rw [hDh8.ld]; omega) (by omega)).mono ?_
            rintro e W31 ⟨A29, c30, rfl, H_⟩
            refine ⟨_, rfl, ?_⟩
            replace HS : St W11 (owns []) W31 [row A29 ((layr ds9 d ds9.length).length) c30 (ci .i64 (layr ds9 d ds9.length)) 3 1] := HS.join (F := []) (G := [row A29 ((layr ds9 d ds9.length).length) c30 (ci .i64 (layr ds9 d ds9.length)) 3 1]) H_
            clear H_
            refine ql (.slice A29 ((layr ds9 d ds9.length).length) c30) (by kernel_rfl) (by kernel_rfl) ?_
            refine wpList_nil ?_
            refine x_then ?_
            refine wp_seq ?_
            refine wp_region_lit ?_
            refine ql (.int .i64 m) (by kernel_rfl) (by kernel_rfl) ?_
            refine ql (.slice A29 ((layr ds9 d ds9.length).length) c30) (by kernel_rfl) (by kernel_rfl) ?_
            refine ql (.int .i64 ((layr ds9 d ds9.length).length : Int)) (by kernel_rfl) (by kernel_rfl) ?_
            refine ql (.int .i64 (m + ((layr ds9 d ds9.length).length : Int))) (by kernel_rfl) (R_int (by kernel_rfl) (w64 (by omega))) ?_
            refine ql (.int .i64 (m + ((layr ds9 d ds9.length).length : Int))) (by kernel_rfl) (by kernel_rfl) ?_
            refine wpList_nil ?_
            refine x_then ?_
            refine wp_seq ?_
            refine wp_region_lit ?_
            refine ql (.int .i64 0) (by kernel_rfl) (by kernel_rfl) ?_
            refine wpList_nil ?_
            refine x_then ?_
            refine wp_block ?_
            refine wp_loop_ghost (fun kq a' w' => ∃ (J32 : Nat → Value) (k : Int) , a' = Fr ((.int .i64 (N : Int)) :: (.slice A arcs.length c) :: (.int .i64 v) :: undef :: undef :: undef :: ((J32 6)) :: (.pointer (some ⟨g, 0, none⟩)) :: (.int .i64 0) :: (.pointer (some ⟨t7, 0, none⟩)) :: (.int .i64 i) :: (.int .i64 (m + ((layr ds9 d ds9.length).length : Int))) :: (.int .i64 d) :: (.slice A29 ((layr ds9 d ds9.length).length) c30) :: (.int .i64 k) :: ((J32 15)) :: ((J32 16)) :: (.int .i64 (N : Int)) :: (.bool false) :: (.bool false) :: (.slice A arcs.length c) :: (.int .i64 (arcs.length : Int)) :: (.bool false) :: (.bool false) :: undef :: (.tuple #[.pointer (some ⟨g, 0, none⟩), .int .i64 0]) :: (.int .i64 (N : Int)) :: (.slice A arcs.length c) :: (.tuple #[.pointer (some ⟨g, 0, none⟩), .int .i64 0]) :: (.pointer (some ⟨g, 0, none⟩)) :: (.int .i64 0) :: (.int .i64 0) :: (.bool false) :: undef :: (.pointer (some ⟨g, 0, none⟩)) :: (.int .i64 v) :: (.pointer (some ⟨t7, 0, none⟩)) :: (.int .i64 i) :: (.slice A arcs.length c) :: (.int .i64 (arcs.length : Int)) :: (.bool false) :: ((J13 41)) :: ((J13 42)) :: ((J13 43)) :: ((J13 44)) :: ((J13 45)) :: ((J13 46)) :: ((J13 47)) :: ((J13 48)) :: ((J13 49)) :: ((J13 50)) :: ((J13 51)) :: ((J13 52)) :: ((J13 53)) :: ((J13 54)) :: ((J13 55)) :: ((J13 56)) :: ((J13 57)) :: ((J13 58)) :: ((J13 59)) :: ((J13 60)) :: ((J13 61)) :: ((J13 62)) :: ((J13 63)) :: ((J13 64)) :: ((J13 65)) :: ((J13 66)) :: ((J13 67)) :: ((J13 68)) :: ((J13 69)) :: ((J13 70)) :: ((J13 71)) :: ((J13 72)) :: ((J13 73)) :: ((J13 74)) :: ((J13 75)) :: ((J13 76)) :: ((J13 77)) :: ((J13 78)) :: (.int .i64 d) :: (.pointer (some ⟨t7, 0, none⟩)) :: (.int .i64 (farth ds9)) :: (.bool true) :: ((J24 83)) :: ((J24 84)) :: (.pointer (some ⟨t7, 0, none⟩)) :: (.int .i64 d) :: (.slice A29 ((layr ds9 d ds9.length).length) c30) :: (.int .i64 m) :: (.slice A29 ((layr ds9 d ds9.length).length) c30) :: (.int .i64 ((layr ds9 d ds9.length).length : Int)) :: (.int .i64 (m + ((layr ds9 d ds9.length).length : Int))) :: ((J32 92)) :: ((J32 93)) :: ((J32 94)) :: ((J32 95)) :: ((J32 96)) :: ((J32 97)) :: ((J32 98)) :: ((J32 99)) :: ((J32 100)) :: ((J32 101)) :: ((J32 102)) :: ((J32 103)) :: ((J32 104)) :: ((J32 105)) :: ((J32 106)) :: ((J32 107)) :: ((J32 108)) :: ((J32 109)) :: ((J32 110)) :: ((J32 111)) :: ((J32 112)) :: ((J32 113)) :: ((J32 114)) :: ((J32 115)) :: ((J32 116)) :: ((J32 117)) :: ((J32 118)) :: ((J32 119)) :: ((J32 120)) :: ((J32 121)) :: ((J32 122)) :: ((J32 123)) :: ((J32 124)) :: ((J32 125)) :: ((J32 126)) :: ((J32 127)) :: ((J32 128)) :: ((J32 129)) :: ((J32 130)) :: ((J32 131)) :: ((J32 132)) :: ((J32 133)) :: undef :: undef :: undef :: undef :: undef :: undef :: undef :: undef :: undef :: []) ∧ kq = ((layr ds9 d ds9.length).length - (k).toNat) ∧ (0 ≤ k) ∧ (k ≤ (layr ds9 d ds9.length).length) ∧ St W11 (owns []) w' [row A29 ((layr ds9 d ds9.length).length) c30 (ci .i64 (layr ds9 d ds9.length)) 3 1]) ((layr ds9 d ds9.length).length - ((0 : Int)).toNat) ⟨(fun k_ : Nat => List.getD ((.int .i64 (N : Int)) :: (.slice A arcs.length c) :: (.int .i64 v) :: undef :: undef :: undef :: ((J24 6)) :: (.pointer (some ⟨g, 0, none⟩)) :: (.int .i64 0) :: (.pointer (some ⟨t7, 0, none⟩)) :: (.int .i64 i) :: (.int .i64 (m + ((layr ds9 d ds9.length).length : Int))) :: (.int .i64 d) :: (.slice A29 ((layr ds9 d ds9.length).length) c30) :: (.int .i64 0) :: ((J24 15)) :: ((J24 16)) :: (.int .i64 (N : Int)) :: (.bool false) :: (.bool false) :: (.slice A arcs.length c) :: (.int .i64 (arcs.length : Int)) :: (.bool false) :: (.bool false) :: undef :: (.tuple #[.pointer (some ⟨g, 0, none⟩), .int .i64 0]) :: (.int .i64 (N : Int)) :: (.slice A arcs.length c) :: (.tuple #[.pointer (some ⟨g, 0, none⟩), .int .i64 0]) :: (.pointer (some ⟨g, 0, none⟩)) :: (.int .i64 0) :: (.int .i64 0) :: (.bool false) :: undef :: (.pointer (some ⟨g, 0, none⟩)) :: (.int .i64 v) :: (.pointer (some ⟨t7, 0, none⟩)) :: (.int .i64 i) :: (.slice A arcs.length c) :: (.int .i64 (arcs.length : Int)) :: (.bool false) :: ((J13 41)) :: ((J13 42)) :: ((J13 43)) :: ((J13 44)) :: ((J13 45)) :: ((J13 46)) :: ((J13 47)) :: ((J13 48)) :: ((J13 49)) :: ((J13 50)) :: ((J13 51)) :: ((J13 52)) :: ((J13 53)) :: ((J13 54)) :: ((J13 55)) :: ((J13 56)) :: ((J13 57)) :: ((J13 58)) :: ((J13 59)) :: ((J13 60)) :: ((J13 61)) :: ((J13 62)) :: ((J13 63)) :: ((J13 64)) :: ((J13 65)) :: ((J13 66)) :: ((J13 67)) :: ((J13 68)) :: ((J13 69)) :: ((J13 70)) :: ((J13 71)) :: ((J13 72)) :: ((J13 73)) :: ((J13 74)) :: ((J13 75)) :: ((J13 76)) :: ((J13 77)) :: ((J13 78)) :: (.int .i64 d) :: (.pointer (some ⟨t7, 0, none⟩)) :: (.int .i64 (farth ds9)) :: (.bool true) :: ((J24 83)) :: ((J24 84)) :: (.pointer (some ⟨t7, 0, none⟩)) :: (.int .i64 d) :: (.slice A29 ((layr ds9 d ds9.length).length) c30) :: (.int .i64 m) :: (.slice A29 ((layr ds9 d ds9.length).length) c30) :: (.int .i64 ((layr ds9 d ds9.length).length : Int)) :: (.int .i64 (m + ((layr ds9 d ds9.length).length : Int))) :: ((J24 92)) :: ((J24 93)) :: ((J24 94)) :: ((J24 95)) :: ((J24 96)) :: ((J24 97)) :: ((J24 98)) :: ((J24 99)) :: ((J24 100)) :: ((J24 101)) :: ((J24 102)) :: ((J24 103)) :: ((J24 104)) :: ((J24 105)) :: ((J24 106)) :: ((J24 107)) :: ((J24 108)) :: ((J24 109)) :: ((J24 110)) :: ((J24 111)) :: ((J24 112)) :: ((J24 113)) :: ((J24 114)) :: ((J24 115)) :: ((J24 116)) :: ((J24 117)) :: ((J24 118)) :: ((J24 119)) :: ((J24 120)) :: ((J24 121)) :: ((J24 122)) :: ((J24 123)) :: ((J24 124)) :: ((J24 125)) :: ((J24 126)) :: ((J24 127)) :: ((J24 128)) :: ((J24 129)) :: ((J24 130)) :: ((J24 131)) :: ((J24 132)) :: ((J24 133)) :: undef :: undef :: undef :: undef :: undef :: undef :: undef :: undef :: undef :: []) k_ undef), (0 : Int), congrArg Fr (by kernel_rfl), rfl, by omega, by omega, HS⟩ ?_
            clear HS
            intro kq33 a' W34 hrel
            obtain ⟨J32, k, rfl, hk, k0, k1, HS⟩ := hrel
            refine wp_seq ?_
            refine wp_seq ?_
            refine wp_region_lit ?_
            refine ql (.int .i64 k) (by kernel_rfl) (by kernel_rfl) ?_
            refine ql (.slice A29 ((layr ds9 d ds9.length).length) c30) (by kernel_rfl) (by kernel_rfl) ?_
            refine ql (.int .i64 ((layr ds9 d ds9.length).length : Int)) (by kernel_rfl) (by kernel_rfl) ?_
            by_cases hc35 : k < ((layr ds9 d ds9.length).length : Int)
            · skip
              refine ql (.bool true) (by kernel_rfl) (R_bool (p := k < ((layr ds9 d ds9.length).length : Int)) (by kernel_rfl) (hc35)) ?_
              refine wpList_nil ?_
              refine x_then ?_
              refine wp_cond_true (by kernel_rfl) ?_
              refine wp_skip ?_
              refine x_then ?_
              refine wp_seq ?_
              refine wp_block ?_
              refine wp_seq ?_
              have hx := layr_in (ds := ds9) (d := d) k0 (by omega)
              have hxb := hKh8.bk (rdI (layr ds9 d ds9.length) k) hx.1 (by omega)
              have hxn := hKh8.no (rdI (layr ds9 d ds9.length) k) hx.1 (by omega)
              rw [hx.2.2] at hxb hxn
              have hya : 0 ≤ (rdI bs10 (rdI (layr ds9 d ds9.length) k)) → (rdI bs10 (rdI (layr ds9 d ds9.length) k)) < arcs.length → 0 ≤ (gx arcs (rdI bs10 (rdI (layr ds9 d ds9.length) k))).1 ∧ (gx arcs (rdI bs10 (rdI (layr ds9 d ds9.length) k))).1 < N := fun a b => ⟨(gx_fine hFF a b).1, (gx_fine hFF a b).2.1⟩
              refine wp_region_lit ?_
              refine ql (.pointer (some ⟨g, 0, none⟩)) (by kernel_rfl) (by kernel_rfl) ?_
              refine ql (.pointer (some ⟨t7, 0, none⟩)) (by kernel_rfl) (by kernel_rfl) ?_
              refine ql (.slice A29 ((layr ds9 d ds9.length).length) c30) (by kernel_rfl) (by kernel_rfl) ?_
              refine ql (.int .i64 k) (by kernel_rfl) (by kernel_rfl) ?_
              obtain ⟨g36, rfl⟩ := St.rsome HS (i := 0) rfl (by omega)
              refine ql (.pointer (some ⟨g36, k.toNat, none⟩)) (by kernel_rfl) (R_index1 (k := .i64) (g := g36) (n := ((layr ds9 d ds9.length).length)) (c := c30) (i := k) (by kernel_rfl) (by kernel_rfl) Try.underlying28 (by kernel_rfl) (by omega) (by omega)) ?_
              refine ql (.int .i64 (rdI (layr ds9 d ds9.length) k)) (by kernel_rfl) (R_load (p := ⟨g36, k.toNat, none⟩) (by kernel_rfl) (by kernel_rfl) (by kernel_rfl) (HS.rcell (i := 0) rfl (ci_rd (by omega) (by omega)))) ?_
              refine qc (f := 34) (args := #[.pointer (some ⟨t7, 0, none⟩), .int .i64 (rdI (layr ds9 d ds9.length) k)]) (by kernel_rfl) (R_call #[.pointer (some ⟨t7, 0, none⟩), .int .i64 (rdI (layr ds9 d ds9.length) k)] Try.func34 (by kernel_rfl) (by kernel_rfl) (by kernel_rfl)) ?_
              refine (tback_y t7 ds9 bs10 _ (hTh8.below (HS.kept.below owns_nil)) (rdI (layr ds9 d ds9.length) k) (by omega) (by have h_ := hDh8.ld; omega)).mono ?_
              rintro e W37 ⟨rfl, H_⟩
              refine ⟨_, rfl, ?_⟩
              replace HS : St W11 (owns []) W37 [row (some ⟨g36, 0, none⟩) ((layr ds9 d ds9.length).length) c30 (ci .i64 (layr ds9 d ds9.length)) 3 1] := HS.join (F := []) (G := []) H_
              clear H_
              refine qc (f := 22) (args := #[.pointer (some ⟨g, 0, none⟩), .int .i64 (rdI bs10 (rdI (layr ds9 d ds9.length) k))]) (by kernel_rfl) (R_call #[.pointer (some ⟨g, 0, none⟩), .int .i64 (rdI bs10 (rdI (layr ds9 d ds9.length) k))] Try.func22 (by kernel_rfl) (by kernel_rfl) (by kernel_rfl)) ?_
              refine (arc_some g N arcs _ (hG.below (HS.kept.below owns_nil)) (rdI bs10 (rdI (layr ds9 d ds9.length) k))).mono ?_
              rintro e W38 (⟨ha0, ha1, rfl, H_⟩ | ⟨han, rfl, H_⟩)
              · refine ⟨_, rfl, ?_⟩
                replace HS : St W11 (owns []) W38 [row (some ⟨g36, 0, none⟩) ((layr ds9 d ds9.length).length) c30 (ci .i64 (layr ds9 d ds9.length)) 3 1] := HS.join (F := []) (G := []) H_
                clear H_
                refine ql (.tuple #[.agg #[.int .i64 ((gx arcs (rdI bs10 (rdI (layr ds9 d ds9.length) k))).1), .int .i64 ((gx arcs (rdI bs10 (rdI (layr ds9 d ds9.length) k))).2)], .bool true]) (by kernel_rfl) (by kernel_rfl) ?_
                refine ql (.agg #[.int .i64 ((gx arcs (rdI bs10 (rdI (layr ds9 d ds9.length) k))).1), .int .i64 ((gx arcs (rdI bs10 (rdI (layr ds9 d ds9.length) k))).2)]) (by kernel_rfl) (by kernel_rfl) ?_
                refine ql (.bool true) (by kernel_rfl) (by kernel_rfl) ?_
                refine kb HS [.int .i64 0, .int .i64 0] 35 (fun g => .pointer (some ⟨g, 0, none⟩)) (by kernel_rfl) (by kernel_rfl) ?_
                intro g39 W40 H_
                replace HS : St W11 (owns []) W40 [blk g39 [.int .i64 0, .int .i64 0] 35, row (some ⟨g36, 0, none⟩) ((layr ds9 d ds9.length).length) c30 (ci .i64 (layr ds9 d ds9.length)) 3 1] := H_
                clear H_
                refine ks (v := .agg #[.int .i64 ((gx arcs (rdI bs10 (rdI (layr ds9 d ds9.length) k))).1), .int .i64 ((gx arcs (rdI bs10 (rdI (layr ds9 d ds9.length) k))).2)]) HS 0 rfl (0) [.int .i64 ((gx arcs (rdI bs10 (rdI (layr ds9 d ds9.length) k))).1), .int .i64 ((gx arcs (rdI bs10 (rdI (layr ds9 d ds9.length) k))).2)] (by kernel_rfl) (by kernel_rfl) (by kernel_rfl) (by kernel_rfl) (by kernel_rfl) (one_ (by kernel_rfl)) (Nat.le_of_ble_eq_true rfl) rfl ?_
                intro W41 H_
                replace HS : St W11 (owns []) W41 [blk g39 [.int .i64 ((gx arcs (rdI bs10 (rdI (layr ds9 d ds9.length) k))).1), .int .i64 ((gx arcs (rdI bs10 (rdI (layr ds9 d ds9.length) k))).2)] 35, row (some ⟨g36, 0, none⟩) ((layr ds9 d ds9.length).length) c30 (ci .i64 (layr ds9 d ds9.length)) 3 1] := H_
                clear H_
                refine ql (.bool true) (by kernel_rfl) (by kernel_rfl) ?_
                refine wpList_nil ?_
                refine x_then ?_
                refine wp_seq ?_
                refine t_start HS (fun _ => False) 25 (by kernel_rfl) rfl ?_
                intro W42 H_ HD_
                clear HD_
                replace HS : St W11 (owns []) W42 [blk g39 [.int .i64 ((gx arcs (rdI bs10 (rdI (layr ds9 d ds9.length) k))).1), .int .i64 ((gx arcs (rdI bs10 (rdI (layr ds9 d ds9.length) k))).2)] 35, row (some ⟨g36, 0, none⟩) ((layr ds9 d ds9.length).length) c30 (ci .i64 (layr ds9 d ds9.length)) 3 1] := H_
                clear H_
                have HV := HS
                have HK := Kpt.refl (fun _ => False) W42
                refine t_q (n := 24) 0 (.bool true) rfl (by kernel_rfl) (by kernel_rfl) (fun _ _ _ h => h) (fun w' hk => (by kernel_rfl)) HK ?_
                refine t_q (n := 23) 1 (.int .i64 d) rfl (by kernel_rfl) (by kernel_rfl) (fun _ _ _ h => h) (fun w' hk => (by kernel_rfl)) HK ?_
                refine t_q (n := 22) 2 (.bool true) rfl (by kernel_rfl) (by kernel_rfl) (fun _ _ _ h => h) (fun w' hk => (R_bool (p := d > (0 : Int)) (by kernel_rfl) (by omega))) HK ?_
                refine t_q (n := 21) 3 (.bool false) rfl (by kernel_rfl) (by kernel_rfl) (fun _ _ _ h => h) (fun w' hk => (by kernel_rfl)) HK ?_
                refine t_q (n := 20) 4 (.bool false) rfl (by kernel_rfl) (by kernel_rfl) (fun _ _ _ h => h) (fun w' hk => (by kernel_rfl)) HK ?_
                refine t_q (n := 19) 5 (.bool true) rfl (by kernel_rfl) (by kernel_rfl) (fun _ _ _ h => h) (fun w' hk => (by kernel_rfl)) HK ?_
                refine t_q (n := 18) 6 (.bool true) rfl (by kernel_rfl) (by kernel_rfl) (fun _ _ _ h => h) (fun w' hk => (by kernel_rfl)) HK ?_
                refine t_q (n := 17) 7 (.pointer (some ⟨g39, 1, none⟩)) rfl (by kernel_rfl) (by kernel_rfl) (fun _ _ _ h => h) (fun w' hk => (by kernel_rfl)) HK ?_
                refine t_q (n := 16) 8 (.int .i64 ((gx arcs (rdI bs10 (rdI (layr ds9 d ds9.length) k))).2)) rfl (by kernel_rfl) (by kernel_rfl) (fun _ _ _ h => h) (fun w' hk => (R_load (p := ⟨g39, 1, none⟩) (by kernel_rfl) (by kernel_rfl) (by kernel_rfl) (hk.cell (HV.cell (i := 0) (j := 1) rfl rfl)))) HK ?_
                refine t_q (n := 15) 9 (.slice (some ⟨g36, 0, none⟩) ((layr ds9 d ds9.length).length) c30) rfl (by kernel_rfl) (by kernel_rfl) (fun _ _ _ h => h) (fun w' hk => (by kernel_rfl)) HK ?_
                refine t_q (n := 14) 10 (.int .i64 k) rfl (by kernel_rfl) (by kernel_rfl) (fun _ _ _ h => h) (fun w' hk => (by kernel_rfl)) HK ?_
                refine t_q (n := 13) 11 (.pointer (some ⟨g36, k.toNat, none⟩)) rfl (by kernel_rfl) (by kernel_rfl) (fun _ _ _ h => h) (fun w' hk => (R_index1 (k := .i64) (g := g36) (n := ((layr ds9 d ds9.length).length)) (c := c30) (i := k) (by kernel_rfl) (by kernel_rfl) Try.underlying28 (by kernel_rfl) (by omega) (by omega))) HK ?_
                refine t_q (n := 12) 12 (.int .i64 (rdI (layr ds9 d ds9.length) k)) rfl (by kernel_rfl) (by kernel_rfl) (fun _ _ _ h => h) (fun w' hk => (R_load (p := ⟨g36, k.toNat, none⟩) (by kernel_rfl) (by kernel_rfl) (by kernel_rfl) (hk.cell (HV.rcell (i := 1) rfl (ci_rd (by omega) (by omega)))))) HK ?_
                refine t_q (n := 11) 13 (.bool false) rfl (by kernel_rfl) (by kernel_rfl) (fun _ _ _ h => h) (fun w' hk => (R_beq (b := ((gx arcs (rdI bs10 (rdI (layr ds9 d ds9.length) k))).2 != rdI (layr ds9 d ds9.length) k)) (by kernel_rfl) (bne_f (by have := hxb (by omega); omega)))) HK ?_
                refine t_q (n := 10) 14 (.bool false) rfl (by kernel_rfl) (by kernel_rfl) (fun _ _ _ h => h) (fun w' hk => (by kernel_rfl)) HK ?_
                refine t_q (n := 9) 15 (.pointer (some ⟨t7, 0, none⟩)) rfl (by kernel_rfl) (by kernel_rfl) (fun _ _ _ h => h) (fun w' hk => (by kernel_rfl)) HK ?_
                refine t_q (n := 8) 16 (.pointer (some ⟨g39, 0, none⟩)) rfl (by kernel_rfl) (by kernel_rfl) (fun _ _ _ h => h) (fun w' hk => (by kernel_rfl)) HK ?_
                refine t_q (n := 7) 17 (.int .i64 ((gx arcs (rdI bs10 (rdI (layr ds9 d ds9.length) k))).1)) rfl (by kernel_rfl) (by kernel_rfl) (fun _ _ _ h => h) (fun w' hk => (R_load (p := ⟨g39, 0, none⟩) (by kernel_rfl) (by kernel_rfl) (by kernel_rfl) (hk.cell (HV.cell (i := 0) (j := 0) rfl rfl)))) HK ?_
                refine t_q (n := 6) 19 (.int .i64 d) rfl (by kernel_rfl) (by kernel_rfl) (fun _ _ _ h => h) (fun w' hk => (by kernel_rfl)) HK ?_
                refine t_q (n := 5) 20 (.int .i64 (d - 1)) rfl (by kernel_rfl) (by kernel_rfl) (fun _ _ _ h => h) (fun w' hk => (R_int (by kernel_rfl) (w64 (by omega)))) HK ?_
                refine t_c (n := 4) 18 (f := 31) (args := #[.pointer (some ⟨t7, 0, none⟩), .int .i64 ((gx arcs (rdI bs10 (rdI (layr ds9 d ds9.length) k))).1)]) rfl (by kernel_rfl) (by kernel_rfl) (R_call #[.pointer (some ⟨t7, 0, none⟩), .int .i64 ((gx arcs (rdI bs10 (rdI (layr ds9 d ds9.length) k))).1)] Try.func31 (by kernel_rfl) (by kernel_rfl) (by kernel_rfl)) ?_
                refine (tdist_y t7 ds9 bs10 _ (hTh8.below (HS.kept.below owns_nil)) ((gx arcs (rdI bs10 (rdI (layr ds9 d ds9.length) k))).1) (by omega) (by have h_ := hDh8.ld; omega)).mono ?_
                rintro e W43 ⟨rfl, H_⟩
                refine ⟨_, rfl, HK.tr H_.kept.nil, ?_⟩
                replace HK := HK.tr H_.kept.nil
                replace HS : St W11 (owns []) W43 [blk g39 [.int .i64 ((gx arcs (rdI bs10 (rdI (layr ds9 d ds9.length) k))).1), .int .i64 ((gx arcs (rdI bs10 (rdI (layr ds9 d ds9.length) k))).2)] 35, row (some ⟨g36, 0, none⟩) ((layr ds9 d ds9.length).length) c30 (ci .i64 (layr ds9 d ds9.length)) 3 1] := HS.join (F := []) (G := []) H_
                clear H_
                refine t_q (n := 3) 21 (.bool false) rfl (by kernel_rfl) (by kernel_rfl) (fun _ _ _ h => h) (fun w' hk => (R_beq (b := (rdI ds9 ((gx arcs (rdI bs10 (rdI (layr ds9 d ds9.length) k))).1) != d - 1)) (by kernel_rfl) (bne_f (by have := hxb (by omega); omega)))) HK ?_
                refine t_q (n := 2) 22 (.bool false) rfl (by kernel_rfl) (by kernel_rfl) (fun _ _ _ h => h) (fun w' hk => (by kernel_rfl)) HK ?_
                refine t_q (n := 1) 23 (.bool false) rfl (by kernel_rfl) (by kernel_rfl) (fun _ _ _ h => h) (fun w' hk => (by kernel_rfl)) HK ?_
                refine t_q (n := 0) 24 (.bool false) rfl (by kernel_rfl) (by kernel_rfl) (fun _ _ _ h => h) (fun w' hk => (by kernel_rfl)) HK ?_
                refine t_done (by kernel_rfl) ?_
                clear HV HK
                refine x_then ?_
                refine wp_cond_false (by kernel_rfl) ?_
                refine wp_skip ?_
                refine x_inb ?_
                refine x_then ?_
                refine wp_region_lit ?_
                refine ql (.int .i64 k) (by kernel_rfl) (by kernel_rfl) ?_
                refine ql (.int .i64 (k + 1)) (by kernel_rfl) (R_int (by kernel_rfl) (w64 (by omega))) ?_
                refine ql (.int .i64 (k + 1)) (by kernel_rfl) (by kernel_rfl) ?_
                refine wpList_nil ?_
                replace HS := HS.drop1
                refine x_then ?_
                exact ⟨(layr ds9 d ds9.length).length - (k + 1).toNat, by omega, (fun k_ : Nat => List.getD ((.int .i64 (N : Int)) :: (.slice A arcs.length c) :: (.int .i64 v) :: undef :: undef :: undef :: ((J32 6)) :: (.pointer (some ⟨g, 0, none⟩)) :: (.int .i64 0) :: (.pointer (some ⟨t7, 0, none⟩)) :: (.int .i64 i) :: (.int .i64 (m + ((layr ds9 d ds9.length).length : Int))) :: (.int .i64 d) :: (.slice (some ⟨g36, 0, none⟩) ((layr ds9 d ds9.length).length) c30) :: (.int .i64 (k + 1)) :: (.pointer (some ⟨g39, 0, none⟩)) :: (.bool true) :: (.int .i64 (N : Int)) :: (.bool false) :: (.bool false) :: (.slice A arcs.length c) :: (.int .i64 (arcs.length : Int)) :: (.bool false) :: (.bool false) :: undef :: (.tuple #[.pointer (some ⟨g, 0, none⟩), .int .i64 0]) :: (.int .i64 (N : Int)) :: (.slice A arcs.length c) :: (.tuple #[.pointer (some ⟨g, 0, none⟩), .int .i64 0]) :: (.pointer (some ⟨g, 0, none⟩)) :: (.int .i64 0) :: (.int .i64 0) :: (.bool false) :: undef :: (.pointer (some ⟨g, 0, none⟩)) :: (.int .i64 v) :: (.pointer (some ⟨t7, 0, none⟩)) :: (.int .i64 i) :: (.slice A arcs.length c) :: (.int .i64 (arcs.length : Int)) :: (.bool false) :: ((J13 41)) :: ((J13 42)) :: ((J13 43)) :: ((J13 44)) :: ((J13 45)) :: ((J13 46)) :: ((J13 47)) :: ((J13 48)) :: ((J13 49)) :: ((J13 50)) :: ((J13 51)) :: ((J13 52)) :: ((J13 53)) :: ((J13 54)) :: ((J13 55)) :: ((J13 56)) :: ((J13 57)) :: ((J13 58)) :: ((J13 59)) :: ((J13 60)) :: ((J13 61)) :: ((J13 62)) :: ((J13 63)) :: ((J13 64)) :: ((J13 65)) :: ((J13 66)) :: ((J13 67)) :: ((J13 68)) :: ((J13 69)) :: ((J13 70)) :: ((J13 71)) :: ((J13 72)) :: ((J13 73)) :: ((J13 74)) :: ((J13 75)) :: ((J13 76)) :: ((J13 77)) :: ((J13 78)) :: (.int .i64 d) :: (.pointer (some ⟨t7, 0, none⟩)) :: (.int .i64 (farth ds9)) :: (.bool true) :: ((J24 83)) :: ((J24 84)) :: (.pointer (some ⟨t7, 0, none⟩)) :: (.int .i64 d) :: (.slice (some ⟨g36, 0, none⟩) ((layr ds9 d ds9.length).length) c30) :: (.int .i64 m) :: (.slice (some ⟨g36, 0, none⟩) ((layr ds9 d ds9.length).length) c30) :: (.int .i64 ((layr ds9 d ds9.length).length : Int)) :: (.int .i64 (m + ((layr ds9 d ds9.length).length : Int))) :: (.int .i64 k) :: (.slice (some ⟨g36, 0, none⟩) ((layr ds9 d ds9.length).length) c30) :: (.int .i64 ((layr ds9 d ds9.length).length : Int)) :: (.bool true) :: (.int .i64 k) :: (.int .i64 (k + 1)) :: (.tuple #[.agg #[.int .i64 ((gx arcs (rdI bs10 (rdI (layr ds9 d ds9.length) k))).1), .int .i64 ((gx arcs (rdI bs10 (rdI (layr ds9 d ds9.length) k))).2)], .bool true]) :: (.pointer (some ⟨g, 0, none⟩)) :: (.pointer (some ⟨t7, 0, none⟩)) :: (.slice (some ⟨g36, 0, none⟩) ((layr ds9 d ds9.length).length) c30) :: (.int .i64 k) :: (.pointer (some ⟨g36, k.toNat, none⟩)) :: (.int .i64 (rdI (layr ds9 d ds9.length) k)) :: (.int .i64 (rdI bs10 (rdI (layr ds9 d ds9.length) k))) :: (.tuple #[.agg #[.int .i64 ((gx arcs (rdI bs10 (rdI (layr ds9 d ds9.length) k))).1), .int .i64 ((gx arcs (rdI bs10 (rdI (layr ds9 d ds9.length) k))).2)], .bool true]) :: (.agg #[.int .i64 ((gx arcs (rdI bs10 (rdI (layr ds9 d ds9.length) k))).1), .int .i64 ((gx arcs (rdI bs10 (rdI (layr ds9 d ds9.length) k))).2)]) :: (.bool true) :: (.bool true) :: (.int .i64 d) :: (.bool true) :: (.bool false) :: (.bool false) :: (.bool true) :: (.bool true) :: (.pointer (some ⟨g39, 1, none⟩)) :: (.int .i64 ((gx arcs (rdI bs10 (rdI (layr ds9 d ds9.length) k))).2)) :: (.slice (some ⟨g36, 0, none⟩) ((layr ds9 d ds9.length).length) c30) :: (.int .i64 k) :: (.pointer (some ⟨g36, k.toNat, none⟩)) :: (.int .i64 (rdI (layr ds9 d ds9.length) k)) :: (.bool false) :: (.bool false) :: (.pointer (some ⟨t7, 0, none⟩)) :: (.pointer (some ⟨g39, 0, none⟩)) :: (.int .i64 ((gx arcs (rdI bs10 (rdI (layr ds9 d ds9.length) k))).1)) :: (.int .i64 (rdI ds9 ((gx arcs (rdI bs10 (rdI (layr ds9 d ds9.length) k))).1))) :: (.int .i64 d) :: (.int .i64 (d - 1)) :: (.bool false) :: (.bool false) :: (.bool false) :: (.bool false) :: undef :: undef :: undef :: undef :: undef :: undef :: undef :: undef :: undef :: []) k_ undef), k + 1, congrArg Fr (by kernel_rfl), rfl, by omega, by omega, HS⟩
              · refine ⟨_, rfl, ?_⟩
                replace HS : St W11 (owns []) W38 [row (some ⟨g36, 0, none⟩) ((layr ds9 d ds9.length).length) c30 (ci .i64 (layr ds9 d ds9.length)) 3 1] := HS.join (F := []) (G := []) H_
                clear H_
                refine ql (.tuple #[.agg #[.int .i64 0, .int .i64 0], .bool false]) (by kernel_rfl) (by kernel_rfl) ?_
                refine ql (.agg #[.int .i64 0, .int .i64 0]) (by kernel_rfl) (by kernel_rfl) ?_
                refine ql (.bool false) (by kernel_rfl) (by kernel_rfl) ?_
                refine kb HS [.int .i64 0, .int .i64 0] 35 (fun g => .pointer (some ⟨g, 0, none⟩)) (by kernel_rfl) (by kernel_rfl) ?_
                intro g44 W45 H_
                replace HS : St W11 (owns []) W45 [blk g44 [.int .i64 0, .int .i64 0] 35, row (some ⟨g36, 0, none⟩) ((layr ds9 d ds9.length).length) c30 (ci .i64 (layr ds9 d ds9.length)) 3 1] := H_
                clear H_
                refine ks (v := .agg #[.int .i64 0, .int .i64 0]) HS 0 rfl (0) [.int .i64 0, .int .i64 0] (by kernel_rfl) (by kernel_rfl) (by kernel_rfl) (by kernel_rfl) (by kernel_rfl) (one_ (by kernel_rfl)) (Nat.le_of_ble_eq_true rfl) rfl ?_
                intro W46 H_
                replace HS : St W11 (owns []) W46 [blk g44 [.int .i64 0, .int .i64 0] 35, row (some ⟨g36, 0, none⟩) ((layr ds9 d ds9.length).length) c30 (ci .i64 (layr ds9 d ds9.length)) 3 1] := H_
                clear H_
                refine ql (.bool false) (by kernel_rfl) (by kernel_rfl) ?_
                refine wpList_nil ?_
                refine x_then ?_
                refine wp_seq ?_
                refine t_start HS (fun _ => False) 25 (by kernel_rfl) rfl ?_
                intro W47 H_ HD_
                clear HD_
                replace HS : St W11 (owns []) W47 [blk g44 [.int .i64 0, .int .i64 0] 35, row (some ⟨g36, 0, none⟩) ((layr ds9 d ds9.length).length) c30 (ci .i64 (layr ds9 d ds9.length)) 3 1] := H_
                clear H_
                have HV := HS
                have HK := Kpt.refl (fun _ => False) W47
                refine t_q (n := 24) 0 (.bool false) rfl (by kernel_rfl) (by kernel_rfl) (fun _ _ _ h => h) (fun w' hk => (by kernel_rfl)) HK ?_
                refine t_q (n := 23) 1 (.int .i64 d) rfl (by kernel_rfl) (by kernel_rfl) (fun _ _ _ h => h) (fun w' hk => (by kernel_rfl)) HK ?_
                refine t_q (n := 22) 2 (.bool false) rfl (by kernel_rfl) (by kernel_rfl) (fun _ _ _ h => h) (fun w' hk => (R_nbool (p := d > (0 : Int)) (by kernel_rfl) (by omega))) HK ?_
                refine t_q (n := 21) 3 (.bool false) rfl (by kernel_rfl) (by kernel_rfl) (fun _ _ _ h => h) (fun w' hk => (by kernel_rfl)) HK ?_
                refine t_q (n := 20) 4 (.bool false) rfl (by kernel_rfl) (by kernel_rfl) (fun _ _ _ h => h) (fun w' hk => (by kernel_rfl)) HK ?_
                refine t_q (n := 19) 5 (.bool false) rfl (by kernel_rfl) (by kernel_rfl) (fun _ _ _ h => h) (fun w' hk => (by kernel_rfl)) HK ?_
                refine t_q (n := 18) 6 (.bool false) rfl (by kernel_rfl) (by kernel_rfl) (fun _ _ _ h => h) (fun w' hk => (by kernel_rfl)) HK ?_
                refine t_qn (n := 17) 7 rfl (by kernel_rfl) (by kernel_rfl) (fun _ _ _ h => h) HK ?_
                refine t_qn (n := 16) 8 rfl (by kernel_rfl) (by kernel_rfl) (fun _ _ _ h => h) HK ?_
                refine t_qn (n := 15) 9 rfl (by kernel_rfl) (by kernel_rfl) (fun _ _ _ h => h) HK ?_
                refine t_qn (n := 14) 10 rfl (by kernel_rfl) (by kernel_rfl) (fun _ _ _ h => h) HK ?_
                refine t_qn (n := 13) 11 rfl (by kernel_rfl) (by kernel_rfl) (fun _ _ _ h => h) HK ?_
                refine t_qn (n := 12) 12 rfl (by kernel_rfl) (by kernel_rfl) (fun _ _ _ h => h) HK ?_
                refine t_qn (n := 11) 13 rfl (by kernel_rfl) (by kernel_rfl) (fun _ _ _ h => h) HK ?_
                refine t_qn (n := 10) 14 rfl (by kernel_rfl) (by kernel_rfl) (fun _ _ _ h => h) HK ?_
                refine t_qn (n := 9) 15 rfl (by kernel_rfl) (by kernel_rfl) (fun _ _ _ h => h) HK ?_
                refine t_qn (n := 8) 16 rfl (by kernel_rfl) (by kernel_rfl) (fun _ _ _ h => h) HK ?_
                refine t_qn (n := 7) 17 rfl (by kernel_rfl) (by kernel_rfl) (fun _ _ _ h => h) HK ?_
                refine t_qn (n := 6) 18 rfl (by kernel_rfl) (by kernel_rfl) (fun _ _ _ h => h) HK ?_
                refine t_qn (n := 5) 19 rfl (by kernel_rfl) (by kernel_rfl) (fun _ _ _ h => h) HK ?_
                refine t_qn (n := 4) 20 rfl (by kernel_rfl) (by kernel_rfl) (fun _ _ _ h => h) HK ?_
                refine t_qn (n := 3) 21 rfl (by kernel_rfl) (by kernel_rfl) (fun _ _ _ h => h) HK ?_
                refine t_qn (n := 2) 22 rfl (by kernel_rfl) (by kernel_rfl) (fun _ _ _ h => h) HK ?_
                refine t_q (n := 1) 23 (.bool false) rfl (by kernel_rfl) (by kernel_rfl) (fun _ _ _ h => h) (fun w' hk => (by kernel_rfl)) HK ?_
                refine t_q (n := 0) 24 (.bool false) rfl (by kernel_rfl) (by kernel_rfl) (fun _ _ _ h => h) (fun w' hk => (by kernel_rfl)) HK ?_
                refine t_done (by kernel_rfl) ?_
                clear HV HK
                refine x_then ?_
                refine wp_cond_false (by kernel_rfl) ?_
                refine wp_skip ?_
                refine x_inb ?_
                refine x_then ?_
                refine wp_region_lit ?_
                refine ql (.int .i64 k) (by kernel_rfl) (by kernel_rfl) ?_
                refine ql (.int .i64 (k + 1)) (by kernel_rfl) (R_int (by kernel_rfl) (w64 (by omega))) ?_
                refine ql (.int .i64 (k + 1)) (by kernel_rfl) (by kernel_rfl) ?_
                refine wpList_nil ?_
                replace HS := HS.drop1
                refine x_then ?_
                exact ⟨(layr ds9 d ds9.length).length - (k + 1).toNat, by omega, (fun k_ : Nat => List.getD ((.int .i64 (N : Int)) :: (.slice A arcs.length c) :: (.int .i64 v) :: undef :: undef :: undef :: ((J32 6)) :: (.pointer (some ⟨g, 0, none⟩)) :: (.int .i64 0) :: (.pointer (some ⟨t7, 0, none⟩)) :: (.int .i64 i) :: (.int .i64 (m + ((layr ds9 d ds9.length).length : Int))) :: (.int .i64 d) :: (.slice (some ⟨g36, 0, none⟩) ((layr ds9 d ds9.length).length) c30) :: (.int .i64 (k + 1)) :: (.pointer (some ⟨g44, 0, none⟩)) :: (.bool false) :: (.int .i64 (N : Int)) :: (.bool false) :: (.bool false) :: (.slice A arcs.length c) :: (.int .i64 (arcs.length : Int)) :: (.bool false) :: (.bool false) :: undef :: (.tuple #[.pointer (some ⟨g, 0, none⟩), .int .i64 0]) :: (.int .i64 (N : Int)) :: (.slice A arcs.length c) :: (.tuple #[.pointer (some ⟨g, 0, none⟩), .int .i64 0]) :: (.pointer (some ⟨g, 0, none⟩)) :: (.int .i64 0) :: (.int .i64 0) :: (.bool false) :: undef :: (.pointer (some ⟨g, 0, none⟩)) :: (.int .i64 v) :: (.pointer (some ⟨t7, 0, none⟩)) :: (.int .i64 i) :: (.slice A arcs.length c) :: (.int .i64 (arcs.length : Int)) :: (.bool false) :: ((J13 41)) :: ((J13 42)) :: ((J13 43)) :: ((J13 44)) :: ((J13 45)) :: ((J13 46)) :: ((J13 47)) :: ((J13 48)) :: ((J13 49)) :: ((J13 50)) :: ((J13 51)) :: ((J13 52)) :: ((J13 53)) :: ((J13 54)) :: ((J13 55)) :: ((J13 56)) :: ((J13 57)) :: ((J13 58)) :: ((J13 59)) :: ((J13 60)) :: ((J13 61)) :: ((J13 62)) :: ((J13 63)) :: ((J13 64)) :: ((J13 65)) :: ((J13 66)) :: ((J13 67)) :: ((J13 68)) :: ((J13 69)) :: ((J13 70)) :: ((J13 71)) :: ((J13 72)) :: ((J13 73)) :: ((J13 74)) :: ((J13 75)) :: ((J13 76)) :: ((J13 77)) :: ((J13 78)) :: (.int .i64 d) :: (.pointer (some ⟨t7, 0, none⟩)) :: (.int .i64 (farth ds9)) :: (.bool true) :: ((J24 83)) :: ((J24 84)) :: (.pointer (some ⟨t7, 0, none⟩)) :: (.int .i64 d) :: (.slice (some ⟨g36, 0, none⟩) ((layr ds9 d ds9.length).length) c30) :: (.int .i64 m) :: (.slice (some ⟨g36, 0, none⟩) ((layr ds9 d ds9.length).length) c30) :: (.int .i64 ((layr ds9 d ds9.length).length : Int)) :: (.int .i64 (m + ((layr ds9 d ds9.length).length : Int))) :: (.int .i64 k) :: (.slice (some ⟨g36, 0, none⟩) ((layr ds9 d ds9.length).length) c30) :: (.int .i64 ((layr ds9 d ds9.length).length : Int)) :: (.bool true) :: (.int .i64 k) :: (.int .i64 (k + 1)) :: (.tuple #[.agg #[.int .i64 0, .int .i64 0], .bool false]) :: (.pointer (some ⟨g, 0, none⟩)) :: (.pointer (some ⟨t7, 0, none⟩)) :: (.slice (some ⟨g36, 0, none⟩) ((layr ds9 d ds9.length).length) c30) :: (.int .i64 k) :: (.pointer (some ⟨g36, k.toNat, none⟩)) :: (.int .i64 (rdI (layr ds9 d ds9.length) k)) :: (.int .i64 (rdI bs10 (rdI (layr ds9 d ds9.length) k))) :: (.tuple #[.agg #[.int .i64 0, .int .i64 0], .bool false]) :: (.agg #[.int .i64 0, .int .i64 0]) :: (.bool false) :: (.bool false) :: (.int .i64 d) :: (.bool false) :: (.bool false) :: (.bool false) :: (.bool false) :: (.bool false) :: undef :: undef :: undef :: undef :: undef :: undef :: undef :: undef :: undef :: undef :: undef :: undef :: undef :: undef :: undef :: undef :: (.bool false) :: (.bool false) :: undef :: undef :: undef :: undef :: undef :: undef :: undef :: undef :: undef :: []) k_ undef), k + 1, congrArg Fr (by kernel_rfl), rfl, by omega, by omega, HS⟩
            · skip
              refine ql (.bool false) (by kernel_rfl) (R_nbool (p := k < ((layr ds9 d ds9.length).length : Int)) (by kernel_rfl) (hc35)) ?_
              refine wpList_nil ?_
              refine x_then ?_
              refine wp_cond_false (by kernel_rfl) ?_
              refine wp_exit ?_
              refine x_thenE ?_
              refine x_thenE ?_
              refine x_hit ?_
              refine x_inb ?_
              refine x_then ?_
              refine wp_region_lit ?_
              refine ql (.int .i64 d) (by kernel_rfl) (by kernel_rfl) ?_
              refine ql (.int .i64 (d + 1)) (by kernel_rfl) (R_int (by kernel_rfl) (w64 (by omega))) ?_
              refine ql (.int .i64 (d + 1)) (by kernel_rfl) (by kernel_rfl) ?_
              refine wpList_nil ?_
              replace HS := HS.drop1
              have hst := lcnt_step (ds := ds9) d0
              refine x_then ?_
              exact ⟨(farth ds9 + 1 - (d + 1)).toNat, by omega, (fun k_ : Nat => List.getD ((.int .i64 (N : Int)) :: (.slice A arcs.length c) :: (.int .i64 v) :: undef :: undef :: undef :: ((J32 6)) :: (.pointer (some ⟨g, 0, none⟩)) :: (.int .i64 0) :: (.pointer (some ⟨t7, 0, none⟩)) :: (.int .i64 i) :: (.int .i64 (m + ((layr ds9 d ds9.length).length : Int))) :: (.int .i64 (d + 1)) :: (.slice A29 ((layr ds9 d ds9.length).length) c30) :: (.int .i64 k) :: ((J32 15)) :: ((J32 16)) :: (.int .i64 (N : Int)) :: (.bool false) :: (.bool false) :: (.slice A arcs.length c) :: (.int .i64 (arcs.length : Int)) :: (.bool false) :: (.bool false) :: undef :: (.tuple #[.pointer (some ⟨g, 0, none⟩), .int .i64 0]) :: (.int .i64 (N : Int)) :: (.slice A arcs.length c) :: (.tuple #[.pointer (some ⟨g, 0, none⟩), .int .i64 0]) :: (.pointer (some ⟨g, 0, none⟩)) :: (.int .i64 0) :: (.int .i64 0) :: (.bool false) :: undef :: (.pointer (some ⟨g, 0, none⟩)) :: (.int .i64 v) :: (.pointer (some ⟨t7, 0, none⟩)) :: (.int .i64 i) :: (.slice A arcs.length c) :: (.int .i64 (arcs.length : Int)) :: (.bool false) :: ((J13 41)) :: ((J13 42)) :: ((J13 43)) :: ((J13 44)) :: ((J13 45)) :: ((J13 46)) :: ((J13 47)) :: ((J13 48)) :: ((J13 49)) :: ((J13 50)) :: ((J13 51)) :: ((J13 52)) :: ((J13 53)) :: ((J13 54)) :: ((J13 55)) :: ((J13 56)) :: ((J13 57)) :: ((J13 58)) :: ((J13 59)) :: ((J13 60)) :: ((J13 61)) :: ((J13 62)) :: ((J13 63)) :: ((J13 64)) :: ((J13 65)) :: ((J13 66)) :: ((J13 67)) :: ((J13 68)) :: ((J13 69)) :: ((J13 70)) :: ((J13 71)) :: ((J13 72)) :: ((J13 73)) :: ((J13 74)) :: ((J13 75)) :: ((J13 76)) :: ((J13 77)) :: ((J13 78)) :: (.int .i64 d) :: (.pointer (some ⟨t7, 0, none⟩)) :: (.int .i64 (farth ds9)) :: (.bool true) :: (.int .i64 d) :: (.int .i64 (d + 1)) :: (.pointer (some ⟨t7, 0, none⟩)) :: (.int .i64 d) :: (.slice A29 ((layr ds9 d ds9.length).length) c30) :: (.int .i64 m) :: (.slice A29 ((layr ds9 d ds9.length).length) c30) :: (.int .i64 ((layr ds9 d ds9.length).length : Int)) :: (.int .i64 (m + ((layr ds9 d ds9.length).length : Int))) :: (.int .i64 k) :: (.slice A29 ((layr ds9 d ds9.length).length) c30) :: (.int .i64 ((layr ds9 d ds9.length).length : Int)) :: (.bool false) :: ((J32 96)) :: ((J32 97)) :: ((J32 98)) :: ((J32 99)) :: ((J32 100)) :: ((J32 101)) :: ((J32 102)) :: ((J32 103)) :: ((J32 104)) :: ((J32 105)) :: ((J32 106)) :: ((J32 107)) :: ((J32 108)) :: ((J32 109)) :: ((J32 110)) :: ((J32 111)) :: ((J32 112)) :: ((J32 113)) :: ((J32 114)) :: ((J32 115)) :: ((J32 116)) :: ((J32 117)) :: ((J32 118)) :: ((J32 119)) :: ((J32 120)) :: ((J32 121)) :: ((J32 122)) :: ((J32 123)) :: ((J32 124)) :: ((J32 125)) :: ((J32 126)) :: ((J32 127)) :: ((J32 128)) :: ((J32 129)) :: ((J32 130)) :: ((J32 131)) :: ((J32 132)) :: ((J32 133)) :: undef :: undef :: undef :: undef :: undef :: undef :: undef :: undef :: undef :: []) k_ undef), d + 1, m + ((layr ds9 d ds9.length).length : Int), congrArg Fr (by kernel_rfl), rfl, by omega, by omega, by rw [hst, hm]; omega, HS⟩
          · skip
            refine ql (.bool false) (by kernel_rfl) (R_nbool (p := d ≤ (farth ds9)) (by kernel_rfl) (hc28)) ?_
            refine wpList_nil ?_
            refine x_then ?_
            refine wp_cond_false (by kernel_rfl) ?_
            refine wp_exit ?_
            refine x_thenE ?_
            refine x_thenE ?_
            refine x_hit ?_
            refine x_then ?_
            refine wp_seq ?_
            have hde : farth ds9 < d := by omega
            refine wp_region_lit ?_
            refine ql (.int .i64 m) (by kernel_rfl) (by kernel_rfl) ?_
            refine ql (.pointer (some ⟨g, 0, none⟩)) (by kernel_rfl) (by kernel_rfl) ?_
            refine ql (.int .i64 v) (by kernel_rfl) (by kernel_rfl) ?_
            refine qc (f := 14) (args := #[.pointer (some ⟨g, 0, none⟩), .int .i64 v]) (by kernel_rfl) (R_call #[.pointer (some ⟨g, 0, none⟩), .int .i64 v] Try.func14 (by kernel_rfl) (by kernel_rfl) (by kernel_rfl)) ?_
            by_cases hvr : 0 ≤ v ∧ v < (N : Int)
            · skip
              refine (reach_yes g N arcs _ (hG.below (HS.kept.below owns_nil)) v (by omega) (by omega)).mono ?_
              rintro e W50 ⟨A48, c49, rfl, H_⟩
              refine ⟨_, rfl, ?_⟩
              replace HS : St W11 (owns []) W50 [row A48 ((reach N arcs v).length) c49 (ci .i64 (reach N arcs v)) 3 1] := HS.join (F := []) (G := [row A48 ((reach N arcs v).length) c49 (ci .i64 (reach N arcs v)) 3 1]) H_
              clear H_
              have hma := met_all hFF hDh8 hvr.1 hvr.2 hde
              have hrl := reach_le N arcs v
              refine ql (.int .i64 ((reach N arcs v).length : Int)) (by kernel_rfl) (by kernel_rfl) ?_
              refine ql (.bool true) (by kernel_rfl) (R_beq (b := (m == ((reach N arcs v).length : Int))) (by kernel_rfl) (beq_t (hm.trans hma))) ?_
              refine ql (.bool true) (by kernel_rfl) (by kernel_rfl) ?_
              refine qc (f := 29) (args := #[]) (by kernel_rfl) (R_call #[] Try.func29 (by kernel_rfl) (by kernel_rfl) (by kernel_rfl)) ?_
              refine (awake13 _).mono ?_
              rintro e W51 ⟨rfl, H_⟩
              refine ⟨_, rfl, ?_⟩
              replace HS : St W11 (owns []) W51 [row A48 ((reach N arcs v).length) c49 (ci .i64 (reach N arcs v)) 3 1] := HS.join (F := []) (G := []) H_
              clear H_
              refine ql (.bool true) (by kernel_rfl) (by kernel_rfl) ?_
              refine ql (.bool true) (by kernel_rfl) (by kernel_rfl) ?_
              refine wpList_nil ?_
              refine x_then ?_
              refine wp_ret ?_
              refine ret_ (.bool true) (by kernel_rfl) ?_
              replace HS : St W5 (owns []) W51 [row A48 ((reach N arcs v).length) c49 (ci .i64 (reach N arcs v)) 3 1] := HB12.join (F := []) (G := [row A48 ((reach N arcs v).length) c49 (ci .i64 (reach N arcs v)) 3 1]) HS
              replace HS : St W (owns []) W51 [row A48 ((reach N arcs v).length) c49 (ci .i64 (reach N arcs v)) 3 1] := HB6.join (F := []) (G := [row A48 ((reach N arcs v).length) c49 (ci .i64 (reach N arcs v)) 3 1]) HS
              exact ⟨rfl, HS.tail (F := [row A48 ((reach N arcs v).length) c49 (ci .i64 (reach N arcs v)) 3 1])⟩
            · skip
              refine (reach_no g N arcs _ (hG.below (HS.kept.below owns_nil)) v (by omega)).mono ?_
              rintro e W54 ⟨rfl, H_⟩
              refine ⟨_, rfl, ?_⟩
              replace HS : St W11 (owns []) W54 [] := HS.join (F := []) (G := []) H_
              clear H_
              have hma := lcnt_none (d := d) hFF hDh8 hvr
              refine ql (.int .i64 0) (by kernel_rfl) (by kernel_rfl) ?_
              refine ql (.bool true) (by kernel_rfl) (R_beq (b := (m == (0 : Int))) (by kernel_rfl) (beq_t (by rw [hm, hma]; rfl))) ?_
              refine ql (.bool true) (by kernel_rfl) (by kernel_rfl) ?_
              refine qc (f := 29) (args := #[]) (by kernel_rfl) (R_call #[] Try.func29 (by kernel_rfl) (by kernel_rfl) (by kernel_rfl)) ?_
              refine (awake13 _).mono ?_
              rintro e W55 ⟨rfl, H_⟩
              refine ⟨_, rfl, ?_⟩
              replace HS : St W11 (owns []) W55 [] := HS.join (F := []) (G := []) H_
              clear H_
              refine ql (.bool true) (by kernel_rfl) (by kernel_rfl) ?_
              refine ql (.bool true) (by kernel_rfl) (by kernel_rfl) ?_
              refine wpList_nil ?_
              refine x_then ?_
              refine wp_ret ?_
              refine ret_ (.bool true) (by kernel_rfl) ?_
              replace HS : St W5 (owns []) W55 [] := HB12.join (F := []) (G := []) HS
              replace HS : St W (owns []) W55 [] := HB6.join (F := []) (G := []) HS
              exact ⟨rfl, HS.tail (F := [])⟩
      · refine ⟨_, rfl, ?_⟩
        replace HS : St W (owns []) W5 [] := HS.join (F := []) (G := []) H_
        clear H_
        refine ql (.tuple #[.pointer none, .int .i64 (chk n arcs)]) (by kernel_rfl) (by kernel_rfl) ?_
        refine ql (.pointer none) (by kernel_rfl) (by kernel_rfl) ?_
        refine ql (.int .i64 (chk n arcs)) (by kernel_rfl) (by kernel_rfl) ?_
        refine ql (.pointer none) (by kernel_rfl) (by kernel_rfl) ?_
        refine ql (.int .i64 (chk n arcs)) (by kernel_rfl) (by kernel_rfl) ?_
        refine wpList_nil ?_
        refine x_then ?_
        refine wp_seq ?_
        refine wp_seq ?_
        refine wp_region_lit ?_
        refine ql (.int .i64 (chk n arcs)) (by kernel_rfl) (by kernel_rfl) ?_
        refine ql (.bool true) (by kernel_rfl) (R_beq (b := (chk n arcs != (0 : Int))) (by kernel_rfl) (bne_t (by omega))) ?_
        refine wpList_nil ?_
        refine x_then ?_
        refine wp_cond_true (by kernel_rfl) ?_
        refine wp_seq ?_
        refine wp_region_lit ?_
        refine qc (f := 29) (args := #[]) (by kernel_rfl) (R_call #[] Try.func29 (by kernel_rfl) (by kernel_rfl) (by kernel_rfl)) ?_
        refine (awake13 _).mono ?_
        rintro e W56 ⟨rfl, H_⟩
        refine ⟨_, rfl, ?_⟩
        replace HS : St W (owns []) W56 [] := HS.join (F := []) (G := []) H_
        clear H_
        refine ql (.bool true) (by kernel_rfl) (by kernel_rfl) ?_
        refine wpList_nil ?_
        refine x_then ?_
        refine wp_ret ?_
        refine x_thenR ?_
        refine ret_ (.bool true) (by kernel_rfl) ?_
        exact ⟨rfl, HS.tail (F := [])⟩

end Go.Proofs.Ythfpdpjccnnlhaa.GBfsLayers
