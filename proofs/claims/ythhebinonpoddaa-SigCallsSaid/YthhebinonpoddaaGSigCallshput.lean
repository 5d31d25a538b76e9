/- Written for this claim by gp.py, a program of this session's, over the kit's print. Lean checks it. -/
import Derived.Test.YthhebinonpoddaaGSigCallsx0
namespace Go.Proofs.Ythhebinonpoddaa.GSigCalls
open Go.RowKit Go.Proofs.YthhebinonpoddaaW.PrintWords Go.Proofs.YthhebinonpoddaaW.PrintLast Go.Proofs.YthhebinonpoddaaW.PrintMore
attribute [local go_sem] max2_int min2_int max_two min_two max_three min_three max_four min_four   -- for this text's walks alone
set_option linter.unusedVariables false
set_option linter.unusedSimpArgs false

set_option maxHeartbeats 8000000 in
set_option maxRecDepth 100000 in
/-- One need more. -/
theorem relate_put (g : Nat) (v : Value) (xs : List S129) (a b c d : Int) (w0 w : World) (hg : w.heap[g]? = some (.cells #[v] 144 (0, 0))) (hg0 : w0.heap.size ≤ g) (hB : Below w0.heap.size w0 w)
    (hR : Kd.R k129 129 w w0.heap.size (fun _ => True) v xs) (hl : xs.length < 1000000000000) :
    Calls Try.prog 112 #[.pointer (some ⟨g, 0, none⟩), .int .i64 a, .int .i64 b, .int .i64 c, .int .i64 d] w fun e w' => e = .returned (.tuple #[]) ∧ ∃ v', w'.heap[g]? = some (.cells #[v'] 144 (0, 0)) ∧
      Kd.R k129 129 w' w0.heap.size (fun _ => True) v' (xs ++ [⟨a, b, c, d, false⟩]) ∧ Below w0.heap.size w0 w' ∧ Kept w w' (fun k => k = g ∨ v.ownBlock = some k) := by
  have hu1 := Try.underlying144
  have hu2 := Try.underlying129
  have HG := Aside0.mk hg
  have HB := Aside0.mk hB
  have HR := Aside0.mk hR
  have HL := Aside0.mk hl
  have HG0 := Aside0.mk hg0
  have cg : w.cell? ⟨g, 0, none⟩ = some v := (bH hg 0).trans rfl
  have fg := bJ hg 0
  clear hg hB hR hl hg0
  obtain ⟨ys, hys⟩ : ∃ ys, ys = xs ++ [(⟨a, b, c, d, false⟩ : S129)] := ⟨_, rfl⟩
  rw [← hys]
  have NY := Aside0.mk hys
  clear hys
  go_enter Try.func112, Try.ntmps112
  go_wp2_with (first | ((with_reducible refine gate_builtin (b := .append) (xs := #[.tmp 14, .tmp 20]) rfl ?_); at_builtin; refine Kd.R_append k129 (w0 := w0) w0.heap.size rfl (.tmp 14) (.tmp 20) 60 129 (.agg #[(.int .i64 0), (.int .i64 0), (.int .i64 0), (.int .i64 0), (.bool false)]) 40 rfl Try.underlying60 info129 rfl (by decide) (by omega) v xs (⟨a, b, c, d, false⟩ : S129) [.int .i64 a, .int .i64 b, .int .i64 c, .int .i64 d, .bool false] (fun _ => True) (fun _ => False) rfl (by first | (go_simp; done) | (go_simp; rfl)) ?aP (fun _ hk => hk.elim) ?aF ?aO ?aB ?aS ?aL ?_; (case aP => exact k129_mkM _ _ _ (⟨a, b, c, d, false⟩ : S129)); (case aB => exact HB.out); (case aF => exact fun _ _ => trivial); (case aO => exact HR.out); (case aS => exact HB.out.size); (case aL => have := HL.out; omega); intro v1 w1 ho hb hgr hat; rw [← NY.out] at ho; obtain ⟨A1, k1, rfl⟩ := Kd.R_slice ho; have q0 := blk_grown HG.out hgr (Kd.R_ne HR.out HG.out (by decide)); have HG1 := Aside0.mk q0; have c1 : w1.cell? ⟨g, 0, none⟩ = some v := (bH q0 0).trans rfl; have f1 := bJ q0 0; have HO := Aside0.mk ho; have HB1 := Aside0.mk hb; have HGR := Aside0.mk hgr; clear ho hb hgr hat q0))
  go_end0
  exact ⟨rfl, _, blk_put HG1.out 0 _ rfl, Kd.R_mono (Kd.R_far (p := ⟨g, 0, none⟩) (Kd.R_types HO.out HG1.out (by decide)) (fun _ hk => hk.2) _) (fun _ _ => trivial), bD HB1.out HG0.out,
    Kept.setCell (Kept.of_grown HGR.out (Kept.refl w _) (fun k e => .inl (.inr e))) (.inl (.inl rfl)) _⟩

end Go.Proofs.Ythhebinonpoddaa.GSigCalls
