/- Written for this claim by gp.py, a program of this session's, over the kit's print. Lean checks it. -/
import Derived.Test.YthhebinonpoddaaRows
import Derived.Test.YthhebinonpoddaaGSigCallsxopen
import Derived.Test.YthhebinonpoddaaPureGSigCalls
import Derived.WalkKit
import Derived.ProofKit
import Derived.OpenShut
import Derived.ShutString
import Derived.ChangeOld
import Derived.Below
import Derived.SizedLaws
namespace Go.Proofs.Ythhebinonpoddaa.sigCalls
open Go.ChangeShapes Go.WideShapes Go.ChangeAt Go.RowKit Go.Proofs.Ythhebinonpoddaa.GSigCalls Go.Proofs.YthhebinonpoddaaW.PrintWords
open Go.ChangeMaps (open_string shut_string)
set_option linter.unusedVariables false
theorem own : ownKnob Try.prog.godebug = none := by kernel_rfl
theorem laidOut : laidOutB Try.prog = true := by kernel_rfl
set_option maxRecDepth 100000 in
set_option maxHeartbeats 2000000 in
theorem lifted (os : Os) (started : os.Started) (H : Type) (enc : TypeId × Value → H) :
    ReturnsInHanded {} Try.checked os 9 .any (Rows.sigCallsSpec.pre6 enc Try.prog Try.f9 Rows.sigCallsRow.domain false) (Rows.sigCallsSpec.post enc Try.prog Try.f9 false true false false) := by
  refine returnsInHanded_of_change_sized (C := Try.checked) own started (by kernel_rfl) Try.func9
    (ChangeSpec.witness6 (enc := enc) (C := Try.checked) false ⟨#[], #[.agg #[.int .i64 0, .slice none 0 0, .slice none 0 0, .slice none 0 0], .slice none 0 0, .slice none 0 0, .agg #[.slice none 0 0]], []⟩ 8 (by kernel_rfl) (by kernel_rfl) (by kernel_rfl) (by kernel_rfl)) ?_
  intro W base args ds gs before hval0 hW hcnd hsz0 _
  have hsz : (DataW.weightsEach Try.prog (Try.f9.params.toList ++ Rows.sigCallsSpec.plain.varTypes Try.prog) (ds ++ gs)).all (· ≤ reachBytes) = true := hsz0
  have hval : ∀ (j : Nat) t v, Try.f9.params[j]? = some t → args[j]? = some v → Value.okWide Try.prog W .any base t v := hval0
  have hW' := hW
  obtain ⟨p, q, hA0, hV, rfl, hfz, hnd⟩ := hW
  have hA : DataW.TrodAll enc Try.prog W 0 (fun _ => true) true Try.f9.params.toList args.toList ds p := hA0
  rw [Try.params9] at hA hval hsz
  obtain ⟨v0, vs0, d0, ds0, p0, q0, hargs, rfl, rfl, h0, r0⟩ := trodAll_cons hA
  obtain ⟨v1, vs1, d1, ds1, p1, q1, rfl, rfl, rfl, h1, r1⟩ := trodAll_cons r0
  obtain ⟨v2, vs2, d2, ds2, p2, q2, rfl, rfl, rfl, h2, r2⟩ := trodAll_cons r1
  obtain ⟨v3, vs3, d3, ds3, p3, q3, rfl, rfl, rfl, h3, r3⟩ := trodAll_cons r2
  obtain ⟨rfl, rfl, rfl⟩ := trodAll_nil r3
  obtain rfl : args = #[v0, v1, v2, v3] := by cases args; simp_all
  obtain ⟨rfl, rfl⟩ := trodVars_none hV
  have k0 := h0
  have lt0 : ∀ x ∈ p0, x.block < W.heap.size := by obtain ⟨m, hm⟩ := k0; exact DataW.trod_lt m _ _ _ hm
  obtain ⟨fu0, hf0⟩ := h0
  obtain ⟨cs0, rfl, _⟩ := okWide_struct Try.underlying52 (hval 0 52 v0 rfl rfl)
  obtain ⟨x0, hx0, gd0⟩ := opens52.2 _ _ _ _ _ _ _ _ _ hf0
  obtain ⟨A0_1, c0_1, A0_2, c0_2, A0_3, c0_3, he0, hc0_1, hr0_1, hc0_2, hr0_2, hc0_3, hr0_3⟩ := k52_open hx0
  obtain rfl : cs0 = #[.int .i64 x0.f0, .slice A0_1 (x0.f1).length c0_1, .slice A0_2 (x0.f2).length c0_2, .slice A0_3 (x0.f3.f0).length c0_3] := by have := congrArg List.toArray (show cs0.toList = _ from he0); simpa using this
  have k1 := h1
  have lt1 : ∀ x ∈ p1, x.block < W.heap.size := by obtain ⟨m, hm⟩ := k1; exact DataW.trod_lt m _ _ _ hm
  obtain ⟨fu1, hf1⟩ := h1
  obtain ⟨la1, len1, cap1, rfl⟩ := okWide_slice Try.underlying32 (hval 1 32 v1 rfl rfl)
  obtain ⟨l1, ⟨A1, c1, hv1, hc1, hr1⟩, gd1⟩ := (Opens.slice Try.underlying32 (by kernel_rfl) (Opens.int Try.underlying3 (by kernel_rfl))).2 _ _ _ _ _ _ _ _ _ hf1
  obtain ⟨rfl, rfl, rfl⟩ : la1 = A1 ∧ len1 = l1.length ∧ cap1 = c1 := by simpa [Value.cells] using hv1
  have k2 := h2
  have lt2 : ∀ x ∈ p2, x.block < W.heap.size := by obtain ⟨m, hm⟩ := k2; exact DataW.trod_lt m _ _ _ hm
  obtain ⟨fu2, hf2⟩ := h2
  obtain ⟨la2, len2, cap2, rfl⟩ := okWide_slice Try.underlying50 (hval 2 50 v2 rfl rfl)
  obtain ⟨l2, ⟨A2, c2, hv2, hc2, hr2⟩, gd2⟩ := (Opens.slice Try.underlying50 (by kernel_rfl) opens44).2 _ _ _ _ _ _ _ _ _ hf2
  obtain ⟨rfl, rfl, rfl⟩ : la2 = A2 ∧ len2 = l2.length ∧ cap2 = c2 := by simpa [Value.cells] using hv2
  have k3 := h3
  have lt3 : ∀ x ∈ p3, x.block < W.heap.size := by obtain ⟨m, hm⟩ := k3; exact DataW.trod_lt m _ _ _ hm
  obtain ⟨fu3, hf3⟩ := h3
  obtain ⟨cs3, rfl, _⟩ := okWide_struct Try.underlying44 (hval 3 44 v3 rfl rfl)
  obtain ⟨x3, hx3, gd3⟩ := opens44.2 _ _ _ _ _ _ _ _ _ hf3
  obtain ⟨A3_0, c3_0, he3, hc3_0, hr3_0⟩ := k44_open hx3
  obtain rfl : cs3 = #[.slice A3_0 (x3.f0).length c3_0] := by have := congrArg List.toArray (show cs3.toList = _ from he3); simpa using this
  clear hA0 hval0 hsz0 hsz
  obtain ⟨k, h⟩ := Pure.SigCalls (x0.f0) (x0.f1) (x0.f2) (x0.f3.f0) l1 l2 (x3.f0) gd0 gd1 gd2 gd3
  refine (easementlaw17_SigCalls.calls k (x0.f0) _ _ (x0.f1) _ _ (x0.f2) _ _ (x0.f3.f0) _ _ l1 _ _ l2 _ _ (x3.f0) true W hr0_1 hc0_1 hr0_2 hc0_2 hr0_3 hc0_3 hr1 hc1 hr2 hc2 hr3_0 hc3_0 h).mono fun e W' ⟨he, bel0⟩ => ?_
  have bel : Below W.heap.size W W' := bel0
  subst he
  exact ⟨_, rfl, _, _, _, [], _, [], hW', trodAll_mk1 (shut_bool Try.underlying4 _), (trodAll_cons_mk (Below.trod laidOut (by kernel_rfl) (of_decide_eq_true (by kernel_rfl)) k0 bel lt0) (trodAll_cons_mk (Below.trod laidOut (by kernel_rfl) (of_decide_eq_true (by kernel_rfl)) k1 bel lt1) (trodAll_cons_mk (Below.trod laidOut (by kernel_rfl) (of_decide_eq_true (by kernel_rfl)) k2 bel lt2) (trodAll_cons_mk (Below.trod laidOut (by kernel_rfl) (of_decide_eq_true (by kernel_rfl)) k3 bel lt3) trodAll_mk0)))), rfl, bel.frame _, fun h => by cases h⟩
theorem over : Rows.sigCallsRow.holds Try.pinned (OpenSpec.ofChange Rows.sigCallsSpec) :=
  OpenClaim.holds_of_wide 9 Try.f9 rfl rfl rfl rfl rfl rfl rfl ⟨rfl, rfl, rfl, rfl, rfl⟩ rfl rfl rfl rfl rfl (by kernel_rfl) Try.func9 (by kernel_rfl)
    (of_decide_eq_true (by kernel_rfl)) (by unfold Func.isWrapper; first | (rw [if_pos (by decide +kernel)]; kernel_rfl) | (rw [if_neg (by decide +kernel)]; exact ⟨rfl, rfl⟩))
    (fun os started H enc _ => lifted os started H enc)
theorem proved : Rows.SigCallsSaid := over
#print axioms proved
end Go.Proofs.Ythhebinonpoddaa.sigCalls
namespace Go.Proofs.Ythhebinonpoddaa
/-- The row, under a short name, for the claim. -/
theorem sigCalls_holds : Rows.SigCallsSaid := sigCalls.proved
end Go.Proofs.Ythhebinonpoddaa
