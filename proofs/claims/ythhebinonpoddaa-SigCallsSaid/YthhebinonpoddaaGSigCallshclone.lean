/- Written for this claim by gp.py, a program of this session's, over the kit's print. Lean checks it. -/
import Derived.Test.YthhebinonpoddaaGSigCallsx0
import Derived.WalkSpells
namespace Go.Proofs.Ythhebinonpoddaa.GSigCalls
open Go.RowKit Go.Proofs.YthhebinonpoddaaW.PrintWords Go.Proofs.YthhebinonpoddaaW.PrintLast Go.Proofs.YthhebinonpoddaaW.PrintMore
attribute [local go_sem] max2_int min2_int max_two min_two max_three min_three max_four min_four   -- for this text's walks alone
set_option linter.unusedVariables false
set_option linter.unusedSimpArgs false

--import Derived.WalkSpells
set_option maxHeartbeats 16000000 in
set_option maxRecDepth 100000 in
theorem slot_clone (A : Option Addr) (c : Nat) (l : List S115) (w : World) (hr : Kd.C k115 w A l.length l) (hl : l.length < 1000000000) :
    Calls Try.prog 114 #[.slice A l.length c] w fun e w' => ∃ A' c', e = .returned (.slice A' l.length c') ∧ Kd.R k115 115 w' w.heap.size (fun _ => True) (.slice A' l.length c') l ∧ Below w.heap.size w w' := by
  have hu1 := Try.underlying42
  have q : ∀ (W : World) (a : Option Addr) (n c : Nat), (binOp .eql 42 (.slice a n c) (.slice none 0 0)).run Try.prog W = .ok (.bool a.isNone) W := fun W a n c => Lib.run_eql_slice_nil W 42 115 a n c 0 0 hu1
  have HR := Aside0.mk hr
  have HL := Aside0.mk hl
  clear hr hl
  have HB := Aside0.mk (Below.refl w.heap.size w)
  obtain ⟨n, hn⟩ : ∃ n, n = l.length := ⟨_, rfl⟩
  have HN := Aside0.mk hn
  rw [← hn]
  clear hn
  cases A with
  | none =>
    have hz : l = [] := by
      refine Classical.byContradiction fun hne => ?_
      obtain ⟨ad, e1, _⟩ := at_T115 HR.out 0 (by omega) (by have := List.length_pos_iff.2 hne; omega)
      cases e1
    subst hz
    obtain rfl : n = 0 := HN.out
    go_enter Try.func114, Try.ntmps114
    go_wp2
    go_ret
    exact ⟨none, 0, rfl, Kd.R_nil _ _ _ _ _, HB.out⟩
  | some ad =>
    go_enter Try.func114, Try.ntmps114
    go_wp2_with (first | ((with_reducible refine bZ (N := 5) rfl ?_); refine Kd.R_lit k115 _ 115 ?hg (N := 5) ?hd (xs := ([] : List S115)) (inner := []) (ok := fun _ => True) (okp := fun _ => True) ?hr ?hp (fun _ hk => hk) trivial (Below.refl _ _) (Nat.le_refl _) (by simp) ?_; (case hd => rfl); (case hg => rfl); (case hr => first | (go_simp; done) | (go_simp; rfl)); (case hp => exact (Reps.none _ _)); intro v5 w5 ho hb hg_ hnew_; have HO := Aside0.mk ho; have HB5 := Aside0.mk hb; clear ho hb hg_ hnew_; obtain ⟨A5, k5, e5⟩ := Kd.R_slice HO.out; subst e5) | ((with_reducible refine gate_builtin (b := .append) (xs := #[.tmp 5, .tmp 6]) rfl ?_); at_builtin; refine Kd.R_append_rows k115 (w0 := w) w.heap.size rfl (.tmp 5) (.tmp 6) 42 115 (.agg #[(.int .i64 0), (.bool false)]) 16 rfl Try.underlying42 info115 rfl (by decide) (by omega) (.slice A5 ([] : List S115).length k5) [] l _ n _ (fun _ => True) (fun _ => False) rfl rfl ?aO ?aR (fun _ _ h => h) (fun _ h => h.elim) ?aF ?aB ?aS ?aL ?_; (case aR => rw [HN.out]; exact Kd.bW HR.out HB5.out); (case aO => exact HO.out); (case aF => exact fun _ _ => trivial); (case aB => exact HB5.out); (case aS => exact HB5.out.size); (case aL => have := HN.out; have := HL.out; simp only [List.length_nil]; omega); intro v7 w7 ho hb hgr hat; rw [List.nil_append] at ho; obtain ⟨A7, k7, e7⟩ := Kd.R_slice ho; rw [← HN.out] at e7; subst e7; have HO7 := Aside0.mk ho; have HB7 := Aside0.mk hb; clear ho hb hgr hat HO HB5))
    go_ret
    exact ⟨A7, k7, rfl, HO7.out, HB7.out⟩
def api_Slot.f (l : List S115) : Option (List S115) := if l.length < 1000000000 then some l else none
theorem api_Slot.calls (A0 : Option Addr) (c0 : Nat) (l0 : List (S115)) (r : List (S115)) (w : World) (hr0 : Kd.C k115 w A0 l0.length l0) (hc0 : l0.length ≤ c0) (h : api_Slot.f l0 = some r) :
    Calls Try.prog 114 #[.slice A0 l0.length c0] w fun e w' => ∃ v0_ : Value, e = .returned (v0_) ∧ Kd.R k115 115 w' w.heap.size (fun _ => True) v0_ r ∧ Below w.heap.size w w' := by
  unfold api_Slot.f at h
  by_cases c : l0.length < 1000000000
  · rw [if_pos c] at h
    obtain rfl := Option.some.inj h
    refine (slot_clone A0 c0 l0 w hr0 c).mono ?_
    rintro e w' ⟨A', c', rfl, hR, hb⟩
    exact ⟨_, rfl, hR, hb⟩
  · rw [if_neg c] at h
    exact absurd h (by simp)

end Go.Proofs.Ythhebinonpoddaa.GSigCalls
