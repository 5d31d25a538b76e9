/- Written for this claim by gp.py, a program of this session's, over the kit's print. Lean checks it. -/
import Derived.Test.YtdiodmdohkjafaaGDeclTellsx0
import Derived.Test.YtdiodmdohkjafaaGDeclTellshspDeclTellsa
namespace Go.Proofs.Ytdiodmdohkjafaa.GDeclTells
open Go.RowKit Go.Proofs.YtdiodmdohkjafaaW.PrintWords Go.Proofs.YtdiodmdohkjafaaW.PrintLast Go.Proofs.YtdiodmdohkjafaaW.PrintMore
attribute [local go_sem] max2_int min2_int max_two min_two max_three min_three max_four min_four   -- for this text's walks alone
set_option linter.unusedVariables false
set_option linter.unusedSimpArgs false

/-- A row that came in, as cells that can be read. -/
theorem Rd.ofC {α β : Type} {d : Kd α} {w : World} {A : Option Addr} {xs : List α} {f : β → List Value} {g : α → β} (z : α) {n : Nat} (hs : d.sz = n) (hn : 0 < n) (hd : ∀ x, (f x).length = n) (ho : ∀ x cs, d.K w x cs → cs = f (g x)) (h : Kd.C d w A xs.length xs) : Rd w A (cf f (xs.map g)) := by
  intro j v hv
  subst hs
  have hj := (List.getElem?_eq_some_iff.1 hv).1
  rw [cf_len hd, List.length_map] at hj
  have hq : j / d.sz < xs.length := (Nat.div_lt_iff_lt_mul hn).2 hj
  have hk : j % d.sz < d.sz := Nat.mod_lt _ hn
  obtain ⟨ad, c, e, hc, hK, hcc⟩ := Kd.C_get h z ((j / d.sz : Nat) : Int) (Int.natCast_nonneg _) (Int.ofNat_lt.2 hq)
  have e2 : j = j / d.sz * d.sz + j % d.sz := (Nat.div_add_mod' j d.sz).symm
  rw [e2, cf_rd hd (xs.map g) (j / d.sz) (j % d.sz) (g (xs.getD (j / d.sz) z)) (by simp [hq]) hk] at hv
  rw [Int.toNat_natCast] at hK hcc
  refine ⟨ad, e, ?_⟩
  rw [e2]
  exact hcc _ _ (by rw [ho _ _ hK]; exact hv)

end Go.Proofs.Ytdiodmdohkjafaa.GDeclTells
