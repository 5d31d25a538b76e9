/- Written for this claim by gp.py, a program of this session's, over the kit's print. Lean checks it. -/
import Derived.Test.YthhebinonpoddaaGTermBackx0
import Derived.Test.YthhebinonpoddaaGTermBackx4
import Derived.StillTailTactics
namespace Go.Proofs.Ythhebinonpoddaa.GTermBack
open Go.RowKit Go.Proofs.YthhebinonpoddaaW.PrintWords Go.Proofs.YthhebinonpoddaaW.PrintLast Go.Proofs.YthhebinonpoddaaW.PrintMore
attribute [local go_sem] max2_int min2_int max_two min_two max_three min_three max_four min_four   -- for this text's walks alone
set_option linter.unusedVariables false
set_option linter.unusedSimpArgs false

--import Derived.StillTailTactics
def term_Take.fin (kind sig dst : Int) (tt args par : List Int) (at_ e : Int) : Option (Int × Int × Int × List Int × List Int × List Int × Int × Int) := if e = 0 then some (kind, sig, dst, tt, args, par, at_, 0) else some (0, 0, 0, [], [], [], 0, e)
def term_Take.f (k : Nat) (a0 : ByteArray) : Option (Int × Int × Int × List Int × List Int × List Int × Int × Int) :=
  (term_reader_num.f k a0 0 0).bind fun t => (if t.1 = 1 then (term_reader_num.f k t.2.1 t.2.2.1 t.2.2.2).bind fun u => term_Take.fin t.1 0 0 [u.1] [] [] u.2.2.1 u.2.2.2
    else if t.1 = 2 then (term_reader_list.f k t.2.1 t.2.2.1 t.2.2.2 16).bind fun u => (term_reader_list.f k u.2.1 u.2.2.1 (if u.2.2.2 = 0 then (if u.1.length = 0 then 3 else 0) else u.2.2.2) 16).bind fun v => term_Take.fin t.1 0 0 u.1 v.1 [] v.2.2.1 v.2.2.2
    else if t.1 = 3 then term_Take.fin t.1 0 0 [] [] [] t.2.2.1 t.2.2.2
    else if t.1 = 4 then (term_reader_num.f k t.2.1 t.2.2.1 t.2.2.2).bind fun u => (term_reader_num.f k u.2.1 u.2.2.1 u.2.2.2).bind fun v => (term_reader_num.f k v.2.1 v.2.2.1 v.2.2.2).bind fun x => (term_reader_list.f k x.2.1 x.2.2.1 x.2.2.2 16).bind fun y => (term_reader_list.f k y.2.1 y.2.2.1 y.2.2.2 16).bind fun z => term_Take.fin t.1 u.1 v.1 [x.1] z.1 y.1 z.2.2.1 z.2.2.2
    else term_Take.fin t.1 0 0 [] [] [] t.2.2.1 (if t.2.2.2 = 0 then 3 else t.2.2.2))
theorem term_Take.mono : ∀ a0 k, LeO (term_Take.f k a0) (term_Take.f (k + 1) a0) := by
  intro a0 k
  unfold term_Take.f
  refine LeO.bind (term_reader_num.mono _ _ _ _) (fun _ => LeO.ite (LeO.bind (term_reader_num.mono _ _ _ _) (fun _ => LeO.refl _)) (LeO.ite (LeO.bind (term_reader_list.mono _ _ _ _ _) (fun _ => LeO.bind (term_reader_list.mono _ _ _ _ _) (fun _ => LeO.refl _))) (LeO.ite (LeO.refl _) (LeO.ite (LeO.bind (term_reader_num.mono _ _ _ _) (fun _ => LeO.bind (term_reader_num.mono _ _ _ _) (fun _ => LeO.bind (term_reader_num.mono _ _ _ _) (fun _ => LeO.bind (term_reader_list.mono _ _ _ _ _) (fun _ => LeO.bind (term_reader_list.mono _ _ _ _ _) (fun _ => LeO.refl _)))))) (LeO.refl _)))))


end Go.Proofs.Ythhebinonpoddaa.GTermBack
