/- Written for this claim by gp.py, a program of this session's, over the kit's print. Lean checks it. -/
import Derived.Test.YtbjligkokogokaaGPoolPlaysx0
import Derived.Test.YtbjligkokogokaaGPoolPlayshx
import Derived.Test.YtbjligkokogokaaGPoolPlayshspPoolPlaysa
import Derived.WalkKit
import Derived.StillTailTactics
import Derived.Deep.LoopGhost
import Derived.KernelRfl
import Derived.Deep.OwnRows
import Derived.Laws.OwnMore
import Derived.Laws.MakeOwn
import Derived.Maps.AppendAt
import Derived.OrdersHeld
import Derived.LaidEql
import Derived.Conc.LoneCalls
import Derived.Conc.LoneSelect
import Derived.Conc.LoneSelectN
namespace Go.Proofs.Ytbjligkokogokaa.GPoolPlays
open Go.RowKit Go.Proofs.YtbjligkokogokaaW.PrintWords Go.Proofs.YtbjligkokogokaaW.PrintLast Go.Proofs.YtbjligkokogokaaW.PrintMore
attribute [local go_sem] max2_int min2_int max_two min_two max_three min_three max_four min_four   -- for this text's walks alone
set_option linter.unusedVariables false
set_option linter.unusedSimpArgs false

--import Derived.WalkKit
--import Derived.StillTailTactics
--import Derived.Deep.LoopGhost
--import Derived.KernelRfl
--import Derived.Deep.OwnRows
--import Derived.Laws.OwnMore
--import Derived.Laws.MakeOwn
--import Derived.Maps.AppendAt
--import Derived.OrdersHeld
--import Derived.LaidEql
--import Derived.Conc.LoneCalls
--import Derived.Conc.LoneSelect
--import Derived.Conc.LoneSelectN
attribute [local irreducible] wpStill wpList Code.wp TA
open Go.Conc
set_option maxRecDepth 100000 in
set_option maxHeartbeats 1000000 in
theorem pput_room (g c tb cap : Nat) (buf : List Int) (v : Int) (W : World) (M : Nat → Prop) (HS : St W M W [blk g [.chan (some c)] tb, chn c cap (buf.map fun n : Int => Value.int .i64 n)]) (hroom : buf.length < cap) : Calls Try.prog 16 #[.pointer (some ⟨g, 0, none⟩), .int .i64 v] W fun e W' => e = .returned (.bool true) ∧ St W M W' [blk g [.chan (some c)] tb, chn c cap ((buf ++ [v]).map fun n : Int => Value.int .i64 n)] := by
  have hcell := HS.cell (i := 0) (j := 0) rfl rfl
  obtain ⟨s, r, hc⟩ := HS.get (i := 1) rfl
  refine calls_of_loneTo (fun cs => ?_) (by rintro _ ⟨h, _⟩; cases h)
  have e : Frame.enter Try.prog 16 #[.pointer (some ⟨g, 0, none⟩), .int .i64 v] .normal = (base 16).at ⟨#[.pointer (some ⟨g, 0, none⟩), .int .i64 v, undef, undef, undef, undef, undef, undef, undef, undef, undef, undef, undef, undef, undef], []⟩ [.code (Try.f16.body.getD .skip)] := by
    simp [Frame.enter, Frame.at, Try.func16, base, Try.f16] <;> rfl
  rw [e]
  refine LoneTo.goes (n := 25) ?_
  simp only [Try.f16, Option.getD_some]
  s_c stepG_seq
  s_reg
  s_op
  s_c stepG_region_end
  s_c stepG_seq
  s_c stepG_seq
  s_reg
  s_op
  s_op
  s_c stepG_region_end
  s_cond false
  s_c stepG_skip
  s_c stepG_seq
  s_c stepG_seq
  s_reg
  s_op
  s_op
  s_op
  s_op
  s_c stepG_region_end
  s_reg
  s_op
  s_c stepG_region_end
  s_c stepG_seq
  s_reg
  s_stop
  refine LoneTo.step (step_lone_select_send_room (c := c) (cap := cap) (buf := (buf.map fun n : Int => Value.int .i64 n).toArray) (s := s) (r := r) (tm := false) (stepG_comm (cases := #[scase c (.int .i64 v) (.int .i64 0)]) (blocking := false) (shape := .select) (w' := W) rfl rfl (by decide) (by simp [go_sem, execOp, scase, Act.eval])) hc (by simpa using hroom)) ?_
  rw [Frame.finish_at]
  walk_nrm
  refine LoneTo.goes (n := 10) ?_
  s_op
  s_op
  s_c stepG_region_end
  s_c stepG_block
  s_cond true
  s_c stepG_seq
  s_reg
  s_op
  s_c stepG_region_end
  s_c stepG_ret'
  s_stop
  refine LoneTo.done ⟨.returned (.bool true), _, rfl, ⟨rfl, ?_⟩, rfl, rfl, rfl, rfl, _, Try.func16, by simp [results, Try.f16, Frame.at]⟩
  have h9 := HS.setChan (i := 1) rfl (((buf ++ [v]).map fun n : Int => Value.int .i64 n)) (s + 1) r
  simpa using h9

set_option maxRecDepth 100000 in
set_option maxHeartbeats 1000000 in
theorem pput_full (g c tb cap : Nat) (buf : List Int) (v : Int) (W : World) (M : Nat → Prop) (HS : St W M W [blk g [.chan (some c)] tb, chn c cap (buf.map fun n : Int => Value.int .i64 n)]) (hfull : cap ≤ buf.length) : Calls Try.prog 16 #[.pointer (some ⟨g, 0, none⟩), .int .i64 v] W fun e W' => e = .returned (.bool false) ∧ St W M W' [blk g [.chan (some c)] tb, chn c cap (buf.map fun n : Int => Value.int .i64 n)] := by
  have hcell := HS.cell (i := 0) (j := 0) rfl rfl
  obtain ⟨s, r, hc⟩ := HS.get (i := 1) rfl
  refine calls_of_loneTo (fun cs => ?_) (by rintro _ ⟨h, _⟩; cases h)
  have e : Frame.enter Try.prog 16 #[.pointer (some ⟨g, 0, none⟩), .int .i64 v] .normal = (base 16).at ⟨#[.pointer (some ⟨g, 0, none⟩), .int .i64 v, undef, undef, undef, undef, undef, undef, undef, undef, undef, undef, undef, undef, undef], []⟩ [.code (Try.f16.body.getD .skip)] := by
    simp [Frame.enter, Frame.at, Try.func16, base, Try.f16] <;> rfl
  rw [e]
  refine LoneTo.goes (n := 25) ?_
  simp only [Try.f16, Option.getD_some]
  s_c stepG_seq
  s_reg
  s_op
  s_c stepG_region_end
  s_c stepG_seq
  s_c stepG_seq
  s_reg
  s_op
  s_op
  s_c stepG_region_end
  s_cond false
  s_c stepG_skip
  s_c stepG_seq
  s_c stepG_seq
  s_reg
  s_op
  s_op
  s_op
  s_op
  s_c stepG_region_end
  s_reg
  s_op
  s_c stepG_region_end
  s_c stepG_seq
  s_reg
  s_stop
  refine LoneTo.step (step_lone_select_send_full (c := c) (cap := cap) (buf := (buf.map fun n : Int => Value.int .i64 n).toArray) (s := s) (r := r) (tm := false) (stepG_comm (cases := #[scase c (.int .i64 v) (.int .i64 0)]) (blocking := false) (shape := .select) (w' := W) rfl rfl (by decide) (by simp [go_sem, execOp, scase, Act.eval])) hc (by simpa using hfull)) ?_
  rw [Frame.finish_at]
  walk_nrm
  refine LoneTo.goes (n := 10) ?_
  s_op
  s_op
  s_c stepG_region_end
  s_c stepG_block
  s_cond false
  s_c stepG_seq
  s_reg
  s_op
  s_c stepG_region_end
  s_c stepG_ret'
  s_stop
  exact LoneTo.done ⟨.returned (.bool false), _, rfl, ⟨rfl, HS⟩, rfl, rfl, rfl, rfl, _, Try.func16, by simp [results, Try.f16, Frame.at]⟩

set_option maxRecDepth 100000 in
set_option maxHeartbeats 1000000 in
theorem pget_some (g c tb cap : Nat) (buf : List Int) (v : Int) (W : World) (M : Nat → Prop) (HS : St W M W [blk g [.chan (some c)] tb, chn c cap ((v :: buf).map fun n : Int => Value.int .i64 n)]) : Calls Try.prog 18 #[.pointer (some ⟨g, 0, none⟩)] W fun e W' => e = .returned (.tuple #[.int .i64 v, .bool true]) ∧ St W M W' [blk g [.chan (some c)] tb, chn c cap (buf.map fun n : Int => Value.int .i64 n)] := by
  have hcell := HS.cell (i := 0) (j := 0) rfl rfl
  obtain ⟨s, r, hc⟩ := HS.get (i := 1) rfl
  refine calls_of_loneTo (fun cs => ?_) (by rintro _ ⟨h, _⟩; cases h)
  have e : Frame.enter Try.prog 18 #[.pointer (some ⟨g, 0, none⟩)] .normal = (base 18).at ⟨#[.pointer (some ⟨g, 0, none⟩), undef, undef, undef, undef, undef, undef, undef, undef, undef, undef, undef, undef, undef, undef, undef, undef, undef, undef], []⟩ [.code (Try.f18.body.getD .skip)] := by
    simp [Frame.enter, Frame.at, Try.func18, base, Try.f18] <;> rfl
  rw [e]
  refine LoneTo.goes (n := 26) ?_
  simp only [Try.f18, Option.getD_some]
  s_c stepG_seq
  s_reg
  s_op
  s_op
  s_c stepG_region_end
  s_c stepG_seq
  s_reg
  s_op
  s_c stepG_region_end
  s_c stepG_seq
  s_c stepG_seq
  s_reg
  s_op
  s_op
  s_c stepG_region_end
  s_cond false
  s_c stepG_skip
  s_c stepG_seq
  s_reg
  s_op
  s_op
  s_op
  s_op
  s_c stepG_region_end
  s_c stepG_seq
  s_reg
  s_stop
  refine LoneTo.step (step_lone_select_recv_buf (c := c) (cap := cap) (buf := ((v :: buf).map fun n : Int => Value.int .i64 n).toArray) (s := s) (r := r) (tm := false) (stepG_comm (cases := #[rcase c (.int .i64 0)]) (blocking := false) (shape := .select) (w' := W) rfl rfl (by decide) (by simp [go_sem, execOp, rcase, Act.eval])) hc (by simp)) ?_
  rw [Frame.finish_at]
  walk_nrm
  refine LoneTo.goes (n := 17) ?_
  s_op
  s_op
  s_c stepG_region_end
  s_c stepG_block
  s_cond true
  s_c stepG_seq
  s_reg
  s_op
  s_op
  s_c stepG_region_end
  s_c stepG_seq
  s_reg
  s_op
  s_op
  s_op
  s_c stepG_region_end
  s_c stepG_ret'
  s_stop
  refine LoneTo.done ⟨.returned (.tuple #[.int .i64 v, .bool true]), _, rfl, ⟨rfl, ?_⟩, rfl, rfl, rfl, rfl, _, Try.func18, by simp [results, Try.f18, Frame.at]⟩
  have h9 := HS.setChan (i := 1) rfl ((buf.map fun n : Int => Value.int .i64 n)) s (r + 1)
  have ht : List.take buf.length (buf.map fun n : Int => Value.int .i64 n) = (buf.map fun n : Int => Value.int .i64 n) := List.take_of_length_le (by simp)
  simpa [ht] using h9

set_option maxRecDepth 100000 in
set_option maxHeartbeats 1000000 in
theorem pget_none (g c tb cap : Nat) (W : World) (M : Nat → Prop) (HS : St W M W [blk g [.chan (some c)] tb, chn c cap []]) : Calls Try.prog 18 #[.pointer (some ⟨g, 0, none⟩)] W fun e W' => e = .returned (.tuple #[.int .i64 0, .bool false]) ∧ St W M W' [blk g [.chan (some c)] tb, chn c cap []] := by
  have hcell := HS.cell (i := 0) (j := 0) rfl rfl
  obtain ⟨s, r, hc⟩ := HS.get (i := 1) rfl
  refine calls_of_loneTo (fun cs => ?_) (by rintro _ ⟨h, _⟩; cases h)
  have e : Frame.enter Try.prog 18 #[.pointer (some ⟨g, 0, none⟩)] .normal = (base 18).at ⟨#[.pointer (some ⟨g, 0, none⟩), undef, undef, undef, undef, undef, undef, undef, undef, undef, undef, undef, undef, undef, undef, undef, undef, undef, undef], []⟩ [.code (Try.f18.body.getD .skip)] := by
    simp [Frame.enter, Frame.at, Try.func18, base, Try.f18] <;> rfl
  rw [e]
  refine LoneTo.goes (n := 26) ?_
  simp only [Try.f18, Option.getD_some]
  s_c stepG_seq
  s_reg
  s_op
  s_op
  s_c stepG_region_end
  s_c stepG_seq
  s_reg
  s_op
  s_c stepG_region_end
  s_c stepG_seq
  s_c stepG_seq
  s_reg
  s_op
  s_op
  s_c stepG_region_end
  s_cond false
  s_c stepG_skip
  s_c stepG_seq
  s_reg
  s_op
  s_op
  s_op
  s_op
  s_c stepG_region_end
  s_c stepG_seq
  s_reg
  s_stop
  refine LoneTo.step (step_lone_select_default (c := c) (cap := cap) (s := s) (r := r) (tm := false) (stepG_comm (cases := #[rcase c (.int .i64 0)]) (blocking := false) (shape := .select) (w' := W) rfl rfl (by decide) (by simp [go_sem, execOp, rcase, Act.eval])) (by simpa using hc)) ?_
  rw [Frame.finish_at]
  walk_nrm
  refine LoneTo.goes (n := 12) ?_
  s_op
  s_op
  s_c stepG_region_end
  s_c stepG_block
  s_cond false
  s_c stepG_seq
  s_reg
  s_op
  s_op
  s_op
  s_c stepG_region_end
  s_c stepG_ret'
  s_stop
  exact LoneTo.done ⟨.returned (.tuple #[.int .i64 0, .bool false]), _, rfl, ⟨rfl, HS⟩, rfl, rfl, rfl, rfl, _, Try.func18, by simp [results, Try.f18, Frame.at]⟩

set_option maxRecDepth 100000 in
set_option maxHeartbeats 1000000 in
theorem pputS_room (g c tb cap : Nat) (buf : List ByteArray) (v : ByteArray) (W : World) (M : Nat → Prop) (HS : St W M W [blk g [.chan (some c)] tb, chn c cap (buf.map fun n : ByteArray => Value.string n)]) (hroom : buf.length < cap) : Calls Try.prog 11 #[.pointer (some ⟨g, 0, none⟩), .string v] W fun e W' => e = .returned (.bool true) ∧ St W M W' [blk g [.chan (some c)] tb, chn c cap ((buf ++ [v]).map fun n : ByteArray => Value.string n)] := by
  have hcell := HS.cell (i := 0) (j := 0) rfl rfl
  obtain ⟨s, r, hc⟩ := HS.get (i := 1) rfl
  refine calls_of_loneTo (fun cs => ?_) (by rintro _ ⟨h, _⟩; cases h)
  have e : Frame.enter Try.prog 11 #[.pointer (some ⟨g, 0, none⟩), .string v] .normal = (base 11).at ⟨#[.pointer (some ⟨g, 0, none⟩), .string v, undef, undef, undef, undef, undef, undef, undef, undef, undef, undef, undef, undef, undef], []⟩ [.code (Try.f11.body.getD .skip)] := by
    simp [Frame.enter, Frame.at, Try.func11, base, Try.f11] <;> rfl
  rw [e]
  refine LoneTo.goes (n := 25) ?_
  simp only [Try.f11, Option.getD_some]
  s_c stepG_seq
  s_reg
  s_op
  s_c stepG_region_end
  s_c stepG_seq
  s_c stepG_seq
  s_reg
  s_op
  s_op
  s_c stepG_region_end
  s_cond false
  s_c stepG_skip
  s_c stepG_seq
  s_c stepG_seq
  s_reg
  s_op
  s_op
  s_op
  s_op
  s_c stepG_region_end
  s_reg
  s_op
  s_c stepG_region_end
  s_c stepG_seq
  s_reg
  s_stop
  refine LoneTo.step (step_lone_select_send_room (c := c) (cap := cap) (buf := (buf.map fun n : ByteArray => Value.string n).toArray) (s := s) (r := r) (tm := false) (stepG_comm (cases := #[scase c (.string v) (.string ⟨#[]⟩)]) (blocking := false) (shape := .select) (w' := W) rfl rfl (by decide) (by simp [go_sem, execOp, scase, Act.eval])) hc (by simpa using hroom)) ?_
  rw [Frame.finish_at]
  walk_nrm
  refine LoneTo.goes (n := 10) ?_
  s_op
  s_op
  s_c stepG_region_end
  s_c stepG_block
  s_cond true
  s_c stepG_seq
  s_reg
  s_op
  s_c stepG_region_end
  s_c stepG_ret'
  s_stop
  refine LoneTo.done ⟨.returned (.bool true), _, rfl, ⟨rfl, ?_⟩, rfl, rfl, rfl, rfl, _, Try.func11, by simp [results, Try.f11, Frame.at]⟩
  have h9 := HS.setChan (i := 1) rfl (((buf ++ [v]).map fun n : ByteArray => Value.string n)) (s + 1) r
  simpa using h9

set_option maxRecDepth 100000 in
set_option maxHeartbeats 1000000 in
theorem pputS_full (g c tb cap : Nat) (buf : List ByteArray) (v : ByteArray) (W : World) (M : Nat → Prop) (HS : St W M W [blk g [.chan (some c)] tb, chn c cap (buf.map fun n : ByteArray => Value.string n)]) (hfull : cap ≤ buf.length) : Calls Try.prog 11 #[.pointer (some ⟨g, 0, none⟩), .string v] W fun e W' => e = .returned (.bool false) ∧ St W M W' [blk g [.chan (some c)] tb, chn c cap (buf.map fun n : ByteArray => Value.string n)] := by
  have hcell := HS.cell (i := 0) (j := 0) rfl rfl
  obtain ⟨s, r, hc⟩ := HS.get (i := 1) rfl
  refine calls_of_loneTo (fun cs => ?_) (by rintro _ ⟨h, _⟩; cases h)
  have e : Frame.enter Try.prog 11 #[.pointer (some ⟨g, 0, none⟩), .string v] .normal = (base 11).at ⟨#[.pointer (some ⟨g, 0, none⟩), .string v, undef, undef, undef, undef, undef, undef, undef, undef, undef, undef, undef, undef, undef], []⟩ [.code (Try.f11.body.getD .skip)] := by
    simp [Frame.enter, Frame.at, Try.func11, base, Try.f11] <;> rfl
  rw [e]
  refine LoneTo.goes (n := 25) ?_
  simp only [Try.f11, Option.getD_some]
  s_c stepG_seq
  s_reg
  s_op
  s_c stepG_region_end
  s_c stepG_seq
  s_c stepG_seq
  s_reg
  s_op
  s_op
  s_c stepG_region_end
  s_cond false
  s_c stepG_skip
  s_c stepG_seq
  s_c stepG_seq
  s_reg
  s_op
  s_op
  s_op
  s_op
  s_c stepG_region_end
  s_reg
  s_op
  s_c stepG_region_end
  s_c stepG_seq
  s_reg
  s_stop
  refine LoneTo.step (step_lone_select_send_full (c := c) (cap := cap) (buf := (buf.map fun n : ByteArray => Value.string n).toArray) (s := s) (r := r) (tm := false) (stepG_comm (cases := #[scase c (.string v) (.string ⟨#[]⟩)]) (blocking := false) (shape := .select) (w' := W) rfl rfl (by decide) (by simp [go_sem, execOp, scase, Act.eval])) hc (by simpa using hfull)) ?_
  rw [Frame.finish_at]
  walk_nrm
  refine LoneTo.goes (n := 10) ?_
  s_op
  s_op
  s_c stepG_region_end
  s_c stepG_block
  s_cond false
  s_c stepG_seq
  s_reg
  s_op
  s_c stepG_region_end
  s_c stepG_ret'
  s_stop
  exact LoneTo.done ⟨.returned (.bool false), _, rfl, ⟨rfl, HS⟩, rfl, rfl, rfl, rfl, _, Try.func11, by simp [results, Try.f11, Frame.at]⟩

set_option maxRecDepth 100000 in
set_option maxHeartbeats 1000000 in
theorem pgetS_some (g c tb cap : Nat) (buf : List ByteArray) (v : ByteArray) (W : World) (M : Nat → Prop) (HS : St W M W [blk g [.chan (some c)] tb, chn c cap ((v :: buf).map fun n : ByteArray => Value.string n)]) : Calls Try.prog 12 #[.pointer (some ⟨g, 0, none⟩)] W fun e W' => e = .returned (.tuple #[.string v, .bool true]) ∧ St W M W' [blk g [.chan (some c)] tb, chn c cap (buf.map fun n : ByteArray => Value.string n)] := by
  have hcell := HS.cell (i := 0) (j := 0) rfl rfl
  obtain ⟨s, r, hc⟩ := HS.get (i := 1) rfl
  refine calls_of_loneTo (fun cs => ?_) (by rintro _ ⟨h, _⟩; cases h)
  have e : Frame.enter Try.prog 12 #[.pointer (some ⟨g, 0, none⟩)] .normal = (base 12).at ⟨#[.pointer (some ⟨g, 0, none⟩), undef, undef, undef, undef, undef, undef, undef, undef, undef, undef, undef, undef, undef, undef, undef, undef, undef, undef], []⟩ [.code (Try.f12.body.getD .skip)] := by
    simp [Frame.enter, Frame.at, Try.func12, base, Try.f12] <;> rfl
  rw [e]
  refine LoneTo.goes (n := 26) ?_
  simp only [Try.f12, Option.getD_some]
  s_c stepG_seq
  s_reg
  s_op
  s_op
  s_c stepG_region_end
  s_c stepG_seq
  s_reg
  s_op
  s_c stepG_region_end
  s_c stepG_seq
  s_c stepG_seq
  s_reg
  s_op
  s_op
  s_c stepG_region_end
  s_cond false
  s_c stepG_skip
  s_c stepG_seq
  s_reg
  s_op
  s_op
  s_op
  s_op
  s_c stepG_region_end
  s_c stepG_seq
  s_reg
  s_stop
  refine LoneTo.step (step_lone_select_recv_buf (c := c) (cap := cap) (buf := ((v :: buf).map fun n : ByteArray => Value.string n).toArray) (s := s) (r := r) (tm := false) (stepG_comm (cases := #[rcase c (.string ⟨#[]⟩)]) (blocking := false) (shape := .select) (w' := W) rfl rfl (by decide) (by simp [go_sem, execOp, rcase, Act.eval])) hc (by simp)) ?_
  rw [Frame.finish_at]
  walk_nrm
  refine LoneTo.goes (n := 17) ?_
  s_op
  s_op
  s_c stepG_region_end
  s_c stepG_block
  s_cond true
  s_c stepG_seq
  s_reg
  s_op
  s_op
  s_c stepG_region_end
  s_c stepG_seq
  s_reg
  s_op
  s_op
  s_op
  s_c stepG_region_end
  s_c stepG_ret'
  s_stop
  refine LoneTo.done ⟨.returned (.tuple #[.string v, .bool true]), _, rfl, ⟨rfl, ?_⟩, rfl, rfl, rfl, rfl, _, Try.func12, by simp [results, Try.f12, Frame.at]⟩
  have h9 := HS.setChan (i := 1) rfl ((buf.map fun n : ByteArray => Value.string n)) s (r + 1)
  have ht : List.take buf.length (buf.map fun n : ByteArray => Value.string n) = (buf.map fun n : ByteArray => Value.string n) := List.take_of_length_le (by simp)
  simpa [ht] using h9


theorem pget_ne (g c cap : Nat) (xs : List Int) (W : World) (M : Nat → Prop) (HS : St W M W [blk g [.chan (some c)] 46, chn c cap (xs.map fun n : Int => Value.int .i64 n)]) (h : 0 < xs.length) : Calls Try.prog 18 #[.pointer (some ⟨g, 0, none⟩)] W fun e W' => e = .returned (.tuple #[.int .i64 (rdI xs 0), .bool true]) ∧ St W M W' [blk g [.chan (some c)] 46, chn c cap (xs.tail.map fun n : Int => Value.int .i64 n)] := by
  obtain ⟨v, ys, rfl⟩ : ∃ v ys, xs = v :: ys := by cases xs with | nil => simp at h | cons v ys => exact ⟨v, ys, rfl⟩
  have e : rdI (v :: ys) 0 = v := by unfold rdI; rfl
  rw [e]
  exact pget_some g c 46 cap ys v W M HS
theorem pget_nl (g c cap : Nat) (xs : List Int) (W : World) (M : Nat → Prop) (HS : St W M W [blk g [.chan (some c)] 46, chn c cap (xs.map fun n : Int => Value.int .i64 n)]) (h : xs.length = 0) : Calls Try.prog 18 #[.pointer (some ⟨g, 0, none⟩)] W fun e W' => e = .returned (.tuple #[.int .i64 0, .bool false]) ∧ St W M W' [blk g [.chan (some c)] 46, chn c cap (xs.map fun n : Int => Value.int .i64 n)] := by
  obtain rfl := List.eq_nil_of_length_eq_zero h
  exact pget_none g c 46 cap W M HS
theorem drop_step {xs q : List Int} {n : Int} (hq : q = xs.drop n.toNat) (h0 : 0 ≤ n) (hl : 0 < q.length) : q.tail = xs.drop (n + 1).toNat ∧ xs.take (n + 1).toNat = xs.take n.toNat ++ [rdI q 0] := by
  subst hq
  rw [List.length_drop] at hl
  have e : (n + 1).toNat = n.toNat + 1 := by omega
  have h3 : n.toNat < xs.length := by omega
  rw [e]
  refine ⟨by rw [List.tail_drop], ?_⟩
  rw [List.take_add_one, List.getElem?_eq_getElem h3]
  have : rdI (xs.drop n.toNat) 0 = xs[n.toNat] := by
    unfold rdI
    rw [List.getD_eq_getElem?_getD, List.getElem?_drop]
    simp [h3]
  rw [this]; rfl

set_option maxRecDepth 100000 in
set_option maxHeartbeats 1000000 in
theorem plen (g c cap : Nat) (xs : List Int) (W : World) (hcell : W.cell? ⟨g, 0, none⟩ = some (.chan (some c))) (hbuf : (chn c cap (xs.map fun n : Int => Value.int .i64 n)).P W) (hc : cap ≤ 65536) (hl : xs.length ≤ cap) : Calls Try.prog 7 #[.pointer (some ⟨g, 0, none⟩)] W fun e W' => e = .returned (.int .i64 (xs.length : Int)) ∧ St W (owns []) W' [] := by
  have HS : St W (owns []) W [] := St.start W _
  refine calls_enter [.pointer (some ⟨g, 0, none⟩), undef, undef, undef, undef, undef, undef, undef, undef, undef] Try.func7 rfl (by kernel_rfl) ?_
  refine wp_seq ?_
  refine wp_region_lit ?_
  refine ql (.int .i64 0) (by kernel_rfl) (by kernel_rfl) ?_
  refine wpList_nil ?_
  refine x_then ?_
  refine wp_seq ?_
  refine wp_seq ?_
  refine wp_region_lit ?_
  refine ql (.pointer (some ⟨g, 0, none⟩)) (by kernel_rfl) (by kernel_rfl) ?_
  refine ql (.bool false) (by kernel_rfl) (by kernel_rfl) ?_
  refine wpList_nil ?_
  refine x_then ?_
  refine wp_cond_false (by kernel_rfl) ?_
  refine wp_skip ?_
  refine x_then ?_
  refine wp_seq ?_
  refine wp_region_lit ?_
  refine ql (.pointer (some ⟨g, 0, none⟩)) (by kernel_rfl) (by kernel_rfl) ?_
  refine ql (.pointer (some ⟨g, 0, none⟩)) (by kernel_rfl) (by kernel_rfl) ?_
  refine ql (.pointer (some ⟨g, 0, none⟩)) (by kernel_rfl) (by kernel_rfl) ?_
  refine ql (.chan (some c)) (by kernel_rfl) (R_load (p := ⟨g, 0, none⟩) (by kernel_rfl) (by kernel_rfl) (by kernel_rfl) (HS.old0 hcell)) ?_
  refine ql (.int .i64 (xs.length : Int)) (by kernel_rfl) (R_eq (R_lenC (chn_k HS.kept.nil hbuf) (by kernel_rfl) Try.underlying44) (by rw [List.length_map])) ?_
  refine ql (.int .i64 (xs.length : Int)) (by kernel_rfl) (by kernel_rfl) ?_
  refine wpList_nil ?_
  refine x_then ?_
  refine wp_ret ?_
  refine ret_ (.int .i64 (xs.length : Int)) (by kernel_rfl) ?_
  exact ⟨rfl, HS⟩

set_option maxRecDepth 100000 in
set_option maxHeartbeats 1000000 in
theorem proom (g c cap : Nat) (xs : List Int) (W : World) (hcell : W.cell? ⟨g, 0, none⟩ = some (.chan (some c))) (hbuf : (chn c cap (xs.map fun n : Int => Value.int .i64 n)).P W) (hc : cap ≤ 65536) (hl : xs.length ≤ cap) : Calls Try.prog 8 #[.pointer (some ⟨g, 0, none⟩)] W fun e W' => e = .returned (.int .i64 ((cap : Int) - (xs.length : Int))) ∧ St W (owns []) W' [] := by
  have HS : St W (owns []) W [] := St.start W _
  refine calls_enter [.pointer (some ⟨g, 0, none⟩), undef, undef, undef, undef, undef, undef, undef, undef, undef, undef, undef, undef, undef, undef, undef] Try.func8 rfl (by kernel_rfl) ?_
  refine wp_seq ?_
  refine wp_region_lit ?_
  refine ql (.int .i64 0) (by kernel_rfl) (by kernel_rfl) ?_
  refine wpList_nil ?_
  refine x_then ?_
  refine wp_seq ?_
  refine wp_seq ?_
  refine wp_region_lit ?_
  refine ql (.pointer (some ⟨g, 0, none⟩)) (by kernel_rfl) (by kernel_rfl) ?_
  refine ql (.bool false) (by kernel_rfl) (by kernel_rfl) ?_
  refine wpList_nil ?_
  refine x_then ?_
  refine wp_cond_false (by kernel_rfl) ?_
  refine wp_skip ?_
  refine x_then ?_
  refine wp_seq ?_
  refine rg_still HS 11 (by kernel_rfl) (by kernel_rfl) ?_
  intro W1 H_ HK_
  simp only [List.take_succ_cons, List.take_zero, List.drop_succ_cons, List.drop_zero]
  replace HS : St W (owns []) W1 [] := H_
  clear H_
  clear HK_
  refine qs (.pointer (some ⟨g, 0, none⟩)) (by kernel_rfl) (by kernel_rfl) ?_
  refine qs (.pointer (some ⟨g, 0, none⟩)) (by kernel_rfl) (by kernel_rfl) ?_
  refine qs (.pointer (some ⟨g, 0, none⟩)) (by kernel_rfl) (by kernel_rfl) ?_
  refine qs (.chan (some c)) (by kernel_rfl) (R_load (p := ⟨g, 0, none⟩) (by kernel_rfl) (by kernel_rfl) (by kernel_rfl) (HS.old0 hcell)) ?_
  refine qs (.int .i64 (cap : Int)) (by kernel_rfl) (R_capC (chn_k HS.kept.nil hbuf) (by kernel_rfl) Try.underlying44) ?_
  refine qs (.pointer (some ⟨g, 0, none⟩)) (by kernel_rfl) (by kernel_rfl) ?_
  refine qs (.pointer (some ⟨g, 0, none⟩)) (by kernel_rfl) (by kernel_rfl) ?_
  refine qs (.pointer (some ⟨g, 0, none⟩)) (by kernel_rfl) (by kernel_rfl) ?_
  refine qs (.chan (some c)) (by kernel_rfl) (R_load (p := ⟨g, 0, none⟩) (by kernel_rfl) (by kernel_rfl) (by kernel_rfl) (HS.old0 hcell)) ?_
  refine qs (.int .i64 (xs.length : Int)) (by kernel_rfl) (R_eq (R_lenC (chn_k HS.kept.nil hbuf) (by kernel_rfl) Try.underlying44) (by rw [List.length_map])) ?_
  refine qs (.int .i64 ((cap : Int) - (xs.length : Int))) (by kernel_rfl) (R_int (by kernel_rfl) (w64 (by omega))) ?_
  refine wpStill_nil ?_
  refine ql (.int .i64 ((cap : Int) - (xs.length : Int))) (by kernel_rfl) (by kernel_rfl) ?_
  refine wpList_nil ?_
  refine x_then ?_
  refine wp_ret ?_
  refine ret_ (.int .i64 ((cap : Int) - (xs.length : Int))) (by kernel_rfl) ?_
  exact ⟨rfl, HS⟩

set_option maxRecDepth 100000 in
set_option maxHeartbeats 1000000 in
theorem pnew_arg (r : Int) (W : World) (hr : r < 1) : Calls Try.prog 5 #[.int .i64 r] W fun e W' => e = .returned (.tuple #[.pointer none, .int .i64 2]) ∧ St W (owns []) W' [] := by
  have HS : St W (owns []) W [] := St.start W _
  refine calls_enter [.int .i64 r, undef, undef, undef, undef, undef, undef, undef, undef, undef, undef, undef, undef, undef] Try.func5 rfl (by kernel_rfl) ?_
  refine wp_seq ?_
  refine wp_region_lit ?_
  refine ql (.pointer none) (by kernel_rfl) (by kernel_rfl) ?_
  refine ql (.int .i64 0) (by kernel_rfl) (by kernel_rfl) ?_
  refine wpList_nil ?_
  refine x_then ?_
  refine wp_seq ?_
  refine wp_block ?_
  refine wp_seq ?_
  refine wp_region_lit ?_
  refine ql (.int .i64 r) (by kernel_rfl) (by kernel_rfl) ?_
  refine ql (.bool true) (by kernel_rfl) (R_bool (p := r < (1 : Int)) (by kernel_rfl) (by omega)) ?_
  refine ql (.bool true) (by kernel_rfl) (by kernel_rfl) ?_
  refine wpList_nil ?_
  refine x_then ?_
  refine wp_cond_true (by kernel_rfl) ?_
  refine wp_seq ?_
  refine wp_region_lit ?_
  refine ql (.pointer none) (by kernel_rfl) (by kernel_rfl) ?_
  refine ql (.int .i64 2) (by kernel_rfl) (by kernel_rfl) ?_
  refine wpList_nil ?_
  refine x_then ?_
  refine wp_ret ?_
  refine x_inbR ?_
  refine x_thenR ?_
  refine ret_ (.tuple #[.pointer none, .int .i64 2]) (by kernel_rfl) ?_
  exact ⟨rfl, HS⟩

set_option maxRecDepth 100000 in
set_option maxHeartbeats 1000000 in
theorem pnew_over (r : Int) (W : World) (hr : 65536 < r) : Calls Try.prog 5 #[.int .i64 r] W fun e W' => e = .returned (.tuple #[.pointer none, .int .i64 5]) ∧ St W (owns []) W' [] := by
  have HS : St W (owns []) W [] := St.start W _
  refine calls_enter [.int .i64 r, undef, undef, undef, undef, undef, undef, undef, undef, undef, undef, undef, undef, undef] Try.func5 rfl (by kernel_rfl) ?_
  refine wp_seq ?_
  refine wp_region_lit ?_
  refine ql (.pointer none) (by kernel_rfl) (by kernel_rfl) ?_
  refine ql (.int .i64 0) (by kernel_rfl) (by kernel_rfl) ?_
  refine wpList_nil ?_
  refine x_then ?_
  refine wp_seq ?_
  refine wp_block ?_
  refine wp_seq ?_
  refine wp_region_lit ?_
  refine ql (.int .i64 r) (by kernel_rfl) (by kernel_rfl) ?_
  refine ql (.bool false) (by kernel_rfl) (R_nbool (p := r < (1 : Int)) (by kernel_rfl) (by omega)) ?_
  refine ql (.bool false) (by kernel_rfl) (by kernel_rfl) ?_
  refine wpList_nil ?_
  refine x_then ?_
  refine wp_cond_false (by kernel_rfl) ?_
  refine wp_seq ?_
  refine wp_region_lit ?_
  refine ql (.int .i64 r) (by kernel_rfl) (by kernel_rfl) ?_
  refine ql (.bool true) (by kernel_rfl) (R_bool (p := r > (65536 : Int)) (by kernel_rfl) (by omega)) ?_
  refine ql (.bool true) (by kernel_rfl) (by kernel_rfl) ?_
  refine wpList_nil ?_
  refine x_then ?_
  refine wp_cond_true (by kernel_rfl) ?_
  refine wp_seq ?_
  refine wp_region_lit ?_
  refine ql (.pointer none) (by kernel_rfl) (by kernel_rfl) ?_
  refine ql (.int .i64 5) (by kernel_rfl) (by kernel_rfl) ?_
  refine wpList_nil ?_
  refine x_then ?_
  refine wp_ret ?_
  refine x_inbR ?_
  refine x_thenR ?_
  refine ret_ (.tuple #[.pointer none, .int .i64 5]) (by kernel_rfl) ?_
  exact ⟨rfl, HS⟩

set_option maxRecDepth 100000 in
set_option maxHeartbeats 1000000 in
theorem pnew_ok (cap : Nat) (W : World) (h0 : 1 ≤ cap) (h1 : cap ≤ 65536) : Calls Try.prog 5 #[.int .i64 (cap : Int)] W fun e W' => ∃ g c, e = .returned (.tuple #[.pointer (some ⟨g, 0, none⟩), .int .i64 0]) ∧ St W (owns []) W' [blk g [.chan (some c)] 46, chn c cap (([] : List Int).map fun n : Int => Value.int .i64 n)] := by
  have HS : St W (owns []) W [] := St.start W _
  refine calls_enter [.int .i64 (cap : Int), undef, undef, undef, undef, undef, undef, undef, undef, undef, undef, undef, undef, undef] Try.func5 rfl (by kernel_rfl) ?_
  refine wp_seq ?_
  refine wp_region_lit ?_
  refine ql (.pointer none) (by kernel_rfl) (by kernel_rfl) ?_
  refine ql (.int .i64 0) (by kernel_rfl) (by kernel_rfl) ?_
  refine wpList_nil ?_
  refine x_then ?_
  refine wp_seq ?_
  refine wp_block ?_
  refine wp_seq ?_
  refine wp_region_lit ?_
  refine ql (.int .i64 (cap : Int)) (by kernel_rfl) (by kernel_rfl) ?_
  refine ql (.bool false) (by kernel_rfl) (R_nbool (p := (cap : Int) < (1 : Int)) (by kernel_rfl) (by omega)) ?_
  refine ql (.bool false) (by kernel_rfl) (by kernel_rfl) ?_
  refine wpList_nil ?_
  refine x_then ?_
  refine wp_cond_false (by kernel_rfl) ?_
  refine wp_seq ?_
  refine wp_region_lit ?_
  refine ql (.int .i64 (cap : Int)) (by kernel_rfl) (by kernel_rfl) ?_
  refine ql (.bool false) (by kernel_rfl) (R_nbool (p := (cap : Int) > (65536 : Int)) (by kernel_rfl) (by omega)) ?_
  refine ql (.bool false) (by kernel_rfl) (by kernel_rfl) ?_
  refine wpList_nil ?_
  refine x_then ?_
  refine wp_cond_false (by kernel_rfl) ?_
  refine wp_skip ?_
  refine x_inb ?_
  refine x_then ?_
  refine wp_seq ?_
  refine wp_region_lit ?_
  refine ql (.int .i64 (cap : Int)) (by kernel_rfl) (by kernel_rfl) ?_
  refine kmc (b := 8) HS (cap) (by kernel_rfl) (k_eq (k := .i64) (m := (cap : Int)) (by kernel_rfl) (by omega)) Try.underlying44 (by kernel_rfl) (by omega) (by decide) ?_
  intro c1 W2 H_
  replace HS : St W (owns []) W2 [chn c1 cap (([] : List Int).map fun n : Int => Value.int .i64 n)] := H_.cast_ (by rfl)
  clear H_
  refine ql (.agg #[.chan (some c1)]) (by kernel_rfl) (by kernel_rfl) ?_
  refine kb HS [.chan (some c1)] 46 (fun g => .pointer (some ⟨g, 0, none⟩)) (by kernel_rfl) (by kernel_rfl) ?_
  intro g3 W4 H_
  replace HS : St W (owns []) W4 [blk g3 [.chan (some c1)] 46, chn c1 cap (([] : List Int).map fun n : Int => Value.int .i64 n)] := H_
  clear H_
  refine ql (.pointer (some ⟨g3, 0, none⟩)) (by kernel_rfl) (by kernel_rfl) ?_
  refine ql (.int .i64 0) (by kernel_rfl) (by kernel_rfl) ?_
  refine wpList_nil ?_
  refine x_then ?_
  refine wp_ret ?_
  refine ret_ (.tuple #[.pointer (some ⟨g3, 0, none⟩), .int .i64 0]) (by kernel_rfl) ?_
  exact ⟨_, _, rfl, HS⟩

set_option maxRecDepth 100000 in
set_option maxHeartbeats 1000000 in
theorem plenS (g c cap : Nat) (xs : List ByteArray) (W : World) (hcell : W.cell? ⟨g, 0, none⟩ = some (.chan (some c))) (hbuf : (chn c cap (xs.map fun n : ByteArray => Value.string n)).P W) (hc : cap ≤ 65536) (hl : xs.length ≤ cap) : Calls Try.prog 13 #[.pointer (some ⟨g, 0, none⟩)] W fun e W' => e = .returned (.int .i64 (xs.length : Int)) ∧ St W (owns []) W' [] := by
  have HS : St W (owns []) W [] := St.start W _
  refine calls_enter [.pointer (some ⟨g, 0, none⟩), undef, undef, undef, undef, undef, undef, undef, undef, undef] Try.func13 rfl (by kernel_rfl) ?_
  refine wp_seq ?_
  refine wp_region_lit ?_
  refine ql (.int .i64 0) (by kernel_rfl) (by kernel_rfl) ?_
  refine wpList_nil ?_
  refine x_then ?_
  refine wp_seq ?_
  refine wp_seq ?_
  refine wp_region_lit ?_
  refine ql (.pointer (some ⟨g, 0, none⟩)) (by kernel_rfl) (by kernel_rfl) ?_
  refine ql (.bool false) (by kernel_rfl) (by kernel_rfl) ?_
  refine wpList_nil ?_
  refine x_then ?_
  refine wp_cond_false (by kernel_rfl) ?_
  refine wp_skip ?_
  refine x_then ?_
  refine wp_seq ?_
  refine wp_region_lit ?_
  refine ql (.pointer (some ⟨g, 0, none⟩)) (by kernel_rfl) (by kernel_rfl) ?_
  refine ql (.pointer (some ⟨g, 0, none⟩)) (by kernel_rfl) (by kernel_rfl) ?_
  refine ql (.pointer (some ⟨g, 0, none⟩)) (by kernel_rfl) (by kernel_rfl) ?_
  refine ql (.chan (some c)) (by kernel_rfl) (R_load (p := ⟨g, 0, none⟩) (by kernel_rfl) (by kernel_rfl) (by kernel_rfl) (HS.old0 hcell)) ?_
  refine ql (.int .i64 (xs.length : Int)) (by kernel_rfl) (R_eq (R_lenC (chn_k HS.kept.nil hbuf) (by kernel_rfl) Try.underlying56) (by rw [List.length_map])) ?_
  refine ql (.int .i64 (xs.length : Int)) (by kernel_rfl) (by kernel_rfl) ?_
  refine wpList_nil ?_
  refine x_then ?_
  refine wp_ret ?_
  refine ret_ (.int .i64 (xs.length : Int)) (by kernel_rfl) ?_
  exact ⟨rfl, HS⟩

set_option maxRecDepth 100000 in
set_option maxHeartbeats 1000000 in
theorem proomS (g c cap : Nat) (xs : List ByteArray) (W : World) (hcell : W.cell? ⟨g, 0, none⟩ = some (.chan (some c))) (hbuf : (chn c cap (xs.map fun n : ByteArray => Value.string n)).P W) (hc : cap ≤ 65536) (hl : xs.length ≤ cap) : Calls Try.prog 14 #[.pointer (some ⟨g, 0, none⟩)] W fun e W' => e = .returned (.int .i64 ((cap : Int) - (xs.length : Int))) ∧ St W (owns []) W' [] := by
  have HS : St W (owns []) W [] := St.start W _
  refine calls_enter [.pointer (some ⟨g, 0, none⟩), undef, undef, undef, undef, undef, undef, undef, undef, undef, undef, undef, undef, undef, undef, undef] Try.func14 rfl (by kernel_rfl) ?_
  refine wp_seq ?_
  refine wp_region_lit ?_
  refine ql (.int .i64 0) (by kernel_rfl) (by kernel_rfl) ?_
  refine wpList_nil ?_
  refine x_then ?_
  refine wp_seq ?_
  refine wp_seq ?_
  refine wp_region_lit ?_
  refine ql (.pointer (some ⟨g, 0, none⟩)) (by kernel_rfl) (by kernel_rfl) ?_
  refine ql (.bool false) (by kernel_rfl) (by kernel_rfl) ?_
  refine wpList_nil ?_
  refine x_then ?_
  refine wp_cond_false (by kernel_rfl) ?_
  refine wp_skip ?_
  refine x_then ?_
  refine wp_seq ?_
  refine rg_still HS 11 (by kernel_rfl) (by kernel_rfl) ?_
  intro W1 H_ HK_
  simp only [List.take_succ_cons, List.take_zero, List.drop_succ_cons, List.drop_zero]
  replace HS : St W (owns []) W1 [] := H_
  clear H_
  clear HK_
  refine qs (.pointer (some ⟨g, 0, none⟩)) (by kernel_rfl) (by kernel_rfl) ?_
  refine qs (.pointer (some ⟨g, 0, none⟩)) (by kernel_rfl) (by kernel_rfl) ?_
  refine qs (.pointer (some ⟨g, 0, none⟩)) (by kernel_rfl) (by kernel_rfl) ?_
  refine qs (.chan (some c)) (by kernel_rfl) (R_load (p := ⟨g, 0, none⟩) (by kernel_rfl) (by kernel_rfl) (by kernel_rfl) (HS.old0 hcell)) ?_
  refine qs (.int .i64 (cap : Int)) (by kernel_rfl) (R_capC (chn_k HS.kept.nil hbuf) (by kernel_rfl) Try.underlying56) ?_
  refine qs (.pointer (some ⟨g, 0, none⟩)) (by kernel_rfl) (by kernel_rfl) ?_
  refine qs (.pointer (some ⟨g, 0, none⟩)) (by kernel_rfl) (by kernel_rfl) ?_
  refine qs (.pointer (some ⟨g, 0, none⟩)) (by kernel_rfl) (by kernel_rfl) ?_
  refine qs (.chan (some c)) (by kernel_rfl) (R_load (p := ⟨g, 0, none⟩) (by kernel_rfl) (by kernel_rfl) (by kernel_rfl) (HS.old0 hcell)) ?_
  refine qs (.int .i64 (xs.length : Int)) (by kernel_rfl) (R_eq (R_lenC (chn_k HS.kept.nil hbuf) (by kernel_rfl) Try.underlying56) (by rw [List.length_map])) ?_
  refine qs (.int .i64 ((cap : Int) - (xs.length : Int))) (by kernel_rfl) (R_int (by kernel_rfl) (w64 (by omega))) ?_
  refine wpStill_nil ?_
  refine ql (.int .i64 ((cap : Int) - (xs.length : Int))) (by kernel_rfl) (by kernel_rfl) ?_
  refine wpList_nil ?_
  refine x_then ?_
  refine wp_ret ?_
  refine ret_ (.int .i64 ((cap : Int) - (xs.length : Int))) (by kernel_rfl) ?_
  exact ⟨rfl, HS⟩

set_option maxRecDepth 100000 in
set_option maxHeartbeats 1000000 in
theorem pnewS_ok (cap : Nat) (W : World) (h0 : 1 ≤ cap) (h1 : cap ≤ 65536) : Calls Try.prog 10 #[.int .i64 (cap : Int)] W fun e W' => ∃ g c, e = .returned (.tuple #[.pointer (some ⟨g, 0, none⟩), .int .i64 0]) ∧ St W (owns []) W' [blk g [.chan (some c)] 58, chn c cap (([] : List ByteArray).map fun n : ByteArray => Value.string n)] := by
  have HS : St W (owns []) W [] := St.start W _
  refine calls_enter [.int .i64 (cap : Int), undef, undef, undef, undef, undef, undef, undef, undef, undef, undef, undef, undef, undef] Try.func10 rfl (by kernel_rfl) ?_
  refine wp_seq ?_
  refine wp_region_lit ?_
  refine ql (.pointer none) (by kernel_rfl) (by kernel_rfl) ?_
  refine ql (.int .i64 0) (by kernel_rfl) (by kernel_rfl) ?_
  refine wpList_nil ?_
  refine x_then ?_
  refine wp_seq ?_
  refine wp_block ?_
  refine wp_seq ?_
  refine wp_region_lit ?_
  refine ql (.int .i64 (cap : Int)) (by kernel_rfl) (by kernel_rfl) ?_
  refine ql (.bool false) (by kernel_rfl) (R_nbool (p := (cap : Int) < (1 : Int)) (by kernel_rfl) (by omega)) ?_
  refine ql (.bool false) (by kernel_rfl) (by kernel_rfl) ?_
  refine wpList_nil ?_
  refine x_then ?_
  refine wp_cond_false (by kernel_rfl) ?_
  refine wp_seq ?_
  refine wp_region_lit ?_
  refine ql (.int .i64 (cap : Int)) (by kernel_rfl) (by kernel_rfl) ?_
  refine ql (.bool false) (by kernel_rfl) (R_nbool (p := (cap : Int) > (65536 : Int)) (by kernel_rfl) (by omega)) ?_
  refine ql (.bool false) (by kernel_rfl) (by kernel_rfl) ?_
  refine wpList_nil ?_
  refine x_then ?_
  refine wp_cond_false (by kernel_rfl) ?_
  refine wp_skip ?_
  refine x_inb ?_
  refine x_then ?_
  refine wp_seq ?_
  refine wp_region_lit ?_
  refine ql (.int .i64 (cap : Int)) (by kernel_rfl) (by kernel_rfl) ?_
  refine kmc (b := 16) HS (cap) (by kernel_rfl) (k_eq (k := .i64) (m := (cap : Int)) (by kernel_rfl) (by omega)) Try.underlying56 (by kernel_rfl) (by omega) (by decide) ?_
  intro c1 W2 H_
  replace HS : St W (owns []) W2 [chn c1 cap (([] : List ByteArray).map fun n : ByteArray => Value.string n)] := H_.cast_ (by rfl)
  clear H_
  refine ql (.agg #[.chan (some c1)]) (by kernel_rfl) (by kernel_rfl) ?_
  refine kb HS [.chan (some c1)] 58 (fun g => .pointer (some ⟨g, 0, none⟩)) (by kernel_rfl) (by kernel_rfl) ?_
  intro g3 W4 H_
  replace HS : St W (owns []) W4 [blk g3 [.chan (some c1)] 58, chn c1 cap (([] : List ByteArray).map fun n : ByteArray => Value.string n)] := H_
  clear H_
  refine ql (.pointer (some ⟨g3, 0, none⟩)) (by kernel_rfl) (by kernel_rfl) ?_
  refine ql (.int .i64 0) (by kernel_rfl) (by kernel_rfl) ?_
  refine wpList_nil ?_
  refine x_then ?_
  refine wp_ret ?_
  refine ret_ (.tuple #[.pointer (some ⟨g3, 0, none⟩), .int .i64 0]) (by kernel_rfl) ?_
  exact ⟨_, _, rfl, HS⟩


def actC (a : Int × Int) : List Value := [.int .i64 a.1, .int .i64 a.2]
set_option maxRecDepth 100000 in
set_option maxHeartbeats 1000000 in
theorem rpput_full (A : Option Addr) (c : Nat) (xs : List Int) (room n : Int) (W : World) (hr : Rd W A (ci .i64 xs)) (hl : xs.length ≤ 1099511627776) (hf : room ≤ xs.length) : Calls Try.prog 15 #[.agg #[.slice A xs.length c, .int .i64 room], .int .i64 n] W fun e W' => e = .returned (.tuple #[.agg #[.slice A xs.length c, .int .i64 room], .bool false]) ∧ St W (owns []) W' [] := by
  have HS : St W (owns []) W [] := St.start W _
  refine calls_enter [.agg #[.slice A xs.length c, .int .i64 room], .int .i64 n, undef, undef, undef, undef, undef, undef, undef, undef, undef, undef, undef, undef, undef, undef, undef, undef, undef, undef, undef, undef, undef, undef, undef, undef] Try.func15 rfl (by kernel_rfl) ?_
  refine wp_seq ?_
  refine wp_region_lit ?_
  refine kb HS [.slice A xs.length c, .int .i64 room] 30 (fun g => .pointer (some ⟨g, 0, none⟩)) (by kernel_rfl) (by kernel_rfl) ?_
  intro g1 W2 H_
  replace HS : St W (owns []) W2 [blk g1 [.slice A xs.length c, .int .i64 room] 30] := H_
  clear H_
  refine kb HS [.slice none 0 0, .int .i64 0] 30 (fun g => .pointer (some ⟨g, 0, none⟩)) (by kernel_rfl) (by kernel_rfl) ?_
  intro g3 W4 H_
  replace HS : St W (owns []) W4 [blk g3 [.slice none 0 0, .int .i64 0] 30, blk g1 [.slice A xs.length c, .int .i64 room] 30] := H_
  clear H_
  refine ql (.bool false) (by kernel_rfl) (by kernel_rfl) ?_
  refine wpList_nil ?_
  refine x_then ?_
  refine wp_seq ?_
  refine wp_seq ?_
  refine wp_region_lit ?_
  refine ql (.pointer (some ⟨g1, 0, none⟩)) (by kernel_rfl) (by kernel_rfl) ?_
  refine ql (.slice A xs.length c) (by kernel_rfl) (R_load (p := ⟨g1, 0, none⟩) (by kernel_rfl) (by kernel_rfl) (by kernel_rfl) (HS.cell (i := 1) (j := 0) rfl rfl)) ?_
  refine ql (.int .i64 (xs.length : Int)) (by kernel_rfl) (by kernel_rfl) ?_
  refine ql (.pointer (some ⟨g1, 1, none⟩)) (by kernel_rfl) (by kernel_rfl) ?_
  refine ql (.int .i64 room) (by kernel_rfl) (R_load (p := ⟨g1, 1, none⟩) (by kernel_rfl) (by kernel_rfl) (by kernel_rfl) (HS.cell (i := 1) (j := 1) rfl rfl)) ?_
  refine ql (.bool true) (by kernel_rfl) (R_bool (p := (xs.length : Int) ≥ room) (by kernel_rfl) (by omega)) ?_
  refine wpList_nil ?_
  refine x_then ?_
  refine wp_cond_true (by kernel_rfl) ?_
  refine wp_seq ?_
  refine wp_region_lit ?_
  refine ql (.agg #[.slice A xs.length c, .int .i64 room]) (by kernel_rfl) (R_loadN (p := ⟨g1, 0, none⟩) [.slice A xs.length c, .int .i64 room] (by kernel_rfl) (by kernel_rfl) (by kernel_rfl) (by kernel_rfl) (two_at (HS.cell (i := 1) (j := 0) rfl rfl) (HS.cell (i := 1) (j := 1) rfl rfl))) ?_
  refine ks (v := .agg #[.slice A xs.length c, .int .i64 room]) HS 0 rfl (0) [.slice A xs.length c, .int .i64 room] (by kernel_rfl) (by kernel_rfl) (by kernel_rfl) (by kernel_rfl) (by kernel_rfl) (one_ (by kernel_rfl)) (Nat.le_of_ble_eq_true rfl) rfl ?_
  intro W5 H_
  replace HS : St W (owns []) W5 [blk g3 [.slice A xs.length c, .int .i64 room] 30, blk g1 [.slice A xs.length c, .int .i64 room] 30] := H_
  clear H_
  refine ql (.bool false) (by kernel_rfl) (by kernel_rfl) ?_
  refine wpList_nil ?_
  refine x_then ?_
  refine wp_ret ?_
  refine x_thenR ?_
  refine ret_ (.tuple #[.agg #[.slice A xs.length c, .int .i64 room], .bool false]) (res2 rfl (oneRes_agg (p := ⟨g3, 0, none⟩) [.slice A xs.length c, .int .i64 room] (by kernel_rfl) (by kernel_rfl) (by kernel_rfl) (by kernel_rfl) (HS.cellsN (i := 0) rfl)) (oneRes_t (by kernel_rfl))) ?_
  exact ⟨rfl, HS.tail (F := [blk g3 [.slice A xs.length c, .int .i64 room] 30, blk g1 [.slice A xs.length c, .int .i64 room] 30])⟩

set_option maxRecDepth 100000 in
set_option maxHeartbeats 1000000 in
theorem rpput_room (A : Option Addr) (c : Nat) (xs : List Int) (room n : Int) (W : World) (hr : Rd W A (ci .i64 xs)) (hl : xs.length ≤ 1099511627776) (hf : xs.length < room) : Calls Try.prog 15 #[.agg #[.slice A xs.length c, .int .i64 room], .int .i64 n] W fun e W' => ∃ A' c', e = .returned (.tuple #[.agg #[.slice A' ((xs ++ [n]).length) c', .int .i64 room], .bool true]) ∧ St W (owns []) W' [row A' ((xs ++ [n]).length) c' (ci .i64 (xs ++ [n])) 3 1] := by
  have HS : St W (owns []) W [] := St.start W _
  refine calls_enter [.agg #[.slice A xs.length c, .int .i64 room], .int .i64 n, undef, undef, undef, undef, undef, undef, undef, undef, undef, undef, undef, undef, undef, undef, undef, undef, undef, undef, undef, undef, undef, undef, undef, undef] Try.func15 rfl (by kernel_rfl) ?_
  refine wp_seq ?_
  refine wp_region_lit ?_
  refine kb HS [.slice A xs.length c, .int .i64 room] 30 (fun g => .pointer (some ⟨g, 0, none⟩)) (by kernel_rfl) (by kernel_rfl) ?_
  intro g1 W2 H_
  replace HS : St W (owns []) W2 [blk g1 [.slice A xs.length c, .int .i64 room] 30] := H_
  clear H_
  refine kb HS [.slice none 0 0, .int .i64 0] 30 (fun g => .pointer (some ⟨g, 0, none⟩)) (by kernel_rfl) (by kernel_rfl) ?_
  intro g3 W4 H_
  replace HS : St W (owns []) W4 [blk g3 [.slice none 0 0, .int .i64 0] 30, blk g1 [.slice A xs.length c, .int .i64 room] 30] := H_
  clear H_
  refine ql (.bool false) (by kernel_rfl) (by kernel_rfl) ?_
  refine wpList_nil ?_
  refine x_then ?_
  refine wp_seq ?_
  refine wp_seq ?_
  refine wp_region_lit ?_
  refine ql (.pointer (some ⟨g1, 0, none⟩)) (by kernel_rfl) (by kernel_rfl) ?_
  refine ql (.slice A xs.length c) (by kernel_rfl) (R_load (p := ⟨g1, 0, none⟩) (by kernel_rfl) (by kernel_rfl) (by kernel_rfl) (HS.cell (i := 1) (j := 0) rfl rfl)) ?_
  refine ql (.int .i64 (xs.length : Int)) (by kernel_rfl) (by kernel_rfl) ?_
  refine ql (.pointer (some ⟨g1, 1, none⟩)) (by kernel_rfl) (by kernel_rfl) ?_
  refine ql (.int .i64 room) (by kernel_rfl) (R_load (p := ⟨g1, 1, none⟩) (by kernel_rfl) (by kernel_rfl) (by kernel_rfl) (HS.cell (i := 1) (j := 1) rfl rfl)) ?_
  refine ql (.bool false) (by kernel_rfl) (R_nbool (p := (xs.length : Int) ≥ room) (by kernel_rfl) (by omega)) ?_
  refine wpList_nil ?_
  refine x_then ?_
  refine wp_cond_false (by kernel_rfl) ?_
  refine wp_skip ?_
  refine x_then ?_
  refine wp_seq ?_
  refine wp_region_lit ?_
  refine kl HS 0 [] 3 1 (by kernel_rfl) (by kernel_rfl) rfl (by decide) ?_
  intro g5 W6 H_
  replace HS : St W (owns []) W6 [row (some ⟨g5, 0, none⟩) 0 0 (ci .i64 ([])) 3 1, blk g3 [.slice none 0 0, .int .i64 0] 30, blk g1 [.slice A xs.length c, .int .i64 room] 30] := H_.cast_ (by kernel_rfl)
  clear H_
  refine ql (.slice (some ⟨g5, 0, none⟩) 0 0) (by kernel_rfl) (by kernel_rfl) ?_
  refine wpList_nil ?_
  refine x_then ?_
  refine wp_seq ?_
  refine wp_region_lit ?_
  refine ql (.slice (some ⟨g5, 0, none⟩) 0 0) (by kernel_rfl) (by kernel_rfl) ?_
  refine ql (.pointer (some ⟨g1, 0, none⟩)) (by kernel_rfl) (by kernel_rfl) ?_
  refine ql (.slice A xs.length c) (by kernel_rfl) (R_load (p := ⟨g1, 0, none⟩) (by kernel_rfl) (by kernel_rfl) (by kernel_rfl) (HS.cell (i := 2) (j := 0) rfl rfl)) ?_
  obtain ⟨xs10, xs10_⟩ : ∃ z_ : List Int, z_ = ([]) ++ xs := ⟨_, rfl⟩
  have xs10l : xs10.length = 0 + xs.length := by rw [xs10_, List.length_append] <;> (try simp only [List.length_cons, List.length_nil]) <;> omega
  refine ka1 HS 0 rfl (Src.of_rd' (n := xs.length) (c := c) (z := 1) (hr.old0 HS) (by rw [ci_len]; omega) (by decide) ci_one) [.int .i64 0] 8 xs10.length (ci .i64 xs10) (by omega) (by rw [xs10_, ci_app]) (by kernel_rfl) (by kernel_rfl) (by kernel_rfl) Try.underlying28 (by kernel_rfl) (by kernel_rfl) (by kernel_rfl) (by kernel_rfl) (by decide) (by omega) (by omega) ?_
  intro A7 c8 W9 H_
  replace HS : St W (owns []) W9 [row A7 xs10.length c8 (ci .i64 xs10) 3 1, blk g3 [.slice none 0 0, .int .i64 0] 30, blk g1 [.slice A xs.length c, .int .i64 room] 30] := H_
  clear H_
  refine ql (.slice A7 xs10.length c8) (by kernel_rfl) (by kernel_rfl) ?_
  refine wpList_nil ?_
  refine x_then ?_
  refine wp_seq ?_
  refine t_start HS (fun k_ => (row A7 xs10.length c8 (ci .i64 xs10) 3 1).own k_ ∨ (blk g3 [.slice none 0 0, .int .i64 0] 30).own k_) 9 (by kernel_rfl) rfl ?_
  intro W11 H_ HD_
  clear HD_
  replace HS : St W (owns []) W11 [row A7 xs10.length c8 (ci .i64 xs10) 3 1, blk g3 [.slice none 0 0, .int .i64 0] 30, blk g1 [.slice A xs.length c, .int .i64 room] 30] := H_
  clear H_
  have HV := HS
  have HK := Kpt.refl (fun k_ => (row A7 xs10.length c8 (ci .i64 xs10) 3 1).own k_ ∨ (blk g3 [.slice none 0 0, .int .i64 0] 30).own k_) W11
  refine t_q (n := 8) 0 (.slice A7 xs10.length c8) rfl (by kernel_rfl) (by kernel_rfl) (fun _ _ _ h => h) (fun w' hk => (by kernel_rfl)) HK ?_
  refine t_q (n := 7) 1 (.int .i64 n) rfl (by kernel_rfl) (by kernel_rfl) (fun _ _ _ h => h) (fun w' hk => (by kernel_rfl)) HK ?_
  refine t_q (n := 6) 4 (.pointer (some ⟨g1, 1, none⟩)) rfl (by kernel_rfl) (by kernel_rfl) (fun _ _ _ h => h) (fun w' hk => (by kernel_rfl)) HK ?_
  refine t_q (n := 5) 5 (.int .i64 room) rfl (by kernel_rfl) (by kernel_rfl) (fun _ _ _ h => h) (fun w' hk => (R_load (p := ⟨g1, 1, none⟩) (by kernel_rfl) (by kernel_rfl) (by kernel_rfl) (hk.cellN (fun h_ => h_.elim (HV.sepB (a := 2) (b := 0) (by decide) rfl rfl) (HV.sepB (a := 2) (b := 1) (by decide) rfl rfl)) (HV.cell (i := 2) (j := 1) rfl rfl)))) HK ?_
  obtain ⟨g12, W13, hg_, hw_, H_, hk_⟩ := ex_lit HS 1 [.int .i64 n] 3 1 rfl (by decide)
  refine t_e (n := 4) 2 (.slice (some ⟨g12, 0, none⟩) 1 1) rfl (by kernel_rfl) (by kernel_rfl) (by subst hg_; subst hw_; kernel_rfl) (HK.tr hk_) ?_
  replace HK := HK.tr hk_
  clear hk_
  clear hg_ hw_
  replace HS : St W (owns []) W13 [row (some ⟨g12, 0, none⟩) 1 1 (ci .i64 ([n])) 3 1, row A7 xs10.length c8 (ci .i64 xs10) 3 1, blk g3 [.slice none 0 0, .int .i64 0] 30, blk g1 [.slice A xs.length c, .int .i64 room] 30] := H_.cast_ (by kernel_rfl)
  clear H_
  obtain ⟨xs17, xs17_⟩ : ∃ z_ : List Int, z_ = xs10 ++ ([n]) := ⟨_, rfl⟩
  have xs17l : xs17.length = xs10.length + 1 := by rw [xs17_, List.length_append] <;> (try simp only [List.length_cons, List.length_nil]) <;> omega
  obtain ⟨A14, c15, W16, hrun_, H_, hk_⟩ := ex_append (P := Try.prog) (ty := 28) (ps := "ref.go:17") (af := #[{ on := 0, ground := Go.Ground.data }, { on := 2, ground := Go.Ground.data }]) (gd := none) (dst := some 22) (t := 28) (s := (Go.Operand.tmp 19)) (x := (Go.Operand.tmp 21)) HS 1 rfl (Src.of_row HS (i := 0) rfl ci_one) [.int .i64 0] 8 xs17.length (ci .i64 xs17) (by omega) (by rw [xs17_, ci_app]) (by kernel_rfl) (by kernel_rfl) Try.underlying28 (by kernel_rfl) (by kernel_rfl) (by kernel_rfl) (by kernel_rfl) (by decide) (by omega) (by omega)
  refine t_e (n := 3) 3 (.slice A14 xs17.length c15) rfl (by kernel_rfl) (by kernel_rfl) hrun_ (HK.trans hk_ (fun _ h_ => .inl (.inl h_))) ?_
  replace HK := HK.trans hk_ (fun _ h_ => .inl (.inl h_))
  clear hk_ hrun_
  replace HS : St W (owns []) W16 [row (some ⟨g12, 0, none⟩) 1 1 (ci .i64 ([n])) 3 1, row A14 xs17.length c15 (ci .i64 xs17) 3 1, blk g3 [.slice none 0 0, .int .i64 0] 30, blk g1 [.slice A xs.length c, .int .i64 room] 30] := H_
  clear H_
  refine t_q (n := 2) 6 (.agg #[.slice A14 xs17.length c15, .int .i64 room]) rfl (by kernel_rfl) (by kernel_rfl) (fun _ _ _ h => h) (fun w' hk => (by kernel_rfl)) HK ?_
  obtain ⟨W18, hrun_, H_, hk_⟩ := ex_ks (P := Try.prog) (ty := 0) (ps := "ref.go:17") (af := #[{ on := 6, ground := Go.Ground.data }, { on := 3, ground := Go.Ground.chain }, { on := 0, ground := Go.Ground.phase }, { on := 1, ground := Go.Ground.phase }, { on := 2, ground := Go.Ground.phase }, { on := 3, ground := Go.Ground.phase }, { on := 4, ground := Go.Ground.phase }, { on := 5, ground := Go.Ground.phase }, { on := 6, ground := Go.Ground.phase }]) (gd := none) (t := 30) (x := (Go.Operand.tmp 4)) (y := (Go.Operand.tmp 25)) (v := .agg #[.slice A14 xs17.length c15, .int .i64 room]) HS 2 rfl (0) [.slice A14 xs17.length c15, .int .i64 room] (by kernel_rfl) (by kernel_rfl) (by kernel_rfl) (by kernel_rfl) (one_ (by kernel_rfl)) (Nat.le_of_ble_eq_true rfl)
  replace HK := HK.trans hk_ (fun _ h_ => .inl (.inr (blk_own h_)))
  refine t_s (n := 1) 7 rfl (by kernel_rfl) (by kernel_rfl) hrun_ HK ?_
  clear hk_ hrun_
  replace HS : St W (owns []) W18 [row (some ⟨g12, 0, none⟩) 1 1 (ci .i64 ([n])) 3 1, row A14 xs17.length c15 (ci .i64 xs17) 3 1, blk g3 [.slice A14 xs17.length c15, .int .i64 room] 30, blk g1 [.slice A xs.length c, .int .i64 room] 30] := H_
  clear H_
  refine t_q (n := 0) 8 (.bool true) rfl (by kernel_rfl) (by kernel_rfl) (fun _ _ _ h => h) (fun w' hk => (by kernel_rfl)) HK ?_
  refine t_done (by kernel_rfl) ?_
  clear HV HK
  refine x_then ?_
  refine wp_ret ?_
  refine ret_ (.tuple #[.agg #[.slice A14 xs17.length c15, .int .i64 room], .bool true]) (res2 rfl (oneRes_agg (p := ⟨g3, 0, none⟩) [.slice A14 xs17.length c15, .int .i64 room] (by kernel_rfl) (by kernel_rfl) (by kernel_rfl) (by kernel_rfl) (HS.cellsN (i := 2) rfl)) (oneRes_t (by kernel_rfl))) ?_
  replace HS : St W (owns []) W18 [row A14 xs17.length c15 (ci .i64 xs17) 3 1] := St.tail (F := [row (some ⟨g12, 0, none⟩) 1 1 (ci .i64 ([n])) 3 1, blk g3 [.slice A14 xs17.length c15, .int .i64 room] 30, blk g1 [.slice A xs.length c, .int .i64 room] 30]) (HS.perm (perm_ [0, 2, 3, 1] (by kernel_rfl) rfl))
  obtain rfl : xs17 = xs ++ [n] := by simp [xs17_, xs10_]
  exact ⟨_, _, rfl, HS⟩

set_option maxRecDepth 100000 in
set_option maxHeartbeats 1000000 in
theorem rpget_nil (A : Option Addr) (c : Nat) (xs : List Int) (room : Int) (W : World) (hr : Rd W A (ci .i64 xs)) (hn : xs.length = 0) (hl : xs.length ≤ 1099511627776) (hlc : xs.length ≤ c) : Calls Try.prog 17 #[.agg #[.slice A xs.length c, .int .i64 room]] W fun e W' => e = .returned (.tuple #[.agg #[.slice A xs.length c, .int .i64 room], .int .i64 0, .bool false]) ∧ St W (owns []) W' [] := by
  have HS : St W (owns []) W [] := St.start W _
  refine calls_enter [.agg #[.slice A xs.length c, .int .i64 room], undef, undef, undef, undef, undef, undef, undef, undef, undef, undef, undef, undef, undef, undef, undef, undef, undef, undef, undef] Try.func17 rfl (by kernel_rfl) ?_
  refine wp_seq ?_
  refine wp_region_lit ?_
  refine kb HS [.slice A xs.length c, .int .i64 room] 30 (fun g => .pointer (some ⟨g, 0, none⟩)) (by kernel_rfl) (by kernel_rfl) ?_
  intro g1 W2 H_
  replace HS : St W (owns []) W2 [blk g1 [.slice A xs.length c, .int .i64 room] 30] := H_
  clear H_
  refine kb HS [.slice none 0 0, .int .i64 0] 30 (fun g => .pointer (some ⟨g, 0, none⟩)) (by kernel_rfl) (by kernel_rfl) ?_
  intro g3 W4 H_
  replace HS : St W (owns []) W4 [blk g3 [.slice none 0 0, .int .i64 0] 30, blk g1 [.slice A xs.length c, .int .i64 room] 30] := H_
  clear H_
  refine ql (.int .i64 0) (by kernel_rfl) (by kernel_rfl) ?_
  refine ql (.bool false) (by kernel_rfl) (by kernel_rfl) ?_
  refine wpList_nil ?_
  refine x_then ?_
  refine wp_seq ?_
  refine wp_seq ?_
  refine wp_region_lit ?_
  refine ql (.pointer (some ⟨g1, 0, none⟩)) (by kernel_rfl) (by kernel_rfl) ?_
  refine ql (.slice A xs.length c) (by kernel_rfl) (R_load (p := ⟨g1, 0, none⟩) (by kernel_rfl) (by kernel_rfl) (by kernel_rfl) (HS.cell (i := 1) (j := 0) rfl rfl)) ?_
  refine ql (.int .i64 (xs.length : Int)) (by kernel_rfl) (by kernel_rfl) ?_
  refine ql (.bool true) (by kernel_rfl) (R_beq (b := ((xs.length : Int) == (0 : Int))) (by kernel_rfl) (beq_t (by omega))) ?_
  refine wpList_nil ?_
  refine x_then ?_
  refine wp_cond_true (by kernel_rfl) ?_
  refine wp_seq ?_
  refine wp_region_lit ?_
  refine ql (.agg #[.slice A xs.length c, .int .i64 room]) (by kernel_rfl) (R_loadN (p := ⟨g1, 0, none⟩) [.slice A xs.length c, .int .i64 room] (by kernel_rfl) (by kernel_rfl) (by kernel_rfl) (by kernel_rfl) (two_at (HS.cell (i := 1) (j := 0) rfl rfl) (HS.cell (i := 1) (j := 1) rfl rfl))) ?_
  refine ks (v := .agg #[.slice A xs.length c, .int .i64 room]) HS 0 rfl (0) [.slice A xs.length c, .int .i64 room] (by kernel_rfl) (by kernel_rfl) (by kernel_rfl) (by kernel_rfl) (by kernel_rfl) (one_ (by kernel_rfl)) (Nat.le_of_ble_eq_true rfl) rfl ?_
  intro W5 H_
  replace HS : St W (owns []) W5 [blk g3 [.slice A xs.length c, .int .i64 room] 30, blk g1 [.slice A xs.length c, .int .i64 room] 30] := H_
  clear H_
  refine ql (.int .i64 0) (by kernel_rfl) (by kernel_rfl) ?_
  refine ql (.bool false) (by kernel_rfl) (by kernel_rfl) ?_
  refine wpList_nil ?_
  refine x_then ?_
  refine wp_ret ?_
  refine x_thenR ?_
  refine ret_ (.tuple #[.agg #[.slice A xs.length c, .int .i64 room], .int .i64 0, .bool false]) (res3 rfl (oneRes_agg (p := ⟨g3, 0, none⟩) [.slice A xs.length c, .int .i64 room] (by kernel_rfl) (by kernel_rfl) (by kernel_rfl) (by kernel_rfl) (HS.cellsN (i := 0) rfl)) (oneRes_t (by kernel_rfl)) (oneRes_t (by kernel_rfl))) ?_
  exact ⟨rfl, HS.tail (F := [blk g3 [.slice A xs.length c, .int .i64 room] 30, blk g1 [.slice A xs.length c, .int .i64 room] 30])⟩

set_option maxRecDepth 100000 in
set_option maxHeartbeats 1000000 in
theorem rpget_some (A : Option Addr) (c : Nat) (xs : List Int) (room : Int) (W : World) (hr : Rd W A (ci .i64 xs)) (hn : 0 < xs.length) (hl : xs.length ≤ 1099511627776) (hlc : xs.length ≤ c) : Calls Try.prog 17 #[.agg #[.slice A xs.length c, .int .i64 room]] W fun e W' => e = .returned (.tuple #[.agg #[.slice (cutA A c 1 1) xs.tail.length (c - 1), .int .i64 room], .int .i64 (rdI xs 0), .bool true]) ∧ St W (owns []) W' [] := by
  have HS : St W (owns []) W [] := St.start W _
  refine calls_enter [.agg #[.slice A xs.length c, .int .i64 room], undef, undef, undef, undef, undef, undef, undef, undef, undef, undef, undef, undef, undef, undef, undef, undef, undef, undef, undef] Try.func17 rfl (by kernel_rfl) ?_
  refine wp_seq ?_
  refine wp_region_lit ?_
  refine kb HS [.slice A xs.length c, .int .i64 room] 30 (fun g => .pointer (some ⟨g, 0, none⟩)) (by kernel_rfl) (by kernel_rfl) ?_
  intro g1 W2 H_
  replace HS : St W (owns []) W2 [blk g1 [.slice A xs.length c, .int .i64 room] 30] := H_
  clear H_
  refine kb HS [.slice none 0 0, .int .i64 0] 30 (fun g => .pointer (some ⟨g, 0, none⟩)) (by kernel_rfl) (by kernel_rfl) ?_
  intro g3 W4 H_
  replace HS : St W (owns []) W4 [blk g3 [.slice none 0 0, .int .i64 0] 30, blk g1 [.slice A xs.length c, .int .i64 room] 30] := H_
  clear H_
  refine ql (.int .i64 0) (by kernel_rfl) (by kernel_rfl) ?_
  refine ql (.bool false) (by kernel_rfl) (by kernel_rfl) ?_
  refine wpList_nil ?_
  refine x_then ?_
  refine wp_seq ?_
  refine wp_seq ?_
  refine wp_region_lit ?_
  refine ql (.pointer (some ⟨g1, 0, none⟩)) (by kernel_rfl) (by kernel_rfl) ?_
  refine ql (.slice A xs.length c) (by kernel_rfl) (R_load (p := ⟨g1, 0, none⟩) (by kernel_rfl) (by kernel_rfl) (by kernel_rfl) (HS.cell (i := 1) (j := 0) rfl rfl)) ?_
  refine ql (.int .i64 (xs.length : Int)) (by kernel_rfl) (by kernel_rfl) ?_
  refine ql (.bool false) (by kernel_rfl) (R_beq (b := ((xs.length : Int) == (0 : Int))) (by kernel_rfl) (beq_f (by omega))) ?_
  refine wpList_nil ?_
  refine x_then ?_
  refine wp_cond_false (by kernel_rfl) ?_
  refine wp_skip ?_
  refine x_then ?_
  refine wp_seq ?_
  refine t_start HS (fun k_ => (blk g3 [.slice none 0 0, .int .i64 0] 30).own k_) 13 (by kernel_rfl) rfl ?_
  intro W5 H_ HD_
  clear HD_
  replace HS : St W (owns []) W5 [blk g3 [.slice none 0 0, .int .i64 0] 30, blk g1 [.slice A xs.length c, .int .i64 room] 30] := H_
  clear H_
  have HV := HS
  have HK := Kpt.refl (fun k_ => (blk g3 [.slice none 0 0, .int .i64 0] 30).own k_) W5
  refine t_q (n := 12) 0 (.pointer (some ⟨g1, 0, none⟩)) rfl (by kernel_rfl) (by kernel_rfl) (fun _ _ _ h => h) (fun w' hk => (by kernel_rfl)) HK ?_
  refine t_q (n := 11) 1 (.slice A xs.length c) rfl (by kernel_rfl) (by kernel_rfl) (fun _ _ _ h => h) (fun w' hk => (R_load (p := ⟨g1, 0, none⟩) (by kernel_rfl) (by kernel_rfl) (by kernel_rfl) (hk.cellN (HV.sepB (a := 1) (b := 0) (by decide) rfl rfl) (HV.cell (i := 1) (j := 0) rfl rfl)))) HK ?_
  refine t_q (n := 10) 2 (.slice (cutA A c 1 1) (xs.length - 1) (c - 1)) rfl (by kernel_rfl) (by kernel_rfl) (fun _ _ _ h => h) (fun w' hk => (R_sliceL (k := .i64) (A := A) (n := xs.length) (c := c) (i := 1) (by kernel_rfl) (by kernel_rfl) Try.underlying28 (by kernel_rfl) (by omega) (by omega))) HK ?_
  refine t_q (n := 9) 3 (.pointer (some ⟨g1, 1, none⟩)) rfl (by kernel_rfl) (by kernel_rfl) (fun _ _ _ h => h) (fun w' hk => (by kernel_rfl)) HK ?_
  refine t_q (n := 8) 4 (.int .i64 room) rfl (by kernel_rfl) (by kernel_rfl) (fun _ _ _ h => h) (fun w' hk => (R_load (p := ⟨g1, 1, none⟩) (by kernel_rfl) (by kernel_rfl) (by kernel_rfl) (hk.cellN (HV.sepB (a := 1) (b := 0) (by decide) rfl rfl) (HV.cell (i := 1) (j := 1) rfl rfl)))) HK ?_
  refine t_q (n := 7) 5 (.agg #[.slice (cutA A c 1 1) (xs.length - 1) (c - 1), .int .i64 room]) rfl (by kernel_rfl) (by kernel_rfl) (fun _ _ _ h => h) (fun w' hk => (by kernel_rfl)) HK ?_
  refine t_q (n := 6) 6 (.pointer (some ⟨g1, 0, none⟩)) rfl (by kernel_rfl) (by kernel_rfl) (fun _ _ _ h => h) (fun w' hk => (by kernel_rfl)) HK ?_
  refine t_q (n := 5) 7 (.slice A xs.length c) rfl (by kernel_rfl) (by kernel_rfl) (fun _ _ _ h => h) (fun w' hk => (R_load (p := ⟨g1, 0, none⟩) (by kernel_rfl) (by kernel_rfl) (by kernel_rfl) (hk.cellN (HV.sepB (a := 1) (b := 0) (by decide) rfl rfl) (HV.cell (i := 1) (j := 0) rfl rfl)))) HK ?_
  obtain ⟨ad6, rfl⟩ := Rd.isSome_ hr (by rw [ci_len]; omega)
  refine t_q (n := 4) 8 (.pointer (some (ad6.add 0))) rfl (by kernel_rfl) (by kernel_rfl) (fun _ _ _ h => h) (fun w' hk => (R_indexA1 (k := .i64) (p := ad6) (n := xs.length) (c := c) (i := 0) (by kernel_rfl) (by kernel_rfl) Try.underlying28 (by kernel_rfl) (by omega) (by omega))) HK ?_
  refine t_q (n := 3) 9 (.int .i64 (rdI xs 0)) rfl (by kernel_rfl) (by kernel_rfl) (fun _ _ _ h => h) (fun w' hk => (R_load (p := ad6.add 0) (by kernel_rfl) (by kernel_rfl) (by kernel_rfl) (hk.cellN (HV.oldSep (i := 0) rfl (hr.at_ (ci_rd (i := 0) (by omega) (by omega)))) (HV.old0 (hr.at_ (ci_rd (i := 0) (by omega) (by omega))))))) HK ?_
  obtain ⟨W7, hrun_, H_, hk_⟩ := ex_ks (P := Try.prog) (ty := 0) (ps := "ref.go:25") (af := #[{ on := 5, ground := Go.Ground.data }, { on := 0, ground := Go.Ground.phase }, { on := 1, ground := Go.Ground.phase }, { on := 2, ground := Go.Ground.phase }, { on := 3, ground := Go.Ground.phase }, { on := 4, ground := Go.Ground.phase }, { on := 5, ground := Go.Ground.phase }, { on := 6, ground := (Go.Ground.textOnly Go.Departure.lateStores) }, { on := 7, ground := (Go.Ground.textOnly Go.Departure.lateStores) }, { on := 8, ground := (Go.Ground.textOnly Go.Departure.lateStores) }, { on := 9, ground := (Go.Ground.textOnly Go.Departure.lateStores) }]) (gd := none) (t := 30) (x := (Go.Operand.tmp 2)) (y := (Go.Operand.tmp 15)) (v := .agg #[.slice (cutA (some ad6) c 1 1) (xs.length - 1) (c - 1), .int .i64 room]) HS 0 rfl (0) [.slice (cutA (some ad6) c 1 1) (xs.length - 1) (c - 1), .int .i64 room] (by kernel_rfl) (by kernel_rfl) (by kernel_rfl) (by kernel_rfl) (one_ (by kernel_rfl)) (Nat.le_of_ble_eq_true rfl)
  replace HK := HK.trans hk_ (fun _ h_ => .inl (blk_own h_))
  refine t_s (n := 2) 10 rfl (by kernel_rfl) (by kernel_rfl) hrun_ HK ?_
  clear hk_ hrun_
  replace HS : St W (owns []) W7 [blk g3 [.slice (cutA (some ad6) c 1 1) (xs.length - 1) (c - 1), .int .i64 room] 30, blk g1 [.slice (some ad6) xs.length c, .int .i64 room] 30] := H_
  clear H_
  refine t_q (n := 1) 11 (.int .i64 (rdI xs 0)) rfl (by kernel_rfl) (by kernel_rfl) (fun _ _ _ h => h) (fun w' hk => (by kernel_rfl)) HK ?_
  refine t_q (n := 0) 12 (.bool true) rfl (by kernel_rfl) (by kernel_rfl) (fun _ _ _ h => h) (fun w' hk => (by kernel_rfl)) HK ?_
  refine t_done (by kernel_rfl) ?_
  clear HV HK
  refine x_then ?_
  refine wp_ret ?_
  refine ret_ (.tuple #[.agg #[.slice (cutA (some ad6) c 1 1) (xs.length - 1) (c - 1), .int .i64 room], .int .i64 (rdI xs 0), .bool true]) (res3 rfl (oneRes_agg (p := ⟨g3, 0, none⟩) [.slice (cutA (some ad6) c 1 1) (xs.length - 1) (c - 1), .int .i64 room] (by kernel_rfl) (by kernel_rfl) (by kernel_rfl) (by kernel_rfl) (HS.cellsN (i := 0) rfl)) (oneRes_t (by kernel_rfl)) (oneRes_t (by kernel_rfl))) ?_
  exact ⟨by rw [List.length_tail], HS.tail (F := [blk g3 [.slice (cutA (some ad6) c 1 1) (xs.length - 1) (c - 1), .int .i64 room] 30, blk g1 [.slice (some ad6) xs.length c, .int .i64 room] 30])⟩

set_option maxRecDepth 100000 in
set_option maxHeartbeats 1000000 in
theorem pmove_same (g c cap : Nat) (xs : List Int) (W : World) (M : Nat → Prop) (HS : St W M W [blk g [.chan (some c)] 46, chn c cap (xs.map fun n : Int => Value.int .i64 n)]) : Calls Try.prog 9 #[.pointer (some ⟨g, 0, none⟩), .pointer (some ⟨g, 0, none⟩)] W fun e W' => e = .returned (.int .i64 0) ∧ St W M W' [blk g [.chan (some c)] 46, chn c cap (xs.map fun n : Int => Value.int .i64 n)] := by
  refine calls_enter [.pointer (some ⟨g, 0, none⟩), .pointer (some ⟨g, 0, none⟩), undef, undef, undef, undef, undef, undef, undef, undef, undef, undef, undef, undef, undef, undef, undef, undef, undef, undef, undef, undef, undef, undef, undef, undef, undef, undef, undef] Try.func9 rfl (by kernel_rfl) ?_
  refine wp_seq ?_
  refine wp_region_lit ?_
  refine ql (.int .i64 0) (by kernel_rfl) (by kernel_rfl) ?_
  refine wpList_nil ?_
  refine x_then ?_
  refine wp_seq ?_
  refine wp_region_lit ?_
  refine ql (.int .i64 0) (by kernel_rfl) (by kernel_rfl) ?_
  refine wpList_nil ?_
  refine x_then ?_
  refine wp_seq ?_
  refine wp_block ?_
  refine wp_loop_ghost (fun kq a' w' => ∃ (J1 : Nat → Value) (u : Int) , a' = Fr [.pointer (some ⟨g, 0, none⟩), .pointer (some ⟨g, 0, none⟩), undef, undef, .int .i64 0, .int .i64 0, (J1 6), (J1 7), (J1 8), (J1 9), (J1 10), (J1 11), (J1 12), (J1 13), (J1 14), (J1 15), (J1 16), (J1 17), (J1 18), (J1 19), (J1 20), (J1 21), (J1 22), (J1 23), (J1 24), (J1 25), (J1 26), (J1 27), undef] ∧ kq = (0) ∧ St W M w' [blk g [.chan (some c)] 46, chn c cap (xs.map fun n : Int => Value.int .i64 n)]) (0) ⟨(fun k_ : Nat => List.getD [.pointer (some ⟨g, 0, none⟩), .pointer (some ⟨g, 0, none⟩), undef, undef, .int .i64 0, .int .i64 0, undef, undef, undef, undef, undef, undef, undef, undef, undef, undef, undef, undef, undef, undef, undef, undef, undef, undef, undef, undef, undef, undef, undef] k_ undef), (0 : Int), congrArg Fr (by kernel_rfl), rfl, HS⟩ ?_
  clear HS
  intro kq2 a' W3 hrel
  obtain ⟨J1, u, rfl, hk, HS⟩ := hrel
  refine wp_seq ?_
  refine wp_seq ?_
  refine wp_region_lit ?_
  refine ql (.pointer (some ⟨g, 0, none⟩)) (by kernel_rfl) (by kernel_rfl) ?_
  refine ql (.pointer (some ⟨g, 0, none⟩)) (by kernel_rfl) (by kernel_rfl) ?_
  refine ql (.bool false) (by kernel_rfl) (R_pneqF (p := ⟨g, 0, none⟩) (t := 24) (e := 46) (z := 1) (by kernel_rfl) (by kernel_rfl) Try.underlying24 (by kernel_rfl) (by decide)) ?_
  refine ql (.bool false) (by kernel_rfl) (by kernel_rfl) ?_
  refine qln (by kernel_rfl) ?_
  refine qln (by kernel_rfl) ?_
  refine qln (by kernel_rfl) ?_
  refine ql (.bool false) (by kernel_rfl) (by kernel_rfl) ?_
  refine wpList_nil ?_
  refine x_then ?_
  refine wp_cond_false (by kernel_rfl) ?_
  refine wp_exit ?_
  refine x_thenE ?_
  refine x_thenE ?_
  refine x_hit ?_
  refine x_then ?_
  refine wp_seq ?_
  refine wp_region_lit ?_
  refine ql (.int .i64 0) (by kernel_rfl) (by kernel_rfl) ?_
  refine ql (.int .i64 0) (by kernel_rfl) (by kernel_rfl) ?_
  refine wpList_nil ?_
  refine x_then ?_
  refine wp_ret ?_
  refine ret_ (.int .i64 0) (by kernel_rfl) ?_
  exact ⟨rfl, HS⟩

set_option maxRecDepth 100000 in
set_option maxHeartbeats 1000000 in
theorem pmove (g c ca h d cb : Nat) (xs ys : List Int) (W : World) (M : Nat → Prop) (HS : St W M W [blk g [.chan (some c)] 46, chn c ca (xs.map fun n : Int => Value.int .i64 n), blk h [.chan (some d)] 46, chn d cb (ys.map fun n : Int => Value.int .i64 n)]) (hb : cb ≤ 65536) (hx : xs.length ≤ 65536) (hy : ys.length ≤ cb) : Calls Try.prog 9 #[.pointer (some ⟨g, 0, none⟩), .pointer (some ⟨h, 0, none⟩)] W fun e W' => e = .returned (.int .i64 ((min xs.length (cb - ys.length)) : Nat)) ∧ St W M W' [blk g [.chan (some c)] 46, chn c ca ((xs.drop (min xs.length (cb - ys.length))).map fun n : Int => Value.int .i64 n), blk h [.chan (some d)] 46, chn d cb ((ys ++ xs.take (min xs.length (cb - ys.length))).map fun n : Int => Value.int .i64 n)] := by
  refine calls_enter [.pointer (some ⟨g, 0, none⟩), .pointer (some ⟨h, 0, none⟩), undef, undef, undef, undef, undef, undef, undef, undef, undef, undef, undef, undef, undef, undef, undef, undef, undef, undef, undef, undef, undef, undef, undef, undef, undef, undef, undef] Try.func9 rfl (by kernel_rfl) ?_
  refine wp_seq ?_
  refine wp_region_lit ?_
  refine ql (.int .i64 0) (by kernel_rfl) (by kernel_rfl) ?_
  refine wpList_nil ?_
  refine x_then ?_
  refine wp_seq ?_
  refine wp_region_lit ?_
  refine ql (.int .i64 0) (by kernel_rfl) (by kernel_rfl) ?_
  refine wpList_nil ?_
  refine x_then ?_
  refine wp_seq ?_
  refine wp_block ?_
  refine wp_loop_ghost (fun kq a' w' => ∃ (J1 : Nat → Value) (n : Int) (q : List Int) (r : List Int) , a' = Fr [.pointer (some ⟨g, 0, none⟩), .pointer (some ⟨h, 0, none⟩), undef, undef, .int .i64 0, .int .i64 n, (J1 6), (J1 7), (J1 8), (J1 9), (J1 10), (J1 11), (J1 12), (J1 13), (J1 14), (J1 15), (J1 16), (J1 17), (J1 18), (J1 19), (J1 20), (J1 21), (J1 22), (J1 23), (J1 24), (J1 25), (J1 26), (J1 27), undef] ∧ kq = (xs.length - (n).toNat) ∧ (q = xs.drop (n).toNat) ∧ (r = ys ++ xs.take (n).toNat) ∧ (0 ≤ n) ∧ (n ≤ xs.length) ∧ (ys.length + n ≤ cb) ∧ St W M w' [blk g [.chan (some c)] 46, chn c ca (q.map fun n : Int => Value.int .i64 n), blk h [.chan (some d)] 46, chn d cb (r.map fun n : Int => Value.int .i64 n)]) (xs.length - ((0 : Int)).toNat) ⟨(fun k_ : Nat => List.getD [.pointer (some ⟨g, 0, none⟩), .pointer (some ⟨h, 0, none⟩), undef, undef, .int .i64 0, .int .i64 0, undef, undef, undef, undef, undef, undef, undef, undef, undef, undef, undef, undef, undef, undef, undef, undef, undef, undef, undef, undef, undef, undef, undef] k_ undef), (0 : Int), xs, ys, congrArg Fr (by kernel_rfl), rfl, by simp, by simp, by omega, by omega, by omega, HS⟩ ?_
  clear HS
  intro kq2 a' W3 hrel
  obtain ⟨J1, n, q, r, rfl, hk, hq, hr, n0, n1, n2, HS⟩ := hrel
  have hrl := congrArg List.length hr; rw [List.length_append, List.length_take] at hrl
  have hql := congrArg List.length hq; rw [List.length_drop] at hql
  refine wp_seq ?_
  refine wp_seq ?_
  refine wp_region_lit ?_
  refine ql (.pointer (some ⟨g, 0, none⟩)) (by kernel_rfl) (by kernel_rfl) ?_
  refine ql (.pointer (some ⟨h, 0, none⟩)) (by kernel_rfl) (by kernel_rfl) ?_
  refine ql (.bool true) (by kernel_rfl) (R_pneq (i := 0) (k := 2) (t := 24) (e := 46) (z := 1) HS (by decide) rfl rfl (by kernel_rfl) (by kernel_rfl) Try.underlying24 (by kernel_rfl) (by decide)) ?_
  refine ql (.bool true) (by kernel_rfl) (by kernel_rfl) ?_
  refine ql (.pointer (some ⟨h, 0, none⟩)) (by kernel_rfl) (by kernel_rfl) ?_
  refine qc (f := 8) (args := #[.pointer (some ⟨h, 0, none⟩)]) (by kernel_rfl) (R_call #[.pointer (some ⟨h, 0, none⟩)] Try.func8 (by kernel_rfl) (by kernel_rfl) (by kernel_rfl)) ?_
  refine (proom h d cb r _ (HS.cell (i := 2) (j := 0) rfl rfl) (HS.get (i := 3) rfl) hb (by omega)).mono ?_
  rintro e W4 ⟨rfl, H_⟩
  refine ⟨_, rfl, ?_⟩
  replace HS : St W M W4 [blk g [.chan (some c)] 46, chn c ca (q.map fun n : Int => Value.int .i64 n), blk h [.chan (some d)] 46, chn d cb (r.map fun n : Int => Value.int .i64 n)] := HS.join (F := []) (G := []) H_
  clear H_
  by_cases hc5 : ((cb : Int) - (r.length : Int)) > (0 : Int)
  · skip
    refine ql (.bool true) (by kernel_rfl) (R_bool (p := ((cb : Int) - (r.length : Int)) > (0 : Int)) (by kernel_rfl) (hc5)) ?_
    refine ql (.bool true) (by kernel_rfl) (by kernel_rfl) ?_
    refine wpList_nil ?_
    refine x_then ?_
    refine wp_cond_true (by kernel_rfl) ?_
    refine wp_skip ?_
    refine x_then ?_
    refine wp_block ?_
    refine wp_seq ?_
    refine wp_region_lit ?_
    refine ql (.pointer (some ⟨g, 0, none⟩)) (by kernel_rfl) (by kernel_rfl) ?_
    refine qc (f := 18) (args := #[.pointer (some ⟨g, 0, none⟩)]) (by kernel_rfl) (R_call #[.pointer (some ⟨g, 0, none⟩)] Try.func18 (by kernel_rfl) (by kernel_rfl) (by kernel_rfl)) ?_
    by_cases hq0 : 0 < q.length
    · skip
      refine (pget_ne g c ca q _ _ (St.focus (F := [blk g [.chan (some c)] 46, chn c ca (q.map fun n : Int => Value.int .i64 n)]) HS) hq0).mono ?_
      rintro e W6 ⟨rfl, H_⟩
      refine ⟨_, rfl, ?_⟩
      replace HS : St W M W6 [blk g [.chan (some c)] 46, chn c ca (q.tail.map fun n : Int => Value.int .i64 n), blk h [.chan (some d)] 46, chn d cb (r.map fun n : Int => Value.int .i64 n)] := HS.join (F := [blk g [.chan (some c)] 46, chn c ca (q.map fun n : Int => Value.int .i64 n)]) (G := [blk g [.chan (some c)] 46, chn c ca (q.tail.map fun n : Int => Value.int .i64 n)]) H_
      clear H_
      refine ql (.tuple #[.int .i64 (rdI q 0), .bool true]) (by kernel_rfl) (by kernel_rfl) ?_
      refine ql (.int .i64 (rdI q 0)) (by kernel_rfl) (by kernel_rfl) ?_
      refine ql (.bool true) (by kernel_rfl) (by kernel_rfl) ?_
      refine ql (.int .i64 (rdI q 0)) (by kernel_rfl) (by kernel_rfl) ?_
      refine ql (.bool true) (by kernel_rfl) (by kernel_rfl) ?_
      refine wpList_nil ?_
      refine x_then ?_
      refine wp_seq ?_
      refine wp_seq ?_
      refine wp_region_lit ?_
      refine ql (.bool true) (by kernel_rfl) (by kernel_rfl) ?_
      refine ql (.bool false) (by kernel_rfl) (by kernel_rfl) ?_
      refine wpList_nil ?_
      refine x_then ?_
      refine wp_cond_false (by kernel_rfl) ?_
      refine wp_skip ?_
      refine x_then ?_
      refine wp_seq ?_
      refine wp_region_lit ?_
      refine ql (.pointer (some ⟨h, 0, none⟩)) (by kernel_rfl) (by kernel_rfl) ?_
      refine ql (.int .i64 (rdI q 0)) (by kernel_rfl) (by kernel_rfl) ?_
      refine qc (f := 16) (args := #[.pointer (some ⟨h, 0, none⟩), .int .i64 (rdI q 0)]) (by kernel_rfl) (R_call #[.pointer (some ⟨h, 0, none⟩), .int .i64 (rdI q 0)] Try.func16 (by kernel_rfl) (by kernel_rfl) (by kernel_rfl)) ?_
      replace HS : St W M W6 [blk h [.chan (some d)] 46, chn d cb (r.map fun n : Int => Value.int .i64 n), blk g [.chan (some c)] 46, chn c ca (q.tail.map fun n : Int => Value.int .i64 n)] := HS.perm (perm_ [2, 3, 0, 1] (by kernel_rfl) rfl)
      refine (pput_room h d 46 cb r (rdI q 0) _ _ (St.focus (F := [blk h [.chan (some d)] 46, chn d cb (r.map fun n : Int => Value.int .i64 n)]) HS) (by omega)).mono ?_
      rintro e W7 ⟨rfl, H_⟩
      refine ⟨_, rfl, ?_⟩
      replace HS : St W M W7 [blk h [.chan (some d)] 46, chn d cb ((r ++ [rdI q 0]).map fun n : Int => Value.int .i64 n), blk g [.chan (some c)] 46, chn c ca (q.tail.map fun n : Int => Value.int .i64 n)] := HS.join (F := [blk h [.chan (some d)] 46, chn d cb (r.map fun n : Int => Value.int .i64 n)]) (G := [blk h [.chan (some d)] 46, chn d cb ((r ++ [rdI q 0]).map fun n : Int => Value.int .i64 n)]) H_
      clear H_
      replace HS : St W M W7 [blk g [.chan (some c)] 46, chn c ca (q.tail.map fun n : Int => Value.int .i64 n), blk h [.chan (some d)] 46, chn d cb ((r ++ [rdI q 0]).map fun n : Int => Value.int .i64 n)] := HS.perm (perm_ [2, 3, 0, 1] (by kernel_rfl) rfl)
      refine wpList_nil ?_
      refine x_then ?_
      refine wp_region_lit ?_
      refine ql (.int .i64 n) (by kernel_rfl) (by kernel_rfl) ?_
      refine ql (.int .i64 (n + 1)) (by kernel_rfl) (R_int (by kernel_rfl) (w64 (by omega))) ?_
      refine ql (.int .i64 (n + 1)) (by kernel_rfl) (by kernel_rfl) ?_
      refine wpList_nil ?_
      refine x_inb ?_
      have hds := drop_step hq n0 hq0
      have hrr : r ++ [rdI q 0] = ys ++ xs.take (n + 1).toNat := by rw [hds.2, hr, List.append_assoc]
      have hql := congrArg List.length hq; rw [List.length_drop] at hql
      refine x_then ?_
      exact ⟨xs.length - (n + 1).toNat, by omega, (fun k_ : Nat => List.getD [.pointer (some ⟨g, 0, none⟩), .pointer (some ⟨h, 0, none⟩), undef, undef, .int .i64 0, .int .i64 (n + 1), .int .i64 (rdI q 0), .bool true, .pointer (some ⟨g, 0, none⟩), .pointer (some ⟨h, 0, none⟩), .bool true, .bool true, .pointer (some ⟨h, 0, none⟩), .int .i64 ((cb : Int) - (r.length : Int)), .bool true, .bool true, .tuple #[.int .i64 (rdI q 0), .bool true], .pointer (some ⟨g, 0, none⟩), .tuple #[.int .i64 (rdI q 0), .bool true], .int .i64 (rdI q 0), .bool true, .bool true, .bool false, .pointer (some ⟨h, 0, none⟩), .int .i64 (rdI q 0), .bool true, .int .i64 n, .int .i64 (n + 1), undef] k_ undef), n + 1, q.tail, (r ++ [rdI q 0]), congrArg Fr (by kernel_rfl), rfl, hds.1, hrr, by omega, by omega, by omega, HS⟩
    · skip
      refine (pget_nl g c ca q _ _ (St.focus (F := [blk g [.chan (some c)] 46, chn c ca (q.map fun n : Int => Value.int .i64 n)]) HS) (by omega)).mono ?_
      rintro e W8 ⟨rfl, H_⟩
      refine ⟨_, rfl, ?_⟩
      replace HS : St W M W8 [blk g [.chan (some c)] 46, chn c ca (q.map fun n : Int => Value.int .i64 n), blk h [.chan (some d)] 46, chn d cb (r.map fun n : Int => Value.int .i64 n)] := HS.join (F := [blk g [.chan (some c)] 46, chn c ca (q.map fun n : Int => Value.int .i64 n)]) (G := [blk g [.chan (some c)] 46, chn c ca (q.map fun n : Int => Value.int .i64 n)]) H_
      clear H_
      refine ql (.tuple #[.int .i64 0, .bool false]) (by kernel_rfl) (by kernel_rfl) ?_
      refine ql (.int .i64 0) (by kernel_rfl) (by kernel_rfl) ?_
      refine ql (.bool false) (by kernel_rfl) (by kernel_rfl) ?_
      refine ql (.int .i64 0) (by kernel_rfl) (by kernel_rfl) ?_
      refine ql (.bool false) (by kernel_rfl) (by kernel_rfl) ?_
      refine wpList_nil ?_
      refine x_then ?_
      refine wp_seq ?_
      refine wp_seq ?_
      refine wp_region_lit ?_
      refine ql (.bool false) (by kernel_rfl) (by kernel_rfl) ?_
      refine ql (.bool true) (by kernel_rfl) (by kernel_rfl) ?_
      refine wpList_nil ?_
      refine x_then ?_
      refine wp_cond_true (by kernel_rfl) ?_
      refine wp_exit ?_
      refine x_thenE ?_
      refine x_pass (by decide) ?_
      refine x_thenE ?_
      refine x_hit ?_
      refine x_then ?_
      refine wp_seq ?_
      refine wp_region_lit ?_
      refine ql (.int .i64 n) (by kernel_rfl) (by kernel_rfl) ?_
      refine ql (.int .i64 n) (by kernel_rfl) (by kernel_rfl) ?_
      refine wpList_nil ?_
      refine x_then ?_
      refine wp_ret ?_
      refine ret_ (.int .i64 n) (by kernel_rfl) ?_
      obtain rfl : n = ((min xs.length (cb - ys.length) : Nat) : Int) := by omega
      rw [Int.toNat_natCast] at hq hr
      subst hq; subst hr
      exact ⟨rfl, HS⟩
  · skip
    refine ql (.bool false) (by kernel_rfl) (R_nbool (p := ((cb : Int) - (r.length : Int)) > (0 : Int)) (by kernel_rfl) (hc5)) ?_
    refine ql (.bool false) (by kernel_rfl) (by kernel_rfl) ?_
    refine wpList_nil ?_
    refine x_then ?_
    refine wp_cond_false (by kernel_rfl) ?_
    refine wp_exit ?_
    refine x_thenE ?_
    refine x_thenE ?_
    refine x_hit ?_
    refine x_then ?_
    refine wp_seq ?_
    refine wp_region_lit ?_
    refine ql (.int .i64 n) (by kernel_rfl) (by kernel_rfl) ?_
    refine ql (.int .i64 n) (by kernel_rfl) (by kernel_rfl) ?_
    refine wpList_nil ?_
    refine x_then ?_
    refine wp_ret ?_
    refine ret_ (.int .i64 n) (by kernel_rfl) ?_
    obtain rfl : n = ((min xs.length (cb - ys.length) : Nat) : Int) := by omega
    rw [Int.toNat_natCast] at hq hr
    subst hq; subst hr
    exact ⟨rfl, HS⟩


set_option maxRecDepth 100000 in
set_option maxHeartbeats 1000000 in
theorem rpmove (A : Option Addr) (c : Nat) (xs : List Int) (ca : Nat) (B : Option Addr) (d : Nat) (ys : List Int) (cb : Nat) (W : World) (M : Nat → Prop) (HS : St W M W [rde A (ci .i64 xs), rde B (ci .i64 ys)]) (hb : cb ≤ 65536) (hx : xs.length ≤ 65536) (hy : ys.length ≤ cb) (hxc : xs.length ≤ c) (hyd : ys.length ≤ d) : Calls Try.prog 19 #[.agg #[.slice A xs.length c, .int .i64 (ca : Int)], .agg #[.slice B ys.length d, .int .i64 (cb : Int)]] W fun e W' => ∃ A' c' B' d', e = .returned (.tuple #[.agg #[.slice A' ((xs.drop (min xs.length (cb - ys.length))).length) c', .int .i64 (ca : Int)], .agg #[.slice B' ((ys ++ xs.take (min xs.length (cb - ys.length))).length) d', .int .i64 (cb : Int)], .int .i64 ((min xs.length (cb - ys.length)) : Nat)]) ∧ St W M W' [rde A' (ci .i64 (xs.drop (min xs.length (cb - ys.length)))), rde B' (ci .i64 (ys ++ xs.take (min xs.length (cb - ys.length))))] ∧ ((xs.drop (min xs.length (cb - ys.length)))).length ≤ c' ∧ ((ys ++ xs.take (min xs.length (cb - ys.length)))).length ≤ d' := by
  refine calls_enter [.agg #[.slice A xs.length c, .int .i64 (ca : Int)], .agg #[.slice B ys.length d, .int .i64 (cb : Int)], undef, undef, undef, undef, undef, undef, undef, undef, undef, undef, undef, undef, undef, undef, undef, undef, undef, undef, undef, undef, undef, undef, undef, undef, undef, undef, undef, undef, undef, undef, undef, undef, undef, undef, undef, undef, undef, undef, undef, undef, undef, undef] Try.func19 rfl (by kernel_rfl) ?_
  refine wp_seq ?_
  refine wp_region_lit ?_
  refine kb HS [.slice A xs.length c, .int .i64 (ca : Int)] 30 (fun g => .pointer (some ⟨g, 0, none⟩)) (by kernel_rfl) (by kernel_rfl) ?_
  intro g1 W2 H_
  replace HS : St W M W2 [blk g1 [.slice A xs.length c, .int .i64 (ca : Int)] 30, rde A (ci .i64 xs), rde B (ci .i64 ys)] := H_
  clear H_
  refine kb HS [.slice B ys.length d, .int .i64 (cb : Int)] 30 (fun g => .pointer (some ⟨g, 0, none⟩)) (by kernel_rfl) (by kernel_rfl) ?_
  intro g3 W4 H_
  replace HS : St W M W4 [blk g3 [.slice B ys.length d, .int .i64 (cb : Int)] 30, blk g1 [.slice A xs.length c, .int .i64 (ca : Int)] 30, rde A (ci .i64 xs), rde B (ci .i64 ys)] := H_
  clear H_
  refine kb HS [.slice none 0 0, .int .i64 0] 30 (fun g => .pointer (some ⟨g, 0, none⟩)) (by kernel_rfl) (by kernel_rfl) ?_
  intro g5 W6 H_
  replace HS : St W M W6 [blk g5 [.slice none 0 0, .int .i64 0] 30, blk g3 [.slice B ys.length d, .int .i64 (cb : Int)] 30, blk g1 [.slice A xs.length c, .int .i64 (ca : Int)] 30, rde A (ci .i64 xs), rde B (ci .i64 ys)] := H_
  clear H_
  refine kb HS [.slice none 0 0, .int .i64 0] 30 (fun g => .pointer (some ⟨g, 0, none⟩)) (by kernel_rfl) (by kernel_rfl) ?_
  intro g7 W8 H_
  replace HS : St W M W8 [blk g7 [.slice none 0 0, .int .i64 0] 30, blk g5 [.slice none 0 0, .int .i64 0] 30, blk g3 [.slice B ys.length d, .int .i64 (cb : Int)] 30, blk g1 [.slice A xs.length c, .int .i64 (ca : Int)] 30, rde A (ci .i64 xs), rde B (ci .i64 ys)] := H_
  clear H_
  refine ql (.int .i64 0) (by kernel_rfl) (by kernel_rfl) ?_
  refine wpList_nil ?_
  refine x_then ?_
  refine wp_seq ?_
  refine wp_region_lit ?_
  refine ql (.int .i64 0) (by kernel_rfl) (by kernel_rfl) ?_
  refine wpList_nil ?_
  refine x_then ?_
  refine wp_seq ?_
  refine wp_block ?_
  replace HS : St W M W8 [rde A (ci .i64 xs), rde B (ci .i64 ys), blk g1 [.slice A xs.length c, .int .i64 (ca : Int)] 30, blk g3 [.slice B ys.length d, .int .i64 (cb : Int)] 30, blk g5 [.slice none 0 0, .int .i64 0] 30, blk g7 [.slice none 0 0, .int .i64 0] 30] := St.tail (F := []) (HS.perm (perm_ [4, 5, 3, 2, 1, 0] (by kernel_rfl) rfl))
  refine wp_loop_ghost (fun kq a' w' => ∃ (J9 : Nat → Value) (n : Int) (q : List Int) (r : List Int) (Aq : Option Addr) (cq : Nat) (Br : Option Addr) (dr : Nat) , a' = Fr [.agg #[.slice A xs.length c, .int .i64 (ca : Int)], .agg #[.slice B ys.length d, .int .i64 (cb : Int)], .pointer (some ⟨g1, 0, none⟩), .pointer (some ⟨g3, 0, none⟩), .pointer (some ⟨g5, 0, none⟩), .pointer (some ⟨g7, 0, none⟩), .int .i64 0, .int .i64 n, (J9 8), (J9 9), (J9 10), (J9 11), (J9 12), (J9 13), (J9 14), (J9 15), (J9 16), (J9 17), (J9 18), (J9 19), (J9 20), (J9 21), (J9 22), (J9 23), (J9 24), (J9 25), (J9 26), (J9 27), (J9 28), (J9 29), (J9 30), (J9 31), (J9 32), (J9 33), (J9 34), (J9 35), (J9 36), (J9 37), (J9 38), (J9 39), (J9 40), undef, undef, undef] ∧ kq = (xs.length - (n).toNat) ∧ (q = xs.drop (n).toNat) ∧ (r = ys ++ xs.take (n).toNat) ∧ (0 ≤ n) ∧ (n ≤ xs.length) ∧ (ys.length + n ≤ cb) ∧ ((q).length ≤ cq) ∧ ((r).length ≤ dr) ∧ St W M w' [rde Aq (ci .i64 q), rde Br (ci .i64 r), blk g1 [.slice Aq q.length cq, .int .i64 (ca : Int)] 30, blk g3 [.slice Br r.length dr, .int .i64 (cb : Int)] 30, blk g5 [.slice none 0 0, .int .i64 0] 30, blk g7 [.slice none 0 0, .int .i64 0] 30]) (xs.length - ((0 : Int)).toNat) ⟨(fun k_ : Nat => List.getD [.agg #[.slice A xs.length c, .int .i64 (ca : Int)], .agg #[.slice B ys.length d, .int .i64 (cb : Int)], .pointer (some ⟨g1, 0, none⟩), .pointer (some ⟨g3, 0, none⟩), .pointer (some ⟨g5, 0, none⟩), .pointer (some ⟨g7, 0, none⟩), .int .i64 0, .int .i64 0, undef, undef, undef, undef, undef, undef, undef, undef, undef, undef, undef, undef, undef, undef, undef, undef, undef, undef, undef, undef, undef, undef, undef, undef, undef, undef, undef, undef, undef, undef, undef, undef, undef, undef, undef, undef] k_ undef), (0 : Int), xs, ys, A, c, B, d, congrArg Fr (by kernel_rfl), rfl, by simp, by simp, by omega, by omega, by omega, by omega, by omega, HS⟩ ?_
  clear HS
  intro kq10 a' W11 hrel
  obtain ⟨J9, n, q, r, Aq, cq, Br, dr, rfl, hk, hq, hr, n0, n1, n2, hcq, hdr, HS⟩ := hrel
  have hrl := congrArg List.length hr; rw [List.length_append, List.length_take] at hrl; have hql := congrArg List.length hq; rw [List.length_drop] at hql
  refine wp_seq ?_
  refine wp_seq ?_
  refine wp_region_lit ?_
  refine ql (.pointer (some ⟨g1, 0, none⟩)) (by kernel_rfl) (by kernel_rfl) ?_
  refine ql (.slice Aq q.length cq) (by kernel_rfl) (R_load (p := ⟨g1, 0, none⟩) (by kernel_rfl) (by kernel_rfl) (by kernel_rfl) (HS.cell (i := 2) (j := 0) rfl rfl)) ?_
  refine ql (.int .i64 (q.length : Int)) (by kernel_rfl) (by kernel_rfl) ?_
  by_cases hc12 : (q.length : Int) > (0 : Int)
  · skip
    refine ql (.bool true) (by kernel_rfl) (R_bool (p := (q.length : Int) > (0 : Int)) (by kernel_rfl) (hc12)) ?_
    refine ql (.bool true) (by kernel_rfl) (by kernel_rfl) ?_
    refine ql (.pointer (some ⟨g3, 0, none⟩)) (by kernel_rfl) (by kernel_rfl) ?_
    refine ql (.slice Br r.length dr) (by kernel_rfl) (R_load (p := ⟨g3, 0, none⟩) (by kernel_rfl) (by kernel_rfl) (by kernel_rfl) (HS.cell (i := 3) (j := 0) rfl rfl)) ?_
    refine ql (.int .i64 (r.length : Int)) (by kernel_rfl) (by kernel_rfl) ?_
    refine ql (.pointer (some ⟨g3, 1, none⟩)) (by kernel_rfl) (by kernel_rfl) ?_
    refine ql (.int .i64 (cb : Int)) (by kernel_rfl) (R_load (p := ⟨g3, 1, none⟩) (by kernel_rfl) (by kernel_rfl) (by kernel_rfl) (HS.cell (i := 3) (j := 1) rfl rfl)) ?_
    by_cases hc13 : (r.length : Int) < (cb : Int)
    · skip
      refine ql (.bool true) (by kernel_rfl) (R_bool (p := (r.length : Int) < (cb : Int)) (by kernel_rfl) (hc13)) ?_
      refine ql (.bool true) (by kernel_rfl) (by kernel_rfl) ?_
      refine wpList_nil ?_
      refine x_then ?_
      refine wp_cond_true (by kernel_rfl) ?_
      refine wp_skip ?_
      refine x_then ?_
      refine wp_block ?_
      refine wp_seq ?_
      refine wp_region_lit ?_
      refine ql (.agg #[.slice Aq q.length cq, .int .i64 (ca : Int)]) (by kernel_rfl) (R_loadN (p := ⟨g1, 0, none⟩) [.slice Aq q.length cq, .int .i64 (ca : Int)] (by kernel_rfl) (by kernel_rfl) (by kernel_rfl) (by kernel_rfl) (two_at (HS.cell (i := 2) (j := 0) rfl rfl) (HS.cell (i := 2) (j := 1) rfl rfl))) ?_
      refine qc (f := 17) (args := #[.agg #[.slice Aq q.length cq, .int .i64 (ca : Int)]]) (by kernel_rfl) (R_call #[.agg #[.slice Aq q.length cq, .int .i64 (ca : Int)]] Try.func17 (by kernel_rfl) (by kernel_rfl) (by kernel_rfl)) ?_
      refine (rpget_some _ cq q (ca : Int) _ (HS.get (i := 0) rfl) (by omega) (by omega) (by omega)).mono ?_
      rintro e W14 ⟨rfl, H_⟩
      refine ⟨_, rfl, ?_⟩
      replace HS : St W M W14 [rde Aq (ci .i64 q), rde Br (ci .i64 r), blk g1 [.slice Aq q.length cq, .int .i64 (ca : Int)] 30, blk g3 [.slice Br r.length dr, .int .i64 (cb : Int)] 30, blk g5 [.slice none 0 0, .int .i64 0] 30, blk g7 [.slice none 0 0, .int .i64 0] 30] := HS.join (F := []) (G := []) H_
      clear H_
      replace HS : St W M W14 [rde (cutA Aq cq 1 1) (ci .i64 q.tail), rde Br (ci .i64 r), blk g1 [.slice Aq q.length cq, .int .i64 (ca : Int)] 30, blk g3 [.slice Br r.length dr, .int .i64 (cb : Int)] 30, blk g5 [.slice none 0 0, .int .i64 0] 30, blk g7 [.slice none 0 0, .int .i64 0] 30] := (HS.rde_sub (i := 0) rfl (fun h_ => rd_cut (c := cq) (m := 1) h_ (by omega) (by rw [ci_len]; omega)) cutA_own).cast_ (by rw [ci_drop, List.drop_one]; rfl)
      refine ql (.tuple #[.agg #[.slice (cutA Aq cq 1 1) q.tail.length (cq - 1), .int .i64 (ca : Int)], .int .i64 (rdI q 0), .bool true]) (by kernel_rfl) (by kernel_rfl) ?_
      refine ql (.agg #[.slice (cutA Aq cq 1 1) q.tail.length (cq - 1), .int .i64 (ca : Int)]) (by kernel_rfl) (by kernel_rfl) ?_
      refine ql (.int .i64 (rdI q 0)) (by kernel_rfl) (by kernel_rfl) ?_
      refine ql (.bool true) (by kernel_rfl) (by kernel_rfl) ?_
      refine kb HS [.slice none 0 0, .int .i64 0] 30 (fun g => .pointer (some ⟨g, 0, none⟩)) (by kernel_rfl) (by kernel_rfl) ?_
      intro g15 W16 H_
      replace HS : St W M W16 [blk g15 [.slice none 0 0, .int .i64 0] 30, rde (cutA Aq cq 1 1) (ci .i64 q.tail), rde Br (ci .i64 r), blk g1 [.slice Aq q.length cq, .int .i64 (ca : Int)] 30, blk g3 [.slice Br r.length dr, .int .i64 (cb : Int)] 30, blk g5 [.slice none 0 0, .int .i64 0] 30, blk g7 [.slice none 0 0, .int .i64 0] 30] := H_
      clear H_
      refine ks (v := .agg #[.slice (cutA Aq cq 1 1) q.tail.length (cq - 1), .int .i64 (ca : Int)]) HS 0 rfl (0) [.slice (cutA Aq cq 1 1) q.tail.length (cq - 1), .int .i64 (ca : Int)] (by kernel_rfl) (by kernel_rfl) (by kernel_rfl) (by kernel_rfl) (by kernel_rfl) (one_ (by kernel_rfl)) (Nat.le_of_ble_eq_true rfl) rfl ?_
      intro W17 H_
      replace HS : St W M W17 [blk g15 [.slice (cutA Aq cq 1 1) q.tail.length (cq - 1), .int .i64 (ca : Int)] 30, rde (cutA Aq cq 1 1) (ci .i64 q.tail), rde Br (ci .i64 r), blk g1 [.slice Aq q.length cq, .int .i64 (ca : Int)] 30, blk g3 [.slice Br r.length dr, .int .i64 (cb : Int)] 30, blk g5 [.slice none 0 0, .int .i64 0] 30, blk g7 [.slice none 0 0, .int .i64 0] 30] := H_
      clear H_
      refine ql (.int .i64 (rdI q 0)) (by kernel_rfl) (by kernel_rfl) ?_
      refine ql (.bool true) (by kernel_rfl) (by kernel_rfl) ?_
      refine wpList_nil ?_
      refine x_then ?_
      refine wp_seq ?_
      refine wp_region_lit ?_
      refine ql (.agg #[.slice Br r.length dr, .int .i64 (cb : Int)]) (by kernel_rfl) (R_loadN (p := ⟨g3, 0, none⟩) [.slice Br r.length dr, .int .i64 (cb : Int)] (by kernel_rfl) (by kernel_rfl) (by kernel_rfl) (by kernel_rfl) (two_at (HS.cell (i := 4) (j := 0) rfl rfl) (HS.cell (i := 4) (j := 1) rfl rfl))) ?_
      refine ql (.int .i64 (rdI q 0)) (by kernel_rfl) (by kernel_rfl) ?_
      refine qc (f := 15) (args := #[.agg #[.slice Br r.length dr, .int .i64 (cb : Int)], .int .i64 (rdI q 0)]) (by kernel_rfl) (R_call #[.agg #[.slice Br r.length dr, .int .i64 (cb : Int)], .int .i64 (rdI q 0)] Try.func15 (by kernel_rfl) (by kernel_rfl) (by kernel_rfl)) ?_
      refine (rpput_room _ dr r (cb : Int) (rdI q 0) _ (HS.get (i := 2) rfl) (by omega) (by omega)).mono ?_
      rintro e W20 ⟨A18, c19, rfl, H_⟩
      refine ⟨_, rfl, ?_⟩
      replace HS : St W M W20 [row A18 ((r ++ [rdI q 0]).length) c19 (ci .i64 (r ++ [rdI q 0])) 3 1, blk g15 [.slice (cutA Aq cq 1 1) q.tail.length (cq - 1), .int .i64 (ca : Int)] 30, rde (cutA Aq cq 1 1) (ci .i64 q.tail), rde Br (ci .i64 r), blk g1 [.slice Aq q.length cq, .int .i64 (ca : Int)] 30, blk g3 [.slice Br r.length dr, .int .i64 (cb : Int)] 30, blk g5 [.slice none 0 0, .int .i64 0] 30, blk g7 [.slice none 0 0, .int .i64 0] 30] := HS.join (F := []) (G := [row A18 ((r ++ [rdI q 0]).length) c19 (ci .i64 (r ++ [rdI q 0])) 3 1]) H_
      clear H_
      have hcA18 := (St.rcap HS (i := 0) rfl).1
      simp only [List.length_append, List.length_cons, List.length_nil] at hcA18
      replace HS : St W M W20 [rde A18 (ci .i64 (r ++ [rdI q 0])), blk g15 [.slice (cutA Aq cq 1 1) q.tail.length (cq - 1), .int .i64 (ca : Int)] 30, rde (cutA Aq cq 1 1) (ci .i64 q.tail), rde Br (ci .i64 r), blk g1 [.slice Aq q.length cq, .int .i64 (ca : Int)] 30, blk g3 [.slice Br r.length dr, .int .i64 (cb : Int)] 30, blk g5 [.slice none 0 0, .int .i64 0] 30, blk g7 [.slice none 0 0, .int .i64 0] 30] := HS.to_rde (i := 0) rfl
      replace HS : St W M W20 [rde A18 (ci .i64 (r ++ [rdI q 0])), blk g15 [.slice (cutA Aq cq 1 1) q.tail.length (cq - 1), .int .i64 (ca : Int)] 30, rde (cutA Aq cq 1 1) (ci .i64 q.tail), blk g1 [.slice Aq q.length cq, .int .i64 (ca : Int)] 30, blk g3 [.slice Br r.length dr, .int .i64 (cb : Int)] 30, blk g5 [.slice none 0 0, .int .i64 0] 30, blk g7 [.slice none 0 0, .int .i64 0] 30] := St.tail (F := [rde Br (ci .i64 r)]) (HS.perm (perm_ [3, 0, 1, 2, 4, 5, 6, 7] (by kernel_rfl) rfl))
      refine ql (.tuple #[.agg #[.slice A18 ((r ++ [rdI q 0]).length) c19, .int .i64 (cb : Int)], .bool true]) (by kernel_rfl) (by kernel_rfl) ?_
      refine ql (.agg #[.slice A18 ((r ++ [rdI q 0]).length) c19, .int .i64 (cb : Int)]) (by kernel_rfl) (by kernel_rfl) ?_
      refine ql (.bool true) (by kernel_rfl) (by kernel_rfl) ?_
      refine kb HS [.slice none 0 0, .int .i64 0] 30 (fun g => .pointer (some ⟨g, 0, none⟩)) (by kernel_rfl) (by kernel_rfl) ?_
      intro g21 W22 H_
      replace HS : St W M W22 [blk g21 [.slice none 0 0, .int .i64 0] 30, rde A18 (ci .i64 (r ++ [rdI q 0])), blk g15 [.slice (cutA Aq cq 1 1) q.tail.length (cq - 1), .int .i64 (ca : Int)] 30, rde (cutA Aq cq 1 1) (ci .i64 q.tail), blk g1 [.slice Aq q.length cq, .int .i64 (ca : Int)] 30, blk g3 [.slice Br r.length dr, .int .i64 (cb : Int)] 30, blk g5 [.slice none 0 0, .int .i64 0] 30, blk g7 [.slice none 0 0, .int .i64 0] 30] := H_
      clear H_
      refine ks (v := .agg #[.slice A18 ((r ++ [rdI q 0]).length) c19, .int .i64 (cb : Int)]) HS 0 rfl (0) [.slice A18 ((r ++ [rdI q 0]).length) c19, .int .i64 (cb : Int)] (by kernel_rfl) (by kernel_rfl) (by kernel_rfl) (by kernel_rfl) (by kernel_rfl) (one_ (by kernel_rfl)) (Nat.le_of_ble_eq_true rfl) rfl ?_
      intro W23 H_
      replace HS : St W M W23 [blk g21 [.slice A18 ((r ++ [rdI q 0]).length) c19, .int .i64 (cb : Int)] 30, rde A18 (ci .i64 (r ++ [rdI q 0])), blk g15 [.slice (cutA Aq cq 1 1) q.tail.length (cq - 1), .int .i64 (ca : Int)] 30, rde (cutA Aq cq 1 1) (ci .i64 q.tail), blk g1 [.slice Aq q.length cq, .int .i64 (ca : Int)] 30, blk g3 [.slice Br r.length dr, .int .i64 (cb : Int)] 30, blk g5 [.slice none 0 0, .int .i64 0] 30, blk g7 [.slice none 0 0, .int .i64 0] 30] := H_
      clear H_
      refine ql (.bool true) (by kernel_rfl) (by kernel_rfl) ?_
      refine wpList_nil ?_
      refine x_then ?_
      refine wp_seq ?_
      refine wp_region_lit ?_
      refine ql (.agg #[.slice (cutA Aq cq 1 1) q.tail.length (cq - 1), .int .i64 (ca : Int)]) (by kernel_rfl) (R_loadN (p := ⟨g15, 0, none⟩) [.slice (cutA Aq cq 1 1) q.tail.length (cq - 1), .int .i64 (ca : Int)] (by kernel_rfl) (by kernel_rfl) (by kernel_rfl) (by kernel_rfl) (two_at (HS.cell (i := 2) (j := 0) rfl rfl) (HS.cell (i := 2) (j := 1) rfl rfl))) ?_
      refine ks (v := .agg #[.slice (cutA Aq cq 1 1) q.tail.length (cq - 1), .int .i64 (ca : Int)]) HS 4 rfl (0) [.slice (cutA Aq cq 1 1) q.tail.length (cq - 1), .int .i64 (ca : Int)] (by kernel_rfl) (by kernel_rfl) (by kernel_rfl) (by kernel_rfl) (by kernel_rfl) (one_ (by kernel_rfl)) (Nat.le_of_ble_eq_true rfl) rfl ?_
      intro W24 H_
      replace HS : St W M W24 [blk g21 [.slice A18 ((r ++ [rdI q 0]).length) c19, .int .i64 (cb : Int)] 30, rde A18 (ci .i64 (r ++ [rdI q 0])), blk g15 [.slice (cutA Aq cq 1 1) q.tail.length (cq - 1), .int .i64 (ca : Int)] 30, rde (cutA Aq cq 1 1) (ci .i64 q.tail), blk g1 [.slice (cutA Aq cq 1 1) q.tail.length (cq - 1), .int .i64 (ca : Int)] 30, blk g3 [.slice Br r.length dr, .int .i64 (cb : Int)] 30, blk g5 [.slice none 0 0, .int .i64 0] 30, blk g7 [.slice none 0 0, .int .i64 0] 30] := H_
      clear H_
      refine wpList_nil ?_
      refine x_then ?_
      refine wp_seq ?_
      refine wp_region_lit ?_
      refine ql (.agg #[.slice A18 ((r ++ [rdI q 0]).length) c19, .int .i64 (cb : Int)]) (by kernel_rfl) (R_loadN (p := ⟨g21, 0, none⟩) [.slice A18 ((r ++ [rdI q 0]).length) c19, .int .i64 (cb : Int)] (by kernel_rfl) (by kernel_rfl) (by kernel_rfl) (by kernel_rfl) (two_at (HS.cell (i := 0) (j := 0) rfl rfl) (HS.cell (i := 0) (j := 1) rfl rfl))) ?_
      refine ks (v := .agg #[.slice A18 ((r ++ [rdI q 0]).length) c19, .int .i64 (cb : Int)]) HS 5 rfl (0) [.slice A18 ((r ++ [rdI q 0]).length) c19, .int .i64 (cb : Int)] (by kernel_rfl) (by kernel_rfl) (by kernel_rfl) (by kernel_rfl) (by kernel_rfl) (one_ (by kernel_rfl)) (Nat.le_of_ble_eq_true rfl) rfl ?_
      intro W25 H_
      replace HS : St W M W25 [blk g21 [.slice A18 ((r ++ [rdI q 0]).length) c19, .int .i64 (cb : Int)] 30, rde A18 (ci .i64 (r ++ [rdI q 0])), blk g15 [.slice (cutA Aq cq 1 1) q.tail.length (cq - 1), .int .i64 (ca : Int)] 30, rde (cutA Aq cq 1 1) (ci .i64 q.tail), blk g1 [.slice (cutA Aq cq 1 1) q.tail.length (cq - 1), .int .i64 (ca : Int)] 30, blk g3 [.slice A18 ((r ++ [rdI q 0]).length) c19, .int .i64 (cb : Int)] 30, blk g5 [.slice none 0 0, .int .i64 0] 30, blk g7 [.slice none 0 0, .int .i64 0] 30] := H_
      clear H_
      refine wpList_nil ?_
      refine x_then ?_
      refine wp_region_lit ?_
      refine ql (.int .i64 n) (by kernel_rfl) (by kernel_rfl) ?_
      refine ql (.int .i64 (n + 1)) (by kernel_rfl) (R_int (by kernel_rfl) (w64 (by omega))) ?_
      refine ql (.int .i64 (n + 1)) (by kernel_rfl) (by kernel_rfl) ?_
      refine wpList_nil ?_
      refine x_inb ?_
      have hds := drop_step hq n0 (by omega)
      have hrr : r ++ [rdI q 0] = ys ++ xs.take (n + 1).toNat := by rw [hds.2, hr, List.append_assoc]
      have htl := List.length_tail (l := q)
      replace HS : St W M W25 [rde (cutA Aq cq 1 1) (ci .i64 q.tail), rde A18 (ci .i64 (r ++ [rdI q 0])), blk g1 [.slice (cutA Aq cq 1 1) q.tail.length (cq - 1), .int .i64 (ca : Int)] 30, blk g3 [.slice A18 ((r ++ [rdI q 0]).length) c19, .int .i64 (cb : Int)] 30, blk g5 [.slice none 0 0, .int .i64 0] 30, blk g7 [.slice none 0 0, .int .i64 0] 30] := St.tail (F := [blk g21 [.slice A18 ((r ++ [rdI q 0]).length) c19, .int .i64 (cb : Int)] 30, blk g15 [.slice (cutA Aq cq 1 1) q.tail.length (cq - 1), .int .i64 (ca : Int)] 30]) (HS.perm (perm_ [0, 2, 3, 1, 4, 5, 6, 7] (by kernel_rfl) rfl))
      refine x_then ?_
      exact ⟨xs.length - (n + 1).toNat, by omega, (fun k_ : Nat => List.getD [.agg #[.slice A xs.length c, .int .i64 (ca : Int)], .agg #[.slice B ys.length d, .int .i64 (cb : Int)], .pointer (some ⟨g1, 0, none⟩), .pointer (some ⟨g3, 0, none⟩), .pointer (some ⟨g5, 0, none⟩), .pointer (some ⟨g7, 0, none⟩), .int .i64 0, .int .i64 (n + 1), .pointer (some ⟨g15, 0, none⟩), .int .i64 (rdI q 0), .bool true, .pointer (some ⟨g21, 0, none⟩), .bool true, .pointer (some ⟨g1, 0, none⟩), .slice Aq q.length cq, .int .i64 (q.length : Int), .bool true, .bool true, .pointer (some ⟨g3, 0, none⟩), .slice Br r.length dr, .int .i64 (r.length : Int), .pointer (some ⟨g3, 1, none⟩), .int .i64 (cb : Int), .bool true, .bool true, .tuple #[.agg #[.slice (cutA Aq cq 1 1) q.tail.length (cq - 1), .int .i64 (ca : Int)], .int .i64 (rdI q 0), .bool true], .agg #[.slice Aq q.length cq, .int .i64 (ca : Int)], .tuple #[.agg #[.slice (cutA Aq cq 1 1) q.tail.length (cq - 1), .int .i64 (ca : Int)], .int .i64 (rdI q 0), .bool true], .agg #[.slice (cutA Aq cq 1 1) q.tail.length (cq - 1), .int .i64 (ca : Int)], .int .i64 (rdI q 0), .bool true, .tuple #[.agg #[.slice A18 ((r ++ [rdI q 0]).length) c19, .int .i64 (cb : Int)], .bool true], .agg #[.slice Br r.length dr, .int .i64 (cb : Int)], .int .i64 (rdI q 0), .tuple #[.agg #[.slice A18 ((r ++ [rdI q 0]).length) c19, .int .i64 (cb : Int)], .bool true], .agg #[.slice A18 ((r ++ [rdI q 0]).length) c19, .int .i64 (cb : Int)], .bool true, .agg #[.slice (cutA Aq cq 1 1) q.tail.length (cq - 1), .int .i64 (ca : Int)], .agg #[.slice A18 ((r ++ [rdI q 0]).length) c19, .int .i64 (cb : Int)], .int .i64 n, .int .i64 (n + 1), undef, undef, undef] k_ undef), n + 1, q.tail, (r ++ [rdI q 0]), (cutA Aq cq 1 1), (cq - 1), A18, c19, congrArg Fr (by kernel_rfl), rfl, hds.1, hrr, by omega, by omega, by omega, by omega, by rw [List.length_append, List.length_singleton]; omega, HS⟩
    · skip
      refine ql (.bool false) (by kernel_rfl) (R_nbool (p := (r.length : Int) < (cb : Int)) (by kernel_rfl) (hc13)) ?_
      refine ql (.bool false) (by kernel_rfl) (by kernel_rfl) ?_
      refine wpList_nil ?_
      refine x_then ?_
      refine wp_cond_false (by kernel_rfl) ?_
      refine wp_exit ?_
      refine x_thenE ?_
      refine x_thenE ?_
      refine x_hit ?_
      refine x_then ?_
      refine wp_seq ?_
      refine t_start HS (fun k_ => (blk g5 [.slice none 0 0, .int .i64 0] 30).own k_ ∨ (blk g7 [.slice none 0 0, .int .i64 0] 30).own k_) 6 (by kernel_rfl) rfl ?_
      intro W26 H_ HD_
      clear HD_
      replace HS : St W M W26 [rde Aq (ci .i64 q), rde Br (ci .i64 r), blk g1 [.slice Aq q.length cq, .int .i64 (ca : Int)] 30, blk g3 [.slice Br r.length dr, .int .i64 (cb : Int)] 30, blk g5 [.slice none 0 0, .int .i64 0] 30, blk g7 [.slice none 0 0, .int .i64 0] 30] := H_
      clear H_
      have HV := HS
      have HK := Kpt.refl (fun k_ => (blk g5 [.slice none 0 0, .int .i64 0] 30).own k_ ∨ (blk g7 [.slice none 0 0, .int .i64 0] 30).own k_) W26
      refine t_q (n := 5) 0 (.agg #[.slice Aq q.length cq, .int .i64 (ca : Int)]) rfl (by kernel_rfl) (by kernel_rfl) (fun _ _ _ h => h) (fun w' hk => (R_loadN (p := ⟨g1, 0, none⟩) [.slice Aq q.length cq, .int .i64 (ca : Int)] (by kernel_rfl) (by kernel_rfl) (by kernel_rfl) (by kernel_rfl) (two_at (hk.cellN (fun h_ => h_.elim (HV.sepB (a := 2) (b := 4) (by decide) rfl rfl) (HV.sepB (a := 2) (b := 5) (by decide) rfl rfl)) (HV.cell (i := 2) (j := 0) rfl rfl)) (hk.cellN (fun h_ => h_.elim (HV.sepB (a := 2) (b := 4) (by decide) rfl rfl) (HV.sepB (a := 2) (b := 5) (by decide) rfl rfl)) (HV.cell (i := 2) (j := 1) rfl rfl))))) HK ?_
      refine t_q (n := 4) 1 (.agg #[.slice Br r.length dr, .int .i64 (cb : Int)]) rfl (by kernel_rfl) (by kernel_rfl) (fun _ _ _ h => h) (fun w' hk => (R_loadN (p := ⟨g3, 0, none⟩) [.slice Br r.length dr, .int .i64 (cb : Int)] (by kernel_rfl) (by kernel_rfl) (by kernel_rfl) (by kernel_rfl) (two_at (hk.cellN (fun h_ => h_.elim (HV.sepB (a := 3) (b := 4) (by decide) rfl rfl) (HV.sepB (a := 3) (b := 5) (by decide) rfl rfl)) (HV.cell (i := 3) (j := 0) rfl rfl)) (hk.cellN (fun h_ => h_.elim (HV.sepB (a := 3) (b := 4) (by decide) rfl rfl) (HV.sepB (a := 3) (b := 5) (by decide) rfl rfl)) (HV.cell (i := 3) (j := 1) rfl rfl))))) HK ?_
      refine t_q (n := 3) 2 (.int .i64 n) rfl (by kernel_rfl) (by kernel_rfl) (fun _ _ _ h => h) (fun w' hk => (by kernel_rfl)) HK ?_
      obtain ⟨W27, hrun_, H_, hk_⟩ := ex_ks (P := Try.prog) (ty := 0) (ps := "ref.go:38") (af := #[{ on := 0, ground := Go.Ground.data }, { on := 0, ground := Go.Ground.phase }, { on := 1, ground := (Go.Ground.textOnly Go.Departure.lateStores) }, { on := 2, ground := (Go.Ground.textOnly Go.Departure.lateStores) }]) (gd := none) (t := 30) (x := (Go.Operand.tmp 4)) (y := (Go.Operand.tmp 41)) (v := .agg #[.slice Aq q.length cq, .int .i64 (ca : Int)]) HS 4 rfl (0) [.slice Aq q.length cq, .int .i64 (ca : Int)] (by kernel_rfl) (by kernel_rfl) (by kernel_rfl) (by kernel_rfl) (one_ (by kernel_rfl)) (Nat.le_of_ble_eq_true rfl)
      replace HK := HK.trans hk_ (fun _ h_ => .inl (.inl (blk_own h_)))
      refine t_s (n := 2) 3 rfl (by kernel_rfl) (by kernel_rfl) hrun_ HK ?_
      clear hk_ hrun_
      replace HS : St W M W27 [rde Aq (ci .i64 q), rde Br (ci .i64 r), blk g1 [.slice Aq q.length cq, .int .i64 (ca : Int)] 30, blk g3 [.slice Br r.length dr, .int .i64 (cb : Int)] 30, blk g5 [.slice Aq q.length cq, .int .i64 (ca : Int)] 30, blk g7 [.slice none 0 0, .int .i64 0] 30] := H_
      clear H_
      obtain ⟨W28, hrun_, H_, hk_⟩ := ex_ks (P := Try.prog) (ty := 0) (ps := "ref.go:38") (af := #[{ on := 1, ground := Go.Ground.data }, { on := 3, ground := Go.Ground.chain }, { on := 0, ground := Go.Ground.phase }, { on := 1, ground := Go.Ground.phase }, { on := 2, ground := (Go.Ground.textOnly Go.Departure.lateStores) }, { on := 3, ground := Go.Ground.phase }]) (gd := none) (t := 30) (x := (Go.Operand.tmp 5)) (y := (Go.Operand.tmp 42)) (v := .agg #[.slice Br r.length dr, .int .i64 (cb : Int)]) HS 5 rfl (0) [.slice Br r.length dr, .int .i64 (cb : Int)] (by kernel_rfl) (by kernel_rfl) (by kernel_rfl) (by kernel_rfl) (one_ (by kernel_rfl)) (Nat.le_of_ble_eq_true rfl)
      replace HK := HK.trans hk_ (fun _ h_ => .inl (.inr (blk_own h_)))
      refine t_s (n := 1) 4 rfl (by kernel_rfl) (by kernel_rfl) hrun_ HK ?_
      clear hk_ hrun_
      replace HS : St W M W28 [rde Aq (ci .i64 q), rde Br (ci .i64 r), blk g1 [.slice Aq q.length cq, .int .i64 (ca : Int)] 30, blk g3 [.slice Br r.length dr, .int .i64 (cb : Int)] 30, blk g5 [.slice Aq q.length cq, .int .i64 (ca : Int)] 30, blk g7 [.slice Br r.length dr, .int .i64 (cb : Int)] 30] := H_
      clear H_
      refine t_q (n := 0) 5 (.int .i64 n) rfl (by kernel_rfl) (by kernel_rfl) (fun _ _ _ h => h) (fun w' hk => (by kernel_rfl)) HK ?_
      refine t_done (by kernel_rfl) ?_
      clear HV HK
      refine x_then ?_
      refine wp_ret ?_
      refine ret_ (.tuple #[.agg #[.slice Aq q.length cq, .int .i64 (ca : Int)], .agg #[.slice Br r.length dr, .int .i64 (cb : Int)], .int .i64 n]) (res3 rfl (oneRes_agg (p := ⟨g5, 0, none⟩) [.slice Aq q.length cq, .int .i64 (ca : Int)] (by kernel_rfl) (by kernel_rfl) (by kernel_rfl) (by kernel_rfl) (HS.cellsN (i := 4) rfl)) (oneRes_agg (p := ⟨g7, 0, none⟩) [.slice Br r.length dr, .int .i64 (cb : Int)] (by kernel_rfl) (by kernel_rfl) (by kernel_rfl) (by kernel_rfl) (HS.cellsN (i := 5) rfl)) (oneRes_t (by kernel_rfl))) ?_
      replace HS : St W M W28 [rde Aq (ci .i64 q), rde Br (ci .i64 r)] := St.tail (F := [blk g1 [.slice Aq q.length cq, .int .i64 (ca : Int)] 30, blk g3 [.slice Br r.length dr, .int .i64 (cb : Int)] 30, blk g5 [.slice Aq q.length cq, .int .i64 (ca : Int)] 30, blk g7 [.slice Br r.length dr, .int .i64 (cb : Int)] 30]) (HS.perm (perm_ [2, 3, 4, 5, 0, 1] (by kernel_rfl) rfl))
      obtain rfl : n = (((min xs.length (cb - ys.length)) : Nat) : Int) := by omega
      rw [Int.toNat_natCast] at hq hr
      subst hq; subst hr
      exact ⟨_, _, _, _, rfl, HS, hcq, hdr⟩
  · skip
    refine ql (.bool false) (by kernel_rfl) (R_nbool (p := (q.length : Int) > (0 : Int)) (by kernel_rfl) (hc12)) ?_
    refine ql (.bool false) (by kernel_rfl) (by kernel_rfl) ?_
    refine qln (by kernel_rfl) ?_
    refine qln (by kernel_rfl) ?_
    refine qln (by kernel_rfl) ?_
    refine qln (by kernel_rfl) ?_
    refine qln (by kernel_rfl) ?_
    refine qln (by kernel_rfl) ?_
    refine ql (.bool false) (by kernel_rfl) (by kernel_rfl) ?_
    refine wpList_nil ?_
    refine x_then ?_
    refine wp_cond_false (by kernel_rfl) ?_
    refine wp_exit ?_
    refine x_thenE ?_
    refine x_thenE ?_
    refine x_hit ?_
    refine x_then ?_
    refine wp_seq ?_
    refine t_start HS (fun k_ => (blk g5 [.slice none 0 0, .int .i64 0] 30).own k_ ∨ (blk g7 [.slice none 0 0, .int .i64 0] 30).own k_) 6 (by kernel_rfl) rfl ?_
    intro W29 H_ HD_
    clear HD_
    replace HS : St W M W29 [rde Aq (ci .i64 q), rde Br (ci .i64 r), blk g1 [.slice Aq q.length cq, .int .i64 (ca : Int)] 30, blk g3 [.slice Br r.length dr, .int .i64 (cb : Int)] 30, blk g5 [.slice none 0 0, .int .i64 0] 30, blk g7 [.slice none 0 0, .int .i64 0] 30] := H_
    clear H_
    have HV := HS
    have HK := Kpt.refl (fun k_ => (blk g5 [.slice none 0 0, .int .i64 0] 30).own k_ ∨ (blk g7 [.slice none 0 0, .int .i64 0] 30).own k_) W29
    refine t_q (n := 5) 0 (.agg #[.slice Aq q.length cq, .int .i64 (ca : Int)]) rfl (by kernel_rfl) (by kernel_rfl) (fun _ _ _ h => h) (fun w' hk => (R_loadN (p := ⟨g1, 0, none⟩) [.slice Aq q.length cq, .int .i64 (ca : Int)] (by kernel_rfl) (by kernel_rfl) (by kernel_rfl) (by kernel_rfl) (two_at (hk.cellN (fun h_ => h_.elim (HV.sepB (a := 2) (b := 4) (by decide) rfl rfl) (HV.sepB (a := 2) (b := 5) (by decide) rfl rfl)) (HV.cell (i := 2) (j := 0) rfl rfl)) (hk.cellN (fun h_ => h_.elim (HV.sepB (a := 2) (b := 4) (by decide) rfl rfl) (HV.sepB (a := 2) (b := 5) (by decide) rfl rfl)) (HV.cell (i := 2) (j := 1) rfl rfl))))) HK ?_
    refine t_q (n := 4) 1 (.agg #[.slice Br r.length dr, .int .i64 (cb : Int)]) rfl (by kernel_rfl) (by kernel_rfl) (fun _ _ _ h => h) (fun w' hk => (R_loadN (p := ⟨g3, 0, none⟩) [.slice Br r.length dr, .int .i64 (cb : Int)] (by kernel_rfl) (by kernel_rfl) (by kernel_rfl) (by kernel_rfl) (two_at (hk.cellN (fun h_ => h_.elim (HV.sepB (a := 3) (b := 4) (by decide) rfl rfl) (HV.sepB (a := 3) (b := 5) (by decide) rfl rfl)) (HV.cell (i := 3) (j := 0) rfl rfl)) (hk.cellN (fun h_ => h_.elim (HV.sepB (a := 3) (b := 4) (by decide) rfl rfl) (HV.sepB (a := 3) (b := 5) (by decide) rfl rfl)) (HV.cell (i := 3) (j := 1) rfl rfl))))) HK ?_
    refine t_q (n := 3) 2 (.int .i64 n) rfl (by kernel_rfl) (by kernel_rfl) (fun _ _ _ h => h) (fun w' hk => (by kernel_rfl)) HK ?_
    obtain ⟨W30, hrun_, H_, hk_⟩ := ex_ks (P := Try.prog) (ty := 0) (ps := "ref.go:38") (af := #[{ on := 0, ground := Go.Ground.data }, { on := 0, ground := Go.Ground.phase }, { on := 1, ground := (Go.Ground.textOnly Go.Departure.lateStores) }, { on := 2, ground := (Go.Ground.textOnly Go.Departure.lateStores) }]) (gd := none) (t := 30) (x := (Go.Operand.tmp 4)) (y := (Go.Operand.tmp 41)) (v := .agg #[.slice Aq q.length cq, .int .i64 (ca : Int)]) HS 4 rfl (0) [.slice Aq q.length cq, .int .i64 (ca : Int)] (by kernel_rfl) (by kernel_rfl) (by kernel_rfl) (by kernel_rfl) (one_ (by kernel_rfl)) (Nat.le_of_ble_eq_true rfl)
    replace HK := HK.trans hk_ (fun _ h_ => .inl (.inl (blk_own h_)))
    refine t_s (n := 2) 3 rfl (by kernel_rfl) (by kernel_rfl) hrun_ HK ?_
    clear hk_ hrun_
    replace HS : St W M W30 [rde Aq (ci .i64 q), rde Br (ci .i64 r), blk g1 [.slice Aq q.length cq, .int .i64 (ca : Int)] 30, blk g3 [.slice Br r.length dr, .int .i64 (cb : Int)] 30, blk g5 [.slice Aq q.length cq, .int .i64 (ca : Int)] 30, blk g7 [.slice none 0 0, .int .i64 0] 30] := H_
    clear H_
    obtain ⟨W31, hrun_, H_, hk_⟩ := ex_ks (P := Try.prog) (ty := 0) (ps := "ref.go:38") (af := #[{ on := 1, ground := Go.Ground.data }, { on := 3, ground := Go.Ground.chain }, { on := 0, ground := Go.Ground.phase }, { on := 1, ground := Go.Ground.phase }, { on := 2, ground := (Go.Ground.textOnly Go.Departure.lateStores) }, { on := 3, ground := Go.Ground.phase }]) (gd := none) (t := 30) (x := (Go.Operand.tmp 5)) (y := (Go.Operand.tmp 42)) (v := .agg #[.slice Br r.length dr, .int .i64 (cb : Int)]) HS 5 rfl (0) [.slice Br r.length dr, .int .i64 (cb : Int)] (by kernel_rfl) (by kernel_rfl) (by kernel_rfl) (by kernel_rfl) (one_ (by kernel_rfl)) (Nat.le_of_ble_eq_true rfl)
    replace HK := HK.trans hk_ (fun _ h_ => .inl (.inr (blk_own h_)))
    refine t_s (n := 1) 4 rfl (by kernel_rfl) (by kernel_rfl) hrun_ HK ?_
    clear hk_ hrun_
    replace HS : St W M W31 [rde Aq (ci .i64 q), rde Br (ci .i64 r), blk g1 [.slice Aq q.length cq, .int .i64 (ca : Int)] 30, blk g3 [.slice Br r.length dr, .int .i64 (cb : Int)] 30, blk g5 [.slice Aq q.length cq, .int .i64 (ca : Int)] 30, blk g7 [.slice Br r.length dr, .int .i64 (cb : Int)] 30] := H_
    clear H_
    refine t_q (n := 0) 5 (.int .i64 n) rfl (by kernel_rfl) (by kernel_rfl) (fun _ _ _ h => h) (fun w' hk => (by kernel_rfl)) HK ?_
    refine t_done (by kernel_rfl) ?_
    clear HV HK
    refine x_then ?_
    refine wp_ret ?_
    refine ret_ (.tuple #[.agg #[.slice Aq q.length cq, .int .i64 (ca : Int)], .agg #[.slice Br r.length dr, .int .i64 (cb : Int)], .int .i64 n]) (res3 rfl (oneRes_agg (p := ⟨g5, 0, none⟩) [.slice Aq q.length cq, .int .i64 (ca : Int)] (by kernel_rfl) (by kernel_rfl) (by kernel_rfl) (by kernel_rfl) (HS.cellsN (i := 4) rfl)) (oneRes_agg (p := ⟨g7, 0, none⟩) [.slice Br r.length dr, .int .i64 (cb : Int)] (by kernel_rfl) (by kernel_rfl) (by kernel_rfl) (by kernel_rfl) (HS.cellsN (i := 5) rfl)) (oneRes_t (by kernel_rfl))) ?_
    replace HS : St W M W31 [rde Aq (ci .i64 q), rde Br (ci .i64 r)] := St.tail (F := [blk g1 [.slice Aq q.length cq, .int .i64 (ca : Int)] 30, blk g3 [.slice Br r.length dr, .int .i64 (cb : Int)] 30, blk g5 [.slice Aq q.length cq, .int .i64 (ca : Int)] 30, blk g7 [.slice Br r.length dr, .int .i64 (cb : Int)] 30]) (HS.perm (perm_ [2, 3, 4, 5, 0, 1] (by kernel_rfl) rfl))
    obtain rfl : n = (((min xs.length (cb - ys.length)) : Nat) : Int) := by omega
    rw [Int.toNat_natCast] at hq hr
    subst hq; subst hr
    exact ⟨_, _, _, _, rfl, HS, hcq, hdr⟩


end Go.Proofs.Ytbjligkokogokaa.GPoolPlays
