-- Text written by a program of this session (wip/tools: the kit's printer with additions of ours).
import Derived.Test.YtgeenpfgkmnpeaaMFnExactSummaryOKx0
import Derived.Test.YtgeenpfgkmnpeaaMFnExactSummaryOKx1
namespace Go.Proofs.Ytgeenpfgkmnpeaa.MFnExactSummaryOK
open Go.RowKit Go.Proofs.YtgeenpfgkmnpeaaW.PrintWords Go.Proofs.YtgeenpfgkmnpeaaW.PrintLast Go.Proofs.YtgeenpfgkmnpeaaW.PrintMore
attribute [local go_sem] max2_int min2_int max_two min_two max_three min_three max_four min_four   -- for this text's walks alone
set_option linter.unusedVariables false
set_option linter.unusedSimpArgs false

/-! ### impl_within: function 49 -/
def impl_within.f (a0 : Int) (a1 : Int) (a2 : Int) : Option (Bool) := if a0 ≥ a1 then (some (decide (a0 ≤ a2))) else (some false)
set_option maxHeartbeats 8000000 in
set_option maxRecDepth 100000 in
theorem impl_within.calls (a0 : Int) (a1 : Int) (a2 : Int) (r : Bool) (w : World) (h : impl_within.f a0 a1 a2 = some r) :
    Calls Try.prog 49 #[.int .i64 a0, .int .i64 a1, .int .i64 a2] w fun e w' => e = .returned (.bool r) ∧ Drawn0 w w' := by
  have H : (if a0 ≥ a1 then (some (decide (a0 ≤ a2))) else (some false)) = some r := h
  clear h
  by_cases c4 : a0 ≥ a1
  · rw [if_pos c4] at H
    have c4b0 : decide (a1 ≤ a0) = true := decide_eq_true c4
    clear c4
    obtain rfl := Option.some.inj H
    go_enter Try.func49, Try.ntmps49
    go_wp2
    go_ret
    exact ⟨by first | rfl | (simp; done) | (simp [*]; done), by repeat (first | exact Drawn0.refl _ | apply Drawn0.step)⟩
  · rw [if_neg c4] at H
    have c4b0 : decide (a1 ≤ a0) = false := decide_eq_false c4
    clear c4
    obtain rfl := Option.some.inj H
    go_enter Try.func49, Try.ntmps49
    go_wp2
    go_ret
    exact ⟨by first | rfl | (simp; done) | (simp [*]; done), by repeat (first | exact Drawn0.refl _ | apply Drawn0.step)⟩

/-! ### impl_isTime: function 51 -/
def impl_isTime.f (a0 : Int) : Option (Bool) := (impl_within.f a0 0 2147483647).bind fun t104 => (some t104)
set_option maxHeartbeats 8000000 in
set_option maxRecDepth 100000 in
theorem impl_isTime.calls (a0 : Int) (r : Bool) (w : World) (h : impl_isTime.f a0 = some r) :
    Calls Try.prog 51 #[.int .i64 a0] w fun e w' => e = .returned (.bool r) ∧ Drawn0 w w' := by
  have H : ((impl_within.f a0 0 2147483647).bind fun t104 => (some t104)) = some r := h
  clear h
  replace H := Option.bind_eq_some_iff.mp H
  obtain ⟨t104, A20, H⟩ := H
  replace H : (some t104) = some r := H
  have A2 := Aside0.mk A20
  clear A20
  obtain rfl := Option.some.inj H
  go_enter Try.func51, Try.ntmps51
  go_wp2_with (first | ((with_reducible refine gate_callee (f := 49) rfl ?_); refine goesL_ (some 4) rfl rfl Try.func49 (by kernel_rfl) rfl #[.int .i64 a0, .int .i64 0, .int .i64 2147483647] rfl (by (try simp only [List.map_toArray, List.map_cons, List.map_nil]); first | done | rfl | (simp only [List.length_drop, List.length_take]; rfl)) ?_; (with_reducible refine (impl_within.calls a0 0 2147483647 t104 _ A2.out).mono ?_); rintro e w' ⟨rfl, ⟨nd, rfl⟩⟩; refine ⟨_, rfl, ?_⟩))
  go_ret
  exact ⟨by first | rfl | (simp; done) | (simp [*]; done), by repeat (first | exact Drawn0.refl _ | apply Drawn0.step)⟩

/-! ### impl_SummaryOK: function 34 -/
def sumOKb (a0 a1 a2 a3 a4 : Int) : Bool := decide (0 ≤ a0 ∧ a0 ≤ 2147483647 ∧ (-1 ≤ a1 ∧ a1 ≤ a0) ∧ (-1 ≤ a2 ∧ a2 ≤ a0) ∧ (-1 ≤ a3 ∧ a3 ≤ a0) ∧ (-1 ≤ a4 ∧ a4 ≤ a0) ∧ (a2 = -1 ↔ a3 = -1) ∧ (a2 ≠ -1 ∨ (a4 = -1 ∧ a1 ≠ -1)))
def impl_SummaryOK.f (a0 a1 a2 a3 a4 : Int) : Option Bool := some (sumOKb a0 a1 a2 a3 a4)
set_option maxHeartbeats 8000000 in
set_option maxRecDepth 100000 in
theorem impl_SummaryOK.no0 (a0 a1 a2 a3 a4 : Int) (w : World) (h0 : a0 < 0) :
    Calls Try.prog 34 #[.agg #[.int .i64 a0, .int .i64 a1, .int .i64 a2, .int .i64 a3, .int .i64 a4]] w fun e w' => e = .returned (.bool false) ∧ Below w.heap.size w w' := by
  have i0 : ∀ w, (Instr.index 63 (.agg #[.int .i64 a1, .int .i64 a2, .int .i64 a3, .int .i64 a4]) (.int .i64 0)).run Try.prog w = .ok (.int .i64 a1) w := fun _ => by kernel_rfl
  have i1 : ∀ w, (Instr.index 63 (.agg #[.int .i64 a1, .int .i64 a2, .int .i64 a3, .int .i64 a4]) (.int .i64 1)).run Try.prog w = .ok (.int .i64 a2) w := fun _ => by kernel_rfl
  have i2 : ∀ w, (Instr.index 63 (.agg #[.int .i64 a1, .int .i64 a2, .int .i64 a3, .int .i64 a4]) (.int .i64 2)).run Try.prog w = .ok (.int .i64 a3) w := fun _ => by kernel_rfl
  have i3 : ∀ w, (Instr.index 63 (.agg #[.int .i64 a1, .int .i64 a2, .int .i64 a3, .int .i64 a4]) (.int .i64 3)).run Try.prog w = .ok (.int .i64 a4) w := fun _ => by kernel_rfl
  have c0 : decide (0 ≤ a0) = false := by simp; omega
  clear h0
  go_enter Try.func34, Try.ntmps34
  go_wp2
  go_ret
  exact ⟨rfl, (Below.refl _ _).alloc (Nat.le_refl _) _⟩

set_option maxHeartbeats 8000000 in
set_option maxRecDepth 100000 in
theorem impl_SummaryOK.no1 (a0 a1 a2 a3 a4 : Int) (w : World) (h0 : 2147483647 < a0) :
    Calls Try.prog 34 #[.agg #[.int .i64 a0, .int .i64 a1, .int .i64 a2, .int .i64 a3, .int .i64 a4]] w fun e w' => e = .returned (.bool false) ∧ Below w.heap.size w w' := by
  have i0 : ∀ w, (Instr.index 63 (.agg #[.int .i64 a1, .int .i64 a2, .int .i64 a3, .int .i64 a4]) (.int .i64 0)).run Try.prog w = .ok (.int .i64 a1) w := fun _ => by kernel_rfl
  have i1 : ∀ w, (Instr.index 63 (.agg #[.int .i64 a1, .int .i64 a2, .int .i64 a3, .int .i64 a4]) (.int .i64 1)).run Try.prog w = .ok (.int .i64 a2) w := fun _ => by kernel_rfl
  have i2 : ∀ w, (Instr.index 63 (.agg #[.int .i64 a1, .int .i64 a2, .int .i64 a3, .int .i64 a4]) (.int .i64 2)).run Try.prog w = .ok (.int .i64 a3) w := fun _ => by kernel_rfl
  have i3 : ∀ w, (Instr.index 63 (.agg #[.int .i64 a1, .int .i64 a2, .int .i64 a3, .int .i64 a4]) (.int .i64 3)).run Try.prog w = .ok (.int .i64 a4) w := fun _ => by kernel_rfl
  have c0 : decide (0 ≤ a0) = true := by simp; omega
  have c1 : decide (a0 ≤ 2147483647) = false := by simp; omega
  clear h0
  go_enter Try.func34, Try.ntmps34
  go_wp2
  go_ret
  exact ⟨rfl, (Below.refl _ _).alloc (Nat.le_refl _) _⟩

set_option maxHeartbeats 8000000 in
set_option maxRecDepth 100000 in
theorem impl_SummaryOK.no2 (a0 a1 a2 a3 a4 : Int) (w : World) (h0 : 0 ≤ a0) (h1 : a0 ≤ 2147483647) (h2 : a1 < -1) :
    Calls Try.prog 34 #[.agg #[.int .i64 a0, .int .i64 a1, .int .i64 a2, .int .i64 a3, .int .i64 a4]] w fun e w' => e = .returned (.bool false) ∧ Below w.heap.size w w' := by
  have i0 : ∀ w, (Instr.index 63 (.agg #[.int .i64 a1, .int .i64 a2, .int .i64 a3, .int .i64 a4]) (.int .i64 0)).run Try.prog w = .ok (.int .i64 a1) w := fun _ => by kernel_rfl
  have i1 : ∀ w, (Instr.index 63 (.agg #[.int .i64 a1, .int .i64 a2, .int .i64 a3, .int .i64 a4]) (.int .i64 1)).run Try.prog w = .ok (.int .i64 a2) w := fun _ => by kernel_rfl
  have i2 : ∀ w, (Instr.index 63 (.agg #[.int .i64 a1, .int .i64 a2, .int .i64 a3, .int .i64 a4]) (.int .i64 2)).run Try.prog w = .ok (.int .i64 a3) w := fun _ => by kernel_rfl
  have i3 : ∀ w, (Instr.index 63 (.agg #[.int .i64 a1, .int .i64 a2, .int .i64 a3, .int .i64 a4]) (.int .i64 3)).run Try.prog w = .ok (.int .i64 a4) w := fun _ => by kernel_rfl
  have c0 : decide (0 ≤ a0) = true := by simp; omega
  have c1 : decide (a0 ≤ 2147483647) = true := by simp; omega
  have c2 : decide (-1 ≤ a1) = false := by simp; omega
  clear h0 h1 h2
  go_enter Try.func34, Try.ntmps34
  go_wp2
  refine wp_loop_rounds 6 ?_
  rw [rounds_succ]
  go_wp2
  go_ret
  exact ⟨rfl, (Below.refl _ _).alloc (Nat.le_refl _) _⟩

set_option maxHeartbeats 8000000 in
set_option maxRecDepth 100000 in
theorem impl_SummaryOK.no3 (a0 a1 a2 a3 a4 : Int) (w : World) (h0 : 0 ≤ a0) (h1 : a0 ≤ 2147483647) (h2 : -1 ≤ a1) (h3 : a0 < a1) :
    Calls Try.prog 34 #[.agg #[.int .i64 a0, .int .i64 a1, .int .i64 a2, .int .i64 a3, .int .i64 a4]] w fun e w' => e = .returned (.bool false) ∧ Below w.heap.size w w' := by
  have i0 : ∀ w, (Instr.index 63 (.agg #[.int .i64 a1, .int .i64 a2, .int .i64 a3, .int .i64 a4]) (.int .i64 0)).run Try.prog w = .ok (.int .i64 a1) w := fun _ => by kernel_rfl
  have i1 : ∀ w, (Instr.index 63 (.agg #[.int .i64 a1, .int .i64 a2, .int .i64 a3, .int .i64 a4]) (.int .i64 1)).run Try.prog w = .ok (.int .i64 a2) w := fun _ => by kernel_rfl
  have i2 : ∀ w, (Instr.index 63 (.agg #[.int .i64 a1, .int .i64 a2, .int .i64 a3, .int .i64 a4]) (.int .i64 2)).run Try.prog w = .ok (.int .i64 a3) w := fun _ => by kernel_rfl
  have i3 : ∀ w, (Instr.index 63 (.agg #[.int .i64 a1, .int .i64 a2, .int .i64 a3, .int .i64 a4]) (.int .i64 3)).run Try.prog w = .ok (.int .i64 a4) w := fun _ => by kernel_rfl
  have c0 : decide (0 ≤ a0) = true := by simp; omega
  have c1 : decide (a0 ≤ 2147483647) = true := by simp; omega
  have c2 : decide (-1 ≤ a1) = true := by simp; omega
  have c3 : decide (a1 ≤ a0) = false := by simp; omega
  clear h0 h1 h2 h3
  go_enter Try.func34, Try.ntmps34
  go_wp2
  refine wp_loop_rounds 6 ?_
  rw [rounds_succ]
  go_wp2
  go_ret
  exact ⟨rfl, (Below.refl _ _).alloc (Nat.le_refl _) _⟩

set_option maxHeartbeats 8000000 in
set_option maxRecDepth 100000 in
theorem impl_SummaryOK.no4 (a0 a1 a2 a3 a4 : Int) (w : World) (h0 : 0 ≤ a0) (h1 : a0 ≤ 2147483647) (h2 : -1 ≤ a1) (h3 : a1 ≤ a0) (h4 : a2 < -1) :
    Calls Try.prog 34 #[.agg #[.int .i64 a0, .int .i64 a1, .int .i64 a2, .int .i64 a3, .int .i64 a4]] w fun e w' => e = .returned (.bool false) ∧ Below w.heap.size w w' := by
  have i0 : ∀ w, (Instr.index 63 (.agg #[.int .i64 a1, .int .i64 a2, .int .i64 a3, .int .i64 a4]) (.int .i64 0)).run Try.prog w = .ok (.int .i64 a1) w := fun _ => by kernel_rfl
  have i1 : ∀ w, (Instr.index 63 (.agg #[.int .i64 a1, .int .i64 a2, .int .i64 a3, .int .i64 a4]) (.int .i64 1)).run Try.prog w = .ok (.int .i64 a2) w := fun _ => by kernel_rfl
  have i2 : ∀ w, (Instr.index 63 (.agg #[.int .i64 a1, .int .i64 a2, .int .i64 a3, .int .i64 a4]) (.int .i64 2)).run Try.prog w = .ok (.int .i64 a3) w := fun _ => by kernel_rfl
  have i3 : ∀ w, (Instr.index 63 (.agg #[.int .i64 a1, .int .i64 a2, .int .i64 a3, .int .i64 a4]) (.int .i64 3)).run Try.prog w = .ok (.int .i64 a4) w := fun _ => by kernel_rfl
  have c0 : decide (0 ≤ a0) = true := by simp; omega
  have c1 : decide (a0 ≤ 2147483647) = true := by simp; omega
  have c2 : decide (-1 ≤ a1) = true := by simp; omega
  have c3 : decide (a1 ≤ a0) = true := by simp; omega
  have c4 : decide (-1 ≤ a2) = false := by simp; omega
  clear h0 h1 h2 h3 h4
  go_enter Try.func34, Try.ntmps34
  go_wp2
  refine wp_loop_rounds 6 ?_
  rw [rounds_succ]
  go_wp2
  rw [rounds_succ]
  go_wp2
  go_ret
  exact ⟨rfl, (Below.refl _ _).alloc (Nat.le_refl _) _⟩

set_option maxHeartbeats 8000000 in
set_option maxRecDepth 100000 in
theorem impl_SummaryOK.no5 (a0 a1 a2 a3 a4 : Int) (w : World) (h0 : 0 ≤ a0) (h1 : a0 ≤ 2147483647) (h2 : -1 ≤ a1) (h3 : a1 ≤ a0) (h4 : -1 ≤ a2) (h5 : a0 < a2) :
    Calls Try.prog 34 #[.agg #[.int .i64 a0, .int .i64 a1, .int .i64 a2, .int .i64 a3, .int .i64 a4]] w fun e w' => e = .returned (.bool false) ∧ Below w.heap.size w w' := by
  have i0 : ∀ w, (Instr.index 63 (.agg #[.int .i64 a1, .int .i64 a2, .int .i64 a3, .int .i64 a4]) (.int .i64 0)).run Try.prog w = .ok (.int .i64 a1) w := fun _ => by kernel_rfl
  have i1 : ∀ w, (Instr.index 63 (.agg #[.int .i64 a1, .int .i64 a2, .int .i64 a3, .int .i64 a4]) (.int .i64 1)).run Try.prog w = .ok (.int .i64 a2) w := fun _ => by kernel_rfl
  have i2 : ∀ w, (Instr.index 63 (.agg #[.int .i64 a1, .int .i64 a2, .int .i64 a3, .int .i64 a4]) (.int .i64 2)).run Try.prog w = .ok (.int .i64 a3) w := fun _ => by kernel_rfl
  have i3 : ∀ w, (Instr.index 63 (.agg #[.int .i64 a1, .int .i64 a2, .int .i64 a3, .int .i64 a4]) (.int .i64 3)).run Try.prog w = .ok (.int .i64 a4) w := fun _ => by kernel_rfl
  have c0 : decide (0 ≤ a0) = true := by simp; omega
  have c1 : decide (a0 ≤ 2147483647) = true := by simp; omega
  have c2 : decide (-1 ≤ a1) = true := by simp; omega
  have c3 : decide (a1 ≤ a0) = true := by simp; omega
  have c4 : decide (-1 ≤ a2) = true := by simp; omega
  have c5 : decide (a2 ≤ a0) = false := by simp; omega
  clear h0 h1 h2 h3 h4 h5
  go_enter Try.func34, Try.ntmps34
  go_wp2
  refine wp_loop_rounds 6 ?_
  rw [rounds_succ]
  go_wp2
  rw [rounds_succ]
  go_wp2
  go_ret
  exact ⟨rfl, (Below.refl _ _).alloc (Nat.le_refl _) _⟩

set_option maxHeartbeats 8000000 in
set_option maxRecDepth 100000 in
theorem impl_SummaryOK.no6 (a0 a1 a2 a3 a4 : Int) (w : World) (h0 : 0 ≤ a0) (h1 : a0 ≤ 2147483647) (h2 : -1 ≤ a1) (h3 : a1 ≤ a0) (h4 : -1 ≤ a2) (h5 : a2 ≤ a0) (h6 : a3 < -1) :
    Calls Try.prog 34 #[.agg #[.int .i64 a0, .int .i64 a1, .int .i64 a2, .int .i64 a3, .int .i64 a4]] w fun e w' => e = .returned (.bool false) ∧ Below w.heap.size w w' := by
  have i0 : ∀ w, (Instr.index 63 (.agg #[.int .i64 a1, .int .i64 a2, .int .i64 a3, .int .i64 a4]) (.int .i64 0)).run Try.prog w = .ok (.int .i64 a1) w := fun _ => by kernel_rfl
  have i1 : ∀ w, (Instr.index 63 (.agg #[.int .i64 a1, .int .i64 a2, .int .i64 a3, .int .i64 a4]) (.int .i64 1)).run Try.prog w = .ok (.int .i64 a2) w := fun _ => by kernel_rfl
  have i2 : ∀ w, (Instr.index 63 (.agg #[.int .i64 a1, .int .i64 a2, .int .i64 a3, .int .i64 a4]) (.int .i64 2)).run Try.prog w = .ok (.int .i64 a3) w := fun _ => by kernel_rfl
  have i3 : ∀ w, (Instr.index 63 (.agg #[.int .i64 a1, .int .i64 a2, .int .i64 a3, .int .i64 a4]) (.int .i64 3)).run Try.prog w = .ok (.int .i64 a4) w := fun _ => by kernel_rfl
  have c0 : decide (0 ≤ a0) = true := by simp; omega
  have c1 : decide (a0 ≤ 2147483647) = true := by simp; omega
  have c2 : decide (-1 ≤ a1) = true := by simp; omega
  have c3 : decide (a1 ≤ a0) = true := by simp; omega
  have c4 : decide (-1 ≤ a2) = true := by simp; omega
  have c5 : decide (a2 ≤ a0) = true := by simp; omega
  have c6 : decide (-1 ≤ a3) = false := by simp; omega
  clear h0 h1 h2 h3 h4 h5 h6
  go_enter Try.func34, Try.ntmps34
  go_wp2
  refine wp_loop_rounds 6 ?_
  rw [rounds_succ]
  go_wp2
  rw [rounds_succ]
  go_wp2
  rw [rounds_succ]
  go_wp2
  go_ret
  exact ⟨rfl, (Below.refl _ _).alloc (Nat.le_refl _) _⟩

set_option maxHeartbeats 8000000 in
set_option maxRecDepth 100000 in
theorem impl_SummaryOK.no7 (a0 a1 a2 a3 a4 : Int) (w : World) (h0 : 0 ≤ a0) (h1 : a0 ≤ 2147483647) (h2 : -1 ≤ a1) (h3 : a1 ≤ a0) (h4 : -1 ≤ a2) (h5 : a2 ≤ a0) (h6 : -1 ≤ a3) (h7 : a0 < a3) :
    Calls Try.prog 34 #[.agg #[.int .i64 a0, .int .i64 a1, .int .i64 a2, .int .i64 a3, .int .i64 a4]] w fun e w' => e = .returned (.bool false) ∧ Below w.heap.size w w' := by
  have i0 : ∀ w, (Instr.index 63 (.agg #[.int .i64 a1, .int .i64 a2, .int .i64 a3, .int .i64 a4]) (.int .i64 0)).run Try.prog w = .ok (.int .i64 a1) w := fun _ => by kernel_rfl
  have i1 : ∀ w, (Instr.index 63 (.agg #[.int .i64 a1, .int .i64 a2, .int .i64 a3, .int .i64 a4]) (.int .i64 1)).run Try.prog w = .ok (.int .i64 a2) w := fun _ => by kernel_rfl
  have i2 : ∀ w, (Instr.index 63 (.agg #[.int .i64 a1, .int .i64 a2, .int .i64 a3, .int .i64 a4]) (.int .i64 2)).run Try.prog w = .ok (.int .i64 a3) w := fun _ => by kernel_rfl
  have i3 : ∀ w, (Instr.index 63 (.agg #[.int .i64 a1, .int .i64 a2, .int .i64 a3, .int .i64 a4]) (.int .i64 3)).run Try.prog w = .ok (.int .i64 a4) w := fun _ => by kernel_rfl
  have c0 : decide (0 ≤ a0) = true := by simp; omega
  have c1 : decide (a0 ≤ 2147483647) = true := by simp; omega
  have c2 : decide (-1 ≤ a1) = true := by simp; omega
  have c3 : decide (a1 ≤ a0) = true := by simp; omega
  have c4 : decide (-1 ≤ a2) = true := by simp; omega
  have c5 : decide (a2 ≤ a0) = true := by simp; omega
  have c6 : decide (-1 ≤ a3) = true := by simp; omega
  have c7 : decide (a3 ≤ a0) = false := by simp; omega
  clear h0 h1 h2 h3 h4 h5 h6 h7
  go_enter Try.func34, Try.ntmps34
  go_wp2
  refine wp_loop_rounds 6 ?_
  rw [rounds_succ]
  go_wp2
  rw [rounds_succ]
  go_wp2
  rw [rounds_succ]
  go_wp2
  go_ret
  exact ⟨rfl, (Below.refl _ _).alloc (Nat.le_refl _) _⟩

set_option maxHeartbeats 8000000 in
set_option maxRecDepth 100000 in
theorem impl_SummaryOK.no8 (a0 a1 a2 a3 a4 : Int) (w : World) (h0 : 0 ≤ a0) (h1 : a0 ≤ 2147483647) (h2 : -1 ≤ a1) (h3 : a1 ≤ a0) (h4 : -1 ≤ a2) (h5 : a2 ≤ a0) (h6 : -1 ≤ a3) (h7 : a3 ≤ a0) (h8 : a4 < -1) :
    Calls Try.prog 34 #[.agg #[.int .i64 a0, .int .i64 a1, .int .i64 a2, .int .i64 a3, .int .i64 a4]] w fun e w' => e = .returned (.bool false) ∧ Below w.heap.size w w' := by
  have i0 : ∀ w, (Instr.index 63 (.agg #[.int .i64 a1, .int .i64 a2, .int .i64 a3, .int .i64 a4]) (.int .i64 0)).run Try.prog w = .ok (.int .i64 a1) w := fun _ => by kernel_rfl
  have i1 : ∀ w, (Instr.index 63 (.agg #[.int .i64 a1, .int .i64 a2, .int .i64 a3, .int .i64 a4]) (.int .i64 1)).run Try.prog w = .ok (.int .i64 a2) w := fun _ => by kernel_rfl
  have i2 : ∀ w, (Instr.index 63 (.agg #[.int .i64 a1, .int .i64 a2, .int .i64 a3, .int .i64 a4]) (.int .i64 2)).run Try.prog w = .ok (.int .i64 a3) w := fun _ => by kernel_rfl
  have i3 : ∀ w, (Instr.index 63 (.agg #[.int .i64 a1, .int .i64 a2, .int .i64 a3, .int .i64 a4]) (.int .i64 3)).run Try.prog w = .ok (.int .i64 a4) w := fun _ => by kernel_rfl
  have c0 : decide (0 ≤ a0) = true := by simp; omega
  have c1 : decide (a0 ≤ 2147483647) = true := by simp; omega
  have c2 : decide (-1 ≤ a1) = true := by simp; omega
  have c3 : decide (a1 ≤ a0) = true := by simp; omega
  have c4 : decide (-1 ≤ a2) = true := by simp; omega
  have c5 : decide (a2 ≤ a0) = true := by simp; omega
  have c6 : decide (-1 ≤ a3) = true := by simp; omega
  have c7 : decide (a3 ≤ a0) = true := by simp; omega
  have c8 : decide (-1 ≤ a4) = false := by simp; omega
  clear h0 h1 h2 h3 h4 h5 h6 h7 h8
  go_enter Try.func34, Try.ntmps34
  go_wp2
  refine wp_loop_rounds 6 ?_
  rw [rounds_succ]
  go_wp2
  rw [rounds_succ]
  go_wp2
  rw [rounds_succ]
  go_wp2
  rw [rounds_succ]
  go_wp2
  go_ret
  exact ⟨rfl, (Below.refl _ _).alloc (Nat.le_refl _) _⟩

set_option maxHeartbeats 8000000 in
set_option maxRecDepth 100000 in
theorem impl_SummaryOK.no9 (a0 a1 a2 a3 a4 : Int) (w : World) (h0 : 0 ≤ a0) (h1 : a0 ≤ 2147483647) (h2 : -1 ≤ a1) (h3 : a1 ≤ a0) (h4 : -1 ≤ a2) (h5 : a2 ≤ a0) (h6 : -1 ≤ a3) (h7 : a3 ≤ a0) (h8 : -1 ≤ a4) (h9 : a0 < a4) :
    Calls Try.prog 34 #[.agg #[.int .i64 a0, .int .i64 a1, .int .i64 a2, .int .i64 a3, .int .i64 a4]] w fun e w' => e = .returned (.bool false) ∧ Below w.heap.size w w' := by
  have i0 : ∀ w, (Instr.index 63 (.agg #[.int .i64 a1, .int .i64 a2, .int .i64 a3, .int .i64 a4]) (.int .i64 0)).run Try.prog w = .ok (.int .i64 a1) w := fun _ => by kernel_rfl
  have i1 : ∀ w, (Instr.index 63 (.agg #[.int .i64 a1, .int .i64 a2, .int .i64 a3, .int .i64 a4]) (.int .i64 1)).run Try.prog w = .ok (.int .i64 a2) w := fun _ => by kernel_rfl
  have i2 : ∀ w, (Instr.index 63 (.agg #[.int .i64 a1, .int .i64 a2, .int .i64 a3, .int .i64 a4]) (.int .i64 2)).run Try.prog w = .ok (.int .i64 a3) w := fun _ => by kernel_rfl
  have i3 : ∀ w, (Instr.index 63 (.agg #[.int .i64 a1, .int .i64 a2, .int .i64 a3, .int .i64 a4]) (.int .i64 3)).run Try.prog w = .ok (.int .i64 a4) w := fun _ => by kernel_rfl
  have c0 : decide (0 ≤ a0) = true := by simp; omega
  have c1 : decide (a0 ≤ 2147483647) = true := by simp; omega
  have c2 : decide (-1 ≤ a1) = true := by simp; omega
  have c3 : decide (a1 ≤ a0) = true := by simp; omega
  have c4 : decide (-1 ≤ a2) = true := by simp; omega
  have c5 : decide (a2 ≤ a0) = true := by simp; omega
  have c6 : decide (-1 ≤ a3) = true := by simp; omega
  have c7 : decide (a3 ≤ a0) = true := by simp; omega
  have c8 : decide (-1 ≤ a4) = true := by simp; omega
  have c9 : decide (a4 ≤ a0) = false := by simp; omega
  clear h0 h1 h2 h3 h4 h5 h6 h7 h8 h9
  go_enter Try.func34, Try.ntmps34
  go_wp2
  refine wp_loop_rounds 6 ?_
  rw [rounds_succ]
  go_wp2
  rw [rounds_succ]
  go_wp2
  rw [rounds_succ]
  go_wp2
  rw [rounds_succ]
  go_wp2
  go_ret
  exact ⟨rfl, (Below.refl _ _).alloc (Nat.le_refl _) _⟩

set_option maxHeartbeats 8000000 in
set_option maxRecDepth 100000 in
theorem impl_SummaryOK.nx_true_false (a0 a1 a2 a3 a4 : Int) (w : World) (h0 : 0 ≤ a0) (h1 : a0 ≤ 2147483647) (h2 : -1 ≤ a1) (h3 : a1 ≤ a0) (h4 : -1 ≤ a2) (h5 : a2 ≤ a0) (h6 : -1 ≤ a3) (h7 : a3 ≤ a0) (h8 : -1 ≤ a4) (h9 : a4 ≤ a0) (h10 : a2 = -1) (h11 : a3 ≠ -1) :
    Calls Try.prog 34 #[.agg #[.int .i64 a0, .int .i64 a1, .int .i64 a2, .int .i64 a3, .int .i64 a4]] w fun e w' => e = .returned (.bool false) ∧ Below w.heap.size w w' := by
  have i0 : ∀ w, (Instr.index 63 (.agg #[.int .i64 a1, .int .i64 a2, .int .i64 a3, .int .i64 a4]) (.int .i64 0)).run Try.prog w = .ok (.int .i64 a1) w := fun _ => by kernel_rfl
  have i1 : ∀ w, (Instr.index 63 (.agg #[.int .i64 a1, .int .i64 a2, .int .i64 a3, .int .i64 a4]) (.int .i64 1)).run Try.prog w = .ok (.int .i64 a2) w := fun _ => by kernel_rfl
  have i2 : ∀ w, (Instr.index 63 (.agg #[.int .i64 a1, .int .i64 a2, .int .i64 a3, .int .i64 a4]) (.int .i64 2)).run Try.prog w = .ok (.int .i64 a3) w := fun _ => by kernel_rfl
  have i3 : ∀ w, (Instr.index 63 (.agg #[.int .i64 a1, .int .i64 a2, .int .i64 a3, .int .i64 a4]) (.int .i64 3)).run Try.prog w = .ok (.int .i64 a4) w := fun _ => by kernel_rfl
  have c0 : decide (0 ≤ a0) = true := by simp; omega
  have c1 : decide (a0 ≤ 2147483647) = true := by simp; omega
  have c2 : decide (-1 ≤ a1) = true := by simp; omega
  have c3 : decide (a1 ≤ a0) = true := by simp; omega
  have c4 : decide (-1 ≤ a2) = true := by simp; omega
  have c5 : decide (a2 ≤ a0) = true := by simp; omega
  have c6 : decide (-1 ≤ a3) = true := by simp; omega
  have c7 : decide (a3 ≤ a0) = true := by simp; omega
  have c8 : decide (-1 ≤ a4) = true := by simp; omega
  have c9 : decide (a4 ≤ a0) = true := by simp; omega
  have c10 : (a2 == -1) = true := by simp; omega
  have c11 : (a2 != -1) = false := by simp; omega
  have c12 : (a3 == -1) = false := by simp; omega
  have c13 : (a3 != -1) = true := by simp; omega
  clear h0 h1 h2 h3 h4 h5 h6 h7 h8 h9 h10 h11
  go_enter Try.func34, Try.ntmps34
  go_wp2
  refine wp_loop_rounds 6 ?_
  rw [rounds_succ]
  go_wp2
  rw [rounds_succ]
  go_wp2
  rw [rounds_succ]
  go_wp2
  rw [rounds_succ]
  go_wp2
  rw [rounds_succ]
  go_wp2
  go_ret
  exact ⟨rfl, (Below.refl _ _).alloc (Nat.le_refl _) _⟩

set_option maxHeartbeats 8000000 in
set_option maxRecDepth 100000 in
theorem impl_SummaryOK.nx_false_true (a0 a1 a2 a3 a4 : Int) (w : World) (h0 : 0 ≤ a0) (h1 : a0 ≤ 2147483647) (h2 : -1 ≤ a1) (h3 : a1 ≤ a0) (h4 : -1 ≤ a2) (h5 : a2 ≤ a0) (h6 : -1 ≤ a3) (h7 : a3 ≤ a0) (h8 : -1 ≤ a4) (h9 : a4 ≤ a0) (h10 : a2 ≠ -1) (h11 : a3 = -1) :
    Calls Try.prog 34 #[.agg #[.int .i64 a0, .int .i64 a1, .int .i64 a2, .int .i64 a3, .int .i64 a4]] w fun e w' => e = .returned (.bool false) ∧ Below w.heap.size w w' := by
  have i0 : ∀ w, (Instr.index 63 (.agg #[.int .i64 a1, .int .i64 a2, .int .i64 a3, .int .i64 a4]) (.int .i64 0)).run Try.prog w = .ok (.int .i64 a1) w := fun _ => by kernel_rfl
  have i1 : ∀ w, (Instr.index 63 (.agg #[.int .i64 a1, .int .i64 a2, .int .i64 a3, .int .i64 a4]) (.int .i64 1)).run Try.prog w = .ok (.int .i64 a2) w := fun _ => by kernel_rfl
  have i2 : ∀ w, (Instr.index 63 (.agg #[.int .i64 a1, .int .i64 a2, .int .i64 a3, .int .i64 a4]) (.int .i64 2)).run Try.prog w = .ok (.int .i64 a3) w := fun _ => by kernel_rfl
  have i3 : ∀ w, (Instr.index 63 (.agg #[.int .i64 a1, .int .i64 a2, .int .i64 a3, .int .i64 a4]) (.int .i64 3)).run Try.prog w = .ok (.int .i64 a4) w := fun _ => by kernel_rfl
  have c0 : decide (0 ≤ a0) = true := by simp; omega
  have c1 : decide (a0 ≤ 2147483647) = true := by simp; omega
  have c2 : decide (-1 ≤ a1) = true := by simp; omega
  have c3 : decide (a1 ≤ a0) = true := by simp; omega
  have c4 : decide (-1 ≤ a2) = true := by simp; omega
  have c5 : decide (a2 ≤ a0) = true := by simp; omega
  have c6 : decide (-1 ≤ a3) = true := by simp; omega
  have c7 : decide (a3 ≤ a0) = true := by simp; omega
  have c8 : decide (-1 ≤ a4) = true := by simp; omega
  have c9 : decide (a4 ≤ a0) = true := by simp; omega
  have c10 : (a2 == -1) = false := by simp; omega
  have c11 : (a2 != -1) = true := by simp; omega
  have c12 : (a3 == -1) = true := by simp; omega
  have c13 : (a3 != -1) = false := by simp; omega
  clear h0 h1 h2 h3 h4 h5 h6 h7 h8 h9 h10 h11
  go_enter Try.func34, Try.ntmps34
  go_wp2
  refine wp_loop_rounds 6 ?_
  rw [rounds_succ]
  go_wp2
  rw [rounds_succ]
  go_wp2
  rw [rounds_succ]
  go_wp2
  rw [rounds_succ]
  go_wp2
  rw [rounds_succ]
  go_wp2
  go_ret
  exact ⟨rfl, (Below.refl _ _).alloc (Nat.le_refl _) _⟩

set_option maxHeartbeats 8000000 in
set_option maxRecDepth 100000 in
theorem impl_SummaryOK.ok1 (a0 a1 a2 a3 a4 : Int) (w : World) (h0 : 0 ≤ a0) (h1 : a0 ≤ 2147483647) (h2 : -1 ≤ a1) (h3 : a1 ≤ a0) (h4 : -1 ≤ a2) (h5 : a2 ≤ a0) (h6 : -1 ≤ a3) (h7 : a3 ≤ a0) (h8 : -1 ≤ a4) (h9 : a4 ≤ a0) (h10 : a2 ≠ -1) (h11 : a3 ≠ -1) :
    Calls Try.prog 34 #[.agg #[.int .i64 a0, .int .i64 a1, .int .i64 a2, .int .i64 a3, .int .i64 a4]] w fun e w' => e = .returned (.bool true) ∧ Below w.heap.size w w' := by
  have i0 : ∀ w, (Instr.index 63 (.agg #[.int .i64 a1, .int .i64 a2, .int .i64 a3, .int .i64 a4]) (.int .i64 0)).run Try.prog w = .ok (.int .i64 a1) w := fun _ => by kernel_rfl
  have i1 : ∀ w, (Instr.index 63 (.agg #[.int .i64 a1, .int .i64 a2, .int .i64 a3, .int .i64 a4]) (.int .i64 1)).run Try.prog w = .ok (.int .i64 a2) w := fun _ => by kernel_rfl
  have i2 : ∀ w, (Instr.index 63 (.agg #[.int .i64 a1, .int .i64 a2, .int .i64 a3, .int .i64 a4]) (.int .i64 2)).run Try.prog w = .ok (.int .i64 a3) w := fun _ => by kernel_rfl
  have i3 : ∀ w, (Instr.index 63 (.agg #[.int .i64 a1, .int .i64 a2, .int .i64 a3, .int .i64 a4]) (.int .i64 3)).run Try.prog w = .ok (.int .i64 a4) w := fun _ => by kernel_rfl
  have c0 : decide (0 ≤ a0) = true := by simp; omega
  have c1 : decide (a0 ≤ 2147483647) = true := by simp; omega
  have c2 : decide (-1 ≤ a1) = true := by simp; omega
  have c3 : decide (a1 ≤ a0) = true := by simp; omega
  have c4 : decide (-1 ≤ a2) = true := by simp; omega
  have c5 : decide (a2 ≤ a0) = true := by simp; omega
  have c6 : decide (-1 ≤ a3) = true := by simp; omega
  have c7 : decide (a3 ≤ a0) = true := by simp; omega
  have c8 : decide (-1 ≤ a4) = true := by simp; omega
  have c9 : decide (a4 ≤ a0) = true := by simp; omega
  have c10 : (a2 == -1) = false := by simp; omega
  have c11 : (a2 != -1) = true := by simp; omega
  have c12 : (a3 == -1) = false := by simp; omega
  have c13 : (a3 != -1) = true := by simp; omega
  clear h0 h1 h2 h3 h4 h5 h6 h7 h8 h9 h10 h11
  go_enter Try.func34, Try.ntmps34
  go_wp2
  refine wp_loop_rounds 6 ?_
  rw [rounds_succ]
  go_wp2
  rw [rounds_succ]
  go_wp2
  rw [rounds_succ]
  go_wp2
  rw [rounds_succ]
  go_wp2
  rw [rounds_succ]
  go_wp2
  go_ret
  exact ⟨rfl, (Below.refl _ _).alloc (Nat.le_refl _) _⟩

set_option maxHeartbeats 8000000 in
set_option maxRecDepth 100000 in
theorem impl_SummaryOK.ok2 (a0 a1 a2 a3 a4 : Int) (w : World) (h0 : 0 ≤ a0) (h1 : a0 ≤ 2147483647) (h2 : -1 ≤ a1) (h3 : a1 ≤ a0) (h4 : -1 ≤ a2) (h5 : a2 ≤ a0) (h6 : -1 ≤ a3) (h7 : a3 ≤ a0) (h8 : -1 ≤ a4) (h9 : a4 ≤ a0) (h10 : a2 = -1) (h11 : a3 = -1) (h12 : a4 = -1) (h13 : a1 ≠ -1) :
    Calls Try.prog 34 #[.agg #[.int .i64 a0, .int .i64 a1, .int .i64 a2, .int .i64 a3, .int .i64 a4]] w fun e w' => e = .returned (.bool true) ∧ Below w.heap.size w w' := by
  have i0 : ∀ w, (Instr.index 63 (.agg #[.int .i64 a1, .int .i64 a2, .int .i64 a3, .int .i64 a4]) (.int .i64 0)).run Try.prog w = .ok (.int .i64 a1) w := fun _ => by kernel_rfl
  have i1 : ∀ w, (Instr.index 63 (.agg #[.int .i64 a1, .int .i64 a2, .int .i64 a3, .int .i64 a4]) (.int .i64 1)).run Try.prog w = .ok (.int .i64 a2) w := fun _ => by kernel_rfl
  have i2 : ∀ w, (Instr.index 63 (.agg #[.int .i64 a1, .int .i64 a2, .int .i64 a3, .int .i64 a4]) (.int .i64 2)).run Try.prog w = .ok (.int .i64 a3) w := fun _ => by kernel_rfl
  have i3 : ∀ w, (Instr.index 63 (.agg #[.int .i64 a1, .int .i64 a2, .int .i64 a3, .int .i64 a4]) (.int .i64 3)).run Try.prog w = .ok (.int .i64 a4) w := fun _ => by kernel_rfl
  have c0 : decide (0 ≤ a0) = true := by simp; omega
  have c1 : decide (a0 ≤ 2147483647) = true := by simp; omega
  have c2 : decide (-1 ≤ a1) = true := by simp; omega
  have c3 : decide (a1 ≤ a0) = true := by simp; omega
  have c4 : decide (-1 ≤ a2) = true := by simp; omega
  have c5 : decide (a2 ≤ a0) = true := by simp; omega
  have c6 : decide (-1 ≤ a3) = true := by simp; omega
  have c7 : decide (a3 ≤ a0) = true := by simp; omega
  have c8 : decide (-1 ≤ a4) = true := by simp; omega
  have c9 : decide (a4 ≤ a0) = true := by simp; omega
  have c10 : (a2 == -1) = true := by simp; omega
  have c11 : (a2 != -1) = false := by simp; omega
  have c12 : (a3 == -1) = true := by simp; omega
  have c13 : (a3 != -1) = false := by simp; omega
  have c14 : (a4 == -1) = true := by simp; omega
  have c15 : (a4 != -1) = false := by simp; omega
  have c16 : (a1 == -1) = false := by simp; omega
  have c17 : (a1 != -1) = true := by simp; omega
  clear h0 h1 h2 h3 h4 h5 h6 h7 h8 h9 h10 h11 h12 h13
  go_enter Try.func34, Try.ntmps34
  go_wp2
  refine wp_loop_rounds 6 ?_
  rw [rounds_succ]
  go_wp2
  rw [rounds_succ]
  go_wp2
  rw [rounds_succ]
  go_wp2
  rw [rounds_succ]
  go_wp2
  rw [rounds_succ]
  go_wp2
  go_ret
  exact ⟨rfl, (Below.refl _ _).alloc (Nat.le_refl _) _⟩

set_option maxHeartbeats 8000000 in
set_option maxRecDepth 100000 in
theorem impl_SummaryOK.nz1 (a0 a1 a2 a3 a4 : Int) (w : World) (h0 : 0 ≤ a0) (h1 : a0 ≤ 2147483647) (h2 : -1 ≤ a1) (h3 : a1 ≤ a0) (h4 : -1 ≤ a2) (h5 : a2 ≤ a0) (h6 : -1 ≤ a3) (h7 : a3 ≤ a0) (h8 : -1 ≤ a4) (h9 : a4 ≤ a0) (h10 : a2 = -1) (h11 : a3 = -1) (h12 : a4 = -1) (h13 : a1 = -1) :
    Calls Try.prog 34 #[.agg #[.int .i64 a0, .int .i64 a1, .int .i64 a2, .int .i64 a3, .int .i64 a4]] w fun e w' => e = .returned (.bool false) ∧ Below w.heap.size w w' := by
  have i0 : ∀ w, (Instr.index 63 (.agg #[.int .i64 a1, .int .i64 a2, .int .i64 a3, .int .i64 a4]) (.int .i64 0)).run Try.prog w = .ok (.int .i64 a1) w := fun _ => by kernel_rfl
  have i1 : ∀ w, (Instr.index 63 (.agg #[.int .i64 a1, .int .i64 a2, .int .i64 a3, .int .i64 a4]) (.int .i64 1)).run Try.prog w = .ok (.int .i64 a2) w := fun _ => by kernel_rfl
  have i2 : ∀ w, (Instr.index 63 (.agg #[.int .i64 a1, .int .i64 a2, .int .i64 a3, .int .i64 a4]) (.int .i64 2)).run Try.prog w = .ok (.int .i64 a3) w := fun _ => by kernel_rfl
  have i3 : ∀ w, (Instr.index 63 (.agg #[.int .i64 a1, .int .i64 a2, .int .i64 a3, .int .i64 a4]) (.int .i64 3)).run Try.prog w = .ok (.int .i64 a4) w := fun _ => by kernel_rfl
  have c0 : decide (0 ≤ a0) = true := by simp; omega
  have c1 : decide (a0 ≤ 2147483647) = true := by simp; omega
  have c2 : decide (-1 ≤ a1) = true := by simp; omega
  have c3 : decide (a1 ≤ a0) = true := by simp; omega
  have c4 : decide (-1 ≤ a2) = true := by simp; omega
  have c5 : decide (a2 ≤ a0) = true := by simp; omega
  have c6 : decide (-1 ≤ a3) = true := by simp; omega
  have c7 : decide (a3 ≤ a0) = true := by simp; omega
  have c8 : decide (-1 ≤ a4) = true := by simp; omega
  have c9 : decide (a4 ≤ a0) = true := by simp; omega
  have c10 : (a2 == -1) = true := by simp; omega
  have c11 : (a2 != -1) = false := by simp; omega
  have c12 : (a3 == -1) = true := by simp; omega
  have c13 : (a3 != -1) = false := by simp; omega
  have c14 : (a4 == -1) = true := by simp; omega
  have c15 : (a4 != -1) = false := by simp; omega
  have c16 : (a1 == -1) = true := by simp; omega
  have c17 : (a1 != -1) = false := by simp; omega
  clear h0 h1 h2 h3 h4 h5 h6 h7 h8 h9 h10 h11 h12 h13
  go_enter Try.func34, Try.ntmps34
  go_wp2
  refine wp_loop_rounds 6 ?_
  rw [rounds_succ]
  go_wp2
  rw [rounds_succ]
  go_wp2
  rw [rounds_succ]
  go_wp2
  rw [rounds_succ]
  go_wp2
  rw [rounds_succ]
  go_wp2
  go_ret
  exact ⟨rfl, (Below.refl _ _).alloc (Nat.le_refl _) _⟩

set_option maxHeartbeats 8000000 in
set_option maxRecDepth 100000 in
theorem impl_SummaryOK.nz2 (a0 a1 a2 a3 a4 : Int) (w : World) (h0 : 0 ≤ a0) (h1 : a0 ≤ 2147483647) (h2 : -1 ≤ a1) (h3 : a1 ≤ a0) (h4 : -1 ≤ a2) (h5 : a2 ≤ a0) (h6 : -1 ≤ a3) (h7 : a3 ≤ a0) (h8 : -1 ≤ a4) (h9 : a4 ≤ a0) (h10 : a2 = -1) (h11 : a3 = -1) (h12 : a4 ≠ -1) :
    Calls Try.prog 34 #[.agg #[.int .i64 a0, .int .i64 a1, .int .i64 a2, .int .i64 a3, .int .i64 a4]] w fun e w' => e = .returned (.bool false) ∧ Below w.heap.size w w' := by
  have i0 : ∀ w, (Instr.index 63 (.agg #[.int .i64 a1, .int .i64 a2, .int .i64 a3, .int .i64 a4]) (.int .i64 0)).run Try.prog w = .ok (.int .i64 a1) w := fun _ => by kernel_rfl
  have i1 : ∀ w, (Instr.index 63 (.agg #[.int .i64 a1, .int .i64 a2, .int .i64 a3, .int .i64 a4]) (.int .i64 1)).run Try.prog w = .ok (.int .i64 a2) w := fun _ => by kernel_rfl
  have i2 : ∀ w, (Instr.index 63 (.agg #[.int .i64 a1, .int .i64 a2, .int .i64 a3, .int .i64 a4]) (.int .i64 2)).run Try.prog w = .ok (.int .i64 a3) w := fun _ => by kernel_rfl
  have i3 : ∀ w, (Instr.index 63 (.agg #[.int .i64 a1, .int .i64 a2, .int .i64 a3, .int .i64 a4]) (.int .i64 3)).run Try.prog w = .ok (.int .i64 a4) w := fun _ => by kernel_rfl
  have c0 : decide (0 ≤ a0) = true := by simp; omega
  have c1 : decide (a0 ≤ 2147483647) = true := by simp; omega
  have c2 : decide (-1 ≤ a1) = true := by simp; omega
  have c3 : decide (a1 ≤ a0) = true := by simp; omega
  have c4 : decide (-1 ≤ a2) = true := by simp; omega
  have c5 : decide (a2 ≤ a0) = true := by simp; omega
  have c6 : decide (-1 ≤ a3) = true := by simp; omega
  have c7 : decide (a3 ≤ a0) = true := by simp; omega
  have c8 : decide (-1 ≤ a4) = true := by simp; omega
  have c9 : decide (a4 ≤ a0) = true := by simp; omega
  have c10 : (a2 == -1) = true := by simp; omega
  have c11 : (a2 != -1) = false := by simp; omega
  have c12 : (a3 == -1) = true := by simp; omega
  have c13 : (a3 != -1) = false := by simp; omega
  have c14 : (a4 == -1) = false := by simp; omega
  have c15 : (a4 != -1) = true := by simp; omega
  clear h0 h1 h2 h3 h4 h5 h6 h7 h8 h9 h10 h11 h12
  go_enter Try.func34, Try.ntmps34
  go_wp2
  refine wp_loop_rounds 6 ?_
  rw [rounds_succ]
  go_wp2
  rw [rounds_succ]
  go_wp2
  rw [rounds_succ]
  go_wp2
  rw [rounds_succ]
  go_wp2
  rw [rounds_succ]
  go_wp2
  go_ret
  exact ⟨rfl, (Below.refl _ _).alloc (Nat.le_refl _) _⟩

theorem impl_SummaryOK.calls (a0 a1 a2 a3 a4 : Int) (r : Bool) (w : World) (h : impl_SummaryOK.f a0 a1 a2 a3 a4 = some r) :
    Calls Try.prog 34 #[.agg #[.int .i64 a0, .int .i64 a1, .int .i64 a2, .int .i64 a3, .int .i64 a4]] w fun e w' => e = .returned (.bool r) ∧ Below w.heap.size w w' := by
  obtain rfl := Option.some.inj h
  clear h
  have no : ∀ (p : ¬ (0 ≤ a0 ∧ a0 ≤ 2147483647 ∧ (-1 ≤ a1 ∧ a1 ≤ a0) ∧ (-1 ≤ a2 ∧ a2 ≤ a0) ∧ (-1 ≤ a3 ∧ a3 ≤ a0) ∧ (-1 ≤ a4 ∧ a4 ≤ a0) ∧ (a2 = -1 ↔ a3 = -1) ∧ (a2 ≠ -1 ∨ (a4 = -1 ∧ a1 ≠ -1)))), sumOKb a0 a1 a2 a3 a4 = false := fun p => decide_eq_false p
  have yes : ∀ (p : (0 ≤ a0 ∧ a0 ≤ 2147483647 ∧ (-1 ≤ a1 ∧ a1 ≤ a0) ∧ (-1 ≤ a2 ∧ a2 ≤ a0) ∧ (-1 ≤ a3 ∧ a3 ≤ a0) ∧ (-1 ≤ a4 ∧ a4 ≤ a0) ∧ (a2 = -1 ↔ a3 = -1) ∧ (a2 ≠ -1 ∨ (a4 = -1 ∧ a1 ≠ -1)))), sumOKb a0 a1 a2 a3 a4 = true := fun p => decide_eq_true p
  by_cases c0 : a0 < 0
  · rw [no (by omega)]; exact impl_SummaryOK.no0 a0 a1 a2 a3 a4 w (by omega)
  by_cases c1 : 2147483647 < a0
  · rw [no (by omega)]; exact impl_SummaryOK.no1 a0 a1 a2 a3 a4 w (by omega)
  by_cases c2 : a1 < -1
  · rw [no (by omega)]; exact impl_SummaryOK.no2 a0 a1 a2 a3 a4 w (by omega) (by omega) (by omega)
  by_cases c3 : a0 < a1
  · rw [no (by omega)]; exact impl_SummaryOK.no3 a0 a1 a2 a3 a4 w (by omega) (by omega) (by omega) (by omega)
  by_cases c4 : a2 < -1
  · rw [no (by omega)]; exact impl_SummaryOK.no4 a0 a1 a2 a3 a4 w (by omega) (by omega) (by omega) (by omega) (by omega)
  by_cases c5 : a0 < a2
  · rw [no (by omega)]; exact impl_SummaryOK.no5 a0 a1 a2 a3 a4 w (by omega) (by omega) (by omega) (by omega) (by omega) (by omega)
  by_cases c6 : a3 < -1
  · rw [no (by omega)]; exact impl_SummaryOK.no6 a0 a1 a2 a3 a4 w (by omega) (by omega) (by omega) (by omega) (by omega) (by omega) (by omega)
  by_cases c7 : a0 < a3
  · rw [no (by omega)]; exact impl_SummaryOK.no7 a0 a1 a2 a3 a4 w (by omega) (by omega) (by omega) (by omega) (by omega) (by omega) (by omega) (by omega)
  by_cases c8 : a4 < -1
  · rw [no (by omega)]; exact impl_SummaryOK.no8 a0 a1 a2 a3 a4 w (by omega) (by omega) (by omega) (by omega) (by omega) (by omega) (by omega) (by omega) (by omega)
  by_cases c9 : a0 < a4
  · rw [no (by omega)]; exact impl_SummaryOK.no9 a0 a1 a2 a3 a4 w (by omega) (by omega) (by omega) (by omega) (by omega) (by omega) (by omega) (by omega) (by omega) (by omega)
  by_cases d2 : a2 = -1
  · by_cases d3 : a3 = -1
    · by_cases d4 : a4 = -1
      · by_cases d1 : a1 = -1
        · rw [no (by omega)]; exact impl_SummaryOK.nz1 a0 a1 a2 a3 a4 w (by omega) (by omega) (by omega) (by omega) (by omega) (by omega) (by omega) (by omega) (by omega) (by omega) d2 d3 d4 d1
        · rw [yes (by omega)]; exact impl_SummaryOK.ok2 a0 a1 a2 a3 a4 w (by omega) (by omega) (by omega) (by omega) (by omega) (by omega) (by omega) (by omega) (by omega) (by omega) d2 d3 d4 d1
      · rw [no (by omega)]; exact impl_SummaryOK.nz2 a0 a1 a2 a3 a4 w (by omega) (by omega) (by omega) (by omega) (by omega) (by omega) (by omega) (by omega) (by omega) (by omega) d2 d3 d4
    · rw [no (by omega)]; exact impl_SummaryOK.nx_true_false a0 a1 a2 a3 a4 w (by omega) (by omega) (by omega) (by omega) (by omega) (by omega) (by omega) (by omega) (by omega) (by omega) d2 d3
  · by_cases d3 : a3 = -1
    · rw [no (by omega)]; exact impl_SummaryOK.nx_false_true a0 a1 a2 a3 a4 w (by omega) (by omega) (by omega) (by omega) (by omega) (by omega) (by omega) (by omega) (by omega) (by omega) d2 d3
    · rw [yes (by omega)]; exact impl_SummaryOK.ok1 a0 a1 a2 a3 a4 w (by omega) (by omega) (by omega) (by omega) (by omega) (by omega) (by omega) (by omega) (by omega) (by omega) d2 d3

/-! ### laws_FnExactSummaryOK: function 11 -/
def laws_FnExactSummaryOK.f (a0_0 : Int) (a0_1 : Int) (a0_2 : Int) (a0_3 : Int) (a0_4 : Int) : Option (Bool) := (laws_toSummary.f a0_0 a0_1 a0_2 a0_3 a0_4).bind fun bt106 => ((spec_SummaryOK.f bt106.1 bt106.2.1 bt106.2.2.1 bt106.2.2.2.1 bt106.2.2.2.2).bind fun t111 => ((laws_toSummary.f a0_0 a0_1 a0_2 a0_3 a0_4).bind fun bt112 => ((impl_SummaryOK.f bt112.1 bt112.2.1 bt112.2.2.1 bt112.2.2.2.1 bt112.2.2.2.2).bind fun t117 => (if (t117 != t111) = true then (some false) else (some true)))))
set_option maxHeartbeats 8000000 in
set_option maxRecDepth 100000 in
theorem laws_FnExactSummaryOK.calls (a0_0 : Int) (a0_1 : Int) (a0_2 : Int) (a0_3 : Int) (a0_4 : Int) (r : Bool) (w : World) (h : laws_FnExactSummaryOK.f a0_0 a0_1 a0_2 a0_3 a0_4 = some r) (hlaw0 : r = true) :
    Calls Try.prog 11 #[.agg #[.int .i64 a0_0, .int .i64 a0_1, .int .i64 a0_2, .int .i64 a0_3, .int .i64 a0_4]] w fun e w' => e = .returned (.bool r) ∧ Below w.heap.size w w' := by
  have hu45 := Try.underlying45
  have HB := Aside0.mk (Below.refl w.heap.size w)
  have hlaw_ := Aside0.mk hlaw0
  clear hlaw0
  have H : ((laws_toSummary.f a0_0 a0_1 a0_2 a0_3 a0_4).bind fun bt106 => ((spec_SummaryOK.f bt106.1 bt106.2.1 bt106.2.2.1 bt106.2.2.2.1 bt106.2.2.2.2).bind fun t111 => ((laws_toSummary.f a0_0 a0_1 a0_2 a0_3 a0_4).bind fun bt112 => ((impl_SummaryOK.f bt112.1 bt112.2.1 bt112.2.2.1 bt112.2.2.2.1 bt112.2.2.2.2).bind fun t117 => (if (t117 != t111) = true then (some false) else (some true)))))) = some r := h
  clear h
  replace H := Option.bind_eq_some_iff.mp H
  obtain ⟨⟨t106, t107, t108, t109, t110⟩, A20, H⟩ := H
  replace H : ((spec_SummaryOK.f t106 t107 t108 t109 t110).bind fun t111 => ((laws_toSummary.f a0_0 a0_1 a0_2 a0_3 a0_4).bind fun bt112 => ((impl_SummaryOK.f bt112.1 bt112.2.1 bt112.2.2.1 bt112.2.2.2.1 bt112.2.2.2.2).bind fun t117 => (if (t117 != t111) = true then (some false) else (some true))))) = some r := H
  have A2 := Aside0.mk A20
  clear A20
  replace H := Option.bind_eq_some_iff.mp H
  obtain ⟨t111, A30, H⟩ := H
  replace H : ((laws_toSummary.f a0_0 a0_1 a0_2 a0_3 a0_4).bind fun bt112 => ((impl_SummaryOK.f bt112.1 bt112.2.1 bt112.2.2.1 bt112.2.2.2.1 bt112.2.2.2.2).bind fun t117 => (if (t117 != t111) = true then (some false) else (some true)))) = some r := H
  have A3 := Aside0.mk A30
  clear A30
  replace H := Option.bind_eq_some_iff.mp H
  obtain ⟨⟨t112, t113, t114, t115, t116⟩, A40, H⟩ := H
  replace H : ((impl_SummaryOK.f t112 t113 t114 t115 t116).bind fun t117 => (if (t117 != t111) = true then (some false) else (some true))) = some r := H
  have A4 := Aside0.mk A40
  clear A40
  replace H := Option.bind_eq_some_iff.mp H
  obtain ⟨t117, A50, H⟩ := H
  replace H : (if (t117 != t111) = true then (some false) else (some true)) = some r := H
  have A5 := Aside0.mk A50
  clear A50
  by_cases c6 : (t117 != t111) = true
  · rw [if_pos c6] at H
    have c6b0 : (t117 != t111) = true := c6
    (try (have c6b1 : decide (t117 = t111) = false := by simpa using c6))
    (try (have c6b2 : (t117 == t111) = false := by simpa using c6))
    (try (have c6b3 : ¬ (t117 = t111) := by simpa using c6))
    clear c6
    exact absurd ((Option.some.inj H).trans hlaw_.out) (by decide)
  · rw [if_neg c6] at H
    have c6b0 : (t117 != t111) = false := by simpa using c6
    (try (have c6b1 : decide (t117 = t111) = true := by simpa using c6))
    (try (have c6b2 : (t117 == t111) = true := by simpa using c6))
    clear c6
    obtain rfl := Option.some.inj H
    go_enter Try.func11, Try.ntmps11
    go_wp2_with (first | ((with_reducible refine gate_dst (N := 1) rfl ?_); refine box_event ?hg (N := 1) ?hd (cs := #[.int .i64 a0_0, .int .i64 a0_1, .int .i64 a0_2, .int .i64 a0_3, .int .i64 a0_4]) (t := 45) ?hr ?_; (case hd => rfl); (case hg => rfl); (case hr => first | (go_simp; done) | (go_simp; rfl)); intro gb105 hg w7 hbox hb; have n0_ := Aside0.mk (below_step (by repeat (first | (with_reducible first | exact HB.out | apply below_alloc | apply pw_below_drewN | apply below_drew1) | exact HB.out)) hb); have n1_ := Aside0.mk (hbox); have n2_ := Aside0.mk ((by rw [hg]; exact (below_size (by repeat (first | (with_reducible first | exact HB.out | apply below_alloc | apply pw_below_drewN | apply below_drew1) | exact HB.out))) : w.heap.size ≤ gb105)); have n3_ := Aside0.mk ((by rw [hg]; exact (below_size (by repeat (first | (with_reducible first | exact HB.out | apply below_alloc | apply pw_below_drewN | apply below_drew1) | exact HB.out))) : w.heap.size ≤ gb105)); clear HB; have HB := n0_; have BK105 := n1_; have GW105 := n2_; have GE105 := n3_; clear n0_ n1_ n2_ n3_; clear hb hbox hg; have hcz8_0 : w7.cell? ⟨gb105, 0, none⟩ = some (.int .i64 a0_0) := (blk_cell BK105.out 0).trans rfl; have hcz8_1 : w7.cell? ⟨gb105, 1, none⟩ = some (.int .i64 a0_1) := (blk_cell BK105.out 1).trans rfl; have hcz8_2 : w7.cell? ⟨gb105, 2, none⟩ = some (.int .i64 a0_2) := (blk_cell BK105.out 2).trans rfl; have hcz8_3 : w7.cell? ⟨gb105, 3, none⟩ = some (.int .i64 a0_3) := (blk_cell BK105.out 3).trans rfl; have hcz8_4 : w7.cell? ⟨gb105, 4, none⟩ = some (.int .i64 a0_4) := (blk_cell BK105.out 4).trans rfl; have hfz8_0 := blk_frozen BK105.out 0; have hfz8_1 := blk_frozen BK105.out 1; have hfz8_2 := blk_frozen BK105.out 2; have hfz8_3 := blk_frozen BK105.out 3; have hfz8_4 := blk_frozen BK105.out 4) | ((with_reducible refine gate_callee (f := 33) rfl ?_); refine goesL_ (some 6) rfl rfl Try.func33 (by kernel_rfl) rfl #[.agg #[.int .i64 a0_0, .int .i64 a0_1, .int .i64 a0_2, .int .i64 a0_3, .int .i64 a0_4]] rfl (by (try simp only [List.map_toArray, List.map_cons, List.map_nil]); first | done | rfl | (simp only [List.length_drop, List.length_take]; rfl)) ?_; (with_reducible refine (laws_toSummary.calls a0_0 a0_1 a0_2 a0_3 a0_4 t106 t107 t108 t109 t110 _ A2.out).mono ?_); rintro e w9 ⟨rfl, hb⟩; refine ⟨_, rfl, ?_⟩; have n0_ := Aside0.mk (blk_below (g := gb105) (o := .cells #[.int .i64 a0_0, .int .i64 a0_1, .int .i64 a0_2, .int .i64 a0_3, .int .i64 a0_4] 45 (0, 0)) (by (with_reducible repeat (first | refine blk_drewN ?_ _ | refine blk_drew ?_ | refine blk_alloc ?_ _)); exact BK105.out) hb); have n1_ := Aside0.mk (below_step (by repeat (first | (with_reducible first | exact HB.out | apply below_alloc | apply pw_below_drewN | apply below_drew1 | refine below_set ?_ GE105.out) | exact HB.out)) hb); clear BK105; clear HB; have BK105 := n0_; have HB := n1_; clear n0_ n1_; (try clear hb); (try clear hb2); (try clear hk); (try clear hi)) | ((with_reducible refine gate_callee (f := 32) rfl ?_); refine goesL_ (some 7) rfl rfl Try.func32 (by kernel_rfl) rfl #[.agg #[.int .i64 t106, .int .i64 t107, .int .i64 t108, .int .i64 t109, .int .i64 t110]] rfl (by (try simp only [List.map_toArray, List.map_cons, List.map_nil]); first | done | rfl | (simp only [List.length_drop, List.length_take]; rfl)) ?_; (with_reducible refine (spec_SummaryOK.calls t106 t107 t108 t109 t110 t111 _ A3.out).mono ?_); rintro e w10 ⟨rfl, hb⟩; refine ⟨_, rfl, ?_⟩; have n0_ := Aside0.mk (blk_below (g := gb105) (o := .cells #[.int .i64 a0_0, .int .i64 a0_1, .int .i64 a0_2, .int .i64 a0_3, .int .i64 a0_4] 45 (0, 0)) (by (with_reducible repeat (first | refine blk_drewN ?_ _ | refine blk_drew ?_ | refine blk_alloc ?_ _)); exact BK105.out) hb); have n1_ := Aside0.mk (below_step (by repeat (first | (with_reducible first | exact HB.out | apply below_alloc | apply pw_below_drewN | apply below_drew1 | refine below_set ?_ GE105.out) | exact HB.out)) hb); clear BK105; clear HB; have BK105 := n0_; have HB := n1_; clear n0_ n1_; (try clear hb); (try clear hb2); (try clear hk); (try clear hi); have hcz11_0 : w10.cell? ⟨gb105, 0, none⟩ = some (.int .i64 a0_0) := (blk_cell BK105.out 0).trans rfl; have hcz11_1 : w10.cell? ⟨gb105, 1, none⟩ = some (.int .i64 a0_1) := (blk_cell BK105.out 1).trans rfl; have hcz11_2 : w10.cell? ⟨gb105, 2, none⟩ = some (.int .i64 a0_2) := (blk_cell BK105.out 2).trans rfl; have hcz11_3 : w10.cell? ⟨gb105, 3, none⟩ = some (.int .i64 a0_3) := (blk_cell BK105.out 3).trans rfl; have hcz11_4 : w10.cell? ⟨gb105, 4, none⟩ = some (.int .i64 a0_4) := (blk_cell BK105.out 4).trans rfl; have hfz11_0 := blk_frozen BK105.out 0; have hfz11_1 := blk_frozen BK105.out 1; have hfz11_2 := blk_frozen BK105.out 2; have hfz11_3 := blk_frozen BK105.out 3; have hfz11_4 := blk_frozen BK105.out 4) | ((with_reducible refine gate_callee (f := 33) rfl ?_); refine goesL_ (some 9) rfl rfl Try.func33 (by kernel_rfl) rfl #[.agg #[.int .i64 a0_0, .int .i64 a0_1, .int .i64 a0_2, .int .i64 a0_3, .int .i64 a0_4]] rfl (by (try simp only [List.map_toArray, List.map_cons, List.map_nil]); first | done | rfl | (simp only [List.length_drop, List.length_take]; rfl)) ?_; (with_reducible refine (laws_toSummary.calls a0_0 a0_1 a0_2 a0_3 a0_4 t112 t113 t114 t115 t116 _ A4.out).mono ?_); rintro e w12 ⟨rfl, hb⟩; refine ⟨_, rfl, ?_⟩; have n0_ := Aside0.mk (blk_below (g := gb105) (o := .cells #[.int .i64 a0_0, .int .i64 a0_1, .int .i64 a0_2, .int .i64 a0_3, .int .i64 a0_4] 45 (0, 0)) (by (with_reducible repeat (first | refine blk_drewN ?_ _ | refine blk_drew ?_ | refine blk_alloc ?_ _)); exact BK105.out) hb); have n1_ := Aside0.mk (below_step (by repeat (first | (with_reducible first | exact HB.out | apply below_alloc | apply pw_below_drewN | apply below_drew1 | refine below_set ?_ GE105.out) | exact HB.out)) hb); clear BK105; clear HB; have BK105 := n0_; have HB := n1_; clear n0_ n1_; (try clear hb); (try clear hb2); (try clear hk); (try clear hi)) | ((with_reducible refine gate_callee (f := 34) rfl ?_); refine goesL_ (some 10) rfl rfl Try.func34 (by kernel_rfl) rfl #[.agg #[.int .i64 t112, .int .i64 t113, .int .i64 t114, .int .i64 t115, .int .i64 t116]] rfl (by (try simp only [List.map_toArray, List.map_cons, List.map_nil]); first | done | rfl | (simp only [List.length_drop, List.length_take]; rfl)) ?_; (with_reducible refine (impl_SummaryOK.calls t112 t113 t114 t115 t116 t117 _ A5.out).mono ?_); rintro e w13 ⟨rfl, hb⟩; refine ⟨_, rfl, ?_⟩; have n0_ := Aside0.mk (blk_below (g := gb105) (o := .cells #[.int .i64 a0_0, .int .i64 a0_1, .int .i64 a0_2, .int .i64 a0_3, .int .i64 a0_4] 45 (0, 0)) (by (with_reducible repeat (first | refine blk_drewN ?_ _ | refine blk_drew ?_ | refine blk_alloc ?_ _)); exact BK105.out) hb); have n1_ := Aside0.mk (below_step (by repeat (first | (with_reducible first | exact HB.out | apply below_alloc | apply pw_below_drewN | apply below_drew1 | refine below_set ?_ GE105.out) | exact HB.out)) hb); clear BK105; clear HB; have BK105 := n0_; have HB := n1_; clear n0_ n1_; (try clear hb); (try clear hb2); (try clear hk); (try clear hi)))
    go_ret
    exact ⟨by first | rfl | (simp [errW_none, errW_some] <;> rfl) | (simp [*, errW_none, errW_some] <;> rfl), by repeat (first | (with_reducible first | exact HB.out | apply below_alloc | apply pw_below_drewN | apply below_drew1 | refine below_set ?_ GE105.out) | exact HB.out)⟩

def wf45 (x : S45) : Prop := (fun a => (Lit.int .i64 a).wf = true) x.f0 ∧ (fun a => (Lit.int .i64 a).wf = true) x.f1 ∧ (fun a => (Lit.int .i64 a).wf = true) x.f2 ∧ (fun a => (Lit.int .i64 a).wf = true) x.f3 ∧ (fun a => (Lit.int .i64 a).wf = true) x.f4
/-- THE ONE PURE STATEMENT of laws_FnExactSummaryOK: mine. -/
def laws_FnExactSummaryOK.Pure : Prop := ∀ (x0 : S45), wf45 x0 → laws_FnExactSummaryOK.f x0.f0 x0.f1 x0.f2 x0.f3 x0.f4 = some true

end Go.Proofs.Ytgeenpfgkmnpeaa.MFnExactSummaryOK
