-- Text written by a program of this session (wip/tools: the kit's printer with additions of ours).
import Derived.Test.YtjgdfbcjlebniaaMFnExactSameDatax0
import Derived.Test.YtjgdfbcjlebniaaMFnExactSameDatax13
import Derived.Test.YtjgdfbcjlebniaaMFnExactSameDatax15
namespace Go.Proofs.Ytjgdfbcjlebniaa.MFnExactSameData
open Go.RowKit Go.Proofs.YtjgdfbcjlebniaaW.PrintWords Go.Proofs.YtjgdfbcjlebniaaW.PrintLast Go.Proofs.YtjgdfbcjlebniaaW.PrintMore
attribute [local go_sem] max2_int min2_int max_two min_two max_three min_three max_four min_four   -- for this text's walks alone
set_option linter.unusedVariables false
set_option linter.unusedSimpArgs false

/-! ### impl_DataOK: function 14 -/
def impl_DataOK.f (k : Nat) (l0_0 : List Int) (l0_1 : List (S77)) (l0_2 : List Bool) (l0_3 : List Bool) (l0_4 : List Bool) (l0_5 : List Bool) (a0_6 : Int) : Option (Bool) := if l0_2.length = 8 then (if l0_3.length = 8 then (if l0_4.length = 8 then (if l0_5.length = 8 then (if l0_0.length = 16 then ((impl_all_int_isValue.f k l0_0).bind fun t1 => (if t1 = true then (if l0_1.length ≤ 8 then ((impl_all_Fb_FbOK.f k l0_1).bind fun t2 => (if t2 = true then ((impl_isTime.f a0_6).bind fun t3 => (some t3)) else (some false))) else (some false)) else (some false))) else (some false)) else (some false)) else (some false)) else (some false)) else (some false)
theorem impl_DataOK.mono : ∀ a0 a1 a2 a3 a4 a5 a6 k, LeO (impl_DataOK.f k a0 a1 a2 a3 a4 a5 a6) (impl_DataOK.f (k + 1) a0 a1 a2 a3 a4 a5 a6) := by
  intro a0 a1 a2 a3 a4 a5 a6 k
  unfold impl_DataOK.f
  repeat' first
  | (with_reducible exact impl_all_int_isValue.mono _ _)
  | (with_reducible exact impl_all_Fb_FbOK.mono _ _)
  | (with_reducible exact LeO.refl _)
  | (with_reducible exact LeO.none _)
  | (with_reducible refine LeO.ite ?_ ?_)
  | (with_reducible refine LeO.bind ?_ (fun _ => ?_))
set_option maxHeartbeats 8000000 in
set_option maxRecDepth 100000 in
theorem impl_DataOK.no0 (k : Nat) (A0_0 A0_1 A0_2 A0_3 A0_4 A0_5 : Option Addr) (c0_0 c0_1 c0_2 c0_3 c0_4 c0_5 : Nat) (l0_0 : List Int) (l0_1 : List (S77)) (l0_2 : List Bool) (l0_3 : List Bool) (l0_4 : List Bool) (l0_5 : List Bool) (a0_6 : Int) (w : World)  (h0 : ¬ l0_2.length = 8) :
    Calls Try.prog 14 #[.agg #[.slice A0_0 l0_0.length c0_0, .slice A0_1 l0_1.length c0_1, .slice A0_2 l0_2.length c0_2, .slice A0_3 l0_3.length c0_3, .slice A0_4 l0_4.length c0_4, .slice A0_5 l0_5.length c0_5, .int .i64 a0_6]] w fun e w' => e = .returned (.bool false) ∧ Below w.heap.size w w' := by
  have hu31 := Try.underlying31
  have i0 : ∀ w, (Instr.index 80 (.agg #[.slice A0_2 l0_2.length c0_2, .slice A0_3 l0_3.length c0_3, .slice A0_4 l0_4.length c0_4, .slice A0_5 l0_5.length c0_5]) (.int .i64 0)).run Try.prog w = .ok (.slice A0_2 l0_2.length c0_2) w := fun _ => by kernel_rfl
  have i1 : ∀ w, (Instr.index 80 (.agg #[.slice A0_2 l0_2.length c0_2, .slice A0_3 l0_3.length c0_3, .slice A0_4 l0_4.length c0_4, .slice A0_5 l0_5.length c0_5]) (.int .i64 1)).run Try.prog w = .ok (.slice A0_3 l0_3.length c0_3) w := fun _ => by kernel_rfl
  have i2 : ∀ w, (Instr.index 80 (.agg #[.slice A0_2 l0_2.length c0_2, .slice A0_3 l0_3.length c0_3, .slice A0_4 l0_4.length c0_4, .slice A0_5 l0_5.length c0_5]) (.int .i64 2)).run Try.prog w = .ok (.slice A0_4 l0_4.length c0_4) w := fun _ => by kernel_rfl
  have i3 : ∀ w, (Instr.index 80 (.agg #[.slice A0_2 l0_2.length c0_2, .slice A0_3 l0_3.length c0_3, .slice A0_4 l0_4.length c0_4, .slice A0_5 l0_5.length c0_5]) (.int .i64 3)).run Try.prog w = .ok (.slice A0_5 l0_5.length c0_5) w := fun _ => by kernel_rfl
  have f0 : ((l0_2.length : Int) != 8) = true := by simp; omega
  clear h0
  go_enter Try.func14, Try.ntmps14
  go_wp2
  refine wp_loop_rounds 5 ?_
  rw [rounds_succ]
  go_wp2
  go_ret
  exact ⟨rfl, (Below.refl _ _).alloc (Nat.le_refl _) _⟩
set_option maxHeartbeats 8000000 in
set_option maxRecDepth 100000 in
theorem impl_DataOK.no1 (k : Nat) (A0_0 A0_1 A0_2 A0_3 A0_4 A0_5 : Option Addr) (c0_0 c0_1 c0_2 c0_3 c0_4 c0_5 : Nat) (l0_0 : List Int) (l0_1 : List (S77)) (l0_2 : List Bool) (l0_3 : List Bool) (l0_4 : List Bool) (l0_5 : List Bool) (a0_6 : Int) (w : World) (h0 : l0_2.length = 8) (h1 : ¬ l0_3.length = 8) :
    Calls Try.prog 14 #[.agg #[.slice A0_0 l0_0.length c0_0, .slice A0_1 l0_1.length c0_1, .slice A0_2 l0_2.length c0_2, .slice A0_3 l0_3.length c0_3, .slice A0_4 l0_4.length c0_4, .slice A0_5 l0_5.length c0_5, .int .i64 a0_6]] w fun e w' => e = .returned (.bool false) ∧ Below w.heap.size w w' := by
  have hu31 := Try.underlying31
  have i0 : ∀ w, (Instr.index 80 (.agg #[.slice A0_2 l0_2.length c0_2, .slice A0_3 l0_3.length c0_3, .slice A0_4 l0_4.length c0_4, .slice A0_5 l0_5.length c0_5]) (.int .i64 0)).run Try.prog w = .ok (.slice A0_2 l0_2.length c0_2) w := fun _ => by kernel_rfl
  have i1 : ∀ w, (Instr.index 80 (.agg #[.slice A0_2 l0_2.length c0_2, .slice A0_3 l0_3.length c0_3, .slice A0_4 l0_4.length c0_4, .slice A0_5 l0_5.length c0_5]) (.int .i64 1)).run Try.prog w = .ok (.slice A0_3 l0_3.length c0_3) w := fun _ => by kernel_rfl
  have i2 : ∀ w, (Instr.index 80 (.agg #[.slice A0_2 l0_2.length c0_2, .slice A0_3 l0_3.length c0_3, .slice A0_4 l0_4.length c0_4, .slice A0_5 l0_5.length c0_5]) (.int .i64 2)).run Try.prog w = .ok (.slice A0_4 l0_4.length c0_4) w := fun _ => by kernel_rfl
  have i3 : ∀ w, (Instr.index 80 (.agg #[.slice A0_2 l0_2.length c0_2, .slice A0_3 l0_3.length c0_3, .slice A0_4 l0_4.length c0_4, .slice A0_5 l0_5.length c0_5]) (.int .i64 3)).run Try.prog w = .ok (.slice A0_5 l0_5.length c0_5) w := fun _ => by kernel_rfl
  have f0 : ((l0_2.length : Int) != 8) = false := by simp; omega
  have f1 : ((l0_3.length : Int) != 8) = true := by simp; omega
  clear h0 h1
  go_enter Try.func14, Try.ntmps14
  go_wp2
  refine wp_loop_rounds 5 ?_
  rw [rounds_succ]
  go_wp2
  rw [rounds_succ]
  go_wp2
  go_ret
  exact ⟨rfl, (Below.refl _ _).alloc (Nat.le_refl _) _⟩
set_option maxHeartbeats 8000000 in
set_option maxRecDepth 100000 in
theorem impl_DataOK.no2 (k : Nat) (A0_0 A0_1 A0_2 A0_3 A0_4 A0_5 : Option Addr) (c0_0 c0_1 c0_2 c0_3 c0_4 c0_5 : Nat) (l0_0 : List Int) (l0_1 : List (S77)) (l0_2 : List Bool) (l0_3 : List Bool) (l0_4 : List Bool) (l0_5 : List Bool) (a0_6 : Int) (w : World) (h0 : l0_2.length = 8) (h1 : l0_3.length = 8) (h2 : ¬ l0_4.length = 8) :
    Calls Try.prog 14 #[.agg #[.slice A0_0 l0_0.length c0_0, .slice A0_1 l0_1.length c0_1, .slice A0_2 l0_2.length c0_2, .slice A0_3 l0_3.length c0_3, .slice A0_4 l0_4.length c0_4, .slice A0_5 l0_5.length c0_5, .int .i64 a0_6]] w fun e w' => e = .returned (.bool false) ∧ Below w.heap.size w w' := by
  have hu31 := Try.underlying31
  have i0 : ∀ w, (Instr.index 80 (.agg #[.slice A0_2 l0_2.length c0_2, .slice A0_3 l0_3.length c0_3, .slice A0_4 l0_4.length c0_4, .slice A0_5 l0_5.length c0_5]) (.int .i64 0)).run Try.prog w = .ok (.slice A0_2 l0_2.length c0_2) w := fun _ => by kernel_rfl
  have i1 : ∀ w, (Instr.index 80 (.agg #[.slice A0_2 l0_2.length c0_2, .slice A0_3 l0_3.length c0_3, .slice A0_4 l0_4.length c0_4, .slice A0_5 l0_5.length c0_5]) (.int .i64 1)).run Try.prog w = .ok (.slice A0_3 l0_3.length c0_3) w := fun _ => by kernel_rfl
  have i2 : ∀ w, (Instr.index 80 (.agg #[.slice A0_2 l0_2.length c0_2, .slice A0_3 l0_3.length c0_3, .slice A0_4 l0_4.length c0_4, .slice A0_5 l0_5.length c0_5]) (.int .i64 2)).run Try.prog w = .ok (.slice A0_4 l0_4.length c0_4) w := fun _ => by kernel_rfl
  have i3 : ∀ w, (Instr.index 80 (.agg #[.slice A0_2 l0_2.length c0_2, .slice A0_3 l0_3.length c0_3, .slice A0_4 l0_4.length c0_4, .slice A0_5 l0_5.length c0_5]) (.int .i64 3)).run Try.prog w = .ok (.slice A0_5 l0_5.length c0_5) w := fun _ => by kernel_rfl
  have f0 : ((l0_2.length : Int) != 8) = false := by simp; omega
  have f1 : ((l0_3.length : Int) != 8) = false := by simp; omega
  have f2 : ((l0_4.length : Int) != 8) = true := by simp; omega
  clear h0 h1 h2
  go_enter Try.func14, Try.ntmps14
  go_wp2
  refine wp_loop_rounds 5 ?_
  rw [rounds_succ]
  go_wp2
  rw [rounds_succ]
  go_wp2
  rw [rounds_succ]
  go_wp2
  go_ret
  exact ⟨rfl, (Below.refl _ _).alloc (Nat.le_refl _) _⟩
set_option maxHeartbeats 8000000 in
set_option maxRecDepth 100000 in
theorem impl_DataOK.no3 (k : Nat) (A0_0 A0_1 A0_2 A0_3 A0_4 A0_5 : Option Addr) (c0_0 c0_1 c0_2 c0_3 c0_4 c0_5 : Nat) (l0_0 : List Int) (l0_1 : List (S77)) (l0_2 : List Bool) (l0_3 : List Bool) (l0_4 : List Bool) (l0_5 : List Bool) (a0_6 : Int) (w : World) (h0 : l0_2.length = 8) (h1 : l0_3.length = 8) (h2 : l0_4.length = 8) (h3 : ¬ l0_5.length = 8) :
    Calls Try.prog 14 #[.agg #[.slice A0_0 l0_0.length c0_0, .slice A0_1 l0_1.length c0_1, .slice A0_2 l0_2.length c0_2, .slice A0_3 l0_3.length c0_3, .slice A0_4 l0_4.length c0_4, .slice A0_5 l0_5.length c0_5, .int .i64 a0_6]] w fun e w' => e = .returned (.bool false) ∧ Below w.heap.size w w' := by
  have hu31 := Try.underlying31
  have i0 : ∀ w, (Instr.index 80 (.agg #[.slice A0_2 l0_2.length c0_2, .slice A0_3 l0_3.length c0_3, .slice A0_4 l0_4.length c0_4, .slice A0_5 l0_5.length c0_5]) (.int .i64 0)).run Try.prog w = .ok (.slice A0_2 l0_2.length c0_2) w := fun _ => by kernel_rfl
  have i1 : ∀ w, (Instr.index 80 (.agg #[.slice A0_2 l0_2.length c0_2, .slice A0_3 l0_3.length c0_3, .slice A0_4 l0_4.length c0_4, .slice A0_5 l0_5.length c0_5]) (.int .i64 1)).run Try.prog w = .ok (.slice A0_3 l0_3.length c0_3) w := fun _ => by kernel_rfl
  have i2 : ∀ w, (Instr.index 80 (.agg #[.slice A0_2 l0_2.length c0_2, .slice A0_3 l0_3.length c0_3, .slice A0_4 l0_4.length c0_4, .slice A0_5 l0_5.length c0_5]) (.int .i64 2)).run Try.prog w = .ok (.slice A0_4 l0_4.length c0_4) w := fun _ => by kernel_rfl
  have i3 : ∀ w, (Instr.index 80 (.agg #[.slice A0_2 l0_2.length c0_2, .slice A0_3 l0_3.length c0_3, .slice A0_4 l0_4.length c0_4, .slice A0_5 l0_5.length c0_5]) (.int .i64 3)).run Try.prog w = .ok (.slice A0_5 l0_5.length c0_5) w := fun _ => by kernel_rfl
  have f0 : ((l0_2.length : Int) != 8) = false := by simp; omega
  have f1 : ((l0_3.length : Int) != 8) = false := by simp; omega
  have f2 : ((l0_4.length : Int) != 8) = false := by simp; omega
  have f3 : ((l0_5.length : Int) != 8) = true := by simp; omega
  clear h0 h1 h2 h3
  go_enter Try.func14, Try.ntmps14
  go_wp2
  refine wp_loop_rounds 5 ?_
  rw [rounds_succ]
  go_wp2
  rw [rounds_succ]
  go_wp2
  rw [rounds_succ]
  go_wp2
  rw [rounds_succ]
  go_wp2
  go_ret
  exact ⟨rfl, (Below.refl _ _).alloc (Nat.le_refl _) _⟩
set_option maxHeartbeats 8000000 in
set_option maxRecDepth 100000 in
theorem impl_DataOK.m0 (k : Nat) (A0_0 A0_1 A0_2 A0_3 A0_4 A0_5 : Option Addr) (c0_0 c0_1 c0_2 c0_3 c0_4 c0_5 : Nat) (l0_0 : List Int) (l0_1 : List (S77)) (l0_2 : List Bool) (l0_3 : List Bool) (l0_4 : List Bool) (l0_5 : List Bool) (a0_6 : Int) (w : World) (hr0_0 : Kd.C (Kd.int .i64) w A0_0 l0_0.length l0_0) (hc0_0 : l0_0.length ≤ c0_0) (hr0_1 : Kd.C k77 w A0_1 l0_1.length l0_1) (hc0_1 : l0_1.length ≤ c0_1) (h0 : l0_2.length = 8) (h1 : l0_3.length = 8) (h2 : l0_4.length = 8) (h3 : l0_5.length = 8) (g0 : ¬ l0_0.length = 16) :
    Calls Try.prog 14 #[.agg #[.slice A0_0 l0_0.length c0_0, .slice A0_1 l0_1.length c0_1, .slice A0_2 l0_2.length c0_2, .slice A0_3 l0_3.length c0_3, .slice A0_4 l0_4.length c0_4, .slice A0_5 l0_5.length c0_5, .int .i64 a0_6]] w fun e w' => e = .returned (.bool false) ∧ Below w.heap.size w w' := by
  have hu31 := Try.underlying31
  have i0 : ∀ w, (Instr.index 80 (.agg #[.slice A0_2 l0_2.length c0_2, .slice A0_3 l0_3.length c0_3, .slice A0_4 l0_4.length c0_4, .slice A0_5 l0_5.length c0_5]) (.int .i64 0)).run Try.prog w = .ok (.slice A0_2 l0_2.length c0_2) w := fun _ => by kernel_rfl
  have i1 : ∀ w, (Instr.index 80 (.agg #[.slice A0_2 l0_2.length c0_2, .slice A0_3 l0_3.length c0_3, .slice A0_4 l0_4.length c0_4, .slice A0_5 l0_5.length c0_5]) (.int .i64 1)).run Try.prog w = .ok (.slice A0_3 l0_3.length c0_3) w := fun _ => by kernel_rfl
  have i2 : ∀ w, (Instr.index 80 (.agg #[.slice A0_2 l0_2.length c0_2, .slice A0_3 l0_3.length c0_3, .slice A0_4 l0_4.length c0_4, .slice A0_5 l0_5.length c0_5]) (.int .i64 2)).run Try.prog w = .ok (.slice A0_4 l0_4.length c0_4) w := fun _ => by kernel_rfl
  have i3 : ∀ w, (Instr.index 80 (.agg #[.slice A0_2 l0_2.length c0_2, .slice A0_3 l0_3.length c0_3, .slice A0_4 l0_4.length c0_4, .slice A0_5 l0_5.length c0_5]) (.int .i64 3)).run Try.prog w = .ok (.slice A0_5 l0_5.length c0_5) w := fun _ => by kernel_rfl
  have f0 : ((l0_2.length : Int) != 8) = false := by simp; omega
  have f1 : ((l0_3.length : Int) != 8) = false := by simp; omega
  have f2 : ((l0_4.length : Int) != 8) = false := by simp; omega
  have f3 : ((l0_5.length : Int) != 8) = false := by simp; omega
  have e0 : ((l0_0.length : Int) == 16) = false := by simp; omega
  clear h0 h1 h2 h3 g0
  replace hr0_0 := Aside0.mk hr0_0
  replace hc0_0 := Aside0.mk hc0_0
  replace hr0_1 := Aside0.mk hr0_1
  replace hc0_1 := Aside0.mk hc0_1
  go_enter Try.func14, Try.ntmps14
  go_upto_region 1 with (first | ((with_reducible refine gate_dst (N := 1) rfl ?_); refine box_event ?hg (N := 1) ?hd (cs := #[.slice A0_0 l0_0.length c0_0, .slice A0_1 l0_1.length c0_1, .slice A0_2 l0_2.length c0_2, .slice A0_3 l0_3.length c0_3, .slice A0_4 l0_4.length c0_4, .slice A0_5 l0_5.length c0_5, .int .i64 a0_6]) (t := 31) ?hr ?_; (case hd => rfl); (case hg => rfl); (case hr => first | (go_simp; done) | (go_simp; rfl)); intro gb hg w2 hbox hb; have BK := Aside0.mk hbox; have HB := Aside0.mk hb; clear hb hbox hg))
  (try simp only [Act.put, List.setIfInBounds_toArray, List.set_cons_zero, List.set_cons_succ])
  have hz0_0 : w2.cell? ⟨gb, 0, none⟩ = some (.slice A0_0 l0_0.length c0_0) := (blk_cell BK.out 0).trans rfl
  have hz0_1 : w2.cell? ⟨gb, 1, none⟩ = some (.slice A0_1 l0_1.length c0_1) := (blk_cell BK.out 1).trans rfl
  have hz0_2 : w2.cell? ⟨gb, 2, none⟩ = some (.slice A0_2 l0_2.length c0_2) := (blk_cell BK.out 2).trans rfl
  have hz0_3 : w2.cell? ⟨gb, 3, none⟩ = some (.slice A0_3 l0_3.length c0_3) := (blk_cell BK.out 3).trans rfl
  have hz0_4 : w2.cell? ⟨gb, 4, none⟩ = some (.slice A0_4 l0_4.length c0_4) := (blk_cell BK.out 4).trans rfl
  have hz0_5 : w2.cell? ⟨gb, 5, none⟩ = some (.slice A0_5 l0_5.length c0_5) := (blk_cell BK.out 5).trans rfl
  have hz0_6 : w2.cell? ⟨gb, 6, none⟩ = some (.int .i64 a0_6) := (blk_cell BK.out 6).trans rfl
  go_wp2
  refine wp_loop_rounds 5 ?_
  rw [rounds_succ]
  go_wp2
  rw [rounds_succ]
  go_wp2
  rw [rounds_succ]
  go_wp2
  rw [rounds_succ]
  go_wp2
  rw [rounds_succ]
  go_wp2
  go_ret
  exact ⟨by first | rfl | (simp; done), by repeat (first | (with_reducible first | exact HB.out | apply below_alloc | apply pw_below_drewN | apply below_drew1) | exact HB.out)⟩
set_option maxHeartbeats 8000000 in
set_option maxRecDepth 100000 in
theorem impl_DataOK.m1 (k : Nat) (A0_0 A0_1 A0_2 A0_3 A0_4 A0_5 : Option Addr) (c0_0 c0_1 c0_2 c0_3 c0_4 c0_5 : Nat) (l0_0 : List Int) (l0_1 : List (S77)) (l0_2 : List Bool) (l0_3 : List Bool) (l0_4 : List Bool) (l0_5 : List Bool) (a0_6 : Int) (w : World) (hr0_0 : Kd.C (Kd.int .i64) w A0_0 l0_0.length l0_0) (hc0_0 : l0_0.length ≤ c0_0) (hr0_1 : Kd.C k77 w A0_1 l0_1.length l0_1) (hc0_1 : l0_1.length ≤ c0_1) (h0 : l0_2.length = 8) (h1 : l0_3.length = 8) (h2 : l0_4.length = 8) (h3 : l0_5.length = 8) (g0 : l0_0.length = 16) (A1 : impl_all_int_isValue.f k l0_0 = some false) :
    Calls Try.prog 14 #[.agg #[.slice A0_0 l0_0.length c0_0, .slice A0_1 l0_1.length c0_1, .slice A0_2 l0_2.length c0_2, .slice A0_3 l0_3.length c0_3, .slice A0_4 l0_4.length c0_4, .slice A0_5 l0_5.length c0_5, .int .i64 a0_6]] w fun e w' => e = .returned (.bool false) ∧ Below w.heap.size w w' := by
  have hu31 := Try.underlying31
  have i0 : ∀ w, (Instr.index 80 (.agg #[.slice A0_2 l0_2.length c0_2, .slice A0_3 l0_3.length c0_3, .slice A0_4 l0_4.length c0_4, .slice A0_5 l0_5.length c0_5]) (.int .i64 0)).run Try.prog w = .ok (.slice A0_2 l0_2.length c0_2) w := fun _ => by kernel_rfl
  have i1 : ∀ w, (Instr.index 80 (.agg #[.slice A0_2 l0_2.length c0_2, .slice A0_3 l0_3.length c0_3, .slice A0_4 l0_4.length c0_4, .slice A0_5 l0_5.length c0_5]) (.int .i64 1)).run Try.prog w = .ok (.slice A0_3 l0_3.length c0_3) w := fun _ => by kernel_rfl
  have i2 : ∀ w, (Instr.index 80 (.agg #[.slice A0_2 l0_2.length c0_2, .slice A0_3 l0_3.length c0_3, .slice A0_4 l0_4.length c0_4, .slice A0_5 l0_5.length c0_5]) (.int .i64 2)).run Try.prog w = .ok (.slice A0_4 l0_4.length c0_4) w := fun _ => by kernel_rfl
  have i3 : ∀ w, (Instr.index 80 (.agg #[.slice A0_2 l0_2.length c0_2, .slice A0_3 l0_3.length c0_3, .slice A0_4 l0_4.length c0_4, .slice A0_5 l0_5.length c0_5]) (.int .i64 3)).run Try.prog w = .ok (.slice A0_5 l0_5.length c0_5) w := fun _ => by kernel_rfl
  have f0 : ((l0_2.length : Int) != 8) = false := by simp; omega
  have f1 : ((l0_3.length : Int) != 8) = false := by simp; omega
  have f2 : ((l0_4.length : Int) != 8) = false := by simp; omega
  have f3 : ((l0_5.length : Int) != 8) = false := by simp; omega
  have e0 : ((l0_0.length : Int) == 16) = true := by simp; omega
  clear h0 h1 h2 h3 g0
  replace hr0_0 := Aside0.mk hr0_0
  replace hc0_0 := Aside0.mk hc0_0
  replace hr0_1 := Aside0.mk hr0_1
  replace hc0_1 := Aside0.mk hc0_1
  replace A1 := Aside0.mk A1
  go_enter Try.func14, Try.ntmps14
  go_upto_region 1 with (first | ((with_reducible refine gate_dst (N := 1) rfl ?_); refine box_event ?hg (N := 1) ?hd (cs := #[.slice A0_0 l0_0.length c0_0, .slice A0_1 l0_1.length c0_1, .slice A0_2 l0_2.length c0_2, .slice A0_3 l0_3.length c0_3, .slice A0_4 l0_4.length c0_4, .slice A0_5 l0_5.length c0_5, .int .i64 a0_6]) (t := 31) ?hr ?_; (case hd => rfl); (case hg => rfl); (case hr => first | (go_simp; done) | (go_simp; rfl)); intro gb hg w2 hbox hb; have BK := Aside0.mk hbox; have HB := Aside0.mk hb; clear hb hbox hg))
  (try simp only [Act.put, List.setIfInBounds_toArray, List.set_cons_zero, List.set_cons_succ])
  have hz0_0 : w2.cell? ⟨gb, 0, none⟩ = some (.slice A0_0 l0_0.length c0_0) := (blk_cell BK.out 0).trans rfl
  have hz0_1 : w2.cell? ⟨gb, 1, none⟩ = some (.slice A0_1 l0_1.length c0_1) := (blk_cell BK.out 1).trans rfl
  have hz0_2 : w2.cell? ⟨gb, 2, none⟩ = some (.slice A0_2 l0_2.length c0_2) := (blk_cell BK.out 2).trans rfl
  have hz0_3 : w2.cell? ⟨gb, 3, none⟩ = some (.slice A0_3 l0_3.length c0_3) := (blk_cell BK.out 3).trans rfl
  have hz0_4 : w2.cell? ⟨gb, 4, none⟩ = some (.slice A0_4 l0_4.length c0_4) := (blk_cell BK.out 4).trans rfl
  have hz0_5 : w2.cell? ⟨gb, 5, none⟩ = some (.slice A0_5 l0_5.length c0_5) := (blk_cell BK.out 5).trans rfl
  have hz0_6 : w2.cell? ⟨gb, 6, none⟩ = some (.int .i64 a0_6) := (blk_cell BK.out 6).trans rfl
  go_wp2
  refine wp_loop_rounds 5 ?_
  rw [rounds_succ]
  go_wp2
  rw [rounds_succ]
  go_wp2
  rw [rounds_succ]
  go_wp2
  rw [rounds_succ]
  go_wp2
  rw [rounds_succ]
  go_wp2_with (first | (go_at_call 53; (with_reducible refine (impl_all_int_isValue.calls k _ _ l0_0 _ _ (Kd.C_below hr0_0.out HB.out) hc0_0.out A1.out).mono ?_); rintro e w3 ⟨rfl, hb3⟩; have BK2 := Aside0.mk (blk_below BK.out hb3); have HB2 := Aside0.mk (below_step HB.out hb3); clear BK HB hb3 hz0_0 hz0_1 hz0_2 hz0_3 hz0_4 hz0_5 hz0_6; have BK := BK2; have HB := HB2; clear BK2 HB2; have hz1_0 : w3.cell? ⟨gb, 0, none⟩ = some (.slice A0_0 l0_0.length c0_0) := (blk_cell BK.out 0).trans rfl; have hz1_1 : w3.cell? ⟨gb, 1, none⟩ = some (.slice A0_1 l0_1.length c0_1) := (blk_cell BK.out 1).trans rfl; have hz1_2 : w3.cell? ⟨gb, 2, none⟩ = some (.slice A0_2 l0_2.length c0_2) := (blk_cell BK.out 2).trans rfl; have hz1_3 : w3.cell? ⟨gb, 3, none⟩ = some (.slice A0_3 l0_3.length c0_3) := (blk_cell BK.out 3).trans rfl; have hz1_4 : w3.cell? ⟨gb, 4, none⟩ = some (.slice A0_4 l0_4.length c0_4) := (blk_cell BK.out 4).trans rfl; have hz1_5 : w3.cell? ⟨gb, 5, none⟩ = some (.slice A0_5 l0_5.length c0_5) := (blk_cell BK.out 5).trans rfl; have hz1_6 : w3.cell? ⟨gb, 6, none⟩ = some (.int .i64 a0_6) := (blk_cell BK.out 6).trans rfl))
  go_ret
  exact ⟨by first | rfl | (simp; done), by repeat (first | (with_reducible first | exact HB.out | apply below_alloc | apply pw_below_drewN | apply below_drew1) | exact HB.out)⟩
set_option maxHeartbeats 8000000 in
set_option maxRecDepth 100000 in
theorem impl_DataOK.m2 (k : Nat) (A0_0 A0_1 A0_2 A0_3 A0_4 A0_5 : Option Addr) (c0_0 c0_1 c0_2 c0_3 c0_4 c0_5 : Nat) (l0_0 : List Int) (l0_1 : List (S77)) (l0_2 : List Bool) (l0_3 : List Bool) (l0_4 : List Bool) (l0_5 : List Bool) (a0_6 : Int) (w : World) (hr0_0 : Kd.C (Kd.int .i64) w A0_0 l0_0.length l0_0) (hc0_0 : l0_0.length ≤ c0_0) (hr0_1 : Kd.C k77 w A0_1 l0_1.length l0_1) (hc0_1 : l0_1.length ≤ c0_1) (h0 : l0_2.length = 8) (h1 : l0_3.length = 8) (h2 : l0_4.length = 8) (h3 : l0_5.length = 8) (g0 : l0_0.length = 16) (A1 : impl_all_int_isValue.f k l0_0 = some true) (g1 : ¬ l0_1.length ≤ 8) :
    Calls Try.prog 14 #[.agg #[.slice A0_0 l0_0.length c0_0, .slice A0_1 l0_1.length c0_1, .slice A0_2 l0_2.length c0_2, .slice A0_3 l0_3.length c0_3, .slice A0_4 l0_4.length c0_4, .slice A0_5 l0_5.length c0_5, .int .i64 a0_6]] w fun e w' => e = .returned (.bool false) ∧ Below w.heap.size w w' := by
  have hu31 := Try.underlying31
  have i0 : ∀ w, (Instr.index 80 (.agg #[.slice A0_2 l0_2.length c0_2, .slice A0_3 l0_3.length c0_3, .slice A0_4 l0_4.length c0_4, .slice A0_5 l0_5.length c0_5]) (.int .i64 0)).run Try.prog w = .ok (.slice A0_2 l0_2.length c0_2) w := fun _ => by kernel_rfl
  have i1 : ∀ w, (Instr.index 80 (.agg #[.slice A0_2 l0_2.length c0_2, .slice A0_3 l0_3.length c0_3, .slice A0_4 l0_4.length c0_4, .slice A0_5 l0_5.length c0_5]) (.int .i64 1)).run Try.prog w = .ok (.slice A0_3 l0_3.length c0_3) w := fun _ => by kernel_rfl
  have i2 : ∀ w, (Instr.index 80 (.agg #[.slice A0_2 l0_2.length c0_2, .slice A0_3 l0_3.length c0_3, .slice A0_4 l0_4.length c0_4, .slice A0_5 l0_5.length c0_5]) (.int .i64 2)).run Try.prog w = .ok (.slice A0_4 l0_4.length c0_4) w := fun _ => by kernel_rfl
  have i3 : ∀ w, (Instr.index 80 (.agg #[.slice A0_2 l0_2.length c0_2, .slice A0_3 l0_3.length c0_3, .slice A0_4 l0_4.length c0_4, .slice A0_5 l0_5.length c0_5]) (.int .i64 3)).run Try.prog w = .ok (.slice A0_5 l0_5.length c0_5) w := fun _ => by kernel_rfl
  have f0 : ((l0_2.length : Int) != 8) = false := by simp; omega
  have f1 : ((l0_3.length : Int) != 8) = false := by simp; omega
  have f2 : ((l0_4.length : Int) != 8) = false := by simp; omega
  have f3 : ((l0_5.length : Int) != 8) = false := by simp; omega
  have e0 : ((l0_0.length : Int) == 16) = true := by simp; omega
  have e1 : decide ((l0_1.length : Int) ≤ 8) = false := by simp; omega
  clear h0 h1 h2 h3 g0 g1
  replace hr0_0 := Aside0.mk hr0_0
  replace hc0_0 := Aside0.mk hc0_0
  replace hr0_1 := Aside0.mk hr0_1
  replace hc0_1 := Aside0.mk hc0_1
  replace A1 := Aside0.mk A1
  go_enter Try.func14, Try.ntmps14
  go_upto_region 1 with (first | ((with_reducible refine gate_dst (N := 1) rfl ?_); refine box_event ?hg (N := 1) ?hd (cs := #[.slice A0_0 l0_0.length c0_0, .slice A0_1 l0_1.length c0_1, .slice A0_2 l0_2.length c0_2, .slice A0_3 l0_3.length c0_3, .slice A0_4 l0_4.length c0_4, .slice A0_5 l0_5.length c0_5, .int .i64 a0_6]) (t := 31) ?hr ?_; (case hd => rfl); (case hg => rfl); (case hr => first | (go_simp; done) | (go_simp; rfl)); intro gb hg w2 hbox hb; have BK := Aside0.mk hbox; have HB := Aside0.mk hb; clear hb hbox hg))
  (try simp only [Act.put, List.setIfInBounds_toArray, List.set_cons_zero, List.set_cons_succ])
  have hz0_0 : w2.cell? ⟨gb, 0, none⟩ = some (.slice A0_0 l0_0.length c0_0) := (blk_cell BK.out 0).trans rfl
  have hz0_1 : w2.cell? ⟨gb, 1, none⟩ = some (.slice A0_1 l0_1.length c0_1) := (blk_cell BK.out 1).trans rfl
  have hz0_2 : w2.cell? ⟨gb, 2, none⟩ = some (.slice A0_2 l0_2.length c0_2) := (blk_cell BK.out 2).trans rfl
  have hz0_3 : w2.cell? ⟨gb, 3, none⟩ = some (.slice A0_3 l0_3.length c0_3) := (blk_cell BK.out 3).trans rfl
  have hz0_4 : w2.cell? ⟨gb, 4, none⟩ = some (.slice A0_4 l0_4.length c0_4) := (blk_cell BK.out 4).trans rfl
  have hz0_5 : w2.cell? ⟨gb, 5, none⟩ = some (.slice A0_5 l0_5.length c0_5) := (blk_cell BK.out 5).trans rfl
  have hz0_6 : w2.cell? ⟨gb, 6, none⟩ = some (.int .i64 a0_6) := (blk_cell BK.out 6).trans rfl
  go_wp2
  refine wp_loop_rounds 5 ?_
  rw [rounds_succ]
  go_wp2
  rw [rounds_succ]
  go_wp2
  rw [rounds_succ]
  go_wp2
  rw [rounds_succ]
  go_wp2
  rw [rounds_succ]
  go_wp2_with (first | (go_at_call 53; (with_reducible refine (impl_all_int_isValue.calls k _ _ l0_0 _ _ (Kd.C_below hr0_0.out HB.out) hc0_0.out A1.out).mono ?_); rintro e w3 ⟨rfl, hb3⟩; have BK2 := Aside0.mk (blk_below BK.out hb3); have HB2 := Aside0.mk (below_step HB.out hb3); clear BK HB hb3 hz0_0 hz0_1 hz0_2 hz0_3 hz0_4 hz0_5 hz0_6; have BK := BK2; have HB := HB2; clear BK2 HB2; have hz1_0 : w3.cell? ⟨gb, 0, none⟩ = some (.slice A0_0 l0_0.length c0_0) := (blk_cell BK.out 0).trans rfl; have hz1_1 : w3.cell? ⟨gb, 1, none⟩ = some (.slice A0_1 l0_1.length c0_1) := (blk_cell BK.out 1).trans rfl; have hz1_2 : w3.cell? ⟨gb, 2, none⟩ = some (.slice A0_2 l0_2.length c0_2) := (blk_cell BK.out 2).trans rfl; have hz1_3 : w3.cell? ⟨gb, 3, none⟩ = some (.slice A0_3 l0_3.length c0_3) := (blk_cell BK.out 3).trans rfl; have hz1_4 : w3.cell? ⟨gb, 4, none⟩ = some (.slice A0_4 l0_4.length c0_4) := (blk_cell BK.out 4).trans rfl; have hz1_5 : w3.cell? ⟨gb, 5, none⟩ = some (.slice A0_5 l0_5.length c0_5) := (blk_cell BK.out 5).trans rfl; have hz1_6 : w3.cell? ⟨gb, 6, none⟩ = some (.int .i64 a0_6) := (blk_cell BK.out 6).trans rfl))
  go_ret
  exact ⟨by first | rfl | (simp; done), by repeat (first | (with_reducible first | exact HB.out | apply below_alloc | apply pw_below_drewN | apply below_drew1) | exact HB.out)⟩
set_option maxHeartbeats 8000000 in
set_option maxRecDepth 100000 in
theorem impl_DataOK.m3 (k : Nat) (A0_0 A0_1 A0_2 A0_3 A0_4 A0_5 : Option Addr) (c0_0 c0_1 c0_2 c0_3 c0_4 c0_5 : Nat) (l0_0 : List Int) (l0_1 : List (S77)) (l0_2 : List Bool) (l0_3 : List Bool) (l0_4 : List Bool) (l0_5 : List Bool) (a0_6 : Int) (w : World) (hr0_0 : Kd.C (Kd.int .i64) w A0_0 l0_0.length l0_0) (hc0_0 : l0_0.length ≤ c0_0) (hr0_1 : Kd.C k77 w A0_1 l0_1.length l0_1) (hc0_1 : l0_1.length ≤ c0_1) (h0 : l0_2.length = 8) (h1 : l0_3.length = 8) (h2 : l0_4.length = 8) (h3 : l0_5.length = 8) (g0 : l0_0.length = 16) (A1 : impl_all_int_isValue.f k l0_0 = some true) (g1 : l0_1.length ≤ 8) (A2 : impl_all_Fb_FbOK.f k l0_1 = some false) :
    Calls Try.prog 14 #[.agg #[.slice A0_0 l0_0.length c0_0, .slice A0_1 l0_1.length c0_1, .slice A0_2 l0_2.length c0_2, .slice A0_3 l0_3.length c0_3, .slice A0_4 l0_4.length c0_4, .slice A0_5 l0_5.length c0_5, .int .i64 a0_6]] w fun e w' => e = .returned (.bool false) ∧ Below w.heap.size w w' := by
  have hu31 := Try.underlying31
  have i0 : ∀ w, (Instr.index 80 (.agg #[.slice A0_2 l0_2.length c0_2, .slice A0_3 l0_3.length c0_3, .slice A0_4 l0_4.length c0_4, .slice A0_5 l0_5.length c0_5]) (.int .i64 0)).run Try.prog w = .ok (.slice A0_2 l0_2.length c0_2) w := fun _ => by kernel_rfl
  have i1 : ∀ w, (Instr.index 80 (.agg #[.slice A0_2 l0_2.length c0_2, .slice A0_3 l0_3.length c0_3, .slice A0_4 l0_4.length c0_4, .slice A0_5 l0_5.length c0_5]) (.int .i64 1)).run Try.prog w = .ok (.slice A0_3 l0_3.length c0_3) w := fun _ => by kernel_rfl
  have i2 : ∀ w, (Instr.index 80 (.agg #[.slice A0_2 l0_2.length c0_2, .slice A0_3 l0_3.length c0_3, .slice A0_4 l0_4.length c0_4, .slice A0_5 l0_5.length c0_5]) (.int .i64 2)).run Try.prog w = .ok (.slice A0_4 l0_4.length c0_4) w := fun _ => by kernel_rfl
  have i3 : ∀ w, (Instr.index 80 (.agg #[.slice A0_2 l0_2.length c0_2, .slice A0_3 l0_3.length c0_3, .slice A0_4 l0_4.length c0_4, .slice A0_5 l0_5.length c0_5]) (.int .i64 3)).run Try.prog w = .ok (.slice A0_5 l0_5.length c0_5) w := fun _ => by kernel_rfl
  have f0 : ((l0_2.length : Int) != 8) = false := by simp; omega
  have f1 : ((l0_3.length : Int) != 8) = false := by simp; omega
  have f2 : ((l0_4.length : Int) != 8) = false := by simp; omega
  have f3 : ((l0_5.length : Int) != 8) = false := by simp; omega
  have e0 : ((l0_0.length : Int) == 16) = true := by simp; omega
  have e1 : decide ((l0_1.length : Int) ≤ 8) = true := by simp; omega
  clear h0 h1 h2 h3 g0 g1
  replace hr0_0 := Aside0.mk hr0_0
  replace hc0_0 := Aside0.mk hc0_0
  replace hr0_1 := Aside0.mk hr0_1
  replace hc0_1 := Aside0.mk hc0_1
  replace A1 := Aside0.mk A1
  replace A2 := Aside0.mk A2
  go_enter Try.func14, Try.ntmps14
  go_upto_region 1 with (first | ((with_reducible refine gate_dst (N := 1) rfl ?_); refine box_event ?hg (N := 1) ?hd (cs := #[.slice A0_0 l0_0.length c0_0, .slice A0_1 l0_1.length c0_1, .slice A0_2 l0_2.length c0_2, .slice A0_3 l0_3.length c0_3, .slice A0_4 l0_4.length c0_4, .slice A0_5 l0_5.length c0_5, .int .i64 a0_6]) (t := 31) ?hr ?_; (case hd => rfl); (case hg => rfl); (case hr => first | (go_simp; done) | (go_simp; rfl)); intro gb hg w2 hbox hb; have BK := Aside0.mk hbox; have HB := Aside0.mk hb; clear hb hbox hg))
  (try simp only [Act.put, List.setIfInBounds_toArray, List.set_cons_zero, List.set_cons_succ])
  have hz0_0 : w2.cell? ⟨gb, 0, none⟩ = some (.slice A0_0 l0_0.length c0_0) := (blk_cell BK.out 0).trans rfl
  have hz0_1 : w2.cell? ⟨gb, 1, none⟩ = some (.slice A0_1 l0_1.length c0_1) := (blk_cell BK.out 1).trans rfl
  have hz0_2 : w2.cell? ⟨gb, 2, none⟩ = some (.slice A0_2 l0_2.length c0_2) := (blk_cell BK.out 2).trans rfl
  have hz0_3 : w2.cell? ⟨gb, 3, none⟩ = some (.slice A0_3 l0_3.length c0_3) := (blk_cell BK.out 3).trans rfl
  have hz0_4 : w2.cell? ⟨gb, 4, none⟩ = some (.slice A0_4 l0_4.length c0_4) := (blk_cell BK.out 4).trans rfl
  have hz0_5 : w2.cell? ⟨gb, 5, none⟩ = some (.slice A0_5 l0_5.length c0_5) := (blk_cell BK.out 5).trans rfl
  have hz0_6 : w2.cell? ⟨gb, 6, none⟩ = some (.int .i64 a0_6) := (blk_cell BK.out 6).trans rfl
  go_wp2
  refine wp_loop_rounds 5 ?_
  rw [rounds_succ]
  go_wp2
  rw [rounds_succ]
  go_wp2
  rw [rounds_succ]
  go_wp2
  rw [rounds_succ]
  go_wp2
  rw [rounds_succ]
  go_wp2_with (first | (go_at_call 53; (with_reducible refine (impl_all_int_isValue.calls k _ _ l0_0 _ _ (Kd.C_below hr0_0.out HB.out) hc0_0.out A1.out).mono ?_); rintro e w3 ⟨rfl, hb3⟩; have BK2 := Aside0.mk (blk_below BK.out hb3); have HB2 := Aside0.mk (below_step HB.out hb3); clear BK HB hb3 hz0_0 hz0_1 hz0_2 hz0_3 hz0_4 hz0_5 hz0_6; have BK := BK2; have HB := HB2; clear BK2 HB2; have hz1_0 : w3.cell? ⟨gb, 0, none⟩ = some (.slice A0_0 l0_0.length c0_0) := (blk_cell BK.out 0).trans rfl; have hz1_1 : w3.cell? ⟨gb, 1, none⟩ = some (.slice A0_1 l0_1.length c0_1) := (blk_cell BK.out 1).trans rfl; have hz1_2 : w3.cell? ⟨gb, 2, none⟩ = some (.slice A0_2 l0_2.length c0_2) := (blk_cell BK.out 2).trans rfl; have hz1_3 : w3.cell? ⟨gb, 3, none⟩ = some (.slice A0_3 l0_3.length c0_3) := (blk_cell BK.out 3).trans rfl; have hz1_4 : w3.cell? ⟨gb, 4, none⟩ = some (.slice A0_4 l0_4.length c0_4) := (blk_cell BK.out 4).trans rfl; have hz1_5 : w3.cell? ⟨gb, 5, none⟩ = some (.slice A0_5 l0_5.length c0_5) := (blk_cell BK.out 5).trans rfl; have hz1_6 : w3.cell? ⟨gb, 6, none⟩ = some (.int .i64 a0_6) := (blk_cell BK.out 6).trans rfl) | (go_at_call 55; (with_reducible refine (impl_all_Fb_FbOK.calls k _ _ l0_1 _ _ (Kd.C_below hr0_1.out HB.out) hc0_1.out A2.out).mono ?_); rintro e w4 ⟨rfl, hb3⟩; have BK2 := Aside0.mk (blk_below BK.out hb3); have HB2 := Aside0.mk (below_step HB.out hb3); clear BK HB hb3 hz1_0 hz1_1 hz1_2 hz1_3 hz1_4 hz1_5 hz1_6; have BK := BK2; have HB := HB2; clear BK2 HB2; have hz2_0 : w4.cell? ⟨gb, 0, none⟩ = some (.slice A0_0 l0_0.length c0_0) := (blk_cell BK.out 0).trans rfl; have hz2_1 : w4.cell? ⟨gb, 1, none⟩ = some (.slice A0_1 l0_1.length c0_1) := (blk_cell BK.out 1).trans rfl; have hz2_2 : w4.cell? ⟨gb, 2, none⟩ = some (.slice A0_2 l0_2.length c0_2) := (blk_cell BK.out 2).trans rfl; have hz2_3 : w4.cell? ⟨gb, 3, none⟩ = some (.slice A0_3 l0_3.length c0_3) := (blk_cell BK.out 3).trans rfl; have hz2_4 : w4.cell? ⟨gb, 4, none⟩ = some (.slice A0_4 l0_4.length c0_4) := (blk_cell BK.out 4).trans rfl; have hz2_5 : w4.cell? ⟨gb, 5, none⟩ = some (.slice A0_5 l0_5.length c0_5) := (blk_cell BK.out 5).trans rfl; have hz2_6 : w4.cell? ⟨gb, 6, none⟩ = some (.int .i64 a0_6) := (blk_cell BK.out 6).trans rfl))
  go_ret
  exact ⟨by first | rfl | (simp; done), by repeat (first | (with_reducible first | exact HB.out | apply below_alloc | apply pw_below_drewN | apply below_drew1) | exact HB.out)⟩
set_option maxHeartbeats 8000000 in
set_option maxRecDepth 100000 in
theorem impl_DataOK.m4 (k : Nat) (A0_0 A0_1 A0_2 A0_3 A0_4 A0_5 : Option Addr) (c0_0 c0_1 c0_2 c0_3 c0_4 c0_5 : Nat) (l0_0 : List Int) (l0_1 : List (S77)) (l0_2 : List Bool) (l0_3 : List Bool) (l0_4 : List Bool) (l0_5 : List Bool) (a0_6 : Int) (w : World) (hr0_0 : Kd.C (Kd.int .i64) w A0_0 l0_0.length l0_0) (hc0_0 : l0_0.length ≤ c0_0) (hr0_1 : Kd.C k77 w A0_1 l0_1.length l0_1) (hc0_1 : l0_1.length ≤ c0_1) (h0 : l0_2.length = 8) (h1 : l0_3.length = 8) (h2 : l0_4.length = 8) (h3 : l0_5.length = 8) (g0 : l0_0.length = 16) (A1 : impl_all_int_isValue.f k l0_0 = some true) (g1 : l0_1.length ≤ 8) (A2 : impl_all_Fb_FbOK.f k l0_1 = some true) (t3 : Bool) (A3 : impl_isTime.f a0_6 = some t3) :
    Calls Try.prog 14 #[.agg #[.slice A0_0 l0_0.length c0_0, .slice A0_1 l0_1.length c0_1, .slice A0_2 l0_2.length c0_2, .slice A0_3 l0_3.length c0_3, .slice A0_4 l0_4.length c0_4, .slice A0_5 l0_5.length c0_5, .int .i64 a0_6]] w fun e w' => e = .returned (.bool t3) ∧ Below w.heap.size w w' := by
  have hu31 := Try.underlying31
  have i0 : ∀ w, (Instr.index 80 (.agg #[.slice A0_2 l0_2.length c0_2, .slice A0_3 l0_3.length c0_3, .slice A0_4 l0_4.length c0_4, .slice A0_5 l0_5.length c0_5]) (.int .i64 0)).run Try.prog w = .ok (.slice A0_2 l0_2.length c0_2) w := fun _ => by kernel_rfl
  have i1 : ∀ w, (Instr.index 80 (.agg #[.slice A0_2 l0_2.length c0_2, .slice A0_3 l0_3.length c0_3, .slice A0_4 l0_4.length c0_4, .slice A0_5 l0_5.length c0_5]) (.int .i64 1)).run Try.prog w = .ok (.slice A0_3 l0_3.length c0_3) w := fun _ => by kernel_rfl
  have i2 : ∀ w, (Instr.index 80 (.agg #[.slice A0_2 l0_2.length c0_2, .slice A0_3 l0_3.length c0_3, .slice A0_4 l0_4.length c0_4, .slice A0_5 l0_5.length c0_5]) (.int .i64 2)).run Try.prog w = .ok (.slice A0_4 l0_4.length c0_4) w := fun _ => by kernel_rfl
  have i3 : ∀ w, (Instr.index 80 (.agg #[.slice A0_2 l0_2.length c0_2, .slice A0_3 l0_3.length c0_3, .slice A0_4 l0_4.length c0_4, .slice A0_5 l0_5.length c0_5]) (.int .i64 3)).run Try.prog w = .ok (.slice A0_5 l0_5.length c0_5) w := fun _ => by kernel_rfl
  have f0 : ((l0_2.length : Int) != 8) = false := by simp; omega
  have f1 : ((l0_3.length : Int) != 8) = false := by simp; omega
  have f2 : ((l0_4.length : Int) != 8) = false := by simp; omega
  have f3 : ((l0_5.length : Int) != 8) = false := by simp; omega
  have e0 : ((l0_0.length : Int) == 16) = true := by simp; omega
  have e1 : decide ((l0_1.length : Int) ≤ 8) = true := by simp; omega
  clear h0 h1 h2 h3 g0 g1
  replace hr0_0 := Aside0.mk hr0_0
  replace hc0_0 := Aside0.mk hc0_0
  replace hr0_1 := Aside0.mk hr0_1
  replace hc0_1 := Aside0.mk hc0_1
  replace A1 := Aside0.mk A1
  replace A2 := Aside0.mk A2
  replace A3 := Aside0.mk A3
  go_enter Try.func14, Try.ntmps14
  go_upto_region 1 with (first | ((with_reducible refine gate_dst (N := 1) rfl ?_); refine box_event ?hg (N := 1) ?hd (cs := #[.slice A0_0 l0_0.length c0_0, .slice A0_1 l0_1.length c0_1, .slice A0_2 l0_2.length c0_2, .slice A0_3 l0_3.length c0_3, .slice A0_4 l0_4.length c0_4, .slice A0_5 l0_5.length c0_5, .int .i64 a0_6]) (t := 31) ?hr ?_; (case hd => rfl); (case hg => rfl); (case hr => first | (go_simp; done) | (go_simp; rfl)); intro gb hg w2 hbox hb; have BK := Aside0.mk hbox; have HB := Aside0.mk hb; clear hb hbox hg))
  (try simp only [Act.put, List.setIfInBounds_toArray, List.set_cons_zero, List.set_cons_succ])
  have hz0_0 : w2.cell? ⟨gb, 0, none⟩ = some (.slice A0_0 l0_0.length c0_0) := (blk_cell BK.out 0).trans rfl
  have hz0_1 : w2.cell? ⟨gb, 1, none⟩ = some (.slice A0_1 l0_1.length c0_1) := (blk_cell BK.out 1).trans rfl
  have hz0_2 : w2.cell? ⟨gb, 2, none⟩ = some (.slice A0_2 l0_2.length c0_2) := (blk_cell BK.out 2).trans rfl
  have hz0_3 : w2.cell? ⟨gb, 3, none⟩ = some (.slice A0_3 l0_3.length c0_3) := (blk_cell BK.out 3).trans rfl
  have hz0_4 : w2.cell? ⟨gb, 4, none⟩ = some (.slice A0_4 l0_4.length c0_4) := (blk_cell BK.out 4).trans rfl
  have hz0_5 : w2.cell? ⟨gb, 5, none⟩ = some (.slice A0_5 l0_5.length c0_5) := (blk_cell BK.out 5).trans rfl
  have hz0_6 : w2.cell? ⟨gb, 6, none⟩ = some (.int .i64 a0_6) := (blk_cell BK.out 6).trans rfl
  go_wp2
  refine wp_loop_rounds 5 ?_
  rw [rounds_succ]
  go_wp2
  rw [rounds_succ]
  go_wp2
  rw [rounds_succ]
  go_wp2
  rw [rounds_succ]
  go_wp2
  rw [rounds_succ]
  go_wp2_with (first | (go_at_call 53; (with_reducible refine (impl_all_int_isValue.calls k _ _ l0_0 _ _ (Kd.C_below hr0_0.out HB.out) hc0_0.out A1.out).mono ?_); rintro e w3 ⟨rfl, hb3⟩; have BK2 := Aside0.mk (blk_below BK.out hb3); have HB2 := Aside0.mk (below_step HB.out hb3); clear BK HB hb3 hz0_0 hz0_1 hz0_2 hz0_3 hz0_4 hz0_5 hz0_6; have BK := BK2; have HB := HB2; clear BK2 HB2; have hz1_0 : w3.cell? ⟨gb, 0, none⟩ = some (.slice A0_0 l0_0.length c0_0) := (blk_cell BK.out 0).trans rfl; have hz1_1 : w3.cell? ⟨gb, 1, none⟩ = some (.slice A0_1 l0_1.length c0_1) := (blk_cell BK.out 1).trans rfl; have hz1_2 : w3.cell? ⟨gb, 2, none⟩ = some (.slice A0_2 l0_2.length c0_2) := (blk_cell BK.out 2).trans rfl; have hz1_3 : w3.cell? ⟨gb, 3, none⟩ = some (.slice A0_3 l0_3.length c0_3) := (blk_cell BK.out 3).trans rfl; have hz1_4 : w3.cell? ⟨gb, 4, none⟩ = some (.slice A0_4 l0_4.length c0_4) := (blk_cell BK.out 4).trans rfl; have hz1_5 : w3.cell? ⟨gb, 5, none⟩ = some (.slice A0_5 l0_5.length c0_5) := (blk_cell BK.out 5).trans rfl; have hz1_6 : w3.cell? ⟨gb, 6, none⟩ = some (.int .i64 a0_6) := (blk_cell BK.out 6).trans rfl) | (go_at_call 55; (with_reducible refine (impl_all_Fb_FbOK.calls k _ _ l0_1 _ _ (Kd.C_below hr0_1.out HB.out) hc0_1.out A2.out).mono ?_); rintro e w4 ⟨rfl, hb3⟩; have BK2 := Aside0.mk (blk_below BK.out hb3); have HB2 := Aside0.mk (below_step HB.out hb3); clear BK HB hb3 hz1_0 hz1_1 hz1_2 hz1_3 hz1_4 hz1_5 hz1_6; have BK := BK2; have HB := HB2; clear BK2 HB2; have hz2_0 : w4.cell? ⟨gb, 0, none⟩ = some (.slice A0_0 l0_0.length c0_0) := (blk_cell BK.out 0).trans rfl; have hz2_1 : w4.cell? ⟨gb, 1, none⟩ = some (.slice A0_1 l0_1.length c0_1) := (blk_cell BK.out 1).trans rfl; have hz2_2 : w4.cell? ⟨gb, 2, none⟩ = some (.slice A0_2 l0_2.length c0_2) := (blk_cell BK.out 2).trans rfl; have hz2_3 : w4.cell? ⟨gb, 3, none⟩ = some (.slice A0_3 l0_3.length c0_3) := (blk_cell BK.out 3).trans rfl; have hz2_4 : w4.cell? ⟨gb, 4, none⟩ = some (.slice A0_4 l0_4.length c0_4) := (blk_cell BK.out 4).trans rfl; have hz2_5 : w4.cell? ⟨gb, 5, none⟩ = some (.slice A0_5 l0_5.length c0_5) := (blk_cell BK.out 5).trans rfl; have hz2_6 : w4.cell? ⟨gb, 6, none⟩ = some (.int .i64 a0_6) := (blk_cell BK.out 6).trans rfl) | (go_at_call 57; (with_reducible refine (impl_isTime.calls a0_6 t3 _ A3.out).mono ?_); rintro e w5 ⟨rfl, ⟨nd, rfl⟩⟩))
  go_ret
  exact ⟨by first | rfl | (simp; done), by repeat (first | (with_reducible first | exact HB.out | apply below_alloc | apply pw_below_drewN | apply below_drew1) | exact HB.out)⟩
theorem impl_DataOK.calls (k : Nat) (A0_0 : Option Addr) (c0_0 : Nat) (l0_0 : List Int) (A0_1 : Option Addr) (c0_1 : Nat) (l0_1 : List (S77)) (A0_2 : Option Addr) (c0_2 : Nat) (l0_2 : List Bool) (A0_3 : Option Addr) (c0_3 : Nat) (l0_3 : List Bool) (A0_4 : Option Addr) (c0_4 : Nat) (l0_4 : List Bool) (A0_5 : Option Addr) (c0_5 : Nat) (l0_5 : List Bool) (a0_6 : Int) (r : Bool) (w : World) (hr0_0 : Kd.C (Kd.int .i64) w A0_0 l0_0.length l0_0) (hc0_0 : l0_0.length ≤ c0_0) (hr0_1 : Kd.C k77 w A0_1 l0_1.length l0_1) (hc0_1 : l0_1.length ≤ c0_1) (hr0_2 : Kd.C Kd.bool w A0_2 l0_2.length l0_2) (hc0_2 : l0_2.length ≤ c0_2) (hr0_3 : Kd.C Kd.bool w A0_3 l0_3.length l0_3) (hc0_3 : l0_3.length ≤ c0_3) (hr0_4 : Kd.C Kd.bool w A0_4 l0_4.length l0_4) (hc0_4 : l0_4.length ≤ c0_4) (hr0_5 : Kd.C Kd.bool w A0_5 l0_5.length l0_5) (hc0_5 : l0_5.length ≤ c0_5) (h : impl_DataOK.f k l0_0 l0_1 l0_2 l0_3 l0_4 l0_5 a0_6 = some r) :
    Calls Try.prog 14 #[.agg #[.slice A0_0 l0_0.length c0_0, .slice A0_1 l0_1.length c0_1, .slice A0_2 l0_2.length c0_2, .slice A0_3 l0_3.length c0_3, .slice A0_4 l0_4.length c0_4, .slice A0_5 l0_5.length c0_5, .int .i64 a0_6]] w fun e w' => e = .returned (.bool r) ∧ Below w.heap.size w w' := by
  unfold impl_DataOK.f at h
  by_cases h0 : l0_2.length = 8
  case neg =>
    rw [if_neg h0] at h
    obtain rfl := Option.some.inj h
    exact impl_DataOK.no0 k A0_0 A0_1 A0_2 A0_3 A0_4 A0_5 c0_0 c0_1 c0_2 c0_3 c0_4 c0_5 l0_0 l0_1 l0_2 l0_3 l0_4 l0_5 a0_6 w h0
  by_cases h1 : l0_3.length = 8
  case neg =>
    rw [if_pos h0, if_neg h1] at h
    obtain rfl := Option.some.inj h
    exact impl_DataOK.no1 k A0_0 A0_1 A0_2 A0_3 A0_4 A0_5 c0_0 c0_1 c0_2 c0_3 c0_4 c0_5 l0_0 l0_1 l0_2 l0_3 l0_4 l0_5 a0_6 w h0 h1
  by_cases h2 : l0_4.length = 8
  case neg =>
    rw [if_pos h0, if_pos h1, if_neg h2] at h
    obtain rfl := Option.some.inj h
    exact impl_DataOK.no2 k A0_0 A0_1 A0_2 A0_3 A0_4 A0_5 c0_0 c0_1 c0_2 c0_3 c0_4 c0_5 l0_0 l0_1 l0_2 l0_3 l0_4 l0_5 a0_6 w h0 h1 h2
  by_cases h3 : l0_5.length = 8
  case neg =>
    rw [if_pos h0, if_pos h1, if_pos h2, if_neg h3] at h
    obtain rfl := Option.some.inj h
    exact impl_DataOK.no3 k A0_0 A0_1 A0_2 A0_3 A0_4 A0_5 c0_0 c0_1 c0_2 c0_3 c0_4 c0_5 l0_0 l0_1 l0_2 l0_3 l0_4 l0_5 a0_6 w h0 h1 h2 h3
  rw [if_pos h0, if_pos h1, if_pos h2, if_pos h3] at h
  by_cases g0 : l0_0.length = 16
  case neg =>
    rw [if_neg g0] at h
    obtain rfl := Option.some.inj h
    exact impl_DataOK.m0 k A0_0 A0_1 A0_2 A0_3 A0_4 A0_5 c0_0 c0_1 c0_2 c0_3 c0_4 c0_5 l0_0 l0_1 l0_2 l0_3 l0_4 l0_5 a0_6 w hr0_0 hc0_0 hr0_1 hc0_1 h0 h1 h2 h3 g0
  rw [if_pos g0] at h
  obtain ⟨t1, A1, h⟩ := Option.bind_eq_some_iff.mp h
  cases t1
  · obtain rfl := Option.some.inj h
    exact impl_DataOK.m1 k A0_0 A0_1 A0_2 A0_3 A0_4 A0_5 c0_0 c0_1 c0_2 c0_3 c0_4 c0_5 l0_0 l0_1 l0_2 l0_3 l0_4 l0_5 a0_6 w hr0_0 hc0_0 hr0_1 hc0_1 h0 h1 h2 h3 g0 A1
  replace h : (if l0_1.length ≤ 8 then ((impl_all_Fb_FbOK.f k l0_1).bind fun t2 => (if t2 = true then ((impl_isTime.f a0_6).bind fun t3 => (some t3)) else (some false))) else (some false)) = some r := h
  by_cases g1 : l0_1.length ≤ 8
  case neg =>
    rw [if_neg g1] at h
    obtain rfl := Option.some.inj h
    exact impl_DataOK.m2 k A0_0 A0_1 A0_2 A0_3 A0_4 A0_5 c0_0 c0_1 c0_2 c0_3 c0_4 c0_5 l0_0 l0_1 l0_2 l0_3 l0_4 l0_5 a0_6 w hr0_0 hc0_0 hr0_1 hc0_1 h0 h1 h2 h3 g0 A1 g1
  rw [if_pos g1] at h
  obtain ⟨t2, A2, h⟩ := Option.bind_eq_some_iff.mp h
  cases t2
  · obtain rfl := Option.some.inj h
    exact impl_DataOK.m3 k A0_0 A0_1 A0_2 A0_3 A0_4 A0_5 c0_0 c0_1 c0_2 c0_3 c0_4 c0_5 l0_0 l0_1 l0_2 l0_3 l0_4 l0_5 a0_6 w hr0_0 hc0_0 hr0_1 hc0_1 h0 h1 h2 h3 g0 A1 g1 A2
  replace h : ((impl_isTime.f a0_6).bind fun t3 => (some t3)) = some r := h
  obtain ⟨t3, A3, h⟩ := Option.bind_eq_some_iff.mp h
  obtain rfl := Option.some.inj h
  exact impl_DataOK.m4 k A0_0 A0_1 A0_2 A0_3 A0_4 A0_5 c0_0 c0_1 c0_2 c0_3 c0_4 c0_5 l0_0 l0_1 l0_2 l0_3 l0_4 l0_5 a0_6 w hr0_0 hc0_0 hr0_1 hc0_1 h0 h1 h2 h3 g0 A1 g1 A2 t3 A3

end Go.Proofs.Ytjgdfbcjlebniaa.MFnExactSameData
