-- By a program of this session.
import Derived.Test.YtkegjmkdnfpfdaaMFnExactNewCorex0
namespace Go.Proofs.Ytkegjmkdnfpfdaa.MFnExactNewCore
open Go.RowKit Go.Proofs.YtkegjmkdnfpfdaaW.PrintWords Go.Proofs.YtkegjmkdnfpfdaaW.PrintLast Go.Proofs.YtkegjmkdnfpfdaaW.PrintMore
attribute [local go_sem] max2_int min2_int max_two min_two max_three min_three max_four min_four
set_option linter.unusedVariables false
set_option linter.unusedSimpArgs false
set_option maxHeartbeats 8000000
set_option maxRecDepth 100000

/-! ### impl_verify: function 140 -/
set_option maxHeartbeats 4000000 in
theorem vbase0 (w : World) (g : Nat) (A : Option Addr) (c : Nat) (h3 : w.cell? ⟨g, 3, none⟩ = some (.slice A 0 c)) :
 Calls Try.prog 242 #[.pointer (some ⟨g, 0, none⟩)] w fun e w' => e = .returned (.int .i64 0) ∧ Drawn0 w w' := by
 go_enter Try.func242, Try.ntmps242
 go_wp2
 go_ret
 exact ⟨rfl, Drawn0.refl _⟩
set_option maxHeartbeats 4000000 in
theorem vbaseS (w : World) (g q n c : Nat) (b : Int) (hn : n ≤ 4) (h3 : w.cell? ⟨g, 3, none⟩ = some (.slice (some ⟨q, 0, none⟩) (n + 1) c)) (hc : w.cell? ⟨q, n * 4 + 1, none⟩ = some (.int .i64 b)) :
 Calls Try.prog 242 #[.pointer (some ⟨g, 0, none⟩)] w fun e w' => e = .returned (.int .i64 b) ∧ Drawn0 w w' := by
 have hu := Try.underlying230
 go_enter Try.func242, Try.ntmps242
 go_wp2
 go_quiet (fail)
 go_wp2
 go_ret
 exact ⟨rfl, zD⟩
theorem vnest_no (w : World) (g : Nat) (at_ op : Int) (h1 : (op == 21) = false) (h2 : (op == 24) = false) (h3 : (op == 22) = false) (h4 : (op == 23) = false) :
 Calls Try.prog 243 #[.pointer (some ⟨g, 0, none⟩), .int .i64 at_, .int .i64 op] w fun e w' => e = .returned (.int .i64 0) ∧ Drawn0 w w' := by
 go_enter Try.func243, Try.ntmps243
 go_wp2
 go_ret
 exact ⟨rfl, Drawn0.refl _⟩
theorem vnest_deep21 (w : World) (g c : Nat) (A : Option Addr) (at_ : Int) (h3 : w.cell? ⟨g, 3, none⟩ = some (.slice A 4 c)) :
 Calls Try.prog 243 #[.pointer (some ⟨g, 0, none⟩), .int .i64 at_, .int .i64 21] w fun e w' => e = .returned (.int .i64 17) ∧ Drawn0 w w' := by
 go_enter Try.func243, Try.ntmps243
 go_wp2
 go_ret
 exact ⟨rfl, Drawn0.refl _⟩
theorem vnest_deep24 (w : World) (g c : Nat) (A : Option Addr) (at_ : Int) (h3 : w.cell? ⟨g, 3, none⟩ = some (.slice A 4 c)) :
 Calls Try.prog 243 #[.pointer (some ⟨g, 0, none⟩), .int .i64 at_, .int .i64 24] w fun e w' => e = .returned (.int .i64 17) ∧ Drawn0 w w' := by
 go_enter Try.func243, Try.ntmps243
 go_wp2
 go_ret
 exact ⟨rfl, Drawn0.refl _⟩
theorem vnest_none22 (w : World) (g c : Nat) (A : Option Addr) (at_ : Int) (h3 : w.cell? ⟨g, 3, none⟩ = some (.slice A 0 c)) :
 Calls Try.prog 243 #[.pointer (some ⟨g, 0, none⟩), .int .i64 at_, .int .i64 22] w fun e w' => e = .returned (.int .i64 14) ∧ Drawn0 w w' := by
 go_enter Try.func243, Try.ntmps243
 go_wp2
 go_ret
 exact ⟨rfl, Drawn0.refl _⟩
theorem vnest_none23 (w : World) (g c : Nat) (A : Option Addr) (at_ : Int) (h3 : w.cell? ⟨g, 3, none⟩ = some (.slice A 0 c)) :
 Calls Try.prog 243 #[.pointer (some ⟨g, 0, none⟩), .int .i64 at_, .int .i64 23] w fun e w' => e = .returned (.int .i64 14) ∧ Drawn0 w w' := by
 go_enter Try.func243, Try.ntmps243
 go_wp2
 go_ret
 exact ⟨rfl, Drawn0.refl _⟩
theorem vnest_bad22 (w : World) (g q n c : Nat) (at_ : Int) (b1 b2 : Bool) (hn : n ≤ 4) (h3 : w.cell? ⟨g, 3, none⟩ = some (.slice (some ⟨q, 0, none⟩) (n + 1) c)) (hc2 : w.cell? ⟨q, n * 4 + 2, none⟩ = some (.bool b1)) (hc3 : w.cell? ⟨q, n * 4 + 3, none⟩ = some (.bool b2)) (hb : (!b1 || b2) = true) :
 Calls Try.prog 243 #[.pointer (some ⟨g, 0, none⟩), .int .i64 at_, .int .i64 22] w fun e w' => e = .returned (.int .i64 14) ∧ Drawn0 w w' := by
 have hu := Try.underlying230
 rcases b1 with _ | _ <;> rcases b2 with _ | _
 case true.false => simp at hb
 all_goals
  clear hb
  go_enter Try.func243, Try.ntmps243
  go_wp2
  go_ret
  exact ⟨rfl, Drawn0.refl _⟩
theorem vnest_st22 (w : World) (g q n c : Nat) (at_ ba : Int) (S : ByteArray) (hn : n ≤ 4) (hs : S.size ≤ 8) (hS : w.cell? ⟨g, 2, none⟩ = some (.string S)) (h3 : w.cell? ⟨g, 3, none⟩ = some (.slice (some ⟨q, 0, none⟩) (n + 1) c)) (hc1 : w.cell? ⟨q, n * 4 + 1, none⟩ = some (.int .i64 ba)) (hc2 : w.cell? ⟨q, n * 4 + 2, none⟩ = some (.bool true)) (hc3 : w.cell? ⟨q, n * 4 + 3, none⟩ = some (.bool false)) (hb : ((S.size : Int) != ba) = true) :
 Calls Try.prog 243 #[.pointer (some ⟨g, 0, none⟩), .int .i64 at_, .int .i64 22] w fun e w' => e = .returned (.int .i64 13) ∧ Drawn0 w w' := by
 have hu := Try.underlying230
 go_enter Try.func243, Try.ntmps243
 go_wp2
 go_quiet (fail)
 go_wp2
 go_ret
 exact ⟨rfl, zD⟩
theorem vnest_st23 (w : World) (g q n c : Nat) (at_ ba : Int) (S : ByteArray) (hn : n ≤ 4) (hs : S.size ≤ 8) (hS : w.cell? ⟨g, 2, none⟩ = some (.string S)) (h3 : w.cell? ⟨g, 3, none⟩ = some (.slice (some ⟨q, 0, none⟩) (n + 1) c)) (hc1 : w.cell? ⟨q, n * 4 + 1, none⟩ = some (.int .i64 ba)) (hb : ((S.size : Int) != ba) = true) :
 Calls Try.prog 243 #[.pointer (some ⟨g, 0, none⟩), .int .i64 at_, .int .i64 23] w fun e w' => e = .returned (.int .i64 13) ∧ Drawn0 w w' := by
 have hu := Try.underlying230
 go_enter Try.func243, Try.ntmps243
 go_wp2
 go_quiet (fail)
 go_wp2
 go_ret
 exact ⟨rfl, zD⟩
theorem vnest_else (w : World) (g q n c : Nat) (at_ ba : Int) (S : ByteArray) (hn : n ≤ 4) (hs : S.size ≤ 8) (hS : w.cell? ⟨g, 2, none⟩ = some (.string S)) (h3 : w.cell? ⟨g, 3, none⟩ = some (.slice (some ⟨q, 0, none⟩) (n + 1) c)) (hc1 : w.cell? ⟨q, n * 4 + 1, none⟩ = some (.int .i64 ba)) (hc2 : w.cell? ⟨q, n * 4 + 2, none⟩ = some (.bool true)) (hc3 : w.cell? ⟨q, n * 4 + 3, none⟩ = some (.bool false)) (hf : w.frozen? ⟨q, n * 4 + 3, none⟩ = false) (hb : ((S.size : Int) != ba) = false) :
 Calls Try.prog 243 #[.pointer (some ⟨g, 0, none⟩), .int .i64 at_, .int .i64 22] w fun e w' => e = .returned (.int .i64 0) ∧ ∃ m, w' = (w.setCell ⟨q, n * 4 + 3, none⟩ (.bool true)).drewN m := by
 have hu := Try.underlying230
 go_enter Try.func243, Try.ntmps243
 go_wp2
 go_quiet (fail)
 go_wp2
 go_ret
 exact ⟨rfl, _, rfl⟩
theorem vnest_end (w : World) (g q n c : Nat) (at_ ba : Int) (S : ByteArray) (hn : n ≤ 4) (hs : S.size ≤ 8) (hS : w.cell? ⟨g, 2, none⟩ = some (.string S)) (h3 : w.cell? ⟨g, 3, none⟩ = some (.slice (some ⟨q, 0, none⟩) (n + 1) c)) (hc1 : w.cell? ⟨q, n * 4 + 1, none⟩ = some (.int .i64 ba)) (hf : w.frozen? ⟨g, 3, none⟩ = false) (hnc : n + 1 ≤ c) (hb : ((S.size : Int) != ba) = false) :
 Calls Try.prog 243 #[.pointer (some ⟨g, 0, none⟩), .int .i64 at_, .int .i64 23] w fun e w' => e = .returned (.int .i64 0) ∧ ∃ m, w' = (w.setCell ⟨g, 3, none⟩ (.slice (some ⟨q, 0, none⟩) n c)).drewN m := by
 have hu := Try.underlying230
 go_enter Try.func243, Try.ntmps243
 go_wp2
 go_quiet (fail)
 go_wp2
 go_ret
 exact ⟨rfl, _, rfl⟩
theorem vinfo : (Try.prog.info? 243).map (fun i => (i.zero, i.size, i.bytes)) = some (some (.agg #[.int .i64 0, .int .i64 0, .bool false, .bool false]), 4, 24) := by kernel_rfl
set_option maxHeartbeats 4000000 in
theorem vnest_push21 (w : World) (B g n : Nat) (v : Value) (at_ : Int) (S : ByteArray) (xs : List Value) (hn : n < 4) (hs : S.size ≤ 8) (hB : B ≤ w.heap.size) (hS : w.cell? ⟨g, 2, none⟩ = some (.string S)) (h3 : w.cell? ⟨g, 3, none⟩ = some v) (hf : w.frozen? ⟨g, 3, none⟩ = false) (hgv : v.ownBlock ≠ some g) (hv : ∃ A c, v = .slice A n c)
 (ho : w.ownsRow B 243 4 v n xs) :
 Calls Try.prog 243 #[.pointer (some ⟨g, 0, none⟩), .int .i64 at_, .int .i64 21] w fun e w' => e = .returned (.int .i64 0) ∧ ∃ w1 v1, w1.ownsRow B 243 4 v1 (n + 1) (xs ++ [.int .i64 at_, .int .i64 S.size, .bool true, .bool false]) ∧ w.grownBy w1 v.ownBlock ∧ (v1.ownBlock = v.ownBlock ∨ ∃ b, v1.ownBlock = some b ∧ w.heap.size ≤ b) ∧ w' = w1.setCell ⟨g, 3, none⟩ v1 := by
 have hu := Try.underlying230
 obtain ⟨A, c, rfl⟩ := hv
 have h3a : ∀ o, (w.alloc o).cell? ⟨g, 3, none⟩ = some (.slice A n c) := fun o => (World.cell?_alloc_lt w o ⟨g, 3, none⟩ (World.block_lt_of_cell? w ⟨g, 3, none⟩ h3)).trans h3
 have HO := zQ ho
 have HG := zQ hgv
 have HB := zQ hB
 clear ho hgv hB
 go_enter Try.func243, Try.ntmps243
 go_wp2
 go_region_law (refine step_append_cells (W := w.drew) (w0 := w.drew) B (by rfl) (.tmp 22) (.tmp 32) 230 243 _ 4 24 rfl Try.underlying230 vinfo rfl (by decide) (by decide) (.slice A n c) n xs [.int .i64 at_, .int .i64 S.size, .bool true, .bool false] rfl rfl rfl (by simp [Value.oneCell']) HO.out (Below.refl _ _) HB.out (by omega) ?_; intro v1 w1 hown hbel hgrow hat; obtain ⟨A1, c1, rfl⟩ := own_slice hown; have z1 : w1.cell? ⟨g, 3, none⟩ = some (.slice A n c) := hgrow.cell (a := ⟨g, 3, none⟩) h3 (fun e => HG.out e.symm); have z2 : w1.frozen? ⟨g, 3, none⟩ = false := (World.frozen?_of_block (w := w.drew) (w' := w1) (a := ⟨g, 3, none⟩) (hgrow.block g (World.block_lt_of_cell? w ⟨g, 3, none⟩ h3) (fun e => HG.out e.symm))).trans hf; have YO := zQ hown; have YG := zQ hgrow; have YA := zQ hat; clear hown hbel hgrow hat)
 all_goals
  go_wp2
  go_ret
  exact ⟨rfl, _, _, YO.out, ⟨YG.out.os, YG.out.tape, YG.out.output, YG.out.size, YG.out.block⟩, YA.out, rfl⟩
set_option maxHeartbeats 4000000 in
theorem vnest_push24 (w : World) (B g n : Nat) (v : Value) (at_ : Int) (S : ByteArray) (xs : List Value) (hn : n < 4) (hs : S.size ≤ 8) (hB : B ≤ w.heap.size) (hS : w.cell? ⟨g, 2, none⟩ = some (.string S)) (h3 : w.cell? ⟨g, 3, none⟩ = some v) (hf : w.frozen? ⟨g, 3, none⟩ = false) (hgv : v.ownBlock ≠ some g) (hv : ∃ A c, v = .slice A n c)
 (ho : w.ownsRow B 243 4 v n xs) :
 Calls Try.prog 243 #[.pointer (some ⟨g, 0, none⟩), .int .i64 at_, .int .i64 24] w fun e w' => e = .returned (.int .i64 0) ∧ ∃ w1 v1, w1.ownsRow B 243 4 v1 (n + 1) (xs ++ [.int .i64 at_, .int .i64 S.size, .bool false, .bool false]) ∧ w.grownBy w1 v.ownBlock ∧ (v1.ownBlock = v.ownBlock ∨ ∃ b, v1.ownBlock = some b ∧ w.heap.size ≤ b) ∧ w' = w1.setCell ⟨g, 3, none⟩ v1 := by
 have hu := Try.underlying230
 obtain ⟨A, c, rfl⟩ := hv
 have h3a : ∀ o, (w.alloc o).cell? ⟨g, 3, none⟩ = some (.slice A n c) := fun o => (World.cell?_alloc_lt w o ⟨g, 3, none⟩ (World.block_lt_of_cell? w ⟨g, 3, none⟩ h3)).trans h3
 have HO := zQ ho
 have HG := zQ hgv
 have HB := zQ hB
 clear ho hgv hB
 go_enter Try.func243, Try.ntmps243
 go_wp2
 go_region_law (refine step_append_cells (W := w.drew) (w0 := w.drew) B (by rfl) (.tmp 22) (.tmp 32) 230 243 _ 4 24 rfl Try.underlying230 vinfo rfl (by decide) (by decide) (.slice A n c) n xs [.int .i64 at_, .int .i64 S.size, .bool false, .bool false] rfl rfl rfl (by simp [Value.oneCell']) HO.out (Below.refl _ _) HB.out (by omega) ?_; intro v1 w1 hown hbel hgrow hat; obtain ⟨A1, c1, rfl⟩ := own_slice hown; have z1 : w1.cell? ⟨g, 3, none⟩ = some (.slice A n c) := hgrow.cell (a := ⟨g, 3, none⟩) h3 (fun e => HG.out e.symm); have z2 : w1.frozen? ⟨g, 3, none⟩ = false := (World.frozen?_of_block (w := w.drew) (w' := w1) (a := ⟨g, 3, none⟩) (hgrow.block g (World.block_lt_of_cell? w ⟨g, 3, none⟩ h3) (fun e => HG.out e.symm))).trans hf; have YO := zQ hown; have YG := zQ hgrow; have YA := zQ hat; clear hown hbel hgrow hat)
 all_goals
  go_wp2
  go_ret
  exact ⟨rfl, _, _, YO.out, ⟨YG.out.os, YG.out.tape, YG.out.output, YG.out.size, YG.out.block⟩, YA.out, rfl⟩

end Go.Proofs.Ytkegjmkdnfpfdaa.MFnExactNewCore
