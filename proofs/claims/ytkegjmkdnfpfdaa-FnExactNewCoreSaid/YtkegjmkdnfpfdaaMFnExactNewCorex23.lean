-- By a program of this session.
import Derived.Test.YtkegjmkdnfpfdaaMFnExactNewCorex0
import Derived.Test.YtkegjmkdnfpfdaaMFnExactNewCorex7
import Derived.Test.YtkegjmkdnfpfdaaMFnExactNewCorex21
namespace Go.Proofs.Ytkegjmkdnfpfdaa.MFnExactNewCore
open Go.RowKit Go.Proofs.YtkegjmkdnfpfdaaW.PrintWords Go.Proofs.YtkegjmkdnfpfdaaW.PrintLast Go.Proofs.YtkegjmkdnfpfdaaW.PrintMore
attribute [local go_sem] max2_int min2_int max_two min_two max_three min_three max_four min_four
set_option linter.unusedVariables false
set_option linter.unusedSimpArgs false
set_option maxHeartbeats 8000000
set_option maxRecDepth 100000



set_option maxHeartbeats 1000000 in
theorem vstep_o_lo (w : World) (g nk ck : Nat) (ak : Option Addr) (R at_ op a b : Int) (S P Q : ByteArray) (post : Ending → World → Prop)
 (hg : g < w.heap.size) (h0 : w.cell? ⟨g, 0, none⟩ = some (.slice ak nk ck)) (h1 : w.cell? ⟨g, 1, none⟩ = some (.int .i64 R)) (h2 : w.cell? ⟨g, 2, none⟩ = some (.string S)) (hf : w.frozen? ⟨g, 2, none⟩ = false)
 (f19 : (op == 19) = false) (f20 : (op == 20) = false) (f26 : (op == 26) = false)
 (hS : S.size ≤ 8) (hP : P.size ≤ 3) (hQ : Q.size ≤ 1) (hb0 : 0 ≤ b)
 (hE : Aside0 (∀ W : World, Below w.heap.size w W → Calls Try.prog 199 #[.pointer (some ⟨g, 0, none⟩), .agg #[.int .i64 op, .int .i64 a]] W fun e w' => e = .returned (.tuple #[.string P, .string Q]) ∧ Below W.heap.size W w'))
 (hBa : Aside0 (∀ W : World, Below w.heap.size w W → Calls Try.prog 242 #[.pointer (some ⟨g, 0, none⟩)] W fun e w' => e = .returned (.int .i64 b) ∧ Drawn0 W w'))
 (h13 : Aside0 (∀ W : World, Below w.heap.size w W → post (.returned (.int .i64 13)) W)) (hlb : decide ((S.size : Int) - (P.size : Int) < b) = true) :
 Calls Try.prog 210 #[.pointer (some ⟨g, 0, none⟩), .int .i64 at_, .agg #[.int .i64 op, .int .i64 a]] w post := by
 have HB := zQ (Below.refl w.heap.size w)
 have HG := zQ hg
 clear hg
 have h0a : ∀ o, (w.alloc o).cell? ⟨g, 0, none⟩ = some (.slice ak nk ck) := fun o => (World.cell?_alloc_lt w o _ (World.block_lt_of_cell? w _ h0)).trans h0
 have h1a : ∀ o, (w.alloc o).cell? ⟨g, 1, none⟩ = some (.int .i64 R) := fun o => (World.cell?_alloc_lt w o _ (World.block_lt_of_cell? w _ h1)).trans h1
 have h2a : ∀ o, (w.alloc o).cell? ⟨g, 2, none⟩ = some (.string S) := fun o => (World.cell?_alloc_lt w o _ (World.block_lt_of_cell? w _ h2)).trans h2
 go_enter Try.func210, Try.ntmps210
 go_wp2
 go_quiet (fail)
 go_wp2
 go_quiet (fail)
 go_wp2_with (first | (go_at_call 199; (with_reducible refine (hE.out _ (by repeat (first | exact HB.out | apply below_alloc | apply pw_below_drewN))).mono ?_); rintro e w1 ⟨rfl, hb⟩; have hb' : Below (w.alloc (.cells #[.int .i64 op, .int .i64 a] 96)).heap.size (w.alloc (.cells #[.int .i64 op, .int .i64 a] 96)) w1 := v_undrew hb; clear hb; have hz2 : w1.cell? ⟨g, 2, none⟩ = some (.string S) := pw_cell_below hb' (h2a _); have hx0 : w1.cell? ⟨w.heap.size, 0, none⟩ = some (.int .i64 op) := pw_cell_below hb' ((blk_cell (blk_new w _) 0).trans rfl); have hzf : w1.frozen? ⟨g, 2, none⟩ = false := (World.frozen?_of_block (w := w) (w' := w1) (a := ⟨g, 2, none⟩) ((below_then (below_alloc HB.out _) (by simp) hb').block g HG.out)).trans hf; have hxs : ∀ u, (w1.setCell ⟨g, 2, none⟩ u).cell? ⟨w.heap.size, 0, none⟩ = some (.int .i64 op) := fun u => (World.cell?_setCell_other w1 _ _ u (by have := HG.out; intro e; injection e with e1; omega)).trans hx0; have HB1 := zQ (below_then (below_alloc HB.out _) (by simp) hb'); clear hb') | (go_at_call 242; (with_reducible refine (hBa.out _ (by repeat (first | exact HB1.out | apply below_alloc | apply pw_below_drewN))).mono ?_); rintro e w2 ⟨rfl, ⟨m, rfl⟩⟩))
 exact h13.out _ (by repeat (first | exact HB1.out | apply below_alloc | apply pw_below_drewN))
set_option maxHeartbeats 1000000 in
theorem vstep_o (w : World) (g nk ck : Nat) (ak : Option Addr) (R at_ op a b : Int) (S P Q : ByteArray) (post : Ending → World → Prop)
 (hg : g < w.heap.size) (h0 : w.cell? ⟨g, 0, none⟩ = some (.slice ak nk ck)) (h1 : w.cell? ⟨g, 1, none⟩ = some (.int .i64 R)) (h2 : w.cell? ⟨g, 2, none⟩ = some (.string S)) (hf : w.frozen? ⟨g, 2, none⟩ = false)
 (f19 : (op == 19) = false) (f20 : (op == 20) = false) (f26 : (op == 26) = false)
 (hS : S.size ≤ 8) (hP : P.size ≤ 3) (hQ : Q.size ≤ 1) (hb0 : 0 ≤ b)
 (hE : Aside0 (∀ W : World, Below w.heap.size w W → Calls Try.prog 199 #[.pointer (some ⟨g, 0, none⟩), .agg #[.int .i64 op, .int .i64 a]] W fun e w' => e = .returned (.tuple #[.string P, .string Q]) ∧ Below W.heap.size W w'))
 (hBa : Aside0 (∀ W : World, Below w.heap.size w W → Calls Try.prog 242 #[.pointer (some ⟨g, 0, none⟩)] W fun e w' => e = .returned (.int .i64 b) ∧ Drawn0 W w'))
 (hN : Aside0 (S.extract (S.size - P.size) S.size = P → S.size - P.size + Q.size ≤ 8 → ∀ W : World, Below w.heap.size w W → Calls Try.prog 243 #[.pointer (some ⟨g, 0, none⟩), .int .i64 at_, .int .i64 op] (W.setCell ⟨g, 2, none⟩ (.string (S.extract 0 (S.size - P.size) ++ Q))) fun e w' => ∃ c : Int, e = .returned (.int .i64 c) ∧ post e w'))
 (h7 : Aside0 (S.extract (S.size - P.size) S.size = P → 8 < S.size - P.size + Q.size → ∀ W : World, Below w.heap.size w W → post (.returned (.int .i64 7)) (W.setCell ⟨g, 2, none⟩ (.string (S.extract 0 (S.size - P.size) ++ Q)))))
 (h12 : Aside0 (S.extract (S.size - P.size) S.size ≠ P → ∀ W : World, Below w.heap.size w W → post (.returned (.int .i64 12)) W))
 (hle : P.size ≤ S.size) (hlb : decide ((S.size : Int) - (P.size : Int) < b) = false) :
 Calls Try.prog 210 #[.pointer (some ⟨g, 0, none⟩), .int .i64 at_, .agg #[.int .i64 op, .int .i64 a]] w post := by
 have HB := zQ (Below.refl w.heap.size w)
 have HG := zQ hg
 clear hg
 have h0a : ∀ o, (w.alloc o).cell? ⟨g, 0, none⟩ = some (.slice ak nk ck) := fun o => (World.cell?_alloc_lt w o _ (World.block_lt_of_cell? w _ h0)).trans h0
 have h1a : ∀ o, (w.alloc o).cell? ⟨g, 1, none⟩ = some (.int .i64 R) := fun o => (World.cell?_alloc_lt w o _ (World.block_lt_of_cell? w _ h1)).trans h1
 have h2a : ∀ o, (w.alloc o).cell? ⟨g, 2, none⟩ = some (.string S) := fun o => (World.cell?_alloc_lt w o _ (World.block_lt_of_cell? w _ h2)).trans h2
 go_enter Try.func210, Try.ntmps210
 go_wp2
 go_quiet (fail)
 go_wp2
 go_quiet (fail)
 go_wp2_with (first | (go_at_call 199; (with_reducible refine (hE.out _ (by repeat (first | exact HB.out | apply below_alloc | apply pw_below_drewN))).mono ?_); rintro e w1 ⟨rfl, hb⟩; have hb' : Below (w.alloc (.cells #[.int .i64 op, .int .i64 a] 96)).heap.size (w.alloc (.cells #[.int .i64 op, .int .i64 a] 96)) w1 := v_undrew hb; clear hb; have hz2 : w1.cell? ⟨g, 2, none⟩ = some (.string S) := pw_cell_below hb' (h2a _); have hx0 : w1.cell? ⟨w.heap.size, 0, none⟩ = some (.int .i64 op) := pw_cell_below hb' ((blk_cell (blk_new w _) 0).trans rfl); have hzf : w1.frozen? ⟨g, 2, none⟩ = false := (World.frozen?_of_block (w := w) (w' := w1) (a := ⟨g, 2, none⟩) ((below_then (below_alloc HB.out _) (by simp) hb').block g HG.out)).trans hf; have hxs : ∀ u, (w1.setCell ⟨g, 2, none⟩ u).cell? ⟨w.heap.size, 0, none⟩ = some (.int .i64 op) := fun u => (World.cell?_setCell_other w1 _ _ u (by have := HG.out; intro e; injection e with e1; omega)).trans hx0; have HB1 := zQ (below_then (below_alloc HB.out _) (by simp) hb'); clear hb') | (go_at_call 242; (with_reducible refine (hBa.out _ (by repeat (first | exact HB1.out | apply below_alloc | apply pw_below_drewN))).mono ?_); rintro e w2 ⟨rfl, ⟨m, rfl⟩⟩) | (go_at_call 243; (with_reducible refine (hN.out (v_eq (by assumption)) (by have hq : (((S.size - P.size : Nat) : Int) + (Q.size : Int) ≤ 8) := (by assumption); omega) _ (by repeat (first | exact HB1.out | apply below_alloc | apply pw_below_drewN))).mono ?_); rintro e w3 ⟨cc, rfl, hpost⟩))
 ·exact h12.out (v_ne (by assumption)) _ (by repeat (first | exact HB1.out | apply below_alloc | apply pw_below_drewN))
 ·exact h7.out (v_eq (by assumption)) (by have hq : (8 < ((S.size - P.size : Nat) : Int) + (Q.size : Int)) := (by assumption); omega) (w1.drewN m) (by repeat (first | exact HB1.out | apply below_alloc | apply pw_below_drewN))
 ·exact hpost
set_option maxHeartbeats 1000000 in
theorem vstep_19_lo (w : World) (g nk ck : Nat) (ak : Option Addr) (R at_ a b : Int) (S P Q : ByteArray) (post : Ending → World → Prop)
 (hg : g < w.heap.size) (h0 : w.cell? ⟨g, 0, none⟩ = some (.slice ak nk ck)) (h1 : w.cell? ⟨g, 1, none⟩ = some (.int .i64 R)) (h2 : w.cell? ⟨g, 2, none⟩ = some (.string S)) (hf : w.frozen? ⟨g, 2, none⟩ = false)
 (ga : decide (a ≥ (nk : Int)) = false)
 (hS : S.size ≤ 8) (hP : P.size ≤ 3) (hQ : Q.size ≤ 1) (hb0 : 0 ≤ b)
 (hE : Aside0 (∀ W : World, Below w.heap.size w W → Calls Try.prog 199 #[.pointer (some ⟨g, 0, none⟩), .agg #[.int .i64 19, .int .i64 a]] W fun e w' => e = .returned (.tuple #[.string P, .string Q]) ∧ Below W.heap.size W w'))
 (hBa : Aside0 (∀ W : World, Below w.heap.size w W → Calls Try.prog 242 #[.pointer (some ⟨g, 0, none⟩)] W fun e w' => e = .returned (.int .i64 b) ∧ Drawn0 W w'))
 (h13 : Aside0 (∀ W : World, Below w.heap.size w W → post (.returned (.int .i64 13)) W)) (hlb : decide ((S.size : Int) - (P.size : Int) < b) = true) :
 Calls Try.prog 210 #[.pointer (some ⟨g, 0, none⟩), .int .i64 at_, .agg #[.int .i64 19, .int .i64 a]] w post := by
 have HB := zQ (Below.refl w.heap.size w)
 have HG := zQ hg
 clear hg
 have h0a : ∀ o, (w.alloc o).cell? ⟨g, 0, none⟩ = some (.slice ak nk ck) := fun o => (World.cell?_alloc_lt w o _ (World.block_lt_of_cell? w _ h0)).trans h0
 have h1a : ∀ o, (w.alloc o).cell? ⟨g, 1, none⟩ = some (.int .i64 R) := fun o => (World.cell?_alloc_lt w o _ (World.block_lt_of_cell? w _ h1)).trans h1
 have h2a : ∀ o, (w.alloc o).cell? ⟨g, 2, none⟩ = some (.string S) := fun o => (World.cell?_alloc_lt w o _ (World.block_lt_of_cell? w _ h2)).trans h2
 go_enter Try.func210, Try.ntmps210
 go_wp2
 go_quiet (fail)
 go_wp2
 go_quiet (fail)
 go_wp2_with (first | (go_at_call 199; (with_reducible refine (hE.out _ (by repeat (first | exact HB.out | apply below_alloc | apply pw_below_drewN))).mono ?_); rintro e w1 ⟨rfl, hb⟩; have hb' : Below (w.alloc (.cells #[.int .i64 19, .int .i64 a] 96)).heap.size (w.alloc (.cells #[.int .i64 19, .int .i64 a] 96)) w1 := v_undrew hb; clear hb; have hz2 : w1.cell? ⟨g, 2, none⟩ = some (.string S) := pw_cell_below hb' (h2a _); have hx0 : w1.cell? ⟨w.heap.size, 0, none⟩ = some (.int .i64 19) := pw_cell_below hb' ((blk_cell (blk_new w _) 0).trans rfl); have hzf : w1.frozen? ⟨g, 2, none⟩ = false := (World.frozen?_of_block (w := w) (w' := w1) (a := ⟨g, 2, none⟩) ((below_then (below_alloc HB.out _) (by simp) hb').block g HG.out)).trans hf; have hxs : ∀ u, (w1.setCell ⟨g, 2, none⟩ u).cell? ⟨w.heap.size, 0, none⟩ = some (.int .i64 19) := fun u => (World.cell?_setCell_other w1 _ _ u (by have := HG.out; intro e; injection e with e1; omega)).trans hx0; have HB1 := zQ (below_then (below_alloc HB.out _) (by simp) hb'); clear hb') | (go_at_call 242; (with_reducible refine (hBa.out _ (by repeat (first | exact HB1.out | apply below_alloc | apply pw_below_drewN))).mono ?_); rintro e w2 ⟨rfl, ⟨m, rfl⟩⟩))
 exact h13.out _ (by repeat (first | exact HB1.out | apply below_alloc | apply pw_below_drewN))
set_option maxHeartbeats 1000000 in
theorem vstep_19 (w : World) (g nk ck : Nat) (ak : Option Addr) (R at_ a b : Int) (S P Q : ByteArray) (post : Ending → World → Prop)
 (hg : g < w.heap.size) (h0 : w.cell? ⟨g, 0, none⟩ = some (.slice ak nk ck)) (h1 : w.cell? ⟨g, 1, none⟩ = some (.int .i64 R)) (h2 : w.cell? ⟨g, 2, none⟩ = some (.string S)) (hf : w.frozen? ⟨g, 2, none⟩ = false)
 (ga : decide (a ≥ (nk : Int)) = false)
 (hS : S.size ≤ 8) (hP : P.size ≤ 3) (hQ : Q.size ≤ 1) (hb0 : 0 ≤ b)
 (hE : Aside0 (∀ W : World, Below w.heap.size w W → Calls Try.prog 199 #[.pointer (some ⟨g, 0, none⟩), .agg #[.int .i64 19, .int .i64 a]] W fun e w' => e = .returned (.tuple #[.string P, .string Q]) ∧ Below W.heap.size W w'))
 (hBa : Aside0 (∀ W : World, Below w.heap.size w W → Calls Try.prog 242 #[.pointer (some ⟨g, 0, none⟩)] W fun e w' => e = .returned (.int .i64 b) ∧ Drawn0 W w'))
 (hN : Aside0 (S.extract (S.size - P.size) S.size = P → S.size - P.size + Q.size ≤ 8 → ∀ W : World, Below w.heap.size w W → Calls Try.prog 243 #[.pointer (some ⟨g, 0, none⟩), .int .i64 at_, .int .i64 19] (W.setCell ⟨g, 2, none⟩ (.string (S.extract 0 (S.size - P.size) ++ Q))) fun e w' => ∃ c : Int, e = .returned (.int .i64 c) ∧ post e w'))
 (h7 : Aside0 (S.extract (S.size - P.size) S.size = P → 8 < S.size - P.size + Q.size → ∀ W : World, Below w.heap.size w W → post (.returned (.int .i64 7)) (W.setCell ⟨g, 2, none⟩ (.string (S.extract 0 (S.size - P.size) ++ Q)))))
 (h12 : Aside0 (S.extract (S.size - P.size) S.size ≠ P → ∀ W : World, Below w.heap.size w W → post (.returned (.int .i64 12)) W))
 (hle : P.size ≤ S.size) (hlb : decide ((S.size : Int) - (P.size : Int) < b) = false) :
 Calls Try.prog 210 #[.pointer (some ⟨g, 0, none⟩), .int .i64 at_, .agg #[.int .i64 19, .int .i64 a]] w post := by
 have HB := zQ (Below.refl w.heap.size w)
 have HG := zQ hg
 clear hg
 have h0a : ∀ o, (w.alloc o).cell? ⟨g, 0, none⟩ = some (.slice ak nk ck) := fun o => (World.cell?_alloc_lt w o _ (World.block_lt_of_cell? w _ h0)).trans h0
 have h1a : ∀ o, (w.alloc o).cell? ⟨g, 1, none⟩ = some (.int .i64 R) := fun o => (World.cell?_alloc_lt w o _ (World.block_lt_of_cell? w _ h1)).trans h1
 have h2a : ∀ o, (w.alloc o).cell? ⟨g, 2, none⟩ = some (.string S) := fun o => (World.cell?_alloc_lt w o _ (World.block_lt_of_cell? w _ h2)).trans h2
 go_enter Try.func210, Try.ntmps210
 go_wp2
 go_quiet (fail)
 go_wp2
 go_quiet (fail)
 go_wp2_with (first | (go_at_call 199; (with_reducible refine (hE.out _ (by repeat (first | exact HB.out | apply below_alloc | apply pw_below_drewN))).mono ?_); rintro e w1 ⟨rfl, hb⟩; have hb' : Below (w.alloc (.cells #[.int .i64 19, .int .i64 a] 96)).heap.size (w.alloc (.cells #[.int .i64 19, .int .i64 a] 96)) w1 := v_undrew hb; clear hb; have hz2 : w1.cell? ⟨g, 2, none⟩ = some (.string S) := pw_cell_below hb' (h2a _); have hx0 : w1.cell? ⟨w.heap.size, 0, none⟩ = some (.int .i64 19) := pw_cell_below hb' ((blk_cell (blk_new w _) 0).trans rfl); have hzf : w1.frozen? ⟨g, 2, none⟩ = false := (World.frozen?_of_block (w := w) (w' := w1) (a := ⟨g, 2, none⟩) ((below_then (below_alloc HB.out _) (by simp) hb').block g HG.out)).trans hf; have hxs : ∀ u, (w1.setCell ⟨g, 2, none⟩ u).cell? ⟨w.heap.size, 0, none⟩ = some (.int .i64 19) := fun u => (World.cell?_setCell_other w1 _ _ u (by have := HG.out; intro e; injection e with e1; omega)).trans hx0; have HB1 := zQ (below_then (below_alloc HB.out _) (by simp) hb'); clear hb') | (go_at_call 242; (with_reducible refine (hBa.out _ (by repeat (first | exact HB1.out | apply below_alloc | apply pw_below_drewN))).mono ?_); rintro e w2 ⟨rfl, ⟨m, rfl⟩⟩) | (go_at_call 243; (with_reducible refine (hN.out (v_eq (by assumption)) (by have hq : (((S.size - P.size : Nat) : Int) + (Q.size : Int) ≤ 8) := (by assumption); omega) _ (by repeat (first | exact HB1.out | apply below_alloc | apply pw_below_drewN))).mono ?_); rintro e w3 ⟨cc, rfl, hpost⟩))
 ·exact h12.out (v_ne (by assumption)) _ (by repeat (first | exact HB1.out | apply below_alloc | apply pw_below_drewN))
 ·exact h7.out (v_eq (by assumption)) (by have hq : (8 < ((S.size - P.size : Nat) : Int) + (Q.size : Int)) := (by assumption); omega) (w1.drewN m) (by repeat (first | exact HB1.out | apply below_alloc | apply pw_below_drewN))
 ·exact hpost
set_option maxHeartbeats 1000000 in
theorem vstep_20_lo (w : World) (g nk ck : Nat) (ak : Option Addr) (R at_ a b : Int) (S P Q : ByteArray) (post : Ending → World → Prop)
 (hg : g < w.heap.size) (h0 : w.cell? ⟨g, 0, none⟩ = some (.slice ak nk ck)) (h1 : w.cell? ⟨g, 1, none⟩ = some (.int .i64 R)) (h2 : w.cell? ⟨g, 2, none⟩ = some (.string S)) (hf : w.frozen? ⟨g, 2, none⟩ = false)
 (ga : decide (a ≥ (nk : Int)) = false)
 (hS : S.size ≤ 8) (hP : P.size ≤ 3) (hQ : Q.size ≤ 1) (hb0 : 0 ≤ b)
 (hE : Aside0 (∀ W : World, Below w.heap.size w W → Calls Try.prog 199 #[.pointer (some ⟨g, 0, none⟩), .agg #[.int .i64 20, .int .i64 a]] W fun e w' => e = .returned (.tuple #[.string P, .string Q]) ∧ Below W.heap.size W w'))
 (hBa : Aside0 (∀ W : World, Below w.heap.size w W → Calls Try.prog 242 #[.pointer (some ⟨g, 0, none⟩)] W fun e w' => e = .returned (.int .i64 b) ∧ Drawn0 W w'))
 (h13 : Aside0 (∀ W : World, Below w.heap.size w W → post (.returned (.int .i64 13)) W)) (hlb : decide ((S.size : Int) - (P.size : Int) < b) = true) :
 Calls Try.prog 210 #[.pointer (some ⟨g, 0, none⟩), .int .i64 at_, .agg #[.int .i64 20, .int .i64 a]] w post := by
 have HB := zQ (Below.refl w.heap.size w)
 have HG := zQ hg
 clear hg
 have h0a : ∀ o, (w.alloc o).cell? ⟨g, 0, none⟩ = some (.slice ak nk ck) := fun o => (World.cell?_alloc_lt w o _ (World.block_lt_of_cell? w _ h0)).trans h0
 have h1a : ∀ o, (w.alloc o).cell? ⟨g, 1, none⟩ = some (.int .i64 R) := fun o => (World.cell?_alloc_lt w o _ (World.block_lt_of_cell? w _ h1)).trans h1
 have h2a : ∀ o, (w.alloc o).cell? ⟨g, 2, none⟩ = some (.string S) := fun o => (World.cell?_alloc_lt w o _ (World.block_lt_of_cell? w _ h2)).trans h2
 go_enter Try.func210, Try.ntmps210
 go_wp2
 go_quiet (fail)
 go_wp2
 go_quiet (fail)
 go_wp2_with (first | (go_at_call 199; (with_reducible refine (hE.out _ (by repeat (first | exact HB.out | apply below_alloc | apply pw_below_drewN))).mono ?_); rintro e w1 ⟨rfl, hb⟩; have hb' : Below (w.alloc (.cells #[.int .i64 20, .int .i64 a] 96)).heap.size (w.alloc (.cells #[.int .i64 20, .int .i64 a] 96)) w1 := v_undrew hb; clear hb; have hz2 : w1.cell? ⟨g, 2, none⟩ = some (.string S) := pw_cell_below hb' (h2a _); have hx0 : w1.cell? ⟨w.heap.size, 0, none⟩ = some (.int .i64 20) := pw_cell_below hb' ((blk_cell (blk_new w _) 0).trans rfl); have hzf : w1.frozen? ⟨g, 2, none⟩ = false := (World.frozen?_of_block (w := w) (w' := w1) (a := ⟨g, 2, none⟩) ((below_then (below_alloc HB.out _) (by simp) hb').block g HG.out)).trans hf; have hxs : ∀ u, (w1.setCell ⟨g, 2, none⟩ u).cell? ⟨w.heap.size, 0, none⟩ = some (.int .i64 20) := fun u => (World.cell?_setCell_other w1 _ _ u (by have := HG.out; intro e; injection e with e1; omega)).trans hx0; have HB1 := zQ (below_then (below_alloc HB.out _) (by simp) hb'); clear hb') | (go_at_call 242; (with_reducible refine (hBa.out _ (by repeat (first | exact HB1.out | apply below_alloc | apply pw_below_drewN))).mono ?_); rintro e w2 ⟨rfl, ⟨m, rfl⟩⟩))
 exact h13.out _ (by repeat (first | exact HB1.out | apply below_alloc | apply pw_below_drewN))
set_option maxHeartbeats 1000000 in
theorem vstep_20 (w : World) (g nk ck : Nat) (ak : Option Addr) (R at_ a b : Int) (S P Q : ByteArray) (post : Ending → World → Prop)
 (hg : g < w.heap.size) (h0 : w.cell? ⟨g, 0, none⟩ = some (.slice ak nk ck)) (h1 : w.cell? ⟨g, 1, none⟩ = some (.int .i64 R)) (h2 : w.cell? ⟨g, 2, none⟩ = some (.string S)) (hf : w.frozen? ⟨g, 2, none⟩ = false)
 (ga : decide (a ≥ (nk : Int)) = false)
 (hS : S.size ≤ 8) (hP : P.size ≤ 3) (hQ : Q.size ≤ 1) (hb0 : 0 ≤ b)
 (hE : Aside0 (∀ W : World, Below w.heap.size w W → Calls Try.prog 199 #[.pointer (some ⟨g, 0, none⟩), .agg #[.int .i64 20, .int .i64 a]] W fun e w' => e = .returned (.tuple #[.string P, .string Q]) ∧ Below W.heap.size W w'))
 (hBa : Aside0 (∀ W : World, Below w.heap.size w W → Calls Try.prog 242 #[.pointer (some ⟨g, 0, none⟩)] W fun e w' => e = .returned (.int .i64 b) ∧ Drawn0 W w'))
 (hN : Aside0 (S.extract (S.size - P.size) S.size = P → S.size - P.size + Q.size ≤ 8 → ∀ W : World, Below w.heap.size w W → Calls Try.prog 243 #[.pointer (some ⟨g, 0, none⟩), .int .i64 at_, .int .i64 20] (W.setCell ⟨g, 2, none⟩ (.string (S.extract 0 (S.size - P.size) ++ Q))) fun e w' => ∃ c : Int, e = .returned (.int .i64 c) ∧ post e w'))
 (h7 : Aside0 (S.extract (S.size - P.size) S.size = P → 8 < S.size - P.size + Q.size → ∀ W : World, Below w.heap.size w W → post (.returned (.int .i64 7)) (W.setCell ⟨g, 2, none⟩ (.string (S.extract 0 (S.size - P.size) ++ Q)))))
 (h12 : Aside0 (S.extract (S.size - P.size) S.size ≠ P → ∀ W : World, Below w.heap.size w W → post (.returned (.int .i64 12)) W))
 (hle : P.size ≤ S.size) (hlb : decide ((S.size : Int) - (P.size : Int) < b) = false) :
 Calls Try.prog 210 #[.pointer (some ⟨g, 0, none⟩), .int .i64 at_, .agg #[.int .i64 20, .int .i64 a]] w post := by
 have HB := zQ (Below.refl w.heap.size w)
 have HG := zQ hg
 clear hg
 have h0a : ∀ o, (w.alloc o).cell? ⟨g, 0, none⟩ = some (.slice ak nk ck) := fun o => (World.cell?_alloc_lt w o _ (World.block_lt_of_cell? w _ h0)).trans h0
 have h1a : ∀ o, (w.alloc o).cell? ⟨g, 1, none⟩ = some (.int .i64 R) := fun o => (World.cell?_alloc_lt w o _ (World.block_lt_of_cell? w _ h1)).trans h1
 have h2a : ∀ o, (w.alloc o).cell? ⟨g, 2, none⟩ = some (.string S) := fun o => (World.cell?_alloc_lt w o _ (World.block_lt_of_cell? w _ h2)).trans h2
 go_enter Try.func210, Try.ntmps210
 go_wp2
 go_quiet (fail)
 go_wp2
 go_quiet (fail)
 go_wp2_with (first | (go_at_call 199; (with_reducible refine (hE.out _ (by repeat (first | exact HB.out | apply below_alloc | apply pw_below_drewN))).mono ?_); rintro e w1 ⟨rfl, hb⟩; have hb' : Below (w.alloc (.cells #[.int .i64 20, .int .i64 a] 96)).heap.size (w.alloc (.cells #[.int .i64 20, .int .i64 a] 96)) w1 := v_undrew hb; clear hb; have hz2 : w1.cell? ⟨g, 2, none⟩ = some (.string S) := pw_cell_below hb' (h2a _); have hx0 : w1.cell? ⟨w.heap.size, 0, none⟩ = some (.int .i64 20) := pw_cell_below hb' ((blk_cell (blk_new w _) 0).trans rfl); have hzf : w1.frozen? ⟨g, 2, none⟩ = false := (World.frozen?_of_block (w := w) (w' := w1) (a := ⟨g, 2, none⟩) ((below_then (below_alloc HB.out _) (by simp) hb').block g HG.out)).trans hf; have hxs : ∀ u, (w1.setCell ⟨g, 2, none⟩ u).cell? ⟨w.heap.size, 0, none⟩ = some (.int .i64 20) := fun u => (World.cell?_setCell_other w1 _ _ u (by have := HG.out; intro e; injection e with e1; omega)).trans hx0; have HB1 := zQ (below_then (below_alloc HB.out _) (by simp) hb'); clear hb') | (go_at_call 242; (with_reducible refine (hBa.out _ (by repeat (first | exact HB1.out | apply below_alloc | apply pw_below_drewN))).mono ?_); rintro e w2 ⟨rfl, ⟨m, rfl⟩⟩) | (go_at_call 243; (with_reducible refine (hN.out (v_eq (by assumption)) (by have hq : (((S.size - P.size : Nat) : Int) + (Q.size : Int) ≤ 8) := (by assumption); omega) _ (by repeat (first | exact HB1.out | apply below_alloc | apply pw_below_drewN))).mono ?_); rintro e w3 ⟨cc, rfl, hpost⟩))
 ·exact h12.out (v_ne (by assumption)) _ (by repeat (first | exact HB1.out | apply below_alloc | apply pw_below_drewN))
 ·exact h7.out (v_eq (by assumption)) (by have hq : (8 < ((S.size - P.size : Nat) : Int) + (Q.size : Int)) := (by assumption); omega) (w1.drewN m) (by repeat (first | exact HB1.out | apply below_alloc | apply pw_below_drewN))
 ·exact hpost
set_option maxHeartbeats 1000000 in
theorem vstep_26_lo (w : World) (g nk ck : Nat) (ak : Option Addr) (R at_ a b : Int) (S P Q : ByteArray) (post : Ending → World → Prop)
 (hg : g < w.heap.size) (h0 : w.cell? ⟨g, 0, none⟩ = some (.slice ak nk ck)) (h1 : w.cell? ⟨g, 1, none⟩ = some (.int .i64 R)) (h2 : w.cell? ⟨g, 2, none⟩ = some (.string S)) (hf : w.frozen? ⟨g, 2, none⟩ = false)
 (gr : decide (a ≥ R) = false)
 (hS : S.size ≤ 8) (hP : P.size ≤ 3) (hQ : Q.size ≤ 1) (hb0 : 0 ≤ b)
 (hE : Aside0 (∀ W : World, Below w.heap.size w W → Calls Try.prog 199 #[.pointer (some ⟨g, 0, none⟩), .agg #[.int .i64 26, .int .i64 a]] W fun e w' => e = .returned (.tuple #[.string P, .string Q]) ∧ Below W.heap.size W w'))
 (hBa : Aside0 (∀ W : World, Below w.heap.size w W → Calls Try.prog 242 #[.pointer (some ⟨g, 0, none⟩)] W fun e w' => e = .returned (.int .i64 b) ∧ Drawn0 W w'))
 (h13 : Aside0 (∀ W : World, Below w.heap.size w W → post (.returned (.int .i64 13)) W)) (hlb : decide ((S.size : Int) - (P.size : Int) < b) = true) :
 Calls Try.prog 210 #[.pointer (some ⟨g, 0, none⟩), .int .i64 at_, .agg #[.int .i64 26, .int .i64 a]] w post := by
 have HB := zQ (Below.refl w.heap.size w)
 have HG := zQ hg
 clear hg
 have h0a : ∀ o, (w.alloc o).cell? ⟨g, 0, none⟩ = some (.slice ak nk ck) := fun o => (World.cell?_alloc_lt w o _ (World.block_lt_of_cell? w _ h0)).trans h0
 have h1a : ∀ o, (w.alloc o).cell? ⟨g, 1, none⟩ = some (.int .i64 R) := fun o => (World.cell?_alloc_lt w o _ (World.block_lt_of_cell? w _ h1)).trans h1
 have h2a : ∀ o, (w.alloc o).cell? ⟨g, 2, none⟩ = some (.string S) := fun o => (World.cell?_alloc_lt w o _ (World.block_lt_of_cell? w _ h2)).trans h2
 go_enter Try.func210, Try.ntmps210
 go_wp2
 go_quiet (fail)
 go_wp2
 go_quiet (fail)
 go_wp2_with (first | (go_at_call 199; (with_reducible refine (hE.out _ (by repeat (first | exact HB.out | apply below_alloc | apply pw_below_drewN))).mono ?_); rintro e w1 ⟨rfl, hb⟩; have hb' : Below (w.alloc (.cells #[.int .i64 26, .int .i64 a] 96)).heap.size (w.alloc (.cells #[.int .i64 26, .int .i64 a] 96)) w1 := v_undrew hb; clear hb; have hz2 : w1.cell? ⟨g, 2, none⟩ = some (.string S) := pw_cell_below hb' (h2a _); have hx0 : w1.cell? ⟨w.heap.size, 0, none⟩ = some (.int .i64 26) := pw_cell_below hb' ((blk_cell (blk_new w _) 0).trans rfl); have hzf : w1.frozen? ⟨g, 2, none⟩ = false := (World.frozen?_of_block (w := w) (w' := w1) (a := ⟨g, 2, none⟩) ((below_then (below_alloc HB.out _) (by simp) hb').block g HG.out)).trans hf; have hxs : ∀ u, (w1.setCell ⟨g, 2, none⟩ u).cell? ⟨w.heap.size, 0, none⟩ = some (.int .i64 26) := fun u => (World.cell?_setCell_other w1 _ _ u (by have := HG.out; intro e; injection e with e1; omega)).trans hx0; have HB1 := zQ (below_then (below_alloc HB.out _) (by simp) hb'); clear hb') | (go_at_call 242; (with_reducible refine (hBa.out _ (by repeat (first | exact HB1.out | apply below_alloc | apply pw_below_drewN))).mono ?_); rintro e w2 ⟨rfl, ⟨m, rfl⟩⟩))
 exact h13.out _ (by repeat (first | exact HB1.out | apply below_alloc | apply pw_below_drewN))
set_option maxHeartbeats 1000000 in
theorem vstep_26 (w : World) (g nk ck : Nat) (ak : Option Addr) (R at_ a b : Int) (S P Q : ByteArray) (post : Ending → World → Prop)
 (hg : g < w.heap.size) (h0 : w.cell? ⟨g, 0, none⟩ = some (.slice ak nk ck)) (h1 : w.cell? ⟨g, 1, none⟩ = some (.int .i64 R)) (h2 : w.cell? ⟨g, 2, none⟩ = some (.string S)) (hf : w.frozen? ⟨g, 2, none⟩ = false)
 (gr : decide (a ≥ R) = false)
 (hS : S.size ≤ 8) (hP : P.size ≤ 3) (hQ : Q.size ≤ 1) (hb0 : 0 ≤ b)
 (hE : Aside0 (∀ W : World, Below w.heap.size w W → Calls Try.prog 199 #[.pointer (some ⟨g, 0, none⟩), .agg #[.int .i64 26, .int .i64 a]] W fun e w' => e = .returned (.tuple #[.string P, .string Q]) ∧ Below W.heap.size W w'))
 (hBa : Aside0 (∀ W : World, Below w.heap.size w W → Calls Try.prog 242 #[.pointer (some ⟨g, 0, none⟩)] W fun e w' => e = .returned (.int .i64 b) ∧ Drawn0 W w'))
 (hN : Aside0 (S.extract (S.size - P.size) S.size = P → S.size - P.size + Q.size ≤ 8 → ∀ W : World, Below w.heap.size w W → Calls Try.prog 243 #[.pointer (some ⟨g, 0, none⟩), .int .i64 at_, .int .i64 26] (W.setCell ⟨g, 2, none⟩ (.string (S.extract 0 (S.size - P.size) ++ Q))) fun e w' => ∃ c : Int, e = .returned (.int .i64 c) ∧ post e w'))
 (h7 : Aside0 (S.extract (S.size - P.size) S.size = P → 8 < S.size - P.size + Q.size → ∀ W : World, Below w.heap.size w W → post (.returned (.int .i64 7)) (W.setCell ⟨g, 2, none⟩ (.string (S.extract 0 (S.size - P.size) ++ Q)))))
 (h12 : Aside0 (S.extract (S.size - P.size) S.size ≠ P → ∀ W : World, Below w.heap.size w W → post (.returned (.int .i64 12)) W))
 (hle : P.size ≤ S.size) (hlb : decide ((S.size : Int) - (P.size : Int) < b) = false) :
 Calls Try.prog 210 #[.pointer (some ⟨g, 0, none⟩), .int .i64 at_, .agg #[.int .i64 26, .int .i64 a]] w post := by
 have HB := zQ (Below.refl w.heap.size w)
 have HG := zQ hg
 clear hg
 have h0a : ∀ o, (w.alloc o).cell? ⟨g, 0, none⟩ = some (.slice ak nk ck) := fun o => (World.cell?_alloc_lt w o _ (World.block_lt_of_cell? w _ h0)).trans h0
 have h1a : ∀ o, (w.alloc o).cell? ⟨g, 1, none⟩ = some (.int .i64 R) := fun o => (World.cell?_alloc_lt w o _ (World.block_lt_of_cell? w _ h1)).trans h1
 have h2a : ∀ o, (w.alloc o).cell? ⟨g, 2, none⟩ = some (.string S) := fun o => (World.cell?_alloc_lt w o _ (World.block_lt_of_cell? w _ h2)).trans h2
 go_enter Try.func210, Try.ntmps210
 go_wp2
 go_quiet (fail)
 go_wp2
 go_quiet (fail)
 go_wp2_with (first | (go_at_call 199; (with_reducible refine (hE.out _ (by repeat (first | exact HB.out | apply below_alloc | apply pw_below_drewN))).mono ?_); rintro e w1 ⟨rfl, hb⟩; have hb' : Below (w.alloc (.cells #[.int .i64 26, .int .i64 a] 96)).heap.size (w.alloc (.cells #[.int .i64 26, .int .i64 a] 96)) w1 := v_undrew hb; clear hb; have hz2 : w1.cell? ⟨g, 2, none⟩ = some (.string S) := pw_cell_below hb' (h2a _); have hx0 : w1.cell? ⟨w.heap.size, 0, none⟩ = some (.int .i64 26) := pw_cell_below hb' ((blk_cell (blk_new w _) 0).trans rfl); have hzf : w1.frozen? ⟨g, 2, none⟩ = false := (World.frozen?_of_block (w := w) (w' := w1) (a := ⟨g, 2, none⟩) ((below_then (below_alloc HB.out _) (by simp) hb').block g HG.out)).trans hf; have hxs : ∀ u, (w1.setCell ⟨g, 2, none⟩ u).cell? ⟨w.heap.size, 0, none⟩ = some (.int .i64 26) := fun u => (World.cell?_setCell_other w1 _ _ u (by have := HG.out; intro e; injection e with e1; omega)).trans hx0; have HB1 := zQ (below_then (below_alloc HB.out _) (by simp) hb'); clear hb') | (go_at_call 242; (with_reducible refine (hBa.out _ (by repeat (first | exact HB1.out | apply below_alloc | apply pw_below_drewN))).mono ?_); rintro e w2 ⟨rfl, ⟨m, rfl⟩⟩) | (go_at_call 243; (with_reducible refine (hN.out (v_eq (by assumption)) (by have hq : (((S.size - P.size : Nat) : Int) + (Q.size : Int) ≤ 8) := (by assumption); omega) _ (by repeat (first | exact HB1.out | apply below_alloc | apply pw_below_drewN))).mono ?_); rintro e w3 ⟨cc, rfl, hpost⟩))
 ·exact h12.out (v_ne (by assumption)) _ (by repeat (first | exact HB1.out | apply below_alloc | apply pw_below_drewN))
 ·exact h7.out (v_eq (by assumption)) (by have hq : (8 < ((S.size - P.size : Nat) : Int) + (Q.size : Int)) := (by assumption); omega) (w1.drewN m) (by repeat (first | exact HB1.out | apply below_alloc | apply pw_below_drewN))
 ·exact hpost

structure VS (w : World) (B g : Nat) (ak : Option Addr) (nk ck : Nat) (R : Int) (S : ByteArray) (v : Value) (O : List VO) : Prop where
 blk : w.heap[g]? = some (.cells #[.slice ak nk ck, .int .i64 R, .string S, v] 232 (0, 0))
 own : w.ownsRow B 243 4 v O.length (vcells O)
 ge : B ≤ g
section
variable {w w' : World} {B g : Nat} {ak : Option Addr} {nk ck : Nat} {R : Int} {S : ByteArray} {v : Value} {O : List VO}
theorem VS.lt (h : VS w B g ak nk ck R S v O) : g < w.heap.size := blk_lt h.blk
theorem VS.c0 (h : VS w B g ak nk ck R S v O) : w.cell? ⟨g, 0, none⟩ = some (.slice ak nk ck) := (blk_cell h.blk 0).trans rfl
theorem VS.c1 (h : VS w B g ak nk ck R S v O) : w.cell? ⟨g, 1, none⟩ = some (.int .i64 R) := (blk_cell h.blk 1).trans rfl
theorem VS.c2 (h : VS w B g ak nk ck R S v O) : w.cell? ⟨g, 2, none⟩ = some (.string S) := (blk_cell h.blk 2).trans rfl
theorem VS.c3 (h : VS w B g ak nk ck R S v O) : w.cell? ⟨g, 3, none⟩ = some v := (blk_cell h.blk 3).trans rfl
theorem VS.fz (h : VS w B g ak nk ck R S v O) (j : Nat) : w.frozen? ⟨g, j, none⟩ = false := blk_frozen h.blk j
theorem VS.ne (h : VS w B g ak nk ck R S v O) : some g ≠ v.ownBlock := own_ne h.own h.blk (by decide)
theorem VS.below (h : VS w B g ak nk ck R S v O) (hb : Below w.heap.size w w') : VS w' B g ak nk ck R S v O := ⟨blk_below h.blk hb, pw_own_below h.own hb, h.ge⟩
theorem VS.drewN (h : VS w B g ak nk ck R S v O) (n : Nat) : VS (w.drewN n) B g ak nk ck R S v O := ⟨h.blk, h.own, h.ge⟩
theorem VS.stack (h : VS w B g ak nk ck R S v O) (S' : ByteArray) : VS (w.setCell ⟨g, 2, none⟩ (.string S')) B g ak nk ck R S' v O := ⟨(blk_set h.blk 2 _).trans rfl, own_setCell h.own h.ne _, h.ge⟩
end
def NPost (w : World) (B g : Nat) (ak : Option Addr) (nk ck : Nat) (R : Int) (S : ByteArray) (v : Value) (r : Int × List VO) (e : Ending) (w' : World) : Prop :=
 e = .returned (.int .i64 r.1) ∧ ∃ v', VS w' B g ak nk ck R S v' r.2 ∧ VF w w' g v v'
theorem vbase {w : World} {B g : Nat} {ak : Option Addr} {nk ck : Nat} {R : Int} {S : ByteArray} {v : Value} {O : List VO} (hs : VS w B g ak nk ck R S v O) (hi : vInv S O) :
 Calls Try.prog 242 #[.pointer (some ⟨g, 0, none⟩)] w fun e w' => e = .returned (.int .i64 (vBase O)) ∧ Drawn0 w w' := by
 cases O with
 | nil =>
  obtain ⟨A, c, rfl⟩ := own_slice hs.own
  exact vbase0 w g A c hs.c3
 | cons o P =>
  obtain ⟨q, c, rfl, hq, _⟩ := hs.own.form (by simp)
  exact vbaseS w g q P.length c o.base (by have := hi.2.1; simp at this; omega) hs.c3 ((hs.own.cellAt (P.length * 4 + 1) (by simp; omega)).trans (vcells_at o P 1 (by decide)))
theorem vnest {w : World} {B g : Nat} {ak : Option Addr} {nk ck : Nat} {R : Int} {S : ByteArray} {v : Value} {O : List VO} (hs : VS w B g ak nk ck R S v O) (hB : B ≤ w.heap.size) (hi : vInv S O) (at_ op : Int) :
 Calls Try.prog 243 #[.pointer (some ⟨g, 0, none⟩), .int .i64 at_, .int .i64 op] w (NPost w B g ak nk ck R S v (vNest at_ op S O)) := by
 have same : ∀ (c : Int), (∀ e w', e = .returned (.int .i64 c) ∧ Drawn0 w w' → NPost w B g ak nk ck R S v (c, O) e w') := by
  rintro c e w' ⟨rfl, m, rfl⟩
  exact ⟨rfl, v, hs.drewN m, (VF.refl w g v).drewN m⟩
 by_cases h1 : op = 21 ∨ op = 24
 ·by_cases h4 : O.length = 4
  ·rw [show vNest at_ op S O = (17, O) from by unfold vNest; rw [if_pos h1, if_pos h4]]
   obtain ⟨A, c, rfl⟩ := own_slice hs.own
   have c3 := hs.c3
   rw [h4] at c3
   rcases h1 with rfl | rfl
   ·exact (vnest_deep21 w g c A at_ c3).mono (same 17)
   ·exact (vnest_deep24 w g c A at_ c3).mono (same 17)
  ·rw [show vNest at_ op S O = (0, ⟨at_, (S.size : Int), decide (op = 21), false⟩ :: O) from by unfold vNest; rw [if_pos h1, if_neg h4]]
   have hn : O.length < 4 := by have := hi.2.1; omega
   have fin : ∀ (b : Bool) (e : Ending) (w' : World), (e = .returned (.int .i64 0) ∧ ∃ w1 v1, w1.ownsRow B 243 4 v1 (O.length + 1) (vcells O ++ [.int .i64 at_, .int .i64 S.size, .bool b, .bool false]) ∧ w.grownBy w1 v.ownBlock ∧ (v1.ownBlock = v.ownBlock ∨ ∃ b, v1.ownBlock = some b ∧ w.heap.size ≤ b) ∧ w' = w1.setCell ⟨g, 3, none⟩ v1) → NPost w B g ak nk ck R S v (0, ⟨at_, (S.size : Int), b, false⟩ :: O) e w' := by
    rintro b e w' ⟨rfl, w1, v1, ho, hg, ha, rfl⟩
    have hb1 : w1.heap[g]? = some (.cells #[.slice ak nk ck, .int .i64 R, .string S, v] 232 (0, 0)) := blk_grown hs.blk hg hs.ne
    refine ⟨rfl, v1, ⟨(blk_set hb1 3 _).trans rfl, own_setCell ho (own_ne ho hb1 (by decide)) _, hs.ge⟩, ?_⟩
    exact (VF.of_grown hg ha).set 3 v1 v1 rfl
   obtain ⟨A, c, rfl⟩ := own_slice hs.own
   rcases h1 with rfl | rfl
   ·exact (vnest_push21 w B g O.length _ at_ S _ hn hi.1 hB hs.c2 hs.c3 (hs.fz 3) (fun e => hs.ne e.symm) ⟨A, c, rfl⟩ hs.own).mono (fin true)
   ·exact (vnest_push24 w B g O.length _ at_ S _ hn hi.1 hB hs.c2 hs.c3 (hs.fz 3) (fun e => hs.ne e.symm) ⟨A, c, rfl⟩ hs.own).mono (fin false)
 by_cases h2 : op = 22
 ·subst h2
  cases O with
  | nil =>
   obtain ⟨A, c, rfl⟩ := own_slice hs.own
   exact (vnest_none22 w g c A at_ hs.c3).mono (same 14)
  | cons o P =>
   obtain ⟨q, c, rfl, hq, _⟩ := hs.own.form (by simp)
   have hn : P.length ≤ 4 := by have := hi.2.1; simp at this; omega
   have hc := fun (j : Nat) (hj : j < 4) => (hs.own.cellAt (P.length * 4 + j) (by simp; omega)).trans (vcells_at o P j hj)
   by_cases hb : (!o.isIf || o.hasElse) = true
   ·rw [show vNest at_ 22 S (o :: P) = (14, o :: P) from by unfold vNest; rw [if_neg (by decide), if_pos rfl]; dsimp only; rw [if_pos hb]]
    exact (vnest_bad22 w g q P.length c at_ o.isIf o.hasElse hn hs.c3 (hc 2 (by decide)) (hc 3 (by decide)) hb).mono (same 14)
   ·have hb1 : o.isIf = true := by cases h : o.isIf <;> simp_all
    have hb2 : o.hasElse = false := by cases h : o.hasElse <;> simp_all
    have c2 := hc 2 (by decide)
    have c3 := hc 3 (by decide)
    simp only [VO.cells, hb1, hb2] at c2 c3
    by_cases he : (S.size : Int) = o.base
    ·rw [show vNest at_ 22 S (o :: P) = (0, { o with hasElse := true } :: P) from by unfold vNest; rw [if_neg (by decide), if_pos rfl]; dsimp only; rw [if_neg hb, if_pos he]]
     refine (vnest_else w g q P.length c at_ o.base S hn hi.1 hs.c2 hs.c3 (hc 1 (by decide)) c2 c3 (hs.own.frozenAt _) (by simpa using he)).mono ?_
     rintro e w' ⟨rfl, m, rfl⟩
     have hne : g ≠ q := fun e => hs.ne (by rw [e]; rfl)
     obtain ⟨st, sg⟩ := hs.own.stored (P.length * 4 + 3) (.bool true)
     rw [vcells_else] at st
     refine ⟨rfl, _, (⟨blk_far hs.blk hne _, st, hs.ge⟩ : VS _ B g ak nk ck R S _ ({ o with hasElse := true } :: P)).drewN m, VF.drewN ?_ m⟩
     exact VF.of_grown sg (.inl rfl)
    ·rw [show vNest at_ 22 S (o :: P) = (13, o :: P) from by unfold vNest; rw [if_neg (by decide), if_pos rfl]; dsimp only; rw [if_neg hb, if_neg he]]
     exact (vnest_st22 w g q P.length c at_ o.base S hn hi.1 hs.c2 hs.c3 (hc 1 (by decide)) c2 c3 (by simpa using he)).mono (same 13)
 by_cases h3 : op = 23
 ·subst h3
  cases O with
  | nil =>
   obtain ⟨A, c, rfl⟩ := own_slice hs.own
   exact (vnest_none23 w g c A at_ hs.c3).mono (same 14)
  | cons o P =>
   obtain ⟨q, c, rfl, hq, _⟩ := hs.own.form (by simp)
   have hn : P.length ≤ 4 := by have := hi.2.1; simp at this; omega
   have hc := fun (j : Nat) (hj : j < 4) => (hs.own.cellAt (P.length * 4 + j) (by simp; omega)).trans (vcells_at o P j hj)
   by_cases he : (S.size : Int) = o.base
   ·rw [show vNest at_ 23 S (o :: P) = (0, P) from by unfold vNest; rw [if_neg (by decide), if_neg (by decide), if_pos rfl]; dsimp only; rw [if_pos he]]
    refine (vnest_end w g q P.length c at_ o.base S hn hi.1 hs.c2 hs.c3 (hc 1 (by decide)) (hs.fz 3) (own_le hs.own) (by simpa using he)).mono ?_
    rintro e w' ⟨rfl, m, rfl⟩
    have hp : w.ownsRow B 243 4 (.slice (some ⟨q, 0, none⟩) P.length c) P.length (vcells P) := ownsRow_pop (vcells_length P) hs.own
    refine ⟨rfl, _, (⟨(blk_set hs.blk 3 _).trans rfl, own_setCell hp hs.ne _, hs.ge⟩ : VS _ B g ak nk ck R S _ P).drewN m, VF.drewN ?_ m⟩
    exact (VF.refl w g _).set 3 _ _ rfl
   ·rw [show vNest at_ 23 S (o :: P) = (13, o :: P) from by unfold vNest; rw [if_neg (by decide), if_neg (by decide), if_pos rfl]; dsimp only; rw [if_neg he]]
    exact (vnest_st23 w g q P.length c at_ o.base S hn hi.1 hs.c2 hs.c3 (hc 1 (by decide)) (by simpa using he)).mono (same 13)
 rw [show vNest at_ op S O = (0, O) from by unfold vNest; rw [if_neg h1, if_neg h2, if_neg h3]]
 exact (vnest_no w g at_ op (by simpa using fun e => h1 (.inl e)) (by simpa using fun e => h1 (.inr e)) (by simpa using h2) (by simpa using h3)).mono (same 0)

end Go.Proofs.Ytkegjmkdnfpfdaa.MFnExactNewCore
