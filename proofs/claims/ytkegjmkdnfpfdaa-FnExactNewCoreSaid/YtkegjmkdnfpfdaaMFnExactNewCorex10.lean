-- By a program of this session.
import Derived.Test.YtkegjmkdnfpfdaaMFnExactNewCorex0
namespace Go.Proofs.Ytkegjmkdnfpfdaa.MFnExactNewCore
open Go.RowKit Go.Proofs.YtkegjmkdnfpfdaaW.PrintWords Go.Proofs.YtkegjmkdnfpfdaaW.PrintLast Go.Proofs.YtkegjmkdnfpfdaaW.PrintMore
attribute [local go_sem] max2_int min2_int max_two min_two max_three min_three max_four min_four
set_option linter.unusedVariables false
set_option linter.unusedSimpArgs false
set_option maxHeartbeats 8000000
set_option maxRecDepth 100000


theorem sin_t (w : World) (op : Int) (h : 21 ≤ op ∧ op ≤ 24) : Calls Try.prog 78 #[.int .i64 op, .int .i64 21, .int .i64 24] w fun e w' => e = .returned (.bool true) ∧ w' = w := by
 obtain ⟨h1, h2⟩ := h
 go_enter Try.func78, Try.ntmps78
 go_wp2
 go_ret
 exact ⟨by first | rfl | simp [*], rfl⟩
theorem sin_f (w : World) (op : Int) (h : ¬ (21 ≤ op ∧ op ≤ 24)) : Calls Try.prog 78 #[.int .i64 op, .int .i64 21, .int .i64 24] w fun e w' => e = .returned (.bool false) ∧ w' = w := by
 by_cases h1 : 21 ≤ op
 ·have h2 : ¬ op ≤ 24 := fun e => h ⟨h1, e⟩
  clear h
  go_enter Try.func78, Try.ntmps78
  go_wp2
  go_ret
  exact ⟨by first | rfl | simp [*], rfl⟩
 ·clear h
  go_enter Try.func78, Try.ntmps78
  go_wp2
  go_ret
  exact ⟨by first | rfl | simp [*], rfl⟩

set_option maxHeartbeats 1000000 in
theorem sstep_o_err (w : World) (g nk ck : Nat) (ak : Option Addr) (R at_ op a b cc : Int) (S P Q T : ByteArray) (post : Ending → World → Prop)
 (h0 : w.cell? ⟨g, 0, none⟩ = some (.string S)) (hf : w.frozen? ⟨g, 0, none⟩ = false) (f19 : (op == 19) = false) (f20 : (op == 20) = false) (f26 : (op == 26) = false) (hQ : Q.size ≤ 1)
 (hE : Aside0 (∀ W : World, Below w.heap.size w W → Calls Try.prog 187 #[.agg #[.int .i64 op, .int .i64 a], .slice ak nk ck] W fun e w' => e = .returned (.tuple #[.string P, .string Q]) ∧ Below W.heap.size W w'))
 (hFl : Aside0 (∀ W : World, Below w.heap.size w W → Calls Try.prog 208 #[.pointer (some ⟨g, 0, none⟩)] W fun e w' => e = .returned (.int .i64 b) ∧ ∃ m, w' = W.drewN m))
 (hT : Aside0 (∀ W : World, Calls Try.prog 207 #[.string S, .string P, .int .i64 b] W fun e w' => e = .returned (.tuple #[.string T, .int .i64 cc]) ∧ w' = W))
 (hcc : (cc != 0) = true) (hK : Aside0 (∀ W : World, Below w.heap.size w W → post (.returned (.int .i64 cc)) W)) :
 Calls Try.prog 137 #[.pointer (some ⟨g, 0, none⟩), .agg #[.int .i64 op, .int .i64 a], .int .i64 at_, .slice ak nk ck, .int .i64 R] w post := by
 have HLT : Aside0 (g < w.heap.size) := ⟨World.block_lt_of_cell? w ⟨g, 0, none⟩ h0⟩
 have hff : Aside0 (∀ W, Below w.heap.size w W → W.frozen? ⟨g, 0, none⟩ = false) := ⟨fun W hb => (World.frozen?_of_block (w := w) (w' := W) (a := ⟨g, 0, none⟩) (hb.block g (World.block_lt_of_cell? w ⟨g, 0, none⟩ h0))).trans hf⟩
 go_enter Try.func137, Try.ntmps137
 go_wp2_with (first | ((with_reducible refine gate_dst (N := 6) rfl ?_); refine box_event ?hg (N := 6) ?hd (cs := #[.int .i64 op, .int .i64 a]) (t := 96) ?hr ?_; (case hd => rfl); (case hg => rfl); (case hr => first | (go_simp; done) | (go_simp; rfl)); intro gx hgx W hbx hb; have hx0 : W.cell? ⟨gx, 0, none⟩ = some (.int .i64 op) := (blk_cell hbx 0).trans rfl; have hx1 : W.cell? ⟨gx, 1, none⟩ = some (.int .i64 a) := (blk_cell hbx 1).trans rfl; replace h0 := pw_cell_below hb h0; have hfz := hff.out _ hb; have hne1 : (g = gx) = False := eq_false (by have := HLT.out; omega); have hne2 : (gx = g) = False := eq_false (by have := HLT.out; omega); have HB := zQ hb; have HX := zQ hbx; have HGX := zQ hgx; clear hb hbx hgx) | (go_at_call 187; (with_reducible refine (hE.out _ (by repeat (first | exact HB.out | apply pw_below_drewN))).mono ?_); rintro e w1 ⟨rfl, hb⟩; have hc0 := pw_cell_below hb h0; have hx0' := pw_cell_below hb hx0; have hx1' := pw_cell_below hb hx1; have hfz1 := hff.out _ (below_step HB.out hb); have hxs : ∀ u, (w1.setCell ⟨g, 0, none⟩ u).cell? ⟨gx, 0, none⟩ = some (.int .i64 op) := fun u => (World.cell?_setCell_other w1 _ _ u (by have := HGX.out; have := HLT.out; intro e; injection e with e1; omega)).trans hx0'; have hxs1 : ∀ u, (w1.setCell ⟨g, 0, none⟩ u).cell? ⟨gx, 1, none⟩ = some (.int .i64 a) := fun u => (World.cell?_setCell_other w1 _ _ u (by have := HGX.out; have := HLT.out; intro e; injection e with e1; omega)).trans hx1'; have HB1 := zQ (below_step HB.out hb); clear hb))
 go_quiet ((first | (go_at_call 208; exact Calls.quiet_of (hFl.out _ (by repeat (first | exact HB1.out | apply pw_below_drewN)))) | (go_at_call 207; exact Calls.quiet_of_same (hT.out _))))
 go_wp2
 exact hK.out _ (by repeat (first | exact HB1.out | apply pw_below_drewN))
set_option maxHeartbeats 1000000 in
theorem sstep_o_nest (w : World) (g nk ck : Nat) (ak : Option Addr) (R at_ op a b cc : Int) (S P Q T : ByteArray) (post : Ending → World → Prop)
 (h0 : w.cell? ⟨g, 0, none⟩ = some (.string S)) (hf : w.frozen? ⟨g, 0, none⟩ = false) (f19 : (op == 19) = false) (f20 : (op == 20) = false) (f26 : (op == 26) = false) (hQ : Q.size ≤ 1)
 (hE : Aside0 (∀ W : World, Below w.heap.size w W → Calls Try.prog 187 #[.agg #[.int .i64 op, .int .i64 a], .slice ak nk ck] W fun e w' => e = .returned (.tuple #[.string P, .string Q]) ∧ Below W.heap.size W w'))
 (hFl : Aside0 (∀ W : World, Below w.heap.size w W → Calls Try.prog 208 #[.pointer (some ⟨g, 0, none⟩)] W fun e w' => e = .returned (.int .i64 b) ∧ ∃ m, w' = W.drewN m))
 (hT : Aside0 (∀ W : World, Calls Try.prog 207 #[.string S, .string P, .int .i64 b] W fun e w' => e = .returned (.tuple #[.string T, .int .i64 cc]) ∧ w' = W))
 (hcc : (cc != 0) = false) (ht : T.size ≤ 8)
 (h7 : Aside0 (8 < T.size + Q.size → ∀ W : World, Below w.heap.size w W → post (.returned (.int .i64 7)) W))
 (hir : Aside0 (21 ≤ op ∧ op ≤ 24)) (hN : Aside0 (T.size + Q.size ≤ 8 → ∀ W : World, Below w.heap.size w W → Calls Try.prog 209 #[.pointer (some ⟨g, 0, none⟩), .agg #[.int .i64 op, .int .i64 a], .int .i64 at_] (W.setCell ⟨g, 0, none⟩ (.string (T ++ Q))) fun e w' => ∃ c : Int, e = .returned (.int .i64 c) ∧ post e w')) :
 Calls Try.prog 137 #[.pointer (some ⟨g, 0, none⟩), .agg #[.int .i64 op, .int .i64 a], .int .i64 at_, .slice ak nk ck, .int .i64 R] w post := by
 have HLT : Aside0 (g < w.heap.size) := ⟨World.block_lt_of_cell? w ⟨g, 0, none⟩ h0⟩
 have hff : Aside0 (∀ W, Below w.heap.size w W → W.frozen? ⟨g, 0, none⟩ = false) := ⟨fun W hb => (World.frozen?_of_block (w := w) (w' := W) (a := ⟨g, 0, none⟩) (hb.block g (World.block_lt_of_cell? w ⟨g, 0, none⟩ h0))).trans hf⟩
 go_enter Try.func137, Try.ntmps137
 go_wp2_with (first | ((with_reducible refine gate_dst (N := 6) rfl ?_); refine box_event ?hg (N := 6) ?hd (cs := #[.int .i64 op, .int .i64 a]) (t := 96) ?hr ?_; (case hd => rfl); (case hg => rfl); (case hr => first | (go_simp; done) | (go_simp; rfl)); intro gx hgx W hbx hb; have hx0 : W.cell? ⟨gx, 0, none⟩ = some (.int .i64 op) := (blk_cell hbx 0).trans rfl; have hx1 : W.cell? ⟨gx, 1, none⟩ = some (.int .i64 a) := (blk_cell hbx 1).trans rfl; replace h0 := pw_cell_below hb h0; have hfz := hff.out _ hb; have hne1 : (g = gx) = False := eq_false (by have := HLT.out; omega); have hne2 : (gx = g) = False := eq_false (by have := HLT.out; omega); have HB := zQ hb; have HX := zQ hbx; have HGX := zQ hgx; clear hb hbx hgx) | (go_at_call 187; (with_reducible refine (hE.out _ (by repeat (first | exact HB.out | apply pw_below_drewN))).mono ?_); rintro e w1 ⟨rfl, hb⟩; have hc0 := pw_cell_below hb h0; have hx0' := pw_cell_below hb hx0; have hx1' := pw_cell_below hb hx1; have hfz1 := hff.out _ (below_step HB.out hb); have hxs : ∀ u, (w1.setCell ⟨g, 0, none⟩ u).cell? ⟨gx, 0, none⟩ = some (.int .i64 op) := fun u => (World.cell?_setCell_other w1 _ _ u (by have := HGX.out; have := HLT.out; intro e; injection e with e1; omega)).trans hx0'; have hxs1 : ∀ u, (w1.setCell ⟨g, 0, none⟩ u).cell? ⟨gx, 1, none⟩ = some (.int .i64 a) := fun u => (World.cell?_setCell_other w1 _ _ u (by have := HGX.out; have := HLT.out; intro e; injection e with e1; omega)).trans hx1'; have HB1 := zQ (below_step HB.out hb); clear hb))
 go_quiet ((first | (go_at_call 208; exact Calls.quiet_of (hFl.out _ (by repeat (first | exact HB1.out | apply pw_below_drewN)))) | (go_at_call 207; exact Calls.quiet_of_same (hT.out _))))
 go_wp2_with (first | (go_at_call 78; (with_reducible refine (sin_t _ _ hir.out).mono ?_); rintro e w2 ⟨rfl, rfl⟩) | (go_at_call 209; (with_reducible refine (hN.out (by have hq : (((T.size : Int) + (Q.size : Int)) ≤ 8) := (by assumption); omega) _ (by repeat (first | exact HB1.out | apply pw_below_drewN))).mono ?_); rintro e w3 ⟨c3, rfl, hp⟩))
 ·exact h7.out (by have hq : (8 < ((T.size : Int) + (Q.size : Int))) := (by assumption); omega) _ (by repeat (first | exact HB1.out | apply pw_below_drewN))
 ·exact hp
set_option maxHeartbeats 1000000 in
theorem sstep_o_flat (w : World) (g nk ck : Nat) (ak : Option Addr) (R at_ op a b cc : Int) (S P Q T : ByteArray) (post : Ending → World → Prop)
 (h0 : w.cell? ⟨g, 0, none⟩ = some (.string S)) (hf : w.frozen? ⟨g, 0, none⟩ = false) (f19 : (op == 19) = false) (f20 : (op == 20) = false) (f26 : (op == 26) = false) (hQ : Q.size ≤ 1)
 (hE : Aside0 (∀ W : World, Below w.heap.size w W → Calls Try.prog 187 #[.agg #[.int .i64 op, .int .i64 a], .slice ak nk ck] W fun e w' => e = .returned (.tuple #[.string P, .string Q]) ∧ Below W.heap.size W w'))
 (hFl : Aside0 (∀ W : World, Below w.heap.size w W → Calls Try.prog 208 #[.pointer (some ⟨g, 0, none⟩)] W fun e w' => e = .returned (.int .i64 b) ∧ ∃ m, w' = W.drewN m))
 (hT : Aside0 (∀ W : World, Calls Try.prog 207 #[.string S, .string P, .int .i64 b] W fun e w' => e = .returned (.tuple #[.string T, .int .i64 cc]) ∧ w' = W))
 (hcc : (cc != 0) = false) (ht : T.size ≤ 8)
 (h7 : Aside0 (8 < T.size + Q.size → ∀ W : World, Below w.heap.size w W → post (.returned (.int .i64 7)) W))
 (hir : Aside0 (¬ (21 ≤ op ∧ op ≤ 24))) (hZ : Aside0 (T.size + Q.size ≤ 8 → ∀ W : World, Below w.heap.size w W → post (.returned (.int .i64 0)) (W.setCell ⟨g, 0, none⟩ (.string (T ++ Q))))) :
 Calls Try.prog 137 #[.pointer (some ⟨g, 0, none⟩), .agg #[.int .i64 op, .int .i64 a], .int .i64 at_, .slice ak nk ck, .int .i64 R] w post := by
 have HLT : Aside0 (g < w.heap.size) := ⟨World.block_lt_of_cell? w ⟨g, 0, none⟩ h0⟩
 have hff : Aside0 (∀ W, Below w.heap.size w W → W.frozen? ⟨g, 0, none⟩ = false) := ⟨fun W hb => (World.frozen?_of_block (w := w) (w' := W) (a := ⟨g, 0, none⟩) (hb.block g (World.block_lt_of_cell? w ⟨g, 0, none⟩ h0))).trans hf⟩
 go_enter Try.func137, Try.ntmps137
 go_wp2_with (first | ((with_reducible refine gate_dst (N := 6) rfl ?_); refine box_event ?hg (N := 6) ?hd (cs := #[.int .i64 op, .int .i64 a]) (t := 96) ?hr ?_; (case hd => rfl); (case hg => rfl); (case hr => first | (go_simp; done) | (go_simp; rfl)); intro gx hgx W hbx hb; have hx0 : W.cell? ⟨gx, 0, none⟩ = some (.int .i64 op) := (blk_cell hbx 0).trans rfl; have hx1 : W.cell? ⟨gx, 1, none⟩ = some (.int .i64 a) := (blk_cell hbx 1).trans rfl; replace h0 := pw_cell_below hb h0; have hfz := hff.out _ hb; have hne1 : (g = gx) = False := eq_false (by have := HLT.out; omega); have hne2 : (gx = g) = False := eq_false (by have := HLT.out; omega); have HB := zQ hb; have HX := zQ hbx; have HGX := zQ hgx; clear hb hbx hgx) | (go_at_call 187; (with_reducible refine (hE.out _ (by repeat (first | exact HB.out | apply pw_below_drewN))).mono ?_); rintro e w1 ⟨rfl, hb⟩; have hc0 := pw_cell_below hb h0; have hx0' := pw_cell_below hb hx0; have hx1' := pw_cell_below hb hx1; have hfz1 := hff.out _ (below_step HB.out hb); have hxs : ∀ u, (w1.setCell ⟨g, 0, none⟩ u).cell? ⟨gx, 0, none⟩ = some (.int .i64 op) := fun u => (World.cell?_setCell_other w1 _ _ u (by have := HGX.out; have := HLT.out; intro e; injection e with e1; omega)).trans hx0'; have hxs1 : ∀ u, (w1.setCell ⟨g, 0, none⟩ u).cell? ⟨gx, 1, none⟩ = some (.int .i64 a) := fun u => (World.cell?_setCell_other w1 _ _ u (by have := HGX.out; have := HLT.out; intro e; injection e with e1; omega)).trans hx1'; have HB1 := zQ (below_step HB.out hb); clear hb))
 go_quiet ((first | (go_at_call 208; exact Calls.quiet_of (hFl.out _ (by repeat (first | exact HB1.out | apply pw_below_drewN)))) | (go_at_call 207; exact Calls.quiet_of_same (hT.out _))))
 go_wp2_with (first | (go_at_call 78; (with_reducible refine (sin_f _ _ hir.out).mono ?_); rintro e w2 ⟨rfl, rfl⟩))
 ·exact h7.out (by have hq : (8 < ((T.size : Int) + (Q.size : Int))) := (by assumption); omega) _ (by repeat (first | exact HB1.out | apply pw_below_drewN))
 ·exact hZ.out (by have hq : (((T.size : Int) + (Q.size : Int)) ≤ 8) := (by assumption); omega) (w1.drewN _) (by repeat (first | exact HB1.out | apply pw_below_drewN))
set_option maxHeartbeats 1000000 in
theorem sstep_19_err (w : World) (g nk ck : Nat) (ak : Option Addr) (R at_ a b cc : Int) (S P Q T : ByteArray) (post : Ending → World → Prop)
 (h0 : w.cell? ⟨g, 0, none⟩ = some (.string S)) (hf : w.frozen? ⟨g, 0, none⟩ = false) (ga : decide (a ≥ (nk : Int)) = false) (hQ : Q.size ≤ 1)
 (hE : Aside0 (∀ W : World, Below w.heap.size w W → Calls Try.prog 187 #[.agg #[.int .i64 19, .int .i64 a], .slice ak nk ck] W fun e w' => e = .returned (.tuple #[.string P, .string Q]) ∧ Below W.heap.size W w'))
 (hFl : Aside0 (∀ W : World, Below w.heap.size w W → Calls Try.prog 208 #[.pointer (some ⟨g, 0, none⟩)] W fun e w' => e = .returned (.int .i64 b) ∧ ∃ m, w' = W.drewN m))
 (hT : Aside0 (∀ W : World, Calls Try.prog 207 #[.string S, .string P, .int .i64 b] W fun e w' => e = .returned (.tuple #[.string T, .int .i64 cc]) ∧ w' = W))
 (hcc : (cc != 0) = true) (hK : Aside0 (∀ W : World, Below w.heap.size w W → post (.returned (.int .i64 cc)) W)) :
 Calls Try.prog 137 #[.pointer (some ⟨g, 0, none⟩), .agg #[.int .i64 19, .int .i64 a], .int .i64 at_, .slice ak nk ck, .int .i64 R] w post := by
 have HLT : Aside0 (g < w.heap.size) := ⟨World.block_lt_of_cell? w ⟨g, 0, none⟩ h0⟩
 have hff : Aside0 (∀ W, Below w.heap.size w W → W.frozen? ⟨g, 0, none⟩ = false) := ⟨fun W hb => (World.frozen?_of_block (w := w) (w' := W) (a := ⟨g, 0, none⟩) (hb.block g (World.block_lt_of_cell? w ⟨g, 0, none⟩ h0))).trans hf⟩
 go_enter Try.func137, Try.ntmps137
 go_wp2_with (first | ((with_reducible refine gate_dst (N := 6) rfl ?_); refine box_event ?hg (N := 6) ?hd (cs := #[.int .i64 19, .int .i64 a]) (t := 96) ?hr ?_; (case hd => rfl); (case hg => rfl); (case hr => first | (go_simp; done) | (go_simp; rfl)); intro gx hgx W hbx hb; have hx0 : W.cell? ⟨gx, 0, none⟩ = some (.int .i64 19) := (blk_cell hbx 0).trans rfl; have hx1 : W.cell? ⟨gx, 1, none⟩ = some (.int .i64 a) := (blk_cell hbx 1).trans rfl; replace h0 := pw_cell_below hb h0; have hfz := hff.out _ hb; have hne1 : (g = gx) = False := eq_false (by have := HLT.out; omega); have hne2 : (gx = g) = False := eq_false (by have := HLT.out; omega); have HB := zQ hb; have HX := zQ hbx; have HGX := zQ hgx; clear hb hbx hgx) | (go_at_call 187; (with_reducible refine (hE.out _ (by repeat (first | exact HB.out | apply pw_below_drewN))).mono ?_); rintro e w1 ⟨rfl, hb⟩; have hc0 := pw_cell_below hb h0; have hx0' := pw_cell_below hb hx0; have hx1' := pw_cell_below hb hx1; have hfz1 := hff.out _ (below_step HB.out hb); have hxs : ∀ u, (w1.setCell ⟨g, 0, none⟩ u).cell? ⟨gx, 0, none⟩ = some (.int .i64 19) := fun u => (World.cell?_setCell_other w1 _ _ u (by have := HGX.out; have := HLT.out; intro e; injection e with e1; omega)).trans hx0'; have hxs1 : ∀ u, (w1.setCell ⟨g, 0, none⟩ u).cell? ⟨gx, 1, none⟩ = some (.int .i64 a) := fun u => (World.cell?_setCell_other w1 _ _ u (by have := HGX.out; have := HLT.out; intro e; injection e with e1; omega)).trans hx1'; have HB1 := zQ (below_step HB.out hb); clear hb))
 go_quiet ((first | (go_at_call 208; exact Calls.quiet_of (hFl.out _ (by repeat (first | exact HB1.out | apply pw_below_drewN)))) | (go_at_call 207; exact Calls.quiet_of_same (hT.out _))))
 go_wp2
 exact hK.out _ (by repeat (first | exact HB1.out | apply pw_below_drewN))
set_option maxHeartbeats 1000000 in
theorem sstep_19_flat (w : World) (g nk ck : Nat) (ak : Option Addr) (R at_ a b cc : Int) (S P Q T : ByteArray) (post : Ending → World → Prop)
 (h0 : w.cell? ⟨g, 0, none⟩ = some (.string S)) (hf : w.frozen? ⟨g, 0, none⟩ = false) (ga : decide (a ≥ (nk : Int)) = false) (hQ : Q.size ≤ 1)
 (hE : Aside0 (∀ W : World, Below w.heap.size w W → Calls Try.prog 187 #[.agg #[.int .i64 19, .int .i64 a], .slice ak nk ck] W fun e w' => e = .returned (.tuple #[.string P, .string Q]) ∧ Below W.heap.size W w'))
 (hFl : Aside0 (∀ W : World, Below w.heap.size w W → Calls Try.prog 208 #[.pointer (some ⟨g, 0, none⟩)] W fun e w' => e = .returned (.int .i64 b) ∧ ∃ m, w' = W.drewN m))
 (hT : Aside0 (∀ W : World, Calls Try.prog 207 #[.string S, .string P, .int .i64 b] W fun e w' => e = .returned (.tuple #[.string T, .int .i64 cc]) ∧ w' = W))
 (hcc : (cc != 0) = false) (ht : T.size ≤ 8)
 (h7 : Aside0 (8 < T.size + Q.size → ∀ W : World, Below w.heap.size w W → post (.returned (.int .i64 7)) W))
 (hZ : Aside0 (T.size + Q.size ≤ 8 → ∀ W : World, Below w.heap.size w W → post (.returned (.int .i64 0)) (W.setCell ⟨g, 0, none⟩ (.string (T ++ Q))))) :
 Calls Try.prog 137 #[.pointer (some ⟨g, 0, none⟩), .agg #[.int .i64 19, .int .i64 a], .int .i64 at_, .slice ak nk ck, .int .i64 R] w post := by
 have HLT : Aside0 (g < w.heap.size) := ⟨World.block_lt_of_cell? w ⟨g, 0, none⟩ h0⟩
 have hff : Aside0 (∀ W, Below w.heap.size w W → W.frozen? ⟨g, 0, none⟩ = false) := ⟨fun W hb => (World.frozen?_of_block (w := w) (w' := W) (a := ⟨g, 0, none⟩) (hb.block g (World.block_lt_of_cell? w ⟨g, 0, none⟩ h0))).trans hf⟩
 go_enter Try.func137, Try.ntmps137
 go_wp2_with (first | ((with_reducible refine gate_dst (N := 6) rfl ?_); refine box_event ?hg (N := 6) ?hd (cs := #[.int .i64 19, .int .i64 a]) (t := 96) ?hr ?_; (case hd => rfl); (case hg => rfl); (case hr => first | (go_simp; done) | (go_simp; rfl)); intro gx hgx W hbx hb; have hx0 : W.cell? ⟨gx, 0, none⟩ = some (.int .i64 19) := (blk_cell hbx 0).trans rfl; have hx1 : W.cell? ⟨gx, 1, none⟩ = some (.int .i64 a) := (blk_cell hbx 1).trans rfl; replace h0 := pw_cell_below hb h0; have hfz := hff.out _ hb; have hne1 : (g = gx) = False := eq_false (by have := HLT.out; omega); have hne2 : (gx = g) = False := eq_false (by have := HLT.out; omega); have HB := zQ hb; have HX := zQ hbx; have HGX := zQ hgx; clear hb hbx hgx) | (go_at_call 187; (with_reducible refine (hE.out _ (by repeat (first | exact HB.out | apply pw_below_drewN))).mono ?_); rintro e w1 ⟨rfl, hb⟩; have hc0 := pw_cell_below hb h0; have hx0' := pw_cell_below hb hx0; have hx1' := pw_cell_below hb hx1; have hfz1 := hff.out _ (below_step HB.out hb); have hxs : ∀ u, (w1.setCell ⟨g, 0, none⟩ u).cell? ⟨gx, 0, none⟩ = some (.int .i64 19) := fun u => (World.cell?_setCell_other w1 _ _ u (by have := HGX.out; have := HLT.out; intro e; injection e with e1; omega)).trans hx0'; have hxs1 : ∀ u, (w1.setCell ⟨g, 0, none⟩ u).cell? ⟨gx, 1, none⟩ = some (.int .i64 a) := fun u => (World.cell?_setCell_other w1 _ _ u (by have := HGX.out; have := HLT.out; intro e; injection e with e1; omega)).trans hx1'; have HB1 := zQ (below_step HB.out hb); clear hb))
 go_quiet ((first | (go_at_call 208; exact Calls.quiet_of (hFl.out _ (by repeat (first | exact HB1.out | apply pw_below_drewN)))) | (go_at_call 207; exact Calls.quiet_of_same (hT.out _))))
 go_wp2_with (first | (go_at_call 78; (with_reducible refine (sin_f _ 19 (by decide)).mono ?_); rintro e w2 ⟨rfl, rfl⟩))
 ·exact h7.out (by have hq : (8 < ((T.size : Int) + (Q.size : Int))) := (by assumption); omega) _ (by repeat (first | exact HB1.out | apply pw_below_drewN))
 ·exact hZ.out (by have hq : (((T.size : Int) + (Q.size : Int)) ≤ 8) := (by assumption); omega) (w1.drewN _) (by repeat (first | exact HB1.out | apply pw_below_drewN))
set_option maxHeartbeats 1000000 in
theorem sstep_20_err (w : World) (g nk ck : Nat) (ak : Option Addr) (R at_ a b cc : Int) (S P Q T : ByteArray) (post : Ending → World → Prop)
 (h0 : w.cell? ⟨g, 0, none⟩ = some (.string S)) (hf : w.frozen? ⟨g, 0, none⟩ = false) (ga : decide (a ≥ (nk : Int)) = false) (hQ : Q.size ≤ 1)
 (hE : Aside0 (∀ W : World, Below w.heap.size w W → Calls Try.prog 187 #[.agg #[.int .i64 20, .int .i64 a], .slice ak nk ck] W fun e w' => e = .returned (.tuple #[.string P, .string Q]) ∧ Below W.heap.size W w'))
 (hFl : Aside0 (∀ W : World, Below w.heap.size w W → Calls Try.prog 208 #[.pointer (some ⟨g, 0, none⟩)] W fun e w' => e = .returned (.int .i64 b) ∧ ∃ m, w' = W.drewN m))
 (hT : Aside0 (∀ W : World, Calls Try.prog 207 #[.string S, .string P, .int .i64 b] W fun e w' => e = .returned (.tuple #[.string T, .int .i64 cc]) ∧ w' = W))
 (hcc : (cc != 0) = true) (hK : Aside0 (∀ W : World, Below w.heap.size w W → post (.returned (.int .i64 cc)) W)) :
 Calls Try.prog 137 #[.pointer (some ⟨g, 0, none⟩), .agg #[.int .i64 20, .int .i64 a], .int .i64 at_, .slice ak nk ck, .int .i64 R] w post := by
 have HLT : Aside0 (g < w.heap.size) := ⟨World.block_lt_of_cell? w ⟨g, 0, none⟩ h0⟩
 have hff : Aside0 (∀ W, Below w.heap.size w W → W.frozen? ⟨g, 0, none⟩ = false) := ⟨fun W hb => (World.frozen?_of_block (w := w) (w' := W) (a := ⟨g, 0, none⟩) (hb.block g (World.block_lt_of_cell? w ⟨g, 0, none⟩ h0))).trans hf⟩
 go_enter Try.func137, Try.ntmps137
 go_wp2_with (first | ((with_reducible refine gate_dst (N := 6) rfl ?_); refine box_event ?hg (N := 6) ?hd (cs := #[.int .i64 20, .int .i64 a]) (t := 96) ?hr ?_; (case hd => rfl); (case hg => rfl); (case hr => first | (go_simp; done) | (go_simp; rfl)); intro gx hgx W hbx hb; have hx0 : W.cell? ⟨gx, 0, none⟩ = some (.int .i64 20) := (blk_cell hbx 0).trans rfl; have hx1 : W.cell? ⟨gx, 1, none⟩ = some (.int .i64 a) := (blk_cell hbx 1).trans rfl; replace h0 := pw_cell_below hb h0; have hfz := hff.out _ hb; have hne1 : (g = gx) = False := eq_false (by have := HLT.out; omega); have hne2 : (gx = g) = False := eq_false (by have := HLT.out; omega); have HB := zQ hb; have HX := zQ hbx; have HGX := zQ hgx; clear hb hbx hgx) | (go_at_call 187; (with_reducible refine (hE.out _ (by repeat (first | exact HB.out | apply pw_below_drewN))).mono ?_); rintro e w1 ⟨rfl, hb⟩; have hc0 := pw_cell_below hb h0; have hx0' := pw_cell_below hb hx0; have hx1' := pw_cell_below hb hx1; have hfz1 := hff.out _ (below_step HB.out hb); have hxs : ∀ u, (w1.setCell ⟨g, 0, none⟩ u).cell? ⟨gx, 0, none⟩ = some (.int .i64 20) := fun u => (World.cell?_setCell_other w1 _ _ u (by have := HGX.out; have := HLT.out; intro e; injection e with e1; omega)).trans hx0'; have hxs1 : ∀ u, (w1.setCell ⟨g, 0, none⟩ u).cell? ⟨gx, 1, none⟩ = some (.int .i64 a) := fun u => (World.cell?_setCell_other w1 _ _ u (by have := HGX.out; have := HLT.out; intro e; injection e with e1; omega)).trans hx1'; have HB1 := zQ (below_step HB.out hb); clear hb))
 go_quiet ((first | (go_at_call 208; exact Calls.quiet_of (hFl.out _ (by repeat (first | exact HB1.out | apply pw_below_drewN)))) | (go_at_call 207; exact Calls.quiet_of_same (hT.out _))))
 go_wp2
 exact hK.out _ (by repeat (first | exact HB1.out | apply pw_below_drewN))
set_option maxHeartbeats 1000000 in
theorem sstep_20_flat (w : World) (g nk ck : Nat) (ak : Option Addr) (R at_ a b cc : Int) (S P Q T : ByteArray) (post : Ending → World → Prop)
 (h0 : w.cell? ⟨g, 0, none⟩ = some (.string S)) (hf : w.frozen? ⟨g, 0, none⟩ = false) (ga : decide (a ≥ (nk : Int)) = false) (hQ : Q.size ≤ 1)
 (hE : Aside0 (∀ W : World, Below w.heap.size w W → Calls Try.prog 187 #[.agg #[.int .i64 20, .int .i64 a], .slice ak nk ck] W fun e w' => e = .returned (.tuple #[.string P, .string Q]) ∧ Below W.heap.size W w'))
 (hFl : Aside0 (∀ W : World, Below w.heap.size w W → Calls Try.prog 208 #[.pointer (some ⟨g, 0, none⟩)] W fun e w' => e = .returned (.int .i64 b) ∧ ∃ m, w' = W.drewN m))
 (hT : Aside0 (∀ W : World, Calls Try.prog 207 #[.string S, .string P, .int .i64 b] W fun e w' => e = .returned (.tuple #[.string T, .int .i64 cc]) ∧ w' = W))
 (hcc : (cc != 0) = false) (ht : T.size ≤ 8)
 (h7 : Aside0 (8 < T.size + Q.size → ∀ W : World, Below w.heap.size w W → post (.returned (.int .i64 7)) W))
 (hZ : Aside0 (T.size + Q.size ≤ 8 → ∀ W : World, Below w.heap.size w W → post (.returned (.int .i64 0)) (W.setCell ⟨g, 0, none⟩ (.string (T ++ Q))))) :
 Calls Try.prog 137 #[.pointer (some ⟨g, 0, none⟩), .agg #[.int .i64 20, .int .i64 a], .int .i64 at_, .slice ak nk ck, .int .i64 R] w post := by
 have HLT : Aside0 (g < w.heap.size) := ⟨World.block_lt_of_cell? w ⟨g, 0, none⟩ h0⟩
 have hff : Aside0 (∀ W, Below w.heap.size w W → W.frozen? ⟨g, 0, none⟩ = false) := ⟨fun W hb => (World.frozen?_of_block (w := w) (w' := W) (a := ⟨g, 0, none⟩) (hb.block g (World.block_lt_of_cell? w ⟨g, 0, none⟩ h0))).trans hf⟩
 go_enter Try.func137, Try.ntmps137
 go_wp2_with (first | ((with_reducible refine gate_dst (N := 6) rfl ?_); refine box_event ?hg (N := 6) ?hd (cs := #[.int .i64 20, .int .i64 a]) (t := 96) ?hr ?_; (case hd => rfl); (case hg => rfl); (case hr => first | (go_simp; done) | (go_simp; rfl)); intro gx hgx W hbx hb; have hx0 : W.cell? ⟨gx, 0, none⟩ = some (.int .i64 20) := (blk_cell hbx 0).trans rfl; have hx1 : W.cell? ⟨gx, 1, none⟩ = some (.int .i64 a) := (blk_cell hbx 1).trans rfl; replace h0 := pw_cell_below hb h0; have hfz := hff.out _ hb; have hne1 : (g = gx) = False := eq_false (by have := HLT.out; omega); have hne2 : (gx = g) = False := eq_false (by have := HLT.out; omega); have HB := zQ hb; have HX := zQ hbx; have HGX := zQ hgx; clear hb hbx hgx) | (go_at_call 187; (with_reducible refine (hE.out _ (by repeat (first | exact HB.out | apply pw_below_drewN))).mono ?_); rintro e w1 ⟨rfl, hb⟩; have hc0 := pw_cell_below hb h0; have hx0' := pw_cell_below hb hx0; have hx1' := pw_cell_below hb hx1; have hfz1 := hff.out _ (below_step HB.out hb); have hxs : ∀ u, (w1.setCell ⟨g, 0, none⟩ u).cell? ⟨gx, 0, none⟩ = some (.int .i64 20) := fun u => (World.cell?_setCell_other w1 _ _ u (by have := HGX.out; have := HLT.out; intro e; injection e with e1; omega)).trans hx0'; have hxs1 : ∀ u, (w1.setCell ⟨g, 0, none⟩ u).cell? ⟨gx, 1, none⟩ = some (.int .i64 a) := fun u => (World.cell?_setCell_other w1 _ _ u (by have := HGX.out; have := HLT.out; intro e; injection e with e1; omega)).trans hx1'; have HB1 := zQ (below_step HB.out hb); clear hb))
 go_quiet ((first | (go_at_call 208; exact Calls.quiet_of (hFl.out _ (by repeat (first | exact HB1.out | apply pw_below_drewN)))) | (go_at_call 207; exact Calls.quiet_of_same (hT.out _))))
 go_wp2_with (first | (go_at_call 78; (with_reducible refine (sin_f _ 20 (by decide)).mono ?_); rintro e w2 ⟨rfl, rfl⟩))
 ·exact h7.out (by have hq : (8 < ((T.size : Int) + (Q.size : Int))) := (by assumption); omega) _ (by repeat (first | exact HB1.out | apply pw_below_drewN))
 ·exact hZ.out (by have hq : (((T.size : Int) + (Q.size : Int)) ≤ 8) := (by assumption); omega) (w1.drewN _) (by repeat (first | exact HB1.out | apply pw_below_drewN))
set_option maxHeartbeats 1000000 in
theorem sstep_26_err (w : World) (g nk ck : Nat) (ak : Option Addr) (R at_ a b cc : Int) (S P Q T : ByteArray) (post : Ending → World → Prop)
 (h0 : w.cell? ⟨g, 0, none⟩ = some (.string S)) (hf : w.frozen? ⟨g, 0, none⟩ = false) (gr : decide (a ≥ R) = false) (hQ : Q.size ≤ 1)
 (hE : Aside0 (∀ W : World, Below w.heap.size w W → Calls Try.prog 187 #[.agg #[.int .i64 26, .int .i64 a], .slice ak nk ck] W fun e w' => e = .returned (.tuple #[.string P, .string Q]) ∧ Below W.heap.size W w'))
 (hFl : Aside0 (∀ W : World, Below w.heap.size w W → Calls Try.prog 208 #[.pointer (some ⟨g, 0, none⟩)] W fun e w' => e = .returned (.int .i64 b) ∧ ∃ m, w' = W.drewN m))
 (hT : Aside0 (∀ W : World, Calls Try.prog 207 #[.string S, .string P, .int .i64 b] W fun e w' => e = .returned (.tuple #[.string T, .int .i64 cc]) ∧ w' = W))
 (hcc : (cc != 0) = true) (hK : Aside0 (∀ W : World, Below w.heap.size w W → post (.returned (.int .i64 cc)) W)) :
 Calls Try.prog 137 #[.pointer (some ⟨g, 0, none⟩), .agg #[.int .i64 26, .int .i64 a], .int .i64 at_, .slice ak nk ck, .int .i64 R] w post := by
 have HLT : Aside0 (g < w.heap.size) := ⟨World.block_lt_of_cell? w ⟨g, 0, none⟩ h0⟩
 have hff : Aside0 (∀ W, Below w.heap.size w W → W.frozen? ⟨g, 0, none⟩ = false) := ⟨fun W hb => (World.frozen?_of_block (w := w) (w' := W) (a := ⟨g, 0, none⟩) (hb.block g (World.block_lt_of_cell? w ⟨g, 0, none⟩ h0))).trans hf⟩
 go_enter Try.func137, Try.ntmps137
 go_wp2_with (first | ((with_reducible refine gate_dst (N := 6) rfl ?_); refine box_event ?hg (N := 6) ?hd (cs := #[.int .i64 26, .int .i64 a]) (t := 96) ?hr ?_; (case hd => rfl); (case hg => rfl); (case hr => first | (go_simp; done) | (go_simp; rfl)); intro gx hgx W hbx hb; have hx0 : W.cell? ⟨gx, 0, none⟩ = some (.int .i64 26) := (blk_cell hbx 0).trans rfl; have hx1 : W.cell? ⟨gx, 1, none⟩ = some (.int .i64 a) := (blk_cell hbx 1).trans rfl; replace h0 := pw_cell_below hb h0; have hfz := hff.out _ hb; have hne1 : (g = gx) = False := eq_false (by have := HLT.out; omega); have hne2 : (gx = g) = False := eq_false (by have := HLT.out; omega); have HB := zQ hb; have HX := zQ hbx; have HGX := zQ hgx; clear hb hbx hgx) | (go_at_call 187; (with_reducible refine (hE.out _ (by repeat (first | exact HB.out | apply pw_below_drewN))).mono ?_); rintro e w1 ⟨rfl, hb⟩; have hc0 := pw_cell_below hb h0; have hx0' := pw_cell_below hb hx0; have hx1' := pw_cell_below hb hx1; have hfz1 := hff.out _ (below_step HB.out hb); have hxs : ∀ u, (w1.setCell ⟨g, 0, none⟩ u).cell? ⟨gx, 0, none⟩ = some (.int .i64 26) := fun u => (World.cell?_setCell_other w1 _ _ u (by have := HGX.out; have := HLT.out; intro e; injection e with e1; omega)).trans hx0'; have hxs1 : ∀ u, (w1.setCell ⟨g, 0, none⟩ u).cell? ⟨gx, 1, none⟩ = some (.int .i64 a) := fun u => (World.cell?_setCell_other w1 _ _ u (by have := HGX.out; have := HLT.out; intro e; injection e with e1; omega)).trans hx1'; have HB1 := zQ (below_step HB.out hb); clear hb))
 go_quiet ((first | (go_at_call 208; exact Calls.quiet_of (hFl.out _ (by repeat (first | exact HB1.out | apply pw_below_drewN)))) | (go_at_call 207; exact Calls.quiet_of_same (hT.out _))))
 go_wp2
 exact hK.out _ (by repeat (first | exact HB1.out | apply pw_below_drewN))
set_option maxHeartbeats 1000000 in
theorem sstep_26_flat (w : World) (g nk ck : Nat) (ak : Option Addr) (R at_ a b cc : Int) (S P Q T : ByteArray) (post : Ending → World → Prop)
 (h0 : w.cell? ⟨g, 0, none⟩ = some (.string S)) (hf : w.frozen? ⟨g, 0, none⟩ = false) (gr : decide (a ≥ R) = false) (hQ : Q.size ≤ 1)
 (hE : Aside0 (∀ W : World, Below w.heap.size w W → Calls Try.prog 187 #[.agg #[.int .i64 26, .int .i64 a], .slice ak nk ck] W fun e w' => e = .returned (.tuple #[.string P, .string Q]) ∧ Below W.heap.size W w'))
 (hFl : Aside0 (∀ W : World, Below w.heap.size w W → Calls Try.prog 208 #[.pointer (some ⟨g, 0, none⟩)] W fun e w' => e = .returned (.int .i64 b) ∧ ∃ m, w' = W.drewN m))
 (hT : Aside0 (∀ W : World, Calls Try.prog 207 #[.string S, .string P, .int .i64 b] W fun e w' => e = .returned (.tuple #[.string T, .int .i64 cc]) ∧ w' = W))
 (hcc : (cc != 0) = false) (ht : T.size ≤ 8)
 (h7 : Aside0 (8 < T.size + Q.size → ∀ W : World, Below w.heap.size w W → post (.returned (.int .i64 7)) W))
 (hZ : Aside0 (T.size + Q.size ≤ 8 → ∀ W : World, Below w.heap.size w W → post (.returned (.int .i64 0)) (W.setCell ⟨g, 0, none⟩ (.string (T ++ Q))))) :
 Calls Try.prog 137 #[.pointer (some ⟨g, 0, none⟩), .agg #[.int .i64 26, .int .i64 a], .int .i64 at_, .slice ak nk ck, .int .i64 R] w post := by
 have HLT : Aside0 (g < w.heap.size) := ⟨World.block_lt_of_cell? w ⟨g, 0, none⟩ h0⟩
 have hff : Aside0 (∀ W, Below w.heap.size w W → W.frozen? ⟨g, 0, none⟩ = false) := ⟨fun W hb => (World.frozen?_of_block (w := w) (w' := W) (a := ⟨g, 0, none⟩) (hb.block g (World.block_lt_of_cell? w ⟨g, 0, none⟩ h0))).trans hf⟩
 go_enter Try.func137, Try.ntmps137
 go_wp2_with (first | ((with_reducible refine gate_dst (N := 6) rfl ?_); refine box_event ?hg (N := 6) ?hd (cs := #[.int .i64 26, .int .i64 a]) (t := 96) ?hr ?_; (case hd => rfl); (case hg => rfl); (case hr => first | (go_simp; done) | (go_simp; rfl)); intro gx hgx W hbx hb; have hx0 : W.cell? ⟨gx, 0, none⟩ = some (.int .i64 26) := (blk_cell hbx 0).trans rfl; have hx1 : W.cell? ⟨gx, 1, none⟩ = some (.int .i64 a) := (blk_cell hbx 1).trans rfl; replace h0 := pw_cell_below hb h0; have hfz := hff.out _ hb; have hne1 : (g = gx) = False := eq_false (by have := HLT.out; omega); have hne2 : (gx = g) = False := eq_false (by have := HLT.out; omega); have HB := zQ hb; have HX := zQ hbx; have HGX := zQ hgx; clear hb hbx hgx) | (go_at_call 187; (with_reducible refine (hE.out _ (by repeat (first | exact HB.out | apply pw_below_drewN))).mono ?_); rintro e w1 ⟨rfl, hb⟩; have hc0 := pw_cell_below hb h0; have hx0' := pw_cell_below hb hx0; have hx1' := pw_cell_below hb hx1; have hfz1 := hff.out _ (below_step HB.out hb); have hxs : ∀ u, (w1.setCell ⟨g, 0, none⟩ u).cell? ⟨gx, 0, none⟩ = some (.int .i64 26) := fun u => (World.cell?_setCell_other w1 _ _ u (by have := HGX.out; have := HLT.out; intro e; injection e with e1; omega)).trans hx0'; have hxs1 : ∀ u, (w1.setCell ⟨g, 0, none⟩ u).cell? ⟨gx, 1, none⟩ = some (.int .i64 a) := fun u => (World.cell?_setCell_other w1 _ _ u (by have := HGX.out; have := HLT.out; intro e; injection e with e1; omega)).trans hx1'; have HB1 := zQ (below_step HB.out hb); clear hb))
 go_quiet ((first | (go_at_call 208; exact Calls.quiet_of (hFl.out _ (by repeat (first | exact HB1.out | apply pw_below_drewN)))) | (go_at_call 207; exact Calls.quiet_of_same (hT.out _))))
 go_wp2_with (first | (go_at_call 78; (with_reducible refine (sin_f _ 26 (by decide)).mono ?_); rintro e w2 ⟨rfl, rfl⟩))
 ·exact h7.out (by have hq : (8 < ((T.size : Int) + (Q.size : Int))) := (by assumption); omega) _ (by repeat (first | exact HB1.out | apply pw_below_drewN))
 ·exact hZ.out (by have hq : (((T.size : Int) + (Q.size : Int)) ≤ 8) := (by assumption); omega) (w1.drewN _) (by repeat (first | exact HB1.out | apply pw_below_drewN))
end Go.Proofs.Ytkegjmkdnfpfdaa.MFnExactNewCore
