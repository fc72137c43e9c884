-- By a program of this session.
import Derived.Test.YtkegjmkdnfpfdaaMFnExactNewCorex0
import Derived.Test.YtkegjmkdnfpfdaaMFnExactNewCorex7
namespace Go.Proofs.Ytkegjmkdnfpfdaa.MFnExactNewCore
open Go.RowKit Go.Proofs.YtkegjmkdnfpfdaaW.PrintWords Go.Proofs.YtkegjmkdnfpfdaaW.PrintLast Go.Proofs.YtkegjmkdnfpfdaaW.PrintMore
attribute [local go_sem] max2_int min2_int max_two min_two max_three min_three max_four min_four
set_option linter.unusedVariables false
set_option linter.unusedSimpArgs false
set_option maxHeartbeats 8000000
set_option maxRecDepth 100000


structure SO where
 at_ : Int
 op : Int
 stack : ByteArray
def SO.cells (o : SO) : List Value := [.int .i64 o.at_, .int .i64 o.op, .string o.stack]
def scells : List SO → List Value
 | [] => []
 | o :: P => scells P ++ o.cells
theorem scells_length (O : List SO) : (scells O).length = O.length * 3 := by
 induction O with
 | nil => rfl
 | cons o P ih => simp [scells, ih, SO.cells]; omega
theorem scells_at (o : SO) (P : List SO) (j : Nat) (hj : j < 3) : (scells (o :: P))[P.length * 3 + j]? = o.cells[j]? := by
 rw [scells, List.getElem?_append_right (by rw [scells_length]; omega), scells_length, Nat.add_sub_cancel_left]
theorem scells_else (o : SO) (P : List SO) : (scells (o :: P)).set (P.length * 3 + 1) (.int .i64 22) = scells ({ o with op := 22 } :: P) := by
 rw [scells, List.set_append_right _ _ (by rw [scells_length]; omega), scells_length, Nat.add_sub_cancel_left]
 rfl
def sBase : List SO → Int
 | [] => 0
 | o :: _ => (o.stack.size : Int)
def sNest (at_ op : Int) (S : ByteArray) (O : List SO) : Int × List SO :=
 if op = 21 ∨ op = 24 then (if O.length = 4 then (17, O) else (0, ⟨at_, op, S⟩ :: O))
 else match O with
  | [] => (14, [])
  | o :: P => if op = 22 ∧ o.op ≠ 21 then (14, o :: P) else if S = o.stack then (if op = 22 then (0, { o with op := 22 } :: P) else (0, P)) else (13, o :: P)
def sStep (ks : List Int) (R at_ op a : Int) (S : ByteArray) (O : List SO) : Int × ByteArray × List SO :=
 if (op = 19 ∨ op = 20) ∧ (ks.length : Int) ≤ a then (5, S, O)
 else if op = 26 ∧ R ≤ a then (15, S, O)
 else if (S.size : Int) - sBase O < ((vEff ks op a).1.size : Int) then (13, S, O)
 else if S.extract (S.size - (vEff ks op a).1.size) S.size = (vEff ks op a).1 then
  (if S.size - (vEff ks op a).1.size + (vEff ks op a).2.size ≤ 8 then
   (if 21 ≤ op ∧ op ≤ 24 then ((sNest at_ op (S.extract 0 (S.size - (vEff ks op a).1.size) ++ (vEff ks op a).2) O).1, S.extract 0 (S.size - (vEff ks op a).1.size) ++ (vEff ks op a).2, (sNest at_ op (S.extract 0 (S.size - (vEff ks op a).1.size) ++ (vEff ks op a).2) O).2) else (0, S.extract 0 (S.size - (vEff ks op a).1.size) ++ (vEff ks op a).2, O))
  else (7, S, O))
 else (12, S, O)
def sInv (S : ByteArray) (O : List SO) : Prop := S.size ≤ 8 ∧ O.length ≤ 4 ∧ ∀ o ∈ O, o.stack.size ≤ 8
theorem sNest_inv {at_ op : Int} {S : ByteArray} {O : List SO} (h : sInv S O) : sInv S (sNest at_ op S O).2 := by
 obtain ⟨h1, h2, h3⟩ := h
 unfold sNest
 split
 ·split
  ·exact ⟨h1, h2, h3⟩
  ·refine ⟨h1, by simp; omega, fun o ho => ?_⟩
   rcases List.mem_cons.1 ho with rfl | ho
   ·exact h1
   ·exact h3 o ho
 ·cases O with
  | nil => exact ⟨h1, h2, h3⟩
  | cons o P =>
   dsimp only
   split
   ·exact ⟨h1, h2, h3⟩
   ·split
    ·split
     ·refine ⟨h1, by simpa using h2, fun o' ho => ?_⟩
      rcases List.mem_cons.1 ho with rfl | ho
      ·exact h3 o (by simp)
      ·exact h3 o' (by simp [ho])
     ·exact ⟨h1, (by simp at h2; omega : P.length ≤ 4), fun o' ho => h3 o' (List.mem_cons_of_mem _ ho)⟩
    ·exact ⟨h1, h2, h3⟩
theorem sBase_range {S : ByteArray} {O : List SO} (h : sInv S O) : 0 ≤ sBase O ∧ sBase O ≤ 8 := by
 cases O with
 | nil => exact ⟨Int.le_refl _, by decide⟩
 | cons o P => have := h.2.2 o (by simp); simp only [sBase]; omega
theorem sStep_inv {ks : List Int} {R at_ op a : Int} {S : ByteArray} {O : List SO} (h : sInv S O) (h0 : (sStep ks R at_ op a S O).1 = 0) : sInv (sStep ks R at_ op a S O).2.1 (sStep ks R at_ op a S O).2.2 := by
 have hz := vEff_size ks op a
 unfold sStep at h0 ⊢
 by_cases h1 : (op = 19 ∨ op = 20) ∧ (ks.length : Int) ≤ a
 ·rw [if_pos h1] at h0; exact absurd h0 (by simp)
 rw [if_neg h1] at h0 ⊢
 by_cases h2 : op = 26 ∧ R ≤ a
 ·rw [if_pos h2] at h0; exact absurd h0 (by simp)
 rw [if_neg h2] at h0 ⊢
 by_cases h3 : (S.size : Int) - sBase O < ((vEff ks op a).1.size : Int)
 ·rw [if_pos h3] at h0; exact absurd h0 (by simp)
 rw [if_neg h3] at h0 ⊢
 by_cases h4 : S.extract (S.size - (vEff ks op a).1.size) S.size = (vEff ks op a).1
 ·rw [if_pos h4] at h0 ⊢
  by_cases h5 : S.size - (vEff ks op a).1.size + (vEff ks op a).2.size ≤ 8
  ·rw [if_pos h5]
   have hi : sInv (S.extract 0 (S.size - (vEff ks op a).1.size) ++ (vEff ks op a).2) O := ⟨by rw [ByteArray.size_append, ByteArray.size_extract]; have := h.1; omega, h.2.1, h.2.2⟩
   split
   ·exact sNest_inv hi
   ·exact hi
  ·rw [if_neg h5] at h0; exact absurd h0 (by simp)
 ·rw [if_neg h4] at h0; exact absurd h0 (by simp)
theorem snest_deep21 (w : World) (g c : Nat) (A : Option Addr) (at_ a : Int) (h1 : w.cell? ⟨g, 1, none⟩ = some (.slice A 4 c)) :
 Calls Try.prog 209 #[.pointer (some ⟨g, 0, none⟩), .agg #[.int .i64 21, .int .i64 a], .int .i64 at_] w fun e w' => e = .returned (.int .i64 17) ∧ Below w.heap.size w w' := by
 have hu := Try.underlying169
 go_enter Try.func209, Try.ntmps209
 go_wp2_with (first | ((with_reducible refine gate_dst (N := 4) rfl ?_); refine box_event ?hg (N := 4) ?hd (cs := #[.int .i64 21, .int .i64 a]) (t := 96) ?hr ?_; (case hd => rfl); (case hg => rfl); (case hr => first | (go_simp; done) | (go_simp; rfl)); intro gx hgx W hbx hb; have hx0 : W.cell? ⟨gx, 0, none⟩ = some (.int .i64 21) := (blk_cell hbx 0).trans rfl; have hx1 : W.cell? ⟨gx, 1, none⟩ = some (.int .i64 a) := (blk_cell hbx 1).trans rfl; replace h1 := pw_cell_below hb h1; have HB := zQ hb; have HX := zQ hbx; have HGX := zQ hgx; clear hb hbx hgx))
 go_ret
 exact ⟨rfl, by repeat (first | exact HB.out | apply pw_below_drewN | apply below_alloc)⟩

theorem snest_deep24 (w : World) (g c : Nat) (A : Option Addr) (at_ a : Int) (h1 : w.cell? ⟨g, 1, none⟩ = some (.slice A 4 c)) :
 Calls Try.prog 209 #[.pointer (some ⟨g, 0, none⟩), .agg #[.int .i64 24, .int .i64 a], .int .i64 at_] w fun e w' => e = .returned (.int .i64 17) ∧ Below w.heap.size w w' := by
 have hu := Try.underlying169
 go_enter Try.func209, Try.ntmps209
 go_wp2_with (first | ((with_reducible refine gate_dst (N := 4) rfl ?_); refine box_event ?hg (N := 4) ?hd (cs := #[.int .i64 24, .int .i64 a]) (t := 96) ?hr ?_; (case hd => rfl); (case hg => rfl); (case hr => first | (go_simp; done) | (go_simp; rfl)); intro gx hgx W hbx hb; have hx0 : W.cell? ⟨gx, 0, none⟩ = some (.int .i64 24) := (blk_cell hbx 0).trans rfl; have hx1 : W.cell? ⟨gx, 1, none⟩ = some (.int .i64 a) := (blk_cell hbx 1).trans rfl; replace h1 := pw_cell_below hb h1; have HB := zQ hb; have HX := zQ hbx; have HGX := zQ hgx; clear hb hbx hgx))
 go_ret
 exact ⟨rfl, by repeat (first | exact HB.out | apply pw_below_drewN | apply below_alloc)⟩

theorem snest_none22 (w : World) (g c : Nat) (A : Option Addr) (at_ a : Int) (h1 : w.cell? ⟨g, 1, none⟩ = some (.slice A 0 c)) :
 Calls Try.prog 209 #[.pointer (some ⟨g, 0, none⟩), .agg #[.int .i64 22, .int .i64 a], .int .i64 at_] w fun e w' => e = .returned (.int .i64 14) ∧ Below w.heap.size w w' := by
 have hu := Try.underlying169
 go_enter Try.func209, Try.ntmps209
 go_wp2_with (first | ((with_reducible refine gate_dst (N := 4) rfl ?_); refine box_event ?hg (N := 4) ?hd (cs := #[.int .i64 22, .int .i64 a]) (t := 96) ?hr ?_; (case hd => rfl); (case hg => rfl); (case hr => first | (go_simp; done) | (go_simp; rfl)); intro gx hgx W hbx hb; have hx0 : W.cell? ⟨gx, 0, none⟩ = some (.int .i64 22) := (blk_cell hbx 0).trans rfl; have hx1 : W.cell? ⟨gx, 1, none⟩ = some (.int .i64 a) := (blk_cell hbx 1).trans rfl; replace h1 := pw_cell_below hb h1; have HB := zQ hb; have HX := zQ hbx; have HGX := zQ hgx; clear hb hbx hgx))
 go_ret
 exact ⟨rfl, by repeat (first | exact HB.out | apply pw_below_drewN | apply below_alloc)⟩

theorem snest_none23 (w : World) (g c : Nat) (A : Option Addr) (at_ a : Int) (h1 : w.cell? ⟨g, 1, none⟩ = some (.slice A 0 c)) :
 Calls Try.prog 209 #[.pointer (some ⟨g, 0, none⟩), .agg #[.int .i64 23, .int .i64 a], .int .i64 at_] w fun e w' => e = .returned (.int .i64 14) ∧ Below w.heap.size w w' := by
 have hu := Try.underlying169
 go_enter Try.func209, Try.ntmps209
 go_wp2_with (first | ((with_reducible refine gate_dst (N := 4) rfl ?_); refine box_event ?hg (N := 4) ?hd (cs := #[.int .i64 23, .int .i64 a]) (t := 96) ?hr ?_; (case hd => rfl); (case hg => rfl); (case hr => first | (go_simp; done) | (go_simp; rfl)); intro gx hgx W hbx hb; have hx0 : W.cell? ⟨gx, 0, none⟩ = some (.int .i64 23) := (blk_cell hbx 0).trans rfl; have hx1 : W.cell? ⟨gx, 1, none⟩ = some (.int .i64 a) := (blk_cell hbx 1).trans rfl; replace h1 := pw_cell_below hb h1; have HB := zQ hb; have HX := zQ hbx; have HGX := zQ hgx; clear hb hbx hgx))
 go_ret
 exact ⟨rfl, by repeat (first | exact HB.out | apply pw_below_drewN | apply below_alloc)⟩

theorem snest_bad22 (w : World) (g q n c : Nat) (at_ a op' : Int) (hn : n ≤ 4) (h1 : w.cell? ⟨g, 1, none⟩ = some (.slice (some ⟨q, 0, none⟩) (n + 1) c)) (hc1 : w.cell? ⟨q, n * 3 + 1, none⟩ = some (.int .i64 op')) (hb : (op' != 21) = true) :
 Calls Try.prog 209 #[.pointer (some ⟨g, 0, none⟩), .agg #[.int .i64 22, .int .i64 a], .int .i64 at_] w fun e w' => e = .returned (.int .i64 14) ∧ Below w.heap.size w w' := by
 have hu := Try.underlying169
 go_enter Try.func209, Try.ntmps209
 go_wp2_with (first | ((with_reducible refine gate_dst (N := 4) rfl ?_); refine box_event ?hg (N := 4) ?hd (cs := #[.int .i64 22, .int .i64 a]) (t := 96) ?hr ?_; (case hd => rfl); (case hg => rfl); (case hr => first | (go_simp; done) | (go_simp; rfl)); intro gx hgx W hbx hb; have hx0 : W.cell? ⟨gx, 0, none⟩ = some (.int .i64 22) := (blk_cell hbx 0).trans rfl; have hx1 : W.cell? ⟨gx, 1, none⟩ = some (.int .i64 a) := (blk_cell hbx 1).trans rfl; replace h1 := pw_cell_below hb h1; replace hc1 := pw_cell_below hb hc1; have HB := zQ hb; have HX := zQ hbx; have HGX := zQ hgx; clear hb hbx hgx))
 go_ret
 exact ⟨rfl, by repeat (first | exact HB.out | apply pw_below_drewN | apply below_alloc)⟩

theorem snest_st22 (w : World) (g q n c : Nat) (at_ a : Int) (S T : ByteArray) (hn : n ≤ 4) (hs : S.size ≤ 8) (ht : T.size ≤ 8) (hS : w.cell? ⟨g, 0, none⟩ = some (.string S)) (h1 : w.cell? ⟨g, 1, none⟩ = some (.slice (some ⟨q, 0, none⟩) (n + 1) c)) (hc1 : w.cell? ⟨q, n * 3 + 1, none⟩ = some (.int .i64 21)) (hc2 : w.cell? ⟨q, n * 3 + 2, none⟩ = some (.string T)) (hb : (!S.toList == T.toList) = true) :
 Calls Try.prog 209 #[.pointer (some ⟨g, 0, none⟩), .agg #[.int .i64 22, .int .i64 a], .int .i64 at_] w fun e w' => e = .returned (.int .i64 13) ∧ Below w.heap.size w w' := by
 have hu := Try.underlying169
 go_enter Try.func209, Try.ntmps209
 go_wp2_with (first | ((with_reducible refine gate_dst (N := 4) rfl ?_); refine box_event ?hg (N := 4) ?hd (cs := #[.int .i64 22, .int .i64 a]) (t := 96) ?hr ?_; (case hd => rfl); (case hg => rfl); (case hr => first | (go_simp; done) | (go_simp; rfl)); intro gx hgx W hbx hb; have hx0 : W.cell? ⟨gx, 0, none⟩ = some (.int .i64 22) := (blk_cell hbx 0).trans rfl; have hx1 : W.cell? ⟨gx, 1, none⟩ = some (.int .i64 a) := (blk_cell hbx 1).trans rfl; replace hS := pw_cell_below hb hS; replace h1 := pw_cell_below hb h1; replace hc2 := pw_cell_below hb hc2; replace hc1 := pw_cell_below hb hc1; have HB := zQ hb; have HX := zQ hbx; have HGX := zQ hgx; clear hb hbx hgx))
 go_quiet (fail)
 go_wp2
 go_ret
 exact ⟨rfl, by repeat (first | exact HB.out | apply pw_below_drewN | apply below_alloc)⟩

theorem snest_st23 (w : World) (g q n c : Nat) (at_ a : Int) (S T : ByteArray) (hn : n ≤ 4) (hs : S.size ≤ 8) (ht : T.size ≤ 8) (hS : w.cell? ⟨g, 0, none⟩ = some (.string S)) (h1 : w.cell? ⟨g, 1, none⟩ = some (.slice (some ⟨q, 0, none⟩) (n + 1) c)) (hc2 : w.cell? ⟨q, n * 3 + 2, none⟩ = some (.string T)) (hb : (!S.toList == T.toList) = true) :
 Calls Try.prog 209 #[.pointer (some ⟨g, 0, none⟩), .agg #[.int .i64 23, .int .i64 a], .int .i64 at_] w fun e w' => e = .returned (.int .i64 13) ∧ Below w.heap.size w w' := by
 have hu := Try.underlying169
 go_enter Try.func209, Try.ntmps209
 go_wp2_with (first | ((with_reducible refine gate_dst (N := 4) rfl ?_); refine box_event ?hg (N := 4) ?hd (cs := #[.int .i64 23, .int .i64 a]) (t := 96) ?hr ?_; (case hd => rfl); (case hg => rfl); (case hr => first | (go_simp; done) | (go_simp; rfl)); intro gx hgx W hbx hb; have hx0 : W.cell? ⟨gx, 0, none⟩ = some (.int .i64 23) := (blk_cell hbx 0).trans rfl; have hx1 : W.cell? ⟨gx, 1, none⟩ = some (.int .i64 a) := (blk_cell hbx 1).trans rfl; replace hS := pw_cell_below hb hS; replace h1 := pw_cell_below hb h1; replace hc2 := pw_cell_below hb hc2; have HB := zQ hb; have HX := zQ hbx; have HGX := zQ hgx; clear hb hbx hgx))
 go_quiet (fail)
 go_wp2
 go_ret
 exact ⟨rfl, by repeat (first | exact HB.out | apply pw_below_drewN | apply below_alloc)⟩

theorem snest_else (w : World) (g q n c : Nat) (at_ a : Int) (S : ByteArray) (hn : n ≤ 4) (hs : S.size ≤ 8) (hS : w.cell? ⟨g, 0, none⟩ = some (.string S)) (h1 : w.cell? ⟨g, 1, none⟩ = some (.slice (some ⟨q, 0, none⟩) (n + 1) c)) (hc1 : w.cell? ⟨q, n * 3 + 1, none⟩ = some (.int .i64 21)) (hc2 : w.cell? ⟨q, n * 3 + 2, none⟩ = some (.string S)) (hf : w.frozen? ⟨q, n * 3 + 1, none⟩ = false) :
 Calls Try.prog 209 #[.pointer (some ⟨g, 0, none⟩), .agg #[.int .i64 22, .int .i64 a], .int .i64 at_] w fun e w' => e = .returned (.int .i64 0) ∧ ∃ W, Below w.heap.size w W ∧ w' = W.setCell ⟨q, n * 3 + 1, none⟩ (.int .i64 22) := by
 have hu := Try.underlying169
 have hff : Aside0 (∀ W, Below w.heap.size w W → W.frozen? ⟨q, n * 3 + 1, none⟩ = false) := ⟨fun W hb => (World.frozen?_of_block (w := w) (w' := W) (a := ⟨q, n * 3 + 1, none⟩) (hb.block q (World.block_lt_of_cell? w ⟨q, n * 3 + 1, none⟩ hc1))).trans hf⟩
 go_enter Try.func209, Try.ntmps209
 go_wp2_with (first | ((with_reducible refine gate_dst (N := 4) rfl ?_); refine box_event ?hg (N := 4) ?hd (cs := #[.int .i64 22, .int .i64 a]) (t := 96) ?hr ?_; (case hd => rfl); (case hg => rfl); (case hr => first | (go_simp; done) | (go_simp; rfl)); intro gx hgx W hbx hb; have hx0 : W.cell? ⟨gx, 0, none⟩ = some (.int .i64 22) := (blk_cell hbx 0).trans rfl; have hx1 : W.cell? ⟨gx, 1, none⟩ = some (.int .i64 a) := (blk_cell hbx 1).trans rfl; replace hS := pw_cell_below hb hS; replace h1 := pw_cell_below hb h1; replace hc1 := pw_cell_below hb hc1; replace hc2 := pw_cell_below hb hc2; have hfz := hff.out _ hb; have HB := zQ hb; have HX := zQ hbx; have HGX := zQ hgx; clear hb hbx hgx))
 go_quiet (fail)
 go_wp2
 go_ret
 exact ⟨rfl, _, pw_below_drewN HB.out _, rfl⟩

theorem snest_end (w : World) (g q n c : Nat) (at_ a : Int) (S : ByteArray) (hn : n ≤ 4) (hs : S.size ≤ 8) (hS : w.cell? ⟨g, 0, none⟩ = some (.string S)) (h1 : w.cell? ⟨g, 1, none⟩ = some (.slice (some ⟨q, 0, none⟩) (n + 1) c)) (hc2 : w.cell? ⟨q, n * 3 + 2, none⟩ = some (.string S)) (hf : w.frozen? ⟨g, 1, none⟩ = false) (hnc : n + 1 ≤ c) :
 Calls Try.prog 209 #[.pointer (some ⟨g, 0, none⟩), .agg #[.int .i64 23, .int .i64 a], .int .i64 at_] w fun e w' => e = .returned (.int .i64 0) ∧ ∃ W, Below w.heap.size w W ∧ w' = W.setCell ⟨g, 1, none⟩ (.slice (some ⟨q, 0, none⟩) n c) := by
 have hu := Try.underlying169
 have hff : Aside0 (∀ W, Below w.heap.size w W → W.frozen? ⟨g, 1, none⟩ = false) := ⟨fun W hb => (World.frozen?_of_block (w := w) (w' := W) (a := ⟨g, 1, none⟩) (hb.block g (World.block_lt_of_cell? w ⟨g, 1, none⟩ h1))).trans hf⟩
 go_enter Try.func209, Try.ntmps209
 go_wp2_with (first | ((with_reducible refine gate_dst (N := 4) rfl ?_); refine box_event ?hg (N := 4) ?hd (cs := #[.int .i64 23, .int .i64 a]) (t := 96) ?hr ?_; (case hd => rfl); (case hg => rfl); (case hr => first | (go_simp; done) | (go_simp; rfl)); intro gx hgx W hbx hb; have hx0 : W.cell? ⟨gx, 0, none⟩ = some (.int .i64 23) := (blk_cell hbx 0).trans rfl; have hx1 : W.cell? ⟨gx, 1, none⟩ = some (.int .i64 a) := (blk_cell hbx 1).trans rfl; replace hS := pw_cell_below hb hS; replace h1 := pw_cell_below hb h1; replace hc2 := pw_cell_below hb hc2; have hfz := hff.out _ hb; have HB := zQ hb; have HX := zQ hbx; have HGX := zQ hgx; clear hb hbx hgx))
 go_quiet (fail)
 go_wp2
 go_ret
 exact ⟨rfl, _, pw_below_drewN HB.out _, rfl⟩

theorem sinfo : (Try.prog.info? 174).map (fun i => (i.zero, i.size, i.bytes)) = some (some (.agg #[.int .i64 0, .int .i64 0, .string ⟨#[]⟩]), 3, 32) := by kernel_rfl
set_option maxHeartbeats 4000000 in
theorem snest_push21 (w : World) (B g n : Nat) (v : Value) (at_ a : Int) (S : ByteArray) (xs : List Value) (hn : n < 4) (hs : S.size ≤ 8) (hB : B ≤ w.heap.size) (hS : w.cell? ⟨g, 0, none⟩ = some (.string S)) (h1 : w.cell? ⟨g, 1, none⟩ = some v) (hf : w.frozen? ⟨g, 1, none⟩ = false) (hgv : v.ownBlock ≠ some g) (hv : ∃ A c, v = .slice A n c)
 (ho : w.ownsRow B 174 3 v n xs) :
 Calls Try.prog 209 #[.pointer (some ⟨g, 0, none⟩), .agg #[.int .i64 21, .int .i64 a], .int .i64 at_] w fun e w' => e = .returned (.int .i64 0) ∧ ∃ W w1 v1, Below w.heap.size w W ∧ w1.ownsRow B 174 3 v1 (n + 1) (xs ++ [.int .i64 at_, .int .i64 21, .string S]) ∧ W.grownBy w1 v.ownBlock ∧ (v1.ownBlock = v.ownBlock ∨ ∃ b, v1.ownBlock = some b ∧ W.heap.size ≤ b) ∧ w' = w1.setCell ⟨g, 1, none⟩ v1 := by
 have hu := Try.underlying169
 obtain ⟨A, c, rfl⟩ := hv
 have hff : Aside0 (∀ W, Below w.heap.size w W → W.frozen? ⟨g, 1, none⟩ = false) := ⟨fun W hb => (World.frozen?_of_block (w := w) (w' := W) (a := ⟨g, 1, none⟩) (hb.block g (World.block_lt_of_cell? w ⟨g, 1, none⟩ h1))).trans hf⟩
 have HO := zQ ho
 have HG := zQ hgv
 have HBB := zQ hB
 clear ho hgv hB
 go_enter Try.func209, Try.ntmps209
 go_wp2_with (first | ((with_reducible refine gate_dst (N := 4) rfl ?_); refine box_event ?hg (N := 4) ?hd (cs := #[.int .i64 21, .int .i64 a]) (t := 96) ?hr ?_; (case hd => rfl); (case hg => rfl); (case hr => first | (go_simp; done) | (go_simp; rfl)); intro gx hgx W hbx hb; have hx0 : W.cell? ⟨gx, 0, none⟩ = some (.int .i64 21) := (blk_cell hbx 0).trans rfl; have hx1 : W.cell? ⟨gx, 1, none⟩ = some (.int .i64 a) := (blk_cell hbx 1).trans rfl; replace hS := pw_cell_below hb hS; replace h1 := pw_cell_below hb h1; have hfz := hff.out _ hb; have h1a : ∀ o, (W.alloc o).cell? ⟨g, 1, none⟩ = some (.slice A n c) := fun o => (World.cell?_alloc_lt W o ⟨g, 1, none⟩ (World.block_lt_of_cell? W ⟨g, 1, none⟩ h1)).trans h1; have HO2 := zQ (pw_own_below HO.out hb); have HB := zQ hb; have HX := zQ hbx; have HGX := zQ hgx; clear hb hbx hgx))
 go_region_law (refine step_append_cells (W := W.drew) (w0 := W.drew) B (by rfl) (.tmp 27) (.tmp 36) 169 174 _ 3 32 rfl Try.underlying169 sinfo rfl (by decide) (by decide) (.slice A n c) n xs [.int .i64 at_, .int .i64 21, .string S] rfl rfl rfl (by simp [Value.oneCell']) HO2.out (Below.refl _ _) (Nat.le_trans HBB.out HB.out.size) (by omega) ?_; intro v1 w1 hown hbel hgrow hat; obtain ⟨A1, c1, rfl⟩ := own_slice hown; have z1 : w1.cell? ⟨g, 1, none⟩ = some (.slice A n c) := hgrow.cell (a := ⟨g, 1, none⟩) h1 (fun e => HG.out e.symm); have z2 : w1.frozen? ⟨g, 1, none⟩ = false := (World.frozen?_of_block (w := W.drew) (w' := w1) (a := ⟨g, 1, none⟩) (hgrow.block g (World.block_lt_of_cell? W ⟨g, 1, none⟩ h1) (fun e => HG.out e.symm))).trans hfz; have YO := zQ hown; have YG := zQ hgrow; have YA := zQ hat; clear hown hbel hgrow hat)
 all_goals
  go_wp2
  go_ret
  exact ⟨rfl, W.drew, _, _, pw_below_drewN HB.out 1, YO.out, YG.out, YA.out, rfl⟩

set_option maxHeartbeats 4000000 in
theorem snest_push24 (w : World) (B g n : Nat) (v : Value) (at_ a : Int) (S : ByteArray) (xs : List Value) (hn : n < 4) (hs : S.size ≤ 8) (hB : B ≤ w.heap.size) (hS : w.cell? ⟨g, 0, none⟩ = some (.string S)) (h1 : w.cell? ⟨g, 1, none⟩ = some v) (hf : w.frozen? ⟨g, 1, none⟩ = false) (hgv : v.ownBlock ≠ some g) (hv : ∃ A c, v = .slice A n c)
 (ho : w.ownsRow B 174 3 v n xs) :
 Calls Try.prog 209 #[.pointer (some ⟨g, 0, none⟩), .agg #[.int .i64 24, .int .i64 a], .int .i64 at_] w fun e w' => e = .returned (.int .i64 0) ∧ ∃ W w1 v1, Below w.heap.size w W ∧ w1.ownsRow B 174 3 v1 (n + 1) (xs ++ [.int .i64 at_, .int .i64 24, .string S]) ∧ W.grownBy w1 v.ownBlock ∧ (v1.ownBlock = v.ownBlock ∨ ∃ b, v1.ownBlock = some b ∧ W.heap.size ≤ b) ∧ w' = w1.setCell ⟨g, 1, none⟩ v1 := by
 have hu := Try.underlying169
 obtain ⟨A, c, rfl⟩ := hv
 have hff : Aside0 (∀ W, Below w.heap.size w W → W.frozen? ⟨g, 1, none⟩ = false) := ⟨fun W hb => (World.frozen?_of_block (w := w) (w' := W) (a := ⟨g, 1, none⟩) (hb.block g (World.block_lt_of_cell? w ⟨g, 1, none⟩ h1))).trans hf⟩
 have HO := zQ ho
 have HG := zQ hgv
 have HBB := zQ hB
 clear ho hgv hB
 go_enter Try.func209, Try.ntmps209
 go_wp2_with (first | ((with_reducible refine gate_dst (N := 4) rfl ?_); refine box_event ?hg (N := 4) ?hd (cs := #[.int .i64 24, .int .i64 a]) (t := 96) ?hr ?_; (case hd => rfl); (case hg => rfl); (case hr => first | (go_simp; done) | (go_simp; rfl)); intro gx hgx W hbx hb; have hx0 : W.cell? ⟨gx, 0, none⟩ = some (.int .i64 24) := (blk_cell hbx 0).trans rfl; have hx1 : W.cell? ⟨gx, 1, none⟩ = some (.int .i64 a) := (blk_cell hbx 1).trans rfl; replace hS := pw_cell_below hb hS; replace h1 := pw_cell_below hb h1; have hfz := hff.out _ hb; have h1a : ∀ o, (W.alloc o).cell? ⟨g, 1, none⟩ = some (.slice A n c) := fun o => (World.cell?_alloc_lt W o ⟨g, 1, none⟩ (World.block_lt_of_cell? W ⟨g, 1, none⟩ h1)).trans h1; have HO2 := zQ (pw_own_below HO.out hb); have HB := zQ hb; have HX := zQ hbx; have HGX := zQ hgx; clear hb hbx hgx))
 go_region_law (refine step_append_cells (W := W.drew) (w0 := W.drew) B (by rfl) (.tmp 27) (.tmp 36) 169 174 _ 3 32 rfl Try.underlying169 sinfo rfl (by decide) (by decide) (.slice A n c) n xs [.int .i64 at_, .int .i64 24, .string S] rfl rfl rfl (by simp [Value.oneCell']) HO2.out (Below.refl _ _) (Nat.le_trans HBB.out HB.out.size) (by omega) ?_; intro v1 w1 hown hbel hgrow hat; obtain ⟨A1, c1, rfl⟩ := own_slice hown; have z1 : w1.cell? ⟨g, 1, none⟩ = some (.slice A n c) := hgrow.cell (a := ⟨g, 1, none⟩) h1 (fun e => HG.out e.symm); have z2 : w1.frozen? ⟨g, 1, none⟩ = false := (World.frozen?_of_block (w := W.drew) (w' := w1) (a := ⟨g, 1, none⟩) (hgrow.block g (World.block_lt_of_cell? W ⟨g, 1, none⟩ h1) (fun e => HG.out e.symm))).trans hfz; have YO := zQ hown; have YG := zQ hgrow; have YA := zQ hat; clear hown hbel hgrow hat)
 all_goals
  go_wp2
  go_ret
  exact ⟨rfl, W.drew, _, _, pw_below_drewN HB.out 1, YO.out, YG.out, YA.out, rfl⟩

theorem sfloor0 (w : World) (g : Nat) (A : Option Addr) (c : Nat) (h1 : w.cell? ⟨g, 1, none⟩ = some (.slice A 0 c)) :
 Calls Try.prog 208 #[.pointer (some ⟨g, 0, none⟩)] w fun e w' => e = .returned (.int .i64 0) ∧ ∃ m, w' = w.drewN m := by
 go_enter Try.func208, Try.ntmps208
 go_wp2
 go_ret
 exact ⟨rfl, 0, rfl⟩
theorem sfloorS (w : World) (g q n c : Nat) (T : ByteArray) (hn : n ≤ 4) (ht : T.size ≤ 8) (h1 : w.cell? ⟨g, 1, none⟩ = some (.slice (some ⟨q, 0, none⟩) (n + 1) c)) (hc : w.cell? ⟨q, n * 3 + 2, none⟩ = some (.string T)) :
 Calls Try.prog 208 #[.pointer (some ⟨g, 0, none⟩)] w fun e w' => e = .returned (.int .i64 T.size) ∧ ∃ m, w' = w.drewN m := by
 have hu := Try.underlying169
 go_enter Try.func208, Try.ntmps208
 go_wp2
 go_quiet (fail)
 go_wp2
 go_ret
 exact ⟨rfl, _, rfl⟩

end Go.Proofs.Ytkegjmkdnfpfdaa.MFnExactNewCore
