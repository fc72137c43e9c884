-- Text written by a program of this session (wip/tools: the kit's printer with additions of ours).
import Derived.Test.YtjgdfbcjlebniaaMFnExactNewDatax0
import Derived.Test.YtjgdfbcjlebniaaMFnExactNewDatax7
import Derived.Test.YtjgdfbcjlebniaaMFnExactNewDatax8
namespace Go.Proofs.Ytjgdfbcjlebniaa.MFnExactNewData
open Go.RowKit Go.Proofs.YtjgdfbcjlebniaaW.PrintWords Go.Proofs.YtjgdfbcjlebniaaW.PrintLast Go.Proofs.YtjgdfbcjlebniaaW.PrintMore
attribute [local go_sem] max2_int min2_int max_two min_two max_three min_three max_four min_four   -- for this text's walks alone
set_option linter.unusedVariables false
set_option linter.unusedSimpArgs false

/-! ### impl_newData: function 66 -/
def setW (V : Nat → Value) (i : Nat) (v : Value) : Nat → Value := fun j => if j = i then v else V j
theorem setW_same (V : Nat → Value) (i : Nat) (v : Value) : setW V i v i = v := if_pos rfl
theorem setW_other (V : Nat → Value) {i j : Nat} (v : Value) (h : j ≠ i) : setW V i v j = V j := if_neg h
def mkF77 (x : Int) : S77 := ⟨x, false, 0, 0⟩
def impl_newData.f (l0 : List Int) : Option (List Int × (List (S77)) × List Bool × List Bool × List Bool × List Bool × Int) := if l0.length ≤ 1048576 then some (List.replicate 16 0, l0.map mkF77, List.replicate 8 false, List.replicate 8 false, List.replicate 8 false, List.replicate 8 false, 0) else none
/-- What holds in newData when the whole numbers' slice and n of the four bool slices are made: V 0 the first, V (j + 1) the others, cs what the box at g holds. -/
structure ND (w : World) (gb g : Nat) (n : Nat) (V : Nat → Value) (cs : Array Value) (w' : World) : Prop where
  b : Below w.heap.size w w'
  z : w'.heap[gb]? = some (.cells #[.slice none 0 0, .slice none 0 0, .slice none 0 0, .slice none 0 0, .slice none 0 0, .slice none 0 0, .int .i64 0] 31 (0, 0))
  c : w'.heap[g]? = some (.cells cs 31 (0, 0))
  ge : w.heap.size ≤ g
  ge2 : w.heap.size ≤ gb
  ne : gb ≠ g
  r0 : Kd.R (Kd.int .i64) 3 w' w.heap.size (fun _ => True) (V 0) (List.replicate 16 0)
  rb : ∀ j, j < n → Kd.R Kd.bool 4 w' w.heap.size (fun _ => True) (V (j + 1)) (List.replicate 8 false)
  d : ∀ i j, i < n → j < n → i ≠ j → ∀ k, (V (i + 1)).ownBlock = some k → some k ≠ (V (j + 1)).ownBlock
section
variable {w w' w1 : World} {gb g n : Nat} {V : Nat → Value} {cs : Array Value} {v : Value}
theorem ND.set (h : ND w gb g n V cs w') (j : Nat) (u : Value) : ND w gb g n V (cs.setIfInBounds j u) (w'.setCell ⟨g, j, none⟩ u) where
  b := below_set h.b h.ge
  z := blk_far h.z h.ne _
  c := (blk_set h.c j u).trans rfl
  ge := h.ge
  ge2 := h.ge2
  ne := h.ne
  r0 := Kd.R_set h.r0 h.c (by decide) j u
  rb := fun i hi => Kd.R_set (h.rb i hi) h.c (by decide) j u
  d := h.d
theorem ND.below (h : ND w gb g n V cs w') (hb : Below w'.heap.size w' w1) : ND w gb g n V cs w1 where
  b := below_step h.b hb
  z := blk_below h.z hb
  c := blk_below h.c hb
  ge := h.ge
  ge2 := h.ge2
  ne := h.ne
  r0 := Kd.R_below h.r0 hb
  rb := fun i hi => Kd.R_below (h.rb i hi) hb
  d := h.d
theorem ND.made (h : ND w gb g n V cs w') (hb : Below w'.heap.size w' w1) (ho : Kd.R Kd.bool 4 w1 w'.heap.size (fun _ => True) v (List.replicate 8 false)) : ND w gb g (n + 1) (setW V (n + 1) v) cs w1 where
  b := below_step h.b hb
  z := blk_below h.z hb
  c := blk_below h.c hb
  ge := h.ge
  ge2 := h.ge2
  ne := h.ne
  r0 := by rw [setW_other V v (by omega)]; exact Kd.R_below h.r0 hb
  rb := fun i hi => by
    by_cases e : i = n
    · subst e; rw [setW_same]; exact Kd.R_lower ho h.b.size
    · rw [setW_other V v (by omega)]; exact Kd.R_below (h.rb i (by omega)) hb
  d := fun i j hi hj hij k hk => by
    by_cases e : i = n
    · subst e
      rw [setW_other V v (by omega)]
      rw [setW_same] at hk
      intro he
      have k1 := Kd.R_base ho k hk
      have k2 := Kd.R_lt (h.rb j (by omega)) k he.symm
      omega
    · rw [setW_other V v (by omega)] at hk
      by_cases e2 : j = n
      · subst e2
        rw [setW_same]
        intro he
        have k1 := Kd.R_base ho k he.symm
        have k2 := Kd.R_lt (h.rb i (by omega)) k hk
        omega
      · rw [setW_other V v (by omega)]
        exact h.d i j (by omega) (by omega) hij k hk
theorem ND.cell (h : ND w gb g n V cs w') (j : Nat) : w'.cell? ⟨g, j, none⟩ = cs[j]? := blk_cell h.c j
theorem ND.fz (h : ND w gb g n V cs w') (j : Nat) : w'.frozen? ⟨g, j, none⟩ = false := blk_frozen h.c j
end
/-- What holds in newData's second loop: u is the function blocks' slice, xs what it holds. -/
structure LD (w : World) (gb g : Nat) (v0 v2 v3 v4 v5 u : Value) (xs : List S77) (w' : World) : Prop where
  b : Below w.heap.size w w'
  z : w'.heap[gb]? = some (.cells #[.slice none 0 0, .slice none 0 0, .slice none 0 0, .slice none 0 0, .slice none 0 0, .slice none 0 0, .int .i64 0] 31 (0, 0))
  c : w'.heap[g]? = some (.cells #[v0, u, v2, v3, v4, v5, .int .i64 0] 31 (0, 0))
  ge : w.heap.size ≤ g
  ge2 : w.heap.size ≤ gb
  ne : gb ≠ g
  r0 : Kd.R (Kd.int .i64) 3 w' w.heap.size (fun _ => True) v0 (List.replicate 16 0)
  ru : Kd.R k77 77 w' w.heap.size (fun _ => True) u xs
  r2 : Kd.R Kd.bool 4 w' w.heap.size (fun k_ => some k_ ≠ v3.ownBlock ∧ some k_ ≠ v4.ownBlock ∧ some k_ ≠ v5.ownBlock) v2 (List.replicate 8 false)
  r3 : Kd.R Kd.bool 4 w' w.heap.size (fun k_ => some k_ ≠ v2.ownBlock ∧ some k_ ≠ v4.ownBlock ∧ some k_ ≠ v5.ownBlock) v3 (List.replicate 8 false)
  r4 : Kd.R Kd.bool 4 w' w.heap.size (fun k_ => some k_ ≠ v2.ownBlock ∧ some k_ ≠ v3.ownBlock ∧ some k_ ≠ v5.ownBlock) v4 (List.replicate 8 false)
  r5 : Kd.R Kd.bool 4 w' w.heap.size (fun k_ => some k_ ≠ v2.ownBlock ∧ some k_ ≠ v3.ownBlock ∧ some k_ ≠ v4.ownBlock) v5 (List.replicate 8 false)
section
variable {w w' w1 : World} {gb g : Nat} {V : Nat → Value} {v0 v2 v3 v4 v5 u u1 : Value} {xs ys : List S77}
theorem LD.start (h : ND w gb g 4 V #[V 0, .slice none 0 0, V 1, V 2, V 3, V 4, .int .i64 0] w') : LD w gb g (V 0) (V 1) (V 2) (V 3) (V 4) (.slice none 0 0) [] w' where
  b := h.b
  z := h.z
  c := h.c
  ge := h.ge
  ge2 := h.ge2
  ne := h.ne
  r0 := h.r0
  ru := Kd.R_nil _ _ _ _ _
  r2 := Kd.R_reok rfl (h.rb 0 (by decide)) (fun k hk => ⟨h.d 0 1 (by decide) (by decide) (by decide) k hk, h.d 0 2 (by decide) (by decide) (by decide) k hk, h.d 0 3 (by decide) (by decide) (by decide) k hk⟩)
  r3 := Kd.R_reok rfl (h.rb 1 (by decide)) (fun k hk => ⟨h.d 1 0 (by decide) (by decide) (by decide) k hk, h.d 1 2 (by decide) (by decide) (by decide) k hk, h.d 1 3 (by decide) (by decide) (by decide) k hk⟩)
  r4 := Kd.R_reok rfl (h.rb 2 (by decide)) (fun k hk => ⟨h.d 2 0 (by decide) (by decide) (by decide) k hk, h.d 2 1 (by decide) (by decide) (by decide) k hk, h.d 2 3 (by decide) (by decide) (by decide) k hk⟩)
  r5 := Kd.R_reok rfl (h.rb 3 (by decide)) (fun k hk => ⟨h.d 3 0 (by decide) (by decide) (by decide) k hk, h.d 3 1 (by decide) (by decide) (by decide) k hk, h.d 3 2 (by decide) (by decide) (by decide) k hk⟩)
theorem LD.push (h : LD w gb g v0 v2 v3 v4 v5 u xs w') (hb : Below w.heap.size w w1) (hg : w'.grownBy w1 u.ownBlock) (ho : Kd.R k77 77 w1 w.heap.size (fun _ => True) u1 ys) :
    w1.heap[g]? = some (.cells #[v0, u, v2, v3, v4, v5, .int .i64 0] 31 (0, 0)) ∧ LD w gb g v0 v2 v3 v4 v5 u1 ys (w1.setCell ⟨g, 1, none⟩ u1) := by
  have hc : w1.heap[g]? = some (.cells #[v0, u, v2, v3, v4, v5, .int .i64 0] 31 (0, 0)) := blk_grown h.c hg (Kd.R_ne h.ru h.c (by decide))
  have hz : w1.heap[gb]? = some (.cells #[.slice none 0 0, .slice none 0 0, .slice none 0 0, .slice none 0 0, .slice none 0 0, .slice none 0 0, .int .i64 0] 31 (0, 0)) := blk_grown h.z hg (Kd.R_ne h.ru h.z (by decide))
  refine ⟨hc, ⟨below_set hb h.ge, blk_far hz h.ne _, (blk_set hc 1 u1).trans rfl, h.ge, h.ge2, h.ne, ?_, ?_, ?_, ?_, ?_, ?_⟩⟩
  · exact Kd.R_set (Kd.R_over' h.r0 (Kd.R_typed h.ru) (by decide) hg) hc (by decide) 1 u1
  · exact Kd.R_set ho hc (by decide) 1 u1
  · exact Kd.R_set (Kd.R_over' h.r2 (Kd.R_typed h.ru) (by decide) hg) hc (by decide) 1 u1
  · exact Kd.R_set (Kd.R_over' h.r3 (Kd.R_typed h.ru) (by decide) hg) hc (by decide) 1 u1
  · exact Kd.R_set (Kd.R_over' h.r4 (Kd.R_typed h.ru) (by decide) hg) hc (by decide) 1 u1
  · exact Kd.R_set (Kd.R_over' h.r5 (Kd.R_typed h.ru) (by decide) hg) hc (by decide) 1 u1
end
/-- What goes out: the result's box at gb holds cz. -/
structure RD (w : World) (gb : Nat) (v0 v2 v3 v4 v5 u : Value) (xs : List S77) (cz : Array Value) (w' : World) : Prop where
  b : Below w.heap.size w w'
  z : w'.heap[gb]? = some (.cells cz 31 (0, 0))
  ge2 : w.heap.size ≤ gb
  r0 : Kd.R (Kd.int .i64) 3 w' w.heap.size (fun _ => True) v0 (List.replicate 16 0)
  ru : Kd.R k77 77 w' w.heap.size (fun _ => True) u xs
  r2 : Kd.R Kd.bool 4 w' w.heap.size (fun k_ => some k_ ≠ v3.ownBlock ∧ some k_ ≠ v4.ownBlock ∧ some k_ ≠ v5.ownBlock) v2 (List.replicate 8 false)
  r3 : Kd.R Kd.bool 4 w' w.heap.size (fun k_ => some k_ ≠ v2.ownBlock ∧ some k_ ≠ v4.ownBlock ∧ some k_ ≠ v5.ownBlock) v3 (List.replicate 8 false)
  r4 : Kd.R Kd.bool 4 w' w.heap.size (fun k_ => some k_ ≠ v2.ownBlock ∧ some k_ ≠ v3.ownBlock ∧ some k_ ≠ v5.ownBlock) v4 (List.replicate 8 false)
  r5 : Kd.R Kd.bool 4 w' w.heap.size (fun k_ => some k_ ≠ v2.ownBlock ∧ some k_ ≠ v3.ownBlock ∧ some k_ ≠ v4.ownBlock) v5 (List.replicate 8 false)
theorem RD.set {w w' : World} {gb : Nat} {v0 v2 v3 v4 v5 u : Value} {xs : List S77} {cz : Array Value} (h : RD w gb v0 v2 v3 v4 v5 u xs cz w') (j : Nat) (x : Value) : RD w gb v0 v2 v3 v4 v5 u xs (cz.setIfInBounds j x) (w'.setCell ⟨gb, j, none⟩ x) where
  b := below_set h.b h.ge2
  z := (blk_set h.z j x).trans rfl
  ge2 := h.ge2
  r0 := Kd.R_set h.r0 h.z (by decide) j x
  ru := Kd.R_set h.ru h.z (by decide) j x
  r2 := Kd.R_set h.r2 h.z (by decide) j x
  r3 := Kd.R_set h.r3 h.z (by decide) j x
  r4 := Kd.R_set h.r4 h.z (by decide) j x
  r5 := Kd.R_set h.r5 h.z (by decide) j x
theorem LD.out {w w' : World} {gb g : Nat} {v0 v2 v3 v4 v5 u : Value} {xs : List S77} (h : LD w gb g v0 v2 v3 v4 v5 u xs w') : RD w gb v0 v2 v3 v4 v5 u xs #[.slice none 0 0, .slice none 0 0, .slice none 0 0, .slice none 0 0, .slice none 0 0, .slice none 0 0, .int .i64 0] w' := ⟨h.b, h.z, h.ge2, h.r0, h.ru, h.r2, h.r3, h.r4, h.r5⟩

set_option maxHeartbeats 8000000 in
set_option maxRecDepth 100000 in
theorem impl_newData.calls (A0 : Option Addr) (c0 : Nat) (l0 : List Int) (r1 : List Int) (r2 : List (S77)) (r3 : List Bool) (r4 : List Bool) (r5 : List Bool) (r6 : List Bool) (r7 : Int) (w : World) (hr0 : Kd.C (Kd.int .i64) w A0 l0.length l0) (hc0 : l0.length ≤ c0) (h : impl_newData.f l0 = some (r1, r2, r3, r4, r5, r6, r7)) :
    Calls Try.prog 66 #[.slice A0 l0.length c0] w fun e w' => ∃ v0_ v1_ v2_ v3_ v4_ v5_ : Value, e = .returned (.agg #[v0_, v1_, v2_, v3_, v4_, v5_, .int .i64 r7]) ∧ Kd.R (Kd.int .i64) 3 w' w.heap.size (fun _ => True) v0_ r1 ∧ Kd.R k77 77 w' w.heap.size (fun _ => True) v1_ r2 ∧ Kd.R Kd.bool 4 w' w.heap.size (fun k_ => some k_ ≠ (v3_ : Value).ownBlock ∧ some k_ ≠ (v4_ : Value).ownBlock ∧ some k_ ≠ (v5_ : Value).ownBlock) v2_ r3 ∧ Kd.R Kd.bool 4 w' w.heap.size (fun k_ => some k_ ≠ (v2_ : Value).ownBlock ∧ some k_ ≠ (v4_ : Value).ownBlock ∧ some k_ ≠ (v5_ : Value).ownBlock) v3_ r4 ∧ Kd.R Kd.bool 4 w' w.heap.size (fun k_ => some k_ ≠ (v2_ : Value).ownBlock ∧ some k_ ≠ (v3_ : Value).ownBlock ∧ some k_ ≠ (v5_ : Value).ownBlock) v4_ r5 ∧ Kd.R Kd.bool 4 w' w.heap.size (fun k_ => some k_ ≠ (v2_ : Value).ownBlock ∧ some k_ ≠ (v3_ : Value).ownBlock ∧ some k_ ≠ (v4_ : Value).ownBlock) v5_ r6 ∧ Below w.heap.size w w' := by
  have hu31 := Try.underlying31
  have hu77 := Try.underlying77
  unfold impl_newData.f at h
  by_cases hl : l0.length ≤ 1048576
  case neg => rw [if_neg hl] at h; cases h
  rw [if_pos hl] at h
  obtain ⟨rfl, rfl, rfl, rfl, rfl, rfl, rfl⟩ : List.replicate 16 0 = r1 ∧ l0.map mkF77 = r2 ∧ List.replicate 8 false = r3 ∧ List.replicate 8 false = r4 ∧ List.replicate 8 false = r5 ∧ List.replicate 8 false = r6 ∧ (0 : Int) = r7 := by simpa using h
  clear h
  have HR0 := Aside0.mk hr0
  have HC0 := Aside0.mk hc0
  have HL := Aside0.mk hl
  clear hr0 hc0 hl
  go_enter Try.func66, Try.ntmps66
  go_wp2_with (first | ((with_reducible refine gate_dst (N := 2) rfl ?_); refine box_event ?hg (N := 2) ?hd (cs := #[.slice none 0 0, .slice none 0 0, .slice none 0 0, .slice none 0 0, .slice none 0 0, .slice none 0 0, .int .i64 0]) (t := 31) ?hr ?_; (case hd => rfl); (case hg => rfl); (case hr => first | (go_simp; done) | (go_simp; rfl)); intro gb hg w2 hbox hb; have HB := Aside0.mk hb; have BZ := Aside0.mk hbox; have GZ := Aside0.mk (show w.heap.size ≤ gb from by rw [hg]; exact Nat.le_refl _); clear hb hbox hg) | ((with_reducible refine gate_dst (N := 8) rfl ?_); refine Kd.R_make (Kd.int .i64) _ 3 rfl (N := 8) rfl 22 _ _ rfl 16 rfl rfl Try.underlying22 (.int .i64 0) 8 info3 rfl (by decide) (by omega) 0 (ok := fun _ => True) (okp := fun _ => True) rfl (fun _ hk => hk) trivial (by omega) (by omega) (Below.refl _ _) (Nat.le_refl _) ?_; intro v0 w3 ho hb _ _; (try simp only [Int.reduceToNat] at ho); have RO := Aside0.mk (Kd.R_lower ho HB.out.size); have n0_ := Aside0.mk (below_step HB.out hb); have n1_ := Aside0.mk (blk_below BZ.out hb); clear HB BZ; have HB := n0_; have BZ := n1_; clear n0_ n1_ ho hb; obtain ⟨A16, c16, ev0⟩ := Kd.R_slice RO.out; subst ev0) | ((with_reducible refine gate_dst (N := 3) rfl ?_); refine box_event ?hg (N := 3) ?hd (cs := #[.slice none 0 0, .slice none 0 0, .slice none 0 0, .slice none 0 0, .slice none 0 0, .slice none 0 0, .int .i64 0]) (t := 31) ?hr ?_; (case hd => rfl); (case hg => rfl); (case hr => first | (go_simp; done) | (go_simp; rfl)); intro g hg w4 hbox hb; have NB := Aside0.mk (show gb ≠ g from by rw [hg]; exact Nat.ne_of_lt (blk_lt BZ.out)); have ND0 := Aside0.mk (ND.mk (n := 0) (V := fun _ => .slice A16 (List.replicate 16 (0 : Int)).length c16) (below_step HB.out hb) (blk_below BZ.out hb) hbox (by rw [hg]; exact HB.out.size) GZ.out NB.out (Kd.R_below RO.out hb) (fun j hj => absurd hj (Nat.not_lt_zero _)) (fun i _ hi => absurd hi (Nat.not_lt_zero _))); clear hbox hb hg HB BZ RO; have hz0 : w4.cell? ⟨g, 0, none⟩ = some (.slice none 0 0) := (ND0.out.cell 0).trans rfl; have hz1 : w4.cell? ⟨g, 1, none⟩ = some (.slice none 0 0) := (ND0.out.cell 1).trans rfl; have hz2 : w4.cell? ⟨g, 2, none⟩ = some (.slice none 0 0) := (ND0.out.cell 2).trans rfl; have hz3 : w4.cell? ⟨g, 3, none⟩ = some (.slice none 0 0) := (ND0.out.cell 3).trans rfl; have hz4 : w4.cell? ⟨g, 4, none⟩ = some (.slice none 0 0) := (ND0.out.cell 4).trans rfl; have hz5 : w4.cell? ⟨g, 5, none⟩ = some (.slice none 0 0) := (ND0.out.cell 5).trans rfl; have hz6 : w4.cell? ⟨g, 6, none⟩ = some (.int .i64 0) := (ND0.out.cell 6).trans rfl; have hf0 := ND0.out.fz 0; have hf1 := ND0.out.fz 1; have hf2 := ND0.out.fz 2; have hf3 := ND0.out.fz 3; have hf4 := ND0.out.fz 4; have hf5 := ND0.out.fz 5; have hf6 := ND0.out.fz 6))
  have N0 : Aside0 (ND w gb g 0 (fun _ => .slice A16 16 c16) #[.slice A16 16 c16, .slice none 0 0, .slice none 0 0, .slice none 0 0, .slice none 0 0, .slice none 0 0, .int .i64 0] (((((((w4.setCell ⟨g, 0, none⟩ (.slice A16 16 c16)).setCell ⟨g, 1, none⟩ (.slice none 0 0)).setCell ⟨g, 2, none⟩ (.slice none 0 0)).setCell ⟨g, 3, none⟩ (.slice none 0 0)).setCell ⟨g, 4, none⟩ (.slice none 0 0)).setCell ⟨g, 5, none⟩ (.slice none 0 0)).setCell ⟨g, 6, none⟩ (.int .i64 0))) := ⟨((((((ND0.out.set 0 _).set 1 _).set 2 _).set 3 _).set 4 _).set 5 _).set 6 _⟩
  clear ND0 hz0 hz1 hz2 hz3 hz4 hz5 hz6 hf0 hf1 hf2 hf3 hf4 hf5 hf6
  generalize (((((((w4.setCell ⟨g, 0, none⟩ (.slice A16 16 c16)).setCell ⟨g, 1, none⟩ (.slice none 0 0)).setCell ⟨g, 2, none⟩ (.slice none 0 0)).setCell ⟨g, 3, none⟩ (.slice none 0 0)).setCell ⟨g, 4, none⟩ (.slice none 0 0)).setCell ⟨g, 5, none⟩ (.slice none 0 0)).setCell ⟨g, 6, none⟩ (.int .i64 0)) = w5 at N0 ⊢
  have i0 : ∀ w, (Instr.index 126 (.agg #[.pointer (some ⟨g, 2, none⟩), .pointer (some ⟨g, 3, none⟩), .pointer (some ⟨g, 4, none⟩), .pointer (some ⟨g, 5, none⟩)]) (.int .i64 0)).run Try.prog w = .ok (.pointer (some ⟨g, 2, none⟩)) w := fun _ => by kernel_rfl
  have i1 : ∀ w, (Instr.index 126 (.agg #[.pointer (some ⟨g, 2, none⟩), .pointer (some ⟨g, 3, none⟩), .pointer (some ⟨g, 4, none⟩), .pointer (some ⟨g, 5, none⟩)]) (.int .i64 1)).run Try.prog w = .ok (.pointer (some ⟨g, 3, none⟩)) w := fun _ => by kernel_rfl
  have i2 : ∀ w, (Instr.index 126 (.agg #[.pointer (some ⟨g, 2, none⟩), .pointer (some ⟨g, 3, none⟩), .pointer (some ⟨g, 4, none⟩), .pointer (some ⟨g, 5, none⟩)]) (.int .i64 2)).run Try.prog w = .ok (.pointer (some ⟨g, 4, none⟩)) w := fun _ => by kernel_rfl
  have i3 : ∀ w, (Instr.index 126 (.agg #[.pointer (some ⟨g, 2, none⟩), .pointer (some ⟨g, 3, none⟩), .pointer (some ⟨g, 4, none⟩), .pointer (some ⟨g, 5, none⟩)]) (.int .i64 3)).run Try.prog w = .ok (.pointer (some ⟨g, 5, none⟩)) w := fun _ => by kernel_rfl
  refine wp_loop_rounds 5 ?_
  rw [rounds_succ]
  go_wp2_with (first | ((with_reducible refine gate_dst (N := 19) rfl ?_); refine Kd.R_make Kd.bool _ 4 rfl (N := 19) rfl 24 _ _ rfl 8 rfl rfl Try.underlying24 (.bool false) 1 info4 rfl (by decide) (by omega) false (ok := fun _ => True) (okp := fun _ => True) rfl (fun _ hk => hk) trivial (by omega) (by omega) (Below.refl _ _) (Nat.le_refl _) ?_; intro v2 u0 ho hb _ _; (try simp only [Int.reduceToNat] at ho); obtain ⟨B2, d2, ev⟩ := Kd.R_slice ho; rw [List.length_replicate] at ev; subst ev; have M0 := Aside0.mk (ND.made N0.out hb ho); clear N0 ho hb; have hz0 : u0.cell? ⟨g, 2, none⟩ = some (.slice none 0 0) := (M0.out.cell 2).trans rfl; have hf0 := M0.out.fz 2))
  have N1 : Aside0 (ND w gb g 1 (setW (fun _ => .slice A16 16 c16) 1 (.slice B2 8 d2)) #[.slice A16 16 c16, .slice none 0 0, .slice B2 8 d2, .slice none 0 0, .slice none 0 0, .slice none 0 0, .int .i64 0] (u0.setCell ⟨g, 2, none⟩ (.slice B2 8 d2))) := ⟨M0.out.set 2 _⟩
  clear M0 hz0 hf0
  generalize (u0.setCell ⟨g, 2, none⟩ (.slice B2 8 d2)) = w6 at N1 ⊢
  rw [rounds_succ]
  go_wp2_with (first | ((with_reducible refine gate_dst (N := 19) rfl ?_); refine Kd.R_make Kd.bool _ 4 rfl (N := 19) rfl 24 _ _ rfl 8 rfl rfl Try.underlying24 (.bool false) 1 info4 rfl (by decide) (by omega) false (ok := fun _ => True) (okp := fun _ => True) rfl (fun _ hk => hk) trivial (by omega) (by omega) (Below.refl _ _) (Nat.le_refl _) ?_; intro v3 u1 ho hb _ _; (try simp only [Int.reduceToNat] at ho); obtain ⟨B3, d3, ev⟩ := Kd.R_slice ho; rw [List.length_replicate] at ev; subst ev; have M1 := Aside0.mk (ND.made N1.out hb ho); clear N1 ho hb; have hz1 : u1.cell? ⟨g, 3, none⟩ = some (.slice none 0 0) := (M1.out.cell 3).trans rfl; have hf1 := M1.out.fz 3))
  have N2 : Aside0 (ND w gb g 2 (setW (setW (fun _ => .slice A16 16 c16) 1 (.slice B2 8 d2)) 2 (.slice B3 8 d3)) #[.slice A16 16 c16, .slice none 0 0, .slice B2 8 d2, .slice B3 8 d3, .slice none 0 0, .slice none 0 0, .int .i64 0] (u1.setCell ⟨g, 3, none⟩ (.slice B3 8 d3))) := ⟨M1.out.set 3 _⟩
  clear M1 hz1 hf1
  generalize (u1.setCell ⟨g, 3, none⟩ (.slice B3 8 d3)) = w7 at N2 ⊢
  rw [rounds_succ]
  go_wp2_with (first | ((with_reducible refine gate_dst (N := 19) rfl ?_); refine Kd.R_make Kd.bool _ 4 rfl (N := 19) rfl 24 _ _ rfl 8 rfl rfl Try.underlying24 (.bool false) 1 info4 rfl (by decide) (by omega) false (ok := fun _ => True) (okp := fun _ => True) rfl (fun _ hk => hk) trivial (by omega) (by omega) (Below.refl _ _) (Nat.le_refl _) ?_; intro v4 u2 ho hb _ _; (try simp only [Int.reduceToNat] at ho); obtain ⟨B4, d4, ev⟩ := Kd.R_slice ho; rw [List.length_replicate] at ev; subst ev; have M2 := Aside0.mk (ND.made N2.out hb ho); clear N2 ho hb; have hz2 : u2.cell? ⟨g, 4, none⟩ = some (.slice none 0 0) := (M2.out.cell 4).trans rfl; have hf2 := M2.out.fz 4))
  have N3 : Aside0 (ND w gb g 3 (setW (setW (setW (fun _ => .slice A16 16 c16) 1 (.slice B2 8 d2)) 2 (.slice B3 8 d3)) 3 (.slice B4 8 d4)) #[.slice A16 16 c16, .slice none 0 0, .slice B2 8 d2, .slice B3 8 d3, .slice B4 8 d4, .slice none 0 0, .int .i64 0] (u2.setCell ⟨g, 4, none⟩ (.slice B4 8 d4))) := ⟨M2.out.set 4 _⟩
  clear M2 hz2 hf2
  generalize (u2.setCell ⟨g, 4, none⟩ (.slice B4 8 d4)) = w8 at N3 ⊢
  rw [rounds_succ]
  go_wp2_with (first | ((with_reducible refine gate_dst (N := 19) rfl ?_); refine Kd.R_make Kd.bool _ 4 rfl (N := 19) rfl 24 _ _ rfl 8 rfl rfl Try.underlying24 (.bool false) 1 info4 rfl (by decide) (by omega) false (ok := fun _ => True) (okp := fun _ => True) rfl (fun _ hk => hk) trivial (by omega) (by omega) (Below.refl _ _) (Nat.le_refl _) ?_; intro v5 u3 ho hb _ _; (try simp only [Int.reduceToNat] at ho); obtain ⟨B5, d5, ev⟩ := Kd.R_slice ho; rw [List.length_replicate] at ev; subst ev; have M3 := Aside0.mk (ND.made N3.out hb ho); clear N3 ho hb; have hz3 : u3.cell? ⟨g, 5, none⟩ = some (.slice none 0 0) := (M3.out.cell 5).trans rfl; have hf3 := M3.out.fz 5))
  have N4 : Aside0 (ND w gb g 4 (setW (setW (setW (setW (fun _ => .slice A16 16 c16) 1 (.slice B2 8 d2)) 2 (.slice B3 8 d3)) 3 (.slice B4 8 d4)) 4 (.slice B5 8 d5)) #[.slice A16 16 c16, .slice none 0 0, .slice B2 8 d2, .slice B3 8 d3, .slice B4 8 d4, .slice B5 8 d5, .int .i64 0] (u3.setCell ⟨g, 5, none⟩ (.slice B5 8 d5))) := ⟨M3.out.set 5 _⟩
  clear M3 hz3 hf3
  generalize (u3.setCell ⟨g, 5, none⟩ (.slice B5 8 d5)) = w9 at N4 ⊢
  rw [rounds_succ]
  go_wp2
  have L0 : Aside0 (LD w gb g (.slice A16 16 c16) (.slice B2 8 d2) (.slice B3 8 d3) (.slice B4 8 d4) (.slice B5 8 d5) (.slice none 0 0) [] w9) := ⟨LD.start N4.out⟩
  clear N4 i0 i1 i2 i3
  go_loopg [24] (l0.length + 1) (fun kq v24 w' => ∃ (x : Nat) (Au : Option Addr) (cu : Nat), v24 = .int .i64 (x : Int) ∧ Aside0 (x ≤ l0.length ∧ kq + x = l0.length + 1) ∧ Aside0 (LD w gb g (.slice A16 16 c16) (.slice B2 8 d2) (.slice B3 8 d3) (.slice B4 8 d4) (.slice B5 8 d5) (.slice Au x cu) ((l0.take x).map mkF77) w'))
  case atStart => exact ⟨0, none, 0, rfl, ⟨Nat.zero_le _, rfl⟩, by simpa using L0⟩
  case round =>
    clear L0
    obtain ⟨x, Au, cu, rfl, HK, HD⟩ := hrel
    by_cases hx : x < l0.length
    · have hx0 : decide ((x : Int) < (l0.length : Int)) = true := decide_eq_true (by omega)
      obtain ⟨ad, ea, hxa⟩ := Kd.at_int HR0.out (x : Int) (by omega) (by omega)
      cases ea
      replace hxa := (HD.out.b.cell (World.block_lt_of_cell? w _ hxa)).trans hxa
      have hc1 := (blk_cell HD.out.c 1).trans (rfl : _ = some (Value.slice Au x cu))
      have hxb : wr.cell? (ad.add x) = some (.int .i64 (rd l0 (x : Int))) := by simpa using hxa
      have q1 : ((x : Int) < (l0.length : Int)) = True := eq_true (by omega)
      have q0 : (0 ≤ (x : Int)) = True := eq_true (by omega)
      have hmk : (l0.take (x + 1)).map mkF77 = (l0.take x).map mkF77 ++ [(⟨rd l0 (x : Int), false, 0, 0⟩ : S77)] := by
        rw [List.take_succ_eq_append_getElem hx, List.map_append]
        have e : rd l0 (x : Int) = l0[x] := by simp [rd, List.getD_eq_getElem?_getD, hx]
        rw [e]
        rfl
      have hlx : ((l0.take x).map mkF77).length = x := by simp; omega
      have HM := Aside0.mk hmk
      have HX := Aside0.mk hlx
      clear hmk hlx
      cases gk with
      | zero => exact absurd HK.out.2 (by omega)
      | succ k1 =>
        go_wp2_with (first | ((with_reducible refine gate_builtin (b := .append) (xs := #[.tmp 29, .tmp 32]) rfl ?_); at_builtin; refine Kd.R_append k77 (w0 := w) w.heap.size rfl (.tmp 29) (.tmp 32) 29 77 (.agg #[(.int .i64 0), (.bool false), (.int .i64 0), (.int .i64 0)]) 32 rfl Try.underlying29 info77 rfl (by decide) (by omega) (.slice Au x cu) ((l0.take x).map mkF77) (⟨rd l0 (x : Int), false, 0, 0⟩ : S77) [.int .i64 (rd l0 (x : Int)), .bool false, .int .i64 0, .int .i64 0] (fun _ => True) (fun _ => False) rfl rfl (k77_mkM _ _ _ (⟨rd l0 (x : Int), false, 0, 0⟩ : S77)) (fun _ hk => hk.elim) (fun _ _ => trivial) HD.out.ru HD.out.b HD.out.b.size (by have := HX.out; have := HL.out; omega) ?_; intro v1 w1 ho hb hg _; rw [← HM.out] at ho; obtain ⟨A1, c1, ev⟩ := Kd.R_slice ho; rw [show ((l0.take (x + 1)).map mkF77).length = x + 1 from by simp; omega] at ev; subst ev; obtain ⟨e1, HP⟩ := HD.out.push hb hg ho; have LP := Aside0.mk HP; clear HP; have hz1 := (blk_cell e1 1).trans (rfl : _ = some (Value.slice Au x cu)); have hf1 := blk_frozen e1 1))
        go_roundg k1
        case measure => have := HK.out.2; omega
        case rel => exact ⟨x + 1, A1, c1, by rw [show wrap64 ((x : Int) + 1) = ((x + 1 : Nat) : Int) from by have := HL.out; unfold wrap64; omega], ⟨by have := HK.out.1; omega, by have := HK.out.2; omega⟩, LP⟩
    · have hxe : x = l0.length := by have := HK.out.1; omega
      subst hxe
      have hx0 : decide ((l0.length : Int) < (l0.length : Int)) = false := decide_eq_false (by omega)
      have HD2 : Aside0 (LD w gb g (.slice A16 16 c16) (.slice B2 8 d2) (.slice B3 8 d3) (.slice B4 8 d4) (.slice B5 8 d5) (.slice Au l0.length cu) (l0.map mkF77) wr) := ⟨by have := HD.out; rwa [List.take_length] at this⟩
      clear HD hx
      have hc0 := (blk_cell HD2.out.c 0).trans (rfl : _ = some (.slice A16 16 c16 : Value))
      have hc1 := (blk_cell HD2.out.c 1).trans (rfl : _ = some (.slice Au l0.length cu : Value))
      have hc2 := (blk_cell HD2.out.c 2).trans (rfl : _ = some (.slice B2 8 d2 : Value))
      have hc3 := (blk_cell HD2.out.c 3).trans (rfl : _ = some (.slice B3 8 d3 : Value))
      have hc4 := (blk_cell HD2.out.c 4).trans (rfl : _ = some (.slice B4 8 d4 : Value))
      have hc5 := (blk_cell HD2.out.c 5).trans (rfl : _ = some (.slice B5 8 d5 : Value))
      have hc6 := (blk_cell HD2.out.c 6).trans (rfl : _ = some (.int .i64 0 : Value))
      have hy0 := (blk_cell HD2.out.z 0).trans (rfl : _ = some (.slice none 0 0 : Value))
      have hf0 := blk_frozen HD2.out.z 0
      have hy1 := (blk_cell HD2.out.z 1).trans (rfl : _ = some (.slice none 0 0 : Value))
      have hf1 := blk_frozen HD2.out.z 1
      have hy2 := (blk_cell HD2.out.z 2).trans (rfl : _ = some (.slice none 0 0 : Value))
      have hf2 := blk_frozen HD2.out.z 2
      have hy3 := (blk_cell HD2.out.z 3).trans (rfl : _ = some (.slice none 0 0 : Value))
      have hf3 := blk_frozen HD2.out.z 3
      have hy4 := (blk_cell HD2.out.z 4).trans (rfl : _ = some (.slice none 0 0 : Value))
      have hf4 := blk_frozen HD2.out.z 4
      have hy5 := (blk_cell HD2.out.z 5).trans (rfl : _ = some (.slice none 0 0 : Value))
      have hf5 := blk_frozen HD2.out.z 5
      have hy6 := (blk_cell HD2.out.z 6).trans (rfl : _ = some (.int .i64 0 : Value))
      have hf6 := blk_frozen HD2.out.z 6
      go_wp2
      have RR := ((((((HD2.out.out.set 0 (.slice A16 16 c16)).set 1 (.slice Au l0.length cu)).set 2 (.slice B2 8 d2)).set 3 (.slice B3 8 d3)).set 4 (.slice B4 8 d4)).set 5 (.slice B5 8 d5)).set 6 (.int .i64 0)
      refine bodyPost_ret (results_cell_row rfl _ _ gb 31 #[.slice A16 16 c16, .slice Au l0.length cu, .slice B2 8 d2, .slice B3 8 d3, .slice B4 8 d4, .slice B5 8 d5, .int .i64 0] (0, 0) _ rfl RR.z Try.underlying31 rfl (by kernel_rfl)) rfl ?_
      exact ⟨_, _, _, _, _, _, rfl, RR.r0, RR.ru, RR.r2, RR.r3, RR.r4, RR.r5, RR.b⟩

/-! ### impl_NewData: function 18 -/
def impl_NewData.f (k : Nat) (l0 : List Int) : Option (List Int × (List (S77)) × List Bool × List Bool × List Bool × List Bool × Int × Int) := (impl_many_int.f l0).bind fun t182 => ((impl_areKinds.f k l0).bind fun t183 => ((impl_when.f (!t183) 1).bind fun t184 => ((impl_first.f k (([t182, t184] : List Int))).bind fun t188 => (if t188 = 0 then ((impl_newData.f l0).bind fun bt189 => (some (bt189.1, bt189.2.1, bt189.2.2.1, bt189.2.2.2.1, bt189.2.2.2.2.1, bt189.2.2.2.2.2.1, bt189.2.2.2.2.2.2, 0))) else (some (([] : List Int), ([] : List (S77)), ([] : List Bool), ([] : List Bool), ([] : List Bool), ([] : List Bool), 0, t188))))))
theorem impl_NewData.mono : ∀ a0 k, LeO (impl_NewData.f k a0) (impl_NewData.f (k + 1) a0) := by
  intro a0 k
  unfold impl_NewData.f
  repeat' first
      | (with_reducible exact impl_areKinds.mono _ _)
      | (with_reducible exact impl_first.mono _ _)
      | (with_reducible exact LeO.refl _)
      | (with_reducible exact LeO.none _)
      | (with_reducible refine LeO.ite ?_ ?_)
      | (with_reducible refine LeO.bind ?_ (fun _ => ?_))
      | exact impl_areKinds.mono _ _
      | exact impl_first.mono _ _
      | exact LeO.none _
      | refine LeO.ite ?_ ?_
      | refine LeO.bind ?_ (fun _ => ?_)
set_option maxHeartbeats 8000000 in
set_option maxRecDepth 100000 in
theorem impl_NewData.calls (k : Nat) (A0 : Option Addr) (c0 : Nat) (l0 : List Int) (r1 : List Int) (r2 : List (S77)) (r3 : List Bool) (r4 : List Bool) (r5 : List Bool) (r6 : List Bool) (r7 : Int) (r8 : Int) (w : World) (hr0 : Kd.C (Kd.int .i64) w A0 l0.length l0) (hc0 : l0.length ≤ c0) (h : impl_NewData.f k l0 = some (r1, r2, r3, r4, r5, r6, r7, r8)) :
    Calls Try.prog 18 #[.slice A0 l0.length c0] w fun e w' => ∃ v0_ v1_ v2_ v3_ v4_ v5_ : Value, e = .returned (.tuple #[.agg #[v0_, v1_, v2_, v3_, v4_, v5_, .int .i64 r7], .int .i64 r8]) ∧ Kd.R (Kd.int .i64) 3 w' w.heap.size (fun _ => True) v0_ r1 ∧ Kd.R k77 77 w' w.heap.size (fun _ => True) v1_ r2 ∧ Kd.R Kd.bool 4 w' w.heap.size (fun k_ => some k_ ≠ (v3_ : Value).ownBlock ∧ some k_ ≠ (v4_ : Value).ownBlock ∧ some k_ ≠ (v5_ : Value).ownBlock) v2_ r3 ∧ Kd.R Kd.bool 4 w' w.heap.size (fun k_ => some k_ ≠ (v2_ : Value).ownBlock ∧ some k_ ≠ (v4_ : Value).ownBlock ∧ some k_ ≠ (v5_ : Value).ownBlock) v3_ r4 ∧ Kd.R Kd.bool 4 w' w.heap.size (fun k_ => some k_ ≠ (v2_ : Value).ownBlock ∧ some k_ ≠ (v3_ : Value).ownBlock ∧ some k_ ≠ (v5_ : Value).ownBlock) v4_ r5 ∧ Kd.R Kd.bool 4 w' w.heap.size (fun k_ => some k_ ≠ (v2_ : Value).ownBlock ∧ some k_ ≠ (v3_ : Value).ownBlock ∧ some k_ ≠ (v4_ : Value).ownBlock) v5_ r6 ∧ Below w.heap.size w w' := by
  have hu31 := Try.underlying31
  have HR0 := Aside0.mk hr0
  have HC0 := Aside0.mk hc0
  clear hr0 hc0
  have HB := Aside0.mk (Below.refl w.heap.size w)
  have H : ((impl_many_int.f l0).bind fun t182 => ((impl_areKinds.f k l0).bind fun t183 => ((impl_when.f (!t183) 1).bind fun t184 => ((impl_first.f k (([t182, t184] : List Int))).bind fun t188 => (if t188 = 0 then ((impl_newData.f l0).bind fun bt189 => (some (bt189.1, bt189.2.1, bt189.2.2.1, bt189.2.2.2.1, bt189.2.2.2.2.1, bt189.2.2.2.2.2.1, bt189.2.2.2.2.2.2, 0))) else (some (([] : List Int), ([] : List (S77)), ([] : List Bool), ([] : List Bool), ([] : List Bool), ([] : List Bool), 0, t188))))))) = some (r1, r2, r3, r4, r5, r6, r7, r8) := h
  clear h
  replace H := Option.bind_eq_some_iff.mp H
  obtain ⟨t182, A20, H⟩ := H
  replace H : ((impl_areKinds.f k l0).bind fun t183 => ((impl_when.f (!t183) 1).bind fun t184 => ((impl_first.f k (([t182, t184] : List Int))).bind fun t188 => (if t188 = 0 then ((impl_newData.f l0).bind fun bt189 => (some (bt189.1, bt189.2.1, bt189.2.2.1, bt189.2.2.2.1, bt189.2.2.2.2.1, bt189.2.2.2.2.2.1, bt189.2.2.2.2.2.2, 0))) else (some (([] : List Int), ([] : List (S77)), ([] : List Bool), ([] : List Bool), ([] : List Bool), ([] : List Bool), 0, t188)))))) = some (r1, r2, r3, r4, r5, r6, r7, r8) := H
  have A2 := Aside0.mk A20
  clear A20
  replace H := Option.bind_eq_some_iff.mp H
  obtain ⟨t183, A30, H⟩ := H
  replace H : ((impl_when.f (!t183) 1).bind fun t184 => ((impl_first.f k (([t182, t184] : List Int))).bind fun t188 => (if t188 = 0 then ((impl_newData.f l0).bind fun bt189 => (some (bt189.1, bt189.2.1, bt189.2.2.1, bt189.2.2.2.1, bt189.2.2.2.2.1, bt189.2.2.2.2.2.1, bt189.2.2.2.2.2.2, 0))) else (some (([] : List Int), ([] : List (S77)), ([] : List Bool), ([] : List Bool), ([] : List Bool), ([] : List Bool), 0, t188))))) = some (r1, r2, r3, r4, r5, r6, r7, r8) := H
  have A3 := Aside0.mk A30
  clear A30
  replace H := Option.bind_eq_some_iff.mp H
  obtain ⟨t184, A40, H⟩ := H
  replace H : ((impl_first.f k (([t182, t184] : List Int))).bind fun t188 => (if t188 = 0 then ((impl_newData.f l0).bind fun bt189 => (some (bt189.1, bt189.2.1, bt189.2.2.1, bt189.2.2.2.1, bt189.2.2.2.2.1, bt189.2.2.2.2.2.1, bt189.2.2.2.2.2.2, 0))) else (some (([] : List Int), ([] : List (S77)), ([] : List Bool), ([] : List Bool), ([] : List Bool), ([] : List Bool), 0, t188)))) = some (r1, r2, r3, r4, r5, r6, r7, r8) := H
  have A4 := Aside0.mk A40
  clear A40
  obtain ⟨y185, hy185⟩ : ∃ y_ : List Int, y_ = (([t182, t184] : List Int)) := ⟨_, rfl⟩
  replace H : ((impl_first.f k y185).bind fun t188 => (if t188 = 0 then ((impl_newData.f l0).bind fun bt189 => (some (bt189.1, bt189.2.1, bt189.2.2.1, bt189.2.2.2.1, bt189.2.2.2.2.1, bt189.2.2.2.2.2.1, bt189.2.2.2.2.2.2, 0))) else (some (([] : List Int), ([] : List (S77)), ([] : List Bool), ([] : List Bool), ([] : List Bool), ([] : List Bool), 0, t188)))) = some (r1, r2, r3, r4, r5, r6, r7, r8) := by first | (rw [hy185]; with_reducible exact H) | (have H2_ := (Option.bind_some _ _).symm.trans H; rw [hy185]; with_reducible exact H2_) | (have H2_ := (Option.bind_some _ _).symm.trans H; with_reducible exact H2_) | with_reducible exact H | (rw [hy185]; exact H) | exact H
  have Ny185 := Aside0.mk hy185
  clear hy185
  replace H := Option.bind_eq_some_iff.mp H
  obtain ⟨t188, A50, H⟩ := H
  replace H : (if t188 = 0 then ((impl_newData.f l0).bind fun bt189 => (some (bt189.1, bt189.2.1, bt189.2.2.1, bt189.2.2.2.1, bt189.2.2.2.2.1, bt189.2.2.2.2.2.1, bt189.2.2.2.2.2.2, 0))) else (some (([] : List Int), ([] : List (S77)), ([] : List Bool), ([] : List Bool), ([] : List Bool), ([] : List Bool), 0, t188))) = some (r1, r2, r3, r4, r5, r6, r7, r8) := H
  have A5 := Aside0.mk A50
  clear A50
  by_cases c6 : t188 = 0
  · rw [if_pos c6] at H
    have c6b0 : (t188 == 0) = true := beq_iff_eq.mpr c6
    have c6b1 : (t188 != 0) = false := bne_eq_false_iff_eq.mpr c6
    clear c6
    replace H := Option.bind_eq_some_iff.mp H
    obtain ⟨⟨t189, t192, t195, t198, t201, t204, t207⟩, A70, H⟩ := H
    replace H : (some (t189, t192, t195, t198, t201, t204, t207, 0)) = some (r1, r2, r3, r4, r5, r6, r7, r8) := H
    have A7 := Aside0.mk A70
    clear A70
    simp only [Option.some.injEq, Prod.mk.injEq] at H
    obtain ⟨rfl, rfl, rfl, rfl, rfl, rfl, rfl, rfl⟩ := H
    go_enter Try.func18, Try.ntmps18
    go_wp2_with (first | ((with_reducible refine gate_dst (N := 2) rfl ?_); refine box_event ?hg (N := 2) ?hd (cs := #[.slice none 0 0, .slice none 0 0, .slice none 0 0, .slice none 0 0, .slice none 0 0, .slice none 0 0, .int .i64 0]) (t := 31) ?hr ?_; (case hd => rfl); (case hg => rfl); (case hr => first | (go_simp; done) | (go_simp; rfl)); intro gb181 hg w8 hbox hb; have n0_ := Aside0.mk (below_step (by repeat (first | (with_reducible first | exact HB.out | apply below_alloc | apply pw_below_drewN | apply below_drew1) | exact HB.out)) hb); have n1_ := Aside0.mk (hbox); have n2_ := Aside0.mk ((by rw [hg]; exact (below_size (by repeat (first | (with_reducible first | exact HB.out | apply below_alloc | apply pw_below_drewN | apply below_drew1) | exact HB.out))) : w.heap.size ≤ gb181)); have n3_ := Aside0.mk ((by rw [hg]; exact (below_size (by repeat (first | (with_reducible first | exact HB.out | apply below_alloc | apply pw_below_drewN | apply below_drew1) | exact HB.out))) : w.heap.size ≤ gb181)); clear HB; have HB := n0_; have BK181 := n1_; have GW181 := n2_; have GE181 := n3_; clear n0_ n1_ n2_ n3_; clear hb hbox hg) | ((with_reducible refine gate_callee (f := 63) rfl ?_); refine goesL_ (some 6) rfl rfl Try.func63 (by kernel_rfl) rfl #[.slice A0 l0.length c0] rfl (by (try simp only [List.map_toArray, List.map_cons, List.map_nil]); first | done | rfl | (simp only [List.length_drop, List.length_take]; rfl)) ?_; (with_reducible refine (impl_many_int.calls _ _ l0 t182 _ ?side1 ?side2 A2.out).mono ?_); (case side1 => repeat (first | exact (Kd.C_below HR0.out HB.out) | (with_reducible refine Kd.C_alloc ?_ _) | (with_reducible refine Kd.C_drewN ?_ _) | (with_reducible refine Kd.C_drew ?_))); (case side2 => exact HC0.out); rintro e w' ⟨rfl, ⟨nd, rfl⟩⟩; refine ⟨_, rfl, ?_⟩; (try (rw [drewN_self w8]; generalize hq_ : World.drewN w8 _ = w8; have n0_ : Aside0 (w8.heap[gb181]? = some (.cells #[.slice none 0 0, .slice none 0 0, .slice none 0 0, .slice none 0 0, .slice none 0 0, .slice none 0 0, .int .i64 0] 31 (0, 0))) := ⟨by rw [← hq_]; exact (by (with_reducible repeat (first | refine blk_drewN ?_ _ | refine blk_drew ?_ | refine blk_alloc ?_ _)); exact BK181.out)⟩; have n1_ : Aside0 (Below w.heap.size w w8) := ⟨by rw [← hq_]; exact (by repeat (first | (with_reducible first | exact HB.out | apply below_alloc | apply pw_below_drewN | apply below_drew1 | refine below_set ?_ GE181.out) | exact HB.out))⟩; clear BK181 HB hq_; have BK181 := n0_; have HB := n1_; clear n0_ n1_))) | ((with_reducible refine gate_callee (f := 65) rfl ?_); refine goesL_ (some 8) rfl rfl Try.func65 (by kernel_rfl) rfl #[.slice A0 l0.length c0] rfl (by (try simp only [List.map_toArray, List.map_cons, List.map_nil]); first | done | rfl | (simp only [List.length_drop, List.length_take]; rfl)) ?_; (with_reducible refine (impl_areKinds.calls k _ _ l0 t183 _ ?side1 ?side2 A3.out).mono ?_); (case side1 => repeat (first | exact (Kd.C_below HR0.out HB.out) | (with_reducible refine Kd.C_alloc ?_ _) | (with_reducible refine Kd.C_drewN ?_ _) | (with_reducible refine Kd.C_drew ?_))); (case side2 => exact HC0.out); rintro e w9 ⟨rfl, hb⟩; refine ⟨_, rfl, ?_⟩; have n0_ := Aside0.mk (blk_below (g := gb181) (o := .cells #[.slice none 0 0, .slice none 0 0, .slice none 0 0, .slice none 0 0, .slice none 0 0, .slice none 0 0, .int .i64 0] 31 (0, 0)) (by (with_reducible repeat (first | refine blk_drewN ?_ _ | refine blk_drew ?_ | refine blk_alloc ?_ _)); exact BK181.out) hb); have n1_ := Aside0.mk (below_step (by repeat (first | (with_reducible first | exact HB.out | apply below_alloc | apply pw_below_drewN | apply below_drew1 | refine below_set ?_ GE181.out) | exact HB.out)) hb); clear BK181; clear HB; have BK181 := n0_; have HB := n1_; clear n0_ n1_; (try clear hb); (try clear hb2); (try clear hk); (try clear hi)) | ((with_reducible refine gate_callee (f := 64) rfl ?_); refine goesL_ (some 10) rfl rfl Try.func64 (by kernel_rfl) rfl #[.bool (!t183), .int .i64 1] rfl (by (try simp only [List.map_toArray, List.map_cons, List.map_nil]); first | done | rfl | (simp only [List.length_drop, List.length_take]; rfl)) ?_; (with_reducible refine (impl_when.calls (!t183) 1 t184 _ A4.out).mono ?_); rintro e w' ⟨rfl, ⟨nd, rfl⟩⟩; refine ⟨_, rfl, ?_⟩; (try (rw [drewN_self w9]; generalize hq_ : World.drewN w9 _ = w9; have n0_ : Aside0 (w9.heap[gb181]? = some (.cells #[.slice none 0 0, .slice none 0 0, .slice none 0 0, .slice none 0 0, .slice none 0 0, .slice none 0 0, .int .i64 0] 31 (0, 0))) := ⟨by rw [← hq_]; exact (by (with_reducible repeat (first | refine blk_drewN ?_ _ | refine blk_drew ?_ | refine blk_alloc ?_ _)); exact BK181.out)⟩; have n1_ : Aside0 (Below w.heap.size w w9) := ⟨by rw [← hq_]; exact (by repeat (first | (with_reducible first | exact HB.out | apply below_alloc | apply pw_below_drewN | apply below_drew1 | refine below_set ?_ GE181.out) | exact HB.out))⟩; clear BK181 HB hq_; have BK181 := n0_; have HB := n1_; clear n0_ n1_))) | ((with_reducible refine gate_dst (N := 11) rfl ?_); refine Kd.R_lit (Kd.int .i64) _ 3 ?hg (N := 11) ?hd (xs := ([t182, t184] : List Int)) (inner := [.int .i64 t182, .int .i64 t184]) (ok := fun _ => True) (okp := fun _ => True) ?hr ?hp (fun _ hk => hk) trivial (Below.refl _ _) (Nat.le_refl _) (by simp) ?_; (case hd => rfl); (case hg => rfl); (case hr => first | (go_simp; done) | (go_simp; rfl)); (case hp => exact (Reps.one (show Kd.M (Kd.int .i64) _ _ _ t182 [.int .i64 t182] from rfl) (Reps.one (show Kd.M (Kd.int .i64) _ _ _ t184 [.int .i64 t184] from rfl) (Reps.none _ _)))); intro v186 w10 ho11 hb hg_ hnew_; clear hg_ hnew_; (first | rw [← Ny185.out] at ho11 | (simp only [Int.reduceToNat] at ho11; rw [← Ny185.out] at ho11)); have n0_ := Aside0.mk (Kd.R_lower ho11 (below_size (by repeat (first | (with_reducible first | exact HB.out | apply below_alloc | apply pw_below_drewN | apply below_drew1 | refine below_set ?_ GE181.out) | exact HB.out)))); have n1_ := Aside0.mk (blk_below (g := gb181) (o := .cells #[.slice none 0 0, .slice none 0 0, .slice none 0 0, .slice none 0 0, .slice none 0 0, .slice none 0 0, .int .i64 0] 31 (0, 0)) (by (with_reducible repeat (first | refine blk_drewN ?_ _ | refine blk_drew ?_ | refine blk_alloc ?_ _)); exact BK181.out) hb); have n2_ := Aside0.mk (below_step (by repeat (first | (with_reducible first | exact HB.out | apply below_alloc | apply pw_below_drewN | apply below_drew1 | refine below_set ?_ GE181.out) | exact HB.out)) hb); clear BK181; clear HB; have HO187 := n0_; have BK181 := n1_; have HB := n2_; clear n0_ n1_ n2_; clear hb ho11; obtain ⟨Ao12, co12, eo12⟩ := Kd.R_slice HO187.out; subst eo12) | ((with_reducible refine gate_callee (f := 62) rfl ?_); refine goesL_ (some 12) rfl rfl Try.func62 (by kernel_rfl) rfl #[.slice Ao12 y185.length co12] rfl (by (try simp only [List.map_toArray, List.map_cons, List.map_nil]); first | done | rfl | (simp only [List.length_drop, List.length_take]; rfl)) ?_; (with_reducible refine (impl_first.calls k _ _ y185 t188 _ ?side1 ?side2 A5.out).mono ?_); (case side1 => repeat (first | exact (Kd.R_reads' HO187.out).2.2 | (with_reducible refine Kd.C_alloc ?_ _) | (with_reducible refine Kd.C_drewN ?_ _) | (with_reducible refine Kd.C_drew ?_))); (case side2 => exact (Kd.R_reads' HO187.out).2.1); rintro e w' ⟨rfl, ⟨nd, rfl⟩⟩; refine ⟨_, rfl, ?_⟩; (try (rw [drewN_self w10]; generalize hq_ : World.drewN w10 _ = w10; have n0_ : Aside0 (Kd.R (Kd.int .i64) 3 w10 w.heap.size (fun _ => True) (.slice Ao12 y185.length co12) y185) := ⟨by rw [← hq_]; exact (by (with_reducible repeat (first | apply Kd.R_alloc | apply Kd.R_drewN | apply Kd.R_drew)); exact HO187.out)⟩; have n1_ : Aside0 (w10.heap[gb181]? = some (.cells #[.slice none 0 0, .slice none 0 0, .slice none 0 0, .slice none 0 0, .slice none 0 0, .slice none 0 0, .int .i64 0] 31 (0, 0))) := ⟨by rw [← hq_]; exact (by (with_reducible repeat (first | refine blk_drewN ?_ _ | refine blk_drew ?_ | refine blk_alloc ?_ _)); exact BK181.out)⟩; have n2_ : Aside0 (Below w.heap.size w w10) := ⟨by rw [← hq_]; exact (by repeat (first | (with_reducible first | exact HB.out | apply below_alloc | apply pw_below_drewN | apply below_drew1 | refine below_set ?_ GE181.out) | exact HB.out))⟩; clear HO187 BK181 HB hq_; have HO187 := n0_; have BK181 := n1_; have HB := n2_; clear n0_ n1_ n2_))) | ((with_reducible refine gate_callee (f := 66) rfl ?_); refine goesL_ (some 18) rfl rfl Try.func66 (by kernel_rfl) rfl #[.slice A0 l0.length c0] rfl (by (try simp only [List.map_toArray, List.map_cons, List.map_nil]); first | done | rfl | (simp only [List.length_drop, List.length_take]; rfl)) ?_; (with_reducible refine (impl_newData.calls _ _ l0 t189 t192 t195 t198 t201 t204 t207 _ ?side1 ?side2 A7.out).mono ?_); (case side1 => repeat (first | exact (Kd.C_below HR0.out HB.out) | (with_reducible refine Kd.C_alloc ?_ _) | (with_reducible refine Kd.C_drewN ?_ _) | (with_reducible refine Kd.C_drew ?_))); (case side2 => exact HC0.out); rintro e w13 ⟨v190, v193, v196, v199, v202, v205, rfl, ho0, ho1, ho2, ho3, ho4, ho5, hb⟩; refine ⟨_, rfl, ?_⟩; have n0_ := Aside0.mk (Kd.R_elder' (by (with_reducible repeat (first | apply Kd.R_alloc | apply Kd.R_drewN | apply Kd.R_drew)); exact HO187.out) (Kd.R_base ho0) hb); have n1_ := Aside0.mk (Kd.R_lower (Kd.R_new' ho0 (Kd.R_lt (by (with_reducible repeat (first | apply Kd.R_alloc | apply Kd.R_drewN | apply Kd.R_drew)); exact HO187.out))) (below_size (by repeat (first | (with_reducible first | exact HB.out | apply below_alloc | apply pw_below_drewN | apply below_drew1 | refine below_set ?_ GE181.out) | exact HB.out)))); have n2_ := Aside0.mk (Kd.R_lower ho1 (below_size (by repeat (first | (with_reducible first | exact HB.out | apply below_alloc | apply pw_below_drewN | apply below_drew1 | refine below_set ?_ GE181.out) | exact HB.out)))); have n3_ := Aside0.mk (Kd.R_lower ho2 (below_size (by repeat (first | (with_reducible first | exact HB.out | apply below_alloc | apply pw_below_drewN | apply below_drew1 | refine below_set ?_ GE181.out) | exact HB.out)))); have n4_ := Aside0.mk (Kd.R_lower ho3 (below_size (by repeat (first | (with_reducible first | exact HB.out | apply below_alloc | apply pw_below_drewN | apply below_drew1 | refine below_set ?_ GE181.out) | exact HB.out)))); have n5_ := Aside0.mk (Kd.R_lower ho4 (below_size (by repeat (first | (with_reducible first | exact HB.out | apply below_alloc | apply pw_below_drewN | apply below_drew1 | refine below_set ?_ GE181.out) | exact HB.out)))); have n6_ := Aside0.mk (Kd.R_lower ho5 (below_size (by repeat (first | (with_reducible first | exact HB.out | apply below_alloc | apply pw_below_drewN | apply below_drew1 | refine below_set ?_ GE181.out) | exact HB.out)))); have n7_ := Aside0.mk (blk_below (g := gb181) (o := .cells #[.slice none 0 0, .slice none 0 0, .slice none 0 0, .slice none 0 0, .slice none 0 0, .slice none 0 0, .int .i64 0] 31 (0, 0)) (by (with_reducible repeat (first | refine blk_drewN ?_ _ | refine blk_drew ?_ | refine blk_alloc ?_ _)); exact BK181.out) hb); have n8_ := Aside0.mk (below_step (by repeat (first | (with_reducible first | exact HB.out | apply below_alloc | apply pw_below_drewN | apply below_drew1 | refine below_set ?_ GE181.out) | exact HB.out)) hb); clear HO187; clear BK181; clear HB; have HO187 := n0_; have HO191 := n1_; have HO194 := n2_; have HO197 := n3_; have HO200 := n4_; have HO203 := n5_; have HO206 := n6_; have BK181 := n7_; have HB := n8_; clear n0_ n1_ n2_ n3_ n4_ n5_ n6_ n7_ n8_; (try clear hb); (try clear hb2); (try clear hk); (try clear hi); (try clear ho0); (try clear ho1); (try clear ho2); (try clear ho3); (try clear ho4); (try clear ho5); obtain ⟨Ao14, co14, eo14⟩ := Kd.R_slice HO191.out; subst eo14; have hcz15_0 : w13.cell? ⟨gb181, 0, none⟩ = some (.slice none 0 0) := (blk_cell BK181.out 0).trans rfl; have hcz15_1 : w13.cell? ⟨gb181, 1, none⟩ = some (.slice none 0 0) := (blk_cell BK181.out 1).trans rfl; have hcz15_2 : w13.cell? ⟨gb181, 2, none⟩ = some (.slice none 0 0) := (blk_cell BK181.out 2).trans rfl; have hcz15_3 : w13.cell? ⟨gb181, 3, none⟩ = some (.slice none 0 0) := (blk_cell BK181.out 3).trans rfl; have hcz15_4 : w13.cell? ⟨gb181, 4, none⟩ = some (.slice none 0 0) := (blk_cell BK181.out 4).trans rfl; have hcz15_5 : w13.cell? ⟨gb181, 5, none⟩ = some (.slice none 0 0) := (blk_cell BK181.out 5).trans rfl; have hcz15_6 : w13.cell? ⟨gb181, 6, none⟩ = some (.int .i64 0) := (blk_cell BK181.out 6).trans rfl; have hfz15_0 := blk_frozen BK181.out 0; have hfz15_1 := blk_frozen BK181.out 1; have hfz15_2 := blk_frozen BK181.out 2; have hfz15_3 := blk_frozen BK181.out 3; have hfz15_4 := blk_frozen BK181.out 4; have hfz15_5 := blk_frozen BK181.out 5; have hfz15_6 := blk_frozen BK181.out 6; obtain ⟨Ao16, co16, eo16⟩ := Kd.R_slice HO194.out; subst eo16; obtain ⟨Ao17, co17, eo17⟩ := Kd.R_slice HO197.out; subst eo17; obtain ⟨Ao18, co18, eo18⟩ := Kd.R_slice HO200.out; subst eo18; obtain ⟨Ao19, co19, eo19⟩ := Kd.R_slice HO203.out; subst eo19; obtain ⟨Ao20, co20, eo20⟩ := Kd.R_slice HO206.out; subst eo20))
    refine bodyPost_ret (results_ct rfl _ _ gb181 31 #[.slice Ao14 t189.length co14, .slice Ao16 t192.length co16, .slice Ao17 t195.length co17, .slice Ao18 t198.length co18, .slice Ao19 t201.length co19, .slice Ao20 t204.length co20, .int .i64 t207] (0, 0) _ rfl (by (with_reducible repeat (first | refine blk_drewN ?_ _ | refine blk_drew ?_ | refine blk_alloc ?_ _)); refine blk_put (cs := #[.slice Ao14 t189.length co14, .slice Ao16 t192.length co16, .slice Ao17 t195.length co17, .slice Ao18 t198.length co18, .slice Ao19 t201.length co19, .slice Ao20 t204.length co20, .int .i64 0]) ?_ 6 _ rfl; (with_reducible repeat (first | refine blk_drewN ?_ _ | refine blk_drew ?_ | refine blk_alloc ?_ _)); refine blk_put (cs := #[.slice Ao14 t189.length co14, .slice Ao16 t192.length co16, .slice Ao17 t195.length co17, .slice Ao18 t198.length co18, .slice Ao19 t201.length co19, .slice none 0 0, .int .i64 0]) ?_ 5 _ rfl; (with_reducible repeat (first | refine blk_drewN ?_ _ | refine blk_drew ?_ | refine blk_alloc ?_ _)); refine blk_put (cs := #[.slice Ao14 t189.length co14, .slice Ao16 t192.length co16, .slice Ao17 t195.length co17, .slice Ao18 t198.length co18, .slice none 0 0, .slice none 0 0, .int .i64 0]) ?_ 4 _ rfl; (with_reducible repeat (first | refine blk_drewN ?_ _ | refine blk_drew ?_ | refine blk_alloc ?_ _)); refine blk_put (cs := #[.slice Ao14 t189.length co14, .slice Ao16 t192.length co16, .slice Ao17 t195.length co17, .slice none 0 0, .slice none 0 0, .slice none 0 0, .int .i64 0]) ?_ 3 _ rfl; (with_reducible repeat (first | refine blk_drewN ?_ _ | refine blk_drew ?_ | refine blk_alloc ?_ _)); refine blk_put (cs := #[.slice Ao14 t189.length co14, .slice Ao16 t192.length co16, .slice none 0 0, .slice none 0 0, .slice none 0 0, .slice none 0 0, .int .i64 0]) ?_ 2 _ rfl; (with_reducible repeat (first | refine blk_drewN ?_ _ | refine blk_drew ?_ | refine blk_alloc ?_ _)); refine blk_put (cs := #[.slice Ao14 t189.length co14, .slice none 0 0, .slice none 0 0, .slice none 0 0, .slice none 0 0, .slice none 0 0, .int .i64 0]) ?_ 1 _ rfl; (with_reducible repeat (first | refine blk_drewN ?_ _ | refine blk_drew ?_ | refine blk_alloc ?_ _)); refine blk_put (cs := #[.slice none 0 0, .slice none 0 0, .slice none 0 0, .slice none 0 0, .slice none 0 0, .slice none 0 0, .int .i64 0]) ?_ 0 _ rfl; (with_reducible repeat (first | refine blk_drewN ?_ _ | refine blk_drew ?_ | refine blk_alloc ?_ _)); exact BK181.out) Try.underlying31 rfl (by kernel_rfl)) rfl ?_
    exact ⟨_, _, _, _, _, _, by first | rfl | (simp [errW_none, errW_some] <;> rfl) | (simp [*, errW_none, errW_some] <;> rfl), by (with_reducible repeat (first | apply Kd.R_alloc | apply Kd.R_drewN | apply Kd.R_drew)); exact Kd.R_mono (Kd.R_far (p := ⟨gb181, 6, none⟩) (Kd.R_far (p := ⟨gb181, 5, none⟩) (Kd.R_far (p := ⟨gb181, 4, none⟩) (Kd.R_far (p := ⟨gb181, 3, none⟩) (Kd.R_far (p := ⟨gb181, 2, none⟩) (Kd.R_far (p := ⟨gb181, 1, none⟩) (Kd.R_far (p := ⟨gb181, 0, none⟩) (Kd.R_types HO191.out BK181.out (by decide)) (fun _ hk => hk.2) (.slice Ao14 t189.length co14)) (fun _ hk => hk.2) (.slice Ao16 t192.length co16)) (fun _ hk => hk.2) (.slice Ao17 t195.length co17)) (fun _ hk => hk.2) (.slice Ao18 t198.length co18)) (fun _ hk => hk.2) (.slice Ao19 t201.length co19)) (fun _ hk => hk.2) (.slice Ao20 t204.length co20)) (fun _ hk => hk.2) (.int .i64 t207)) (fun _ hk => trivial), by (with_reducible repeat (first | apply Kd.R_alloc | apply Kd.R_drewN | apply Kd.R_drew)); exact Kd.R_mono (Kd.R_far (p := ⟨gb181, 6, none⟩) (Kd.R_far (p := ⟨gb181, 5, none⟩) (Kd.R_far (p := ⟨gb181, 4, none⟩) (Kd.R_far (p := ⟨gb181, 3, none⟩) (Kd.R_far (p := ⟨gb181, 2, none⟩) (Kd.R_far (p := ⟨gb181, 1, none⟩) (Kd.R_far (p := ⟨gb181, 0, none⟩) (Kd.R_types HO194.out BK181.out (by decide)) (fun _ hk => hk.2) (.slice Ao14 t189.length co14)) (fun _ hk => hk.2) (.slice Ao16 t192.length co16)) (fun _ hk => hk.2) (.slice Ao17 t195.length co17)) (fun _ hk => hk.2) (.slice Ao18 t198.length co18)) (fun _ hk => hk.2) (.slice Ao19 t201.length co19)) (fun _ hk => hk.2) (.slice Ao20 t204.length co20)) (fun _ hk => hk.2) (.int .i64 t207)) (fun _ hk => trivial), by (with_reducible repeat (first | apply Kd.R_alloc | apply Kd.R_drewN | apply Kd.R_drew)); exact Kd.R_mono (Kd.R_far (p := ⟨gb181, 6, none⟩) (Kd.R_far (p := ⟨gb181, 5, none⟩) (Kd.R_far (p := ⟨gb181, 4, none⟩) (Kd.R_far (p := ⟨gb181, 3, none⟩) (Kd.R_far (p := ⟨gb181, 2, none⟩) (Kd.R_far (p := ⟨gb181, 1, none⟩) (Kd.R_far (p := ⟨gb181, 0, none⟩) (Kd.R_types HO197.out BK181.out (by decide)) (fun _ hk => hk.2) (.slice Ao14 t189.length co14)) (fun _ hk => hk.2) (.slice Ao16 t192.length co16)) (fun _ hk => hk.2) (.slice Ao17 t195.length co17)) (fun _ hk => hk.2) (.slice Ao18 t198.length co18)) (fun _ hk => hk.2) (.slice Ao19 t201.length co19)) (fun _ hk => hk.2) (.slice Ao20 t204.length co20)) (fun _ hk => hk.2) (.int .i64 t207)) (fun _ hk => ⟨hk.1.1, ⟨hk.1.2.1, hk.1.2.2⟩⟩), by (with_reducible repeat (first | apply Kd.R_alloc | apply Kd.R_drewN | apply Kd.R_drew)); exact Kd.R_mono (Kd.R_far (p := ⟨gb181, 6, none⟩) (Kd.R_far (p := ⟨gb181, 5, none⟩) (Kd.R_far (p := ⟨gb181, 4, none⟩) (Kd.R_far (p := ⟨gb181, 3, none⟩) (Kd.R_far (p := ⟨gb181, 2, none⟩) (Kd.R_far (p := ⟨gb181, 1, none⟩) (Kd.R_far (p := ⟨gb181, 0, none⟩) (Kd.R_types HO200.out BK181.out (by decide)) (fun _ hk => hk.2) (.slice Ao14 t189.length co14)) (fun _ hk => hk.2) (.slice Ao16 t192.length co16)) (fun _ hk => hk.2) (.slice Ao17 t195.length co17)) (fun _ hk => hk.2) (.slice Ao18 t198.length co18)) (fun _ hk => hk.2) (.slice Ao19 t201.length co19)) (fun _ hk => hk.2) (.slice Ao20 t204.length co20)) (fun _ hk => hk.2) (.int .i64 t207)) (fun _ hk => ⟨hk.1.1, ⟨hk.1.2.1, hk.1.2.2⟩⟩), by (with_reducible repeat (first | apply Kd.R_alloc | apply Kd.R_drewN | apply Kd.R_drew)); exact Kd.R_mono (Kd.R_far (p := ⟨gb181, 6, none⟩) (Kd.R_far (p := ⟨gb181, 5, none⟩) (Kd.R_far (p := ⟨gb181, 4, none⟩) (Kd.R_far (p := ⟨gb181, 3, none⟩) (Kd.R_far (p := ⟨gb181, 2, none⟩) (Kd.R_far (p := ⟨gb181, 1, none⟩) (Kd.R_far (p := ⟨gb181, 0, none⟩) (Kd.R_types HO203.out BK181.out (by decide)) (fun _ hk => hk.2) (.slice Ao14 t189.length co14)) (fun _ hk => hk.2) (.slice Ao16 t192.length co16)) (fun _ hk => hk.2) (.slice Ao17 t195.length co17)) (fun _ hk => hk.2) (.slice Ao18 t198.length co18)) (fun _ hk => hk.2) (.slice Ao19 t201.length co19)) (fun _ hk => hk.2) (.slice Ao20 t204.length co20)) (fun _ hk => hk.2) (.int .i64 t207)) (fun _ hk => ⟨hk.1.1, ⟨hk.1.2.1, hk.1.2.2⟩⟩), by (with_reducible repeat (first | apply Kd.R_alloc | apply Kd.R_drewN | apply Kd.R_drew)); exact Kd.R_mono (Kd.R_far (p := ⟨gb181, 6, none⟩) (Kd.R_far (p := ⟨gb181, 5, none⟩) (Kd.R_far (p := ⟨gb181, 4, none⟩) (Kd.R_far (p := ⟨gb181, 3, none⟩) (Kd.R_far (p := ⟨gb181, 2, none⟩) (Kd.R_far (p := ⟨gb181, 1, none⟩) (Kd.R_far (p := ⟨gb181, 0, none⟩) (Kd.R_types HO206.out BK181.out (by decide)) (fun _ hk => hk.2) (.slice Ao14 t189.length co14)) (fun _ hk => hk.2) (.slice Ao16 t192.length co16)) (fun _ hk => hk.2) (.slice Ao17 t195.length co17)) (fun _ hk => hk.2) (.slice Ao18 t198.length co18)) (fun _ hk => hk.2) (.slice Ao19 t201.length co19)) (fun _ hk => hk.2) (.slice Ao20 t204.length co20)) (fun _ hk => hk.2) (.int .i64 t207)) (fun _ hk => ⟨hk.1.1, ⟨hk.1.2.1, hk.1.2.2⟩⟩), by repeat (first | (with_reducible first | exact HB.out | apply below_alloc | apply pw_below_drewN | apply below_drew1 | refine below_set ?_ GE181.out) | exact HB.out)⟩
  · rw [if_neg c6] at H
    have c6b0 : (t188 == 0) = false := beq_eq_false_iff_ne.mpr c6
    have c6b1 : (t188 != 0) = true := bne_iff_ne.mpr c6
    simp only [Option.some.injEq, Prod.mk.injEq] at H
    obtain ⟨rfl, rfl, rfl, rfl, rfl, rfl, rfl, rfl⟩ := H
    go_enter Try.func18, Try.ntmps18
    go_wp2_with (first | ((with_reducible refine gate_dst (N := 2) rfl ?_); refine box_event ?hg (N := 2) ?hd (cs := #[.slice none 0 0, .slice none 0 0, .slice none 0 0, .slice none 0 0, .slice none 0 0, .slice none 0 0, .int .i64 0]) (t := 31) ?hr ?_; (case hd => rfl); (case hg => rfl); (case hr => first | (go_simp; done) | (go_simp; rfl)); intro gb181 hg w21 hbox hb; have n0_ := Aside0.mk (below_step (by repeat (first | (with_reducible first | exact HB.out | apply below_alloc | apply pw_below_drewN | apply below_drew1) | exact HB.out)) hb); have n1_ := Aside0.mk (hbox); have n2_ := Aside0.mk ((by rw [hg]; exact (below_size (by repeat (first | (with_reducible first | exact HB.out | apply below_alloc | apply pw_below_drewN | apply below_drew1) | exact HB.out))) : w.heap.size ≤ gb181)); have n3_ := Aside0.mk ((by rw [hg]; exact (below_size (by repeat (first | (with_reducible first | exact HB.out | apply below_alloc | apply pw_below_drewN | apply below_drew1) | exact HB.out))) : w.heap.size ≤ gb181)); clear HB; have HB := n0_; have BK181 := n1_; have GW181 := n2_; have GE181 := n3_; clear n0_ n1_ n2_ n3_; clear hb hbox hg) | ((with_reducible refine gate_callee (f := 63) rfl ?_); refine goesL_ (some 6) rfl rfl Try.func63 (by kernel_rfl) rfl #[.slice A0 l0.length c0] rfl (by (try simp only [List.map_toArray, List.map_cons, List.map_nil]); first | done | rfl | (simp only [List.length_drop, List.length_take]; rfl)) ?_; (with_reducible refine (impl_many_int.calls _ _ l0 t182 _ ?side1 ?side2 A2.out).mono ?_); (case side1 => repeat (first | exact (Kd.C_below HR0.out HB.out) | (with_reducible refine Kd.C_alloc ?_ _) | (with_reducible refine Kd.C_drewN ?_ _) | (with_reducible refine Kd.C_drew ?_))); (case side2 => exact HC0.out); rintro e w' ⟨rfl, ⟨nd, rfl⟩⟩; refine ⟨_, rfl, ?_⟩; (try (rw [drewN_self w21]; generalize hq_ : World.drewN w21 _ = w21; have n0_ : Aside0 (w21.heap[gb181]? = some (.cells #[.slice none 0 0, .slice none 0 0, .slice none 0 0, .slice none 0 0, .slice none 0 0, .slice none 0 0, .int .i64 0] 31 (0, 0))) := ⟨by rw [← hq_]; exact (by (with_reducible repeat (first | refine blk_drewN ?_ _ | refine blk_drew ?_ | refine blk_alloc ?_ _)); exact BK181.out)⟩; have n1_ : Aside0 (Below w.heap.size w w21) := ⟨by rw [← hq_]; exact (by repeat (first | (with_reducible first | exact HB.out | apply below_alloc | apply pw_below_drewN | apply below_drew1 | refine below_set ?_ GE181.out) | exact HB.out))⟩; clear BK181 HB hq_; have BK181 := n0_; have HB := n1_; clear n0_ n1_))) | ((with_reducible refine gate_callee (f := 65) rfl ?_); refine goesL_ (some 8) rfl rfl Try.func65 (by kernel_rfl) rfl #[.slice A0 l0.length c0] rfl (by (try simp only [List.map_toArray, List.map_cons, List.map_nil]); first | done | rfl | (simp only [List.length_drop, List.length_take]; rfl)) ?_; (with_reducible refine (impl_areKinds.calls k _ _ l0 t183 _ ?side1 ?side2 A3.out).mono ?_); (case side1 => repeat (first | exact (Kd.C_below HR0.out HB.out) | (with_reducible refine Kd.C_alloc ?_ _) | (with_reducible refine Kd.C_drewN ?_ _) | (with_reducible refine Kd.C_drew ?_))); (case side2 => exact HC0.out); rintro e w22 ⟨rfl, hb⟩; refine ⟨_, rfl, ?_⟩; have n0_ := Aside0.mk (blk_below (g := gb181) (o := .cells #[.slice none 0 0, .slice none 0 0, .slice none 0 0, .slice none 0 0, .slice none 0 0, .slice none 0 0, .int .i64 0] 31 (0, 0)) (by (with_reducible repeat (first | refine blk_drewN ?_ _ | refine blk_drew ?_ | refine blk_alloc ?_ _)); exact BK181.out) hb); have n1_ := Aside0.mk (below_step (by repeat (first | (with_reducible first | exact HB.out | apply below_alloc | apply pw_below_drewN | apply below_drew1 | refine below_set ?_ GE181.out) | exact HB.out)) hb); clear BK181; clear HB; have BK181 := n0_; have HB := n1_; clear n0_ n1_; (try clear hb); (try clear hb2); (try clear hk); (try clear hi)) | ((with_reducible refine gate_callee (f := 64) rfl ?_); refine goesL_ (some 10) rfl rfl Try.func64 (by kernel_rfl) rfl #[.bool (!t183), .int .i64 1] rfl (by (try simp only [List.map_toArray, List.map_cons, List.map_nil]); first | done | rfl | (simp only [List.length_drop, List.length_take]; rfl)) ?_; (with_reducible refine (impl_when.calls (!t183) 1 t184 _ A4.out).mono ?_); rintro e w' ⟨rfl, ⟨nd, rfl⟩⟩; refine ⟨_, rfl, ?_⟩; (try (rw [drewN_self w22]; generalize hq_ : World.drewN w22 _ = w22; have n0_ : Aside0 (w22.heap[gb181]? = some (.cells #[.slice none 0 0, .slice none 0 0, .slice none 0 0, .slice none 0 0, .slice none 0 0, .slice none 0 0, .int .i64 0] 31 (0, 0))) := ⟨by rw [← hq_]; exact (by (with_reducible repeat (first | refine blk_drewN ?_ _ | refine blk_drew ?_ | refine blk_alloc ?_ _)); exact BK181.out)⟩; have n1_ : Aside0 (Below w.heap.size w w22) := ⟨by rw [← hq_]; exact (by repeat (first | (with_reducible first | exact HB.out | apply below_alloc | apply pw_below_drewN | apply below_drew1 | refine below_set ?_ GE181.out) | exact HB.out))⟩; clear BK181 HB hq_; have BK181 := n0_; have HB := n1_; clear n0_ n1_))) | ((with_reducible refine gate_dst (N := 11) rfl ?_); refine Kd.R_lit (Kd.int .i64) _ 3 ?hg (N := 11) ?hd (xs := ([t182, t184] : List Int)) (inner := [.int .i64 t182, .int .i64 t184]) (ok := fun _ => True) (okp := fun _ => True) ?hr ?hp (fun _ hk => hk) trivial (Below.refl _ _) (Nat.le_refl _) (by simp) ?_; (case hd => rfl); (case hg => rfl); (case hr => first | (go_simp; done) | (go_simp; rfl)); (case hp => exact (Reps.one (show Kd.M (Kd.int .i64) _ _ _ t182 [.int .i64 t182] from rfl) (Reps.one (show Kd.M (Kd.int .i64) _ _ _ t184 [.int .i64 t184] from rfl) (Reps.none _ _)))); intro v186 w23 ho24 hb hg_ hnew_; clear hg_ hnew_; (first | rw [← Ny185.out] at ho24 | (simp only [Int.reduceToNat] at ho24; rw [← Ny185.out] at ho24)); have n0_ := Aside0.mk (Kd.R_lower ho24 (below_size (by repeat (first | (with_reducible first | exact HB.out | apply below_alloc | apply pw_below_drewN | apply below_drew1 | refine below_set ?_ GE181.out) | exact HB.out)))); have n1_ := Aside0.mk (blk_below (g := gb181) (o := .cells #[.slice none 0 0, .slice none 0 0, .slice none 0 0, .slice none 0 0, .slice none 0 0, .slice none 0 0, .int .i64 0] 31 (0, 0)) (by (with_reducible repeat (first | refine blk_drewN ?_ _ | refine blk_drew ?_ | refine blk_alloc ?_ _)); exact BK181.out) hb); have n2_ := Aside0.mk (below_step (by repeat (first | (with_reducible first | exact HB.out | apply below_alloc | apply pw_below_drewN | apply below_drew1 | refine below_set ?_ GE181.out) | exact HB.out)) hb); clear BK181; clear HB; have HO187 := n0_; have BK181 := n1_; have HB := n2_; clear n0_ n1_ n2_; clear hb ho24; obtain ⟨Ao25, co25, eo25⟩ := Kd.R_slice HO187.out; subst eo25) | ((with_reducible refine gate_callee (f := 62) rfl ?_); refine goesL_ (some 12) rfl rfl Try.func62 (by kernel_rfl) rfl #[.slice Ao25 y185.length co25] rfl (by (try simp only [List.map_toArray, List.map_cons, List.map_nil]); first | done | rfl | (simp only [List.length_drop, List.length_take]; rfl)) ?_; (with_reducible refine (impl_first.calls k _ _ y185 t188 _ ?side1 ?side2 A5.out).mono ?_); (case side1 => repeat (first | exact (Kd.R_reads' HO187.out).2.2 | (with_reducible refine Kd.C_alloc ?_ _) | (with_reducible refine Kd.C_drewN ?_ _) | (with_reducible refine Kd.C_drew ?_))); (case side2 => exact (Kd.R_reads' HO187.out).2.1); rintro e w' ⟨rfl, ⟨nd, rfl⟩⟩; refine ⟨_, rfl, ?_⟩; (try (rw [drewN_self w23]; generalize hq_ : World.drewN w23 _ = w23; have n0_ : Aside0 (Kd.R (Kd.int .i64) 3 w23 w.heap.size (fun _ => True) (.slice Ao25 y185.length co25) y185) := ⟨by rw [← hq_]; exact (by (with_reducible repeat (first | apply Kd.R_alloc | apply Kd.R_drewN | apply Kd.R_drew)); exact HO187.out)⟩; have n1_ : Aside0 (w23.heap[gb181]? = some (.cells #[.slice none 0 0, .slice none 0 0, .slice none 0 0, .slice none 0 0, .slice none 0 0, .slice none 0 0, .int .i64 0] 31 (0, 0))) := ⟨by rw [← hq_]; exact (by (with_reducible repeat (first | refine blk_drewN ?_ _ | refine blk_drew ?_ | refine blk_alloc ?_ _)); exact BK181.out)⟩; have n2_ : Aside0 (Below w.heap.size w w23) := ⟨by rw [← hq_]; exact (by repeat (first | (with_reducible first | exact HB.out | apply below_alloc | apply pw_below_drewN | apply below_drew1 | refine below_set ?_ GE181.out) | exact HB.out))⟩; clear HO187 BK181 HB hq_; have HO187 := n0_; have BK181 := n1_; have HB := n2_; clear n0_ n1_ n2_)); have hcz26_0 : w23.cell? ⟨gb181, 0, none⟩ = some (.slice none 0 0) := (blk_cell BK181.out 0).trans rfl; have hcz26_1 : w23.cell? ⟨gb181, 1, none⟩ = some (.slice none 0 0) := (blk_cell BK181.out 1).trans rfl; have hcz26_2 : w23.cell? ⟨gb181, 2, none⟩ = some (.slice none 0 0) := (blk_cell BK181.out 2).trans rfl; have hcz26_3 : w23.cell? ⟨gb181, 3, none⟩ = some (.slice none 0 0) := (blk_cell BK181.out 3).trans rfl; have hcz26_4 : w23.cell? ⟨gb181, 4, none⟩ = some (.slice none 0 0) := (blk_cell BK181.out 4).trans rfl; have hcz26_5 : w23.cell? ⟨gb181, 5, none⟩ = some (.slice none 0 0) := (blk_cell BK181.out 5).trans rfl; have hcz26_6 : w23.cell? ⟨gb181, 6, none⟩ = some (.int .i64 0) := (blk_cell BK181.out 6).trans rfl; have hfz26_0 := blk_frozen BK181.out 0; have hfz26_1 := blk_frozen BK181.out 1; have hfz26_2 := blk_frozen BK181.out 2; have hfz26_3 := blk_frozen BK181.out 3; have hfz26_4 := blk_frozen BK181.out 4; have hfz26_5 := blk_frozen BK181.out 5; have hfz26_6 := blk_frozen BK181.out 6))
    refine bodyPost_ret (results_ct rfl _ _ gb181 31 #[.slice none 0 0, .slice none 0 0, .slice none 0 0, .slice none 0 0, .slice none 0 0, .slice none 0 0, .int .i64 0] (0, 0) _ rfl (by (with_reducible repeat (first | refine blk_drewN ?_ _ | refine blk_drew ?_ | refine blk_alloc ?_ _)); refine blk_put (cs := #[.slice none 0 0, .slice none 0 0, .slice none 0 0, .slice none 0 0, .slice none 0 0, .slice none 0 0, .int .i64 0]) ?_ 6 _ rfl; (with_reducible repeat (first | refine blk_drewN ?_ _ | refine blk_drew ?_ | refine blk_alloc ?_ _)); refine blk_put (cs := #[.slice none 0 0, .slice none 0 0, .slice none 0 0, .slice none 0 0, .slice none 0 0, .slice none 0 0, .int .i64 0]) ?_ 5 _ rfl; (with_reducible repeat (first | refine blk_drewN ?_ _ | refine blk_drew ?_ | refine blk_alloc ?_ _)); refine blk_put (cs := #[.slice none 0 0, .slice none 0 0, .slice none 0 0, .slice none 0 0, .slice none 0 0, .slice none 0 0, .int .i64 0]) ?_ 4 _ rfl; (with_reducible repeat (first | refine blk_drewN ?_ _ | refine blk_drew ?_ | refine blk_alloc ?_ _)); refine blk_put (cs := #[.slice none 0 0, .slice none 0 0, .slice none 0 0, .slice none 0 0, .slice none 0 0, .slice none 0 0, .int .i64 0]) ?_ 3 _ rfl; (with_reducible repeat (first | refine blk_drewN ?_ _ | refine blk_drew ?_ | refine blk_alloc ?_ _)); refine blk_put (cs := #[.slice none 0 0, .slice none 0 0, .slice none 0 0, .slice none 0 0, .slice none 0 0, .slice none 0 0, .int .i64 0]) ?_ 2 _ rfl; (with_reducible repeat (first | refine blk_drewN ?_ _ | refine blk_drew ?_ | refine blk_alloc ?_ _)); refine blk_put (cs := #[.slice none 0 0, .slice none 0 0, .slice none 0 0, .slice none 0 0, .slice none 0 0, .slice none 0 0, .int .i64 0]) ?_ 1 _ rfl; (with_reducible repeat (first | refine blk_drewN ?_ _ | refine blk_drew ?_ | refine blk_alloc ?_ _)); refine blk_put (cs := #[.slice none 0 0, .slice none 0 0, .slice none 0 0, .slice none 0 0, .slice none 0 0, .slice none 0 0, .int .i64 0]) ?_ 0 _ rfl; (with_reducible repeat (first | refine blk_drewN ?_ _ | refine blk_drew ?_ | refine blk_alloc ?_ _)); exact BK181.out) Try.underlying31 rfl (by kernel_rfl)) rfl ?_
    exact ⟨_, _, _, _, _, _, by first | rfl | (simp [errW_none, errW_some] <;> rfl) | (simp [*, errW_none, errW_some] <;> rfl), by first | exact Kd.R_nil _ _ _ _ _ | exact Kd.N_nil _ _ _ _ _ | exact Kd.V_nil _ _ _ _ _ | exact Kd.Q_nil _ _ _ _ _ | exact Kd.S_nil _ _ _ _ _, by first | exact Kd.R_nil _ _ _ _ _ | exact Kd.N_nil _ _ _ _ _ | exact Kd.V_nil _ _ _ _ _ | exact Kd.Q_nil _ _ _ _ _ | exact Kd.S_nil _ _ _ _ _, by first | exact Kd.R_nil _ _ _ _ _ | exact Kd.N_nil _ _ _ _ _ | exact Kd.V_nil _ _ _ _ _ | exact Kd.Q_nil _ _ _ _ _ | exact Kd.S_nil _ _ _ _ _, by first | exact Kd.R_nil _ _ _ _ _ | exact Kd.N_nil _ _ _ _ _ | exact Kd.V_nil _ _ _ _ _ | exact Kd.Q_nil _ _ _ _ _ | exact Kd.S_nil _ _ _ _ _, by first | exact Kd.R_nil _ _ _ _ _ | exact Kd.N_nil _ _ _ _ _ | exact Kd.V_nil _ _ _ _ _ | exact Kd.Q_nil _ _ _ _ _ | exact Kd.S_nil _ _ _ _ _, by first | exact Kd.R_nil _ _ _ _ _ | exact Kd.N_nil _ _ _ _ _ | exact Kd.V_nil _ _ _ _ _ | exact Kd.Q_nil _ _ _ _ _ | exact Kd.S_nil _ _ _ _ _, by repeat (first | (with_reducible first | exact HB.out | apply below_alloc | apply pw_below_drewN | apply below_drew1 | refine below_set ?_ GE181.out) | exact HB.out)⟩

end Go.Proofs.Ytjgdfbcjlebniaa.MFnExactNewData
