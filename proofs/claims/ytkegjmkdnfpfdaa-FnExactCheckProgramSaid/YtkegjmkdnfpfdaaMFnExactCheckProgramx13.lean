-- Text written by a program of this session (wip/tools: the kit's printer with additions of ours).
import Derived.Test.YtkegjmkdnfpfdaaMFnExactCheckProgramx0
import Derived.Test.YtkegjmkdnfpfdaaMFnExactCheckProgramx2
import Derived.Test.YtkegjmkdnfpfdaaMFnExactCheckProgramx5
import Derived.Test.YtkegjmkdnfpfdaaMFnExactCheckProgramx11
import Derived.Test.YtkegjmkdnfpfdaaMFnExactCheckProgramx12
namespace Go.Proofs.Ytkegjmkdnfpfdaa.MFnExactCheckProgram
open Go.RowKit Go.Proofs.YtkegjmkdnfpfdaaW.PrintWords Go.Proofs.YtkegjmkdnfpfdaaW.PrintLast Go.Proofs.YtkegjmkdnfpfdaaW.PrintMore
attribute [local go_sem] max2_int min2_int max_two min_two max_three min_three max_four min_four   -- for this text's walks alone
set_option linter.unusedVariables false
set_option linter.unusedSimpArgs false
abbrev yBa := @Aside0.mk
abbrev yBb := @Kd.C_alloc
abbrev yBc := @Kd.C_below
abbrev yBd := @Kd.C_drew
abbrev yBe := @Kd.C_drewN
abbrev yBf := @World.block_lt_of_cell?
abbrev yBg := @World.drewN_drewN
abbrev yBh := @below_alloc
abbrev yBi := @below_drew1
abbrev yBj := @below_set
abbrev yBk := @below_step
abbrev yBl := @blk_alloc
abbrev yBm := @blk_below
abbrev yBn := @blk_cell
abbrev yBo := @blk_drew
abbrev yBp := @blk_drewN
abbrev yBq := @blk_frozen
abbrev yBr := @pw_below_drewN

/-! ### spec_l08Check: function 92 -/
mutual
def spec_l08Check.j0 : Nat → Bool → List Int → List (S124) → List (S135) → List Bool → Option (Int × Int)
 | 0, _, _, _, _, _ => none
 | k + 1, x23, x135000, x135001, x135002, x135003 => if x23 = true then (some (0, 1)) else ((spec_l04All.f k x135001 x135000).bind fun bt137 => (if bt137.2.2 = 0 then (if (x135002.length : Int) = 0 then (some (0, 5)) else (if (x135002.length : Int) > 5 then (some (0, 6)) else (spec_l08Check.l0 k 0 x135000 x135001 x135002 x135003))) else (some (bt137.1, bt137.2.2))))
def spec_l08Check.l0 : Nat → Int → List Int → List (S124) → List (S135) → List Bool → Option (Int × Int)
 | 0, _, _, _, _, _ => none
 | k + 1, x7, x135000, x135001, x135002, x135003 => if x7 < (x135002.length : Int) then (if 0 ≤ x7 then ((spec_TaskOK.f k ((rd_T135 x135002 x7).f0) ((rd_T135 x135002 x7).f1) ((rd_T135 x135002 x7).f2) ((rd_T135 x135002 x7).f3) ((rd_T135 x135002 x7).f4) ((rd_T135 x135002 x7).f5)).bind fun t141 => (if t141 = true then (if ((rd_T135 x135002 x7).f5) ≥ (x135001.length : Int) then (some (x7, 15)) else (spec_l08Check.l0 k (wrap64 (x7 + 1)) x135000 x135001 x135002 x135003)) else (some (x7, 10)))) else (none)) else (some (0, 0))
end
def spec_l08Check.f (k : Nat) (l0_0 : List Int) (l0_1 : List (S124)) (l0_2 : List (S135)) (l0_3 : List Bool) : Option (Int × Int) := (spec_l04Kinds.f k l0_0).bind fun t135 => (if t135 = true then ((spec_l04Routines.f k l0_1).bind fun t136 => (if t136 = true then (spec_l08Check.j0 k ((l0_3.length : Int) != 8) l0_0 l0_1 l0_2 l0_3) else (spec_l08Check.j0 k true l0_0 l0_1 l0_2 l0_3))) else (spec_l08Check.j0 k true l0_0 l0_1 l0_2 l0_3))
theorem spec_l08Check.mono_l : ∀ k, (∀ y0 y1 y2 y3 y4, LeO (spec_l08Check.j0 k y0 y1 y2 y3 y4) (spec_l08Check.j0 (k + 1) y0 y1 y2 y3 y4)) ∧ (∀ y0 y1 y2 y3 y4, LeO (spec_l08Check.l0 k y0 y1 y2 y3 y4) (spec_l08Check.l0 (k + 1) y0 y1 y2 y3 y4))
 | 0 => ⟨fun _ _ _ _ _ r h => by simp [spec_l08Check.j0] at h, fun _ _ _ _ _ r h => by simp [spec_l08Check.l0] at h⟩
 | k + 1 => by
  obtain ⟨ih0, ih1⟩ := spec_l08Check.mono_l k
  refine ⟨?_, ?_⟩
  ·
   intro y0 y1 y2 y3 y4
   unfold spec_l08Check.j0
   repeat' first
   | (with_reducible exact ih0 _ _ _ _ _)
   | (with_reducible exact ih1 _ _ _ _ _)
   | (with_reducible exact spec_TaskOK.mono _ _ _ _ _ _ _)
   | (with_reducible exact spec_l04All.mono _ _ _)
   | (with_reducible exact spec_l04Kinds.mono _ _)
   | (with_reducible exact spec_l04Routines.mono _ _)
   | (with_reducible exact LeO.refl _)
   | (with_reducible exact LeO.none _)
   | (with_reducible refine LeO.ite ?_ ?_)
   | (with_reducible refine LeO.bind ?_ (fun _ => ?_))
   | exact ih0 _ _ _ _ _
   | exact ih1 _ _ _ _ _
   | exact spec_TaskOK.mono _ _ _ _ _ _ _
   | exact spec_l04All.mono _ _ _
   | exact spec_l04Kinds.mono _ _
   | exact spec_l04Routines.mono _ _
   | exact LeO.none _
   | refine LeO.ite ?_ ?_
   | refine LeO.bind ?_ (fun _ => ?_)
  ·
   intro y0 y1 y2 y3 y4
   unfold spec_l08Check.l0
   repeat' first
   | (with_reducible exact ih0 _ _ _ _ _)
   | (with_reducible exact ih1 _ _ _ _ _)
   | (with_reducible exact spec_TaskOK.mono _ _ _ _ _ _ _)
   | (with_reducible exact spec_l04All.mono _ _ _)
   | (with_reducible exact spec_l04Kinds.mono _ _)
   | (with_reducible exact spec_l04Routines.mono _ _)
   | (with_reducible exact LeO.refl _)
   | (with_reducible exact LeO.none _)
   | (with_reducible refine LeO.ite ?_ ?_)
   | (with_reducible refine LeO.bind ?_ (fun _ => ?_))
   | exact ih0 _ _ _ _ _
   | exact ih1 _ _ _ _ _
   | exact spec_TaskOK.mono _ _ _ _ _ _ _
   | exact spec_l04All.mono _ _ _
   | exact spec_l04Kinds.mono _ _
   | exact spec_l04Routines.mono _ _
   | exact LeO.none _
   | refine LeO.ite ?_ ?_
   | refine LeO.bind ?_ (fun _ => ?_)
theorem spec_l08Check.mono : ∀ a0 a1 a2 a3 k, LeO (spec_l08Check.f k a0 a1 a2 a3) (spec_l08Check.f (k + 1) a0 a1 a2 a3) := by
 intro a0 a1 a2 a3 k
 obtain ⟨ih0, ih1⟩ := spec_l08Check.mono_l k
 unfold spec_l08Check.f
 repeat' first
   | (with_reducible exact ih0 _ _ _ _ _)
   | (with_reducible exact ih1 _ _ _ _ _)
   | (with_reducible exact spec_TaskOK.mono _ _ _ _ _ _ _)
   | (with_reducible exact spec_l04All.mono _ _ _)
   | (with_reducible exact spec_l04Kinds.mono _ _)
   | (with_reducible exact spec_l04Routines.mono _ _)
   | (with_reducible exact LeO.refl _)
   | (with_reducible exact LeO.none _)
   | (with_reducible refine LeO.ite ?_ ?_)
   | (with_reducible refine LeO.bind ?_ (fun _ => ?_))
   | exact ih0 _ _ _ _ _
   | exact ih1 _ _ _ _ _
   | exact spec_TaskOK.mono _ _ _ _ _ _ _
   | exact spec_l04All.mono _ _ _
   | exact spec_l04Kinds.mono _ _
   | exact spec_l04Routines.mono _ _
   | exact LeO.none _
   | refine LeO.ite ?_ ?_
   | refine LeO.bind ?_ (fun _ => ?_)
set_option maxHeartbeats 8000000 in
set_option maxRecDepth 100000 in
theorem spec_l08Check.calls (k : Nat) (A0_0 : Option Addr) (c0_0 : Nat) (l0_0 : List Int) (A0_1 : Option Addr) (c0_1 : Nat) (l0_1 : List (S124)) (A0_2 : Option Addr) (c0_2 : Nat) (l0_2 : List (S135)) (A0_3 : Option Addr) (c0_3 : Nat) (l0_3 : List Bool) (r1 : Int) (r2 : Int) (w : World) (hr0_0 : Kd.C (Kd.int .i64) w A0_0 l0_0.length l0_0) (hc0_0 : l0_0.length ≤ c0_0) (hr0_1 : Kd.C k124 w A0_1 l0_1.length l0_1) (hc0_1 : l0_1.length ≤ c0_1) (hr0_2 : Kd.C k135 w A0_2 l0_2.length l0_2) (hc0_2 : l0_2.length ≤ c0_2) (hr0_3 : Kd.C Kd.bool w A0_3 l0_3.length l0_3) (hc0_3 : l0_3.length ≤ c0_3) (h : spec_l08Check.f k l0_0 l0_1 l0_2 l0_3 = some (r1, r2)) :
  Calls Try.prog 92 #[.agg #[.slice A0_0 l0_0.length c0_0, .slice A0_1 l0_1.length c0_1, .slice A0_2 l0_2.length c0_2, .slice A0_3 l0_3.length c0_3]] w fun e w' => e = .returned (.tuple #[.int .i64 r1, .int .i64 r2]) ∧ Below w.heap.size w w' := by
 have hu64 := Try.underlying64
 have hu135 := Try.underlying135
 have HR0_0 := yBa hr0_0
 have HC0_0 := yBa hc0_0
 clear hr0_0 hc0_0
 have HR0_1 := yBa hr0_1
 have HC0_1 := yBa hc0_1
 clear hr0_1 hc0_1
 have HR0_2 := yBa hr0_2
 have HC0_2 := yBa hc0_2
 clear hr0_2 hc0_2
 have HR0_3 := yBa hr0_3
 have HC0_3 := yBa hc0_3
 clear hr0_3 hc0_3
 have HB := yBa (Below.refl w.heap.size w)
 have H : ((spec_l04Kinds.f k l0_0).bind fun t135 => (if t135 = true then ((spec_l04Routines.f k l0_1).bind fun t136 => (if t136 = true then (spec_l08Check.j0 k ((l0_3.length : Int) != 8) l0_0 l0_1 l0_2 l0_3) else (spec_l08Check.j0 k true l0_0 l0_1 l0_2 l0_3))) else (spec_l08Check.j0 k true l0_0 l0_1 l0_2 l0_3))) = some (r1, r2) := h
 clear h
 have HC2 := yBa H
 clear H
 go_enter Try.func92, Try.ntmps92
 go_upto_region 1 with (first | ((with_reducible refine gate_dst (N := 1) rfl ?_); (try (refine gate_guard (by rfl) ?_; dsimp only)); refine box_event ?hg (N := 1) ?hd (cs := #[.slice A0_0 l0_0.length c0_0, .slice A0_1 l0_1.length c0_1, .slice A0_2 l0_2.length c0_2, .slice A0_3 l0_3.length c0_3]) (t := 64) ?hr ?_; (case hd => rfl); (case hg => rfl); (case hr => first | (go_simp; done) | (go_simp; rfl)); intro gb134 hg w3 hbox hb; have n0_ := yBa (yBk (by repeat (first | (with_reducible first | exact HB.out | apply yBh | apply yBr | apply yBi) | exact HB.out)) hb); have n1_ := yBa (hbox); have n2_ := yBa ((by rw [hg]; exact (below_size (by repeat (first | (with_reducible first | exact HB.out | apply yBh | apply yBr | apply yBi) | exact HB.out))) : w.heap.size ≤ gb134)); have n3_ := yBa ((by rw [hg]; exact (below_size (by repeat (first | (with_reducible first | exact HB.out | apply yBh | apply yBr | apply yBi) | exact HB.out))) : w.heap.size ≤ gb134)); clear HB; have HB := n0_; have BK134 := n1_; have GW134 := n2_; have GE134 := n3_; clear n0_ n1_ n2_ n3_; clear hb hbox hg))
 repeat (go_quiet (first | ((with_reducible refine gate_dst (N := 1) rfl ?_); (try (refine gate_guard (by rfl) ?_; dsimp only)); refine box_event ?hg (N := 1) ?hd (cs := #[.slice A0_0 l0_0.length c0_0, .slice A0_1 l0_1.length c0_1, .slice A0_2 l0_2.length c0_2, .slice A0_3 l0_3.length c0_3]) (t := 64) ?hr ?_; (case hd => rfl); (case hg => rfl); (case hr => first | (go_simp; done) | (go_simp; rfl)); intro gb134 hg w3 hbox hb; have n0_ := yBa (yBk (by repeat (first | (with_reducible first | exact HB.out | apply yBh | apply yBr | apply yBi) | exact HB.out)) hb); have n1_ := yBa (hbox); have n2_ := yBa ((by rw [hg]; exact (below_size (by repeat (first | (with_reducible first | exact HB.out | apply yBh | apply yBr | apply yBi) | exact HB.out))) : w.heap.size ≤ gb134)); have n3_ := yBa ((by rw [hg]; exact (below_size (by repeat (first | (with_reducible first | exact HB.out | apply yBh | apply yBr | apply yBi) | exact HB.out))) : w.heap.size ≤ gb134)); clear HB; have HB := n0_; have BK134 := n1_; have GW134 := n2_; have GE134 := n3_; clear n0_ n1_ n2_ n3_; clear hb hbox hg)); go_upto_region 1 with (first | ((with_reducible refine gate_dst (N := 1) rfl ?_); (try (refine gate_guard (by rfl) ?_; dsimp only)); refine box_event ?hg (N := 1) ?hd (cs := #[.slice A0_0 l0_0.length c0_0, .slice A0_1 l0_1.length c0_1, .slice A0_2 l0_2.length c0_2, .slice A0_3 l0_3.length c0_3]) (t := 64) ?hr ?_; (case hd => rfl); (case hg => rfl); (case hr => first | (go_simp; done) | (go_simp; rfl)); intro gb134 hg w3 hbox hb; have n0_ := yBa (yBk (by repeat (first | (with_reducible first | exact HB.out | apply yBh | apply yBr | apply yBi) | exact HB.out)) hb); have n1_ := yBa (hbox); have n2_ := yBa ((by rw [hg]; exact (below_size (by repeat (first | (with_reducible first | exact HB.out | apply yBh | apply yBr | apply yBi) | exact HB.out))) : w.heap.size ≤ gb134)); have n3_ := yBa ((by rw [hg]; exact (below_size (by repeat (first | (with_reducible first | exact HB.out | apply yBh | apply yBr | apply yBi) | exact HB.out))) : w.heap.size ≤ gb134)); clear HB; have HB := n0_; have BK134 := n1_; have GW134 := n2_; have GE134 := n3_; clear n0_ n1_ n2_ n3_; clear hb hbox hg)))
 (try simp only [Act.put, List.setIfInBounds_toArray, List.set_cons_zero, List.set_cons_succ])
 go_cut [23] (fun v23 wc => ∃ (kq : Nat) (x23_1 : Bool), v23 = .bool x23_1 ∧ Aside0 (spec_l08Check.j0 kq x23_1 l0_0 l0_1 l0_2 l0_3 = some (r1, r2)) ∧ Aside0 (kq ≤ k) ∧ Aside0 (wc.heap[gb134]? = some (.cells #[(.slice A0_0 l0_0.length c0_0), (.slice A0_1 l0_1.length c0_1), (.slice A0_2 l0_2.length c0_2), (.slice A0_3 l0_3.length c0_3)] 64 (0, 0))) ∧ Aside0 (Below w.heap.size w wc))
 case first =>
  have H := HC2.out
  clear HC2
  replace H := Option.bind_eq_some_iff.mp H
  obtain ⟨t135, A40, H⟩ := H
  replace H : (if t135 = true then ((spec_l04Routines.f k l0_1).bind fun t136 => (if t136 = true then (spec_l08Check.j0 k ((l0_3.length : Int) != 8) l0_0 l0_1 l0_2 l0_3) else (spec_l08Check.j0 k true l0_0 l0_1 l0_2 l0_3))) else (spec_l08Check.j0 k true l0_0 l0_1 l0_2 l0_3)) = some (r1, r2) := H
  have A4 := yBa A40
  clear A40
  by_cases c5 : t135 = true
  ·
   subst c5
   have H1 : ((spec_l04Routines.f k l0_1).bind fun t136 => (if t136 = true then (spec_l08Check.j0 k ((l0_3.length : Int) != 8) l0_0 l0_1 l0_2 l0_3) else (spec_l08Check.j0 k true l0_0 l0_1 l0_2 l0_3))) = some (r1, r2) := by rw [if_pos rfl] at H; exact H
   clear H
   have H := H1
   clear H1
   replace H := Option.bind_eq_some_iff.mp H
   obtain ⟨t136, A60, H⟩ := H
   replace H : (if t136 = true then (spec_l08Check.j0 k ((l0_3.length : Int) != 8) l0_0 l0_1 l0_2 l0_3) else (spec_l08Check.j0 k true l0_0 l0_1 l0_2 l0_3)) = some (r1, r2) := H
   have A6 := yBa A60
   clear A60
   by_cases c7 : t136 = true
   ·
    subst c7
    have H1 : (spec_l08Check.j0 k ((l0_3.length : Int) != 8) l0_0 l0_1 l0_2 l0_3) = some (r1, r2) := by rw [if_pos rfl] at H; exact H
    clear H
    have H := H1
    clear H1
    have H' := yBa H
    clear H
    have hcz8_0 : w3.cell? ⟨gb134, 0, none⟩ = some (.slice A0_0 l0_0.length c0_0) := (yBn BK134.out 0).trans rfl
    have hcz8_1 : w3.cell? ⟨gb134, 1, none⟩ = some (.slice A0_1 l0_1.length c0_1) := (yBn BK134.out 1).trans rfl
    have hcz8_2 : w3.cell? ⟨gb134, 2, none⟩ = some (.slice A0_2 l0_2.length c0_2) := (yBn BK134.out 2).trans rfl
    have hcz8_3 : w3.cell? ⟨gb134, 3, none⟩ = some (.slice A0_3 l0_3.length c0_3) := (yBn BK134.out 3).trans rfl
    have hfz8_0 := yBq BK134.out 0
    have hfz8_1 := yBq BK134.out 1
    have hfz8_2 := yBq BK134.out 2
    have hfz8_3 := yBq BK134.out 3
    go_wp2_with (first | (go_at_call 136; (with_reducible refine (spec_l04Kinds.calls k _ _ l0_0 true _ ?side1 ?side2 A4.out).mono ?_); (case side1 => repeat (first | exact (yBc HR0_0.out HB.out) | (with_reducible refine yBb ?_ _) | (with_reducible refine yBe ?_ _) | (with_reducible refine yBd ?_))); (case side2 => exact HC0_0.out); rintro e w' ⟨rfl, ⟨nd, rfl⟩⟩; (try first | exact ⟨rfl, _, yBg _ _ _⟩ | exact ⟨rfl, _, Eq.trans (yBg _ _ _) (congrArg (World.drewN _) (Nat.add_assoc _ _ _))⟩)) | (go_at_call 148; (with_reducible refine (spec_l04Routines.calls k _ _ l0_1 true _ ?side1 ?side2 A6.out).mono ?_); (case side1 => repeat (first | exact (yBc HR0_1.out (by repeat (first | (with_reducible first | exact HB.out | apply yBh | apply yBr | apply yBi | refine yBj ?_ GE134.out) | exact HB.out))) | (with_reducible refine yBb ?_ _) | (with_reducible refine yBe ?_ _) | (with_reducible refine yBd ?_))); (case side2 => exact HC0_1.out); rintro e w9 ⟨rfl, hb⟩; have n0_ := yBa (yBm (g := gb134) (o := .cells #[.slice A0_0 l0_0.length c0_0, .slice A0_1 l0_1.length c0_1, .slice A0_2 l0_2.length c0_2, .slice A0_3 l0_3.length c0_3] 64 (0, 0)) (by (with_reducible repeat (first | refine yBp ?_ _ | refine yBo ?_ | refine yBl ?_ _)); exact BK134.out) hb); have n1_ := yBa (yBk (by repeat (first | (with_reducible first | exact HB.out | apply yBh | apply yBr | apply yBi | refine yBj ?_ GE134.out) | exact HB.out)) hb); clear BK134; clear HB; have BK134 := n0_; have HB := n1_; clear n0_ n1_; (try clear hb); (try clear hb2); (try clear hk); (try clear hi); have hcz10_0 : w9.cell? ⟨gb134, 0, none⟩ = some (.slice A0_0 l0_0.length c0_0) := (yBn BK134.out 0).trans rfl; have hcz10_1 : w9.cell? ⟨gb134, 1, none⟩ = some (.slice A0_1 l0_1.length c0_1) := (yBn BK134.out 1).trans rfl; have hcz10_2 : w9.cell? ⟨gb134, 2, none⟩ = some (.slice A0_2 l0_2.length c0_2) := (yBn BK134.out 2).trans rfl; have hcz10_3 : w9.cell? ⟨gb134, 3, none⟩ = some (.slice A0_3 l0_3.length c0_3) := (yBn BK134.out 3).trans rfl; have hfz10_0 := yBq BK134.out 0; have hfz10_1 := yBq BK134.out 1; have hfz10_2 := yBq BK134.out 2; have hfz10_3 := yBq BK134.out 3))
    repeat (go_quiet (first | (go_at_call 136; (with_reducible refine (spec_l04Kinds.calls k _ _ l0_0 true _ ?side1 ?side2 A4.out).mono ?_); (case side1 => repeat (first | exact (yBc HR0_0.out HB.out) | (with_reducible refine yBb ?_ _) | (with_reducible refine yBe ?_ _) | (with_reducible refine yBd ?_))); (case side2 => exact HC0_0.out); rintro e w' ⟨rfl, ⟨nd, rfl⟩⟩; (try first | exact ⟨rfl, _, yBg _ _ _⟩ | exact ⟨rfl, _, Eq.trans (yBg _ _ _) (congrArg (World.drewN _) (Nat.add_assoc _ _ _))⟩)) | (go_at_call 148; (with_reducible refine (spec_l04Routines.calls k _ _ l0_1 true _ ?side1 ?side2 A6.out).mono ?_); (case side1 => repeat (first | exact (yBc HR0_1.out (by repeat (first | (with_reducible first | exact HB.out | apply yBh | apply yBr | apply yBi | refine yBj ?_ GE134.out) | exact HB.out))) | (with_reducible refine yBb ?_ _) | (with_reducible refine yBe ?_ _) | (with_reducible refine yBd ?_))); (case side2 => exact HC0_1.out); rintro e w9 ⟨rfl, hb⟩; have n0_ := yBa (yBm (g := gb134) (o := .cells #[.slice A0_0 l0_0.length c0_0, .slice A0_1 l0_1.length c0_1, .slice A0_2 l0_2.length c0_2, .slice A0_3 l0_3.length c0_3] 64 (0, 0)) (by (with_reducible repeat (first | refine yBp ?_ _ | refine yBo ?_ | refine yBl ?_ _)); exact BK134.out) hb); have n1_ := yBa (yBk (by repeat (first | (with_reducible first | exact HB.out | apply yBh | apply yBr | apply yBi | refine yBj ?_ GE134.out) | exact HB.out)) hb); clear BK134; clear HB; have BK134 := n0_; have HB := n1_; clear n0_ n1_; (try clear hb); (try clear hb2); (try clear hk); (try clear hi); have hcz10_0 : w9.cell? ⟨gb134, 0, none⟩ = some (.slice A0_0 l0_0.length c0_0) := (yBn BK134.out 0).trans rfl; have hcz10_1 : w9.cell? ⟨gb134, 1, none⟩ = some (.slice A0_1 l0_1.length c0_1) := (yBn BK134.out 1).trans rfl; have hcz10_2 : w9.cell? ⟨gb134, 2, none⟩ = some (.slice A0_2 l0_2.length c0_2) := (yBn BK134.out 2).trans rfl; have hcz10_3 : w9.cell? ⟨gb134, 3, none⟩ = some (.slice A0_3 l0_3.length c0_3) := (yBn BK134.out 3).trans rfl; have hfz10_0 := yBq BK134.out 0; have hfz10_1 := yBq BK134.out 1; have hfz10_2 := yBq BK134.out 2; have hfz10_3 := yBq BK134.out 3)); try go_wp2_with (first | (go_at_call 136; (with_reducible refine (spec_l04Kinds.calls k _ _ l0_0 true _ ?side1 ?side2 A4.out).mono ?_); (case side1 => repeat (first | exact (yBc HR0_0.out HB.out) | (with_reducible refine yBb ?_ _) | (with_reducible refine yBe ?_ _) | (with_reducible refine yBd ?_))); (case side2 => exact HC0_0.out); rintro e w' ⟨rfl, ⟨nd, rfl⟩⟩; (try first | exact ⟨rfl, _, yBg _ _ _⟩ | exact ⟨rfl, _, Eq.trans (yBg _ _ _) (congrArg (World.drewN _) (Nat.add_assoc _ _ _))⟩)) | (go_at_call 148; (with_reducible refine (spec_l04Routines.calls k _ _ l0_1 true _ ?side1 ?side2 A6.out).mono ?_); (case side1 => repeat (first | exact (yBc HR0_1.out (by repeat (first | (with_reducible first | exact HB.out | apply yBh | apply yBr | apply yBi | refine yBj ?_ GE134.out) | exact HB.out))) | (with_reducible refine yBb ?_ _) | (with_reducible refine yBe ?_ _) | (with_reducible refine yBd ?_))); (case side2 => exact HC0_1.out); rintro e w9 ⟨rfl, hb⟩; have n0_ := yBa (yBm (g := gb134) (o := .cells #[.slice A0_0 l0_0.length c0_0, .slice A0_1 l0_1.length c0_1, .slice A0_2 l0_2.length c0_2, .slice A0_3 l0_3.length c0_3] 64 (0, 0)) (by (with_reducible repeat (first | refine yBp ?_ _ | refine yBo ?_ | refine yBl ?_ _)); exact BK134.out) hb); have n1_ := yBa (yBk (by repeat (first | (with_reducible first | exact HB.out | apply yBh | apply yBr | apply yBi | refine yBj ?_ GE134.out) | exact HB.out)) hb); clear BK134; clear HB; have BK134 := n0_; have HB := n1_; clear n0_ n1_; (try clear hb); (try clear hb2); (try clear hk); (try clear hi); have hcz10_0 : w9.cell? ⟨gb134, 0, none⟩ = some (.slice A0_0 l0_0.length c0_0) := (yBn BK134.out 0).trans rfl; have hcz10_1 : w9.cell? ⟨gb134, 1, none⟩ = some (.slice A0_1 l0_1.length c0_1) := (yBn BK134.out 1).trans rfl; have hcz10_2 : w9.cell? ⟨gb134, 2, none⟩ = some (.slice A0_2 l0_2.length c0_2) := (yBn BK134.out 2).trans rfl; have hcz10_3 : w9.cell? ⟨gb134, 3, none⟩ = some (.slice A0_3 l0_3.length c0_3) := (yBn BK134.out 3).trans rfl; have hfz10_0 := yBq BK134.out 0; have hfz10_1 := yBq BK134.out 1; have hfz10_2 := yBq BK134.out 2; have hfz10_3 := yBq BK134.out 3)))
    go_meet
    case rel => exact ⟨_, (((l0_3.length : Int) != 8)), (by first | rfl | (simp; done) | (simp [*]; done)), H', ⟨by first | omega | exact Nat.le_refl _⟩, ⟨by (with_reducible repeat (first | refine yBp ?_ _ | refine yBo ?_ | refine yBl ?_ _)); exact BK134.out⟩, ⟨by repeat (first | (with_reducible first | exact HB.out | apply yBh | apply yBr | apply yBi | refine yBj ?_ GE134.out) | exact HB.out)⟩⟩
   ·
    replace c7 := Bool.eq_false_iff.mpr c7
    subst c7
    have H1 : (spec_l08Check.j0 k true l0_0 l0_1 l0_2 l0_3) = some (r1, r2) := by rw [if_neg (show ¬ (false = true) by decide)] at H; exact H
    clear H
    have H := H1
    clear H1
    have H' := yBa H
    clear H
    have hcz11_0 : w3.cell? ⟨gb134, 0, none⟩ = some (.slice A0_0 l0_0.length c0_0) := (yBn BK134.out 0).trans rfl
    have hcz11_1 : w3.cell? ⟨gb134, 1, none⟩ = some (.slice A0_1 l0_1.length c0_1) := (yBn BK134.out 1).trans rfl
    have hcz11_2 : w3.cell? ⟨gb134, 2, none⟩ = some (.slice A0_2 l0_2.length c0_2) := (yBn BK134.out 2).trans rfl
    have hcz11_3 : w3.cell? ⟨gb134, 3, none⟩ = some (.slice A0_3 l0_3.length c0_3) := (yBn BK134.out 3).trans rfl
    have hfz11_0 := yBq BK134.out 0
    have hfz11_1 := yBq BK134.out 1
    have hfz11_2 := yBq BK134.out 2
    have hfz11_3 := yBq BK134.out 3
    go_wp2_with (first | (go_at_call 136; (with_reducible refine (spec_l04Kinds.calls k _ _ l0_0 true _ ?side1 ?side2 A4.out).mono ?_); (case side1 => repeat (first | exact (yBc HR0_0.out HB.out) | (with_reducible refine yBb ?_ _) | (with_reducible refine yBe ?_ _) | (with_reducible refine yBd ?_))); (case side2 => exact HC0_0.out); rintro e w' ⟨rfl, ⟨nd, rfl⟩⟩; (try first | exact ⟨rfl, _, yBg _ _ _⟩ | exact ⟨rfl, _, Eq.trans (yBg _ _ _) (congrArg (World.drewN _) (Nat.add_assoc _ _ _))⟩)) | (go_at_call 148; (with_reducible refine (spec_l04Routines.calls k _ _ l0_1 false _ ?side1 ?side2 A6.out).mono ?_); (case side1 => repeat (first | exact (yBc HR0_1.out (by repeat (first | (with_reducible first | exact HB.out | apply yBh | apply yBr | apply yBi | refine yBj ?_ GE134.out) | exact HB.out))) | (with_reducible refine yBb ?_ _) | (with_reducible refine yBe ?_ _) | (with_reducible refine yBd ?_))); (case side2 => exact HC0_1.out); rintro e w12 ⟨rfl, hb⟩; have n0_ := yBa (yBm (g := gb134) (o := .cells #[.slice A0_0 l0_0.length c0_0, .slice A0_1 l0_1.length c0_1, .slice A0_2 l0_2.length c0_2, .slice A0_3 l0_3.length c0_3] 64 (0, 0)) (by (with_reducible repeat (first | refine yBp ?_ _ | refine yBo ?_ | refine yBl ?_ _)); exact BK134.out) hb); have n1_ := yBa (yBk (by repeat (first | (with_reducible first | exact HB.out | apply yBh | apply yBr | apply yBi | refine yBj ?_ GE134.out) | exact HB.out)) hb); clear BK134; clear HB; have BK134 := n0_; have HB := n1_; clear n0_ n1_; (try clear hb); (try clear hb2); (try clear hk); (try clear hi)))
    repeat (go_quiet (first | (go_at_call 136; (with_reducible refine (spec_l04Kinds.calls k _ _ l0_0 true _ ?side1 ?side2 A4.out).mono ?_); (case side1 => repeat (first | exact (yBc HR0_0.out HB.out) | (with_reducible refine yBb ?_ _) | (with_reducible refine yBe ?_ _) | (with_reducible refine yBd ?_))); (case side2 => exact HC0_0.out); rintro e w' ⟨rfl, ⟨nd, rfl⟩⟩; (try first | exact ⟨rfl, _, yBg _ _ _⟩ | exact ⟨rfl, _, Eq.trans (yBg _ _ _) (congrArg (World.drewN _) (Nat.add_assoc _ _ _))⟩)) | (go_at_call 148; (with_reducible refine (spec_l04Routines.calls k _ _ l0_1 false _ ?side1 ?side2 A6.out).mono ?_); (case side1 => repeat (first | exact (yBc HR0_1.out (by repeat (first | (with_reducible first | exact HB.out | apply yBh | apply yBr | apply yBi | refine yBj ?_ GE134.out) | exact HB.out))) | (with_reducible refine yBb ?_ _) | (with_reducible refine yBe ?_ _) | (with_reducible refine yBd ?_))); (case side2 => exact HC0_1.out); rintro e w12 ⟨rfl, hb⟩; have n0_ := yBa (yBm (g := gb134) (o := .cells #[.slice A0_0 l0_0.length c0_0, .slice A0_1 l0_1.length c0_1, .slice A0_2 l0_2.length c0_2, .slice A0_3 l0_3.length c0_3] 64 (0, 0)) (by (with_reducible repeat (first | refine yBp ?_ _ | refine yBo ?_ | refine yBl ?_ _)); exact BK134.out) hb); have n1_ := yBa (yBk (by repeat (first | (with_reducible first | exact HB.out | apply yBh | apply yBr | apply yBi | refine yBj ?_ GE134.out) | exact HB.out)) hb); clear BK134; clear HB; have BK134 := n0_; have HB := n1_; clear n0_ n1_; (try clear hb); (try clear hb2); (try clear hk); (try clear hi))); try go_wp2_with (first | (go_at_call 136; (with_reducible refine (spec_l04Kinds.calls k _ _ l0_0 true _ ?side1 ?side2 A4.out).mono ?_); (case side1 => repeat (first | exact (yBc HR0_0.out HB.out) | (with_reducible refine yBb ?_ _) | (with_reducible refine yBe ?_ _) | (with_reducible refine yBd ?_))); (case side2 => exact HC0_0.out); rintro e w' ⟨rfl, ⟨nd, rfl⟩⟩; (try first | exact ⟨rfl, _, yBg _ _ _⟩ | exact ⟨rfl, _, Eq.trans (yBg _ _ _) (congrArg (World.drewN _) (Nat.add_assoc _ _ _))⟩)) | (go_at_call 148; (with_reducible refine (spec_l04Routines.calls k _ _ l0_1 false _ ?side1 ?side2 A6.out).mono ?_); (case side1 => repeat (first | exact (yBc HR0_1.out (by repeat (first | (with_reducible first | exact HB.out | apply yBh | apply yBr | apply yBi | refine yBj ?_ GE134.out) | exact HB.out))) | (with_reducible refine yBb ?_ _) | (with_reducible refine yBe ?_ _) | (with_reducible refine yBd ?_))); (case side2 => exact HC0_1.out); rintro e w12 ⟨rfl, hb⟩; have n0_ := yBa (yBm (g := gb134) (o := .cells #[.slice A0_0 l0_0.length c0_0, .slice A0_1 l0_1.length c0_1, .slice A0_2 l0_2.length c0_2, .slice A0_3 l0_3.length c0_3] 64 (0, 0)) (by (with_reducible repeat (first | refine yBp ?_ _ | refine yBo ?_ | refine yBl ?_ _)); exact BK134.out) hb); have n1_ := yBa (yBk (by repeat (first | (with_reducible first | exact HB.out | apply yBh | apply yBr | apply yBi | refine yBj ?_ GE134.out) | exact HB.out)) hb); clear BK134; clear HB; have BK134 := n0_; have HB := n1_; clear n0_ n1_; (try clear hb); (try clear hb2); (try clear hk); (try clear hi))))
    go_meet
    case rel => exact ⟨_, (true), (by first | rfl | (simp; done) | (simp [*]; done)), H', ⟨by first | omega | exact Nat.le_refl _⟩, ⟨by (with_reducible repeat (first | refine yBp ?_ _ | refine yBo ?_ | refine yBl ?_ _)); exact BK134.out⟩, ⟨by repeat (first | (with_reducible first | exact HB.out | apply yBh | apply yBr | apply yBi | refine yBj ?_ GE134.out) | exact HB.out)⟩⟩
  ·
   replace c5 := Bool.eq_false_iff.mpr c5
   subst c5
   have H1 : (spec_l08Check.j0 k true l0_0 l0_1 l0_2 l0_3) = some (r1, r2) := by rw [if_neg (show ¬ (false = true) by decide)] at H; exact H
   clear H
   have H := H1
   clear H1
   have H' := yBa H
   clear H
   have hcz13_0 : w3.cell? ⟨gb134, 0, none⟩ = some (.slice A0_0 l0_0.length c0_0) := (yBn BK134.out 0).trans rfl
   have hcz13_1 : w3.cell? ⟨gb134, 1, none⟩ = some (.slice A0_1 l0_1.length c0_1) := (yBn BK134.out 1).trans rfl
   have hcz13_2 : w3.cell? ⟨gb134, 2, none⟩ = some (.slice A0_2 l0_2.length c0_2) := (yBn BK134.out 2).trans rfl
   have hcz13_3 : w3.cell? ⟨gb134, 3, none⟩ = some (.slice A0_3 l0_3.length c0_3) := (yBn BK134.out 3).trans rfl
   have hfz13_0 := yBq BK134.out 0
   have hfz13_1 := yBq BK134.out 1
   have hfz13_2 := yBq BK134.out 2
   have hfz13_3 := yBq BK134.out 3
   go_wp2_with (first | (go_at_call 136; (with_reducible refine (spec_l04Kinds.calls k _ _ l0_0 false _ ?side1 ?side2 A4.out).mono ?_); (case side1 => repeat (first | exact (yBc HR0_0.out HB.out) | (with_reducible refine yBb ?_ _) | (with_reducible refine yBe ?_ _) | (with_reducible refine yBd ?_))); (case side2 => exact HC0_0.out); rintro e w' ⟨rfl, ⟨nd, rfl⟩⟩; (try first | exact ⟨rfl, _, yBg _ _ _⟩ | exact ⟨rfl, _, Eq.trans (yBg _ _ _) (congrArg (World.drewN _) (Nat.add_assoc _ _ _))⟩)))
   repeat (go_quiet (first | (go_at_call 136; (with_reducible refine (spec_l04Kinds.calls k _ _ l0_0 false _ ?side1 ?side2 A4.out).mono ?_); (case side1 => repeat (first | exact (yBc HR0_0.out HB.out) | (with_reducible refine yBb ?_ _) | (with_reducible refine yBe ?_ _) | (with_reducible refine yBd ?_))); (case side2 => exact HC0_0.out); rintro e w' ⟨rfl, ⟨nd, rfl⟩⟩; (try first | exact ⟨rfl, _, yBg _ _ _⟩ | exact ⟨rfl, _, Eq.trans (yBg _ _ _) (congrArg (World.drewN _) (Nat.add_assoc _ _ _))⟩))); try go_wp2_with (first | (go_at_call 136; (with_reducible refine (spec_l04Kinds.calls k _ _ l0_0 false _ ?side1 ?side2 A4.out).mono ?_); (case side1 => repeat (first | exact (yBc HR0_0.out HB.out) | (with_reducible refine yBb ?_ _) | (with_reducible refine yBe ?_ _) | (with_reducible refine yBd ?_))); (case side2 => exact HC0_0.out); rintro e w' ⟨rfl, ⟨nd, rfl⟩⟩; (try first | exact ⟨rfl, _, yBg _ _ _⟩ | exact ⟨rfl, _, Eq.trans (yBg _ _ _) (congrArg (World.drewN _) (Nat.add_assoc _ _ _))⟩))))
   go_meet
   case rel => exact ⟨_, (true), (by first | rfl | (simp; done) | (simp [*]; done)), H', ⟨by first | omega | exact Nat.le_refl _⟩, ⟨by (with_reducible repeat (first | refine yBp ?_ _ | refine yBo ?_ | refine yBl ?_ _)); exact BK134.out⟩, ⟨by repeat (first | (with_reducible first | exact HB.out | apply yBh | apply yBr | apply yBi | refine yBj ?_ GE134.out) | exact HB.out)⟩⟩
 case rest =>
  clear HC2
  try clear p2
  try clear c5
  try clear c7
  try clear c9
  try clear hcz10_0
  try clear hcz10_1
  try clear hcz10_2
  try clear hcz10_3
  try clear hcz11_0
  try clear hcz11_1
  try clear hcz11_2
  try clear hcz11_3
  try clear hcz13_0
  try clear hcz13_1
  try clear hcz13_2
  try clear hcz13_3
  try clear hcz8_0
  try clear hcz8_1
  try clear hcz8_2
  try clear hcz8_3
  try clear hfz10_0
  try clear hfz10_1
  try clear hfz10_2
  try clear hfz10_3
  try clear hfz11_0
  try clear hfz11_1
  try clear hfz11_2
  try clear hfz11_3
  try clear hfz13_0
  try clear hfz13_1
  try clear hfz13_2
  try clear hfz13_3
  try clear hfz8_0
  try clear hfz8_1
  try clear hfz8_2
  try clear hfz8_3
  obtain ⟨kq, x23_1, rfl, HA, HJ1, BK134, HB⟩ := hcut
  cases kq with
  | zero => exact absurd HA.out (by simp [spec_l08Check.j0])
  | succ kj1 =>
   have H := HA.out
   clear HA
   simp only [spec_l08Check.j0] at H
   by_cases c14 : x23_1 = true
   ·
    subst c14
    have H1 : (some (0, 1)) = some (r1, r2) := by rw [if_pos rfl] at H; exact H
    clear H
    have H := H1
    clear H1
    simp only [Option.some.injEq, Prod.mk.injEq] at H
    obtain ⟨rfl, rfl⟩ := H
    go_wp2
    repeat (go_quiet (fail); try go_wp2)
    go_ret2
    exact ⟨by first | rfl | (simp [errW_none, errW_some] <;> rfl) | (simp [*, errW_none, errW_some] <;> rfl), by repeat (first | (with_reducible first | exact HB.out | apply yBh | apply yBr | apply yBi | refine yBj ?_ GE134.out) | exact HB.out)⟩
   ·
    replace c14 := Bool.eq_false_iff.mpr c14
    subst c14
    have H1 : ((spec_l04All.f kj1 l0_1 l0_0).bind fun bt137 => (if bt137.2.2 = 0 then (if (l0_2.length : Int) = 0 then (some (0, 5)) else (if (l0_2.length : Int) > 5 then (some (0, 6)) else (spec_l08Check.l0 kj1 0 l0_0 l0_1 l0_2 l0_3))) else (some (bt137.1, bt137.2.2)))) = some (r1, r2) := by rw [if_neg (show ¬ (false = true) by decide)] at H; exact H
    clear H
    have H := H1
    clear H1
    replace H := Option.bind_eq_some_iff.mp H
    obtain ⟨⟨t137, t138, t139⟩, A150, H⟩ := H
    replace H : (if t139 = 0 then (if (l0_2.length : Int) = 0 then (some (0, 5)) else (if (l0_2.length : Int) > 5 then (some (0, 6)) else (spec_l08Check.l0 kj1 0 l0_0 l0_1 l0_2 l0_3))) else (some (t137, t139))) = some (r1, r2) := H
    have A15 := yBa A150
    clear A150
    by_cases c16 : t139 = 0
    ·
     rw [if_pos c16] at H
     have c16b0 : (t139 == 0) = true := beq_iff_eq.mpr c16
     have c16b1 : (t139 != 0) = false := bne_eq_false_iff_eq.mpr c16
     clear c16
     by_cases c17 : (l0_2.length : Int) = 0
     ·
      rw [if_pos c17] at H
      have c17b0 : ((l0_2.length : Int) == 0) = true := beq_iff_eq.mpr c17
      have c17b1 : ((l0_2.length : Int) != 0) = false := bne_eq_false_iff_eq.mpr c17
      clear c17
      simp only [Option.some.injEq, Prod.mk.injEq] at H
      obtain ⟨rfl, rfl⟩ := H
      have hcz18_0 : wc.cell? ⟨gb134, 0, none⟩ = some (.slice A0_0 l0_0.length c0_0) := (yBn BK134.out 0).trans rfl
      have hcz18_1 : wc.cell? ⟨gb134, 1, none⟩ = some (.slice A0_1 l0_1.length c0_1) := (yBn BK134.out 1).trans rfl
      have hcz18_2 : wc.cell? ⟨gb134, 2, none⟩ = some (.slice A0_2 l0_2.length c0_2) := (yBn BK134.out 2).trans rfl
      have hcz18_3 : wc.cell? ⟨gb134, 3, none⟩ = some (.slice A0_3 l0_3.length c0_3) := (yBn BK134.out 3).trans rfl
      have hfz18_0 := yBq BK134.out 0
      have hfz18_1 := yBq BK134.out 1
      have hfz18_2 := yBq BK134.out 2
      have hfz18_3 := yBq BK134.out 3
      go_wp2_with (first | (go_at_call 149; (with_reducible refine (spec_l04All.calls kj1 _ _ l0_1 _ _ l0_0 t137 t138 t139 _ ?side1 ?side2 ?side3 ?side4 A15.out).mono ?_); (case side1 => repeat (first | exact (yBc HR0_1.out HB.out) | (with_reducible refine yBb ?_ _) | (with_reducible refine yBe ?_ _) | (with_reducible refine yBd ?_))); (case side2 => exact HC0_1.out); (case side3 => repeat (first | exact (yBc HR0_0.out HB.out) | (with_reducible refine yBb ?_ _) | (with_reducible refine yBe ?_ _) | (with_reducible refine yBd ?_))); (case side4 => exact HC0_0.out); rintro e w19 ⟨rfl, hb⟩; have n0_ := yBa (yBm (g := gb134) (o := .cells #[.slice A0_0 l0_0.length c0_0, .slice A0_1 l0_1.length c0_1, .slice A0_2 l0_2.length c0_2, .slice A0_3 l0_3.length c0_3] 64 (0, 0)) (by (with_reducible repeat (first | refine yBp ?_ _ | refine yBo ?_ | refine yBl ?_ _)); exact BK134.out) hb); have n1_ := yBa (yBk (by repeat (first | (with_reducible first | exact HB.out | apply yBh | apply yBr | apply yBi | refine yBj ?_ GE134.out) | exact HB.out)) hb); clear BK134; clear HB; have BK134 := n0_; have HB := n1_; clear n0_ n1_; (try clear hb); (try clear hb2); (try clear hk); (try clear hi); have hcz20_0 : w19.cell? ⟨gb134, 0, none⟩ = some (.slice A0_0 l0_0.length c0_0) := (yBn BK134.out 0).trans rfl; have hcz20_1 : w19.cell? ⟨gb134, 1, none⟩ = some (.slice A0_1 l0_1.length c0_1) := (yBn BK134.out 1).trans rfl; have hcz20_2 : w19.cell? ⟨gb134, 2, none⟩ = some (.slice A0_2 l0_2.length c0_2) := (yBn BK134.out 2).trans rfl; have hcz20_3 : w19.cell? ⟨gb134, 3, none⟩ = some (.slice A0_3 l0_3.length c0_3) := (yBn BK134.out 3).trans rfl; have hfz20_0 := yBq BK134.out 0; have hfz20_1 := yBq BK134.out 1; have hfz20_2 := yBq BK134.out 2; have hfz20_3 := yBq BK134.out 3))
      repeat (go_quiet (first | (go_at_call 149; (with_reducible refine (spec_l04All.calls kj1 _ _ l0_1 _ _ l0_0 t137 t138 t139 _ ?side1 ?side2 ?side3 ?side4 A15.out).mono ?_); (case side1 => repeat (first | exact (yBc HR0_1.out HB.out) | (with_reducible refine yBb ?_ _) | (with_reducible refine yBe ?_ _) | (with_reducible refine yBd ?_))); (case side2 => exact HC0_1.out); (case side3 => repeat (first | exact (yBc HR0_0.out HB.out) | (with_reducible refine yBb ?_ _) | (with_reducible refine yBe ?_ _) | (with_reducible refine yBd ?_))); (case side4 => exact HC0_0.out); rintro e w19 ⟨rfl, hb⟩; have n0_ := yBa (yBm (g := gb134) (o := .cells #[.slice A0_0 l0_0.length c0_0, .slice A0_1 l0_1.length c0_1, .slice A0_2 l0_2.length c0_2, .slice A0_3 l0_3.length c0_3] 64 (0, 0)) (by (with_reducible repeat (first | refine yBp ?_ _ | refine yBo ?_ | refine yBl ?_ _)); exact BK134.out) hb); have n1_ := yBa (yBk (by repeat (first | (with_reducible first | exact HB.out | apply yBh | apply yBr | apply yBi | refine yBj ?_ GE134.out) | exact HB.out)) hb); clear BK134; clear HB; have BK134 := n0_; have HB := n1_; clear n0_ n1_; (try clear hb); (try clear hb2); (try clear hk); (try clear hi); have hcz20_0 : w19.cell? ⟨gb134, 0, none⟩ = some (.slice A0_0 l0_0.length c0_0) := (yBn BK134.out 0).trans rfl; have hcz20_1 : w19.cell? ⟨gb134, 1, none⟩ = some (.slice A0_1 l0_1.length c0_1) := (yBn BK134.out 1).trans rfl; have hcz20_2 : w19.cell? ⟨gb134, 2, none⟩ = some (.slice A0_2 l0_2.length c0_2) := (yBn BK134.out 2).trans rfl; have hcz20_3 : w19.cell? ⟨gb134, 3, none⟩ = some (.slice A0_3 l0_3.length c0_3) := (yBn BK134.out 3).trans rfl; have hfz20_0 := yBq BK134.out 0; have hfz20_1 := yBq BK134.out 1; have hfz20_2 := yBq BK134.out 2; have hfz20_3 := yBq BK134.out 3)); try go_wp2_with (first | (go_at_call 149; (with_reducible refine (spec_l04All.calls kj1 _ _ l0_1 _ _ l0_0 t137 t138 t139 _ ?side1 ?side2 ?side3 ?side4 A15.out).mono ?_); (case side1 => repeat (first | exact (yBc HR0_1.out HB.out) | (with_reducible refine yBb ?_ _) | (with_reducible refine yBe ?_ _) | (with_reducible refine yBd ?_))); (case side2 => exact HC0_1.out); (case side3 => repeat (first | exact (yBc HR0_0.out HB.out) | (with_reducible refine yBb ?_ _) | (with_reducible refine yBe ?_ _) | (with_reducible refine yBd ?_))); (case side4 => exact HC0_0.out); rintro e w19 ⟨rfl, hb⟩; have n0_ := yBa (yBm (g := gb134) (o := .cells #[.slice A0_0 l0_0.length c0_0, .slice A0_1 l0_1.length c0_1, .slice A0_2 l0_2.length c0_2, .slice A0_3 l0_3.length c0_3] 64 (0, 0)) (by (with_reducible repeat (first | refine yBp ?_ _ | refine yBo ?_ | refine yBl ?_ _)); exact BK134.out) hb); have n1_ := yBa (yBk (by repeat (first | (with_reducible first | exact HB.out | apply yBh | apply yBr | apply yBi | refine yBj ?_ GE134.out) | exact HB.out)) hb); clear BK134; clear HB; have BK134 := n0_; have HB := n1_; clear n0_ n1_; (try clear hb); (try clear hb2); (try clear hk); (try clear hi); have hcz20_0 : w19.cell? ⟨gb134, 0, none⟩ = some (.slice A0_0 l0_0.length c0_0) := (yBn BK134.out 0).trans rfl; have hcz20_1 : w19.cell? ⟨gb134, 1, none⟩ = some (.slice A0_1 l0_1.length c0_1) := (yBn BK134.out 1).trans rfl; have hcz20_2 : w19.cell? ⟨gb134, 2, none⟩ = some (.slice A0_2 l0_2.length c0_2) := (yBn BK134.out 2).trans rfl; have hcz20_3 : w19.cell? ⟨gb134, 3, none⟩ = some (.slice A0_3 l0_3.length c0_3) := (yBn BK134.out 3).trans rfl; have hfz20_0 := yBq BK134.out 0; have hfz20_1 := yBq BK134.out 1; have hfz20_2 := yBq BK134.out 2; have hfz20_3 := yBq BK134.out 3)))
      go_ret2
      exact ⟨by first | rfl | (simp [errW_none, errW_some] <;> rfl) | (simp [*, errW_none, errW_some] <;> rfl), by repeat (first | (with_reducible first | exact HB.out | apply yBh | apply yBr | apply yBi | refine yBj ?_ GE134.out) | exact HB.out)⟩
     ·
      rw [if_neg c17] at H
      have c17b0 : ((l0_2.length : Int) == 0) = false := beq_eq_false_iff_ne.mpr c17
      have c17b1 : ((l0_2.length : Int) != 0) = true := bne_iff_ne.mpr c17
      have c17b2 : ¬ (l0_2 = []) := fun h_ => c17 (by rw [h_]; rfl)
      by_cases c21 : (l0_2.length : Int) > 5
      ·
       rw [if_pos c21] at H
       have c21b0 : decide (5 < (l0_2.length : Int)) = true := decide_eq_true c21
       have c21b1 : decide (5 < l0_2.length) = true := decide_eq_true (by omega)
       clear c21
       simp only [Option.some.injEq, Prod.mk.injEq] at H
       obtain ⟨rfl, rfl⟩ := H
       have hcz22_0 : wc.cell? ⟨gb134, 0, none⟩ = some (.slice A0_0 l0_0.length c0_0) := (yBn BK134.out 0).trans rfl
       have hcz22_1 : wc.cell? ⟨gb134, 1, none⟩ = some (.slice A0_1 l0_1.length c0_1) := (yBn BK134.out 1).trans rfl
       have hcz22_2 : wc.cell? ⟨gb134, 2, none⟩ = some (.slice A0_2 l0_2.length c0_2) := (yBn BK134.out 2).trans rfl
       have hcz22_3 : wc.cell? ⟨gb134, 3, none⟩ = some (.slice A0_3 l0_3.length c0_3) := (yBn BK134.out 3).trans rfl
       have hfz22_0 := yBq BK134.out 0
       have hfz22_1 := yBq BK134.out 1
       have hfz22_2 := yBq BK134.out 2
       have hfz22_3 := yBq BK134.out 3
       go_wp2_with (first | (go_at_call 149; (with_reducible refine (spec_l04All.calls kj1 _ _ l0_1 _ _ l0_0 t137 t138 t139 _ ?side1 ?side2 ?side3 ?side4 A15.out).mono ?_); (case side1 => repeat (first | exact (yBc HR0_1.out HB.out) | (with_reducible refine yBb ?_ _) | (with_reducible refine yBe ?_ _) | (with_reducible refine yBd ?_))); (case side2 => exact HC0_1.out); (case side3 => repeat (first | exact (yBc HR0_0.out HB.out) | (with_reducible refine yBb ?_ _) | (with_reducible refine yBe ?_ _) | (with_reducible refine yBd ?_))); (case side4 => exact HC0_0.out); rintro e w23 ⟨rfl, hb⟩; have n0_ := yBa (yBm (g := gb134) (o := .cells #[.slice A0_0 l0_0.length c0_0, .slice A0_1 l0_1.length c0_1, .slice A0_2 l0_2.length c0_2, .slice A0_3 l0_3.length c0_3] 64 (0, 0)) (by (with_reducible repeat (first | refine yBp ?_ _ | refine yBo ?_ | refine yBl ?_ _)); exact BK134.out) hb); have n1_ := yBa (yBk (by repeat (first | (with_reducible first | exact HB.out | apply yBh | apply yBr | apply yBi | refine yBj ?_ GE134.out) | exact HB.out)) hb); clear BK134; clear HB; have BK134 := n0_; have HB := n1_; clear n0_ n1_; (try clear hb); (try clear hb2); (try clear hk); (try clear hi); have hcz24_0 : w23.cell? ⟨gb134, 0, none⟩ = some (.slice A0_0 l0_0.length c0_0) := (yBn BK134.out 0).trans rfl; have hcz24_1 : w23.cell? ⟨gb134, 1, none⟩ = some (.slice A0_1 l0_1.length c0_1) := (yBn BK134.out 1).trans rfl; have hcz24_2 : w23.cell? ⟨gb134, 2, none⟩ = some (.slice A0_2 l0_2.length c0_2) := (yBn BK134.out 2).trans rfl; have hcz24_3 : w23.cell? ⟨gb134, 3, none⟩ = some (.slice A0_3 l0_3.length c0_3) := (yBn BK134.out 3).trans rfl; have hfz24_0 := yBq BK134.out 0; have hfz24_1 := yBq BK134.out 1; have hfz24_2 := yBq BK134.out 2; have hfz24_3 := yBq BK134.out 3))
       repeat (go_quiet (first | (go_at_call 149; (with_reducible refine (spec_l04All.calls kj1 _ _ l0_1 _ _ l0_0 t137 t138 t139 _ ?side1 ?side2 ?side3 ?side4 A15.out).mono ?_); (case side1 => repeat (first | exact (yBc HR0_1.out HB.out) | (with_reducible refine yBb ?_ _) | (with_reducible refine yBe ?_ _) | (with_reducible refine yBd ?_))); (case side2 => exact HC0_1.out); (case side3 => repeat (first | exact (yBc HR0_0.out HB.out) | (with_reducible refine yBb ?_ _) | (with_reducible refine yBe ?_ _) | (with_reducible refine yBd ?_))); (case side4 => exact HC0_0.out); rintro e w23 ⟨rfl, hb⟩; have n0_ := yBa (yBm (g := gb134) (o := .cells #[.slice A0_0 l0_0.length c0_0, .slice A0_1 l0_1.length c0_1, .slice A0_2 l0_2.length c0_2, .slice A0_3 l0_3.length c0_3] 64 (0, 0)) (by (with_reducible repeat (first | refine yBp ?_ _ | refine yBo ?_ | refine yBl ?_ _)); exact BK134.out) hb); have n1_ := yBa (yBk (by repeat (first | (with_reducible first | exact HB.out | apply yBh | apply yBr | apply yBi | refine yBj ?_ GE134.out) | exact HB.out)) hb); clear BK134; clear HB; have BK134 := n0_; have HB := n1_; clear n0_ n1_; (try clear hb); (try clear hb2); (try clear hk); (try clear hi); have hcz24_0 : w23.cell? ⟨gb134, 0, none⟩ = some (.slice A0_0 l0_0.length c0_0) := (yBn BK134.out 0).trans rfl; have hcz24_1 : w23.cell? ⟨gb134, 1, none⟩ = some (.slice A0_1 l0_1.length c0_1) := (yBn BK134.out 1).trans rfl; have hcz24_2 : w23.cell? ⟨gb134, 2, none⟩ = some (.slice A0_2 l0_2.length c0_2) := (yBn BK134.out 2).trans rfl; have hcz24_3 : w23.cell? ⟨gb134, 3, none⟩ = some (.slice A0_3 l0_3.length c0_3) := (yBn BK134.out 3).trans rfl; have hfz24_0 := yBq BK134.out 0; have hfz24_1 := yBq BK134.out 1; have hfz24_2 := yBq BK134.out 2; have hfz24_3 := yBq BK134.out 3)); try go_wp2_with (first | (go_at_call 149; (with_reducible refine (spec_l04All.calls kj1 _ _ l0_1 _ _ l0_0 t137 t138 t139 _ ?side1 ?side2 ?side3 ?side4 A15.out).mono ?_); (case side1 => repeat (first | exact (yBc HR0_1.out HB.out) | (with_reducible refine yBb ?_ _) | (with_reducible refine yBe ?_ _) | (with_reducible refine yBd ?_))); (case side2 => exact HC0_1.out); (case side3 => repeat (first | exact (yBc HR0_0.out HB.out) | (with_reducible refine yBb ?_ _) | (with_reducible refine yBe ?_ _) | (with_reducible refine yBd ?_))); (case side4 => exact HC0_0.out); rintro e w23 ⟨rfl, hb⟩; have n0_ := yBa (yBm (g := gb134) (o := .cells #[.slice A0_0 l0_0.length c0_0, .slice A0_1 l0_1.length c0_1, .slice A0_2 l0_2.length c0_2, .slice A0_3 l0_3.length c0_3] 64 (0, 0)) (by (with_reducible repeat (first | refine yBp ?_ _ | refine yBo ?_ | refine yBl ?_ _)); exact BK134.out) hb); have n1_ := yBa (yBk (by repeat (first | (with_reducible first | exact HB.out | apply yBh | apply yBr | apply yBi | refine yBj ?_ GE134.out) | exact HB.out)) hb); clear BK134; clear HB; have BK134 := n0_; have HB := n1_; clear n0_ n1_; (try clear hb); (try clear hb2); (try clear hk); (try clear hi); have hcz24_0 : w23.cell? ⟨gb134, 0, none⟩ = some (.slice A0_0 l0_0.length c0_0) := (yBn BK134.out 0).trans rfl; have hcz24_1 : w23.cell? ⟨gb134, 1, none⟩ = some (.slice A0_1 l0_1.length c0_1) := (yBn BK134.out 1).trans rfl; have hcz24_2 : w23.cell? ⟨gb134, 2, none⟩ = some (.slice A0_2 l0_2.length c0_2) := (yBn BK134.out 2).trans rfl; have hcz24_3 : w23.cell? ⟨gb134, 3, none⟩ = some (.slice A0_3 l0_3.length c0_3) := (yBn BK134.out 3).trans rfl; have hfz24_0 := yBq BK134.out 0; have hfz24_1 := yBq BK134.out 1; have hfz24_2 := yBq BK134.out 2; have hfz24_3 := yBq BK134.out 3)))
       go_ret2
       exact ⟨by first | rfl | (simp [errW_none, errW_some] <;> rfl) | (simp [*, errW_none, errW_some] <;> rfl), by repeat (first | (with_reducible first | exact HB.out | apply yBh | apply yBr | apply yBi | refine yBj ?_ GE134.out) | exact HB.out)⟩
      ·
       rw [if_neg c21] at H
       have c21b0 : decide (5 < (l0_2.length : Int)) = false := decide_eq_false c21
       have c21b1 : decide (5 < l0_2.length) = false := decide_eq_false (by omega)
       clear c21
       have H' := yBa H
       clear H
       have hcz25_0 : wc.cell? ⟨gb134, 0, none⟩ = some (.slice A0_0 l0_0.length c0_0) := (yBn BK134.out 0).trans rfl
       have hcz25_1 : wc.cell? ⟨gb134, 1, none⟩ = some (.slice A0_1 l0_1.length c0_1) := (yBn BK134.out 1).trans rfl
       have hcz25_2 : wc.cell? ⟨gb134, 2, none⟩ = some (.slice A0_2 l0_2.length c0_2) := (yBn BK134.out 2).trans rfl
       have hcz25_3 : wc.cell? ⟨gb134, 3, none⟩ = some (.slice A0_3 l0_3.length c0_3) := (yBn BK134.out 3).trans rfl
       have hfz25_0 := yBq BK134.out 0
       have hfz25_1 := yBq BK134.out 1
       have hfz25_2 := yBq BK134.out 2
       have hfz25_3 := yBq BK134.out 3
       go_wp2_with (first | (go_at_call 149; (with_reducible refine (spec_l04All.calls kj1 _ _ l0_1 _ _ l0_0 t137 t138 t139 _ ?side1 ?side2 ?side3 ?side4 A15.out).mono ?_); (case side1 => repeat (first | exact (yBc HR0_1.out HB.out) | (with_reducible refine yBb ?_ _) | (with_reducible refine yBe ?_ _) | (with_reducible refine yBd ?_))); (case side2 => exact HC0_1.out); (case side3 => repeat (first | exact (yBc HR0_0.out HB.out) | (with_reducible refine yBb ?_ _) | (with_reducible refine yBe ?_ _) | (with_reducible refine yBd ?_))); (case side4 => exact HC0_0.out); rintro e w26 ⟨rfl, hb⟩; have n0_ := yBa (yBm (g := gb134) (o := .cells #[.slice A0_0 l0_0.length c0_0, .slice A0_1 l0_1.length c0_1, .slice A0_2 l0_2.length c0_2, .slice A0_3 l0_3.length c0_3] 64 (0, 0)) (by (with_reducible repeat (first | refine yBp ?_ _ | refine yBo ?_ | refine yBl ?_ _)); exact BK134.out) hb); have n1_ := yBa (yBk (by repeat (first | (with_reducible first | exact HB.out | apply yBh | apply yBr | apply yBi | refine yBj ?_ GE134.out) | exact HB.out)) hb); clear BK134; clear HB; have BK134 := n0_; have HB := n1_; clear n0_ n1_; (try clear hb); (try clear hb2); (try clear hk); (try clear hi); have hcz27_0 : w26.cell? ⟨gb134, 0, none⟩ = some (.slice A0_0 l0_0.length c0_0) := (yBn BK134.out 0).trans rfl; have hcz27_1 : w26.cell? ⟨gb134, 1, none⟩ = some (.slice A0_1 l0_1.length c0_1) := (yBn BK134.out 1).trans rfl; have hcz27_2 : w26.cell? ⟨gb134, 2, none⟩ = some (.slice A0_2 l0_2.length c0_2) := (yBn BK134.out 2).trans rfl; have hcz27_3 : w26.cell? ⟨gb134, 3, none⟩ = some (.slice A0_3 l0_3.length c0_3) := (yBn BK134.out 3).trans rfl; have hfz27_0 := yBq BK134.out 0; have hfz27_1 := yBq BK134.out 1; have hfz27_2 := yBq BK134.out 2; have hfz27_3 := yBq BK134.out 3))
       repeat (go_quiet (first | (go_at_call 149; (with_reducible refine (spec_l04All.calls kj1 _ _ l0_1 _ _ l0_0 t137 t138 t139 _ ?side1 ?side2 ?side3 ?side4 A15.out).mono ?_); (case side1 => repeat (first | exact (yBc HR0_1.out HB.out) | (with_reducible refine yBb ?_ _) | (with_reducible refine yBe ?_ _) | (with_reducible refine yBd ?_))); (case side2 => exact HC0_1.out); (case side3 => repeat (first | exact (yBc HR0_0.out HB.out) | (with_reducible refine yBb ?_ _) | (with_reducible refine yBe ?_ _) | (with_reducible refine yBd ?_))); (case side4 => exact HC0_0.out); rintro e w26 ⟨rfl, hb⟩; have n0_ := yBa (yBm (g := gb134) (o := .cells #[.slice A0_0 l0_0.length c0_0, .slice A0_1 l0_1.length c0_1, .slice A0_2 l0_2.length c0_2, .slice A0_3 l0_3.length c0_3] 64 (0, 0)) (by (with_reducible repeat (first | refine yBp ?_ _ | refine yBo ?_ | refine yBl ?_ _)); exact BK134.out) hb); have n1_ := yBa (yBk (by repeat (first | (with_reducible first | exact HB.out | apply yBh | apply yBr | apply yBi | refine yBj ?_ GE134.out) | exact HB.out)) hb); clear BK134; clear HB; have BK134 := n0_; have HB := n1_; clear n0_ n1_; (try clear hb); (try clear hb2); (try clear hk); (try clear hi); have hcz27_0 : w26.cell? ⟨gb134, 0, none⟩ = some (.slice A0_0 l0_0.length c0_0) := (yBn BK134.out 0).trans rfl; have hcz27_1 : w26.cell? ⟨gb134, 1, none⟩ = some (.slice A0_1 l0_1.length c0_1) := (yBn BK134.out 1).trans rfl; have hcz27_2 : w26.cell? ⟨gb134, 2, none⟩ = some (.slice A0_2 l0_2.length c0_2) := (yBn BK134.out 2).trans rfl; have hcz27_3 : w26.cell? ⟨gb134, 3, none⟩ = some (.slice A0_3 l0_3.length c0_3) := (yBn BK134.out 3).trans rfl; have hfz27_0 := yBq BK134.out 0; have hfz27_1 := yBq BK134.out 1; have hfz27_2 := yBq BK134.out 2; have hfz27_3 := yBq BK134.out 3)); try go_wp2_with (first | (go_at_call 149; (with_reducible refine (spec_l04All.calls kj1 _ _ l0_1 _ _ l0_0 t137 t138 t139 _ ?side1 ?side2 ?side3 ?side4 A15.out).mono ?_); (case side1 => repeat (first | exact (yBc HR0_1.out HB.out) | (with_reducible refine yBb ?_ _) | (with_reducible refine yBe ?_ _) | (with_reducible refine yBd ?_))); (case side2 => exact HC0_1.out); (case side3 => repeat (first | exact (yBc HR0_0.out HB.out) | (with_reducible refine yBb ?_ _) | (with_reducible refine yBe ?_ _) | (with_reducible refine yBd ?_))); (case side4 => exact HC0_0.out); rintro e w26 ⟨rfl, hb⟩; have n0_ := yBa (yBm (g := gb134) (o := .cells #[.slice A0_0 l0_0.length c0_0, .slice A0_1 l0_1.length c0_1, .slice A0_2 l0_2.length c0_2, .slice A0_3 l0_3.length c0_3] 64 (0, 0)) (by (with_reducible repeat (first | refine yBp ?_ _ | refine yBo ?_ | refine yBl ?_ _)); exact BK134.out) hb); have n1_ := yBa (yBk (by repeat (first | (with_reducible first | exact HB.out | apply yBh | apply yBr | apply yBi | refine yBj ?_ GE134.out) | exact HB.out)) hb); clear BK134; clear HB; have BK134 := n0_; have HB := n1_; clear n0_ n1_; (try clear hb); (try clear hb2); (try clear hk); (try clear hi); have hcz27_0 : w26.cell? ⟨gb134, 0, none⟩ = some (.slice A0_0 l0_0.length c0_0) := (yBn BK134.out 0).trans rfl; have hcz27_1 : w26.cell? ⟨gb134, 1, none⟩ = some (.slice A0_1 l0_1.length c0_1) := (yBn BK134.out 1).trans rfl; have hcz27_2 : w26.cell? ⟨gb134, 2, none⟩ = some (.slice A0_2 l0_2.length c0_2) := (yBn BK134.out 2).trans rfl; have hcz27_3 : w26.cell? ⟨gb134, 3, none⟩ = some (.slice A0_3 l0_3.length c0_3) := (yBn BK134.out 3).trans rfl; have hfz27_0 := yBq BK134.out 0; have hfz27_1 := yBq BK134.out 1; have hfz27_2 := yBq BK134.out 2; have hfz27_3 := yBq BK134.out 3)))
       go_loopg [7] kj1 (fun kq v7 w' => ∃ (x7_2 : Int), v7 = .int .i64 x7_2 ∧ Aside0 (spec_l08Check.l0 kq x7_2 l0_0 l0_1 l0_2 l0_3 = some (r1, r2)) ∧ Aside0 (kq ≤ kj1) ∧ Aside0 (w'.heap[gb134]? = some (.cells #[(.slice A0_0 l0_0.length c0_0), (.slice A0_1 l0_1.length c0_1), (.slice A0_2 l0_2.length c0_2), (.slice A0_3 l0_3.length c0_3)] 64 (0, 0))) ∧ Aside0 (Below w.heap.size w w'))
       case atStart => exact ⟨(0), (by first | rfl | (simp; done) | (simp [*]; done)), H', ⟨Nat.le_refl _⟩, ⟨by (with_reducible repeat (first | refine yBp ?_ _ | refine yBo ?_ | refine yBl ?_ _)); exact BK134.out⟩, ⟨by repeat (first | (with_reducible first | exact HB.out | apply yBh | apply yBr | apply yBi | refine yBj ?_ GE134.out) | exact HB.out)⟩⟩
       case round =>
        clear H'
        try clear c1
        try clear c2
        try clear p2
        try clear c5
        try clear c7
        try clear c9
        try clear c14
        try clear c16
        try clear c16b0
        try clear c16b1
        try clear c17
        try clear c17b0
        try clear c17b1
        try clear c17b2
        try clear c21
        try clear c21b0
        try clear c21b1
        try clear hcz10_0
        try clear hcz10_1
        try clear hcz10_2
        try clear hcz10_3
        try clear hcz11_0
        try clear hcz11_1
        try clear hcz11_2
        try clear hcz11_3
        try clear hcz13_0
        try clear hcz13_1
        try clear hcz13_2
        try clear hcz13_3
        try clear hcz18_0
        try clear hcz18_1
        try clear hcz18_2
        try clear hcz18_3
        try clear hcz20_0
        try clear hcz20_1
        try clear hcz20_2
        try clear hcz20_3
        try clear hcz22_0
        try clear hcz22_1
        try clear hcz22_2
        try clear hcz22_3
        try clear hcz24_0
        try clear hcz24_1
        try clear hcz24_2
        try clear hcz24_3
        try clear hcz25_0
        try clear hcz25_1
        try clear hcz25_2
        try clear hcz25_3
        try clear hcz27_0
        try clear hcz27_1
        try clear hcz27_2
        try clear hcz27_3
        try clear hcz8_0
        try clear hcz8_1
        try clear hcz8_2
        try clear hcz8_3
        try clear hfz10_0
        try clear hfz10_1
        try clear hfz10_2
        try clear hfz10_3
        try clear hfz11_0
        try clear hfz11_1
        try clear hfz11_2
        try clear hfz11_3
        try clear hfz13_0
        try clear hfz13_1
        try clear hfz13_2
        try clear hfz13_3
        try clear hfz18_0
        try clear hfz18_1
        try clear hfz18_2
        try clear hfz18_3
        try clear hfz20_0
        try clear hfz20_1
        try clear hfz20_2
        try clear hfz20_3
        try clear hfz22_0
        try clear hfz22_1
        try clear hfz22_2
        try clear hfz22_3
        try clear hfz24_0
        try clear hfz24_1
        try clear hfz24_2
        try clear hfz24_3
        try clear hfz25_0
        try clear hfz25_1
        try clear hfz25_2
        try clear hfz25_3
        try clear hfz27_0
        try clear hfz27_1
        try clear hfz27_2
        try clear hfz27_3
        try clear hfz8_0
        try clear hfz8_1
        try clear hfz8_2
        try clear hfz8_3
        try clear p2
        obtain ⟨x7_2, rfl, HA, HK2, BK134, HB⟩ := hrel
        cases gk with
        | zero => exact absurd HA.out (by simp [spec_l08Check.l0])
        | succ k2 =>
         have H := HA.out
         clear HA
         simp only [spec_l08Check.l0] at H
         by_cases c28 : x7_2 < (l0_2.length : Int)
         ·
          rw [if_pos c28] at H
          have c28b0 : decide (x7_2 < (l0_2.length : Int)) = true := decide_eq_true c28
          clear c28
          by_cases c29 : 0 ≤ x7_2
          ·
           rw [if_pos c29] at H
           have c29b0 : decide (0 ≤ x7_2) = true := decide_eq_true c29
           clear c29
           replace H := Option.bind_eq_some_iff.mp H
           obtain ⟨t141, A300, H⟩ := H
           replace H : (if t141 = true then (if ((rd_T135 l0_2 x7_2).f5) ≥ (l0_1.length : Int) then (some (x7_2, 15)) else (spec_l08Check.l0 k2 (wrap64 (x7_2 + 1)) l0_0 l0_1 l0_2 l0_3)) else (some (x7_2, 10))) = some (r1, r2) := H
           have A30 := yBa A300
           clear A300
           by_cases c31 : t141 = true
           ·
            subst c31
            have H1 : (if ((rd_T135 l0_2 x7_2).f5) ≥ (l0_1.length : Int) then (some (x7_2, 15)) else (spec_l08Check.l0 k2 (wrap64 (x7_2 + 1)) l0_0 l0_1 l0_2 l0_3)) = some (r1, r2) := by rw [if_pos rfl] at H; exact H
            clear H
            have H := H1
            clear H1
            by_cases c32 : ((rd_T135 l0_2 x7_2).f5) ≥ (l0_1.length : Int)
            ·
             rw [if_pos c32] at H
             have c32b0 : decide ((l0_1.length : Int) ≤ ((rd_T135 l0_2 x7_2).f5)) = true := decide_eq_true c32
             clear c32
             simp only [Option.some.injEq, Prod.mk.injEq] at H
             obtain ⟨rfl, rfl⟩ := H
             have hcz33_0 : wr.cell? ⟨gb134, 0, none⟩ = some (.slice A0_0 l0_0.length c0_0) := (yBn BK134.out 0).trans rfl
             have hcz33_1 : wr.cell? ⟨gb134, 1, none⟩ = some (.slice A0_1 l0_1.length c0_1) := (yBn BK134.out 1).trans rfl
             have hcz33_2 : wr.cell? ⟨gb134, 2, none⟩ = some (.slice A0_2 l0_2.length c0_2) := (yBn BK134.out 2).trans rfl
             have hcz33_3 : wr.cell? ⟨gb134, 3, none⟩ = some (.slice A0_3 l0_3.length c0_3) := (yBn BK134.out 3).trans rfl
             have hfz33_0 := yBq BK134.out 0
             have hfz33_1 := yBq BK134.out 1
             have hfz33_2 := yBq BK134.out 2
             have hfz33_3 := yBq BK134.out 3
             have p140 : 0 ≤ (x7_2 : Int) := of_decide_eq_true (by first | (with_reducible assumption) | assumption)
             have q140 : x7_2 < (l0_2.length : Int) := of_decide_eq_true (by first | (with_reducible assumption) | assumption)
             obtain ⟨ad140, e140, hx140_0, hx140_1, hx140_2, hx140_3, hx140_4, hx140_5⟩ := at_T135 HR0_2.out x7_2 p140 q140
             cases e140
             replace hx140_0 := (HB.out.cell (yBf w _ hx140_0)).trans hx140_0
             replace hx140_1 := (HB.out.cell (yBf w _ hx140_1)).trans hx140_1
             replace hx140_2 := (HB.out.cell (yBf w _ hx140_2)).trans hx140_2
             replace hx140_3 := (HB.out.cell (yBf w _ hx140_3)).trans hx140_3
             replace hx140_4 := (HB.out.cell (yBf w _ hx140_4)).trans hx140_4
             replace hx140_5 := (HB.out.cell (yBf w _ hx140_5)).trans hx140_5
             replace p140 := eq_true p140
             replace q140 := eq_true q140
             go_wp2_with (first | (go_at_call 153; (with_reducible refine (spec_TaskOK.calls k2 ((rd_T135 l0_2 x7_2).f0) ((rd_T135 l0_2 x7_2).f1) ((rd_T135 l0_2 x7_2).f2) ((rd_T135 l0_2 x7_2).f3) ((rd_T135 l0_2 x7_2).f4) ((rd_T135 l0_2 x7_2).f5) true _ A30.out).mono ?_); rintro e w34 ⟨rfl, hb⟩; have n0_ := yBa (yBm (g := gb134) (o := .cells #[.slice A0_0 l0_0.length c0_0, .slice A0_1 l0_1.length c0_1, .slice (some ad140) l0_2.length c0_2, .slice A0_3 l0_3.length c0_3] 64 (0, 0)) (by (with_reducible repeat (first | refine yBp ?_ _ | refine yBo ?_ | refine yBl ?_ _)); exact BK134.out) hb); have n1_ := yBa (yBk (by repeat (first | (with_reducible first | exact HB.out | apply yBh | apply yBr | apply yBi | refine yBj ?_ GE134.out) | exact HB.out)) hb); clear BK134; clear HB; have BK134 := n0_; have HB := n1_; clear n0_ n1_; (try clear hb); (try clear hb2); (try clear hk); (try clear hi); have hcz35_0 : w34.cell? ⟨gb134, 0, none⟩ = some (.slice A0_0 l0_0.length c0_0) := (yBn BK134.out 0).trans rfl; have hcz35_1 : w34.cell? ⟨gb134, 1, none⟩ = some (.slice A0_1 l0_1.length c0_1) := (yBn BK134.out 1).trans rfl; have hcz35_2 : w34.cell? ⟨gb134, 2, none⟩ = some (.slice (some ad140) l0_2.length c0_2) := (yBn BK134.out 2).trans rfl; have hcz35_3 : w34.cell? ⟨gb134, 3, none⟩ = some (.slice A0_3 l0_3.length c0_3) := (yBn BK134.out 3).trans rfl; have hfz35_0 := yBq BK134.out 0; have hfz35_1 := yBq BK134.out 1; have hfz35_2 := yBq BK134.out 2; have hfz35_3 := yBq BK134.out 3; have p142 : 0 ≤ (x7_2 : Int) := of_decide_eq_true (by first | (with_reducible assumption) | assumption); have q142 : x7_2 < (l0_2.length : Int) := of_decide_eq_true (by first | (with_reducible assumption) | assumption); obtain ⟨ad142, e142, hx142_0, hx142_1, hx142_2, hx142_3, hx142_4, hx142_5⟩ := at_T135 HR0_2.out x7_2 p142 q142; obtain rfl : ad140 = ad142 := (by injection e142); replace hx142_0 := (HB.out.cell (yBf w _ hx142_0)).trans hx142_0; replace hx142_1 := (HB.out.cell (yBf w _ hx142_1)).trans hx142_1; replace hx142_2 := (HB.out.cell (yBf w _ hx142_2)).trans hx142_2; replace hx142_3 := (HB.out.cell (yBf w _ hx142_3)).trans hx142_3; replace hx142_4 := (HB.out.cell (yBf w _ hx142_4)).trans hx142_4; replace hx142_5 := (HB.out.cell (yBf w _ hx142_5)).trans hx142_5; replace p142 := eq_true p142; replace q142 := eq_true q142))
             repeat (go_quiet (first | (go_at_call 153; (with_reducible refine (spec_TaskOK.calls k2 ((rd_T135 l0_2 x7_2).f0) ((rd_T135 l0_2 x7_2).f1) ((rd_T135 l0_2 x7_2).f2) ((rd_T135 l0_2 x7_2).f3) ((rd_T135 l0_2 x7_2).f4) ((rd_T135 l0_2 x7_2).f5) true _ A30.out).mono ?_); rintro e w34 ⟨rfl, hb⟩; have n0_ := yBa (yBm (g := gb134) (o := .cells #[.slice A0_0 l0_0.length c0_0, .slice A0_1 l0_1.length c0_1, .slice (some ad140) l0_2.length c0_2, .slice A0_3 l0_3.length c0_3] 64 (0, 0)) (by (with_reducible repeat (first | refine yBp ?_ _ | refine yBo ?_ | refine yBl ?_ _)); exact BK134.out) hb); have n1_ := yBa (yBk (by repeat (first | (with_reducible first | exact HB.out | apply yBh | apply yBr | apply yBi | refine yBj ?_ GE134.out) | exact HB.out)) hb); clear BK134; clear HB; have BK134 := n0_; have HB := n1_; clear n0_ n1_; (try clear hb); (try clear hb2); (try clear hk); (try clear hi); have hcz35_0 : w34.cell? ⟨gb134, 0, none⟩ = some (.slice A0_0 l0_0.length c0_0) := (yBn BK134.out 0).trans rfl; have hcz35_1 : w34.cell? ⟨gb134, 1, none⟩ = some (.slice A0_1 l0_1.length c0_1) := (yBn BK134.out 1).trans rfl; have hcz35_2 : w34.cell? ⟨gb134, 2, none⟩ = some (.slice (some ad140) l0_2.length c0_2) := (yBn BK134.out 2).trans rfl; have hcz35_3 : w34.cell? ⟨gb134, 3, none⟩ = some (.slice A0_3 l0_3.length c0_3) := (yBn BK134.out 3).trans rfl; have hfz35_0 := yBq BK134.out 0; have hfz35_1 := yBq BK134.out 1; have hfz35_2 := yBq BK134.out 2; have hfz35_3 := yBq BK134.out 3; have p142 : 0 ≤ (x7_2 : Int) := of_decide_eq_true (by first | (with_reducible assumption) | assumption); have q142 : x7_2 < (l0_2.length : Int) := of_decide_eq_true (by first | (with_reducible assumption) | assumption); obtain ⟨ad142, e142, hx142_0, hx142_1, hx142_2, hx142_3, hx142_4, hx142_5⟩ := at_T135 HR0_2.out x7_2 p142 q142; obtain rfl : ad140 = ad142 := (by injection e142); replace hx142_0 := (HB.out.cell (yBf w _ hx142_0)).trans hx142_0; replace hx142_1 := (HB.out.cell (yBf w _ hx142_1)).trans hx142_1; replace hx142_2 := (HB.out.cell (yBf w _ hx142_2)).trans hx142_2; replace hx142_3 := (HB.out.cell (yBf w _ hx142_3)).trans hx142_3; replace hx142_4 := (HB.out.cell (yBf w _ hx142_4)).trans hx142_4; replace hx142_5 := (HB.out.cell (yBf w _ hx142_5)).trans hx142_5; replace p142 := eq_true p142; replace q142 := eq_true q142)); try go_wp2_with (first | (go_at_call 153; (with_reducible refine (spec_TaskOK.calls k2 ((rd_T135 l0_2 x7_2).f0) ((rd_T135 l0_2 x7_2).f1) ((rd_T135 l0_2 x7_2).f2) ((rd_T135 l0_2 x7_2).f3) ((rd_T135 l0_2 x7_2).f4) ((rd_T135 l0_2 x7_2).f5) true _ A30.out).mono ?_); rintro e w34 ⟨rfl, hb⟩; have n0_ := yBa (yBm (g := gb134) (o := .cells #[.slice A0_0 l0_0.length c0_0, .slice A0_1 l0_1.length c0_1, .slice (some ad140) l0_2.length c0_2, .slice A0_3 l0_3.length c0_3] 64 (0, 0)) (by (with_reducible repeat (first | refine yBp ?_ _ | refine yBo ?_ | refine yBl ?_ _)); exact BK134.out) hb); have n1_ := yBa (yBk (by repeat (first | (with_reducible first | exact HB.out | apply yBh | apply yBr | apply yBi | refine yBj ?_ GE134.out) | exact HB.out)) hb); clear BK134; clear HB; have BK134 := n0_; have HB := n1_; clear n0_ n1_; (try clear hb); (try clear hb2); (try clear hk); (try clear hi); have hcz35_0 : w34.cell? ⟨gb134, 0, none⟩ = some (.slice A0_0 l0_0.length c0_0) := (yBn BK134.out 0).trans rfl; have hcz35_1 : w34.cell? ⟨gb134, 1, none⟩ = some (.slice A0_1 l0_1.length c0_1) := (yBn BK134.out 1).trans rfl; have hcz35_2 : w34.cell? ⟨gb134, 2, none⟩ = some (.slice (some ad140) l0_2.length c0_2) := (yBn BK134.out 2).trans rfl; have hcz35_3 : w34.cell? ⟨gb134, 3, none⟩ = some (.slice A0_3 l0_3.length c0_3) := (yBn BK134.out 3).trans rfl; have hfz35_0 := yBq BK134.out 0; have hfz35_1 := yBq BK134.out 1; have hfz35_2 := yBq BK134.out 2; have hfz35_3 := yBq BK134.out 3; have p142 : 0 ≤ (x7_2 : Int) := of_decide_eq_true (by first | (with_reducible assumption) | assumption); have q142 : x7_2 < (l0_2.length : Int) := of_decide_eq_true (by first | (with_reducible assumption) | assumption); obtain ⟨ad142, e142, hx142_0, hx142_1, hx142_2, hx142_3, hx142_4, hx142_5⟩ := at_T135 HR0_2.out x7_2 p142 q142; obtain rfl : ad140 = ad142 := (by injection e142); replace hx142_0 := (HB.out.cell (yBf w _ hx142_0)).trans hx142_0; replace hx142_1 := (HB.out.cell (yBf w _ hx142_1)).trans hx142_1; replace hx142_2 := (HB.out.cell (yBf w _ hx142_2)).trans hx142_2; replace hx142_3 := (HB.out.cell (yBf w _ hx142_3)).trans hx142_3; replace hx142_4 := (HB.out.cell (yBf w _ hx142_4)).trans hx142_4; replace hx142_5 := (HB.out.cell (yBf w _ hx142_5)).trans hx142_5; replace p142 := eq_true p142; replace q142 := eq_true q142)))
             go_ret2
             exact ⟨by first | rfl | (simp [errW_none, errW_some] <;> rfl) | (simp [*, errW_none, errW_some] <;> rfl), by repeat (first | (with_reducible first | exact HB.out | apply yBh | apply yBr | apply yBi | refine yBj ?_ GE134.out) | exact HB.out)⟩
            ·
             rw [if_neg c32] at H
             have c32b0 : decide ((l0_1.length : Int) ≤ ((rd_T135 l0_2 x7_2).f5)) = false := decide_eq_false c32
             clear c32
             have H' := yBa H
             clear H
             have hcz36_0 : wr.cell? ⟨gb134, 0, none⟩ = some (.slice A0_0 l0_0.length c0_0) := (yBn BK134.out 0).trans rfl
             have hcz36_1 : wr.cell? ⟨gb134, 1, none⟩ = some (.slice A0_1 l0_1.length c0_1) := (yBn BK134.out 1).trans rfl
             have hcz36_2 : wr.cell? ⟨gb134, 2, none⟩ = some (.slice A0_2 l0_2.length c0_2) := (yBn BK134.out 2).trans rfl
             have hcz36_3 : wr.cell? ⟨gb134, 3, none⟩ = some (.slice A0_3 l0_3.length c0_3) := (yBn BK134.out 3).trans rfl
             have hfz36_0 := yBq BK134.out 0
             have hfz36_1 := yBq BK134.out 1
             have hfz36_2 := yBq BK134.out 2
             have hfz36_3 := yBq BK134.out 3
             have p140 : 0 ≤ (x7_2 : Int) := of_decide_eq_true (by first | (with_reducible assumption) | assumption)
             have q140 : x7_2 < (l0_2.length : Int) := of_decide_eq_true (by first | (with_reducible assumption) | assumption)
             obtain ⟨ad140, e140, hx140_0, hx140_1, hx140_2, hx140_3, hx140_4, hx140_5⟩ := at_T135 HR0_2.out x7_2 p140 q140
             cases e140
             replace hx140_0 := (HB.out.cell (yBf w _ hx140_0)).trans hx140_0
             replace hx140_1 := (HB.out.cell (yBf w _ hx140_1)).trans hx140_1
             replace hx140_2 := (HB.out.cell (yBf w _ hx140_2)).trans hx140_2
             replace hx140_3 := (HB.out.cell (yBf w _ hx140_3)).trans hx140_3
             replace hx140_4 := (HB.out.cell (yBf w _ hx140_4)).trans hx140_4
             replace hx140_5 := (HB.out.cell (yBf w _ hx140_5)).trans hx140_5
             replace p140 := eq_true p140
             replace q140 := eq_true q140
             go_wp2_with (first | (go_at_call 153; (with_reducible refine (spec_TaskOK.calls k2 ((rd_T135 l0_2 x7_2).f0) ((rd_T135 l0_2 x7_2).f1) ((rd_T135 l0_2 x7_2).f2) ((rd_T135 l0_2 x7_2).f3) ((rd_T135 l0_2 x7_2).f4) ((rd_T135 l0_2 x7_2).f5) true _ A30.out).mono ?_); rintro e w37 ⟨rfl, hb⟩; have n0_ := yBa (yBm (g := gb134) (o := .cells #[.slice A0_0 l0_0.length c0_0, .slice A0_1 l0_1.length c0_1, .slice (some ad140) l0_2.length c0_2, .slice A0_3 l0_3.length c0_3] 64 (0, 0)) (by (with_reducible repeat (first | refine yBp ?_ _ | refine yBo ?_ | refine yBl ?_ _)); exact BK134.out) hb); have n1_ := yBa (yBk (by repeat (first | (with_reducible first | exact HB.out | apply yBh | apply yBr | apply yBi | refine yBj ?_ GE134.out) | exact HB.out)) hb); clear BK134; clear HB; have BK134 := n0_; have HB := n1_; clear n0_ n1_; (try clear hb); (try clear hb2); (try clear hk); (try clear hi); have hcz38_0 : w37.cell? ⟨gb134, 0, none⟩ = some (.slice A0_0 l0_0.length c0_0) := (yBn BK134.out 0).trans rfl; have hcz38_1 : w37.cell? ⟨gb134, 1, none⟩ = some (.slice A0_1 l0_1.length c0_1) := (yBn BK134.out 1).trans rfl; have hcz38_2 : w37.cell? ⟨gb134, 2, none⟩ = some (.slice (some ad140) l0_2.length c0_2) := (yBn BK134.out 2).trans rfl; have hcz38_3 : w37.cell? ⟨gb134, 3, none⟩ = some (.slice A0_3 l0_3.length c0_3) := (yBn BK134.out 3).trans rfl; have hfz38_0 := yBq BK134.out 0; have hfz38_1 := yBq BK134.out 1; have hfz38_2 := yBq BK134.out 2; have hfz38_3 := yBq BK134.out 3; have p142 : 0 ≤ (x7_2 : Int) := of_decide_eq_true (by first | (with_reducible assumption) | assumption); have q142 : x7_2 < (l0_2.length : Int) := of_decide_eq_true (by first | (with_reducible assumption) | assumption); obtain ⟨ad142, e142, hx142_0, hx142_1, hx142_2, hx142_3, hx142_4, hx142_5⟩ := at_T135 HR0_2.out x7_2 p142 q142; obtain rfl : ad140 = ad142 := (by injection e142); replace hx142_0 := (HB.out.cell (yBf w _ hx142_0)).trans hx142_0; replace hx142_1 := (HB.out.cell (yBf w _ hx142_1)).trans hx142_1; replace hx142_2 := (HB.out.cell (yBf w _ hx142_2)).trans hx142_2; replace hx142_3 := (HB.out.cell (yBf w _ hx142_3)).trans hx142_3; replace hx142_4 := (HB.out.cell (yBf w _ hx142_4)).trans hx142_4; replace hx142_5 := (HB.out.cell (yBf w _ hx142_5)).trans hx142_5; replace p142 := eq_true p142; replace q142 := eq_true q142))
             repeat (go_quiet (first | (go_at_call 153; (with_reducible refine (spec_TaskOK.calls k2 ((rd_T135 l0_2 x7_2).f0) ((rd_T135 l0_2 x7_2).f1) ((rd_T135 l0_2 x7_2).f2) ((rd_T135 l0_2 x7_2).f3) ((rd_T135 l0_2 x7_2).f4) ((rd_T135 l0_2 x7_2).f5) true _ A30.out).mono ?_); rintro e w37 ⟨rfl, hb⟩; have n0_ := yBa (yBm (g := gb134) (o := .cells #[.slice A0_0 l0_0.length c0_0, .slice A0_1 l0_1.length c0_1, .slice (some ad140) l0_2.length c0_2, .slice A0_3 l0_3.length c0_3] 64 (0, 0)) (by (with_reducible repeat (first | refine yBp ?_ _ | refine yBo ?_ | refine yBl ?_ _)); exact BK134.out) hb); have n1_ := yBa (yBk (by repeat (first | (with_reducible first | exact HB.out | apply yBh | apply yBr | apply yBi | refine yBj ?_ GE134.out) | exact HB.out)) hb); clear BK134; clear HB; have BK134 := n0_; have HB := n1_; clear n0_ n1_; (try clear hb); (try clear hb2); (try clear hk); (try clear hi); have hcz38_0 : w37.cell? ⟨gb134, 0, none⟩ = some (.slice A0_0 l0_0.length c0_0) := (yBn BK134.out 0).trans rfl; have hcz38_1 : w37.cell? ⟨gb134, 1, none⟩ = some (.slice A0_1 l0_1.length c0_1) := (yBn BK134.out 1).trans rfl; have hcz38_2 : w37.cell? ⟨gb134, 2, none⟩ = some (.slice (some ad140) l0_2.length c0_2) := (yBn BK134.out 2).trans rfl; have hcz38_3 : w37.cell? ⟨gb134, 3, none⟩ = some (.slice A0_3 l0_3.length c0_3) := (yBn BK134.out 3).trans rfl; have hfz38_0 := yBq BK134.out 0; have hfz38_1 := yBq BK134.out 1; have hfz38_2 := yBq BK134.out 2; have hfz38_3 := yBq BK134.out 3; have p142 : 0 ≤ (x7_2 : Int) := of_decide_eq_true (by first | (with_reducible assumption) | assumption); have q142 : x7_2 < (l0_2.length : Int) := of_decide_eq_true (by first | (with_reducible assumption) | assumption); obtain ⟨ad142, e142, hx142_0, hx142_1, hx142_2, hx142_3, hx142_4, hx142_5⟩ := at_T135 HR0_2.out x7_2 p142 q142; obtain rfl : ad140 = ad142 := (by injection e142); replace hx142_0 := (HB.out.cell (yBf w _ hx142_0)).trans hx142_0; replace hx142_1 := (HB.out.cell (yBf w _ hx142_1)).trans hx142_1; replace hx142_2 := (HB.out.cell (yBf w _ hx142_2)).trans hx142_2; replace hx142_3 := (HB.out.cell (yBf w _ hx142_3)).trans hx142_3; replace hx142_4 := (HB.out.cell (yBf w _ hx142_4)).trans hx142_4; replace hx142_5 := (HB.out.cell (yBf w _ hx142_5)).trans hx142_5; replace p142 := eq_true p142; replace q142 := eq_true q142)); try go_wp2_with (first | (go_at_call 153; (with_reducible refine (spec_TaskOK.calls k2 ((rd_T135 l0_2 x7_2).f0) ((rd_T135 l0_2 x7_2).f1) ((rd_T135 l0_2 x7_2).f2) ((rd_T135 l0_2 x7_2).f3) ((rd_T135 l0_2 x7_2).f4) ((rd_T135 l0_2 x7_2).f5) true _ A30.out).mono ?_); rintro e w37 ⟨rfl, hb⟩; have n0_ := yBa (yBm (g := gb134) (o := .cells #[.slice A0_0 l0_0.length c0_0, .slice A0_1 l0_1.length c0_1, .slice (some ad140) l0_2.length c0_2, .slice A0_3 l0_3.length c0_3] 64 (0, 0)) (by (with_reducible repeat (first | refine yBp ?_ _ | refine yBo ?_ | refine yBl ?_ _)); exact BK134.out) hb); have n1_ := yBa (yBk (by repeat (first | (with_reducible first | exact HB.out | apply yBh | apply yBr | apply yBi | refine yBj ?_ GE134.out) | exact HB.out)) hb); clear BK134; clear HB; have BK134 := n0_; have HB := n1_; clear n0_ n1_; (try clear hb); (try clear hb2); (try clear hk); (try clear hi); have hcz38_0 : w37.cell? ⟨gb134, 0, none⟩ = some (.slice A0_0 l0_0.length c0_0) := (yBn BK134.out 0).trans rfl; have hcz38_1 : w37.cell? ⟨gb134, 1, none⟩ = some (.slice A0_1 l0_1.length c0_1) := (yBn BK134.out 1).trans rfl; have hcz38_2 : w37.cell? ⟨gb134, 2, none⟩ = some (.slice (some ad140) l0_2.length c0_2) := (yBn BK134.out 2).trans rfl; have hcz38_3 : w37.cell? ⟨gb134, 3, none⟩ = some (.slice A0_3 l0_3.length c0_3) := (yBn BK134.out 3).trans rfl; have hfz38_0 := yBq BK134.out 0; have hfz38_1 := yBq BK134.out 1; have hfz38_2 := yBq BK134.out 2; have hfz38_3 := yBq BK134.out 3; have p142 : 0 ≤ (x7_2 : Int) := of_decide_eq_true (by first | (with_reducible assumption) | assumption); have q142 : x7_2 < (l0_2.length : Int) := of_decide_eq_true (by first | (with_reducible assumption) | assumption); obtain ⟨ad142, e142, hx142_0, hx142_1, hx142_2, hx142_3, hx142_4, hx142_5⟩ := at_T135 HR0_2.out x7_2 p142 q142; obtain rfl : ad140 = ad142 := (by injection e142); replace hx142_0 := (HB.out.cell (yBf w _ hx142_0)).trans hx142_0; replace hx142_1 := (HB.out.cell (yBf w _ hx142_1)).trans hx142_1; replace hx142_2 := (HB.out.cell (yBf w _ hx142_2)).trans hx142_2; replace hx142_3 := (HB.out.cell (yBf w _ hx142_3)).trans hx142_3; replace hx142_4 := (HB.out.cell (yBf w _ hx142_4)).trans hx142_4; replace hx142_5 := (HB.out.cell (yBf w _ hx142_5)).trans hx142_5; replace p142 := eq_true p142; replace q142 := eq_true q142)))
             go_roundg k2
             case measure => have := HJ1.out; have := HK2.out; omega
             case rel => exact ⟨(wrap64 (x7_2 + 1)), (by first | rfl | (simp; done) | (simp [*]; done)), H', ⟨by have := HJ1.out; have := HK2.out; omega⟩, ⟨by (with_reducible repeat (first | refine yBp ?_ _ | refine yBo ?_ | refine yBl ?_ _)); exact BK134.out⟩, ⟨by repeat (first | (with_reducible first | exact HB.out | apply yBh | apply yBr | apply yBi | refine yBj ?_ GE134.out) | exact HB.out)⟩⟩
           ·
            replace c31 := Bool.eq_false_iff.mpr c31
            subst c31
            have H1 : (some (x7_2, 10)) = some (r1, r2) := by rw [if_neg (show ¬ (false = true) by decide)] at H; exact H
            clear H
            have H := H1
            clear H1
            simp only [Option.some.injEq, Prod.mk.injEq] at H
            obtain ⟨rfl, rfl⟩ := H
            have hcz39_0 : wr.cell? ⟨gb134, 0, none⟩ = some (.slice A0_0 l0_0.length c0_0) := (yBn BK134.out 0).trans rfl
            have hcz39_1 : wr.cell? ⟨gb134, 1, none⟩ = some (.slice A0_1 l0_1.length c0_1) := (yBn BK134.out 1).trans rfl
            have hcz39_2 : wr.cell? ⟨gb134, 2, none⟩ = some (.slice A0_2 l0_2.length c0_2) := (yBn BK134.out 2).trans rfl
            have hcz39_3 : wr.cell? ⟨gb134, 3, none⟩ = some (.slice A0_3 l0_3.length c0_3) := (yBn BK134.out 3).trans rfl
            have hfz39_0 := yBq BK134.out 0
            have hfz39_1 := yBq BK134.out 1
            have hfz39_2 := yBq BK134.out 2
            have hfz39_3 := yBq BK134.out 3
            have p140 : 0 ≤ (x7_2 : Int) := of_decide_eq_true (by first | (with_reducible assumption) | assumption)
            have q140 : x7_2 < (l0_2.length : Int) := of_decide_eq_true (by first | (with_reducible assumption) | assumption)
            obtain ⟨ad140, e140, hx140_0, hx140_1, hx140_2, hx140_3, hx140_4, hx140_5⟩ := at_T135 HR0_2.out x7_2 p140 q140
            cases e140
            replace hx140_0 := (HB.out.cell (yBf w _ hx140_0)).trans hx140_0
            replace hx140_1 := (HB.out.cell (yBf w _ hx140_1)).trans hx140_1
            replace hx140_2 := (HB.out.cell (yBf w _ hx140_2)).trans hx140_2
            replace hx140_3 := (HB.out.cell (yBf w _ hx140_3)).trans hx140_3
            replace hx140_4 := (HB.out.cell (yBf w _ hx140_4)).trans hx140_4
            replace hx140_5 := (HB.out.cell (yBf w _ hx140_5)).trans hx140_5
            replace p140 := eq_true p140
            replace q140 := eq_true q140
            go_wp2_with (first | (go_at_call 153; (with_reducible refine (spec_TaskOK.calls k2 ((rd_T135 l0_2 x7_2).f0) ((rd_T135 l0_2 x7_2).f1) ((rd_T135 l0_2 x7_2).f2) ((rd_T135 l0_2 x7_2).f3) ((rd_T135 l0_2 x7_2).f4) ((rd_T135 l0_2 x7_2).f5) false _ A30.out).mono ?_); rintro e w40 ⟨rfl, hb⟩; have n0_ := yBa (yBm (g := gb134) (o := .cells #[.slice A0_0 l0_0.length c0_0, .slice A0_1 l0_1.length c0_1, .slice (some ad140) l0_2.length c0_2, .slice A0_3 l0_3.length c0_3] 64 (0, 0)) (by (with_reducible repeat (first | refine yBp ?_ _ | refine yBo ?_ | refine yBl ?_ _)); exact BK134.out) hb); have n1_ := yBa (yBk (by repeat (first | (with_reducible first | exact HB.out | apply yBh | apply yBr | apply yBi | refine yBj ?_ GE134.out) | exact HB.out)) hb); clear BK134; clear HB; have BK134 := n0_; have HB := n1_; clear n0_ n1_; (try clear hb); (try clear hb2); (try clear hk); (try clear hi)))
            repeat (go_quiet (first | (go_at_call 153; (with_reducible refine (spec_TaskOK.calls k2 ((rd_T135 l0_2 x7_2).f0) ((rd_T135 l0_2 x7_2).f1) ((rd_T135 l0_2 x7_2).f2) ((rd_T135 l0_2 x7_2).f3) ((rd_T135 l0_2 x7_2).f4) ((rd_T135 l0_2 x7_2).f5) false _ A30.out).mono ?_); rintro e w40 ⟨rfl, hb⟩; have n0_ := yBa (yBm (g := gb134) (o := .cells #[.slice A0_0 l0_0.length c0_0, .slice A0_1 l0_1.length c0_1, .slice (some ad140) l0_2.length c0_2, .slice A0_3 l0_3.length c0_3] 64 (0, 0)) (by (with_reducible repeat (first | refine yBp ?_ _ | refine yBo ?_ | refine yBl ?_ _)); exact BK134.out) hb); have n1_ := yBa (yBk (by repeat (first | (with_reducible first | exact HB.out | apply yBh | apply yBr | apply yBi | refine yBj ?_ GE134.out) | exact HB.out)) hb); clear BK134; clear HB; have BK134 := n0_; have HB := n1_; clear n0_ n1_; (try clear hb); (try clear hb2); (try clear hk); (try clear hi))); try go_wp2_with (first | (go_at_call 153; (with_reducible refine (spec_TaskOK.calls k2 ((rd_T135 l0_2 x7_2).f0) ((rd_T135 l0_2 x7_2).f1) ((rd_T135 l0_2 x7_2).f2) ((rd_T135 l0_2 x7_2).f3) ((rd_T135 l0_2 x7_2).f4) ((rd_T135 l0_2 x7_2).f5) false _ A30.out).mono ?_); rintro e w40 ⟨rfl, hb⟩; have n0_ := yBa (yBm (g := gb134) (o := .cells #[.slice A0_0 l0_0.length c0_0, .slice A0_1 l0_1.length c0_1, .slice (some ad140) l0_2.length c0_2, .slice A0_3 l0_3.length c0_3] 64 (0, 0)) (by (with_reducible repeat (first | refine yBp ?_ _ | refine yBo ?_ | refine yBl ?_ _)); exact BK134.out) hb); have n1_ := yBa (yBk (by repeat (first | (with_reducible first | exact HB.out | apply yBh | apply yBr | apply yBi | refine yBj ?_ GE134.out) | exact HB.out)) hb); clear BK134; clear HB; have BK134 := n0_; have HB := n1_; clear n0_ n1_; (try clear hb); (try clear hb2); (try clear hk); (try clear hi))))
            go_ret2
            exact ⟨by first | rfl | (simp [errW_none, errW_some] <;> rfl) | (simp [*, errW_none, errW_some] <;> rfl), by repeat (first | (with_reducible first | exact HB.out | apply yBh | apply yBr | apply yBi | refine yBj ?_ GE134.out) | exact HB.out)⟩
          ·
           rw [if_neg c29] at H
           exact absurd H (by simp)
         ·
          rw [if_neg c28] at H
          have c28b0 : decide (x7_2 < (l0_2.length : Int)) = false := decide_eq_false c28
          clear c28
          simp only [Option.some.injEq, Prod.mk.injEq] at H
          obtain ⟨rfl, rfl⟩ := H
          have hcz41_0 : wr.cell? ⟨gb134, 0, none⟩ = some (.slice A0_0 l0_0.length c0_0) := (yBn BK134.out 0).trans rfl
          have hcz41_1 : wr.cell? ⟨gb134, 1, none⟩ = some (.slice A0_1 l0_1.length c0_1) := (yBn BK134.out 1).trans rfl
          have hcz41_2 : wr.cell? ⟨gb134, 2, none⟩ = some (.slice A0_2 l0_2.length c0_2) := (yBn BK134.out 2).trans rfl
          have hcz41_3 : wr.cell? ⟨gb134, 3, none⟩ = some (.slice A0_3 l0_3.length c0_3) := (yBn BK134.out 3).trans rfl
          have hfz41_0 := yBq BK134.out 0
          have hfz41_1 := yBq BK134.out 1
          have hfz41_2 := yBq BK134.out 2
          have hfz41_3 := yBq BK134.out 3
          go_wp2
          repeat (go_quiet (fail); try go_wp2)
          go_ret2
          exact ⟨by first | rfl | (simp [errW_none, errW_some] <;> rfl) | (simp [*, errW_none, errW_some] <;> rfl), by repeat (first | (with_reducible first | exact HB.out | apply yBh | apply yBr | apply yBi | refine yBj ?_ GE134.out) | exact HB.out)⟩
    ·
     rw [if_neg c16] at H
     have c16b0 : (t139 == 0) = false := beq_eq_false_iff_ne.mpr c16
     have c16b1 : (t139 != 0) = true := bne_iff_ne.mpr c16
     simp only [Option.some.injEq, Prod.mk.injEq] at H
     obtain ⟨rfl, rfl⟩ := H
     have hcz42_0 : wc.cell? ⟨gb134, 0, none⟩ = some (.slice A0_0 l0_0.length c0_0) := (yBn BK134.out 0).trans rfl
     have hcz42_1 : wc.cell? ⟨gb134, 1, none⟩ = some (.slice A0_1 l0_1.length c0_1) := (yBn BK134.out 1).trans rfl
     have hcz42_2 : wc.cell? ⟨gb134, 2, none⟩ = some (.slice A0_2 l0_2.length c0_2) := (yBn BK134.out 2).trans rfl
     have hcz42_3 : wc.cell? ⟨gb134, 3, none⟩ = some (.slice A0_3 l0_3.length c0_3) := (yBn BK134.out 3).trans rfl
     have hfz42_0 := yBq BK134.out 0
     have hfz42_1 := yBq BK134.out 1
     have hfz42_2 := yBq BK134.out 2
     have hfz42_3 := yBq BK134.out 3
     go_wp2_with (first | (go_at_call 149; (with_reducible refine (spec_l04All.calls kj1 _ _ l0_1 _ _ l0_0 t137 t138 t139 _ ?side1 ?side2 ?side3 ?side4 A15.out).mono ?_); (case side1 => repeat (first | exact (yBc HR0_1.out HB.out) | (with_reducible refine yBb ?_ _) | (with_reducible refine yBe ?_ _) | (with_reducible refine yBd ?_))); (case side2 => exact HC0_1.out); (case side3 => repeat (first | exact (yBc HR0_0.out HB.out) | (with_reducible refine yBb ?_ _) | (with_reducible refine yBe ?_ _) | (with_reducible refine yBd ?_))); (case side4 => exact HC0_0.out); rintro e w43 ⟨rfl, hb⟩; have n0_ := yBa (yBm (g := gb134) (o := .cells #[.slice A0_0 l0_0.length c0_0, .slice A0_1 l0_1.length c0_1, .slice A0_2 l0_2.length c0_2, .slice A0_3 l0_3.length c0_3] 64 (0, 0)) (by (with_reducible repeat (first | refine yBp ?_ _ | refine yBo ?_ | refine yBl ?_ _)); exact BK134.out) hb); have n1_ := yBa (yBk (by repeat (first | (with_reducible first | exact HB.out | apply yBh | apply yBr | apply yBi | refine yBj ?_ GE134.out) | exact HB.out)) hb); clear BK134; clear HB; have BK134 := n0_; have HB := n1_; clear n0_ n1_; (try clear hb); (try clear hb2); (try clear hk); (try clear hi)))
     repeat (go_quiet (first | (go_at_call 149; (with_reducible refine (spec_l04All.calls kj1 _ _ l0_1 _ _ l0_0 t137 t138 t139 _ ?side1 ?side2 ?side3 ?side4 A15.out).mono ?_); (case side1 => repeat (first | exact (yBc HR0_1.out HB.out) | (with_reducible refine yBb ?_ _) | (with_reducible refine yBe ?_ _) | (with_reducible refine yBd ?_))); (case side2 => exact HC0_1.out); (case side3 => repeat (first | exact (yBc HR0_0.out HB.out) | (with_reducible refine yBb ?_ _) | (with_reducible refine yBe ?_ _) | (with_reducible refine yBd ?_))); (case side4 => exact HC0_0.out); rintro e w43 ⟨rfl, hb⟩; have n0_ := yBa (yBm (g := gb134) (o := .cells #[.slice A0_0 l0_0.length c0_0, .slice A0_1 l0_1.length c0_1, .slice A0_2 l0_2.length c0_2, .slice A0_3 l0_3.length c0_3] 64 (0, 0)) (by (with_reducible repeat (first | refine yBp ?_ _ | refine yBo ?_ | refine yBl ?_ _)); exact BK134.out) hb); have n1_ := yBa (yBk (by repeat (first | (with_reducible first | exact HB.out | apply yBh | apply yBr | apply yBi | refine yBj ?_ GE134.out) | exact HB.out)) hb); clear BK134; clear HB; have BK134 := n0_; have HB := n1_; clear n0_ n1_; (try clear hb); (try clear hb2); (try clear hk); (try clear hi))); try go_wp2_with (first | (go_at_call 149; (with_reducible refine (spec_l04All.calls kj1 _ _ l0_1 _ _ l0_0 t137 t138 t139 _ ?side1 ?side2 ?side3 ?side4 A15.out).mono ?_); (case side1 => repeat (first | exact (yBc HR0_1.out HB.out) | (with_reducible refine yBb ?_ _) | (with_reducible refine yBe ?_ _) | (with_reducible refine yBd ?_))); (case side2 => exact HC0_1.out); (case side3 => repeat (first | exact (yBc HR0_0.out HB.out) | (with_reducible refine yBb ?_ _) | (with_reducible refine yBe ?_ _) | (with_reducible refine yBd ?_))); (case side4 => exact HC0_0.out); rintro e w43 ⟨rfl, hb⟩; have n0_ := yBa (yBm (g := gb134) (o := .cells #[.slice A0_0 l0_0.length c0_0, .slice A0_1 l0_1.length c0_1, .slice A0_2 l0_2.length c0_2, .slice A0_3 l0_3.length c0_3] 64 (0, 0)) (by (with_reducible repeat (first | refine yBp ?_ _ | refine yBo ?_ | refine yBl ?_ _)); exact BK134.out) hb); have n1_ := yBa (yBk (by repeat (first | (with_reducible first | exact HB.out | apply yBh | apply yBr | apply yBi | refine yBj ?_ GE134.out) | exact HB.out)) hb); clear BK134; clear HB; have BK134 := n0_; have HB := n1_; clear n0_ n1_; (try clear hb); (try clear hb2); (try clear hk); (try clear hi))))
     go_ret2
     exact ⟨by first | rfl | (simp [errW_none, errW_some] <;> rfl) | (simp [*, errW_none, errW_some] <;> rfl), by repeat (first | (with_reducible first | exact HB.out | apply yBh | apply yBr | apply yBi | refine yBj ?_ GE134.out) | exact HB.out)⟩

end Go.Proofs.Ytkegjmkdnfpfdaa.MFnExactCheckProgram
