-- By a program of this session.
import Derived.Test.YtkegjmkdnfpfdaaMFnExactImageTextx0
import Derived.Test.YtkegjmkdnfpfdaaMFnExactImageTextx12
import Derived.Test.YtkegjmkdnfpfdaaMFnExactImageTextx15
import Derived.Test.YtkegjmkdnfpfdaaMFnExactImageTextx21
import Derived.Test.YtkegjmkdnfpfdaaMFnExactImageTextx22
namespace Go.Proofs.Ytkegjmkdnfpfdaa.MFnExactImageText
open Go.RowKit Go.Proofs.YtkegjmkdnfpfdaaW.PrintWords Go.Proofs.YtkegjmkdnfpfdaaW.PrintLast Go.Proofs.YtkegjmkdnfpfdaaW.PrintMore
attribute [local go_sem] max2_int min2_int max_two min_two max_three min_three max_four min_four
set_option linter.unusedVariables false
set_option linter.unusedSimpArgs false
set_option maxHeartbeats 8000000
set_option maxRecDepth 100000

/-! ### spec_l08Check: function 92 -/
mutual
def spec_l08Check.j0 : Nat → Bool → List Int → List (S124) → List (S135) → List Bool → Option (Int × Int)
 | 0, _, _, _, _, _ => none
 | k + 1, x23, x224000, x224001, x224002, x224003 => if x23 = true then (some (0, 1)) else ((spec_l04All.f k x224001 x224000).bind fun bt226 => (if bt226.2.2 = 0 then (if (x224002.length : Int) = 0 then (some (0, 5)) else (if (x224002.length : Int) > 5 then (some (0, 6)) else (spec_l08Check.l0 k 0 x224000 x224001 x224002 x224003))) else (some (bt226.1, bt226.2.2))))
def spec_l08Check.l0 : Nat → Int → List Int → List (S124) → List (S135) → List Bool → Option (Int × Int)
 | 0, _, _, _, _, _ => none
 | k + 1, x7, x224000, x224001, x224002, x224003 => if x7 < (x224002.length : Int) then (if 0 ≤ x7 then ((spec_TaskOK.f k ((rd_T135 x224002 x7).f0) ((rd_T135 x224002 x7).f1) ((rd_T135 x224002 x7).f2) ((rd_T135 x224002 x7).f3) ((rd_T135 x224002 x7).f4) ((rd_T135 x224002 x7).f5)).bind fun t230 => (if t230 = true then (if ((rd_T135 x224002 x7).f5) ≥ (x224001.length : Int) then (some (x7, 15)) else (spec_l08Check.l0 k (wrap64 (x7 + 1)) x224000 x224001 x224002 x224003)) else (some (x7, 10)))) else (none)) else (some (0, 0))
end
def spec_l08Check.f (k : Nat) (l0_0 : List Int) (l0_1 : List (S124)) (l0_2 : List (S135)) (l0_3 : List Bool) : Option (Int × Int) := (spec_l04Kinds.f k l0_0).bind fun t224 => (if t224 = true then ((spec_l04Routines.f k l0_1).bind fun t225 => (if t225 = true then (spec_l08Check.j0 k ((l0_3.length : Int) != 8) l0_0 l0_1 l0_2 l0_3) else (spec_l08Check.j0 k true l0_0 l0_1 l0_2 l0_3))) else (spec_l08Check.j0 k true l0_0 l0_1 l0_2 l0_3))
theorem spec_l08Check.mono_l : ∀ k, (∀ y0 y1 y2 y3 y4, LeO (spec_l08Check.j0 k y0 y1 y2 y3 y4) (spec_l08Check.j0 (k + 1) y0 y1 y2 y3 y4)) ∧ (∀ y0 y1 y2 y3 y4, LeO (spec_l08Check.l0 k y0 y1 y2 y3 y4) (spec_l08Check.l0 (k + 1) y0 y1 y2 y3 y4))
 | 0 => ⟨fun _ _ _ _ _ r h => by simp [spec_l08Check.j0] at h, fun _ _ _ _ _ r h => by simp [spec_l08Check.l0] at h⟩
 | k + 1 => by
  obtain ⟨ih0, ih1⟩ := spec_l08Check.mono_l k
  refine ⟨?_, ?_⟩
  ·intro y0 y1 y2 y3 y4
   unfold spec_l08Check.j0
   repeat' first
   | (with_reducible exact ih0 _ _ _ _ _)
   | (with_reducible exact ih1 _ _ _ _ _)
   | (with_reducible exact spec_TaskOK.mono _ _ _ _ _ _ _)
   | (with_reducible exact spec_l04All.mono _ _ _)
   | (with_reducible exact spec_l04Kinds.mono _ _)
   | (with_reducible exact spec_l04Routines.mono _ _)
   | (with_reducible exact LeO.refl _)
   | (with_reducible exact LeO.none _)
   | (with_reducible refine LeO.ite ?_ ?_)
   | (with_reducible refine LeO.bind ?_ (fun _ => ?_))
  ·intro y0 y1 y2 y3 y4
   unfold spec_l08Check.l0
   repeat' first
   | (with_reducible exact ih0 _ _ _ _ _)
   | (with_reducible exact ih1 _ _ _ _ _)
   | (with_reducible exact spec_TaskOK.mono _ _ _ _ _ _ _)
   | (with_reducible exact spec_l04All.mono _ _ _)
   | (with_reducible exact spec_l04Kinds.mono _ _)
   | (with_reducible exact spec_l04Routines.mono _ _)
   | (with_reducible exact LeO.refl _)
   | (with_reducible exact LeO.none _)
   | (with_reducible refine LeO.ite ?_ ?_)
   | (with_reducible refine LeO.bind ?_ (fun _ => ?_))
theorem spec_l08Check.mono : ∀ a0 a1 a2 a3 k, LeO (spec_l08Check.f k a0 a1 a2 a3) (spec_l08Check.f (k + 1) a0 a1 a2 a3) := by
 intro a0 a1 a2 a3 k
 obtain ⟨ih0, ih1⟩ := spec_l08Check.mono_l k
 unfold spec_l08Check.f
 repeat' first
  | (with_reducible exact ih0 _ _ _ _ _)
  | (with_reducible exact ih1 _ _ _ _ _)
  | (with_reducible exact spec_TaskOK.mono _ _ _ _ _ _ _)
  | (with_reducible exact spec_l04All.mono _ _ _)
  | (with_reducible exact spec_l04Kinds.mono _ _)
  | (with_reducible exact spec_l04Routines.mono _ _)
  | (with_reducible exact LeO.refl _)
  | (with_reducible exact LeO.none _)
  | (with_reducible refine LeO.ite ?_ ?_)
  | (with_reducible refine LeO.bind ?_ (fun _ => ?_))
theorem spec_l08Check.calls (k : Nat) (A0_0 : Option Addr) (c0_0 : Nat) (l0_0 : List Int) (A0_1 : Option Addr) (c0_1 : Nat) (l0_1 : List (S124)) (A0_2 : Option Addr) (c0_2 : Nat) (l0_2 : List (S135)) (A0_3 : Option Addr) (c0_3 : Nat) (l0_3 : List Bool) (r1 : Int) (r2 : Int) (w : World) (hr0_0 : Kd.C (Kd.int .i64) w A0_0 l0_0.length l0_0) (hc0_0 : l0_0.length ≤ c0_0) (hr0_1 : Kd.C k124 w A0_1 l0_1.length l0_1) (hc0_1 : l0_1.length ≤ c0_1) (hr0_2 : Kd.C k135 w A0_2 l0_2.length l0_2) (hc0_2 : l0_2.length ≤ c0_2) (hr0_3 : Kd.C Kd.bool w A0_3 l0_3.length l0_3) (hc0_3 : l0_3.length ≤ c0_3) (h : spec_l08Check.f k l0_0 l0_1 l0_2 l0_3 = some (r1, r2)) :
 Calls Try.prog 92 #[.agg #[.slice A0_0 l0_0.length c0_0, .slice A0_1 l0_1.length c0_1, .slice A0_2 l0_2.length c0_2, .slice A0_3 l0_3.length c0_3]] w fun e w' => e = .returned (.tuple #[.int .i64 r1, .int .i64 r2]) ∧ Below w.heap.size w w' := by
 have hu64 := Try.underlying64
 have hu135 := Try.underlying135
 have HR0_0 := zQ hr0_0
 have HC0_0 := zQ hc0_0
 clear hr0_0 hc0_0
 have HR0_1 := zQ hr0_1
 have HC0_1 := zQ hc0_1
 clear hr0_1 hc0_1
 have HR0_2 := zQ hr0_2
 have HC0_2 := zQ hc0_2
 clear hr0_2 hc0_2
 have HR0_3 := zQ hr0_3
 have HC0_3 := zQ hc0_3
 clear hr0_3 hc0_3
 have HB := zQ (Below.refl w.heap.size w)
 have H : ((spec_l04Kinds.f k l0_0).bind fun t224 => (if t224 = true then ((spec_l04Routines.f k l0_1).bind fun t225 => (if t225 = true then (spec_l08Check.j0 k ((l0_3.length : Int) != 8) l0_0 l0_1 l0_2 l0_3) else (spec_l08Check.j0 k true l0_0 l0_1 l0_2 l0_3))) else (spec_l08Check.j0 k true l0_0 l0_1 l0_2 l0_3))) = some (r1, r2) := h
 clear h
 have HC2 := zQ H
 clear H
 go_enter Try.func92, Try.ntmps92
 go_upto_region 1 with (first | ((with_reducible refine gate_dst (N := 1) rfl ?_); (try (refine gate_guard (by rfl) ?_; dsimp only)); refine box_event ?hg (N := 1) ?hd (cs := #[.slice A0_0 l0_0.length c0_0, .slice A0_1 l0_1.length c0_1, .slice A0_2 l0_2.length c0_2, .slice A0_3 l0_3.length c0_3]) (t := 64) ?hr ?_; (case hd => rfl); (case hg => rfl); (case hr => first | (go_simp; done) | (go_simp; rfl)); intro gb223 hg w3 hbox hb; have n0_ := zQ (below_step (zB HB.out) hb); have n1_ := zQ (hbox); have n2_ := zQ ((zG hg HB.out)); have n3_ := zQ ((zG hg HB.out)); clear HB; have HB := n0_; have BK223 := n1_; have GW223 := n2_; have GE223 := n3_; clear n0_ n1_ n2_ n3_; clear hb hbox hg))
 repeat (go_quiet (first | ((with_reducible refine gate_dst (N := 1) rfl ?_); (try (refine gate_guard (by rfl) ?_; dsimp only)); refine box_event ?hg (N := 1) ?hd (cs := #[.slice A0_0 l0_0.length c0_0, .slice A0_1 l0_1.length c0_1, .slice A0_2 l0_2.length c0_2, .slice A0_3 l0_3.length c0_3]) (t := 64) ?hr ?_; (case hd => rfl); (case hg => rfl); (case hr => first | (go_simp; done) | (go_simp; rfl)); intro gb223 hg w3 hbox hb; have n0_ := zQ (below_step (zB HB.out) hb); have n1_ := zQ (hbox); have n2_ := zQ ((zG hg HB.out)); have n3_ := zQ ((zG hg HB.out)); clear HB; have HB := n0_; have BK223 := n1_; have GW223 := n2_; have GE223 := n3_; clear n0_ n1_ n2_ n3_; clear hb hbox hg)); go_upto_region 1 with (first | ((with_reducible refine gate_dst (N := 1) rfl ?_); (try (refine gate_guard (by rfl) ?_; dsimp only)); refine box_event ?hg (N := 1) ?hd (cs := #[.slice A0_0 l0_0.length c0_0, .slice A0_1 l0_1.length c0_1, .slice A0_2 l0_2.length c0_2, .slice A0_3 l0_3.length c0_3]) (t := 64) ?hr ?_; (case hd => rfl); (case hg => rfl); (case hr => first | (go_simp; done) | (go_simp; rfl)); intro gb223 hg w3 hbox hb; have n0_ := zQ (below_step (zB HB.out) hb); have n1_ := zQ (hbox); have n2_ := zQ ((zG hg HB.out)); have n3_ := zQ ((zG hg HB.out)); clear HB; have HB := n0_; have BK223 := n1_; have GW223 := n2_; have GE223 := n3_; clear n0_ n1_ n2_ n3_; clear hb hbox hg)))
 (try simp only [Act.put, List.setIfInBounds_toArray, List.set_cons_zero, List.set_cons_succ])
 go_cut [23] (fun v23 wc => ∃ (kq : Nat) (x23_1 : Bool), v23 = .bool x23_1 ∧ Aside0 (spec_l08Check.j0 kq x23_1 l0_0 l0_1 l0_2 l0_3 = some (r1, r2)) ∧ Aside0 (kq ≤ k) ∧ Aside0 (wc.heap[gb223]? = some (.cells #[(.slice A0_0 l0_0.length c0_0), (.slice A0_1 l0_1.length c0_1), (.slice A0_2 l0_2.length c0_2), (.slice A0_3 l0_3.length c0_3)] 64 (0, 0))) ∧ Aside0 (Below w.heap.size w wc))
 case first =>
  have H := HC2.out
  clear HC2
  replace H := Option.bind_eq_some_iff.mp H
  obtain ⟨t224, A40, H⟩ := H
  replace H : (if t224 = true then ((spec_l04Routines.f k l0_1).bind fun t225 => (if t225 = true then (spec_l08Check.j0 k ((l0_3.length : Int) != 8) l0_0 l0_1 l0_2 l0_3) else (spec_l08Check.j0 k true l0_0 l0_1 l0_2 l0_3))) else (spec_l08Check.j0 k true l0_0 l0_1 l0_2 l0_3)) = some (r1, r2) := H
  have A4 := zQ A40
  clear A40
  by_cases c5 : t224 = true
  ·subst c5
   have H1 : ((spec_l04Routines.f k l0_1).bind fun t225 => (if t225 = true then (spec_l08Check.j0 k ((l0_3.length : Int) != 8) l0_0 l0_1 l0_2 l0_3) else (spec_l08Check.j0 k true l0_0 l0_1 l0_2 l0_3))) = some (r1, r2) := by rw [if_pos rfl] at H; exact H
   clear H
   have H := H1
   clear H1
   replace H := Option.bind_eq_some_iff.mp H
   obtain ⟨t225, A60, H⟩ := H
   replace H : (if t225 = true then (spec_l08Check.j0 k ((l0_3.length : Int) != 8) l0_0 l0_1 l0_2 l0_3) else (spec_l08Check.j0 k true l0_0 l0_1 l0_2 l0_3)) = some (r1, r2) := H
   have A6 := zQ A60
   clear A60
   by_cases c7 : t225 = true
   ·subst c7
    have H1 : (spec_l08Check.j0 k ((l0_3.length : Int) != 8) l0_0 l0_1 l0_2 l0_3) = some (r1, r2) := by rw [if_pos rfl] at H; exact H
    clear H
    have H := H1
    clear H1
    have H' := zQ H
    clear H
    obtain ⟨hcz8_0, hcz8_1, hcz8_2, hcz8_3, hfz8_0, hfz8_1, hfz8_2, hfz8_3⟩ := zc4 BK223.out
    go_wp2_with (first | (go_at_call 136; (with_reducible refine (spec_l04Kinds.calls k _ _ l0_0 true _ ?side1 ?side2 A4.out).mono ?_); (case side1 => exact zE HR0_0 HB); (case side2 => exact HC0_0.out); rintro e w' ⟨rfl, ⟨nd, rfl⟩⟩; (try first | exact ⟨rfl, _, World.drewN_drewN _ _ _⟩ | exact ⟨rfl, _, Eq.trans (World.drewN_drewN _ _ _) (congrArg (World.drewN _) (Nat.add_assoc _ _ _))⟩)) | (go_at_call 148; (with_reducible refine (spec_l04Routines.calls k _ _ l0_1 true _ ?side1 ?side2 A6.out).mono ?_); (case side1 => exact zC (Kd.C_below HR0_1.out (zB HB.out))); (case side2 => exact HC0_1.out); rintro e w9 ⟨rfl, hb⟩; have n0_ := zQ (zL BK223.out hb); have n1_ := zQ (below_step (zB HB.out) hb); clear BK223; clear HB; have BK223 := n0_; have HB := n1_; clear n0_ n1_; (try clear hb); (try clear hb2); (try clear hk); (try clear hi); obtain ⟨hcz10_0, hcz10_1, hcz10_2, hcz10_3, hfz10_0, hfz10_1, hfz10_2, hfz10_3⟩ := zc4 BK223.out))
    repeat (go_quiet (first | (go_at_call 136; (with_reducible refine (spec_l04Kinds.calls k _ _ l0_0 true _ ?side1 ?side2 A4.out).mono ?_); (case side1 => exact zE HR0_0 HB); (case side2 => exact HC0_0.out); rintro e w' ⟨rfl, ⟨nd, rfl⟩⟩; (try first | exact ⟨rfl, _, World.drewN_drewN _ _ _⟩ | exact ⟨rfl, _, Eq.trans (World.drewN_drewN _ _ _) (congrArg (World.drewN _) (Nat.add_assoc _ _ _))⟩)) | (go_at_call 148; (with_reducible refine (spec_l04Routines.calls k _ _ l0_1 true _ ?side1 ?side2 A6.out).mono ?_); (case side1 => exact zC (Kd.C_below HR0_1.out (zB HB.out))); (case side2 => exact HC0_1.out); rintro e w9 ⟨rfl, hb⟩; have n0_ := zQ (zL BK223.out hb); have n1_ := zQ (below_step (zB HB.out) hb); clear BK223; clear HB; have BK223 := n0_; have HB := n1_; clear n0_ n1_; (try clear hb); (try clear hb2); (try clear hk); (try clear hi); obtain ⟨hcz10_0, hcz10_1, hcz10_2, hcz10_3, hfz10_0, hfz10_1, hfz10_2, hfz10_3⟩ := zc4 BK223.out)); try go_wp2_with (first | (go_at_call 136; (with_reducible refine (spec_l04Kinds.calls k _ _ l0_0 true _ ?side1 ?side2 A4.out).mono ?_); (case side1 => exact zE HR0_0 HB); (case side2 => exact HC0_0.out); rintro e w' ⟨rfl, ⟨nd, rfl⟩⟩; (try first | exact ⟨rfl, _, World.drewN_drewN _ _ _⟩ | exact ⟨rfl, _, Eq.trans (World.drewN_drewN _ _ _) (congrArg (World.drewN _) (Nat.add_assoc _ _ _))⟩)) | (go_at_call 148; (with_reducible refine (spec_l04Routines.calls k _ _ l0_1 true _ ?side1 ?side2 A6.out).mono ?_); (case side1 => exact zC (Kd.C_below HR0_1.out (zB HB.out))); (case side2 => exact HC0_1.out); rintro e w9 ⟨rfl, hb⟩; have n0_ := zQ (zL BK223.out hb); have n1_ := zQ (below_step (zB HB.out) hb); clear BK223; clear HB; have BK223 := n0_; have HB := n1_; clear n0_ n1_; (try clear hb); (try clear hb2); (try clear hk); (try clear hi); obtain ⟨hcz10_0, hcz10_1, hcz10_2, hcz10_3, hfz10_0, hfz10_1, hfz10_2, hfz10_3⟩ := zc4 BK223.out)))
    go_meet
    case rel => exact ⟨_, (((l0_3.length : Int) != 8)), (by first | rfl | (simp; done) | (simp [*]; done)), H', ⟨by first | omega | exact Nat.le_refl _⟩, ⟨by (with_reducible repeat (first | refine blk_drewN ?_ _ | refine blk_drew ?_ | refine blk_alloc ?_ _)); exact BK223.out⟩, ⟨zB HB.out⟩⟩
   ·replace c7 := Bool.eq_false_iff.mpr c7
    subst c7
    have H1 : (spec_l08Check.j0 k true l0_0 l0_1 l0_2 l0_3) = some (r1, r2) := by rw [if_neg (show ¬ (false = true) by decide)] at H; exact H
    clear H
    have H := H1
    clear H1
    have H' := zQ H
    clear H
    obtain ⟨hcz11_0, hcz11_1, hcz11_2, hcz11_3, hfz11_0, hfz11_1, hfz11_2, hfz11_3⟩ := zc4 BK223.out
    go_wp2_with (first | (go_at_call 136; (with_reducible refine (spec_l04Kinds.calls k _ _ l0_0 true _ ?side1 ?side2 A4.out).mono ?_); (case side1 => exact zE HR0_0 HB); (case side2 => exact HC0_0.out); rintro e w' ⟨rfl, ⟨nd, rfl⟩⟩; (try first | exact ⟨rfl, _, World.drewN_drewN _ _ _⟩ | exact ⟨rfl, _, Eq.trans (World.drewN_drewN _ _ _) (congrArg (World.drewN _) (Nat.add_assoc _ _ _))⟩)) | (go_at_call 148; (with_reducible refine (spec_l04Routines.calls k _ _ l0_1 false _ ?side1 ?side2 A6.out).mono ?_); (case side1 => exact zC (Kd.C_below HR0_1.out (zB HB.out))); (case side2 => exact HC0_1.out); rintro e w12 ⟨rfl, hb⟩; have n0_ := zQ (zL BK223.out hb); have n1_ := zQ (below_step (zB HB.out) hb); clear BK223; clear HB; have BK223 := n0_; have HB := n1_; clear n0_ n1_; (try clear hb); (try clear hb2); (try clear hk); (try clear hi)))
    repeat (go_quiet (first | (go_at_call 136; (with_reducible refine (spec_l04Kinds.calls k _ _ l0_0 true _ ?side1 ?side2 A4.out).mono ?_); (case side1 => exact zE HR0_0 HB); (case side2 => exact HC0_0.out); rintro e w' ⟨rfl, ⟨nd, rfl⟩⟩; (try first | exact ⟨rfl, _, World.drewN_drewN _ _ _⟩ | exact ⟨rfl, _, Eq.trans (World.drewN_drewN _ _ _) (congrArg (World.drewN _) (Nat.add_assoc _ _ _))⟩)) | (go_at_call 148; (with_reducible refine (spec_l04Routines.calls k _ _ l0_1 false _ ?side1 ?side2 A6.out).mono ?_); (case side1 => exact zC (Kd.C_below HR0_1.out (zB HB.out))); (case side2 => exact HC0_1.out); rintro e w12 ⟨rfl, hb⟩; have n0_ := zQ (zL BK223.out hb); have n1_ := zQ (below_step (zB HB.out) hb); clear BK223; clear HB; have BK223 := n0_; have HB := n1_; clear n0_ n1_; (try clear hb); (try clear hb2); (try clear hk); (try clear hi))); try go_wp2_with (first | (go_at_call 136; (with_reducible refine (spec_l04Kinds.calls k _ _ l0_0 true _ ?side1 ?side2 A4.out).mono ?_); (case side1 => exact zE HR0_0 HB); (case side2 => exact HC0_0.out); rintro e w' ⟨rfl, ⟨nd, rfl⟩⟩; (try first | exact ⟨rfl, _, World.drewN_drewN _ _ _⟩ | exact ⟨rfl, _, Eq.trans (World.drewN_drewN _ _ _) (congrArg (World.drewN _) (Nat.add_assoc _ _ _))⟩)) | (go_at_call 148; (with_reducible refine (spec_l04Routines.calls k _ _ l0_1 false _ ?side1 ?side2 A6.out).mono ?_); (case side1 => exact zC (Kd.C_below HR0_1.out (zB HB.out))); (case side2 => exact HC0_1.out); rintro e w12 ⟨rfl, hb⟩; have n0_ := zQ (zL BK223.out hb); have n1_ := zQ (below_step (zB HB.out) hb); clear BK223; clear HB; have BK223 := n0_; have HB := n1_; clear n0_ n1_; (try clear hb); (try clear hb2); (try clear hk); (try clear hi))))
    go_meet
    case rel => exact ⟨_, (true), (by first | rfl | (simp; done) | (simp [*]; done)), H', ⟨by first | omega | exact Nat.le_refl _⟩, ⟨by (with_reducible repeat (first | refine blk_drewN ?_ _ | refine blk_drew ?_ | refine blk_alloc ?_ _)); exact BK223.out⟩, ⟨zB HB.out⟩⟩
  ·replace c5 := Bool.eq_false_iff.mpr c5
   subst c5
   have H1 : (spec_l08Check.j0 k true l0_0 l0_1 l0_2 l0_3) = some (r1, r2) := by rw [if_neg (show ¬ (false = true) by decide)] at H; exact H
   clear H
   have H := H1
   clear H1
   have H' := zQ H
   clear H
   obtain ⟨hcz13_0, hcz13_1, hcz13_2, hcz13_3, hfz13_0, hfz13_1, hfz13_2, hfz13_3⟩ := zc4 BK223.out
   go_wp2_with (first | (go_at_call 136; (with_reducible refine (spec_l04Kinds.calls k _ _ l0_0 false _ ?side1 ?side2 A4.out).mono ?_); (case side1 => exact zE HR0_0 HB); (case side2 => exact HC0_0.out); rintro e w' ⟨rfl, ⟨nd, rfl⟩⟩; (try first | exact ⟨rfl, _, World.drewN_drewN _ _ _⟩ | exact ⟨rfl, _, Eq.trans (World.drewN_drewN _ _ _) (congrArg (World.drewN _) (Nat.add_assoc _ _ _))⟩)))
   repeat (go_quiet (first | (go_at_call 136; (with_reducible refine (spec_l04Kinds.calls k _ _ l0_0 false _ ?side1 ?side2 A4.out).mono ?_); (case side1 => exact zE HR0_0 HB); (case side2 => exact HC0_0.out); rintro e w' ⟨rfl, ⟨nd, rfl⟩⟩; (try first | exact ⟨rfl, _, World.drewN_drewN _ _ _⟩ | exact ⟨rfl, _, Eq.trans (World.drewN_drewN _ _ _) (congrArg (World.drewN _) (Nat.add_assoc _ _ _))⟩))); try go_wp2_with (first | (go_at_call 136; (with_reducible refine (spec_l04Kinds.calls k _ _ l0_0 false _ ?side1 ?side2 A4.out).mono ?_); (case side1 => exact zE HR0_0 HB); (case side2 => exact HC0_0.out); rintro e w' ⟨rfl, ⟨nd, rfl⟩⟩; (try first | exact ⟨rfl, _, World.drewN_drewN _ _ _⟩ | exact ⟨rfl, _, Eq.trans (World.drewN_drewN _ _ _) (congrArg (World.drewN _) (Nat.add_assoc _ _ _))⟩))))
   go_meet
   case rel => exact ⟨_, (true), (by first | rfl | (simp; done) | (simp [*]; done)), H', ⟨by first | omega | exact Nat.le_refl _⟩, ⟨by (with_reducible repeat (first | refine blk_drewN ?_ _ | refine blk_drew ?_ | refine blk_alloc ?_ _)); exact BK223.out⟩, ⟨zB HB.out⟩⟩
 case rest =>
  clear HC2
  try clear p2
  try clear c5
  try clear c7
  try clear c9
  try clear hcz10_0
  try clear hcz10_1
  try clear hcz10_2
  try clear hcz10_3
  try clear hcz11_0
  try clear hcz11_1
  try clear hcz11_2
  try clear hcz11_3
  try clear hcz13_0
  try clear hcz13_1
  try clear hcz13_2
  try clear hcz13_3
  try clear hcz8_0
  try clear hcz8_1
  try clear hcz8_2
  try clear hcz8_3
  try clear hfz10_0
  try clear hfz10_1
  try clear hfz10_2
  try clear hfz10_3
  try clear hfz11_0
  try clear hfz11_1
  try clear hfz11_2
  try clear hfz11_3
  try clear hfz13_0
  try clear hfz13_1
  try clear hfz13_2
  try clear hfz13_3
  try clear hfz8_0
  try clear hfz8_1
  try clear hfz8_2
  try clear hfz8_3
  obtain ⟨kq, x23_1, rfl, HA, HJ1, BK223, HB⟩ := hcut
  cases kq with
  | zero => exact absurd HA.out (by simp [spec_l08Check.j0])
  | succ kj1 =>
   have H := HA.out
   clear HA
   simp only [spec_l08Check.j0] at H
   by_cases c14 : x23_1 = true
   ·subst c14
    have H1 : (some (0, 1)) = some (r1, r2) := by rw [if_pos rfl] at H; exact H
    clear H
    have H := H1
    clear H1
    simp only [Option.some.injEq, Prod.mk.injEq] at H
    obtain ⟨rfl, rfl⟩ := H
    go_wp2
    repeat (go_quiet (fail); try go_wp2)
    go_ret2
    exact ⟨by first | rfl | (simp [errW_none, errW_some] <;> rfl) | (simp [*, errW_none, errW_some] <;> rfl), zB HB.out⟩
   ·replace c14 := Bool.eq_false_iff.mpr c14
    subst c14
    have H1 : ((spec_l04All.f kj1 l0_1 l0_0).bind fun bt226 => (if bt226.2.2 = 0 then (if (l0_2.length : Int) = 0 then (some (0, 5)) else (if (l0_2.length : Int) > 5 then (some (0, 6)) else (spec_l08Check.l0 kj1 0 l0_0 l0_1 l0_2 l0_3))) else (some (bt226.1, bt226.2.2)))) = some (r1, r2) := by rw [if_neg (show ¬ (false = true) by decide)] at H; exact H
    clear H
    have H := H1
    clear H1
    replace H := Option.bind_eq_some_iff.mp H
    obtain ⟨⟨t226, t227, t228⟩, A150, H⟩ := H
    replace H : (if t228 = 0 then (if (l0_2.length : Int) = 0 then (some (0, 5)) else (if (l0_2.length : Int) > 5 then (some (0, 6)) else (spec_l08Check.l0 kj1 0 l0_0 l0_1 l0_2 l0_3))) else (some (t226, t228))) = some (r1, r2) := H
    have A15 := zQ A150
    clear A150
    by_cases c16 : t228 = 0
    ·rw [if_pos c16] at H
     have c16b0 : (t228 == 0) = true := beq_iff_eq.mpr c16
     have c16b1 : (t228 != 0) = false := bne_eq_false_iff_eq.mpr c16
     clear c16
     by_cases c17 : (l0_2.length : Int) = 0
     ·rw [if_pos c17] at H
      have c17b0 : ((l0_2.length : Int) == 0) = true := beq_iff_eq.mpr c17
      have c17b1 : ((l0_2.length : Int) != 0) = false := bne_eq_false_iff_eq.mpr c17
      clear c17
      simp only [Option.some.injEq, Prod.mk.injEq] at H
      obtain ⟨rfl, rfl⟩ := H
      obtain ⟨hcz18_0, hcz18_1, hcz18_2, hcz18_3, hfz18_0, hfz18_1, hfz18_2, hfz18_3⟩ := zc4 BK223.out
      go_wp2_with (first | (go_at_call 149; (with_reducible refine (spec_l04All.calls kj1 _ _ l0_1 _ _ l0_0 t226 t227 t228 _ ?side1 ?side2 ?side3 ?side4 A15.out).mono ?_); (case side1 => exact zE HR0_1 HB); (case side2 => exact HC0_1.out); (case side3 => exact zE HR0_0 HB); (case side4 => exact HC0_0.out); rintro e w19 ⟨rfl, hb⟩; have n0_ := zQ (zL BK223.out hb); have n1_ := zQ (below_step (zB HB.out) hb); clear BK223; clear HB; have BK223 := n0_; have HB := n1_; clear n0_ n1_; (try clear hb); (try clear hb2); (try clear hk); (try clear hi); obtain ⟨hcz20_0, hcz20_1, hcz20_2, hcz20_3, hfz20_0, hfz20_1, hfz20_2, hfz20_3⟩ := zc4 BK223.out))
      repeat (go_quiet (first | (go_at_call 149; (with_reducible refine (spec_l04All.calls kj1 _ _ l0_1 _ _ l0_0 t226 t227 t228 _ ?side1 ?side2 ?side3 ?side4 A15.out).mono ?_); (case side1 => exact zE HR0_1 HB); (case side2 => exact HC0_1.out); (case side3 => exact zE HR0_0 HB); (case side4 => exact HC0_0.out); rintro e w19 ⟨rfl, hb⟩; have n0_ := zQ (zL BK223.out hb); have n1_ := zQ (below_step (zB HB.out) hb); clear BK223; clear HB; have BK223 := n0_; have HB := n1_; clear n0_ n1_; (try clear hb); (try clear hb2); (try clear hk); (try clear hi); obtain ⟨hcz20_0, hcz20_1, hcz20_2, hcz20_3, hfz20_0, hfz20_1, hfz20_2, hfz20_3⟩ := zc4 BK223.out)); try go_wp2_with (first | (go_at_call 149; (with_reducible refine (spec_l04All.calls kj1 _ _ l0_1 _ _ l0_0 t226 t227 t228 _ ?side1 ?side2 ?side3 ?side4 A15.out).mono ?_); (case side1 => exact zE HR0_1 HB); (case side2 => exact HC0_1.out); (case side3 => exact zE HR0_0 HB); (case side4 => exact HC0_0.out); rintro e w19 ⟨rfl, hb⟩; have n0_ := zQ (zL BK223.out hb); have n1_ := zQ (below_step (zB HB.out) hb); clear BK223; clear HB; have BK223 := n0_; have HB := n1_; clear n0_ n1_; (try clear hb); (try clear hb2); (try clear hk); (try clear hi); obtain ⟨hcz20_0, hcz20_1, hcz20_2, hcz20_3, hfz20_0, hfz20_1, hfz20_2, hfz20_3⟩ := zc4 BK223.out)))
      go_ret2
      exact ⟨by first | rfl | (simp [errW_none, errW_some] <;> rfl) | (simp [*, errW_none, errW_some] <;> rfl), zB HB.out⟩
     ·rw [if_neg c17] at H
      have c17b0 : ((l0_2.length : Int) == 0) = false := beq_eq_false_iff_ne.mpr c17
      have c17b1 : ((l0_2.length : Int) != 0) = true := bne_iff_ne.mpr c17
      have c17b2 : ¬ (l0_2 = []) := fun h_ => c17 (by rw [h_]; rfl)
      by_cases c21 : (l0_2.length : Int) > 5
      ·rw [if_pos c21] at H
       have c21b0 : decide (5 < (l0_2.length : Int)) = true := decide_eq_true c21
       have c21b1 : decide (5 < l0_2.length) = true := decide_eq_true (by omega)
       clear c21
       simp only [Option.some.injEq, Prod.mk.injEq] at H
       obtain ⟨rfl, rfl⟩ := H
       obtain ⟨hcz22_0, hcz22_1, hcz22_2, hcz22_3, hfz22_0, hfz22_1, hfz22_2, hfz22_3⟩ := zc4 BK223.out
       go_wp2_with (first | (go_at_call 149; (with_reducible refine (spec_l04All.calls kj1 _ _ l0_1 _ _ l0_0 t226 t227 t228 _ ?side1 ?side2 ?side3 ?side4 A15.out).mono ?_); (case side1 => exact zE HR0_1 HB); (case side2 => exact HC0_1.out); (case side3 => exact zE HR0_0 HB); (case side4 => exact HC0_0.out); rintro e w23 ⟨rfl, hb⟩; have n0_ := zQ (zL BK223.out hb); have n1_ := zQ (below_step (zB HB.out) hb); clear BK223; clear HB; have BK223 := n0_; have HB := n1_; clear n0_ n1_; (try clear hb); (try clear hb2); (try clear hk); (try clear hi); obtain ⟨hcz24_0, hcz24_1, hcz24_2, hcz24_3, hfz24_0, hfz24_1, hfz24_2, hfz24_3⟩ := zc4 BK223.out))
       repeat (go_quiet (first | (go_at_call 149; (with_reducible refine (spec_l04All.calls kj1 _ _ l0_1 _ _ l0_0 t226 t227 t228 _ ?side1 ?side2 ?side3 ?side4 A15.out).mono ?_); (case side1 => exact zE HR0_1 HB); (case side2 => exact HC0_1.out); (case side3 => exact zE HR0_0 HB); (case side4 => exact HC0_0.out); rintro e w23 ⟨rfl, hb⟩; have n0_ := zQ (zL BK223.out hb); have n1_ := zQ (below_step (zB HB.out) hb); clear BK223; clear HB; have BK223 := n0_; have HB := n1_; clear n0_ n1_; (try clear hb); (try clear hb2); (try clear hk); (try clear hi); obtain ⟨hcz24_0, hcz24_1, hcz24_2, hcz24_3, hfz24_0, hfz24_1, hfz24_2, hfz24_3⟩ := zc4 BK223.out)); try go_wp2_with (first | (go_at_call 149; (with_reducible refine (spec_l04All.calls kj1 _ _ l0_1 _ _ l0_0 t226 t227 t228 _ ?side1 ?side2 ?side3 ?side4 A15.out).mono ?_); (case side1 => exact zE HR0_1 HB); (case side2 => exact HC0_1.out); (case side3 => exact zE HR0_0 HB); (case side4 => exact HC0_0.out); rintro e w23 ⟨rfl, hb⟩; have n0_ := zQ (zL BK223.out hb); have n1_ := zQ (below_step (zB HB.out) hb); clear BK223; clear HB; have BK223 := n0_; have HB := n1_; clear n0_ n1_; (try clear hb); (try clear hb2); (try clear hk); (try clear hi); obtain ⟨hcz24_0, hcz24_1, hcz24_2, hcz24_3, hfz24_0, hfz24_1, hfz24_2, hfz24_3⟩ := zc4 BK223.out)))
       go_ret2
       exact ⟨by first | rfl | (simp [errW_none, errW_some] <;> rfl) | (simp [*, errW_none, errW_some] <;> rfl), zB HB.out⟩
      ·rw [if_neg c21] at H
       have c21b0 : decide (5 < (l0_2.length : Int)) = false := decide_eq_false c21
       have c21b1 : decide (5 < l0_2.length) = false := decide_eq_false (by omega)
       clear c21
       have H' := zQ H
       clear H
       obtain ⟨hcz25_0, hcz25_1, hcz25_2, hcz25_3, hfz25_0, hfz25_1, hfz25_2, hfz25_3⟩ := zc4 BK223.out
       go_wp2_with (first | (go_at_call 149; (with_reducible refine (spec_l04All.calls kj1 _ _ l0_1 _ _ l0_0 t226 t227 t228 _ ?side1 ?side2 ?side3 ?side4 A15.out).mono ?_); (case side1 => exact zE HR0_1 HB); (case side2 => exact HC0_1.out); (case side3 => exact zE HR0_0 HB); (case side4 => exact HC0_0.out); rintro e w26 ⟨rfl, hb⟩; have n0_ := zQ (zL BK223.out hb); have n1_ := zQ (below_step (zB HB.out) hb); clear BK223; clear HB; have BK223 := n0_; have HB := n1_; clear n0_ n1_; (try clear hb); (try clear hb2); (try clear hk); (try clear hi); obtain ⟨hcz27_0, hcz27_1, hcz27_2, hcz27_3, hfz27_0, hfz27_1, hfz27_2, hfz27_3⟩ := zc4 BK223.out))
       repeat (go_quiet (first | (go_at_call 149; (with_reducible refine (spec_l04All.calls kj1 _ _ l0_1 _ _ l0_0 t226 t227 t228 _ ?side1 ?side2 ?side3 ?side4 A15.out).mono ?_); (case side1 => exact zE HR0_1 HB); (case side2 => exact HC0_1.out); (case side3 => exact zE HR0_0 HB); (case side4 => exact HC0_0.out); rintro e w26 ⟨rfl, hb⟩; have n0_ := zQ (zL BK223.out hb); have n1_ := zQ (below_step (zB HB.out) hb); clear BK223; clear HB; have BK223 := n0_; have HB := n1_; clear n0_ n1_; (try clear hb); (try clear hb2); (try clear hk); (try clear hi); obtain ⟨hcz27_0, hcz27_1, hcz27_2, hcz27_3, hfz27_0, hfz27_1, hfz27_2, hfz27_3⟩ := zc4 BK223.out)); try go_wp2_with (first | (go_at_call 149; (with_reducible refine (spec_l04All.calls kj1 _ _ l0_1 _ _ l0_0 t226 t227 t228 _ ?side1 ?side2 ?side3 ?side4 A15.out).mono ?_); (case side1 => exact zE HR0_1 HB); (case side2 => exact HC0_1.out); (case side3 => exact zE HR0_0 HB); (case side4 => exact HC0_0.out); rintro e w26 ⟨rfl, hb⟩; have n0_ := zQ (zL BK223.out hb); have n1_ := zQ (below_step (zB HB.out) hb); clear BK223; clear HB; have BK223 := n0_; have HB := n1_; clear n0_ n1_; (try clear hb); (try clear hb2); (try clear hk); (try clear hi); obtain ⟨hcz27_0, hcz27_1, hcz27_2, hcz27_3, hfz27_0, hfz27_1, hfz27_2, hfz27_3⟩ := zc4 BK223.out)))
       go_loopg [7] kj1 (fun kq v7 w' => ∃ (x7_2 : Int), v7 = .int .i64 x7_2 ∧ Aside0 (spec_l08Check.l0 kq x7_2 l0_0 l0_1 l0_2 l0_3 = some (r1, r2)) ∧ Aside0 (kq ≤ kj1) ∧ Aside0 (w'.heap[gb223]? = some (.cells #[(.slice A0_0 l0_0.length c0_0), (.slice A0_1 l0_1.length c0_1), (.slice A0_2 l0_2.length c0_2), (.slice A0_3 l0_3.length c0_3)] 64 (0, 0))) ∧ Aside0 (Below w.heap.size w w'))
       case atStart => exact ⟨(0), (by first | rfl | (simp; done) | (simp [*]; done)), H', ⟨Nat.le_refl _⟩, ⟨by (with_reducible repeat (first | refine blk_drewN ?_ _ | refine blk_drew ?_ | refine blk_alloc ?_ _)); exact BK223.out⟩, ⟨zB HB.out⟩⟩
       case round =>
        clear H'
        try clear c1
        try clear c2
        try clear p2
        try clear c5
        try clear c7
        try clear c9
        try clear c14
        try clear c16
        try clear c16b0
        try clear c16b1
        try clear c17
        try clear c17b0
        try clear c17b1
        try clear c17b2
        try clear c21
        try clear c21b0
        try clear c21b1
        try clear hcz10_0
        try clear hcz10_1
        try clear hcz10_2
        try clear hcz10_3
        try clear hcz11_0
        try clear hcz11_1
        try clear hcz11_2
        try clear hcz11_3
        try clear hcz13_0
        try clear hcz13_1
        try clear hcz13_2
        try clear hcz13_3
        try clear hcz18_0
        try clear hcz18_1
        try clear hcz18_2
        try clear hcz18_3
        try clear hcz20_0
        try clear hcz20_1
        try clear hcz20_2
        try clear hcz20_3
        try clear hcz22_0
        try clear hcz22_1
        try clear hcz22_2
        try clear hcz22_3
        try clear hcz24_0
        try clear hcz24_1
        try clear hcz24_2
        try clear hcz24_3
        try clear hcz25_0
        try clear hcz25_1
        try clear hcz25_2
        try clear hcz25_3
        try clear hcz27_0
        try clear hcz27_1
        try clear hcz27_2
        try clear hcz27_3
        try clear hcz8_0
        try clear hcz8_1
        try clear hcz8_2
        try clear hcz8_3
        try clear hfz10_0
        try clear hfz10_1
        try clear hfz10_2
        try clear hfz10_3
        try clear hfz11_0
        try clear hfz11_1
        try clear hfz11_2
        try clear hfz11_3
        try clear hfz13_0
        try clear hfz13_1
        try clear hfz13_2
        try clear hfz13_3
        try clear hfz18_0
        try clear hfz18_1
        try clear hfz18_2
        try clear hfz18_3
        try clear hfz20_0
        try clear hfz20_1
        try clear hfz20_2
        try clear hfz20_3
        try clear hfz22_0
        try clear hfz22_1
        try clear hfz22_2
        try clear hfz22_3
        try clear hfz24_0
        try clear hfz24_1
        try clear hfz24_2
        try clear hfz24_3
        try clear hfz25_0
        try clear hfz25_1
        try clear hfz25_2
        try clear hfz25_3
        try clear hfz27_0
        try clear hfz27_1
        try clear hfz27_2
        try clear hfz27_3
        try clear hfz8_0
        try clear hfz8_1
        try clear hfz8_2
        try clear hfz8_3
        try clear p2
        obtain ⟨x7_2, rfl, HA, HK2, BK223, HB⟩ := hrel
        cases gk with
        | zero => exact absurd HA.out (by simp [spec_l08Check.l0])
        | succ k2 =>
         have H := HA.out
         clear HA
         simp only [spec_l08Check.l0] at H
         by_cases c28 : x7_2 < (l0_2.length : Int)
         ·rw [if_pos c28] at H
          have c28b0 : decide (x7_2 < (l0_2.length : Int)) = true := decide_eq_true c28
          clear c28
          by_cases c29 : 0 ≤ x7_2
          ·rw [if_pos c29] at H
           have c29b0 : decide (0 ≤ x7_2) = true := decide_eq_true c29
           clear c29
           replace H := Option.bind_eq_some_iff.mp H
           obtain ⟨t230, A300, H⟩ := H
           replace H : (if t230 = true then (if ((rd_T135 l0_2 x7_2).f5) ≥ (l0_1.length : Int) then (some (x7_2, 15)) else (spec_l08Check.l0 k2 (wrap64 (x7_2 + 1)) l0_0 l0_1 l0_2 l0_3)) else (some (x7_2, 10))) = some (r1, r2) := H
           have A30 := zQ A300
           clear A300
           by_cases c31 : t230 = true
           ·subst c31
            have H1 : (if ((rd_T135 l0_2 x7_2).f5) ≥ (l0_1.length : Int) then (some (x7_2, 15)) else (spec_l08Check.l0 k2 (wrap64 (x7_2 + 1)) l0_0 l0_1 l0_2 l0_3)) = some (r1, r2) := by rw [if_pos rfl] at H; exact H
            clear H
            have H := H1
            clear H1
            by_cases c32 : ((rd_T135 l0_2 x7_2).f5) ≥ (l0_1.length : Int)
            ·rw [if_pos c32] at H
             have c32b0 : decide ((l0_1.length : Int) ≤ ((rd_T135 l0_2 x7_2).f5)) = true := decide_eq_true c32
             clear c32
             simp only [Option.some.injEq, Prod.mk.injEq] at H
             obtain ⟨rfl, rfl⟩ := H
             obtain ⟨hcz33_0, hcz33_1, hcz33_2, hcz33_3, hfz33_0, hfz33_1, hfz33_2, hfz33_3⟩ := zc4 BK223.out
             have p229 : 0 ≤ (x7_2 : Int) := zA
             have q229 : x7_2 < (l0_2.length : Int) := zA
             obtain ⟨ad229, e229, hx229_0, hx229_1, hx229_2, hx229_3, hx229_4, hx229_5⟩ := at_T135 HR0_2.out x7_2 p229 q229
             cases e229
             replace hx229_0 := zX HB.out hx229_0
             replace hx229_1 := zX HB.out hx229_1
             replace hx229_2 := zX HB.out hx229_2
             replace hx229_3 := zX HB.out hx229_3
             replace hx229_4 := zX HB.out hx229_4
             replace hx229_5 := zX HB.out hx229_5
             replace p229 := eq_true p229
             replace q229 := eq_true q229
             go_wp2_with (first | (go_at_call 153; (with_reducible refine (spec_TaskOK.calls k2 ((rd_T135 l0_2 x7_2).f0) ((rd_T135 l0_2 x7_2).f1) ((rd_T135 l0_2 x7_2).f2) ((rd_T135 l0_2 x7_2).f3) ((rd_T135 l0_2 x7_2).f4) ((rd_T135 l0_2 x7_2).f5) true _ A30.out).mono ?_); rintro e w34 ⟨rfl, hb⟩; have n0_ := zQ (zL BK223.out hb); have n1_ := zQ (below_step (zB HB.out) hb); clear BK223; clear HB; have BK223 := n0_; have HB := n1_; clear n0_ n1_; (try clear hb); (try clear hb2); (try clear hk); (try clear hi); obtain ⟨hcz35_0, hcz35_1, hcz35_2, hcz35_3, hfz35_0, hfz35_1, hfz35_2, hfz35_3⟩ := zc4 BK223.out; have p231 : 0 ≤ (x7_2 : Int) := zA; have q231 : x7_2 < (l0_2.length : Int) := zA; obtain ⟨ad231, e231, hx231_0, hx231_1, hx231_2, hx231_3, hx231_4, hx231_5⟩ := at_T135 HR0_2.out x7_2 p231 q231; obtain rfl : ad229 = ad231 := (by injection e231); replace hx231_0 := zX HB.out hx231_0; replace hx231_1 := zX HB.out hx231_1; replace hx231_2 := zX HB.out hx231_2; replace hx231_3 := zX HB.out hx231_3; replace hx231_4 := zX HB.out hx231_4; replace hx231_5 := zX HB.out hx231_5; replace p231 := eq_true p231; replace q231 := eq_true q231))
             repeat (go_quiet (first | (go_at_call 153; (with_reducible refine (spec_TaskOK.calls k2 ((rd_T135 l0_2 x7_2).f0) ((rd_T135 l0_2 x7_2).f1) ((rd_T135 l0_2 x7_2).f2) ((rd_T135 l0_2 x7_2).f3) ((rd_T135 l0_2 x7_2).f4) ((rd_T135 l0_2 x7_2).f5) true _ A30.out).mono ?_); rintro e w34 ⟨rfl, hb⟩; have n0_ := zQ (zL BK223.out hb); have n1_ := zQ (below_step (zB HB.out) hb); clear BK223; clear HB; have BK223 := n0_; have HB := n1_; clear n0_ n1_; (try clear hb); (try clear hb2); (try clear hk); (try clear hi); obtain ⟨hcz35_0, hcz35_1, hcz35_2, hcz35_3, hfz35_0, hfz35_1, hfz35_2, hfz35_3⟩ := zc4 BK223.out; have p231 : 0 ≤ (x7_2 : Int) := zA; have q231 : x7_2 < (l0_2.length : Int) := zA; obtain ⟨ad231, e231, hx231_0, hx231_1, hx231_2, hx231_3, hx231_4, hx231_5⟩ := at_T135 HR0_2.out x7_2 p231 q231; obtain rfl : ad229 = ad231 := (by injection e231); replace hx231_0 := zX HB.out hx231_0; replace hx231_1 := zX HB.out hx231_1; replace hx231_2 := zX HB.out hx231_2; replace hx231_3 := zX HB.out hx231_3; replace hx231_4 := zX HB.out hx231_4; replace hx231_5 := zX HB.out hx231_5; replace p231 := eq_true p231; replace q231 := eq_true q231)); try go_wp2_with (first | (go_at_call 153; (with_reducible refine (spec_TaskOK.calls k2 ((rd_T135 l0_2 x7_2).f0) ((rd_T135 l0_2 x7_2).f1) ((rd_T135 l0_2 x7_2).f2) ((rd_T135 l0_2 x7_2).f3) ((rd_T135 l0_2 x7_2).f4) ((rd_T135 l0_2 x7_2).f5) true _ A30.out).mono ?_); rintro e w34 ⟨rfl, hb⟩; have n0_ := zQ (zL BK223.out hb); have n1_ := zQ (below_step (zB HB.out) hb); clear BK223; clear HB; have BK223 := n0_; have HB := n1_; clear n0_ n1_; (try clear hb); (try clear hb2); (try clear hk); (try clear hi); obtain ⟨hcz35_0, hcz35_1, hcz35_2, hcz35_3, hfz35_0, hfz35_1, hfz35_2, hfz35_3⟩ := zc4 BK223.out; have p231 : 0 ≤ (x7_2 : Int) := zA; have q231 : x7_2 < (l0_2.length : Int) := zA; obtain ⟨ad231, e231, hx231_0, hx231_1, hx231_2, hx231_3, hx231_4, hx231_5⟩ := at_T135 HR0_2.out x7_2 p231 q231; obtain rfl : ad229 = ad231 := (by injection e231); replace hx231_0 := zX HB.out hx231_0; replace hx231_1 := zX HB.out hx231_1; replace hx231_2 := zX HB.out hx231_2; replace hx231_3 := zX HB.out hx231_3; replace hx231_4 := zX HB.out hx231_4; replace hx231_5 := zX HB.out hx231_5; replace p231 := eq_true p231; replace q231 := eq_true q231)))
             go_ret2
             exact ⟨by first | rfl | (simp [errW_none, errW_some] <;> rfl) | (simp [*, errW_none, errW_some] <;> rfl), zB HB.out⟩
            ·rw [if_neg c32] at H
             have c32b0 : decide ((l0_1.length : Int) ≤ ((rd_T135 l0_2 x7_2).f5)) = false := decide_eq_false c32
             clear c32
             have H' := zQ H
             clear H
             obtain ⟨hcz36_0, hcz36_1, hcz36_2, hcz36_3, hfz36_0, hfz36_1, hfz36_2, hfz36_3⟩ := zc4 BK223.out
             have p229 : 0 ≤ (x7_2 : Int) := zA
             have q229 : x7_2 < (l0_2.length : Int) := zA
             obtain ⟨ad229, e229, hx229_0, hx229_1, hx229_2, hx229_3, hx229_4, hx229_5⟩ := at_T135 HR0_2.out x7_2 p229 q229
             cases e229
             replace hx229_0 := zX HB.out hx229_0
             replace hx229_1 := zX HB.out hx229_1
             replace hx229_2 := zX HB.out hx229_2
             replace hx229_3 := zX HB.out hx229_3
             replace hx229_4 := zX HB.out hx229_4
             replace hx229_5 := zX HB.out hx229_5
             replace p229 := eq_true p229
             replace q229 := eq_true q229
             go_wp2_with (first | (go_at_call 153; (with_reducible refine (spec_TaskOK.calls k2 ((rd_T135 l0_2 x7_2).f0) ((rd_T135 l0_2 x7_2).f1) ((rd_T135 l0_2 x7_2).f2) ((rd_T135 l0_2 x7_2).f3) ((rd_T135 l0_2 x7_2).f4) ((rd_T135 l0_2 x7_2).f5) true _ A30.out).mono ?_); rintro e w37 ⟨rfl, hb⟩; have n0_ := zQ (zL BK223.out hb); have n1_ := zQ (below_step (zB HB.out) hb); clear BK223; clear HB; have BK223 := n0_; have HB := n1_; clear n0_ n1_; (try clear hb); (try clear hb2); (try clear hk); (try clear hi); obtain ⟨hcz38_0, hcz38_1, hcz38_2, hcz38_3, hfz38_0, hfz38_1, hfz38_2, hfz38_3⟩ := zc4 BK223.out; have p231 : 0 ≤ (x7_2 : Int) := zA; have q231 : x7_2 < (l0_2.length : Int) := zA; obtain ⟨ad231, e231, hx231_0, hx231_1, hx231_2, hx231_3, hx231_4, hx231_5⟩ := at_T135 HR0_2.out x7_2 p231 q231; obtain rfl : ad229 = ad231 := (by injection e231); replace hx231_0 := zX HB.out hx231_0; replace hx231_1 := zX HB.out hx231_1; replace hx231_2 := zX HB.out hx231_2; replace hx231_3 := zX HB.out hx231_3; replace hx231_4 := zX HB.out hx231_4; replace hx231_5 := zX HB.out hx231_5; replace p231 := eq_true p231; replace q231 := eq_true q231))
             repeat (go_quiet (first | (go_at_call 153; (with_reducible refine (spec_TaskOK.calls k2 ((rd_T135 l0_2 x7_2).f0) ((rd_T135 l0_2 x7_2).f1) ((rd_T135 l0_2 x7_2).f2) ((rd_T135 l0_2 x7_2).f3) ((rd_T135 l0_2 x7_2).f4) ((rd_T135 l0_2 x7_2).f5) true _ A30.out).mono ?_); rintro e w37 ⟨rfl, hb⟩; have n0_ := zQ (zL BK223.out hb); have n1_ := zQ (below_step (zB HB.out) hb); clear BK223; clear HB; have BK223 := n0_; have HB := n1_; clear n0_ n1_; (try clear hb); (try clear hb2); (try clear hk); (try clear hi); obtain ⟨hcz38_0, hcz38_1, hcz38_2, hcz38_3, hfz38_0, hfz38_1, hfz38_2, hfz38_3⟩ := zc4 BK223.out; have p231 : 0 ≤ (x7_2 : Int) := zA; have q231 : x7_2 < (l0_2.length : Int) := zA; obtain ⟨ad231, e231, hx231_0, hx231_1, hx231_2, hx231_3, hx231_4, hx231_5⟩ := at_T135 HR0_2.out x7_2 p231 q231; obtain rfl : ad229 = ad231 := (by injection e231); replace hx231_0 := zX HB.out hx231_0; replace hx231_1 := zX HB.out hx231_1; replace hx231_2 := zX HB.out hx231_2; replace hx231_3 := zX HB.out hx231_3; replace hx231_4 := zX HB.out hx231_4; replace hx231_5 := zX HB.out hx231_5; replace p231 := eq_true p231; replace q231 := eq_true q231)); try go_wp2_with (first | (go_at_call 153; (with_reducible refine (spec_TaskOK.calls k2 ((rd_T135 l0_2 x7_2).f0) ((rd_T135 l0_2 x7_2).f1) ((rd_T135 l0_2 x7_2).f2) ((rd_T135 l0_2 x7_2).f3) ((rd_T135 l0_2 x7_2).f4) ((rd_T135 l0_2 x7_2).f5) true _ A30.out).mono ?_); rintro e w37 ⟨rfl, hb⟩; have n0_ := zQ (zL BK223.out hb); have n1_ := zQ (below_step (zB HB.out) hb); clear BK223; clear HB; have BK223 := n0_; have HB := n1_; clear n0_ n1_; (try clear hb); (try clear hb2); (try clear hk); (try clear hi); obtain ⟨hcz38_0, hcz38_1, hcz38_2, hcz38_3, hfz38_0, hfz38_1, hfz38_2, hfz38_3⟩ := zc4 BK223.out; have p231 : 0 ≤ (x7_2 : Int) := zA; have q231 : x7_2 < (l0_2.length : Int) := zA; obtain ⟨ad231, e231, hx231_0, hx231_1, hx231_2, hx231_3, hx231_4, hx231_5⟩ := at_T135 HR0_2.out x7_2 p231 q231; obtain rfl : ad229 = ad231 := (by injection e231); replace hx231_0 := zX HB.out hx231_0; replace hx231_1 := zX HB.out hx231_1; replace hx231_2 := zX HB.out hx231_2; replace hx231_3 := zX HB.out hx231_3; replace hx231_4 := zX HB.out hx231_4; replace hx231_5 := zX HB.out hx231_5; replace p231 := eq_true p231; replace q231 := eq_true q231)))
             go_roundg k2
             case measure => have := HJ1.out; have := HK2.out; omega
             case rel => exact ⟨(wrap64 (x7_2 + 1)), (by first | rfl | (simp; done) | (simp [*]; done)), H', ⟨by have := HJ1.out; have := HK2.out; omega⟩, ⟨by (with_reducible repeat (first | refine blk_drewN ?_ _ | refine blk_drew ?_ | refine blk_alloc ?_ _)); exact BK223.out⟩, ⟨zB HB.out⟩⟩
           ·replace c31 := Bool.eq_false_iff.mpr c31
            subst c31
            have H1 : (some (x7_2, 10)) = some (r1, r2) := by rw [if_neg (show ¬ (false = true) by decide)] at H; exact H
            clear H
            have H := H1
            clear H1
            simp only [Option.some.injEq, Prod.mk.injEq] at H
            obtain ⟨rfl, rfl⟩ := H
            obtain ⟨hcz39_0, hcz39_1, hcz39_2, hcz39_3, hfz39_0, hfz39_1, hfz39_2, hfz39_3⟩ := zc4 BK223.out
            have p229 : 0 ≤ (x7_2 : Int) := zA
            have q229 : x7_2 < (l0_2.length : Int) := zA
            obtain ⟨ad229, e229, hx229_0, hx229_1, hx229_2, hx229_3, hx229_4, hx229_5⟩ := at_T135 HR0_2.out x7_2 p229 q229
            cases e229
            replace hx229_0 := zX HB.out hx229_0
            replace hx229_1 := zX HB.out hx229_1
            replace hx229_2 := zX HB.out hx229_2
            replace hx229_3 := zX HB.out hx229_3
            replace hx229_4 := zX HB.out hx229_4
            replace hx229_5 := zX HB.out hx229_5
            replace p229 := eq_true p229
            replace q229 := eq_true q229
            go_wp2_with (first | (go_at_call 153; (with_reducible refine (spec_TaskOK.calls k2 ((rd_T135 l0_2 x7_2).f0) ((rd_T135 l0_2 x7_2).f1) ((rd_T135 l0_2 x7_2).f2) ((rd_T135 l0_2 x7_2).f3) ((rd_T135 l0_2 x7_2).f4) ((rd_T135 l0_2 x7_2).f5) false _ A30.out).mono ?_); rintro e w40 ⟨rfl, hb⟩; have n0_ := zQ (zL BK223.out hb); have n1_ := zQ (below_step (zB HB.out) hb); clear BK223; clear HB; have BK223 := n0_; have HB := n1_; clear n0_ n1_; (try clear hb); (try clear hb2); (try clear hk); (try clear hi)))
            repeat (go_quiet (first | (go_at_call 153; (with_reducible refine (spec_TaskOK.calls k2 ((rd_T135 l0_2 x7_2).f0) ((rd_T135 l0_2 x7_2).f1) ((rd_T135 l0_2 x7_2).f2) ((rd_T135 l0_2 x7_2).f3) ((rd_T135 l0_2 x7_2).f4) ((rd_T135 l0_2 x7_2).f5) false _ A30.out).mono ?_); rintro e w40 ⟨rfl, hb⟩; have n0_ := zQ (zL BK223.out hb); have n1_ := zQ (below_step (zB HB.out) hb); clear BK223; clear HB; have BK223 := n0_; have HB := n1_; clear n0_ n1_; (try clear hb); (try clear hb2); (try clear hk); (try clear hi))); try go_wp2_with (first | (go_at_call 153; (with_reducible refine (spec_TaskOK.calls k2 ((rd_T135 l0_2 x7_2).f0) ((rd_T135 l0_2 x7_2).f1) ((rd_T135 l0_2 x7_2).f2) ((rd_T135 l0_2 x7_2).f3) ((rd_T135 l0_2 x7_2).f4) ((rd_T135 l0_2 x7_2).f5) false _ A30.out).mono ?_); rintro e w40 ⟨rfl, hb⟩; have n0_ := zQ (zL BK223.out hb); have n1_ := zQ (below_step (zB HB.out) hb); clear BK223; clear HB; have BK223 := n0_; have HB := n1_; clear n0_ n1_; (try clear hb); (try clear hb2); (try clear hk); (try clear hi))))
            go_ret2
            exact ⟨by first | rfl | (simp [errW_none, errW_some] <;> rfl) | (simp [*, errW_none, errW_some] <;> rfl), zB HB.out⟩
          ·rw [if_neg c29] at H
           exact absurd H (by simp)
         ·rw [if_neg c28] at H
          have c28b0 : decide (x7_2 < (l0_2.length : Int)) = false := decide_eq_false c28
          clear c28
          simp only [Option.some.injEq, Prod.mk.injEq] at H
          obtain ⟨rfl, rfl⟩ := H
          obtain ⟨hcz41_0, hcz41_1, hcz41_2, hcz41_3, hfz41_0, hfz41_1, hfz41_2, hfz41_3⟩ := zc4 BK223.out
          go_wp2
          repeat (go_quiet (fail); try go_wp2)
          go_ret2
          exact ⟨by first | rfl | (simp [errW_none, errW_some] <;> rfl) | (simp [*, errW_none, errW_some] <;> rfl), zB HB.out⟩
    ·rw [if_neg c16] at H
     have c16b0 : (t228 == 0) = false := beq_eq_false_iff_ne.mpr c16
     have c16b1 : (t228 != 0) = true := bne_iff_ne.mpr c16
     simp only [Option.some.injEq, Prod.mk.injEq] at H
     obtain ⟨rfl, rfl⟩ := H
     obtain ⟨hcz42_0, hcz42_1, hcz42_2, hcz42_3, hfz42_0, hfz42_1, hfz42_2, hfz42_3⟩ := zc4 BK223.out
     go_wp2_with (first | (go_at_call 149; (with_reducible refine (spec_l04All.calls kj1 _ _ l0_1 _ _ l0_0 t226 t227 t228 _ ?side1 ?side2 ?side3 ?side4 A15.out).mono ?_); (case side1 => exact zE HR0_1 HB); (case side2 => exact HC0_1.out); (case side3 => exact zE HR0_0 HB); (case side4 => exact HC0_0.out); rintro e w43 ⟨rfl, hb⟩; have n0_ := zQ (zL BK223.out hb); have n1_ := zQ (below_step (zB HB.out) hb); clear BK223; clear HB; have BK223 := n0_; have HB := n1_; clear n0_ n1_; (try clear hb); (try clear hb2); (try clear hk); (try clear hi)))
     repeat (go_quiet (first | (go_at_call 149; (with_reducible refine (spec_l04All.calls kj1 _ _ l0_1 _ _ l0_0 t226 t227 t228 _ ?side1 ?side2 ?side3 ?side4 A15.out).mono ?_); (case side1 => exact zE HR0_1 HB); (case side2 => exact HC0_1.out); (case side3 => exact zE HR0_0 HB); (case side4 => exact HC0_0.out); rintro e w43 ⟨rfl, hb⟩; have n0_ := zQ (zL BK223.out hb); have n1_ := zQ (below_step (zB HB.out) hb); clear BK223; clear HB; have BK223 := n0_; have HB := n1_; clear n0_ n1_; (try clear hb); (try clear hb2); (try clear hk); (try clear hi))); try go_wp2_with (first | (go_at_call 149; (with_reducible refine (spec_l04All.calls kj1 _ _ l0_1 _ _ l0_0 t226 t227 t228 _ ?side1 ?side2 ?side3 ?side4 A15.out).mono ?_); (case side1 => exact zE HR0_1 HB); (case side2 => exact HC0_1.out); (case side3 => exact zE HR0_0 HB); (case side4 => exact HC0_0.out); rintro e w43 ⟨rfl, hb⟩; have n0_ := zQ (zL BK223.out hb); have n1_ := zQ (below_step (zB HB.out) hb); clear BK223; clear HB; have BK223 := n0_; have HB := n1_; clear n0_ n1_; (try clear hb); (try clear hb2); (try clear hk); (try clear hi))))
     go_ret2
     exact ⟨by first | rfl | (simp [errW_none, errW_some] <;> rfl) | (simp [*, errW_none, errW_some] <;> rfl), zB HB.out⟩

end Go.Proofs.Ytkegjmkdnfpfdaa.MFnExactImageText
