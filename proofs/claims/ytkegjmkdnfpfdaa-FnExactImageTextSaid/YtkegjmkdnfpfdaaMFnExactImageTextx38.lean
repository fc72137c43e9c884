-- By a program of this session.
import Derived.Test.YtkegjmkdnfpfdaaMFnExactImageTextx0
import Derived.Test.YtkegjmkdnfpfdaaMFnExactImageTextx27
import Derived.Test.YtkegjmkdnfpfdaaMFnExactImageTextx31
import Derived.Test.YtkegjmkdnfpfdaaMFnExactImageTextx36
import Derived.Test.YtkegjmkdnfpfdaaMFnExactImageTextx37
namespace Go.Proofs.Ytkegjmkdnfpfdaa.MFnExactImageText
open Go.RowKit Go.Proofs.YtkegjmkdnfpfdaaW.PrintWords Go.Proofs.YtkegjmkdnfpfdaaW.PrintLast Go.Proofs.YtkegjmkdnfpfdaaW.PrintMore
attribute [local go_sem] max2_int min2_int max_two min_two max_three min_three max_four min_four
set_option linter.unusedVariables false
set_option linter.unusedSimpArgs false
set_option maxHeartbeats 8000000
set_option maxRecDepth 100000

/-! ### impl_CheckProgram: function 39 -/
mutual
def impl_CheckProgram.j0 : Nat → Bool → List Int → List (S124) → List (S135) → List Bool → Option (Int × Int)
 | 0, _, _, _, _, _ => none
 | k + 1, x22, x308000, x308001, x308002, x308003 => if x22 = true then (some (0, 1)) else ((impl_verifyAll.f k x308001 x308000).bind fun bt309 => (if bt309.2.2 = 0 then ((impl_when.f ((x308002.length : Int) == 0) 5).bind fun t312 => ((impl_when.f (decide ((x308002.length : Int) > 5)) 6).bind fun t313 => ((impl_first.f k (([t312, t313] : List Int))).bind fun t317 => (if t317 = 0 then (impl_CheckProgram.l0 k x308002 (x308002.length : Int) 0 x308000 x308001 x308002 x308003) else (some (0, t317)))))) else (some (bt309.1, bt309.2.2))))
def impl_CheckProgram.l0 : Nat → List (S135) → Int → Int → List Int → List (S124) → List (S135) → List Bool → Option (Int × Int)
 | 0, _, _, _, _, _, _, _ => none
 | k + 1, x52, x53, x54, x308000, x308001, x308002, x308003 => if x54 < x53 then (if 0 ≤ x54 then (if x54 < (x52.length : Int) then ((impl_TaskOK.f k ((rd_T135 x52 x54).f0) ((rd_T135 x52 x54).f1) ((rd_T135 x52 x54).f2) ((rd_T135 x52 x54).f3) ((rd_T135 x52 x54).f4) ((rd_T135 x52 x54).f5)).bind fun t320 => ((impl_when.f (!t320) 10).bind fun t321 => ((impl_when.f (decide (((rd_T135 x52 x54).f5) ≥ (x308001.length : Int))) 15).bind fun t322 => ((impl_first.f k (([t321, t322] : List Int))).bind fun t326 => (if t326 = 0 then (impl_CheckProgram.l0 k x52 x53 (wrap64 (x54 + 1)) x308000 x308001 x308002 x308003) else (some (x54, t326))))))) else (none)) else (none)) else (some (0, 0))
end
def impl_CheckProgram.f (k : Nat) (l0_0 : List Int) (l0_1 : List (S124)) (l0_2 : List (S135)) (l0_3 : List Bool) : Option (Int × Int) := (impl_areRoutines.f k l0_1 l0_0).bind fun t308 => (if t308 = true then (impl_CheckProgram.j0 k ((l0_3.length : Int) != 8) l0_0 l0_1 l0_2 l0_3) else (impl_CheckProgram.j0 k true l0_0 l0_1 l0_2 l0_3))
theorem impl_CheckProgram.mono_l : ∀ k, (∀ y0 y1 y2 y3 y4, LeO (impl_CheckProgram.j0 k y0 y1 y2 y3 y4) (impl_CheckProgram.j0 (k + 1) y0 y1 y2 y3 y4)) ∧ (∀ y0 y1 y2 y3 y4 y5 y6, LeO (impl_CheckProgram.l0 k y0 y1 y2 y3 y4 y5 y6) (impl_CheckProgram.l0 (k + 1) y0 y1 y2 y3 y4 y5 y6))
 | 0 => ⟨fun _ _ _ _ _ r h => by simp [impl_CheckProgram.j0] at h, fun _ _ _ _ _ _ _ r h => by simp [impl_CheckProgram.l0] at h⟩
 | k + 1 => by
  obtain ⟨ih0, ih1⟩ := impl_CheckProgram.mono_l k
  refine ⟨?_, ?_⟩
  ·intro y0 y1 y2 y3 y4
   unfold impl_CheckProgram.j0
   repeat' first
   | (with_reducible exact ih0 _ _ _ _ _)
   | (with_reducible exact ih1 _ _ _ _ _ _ _)
   | (with_reducible exact impl_TaskOK.mono _ _ _ _ _ _ _)
   | (with_reducible exact impl_areRoutines.mono _ _ _)
   | (with_reducible exact impl_first.mono _ _)
   | (with_reducible exact impl_verifyAll.mono _ _ _)
   | (with_reducible exact LeO.refl _)
   | (with_reducible exact LeO.none _)
   | (with_reducible refine LeO.ite ?_ ?_)
   | (with_reducible refine LeO.bind ?_ (fun _ => ?_))
  ·intro y0 y1 y2 y3 y4 y5 y6
   unfold impl_CheckProgram.l0
   repeat' first
   | (with_reducible exact ih0 _ _ _ _ _)
   | (with_reducible exact ih1 _ _ _ _ _ _ _)
   | (with_reducible exact impl_TaskOK.mono _ _ _ _ _ _ _)
   | (with_reducible exact impl_areRoutines.mono _ _ _)
   | (with_reducible exact impl_first.mono _ _)
   | (with_reducible exact impl_verifyAll.mono _ _ _)
   | (with_reducible exact LeO.refl _)
   | (with_reducible exact LeO.none _)
   | (with_reducible refine LeO.ite ?_ ?_)
   | (with_reducible refine LeO.bind ?_ (fun _ => ?_))
theorem impl_CheckProgram.mono : ∀ a0 a1 a2 a3 k, LeO (impl_CheckProgram.f k a0 a1 a2 a3) (impl_CheckProgram.f (k + 1) a0 a1 a2 a3) := by
 intro a0 a1 a2 a3 k
 obtain ⟨ih0, ih1⟩ := impl_CheckProgram.mono_l k
 unfold impl_CheckProgram.f
 repeat' first
  | (with_reducible exact ih0 _ _ _ _ _)
  | (with_reducible exact ih1 _ _ _ _ _ _ _)
  | (with_reducible exact impl_TaskOK.mono _ _ _ _ _ _ _)
  | (with_reducible exact impl_areRoutines.mono _ _ _)
  | (with_reducible exact impl_first.mono _ _)
  | (with_reducible exact impl_verifyAll.mono _ _ _)
  | (with_reducible exact LeO.refl _)
  | (with_reducible exact LeO.none _)
  | (with_reducible refine LeO.ite ?_ ?_)
  | (with_reducible refine LeO.bind ?_ (fun _ => ?_))
def impl_CheckProgram.T6 : Bool × List (List Nat × List Nat) := (true, [([], []), ([0], [0]), ([1], [1]), ([2], [2]), ([3], [3]), ([], []), ([5], [5]), ([6], [6]), ([7], [7]), ([8, 4], [8]), ([4, 9], [4, 9]), ([10, 9], [10]), ([11, 11, 0, 1, 2, 3, 4, 5, 6, 7, 8, 9, 10, 11], [11])])
def impl_CheckProgram.B6 : List Nat := [0, 1, 3, 7, 15, 0, 32, 96, 224, 511, 1023, 2047, 4095]
theorem impl_CheckProgram.tab6 : rtab .any (opsOf Try.f39 6) = impl_CheckProgram.T6 := by kernel_rfl
theorem impl_CheckProgram.bits6 : waitsOk impl_CheckProgram.T6.2 impl_CheckProgram.B6 = true := by kernel_rfl
def impl_CheckProgram.T12 : Bool × List (List Nat × List Nat) := (true, [([], []), ([0], [0]), ([1], [1]), ([2, 1], [2]), ([], []), ([4], [4]), ([], []), ([6], [6]), ([7], [7]), ([5, 8], [5, 8]), ([9, 3], [9]), ([3, 10], [3, 10]), ([11, 10], [11]), ([12, 12, 0, 1, 2, 3, 4, 5, 6, 7, 8, 9, 10, 11, 12], [12])])
def impl_CheckProgram.B12 : List Nat := [0, 1, 3, 7, 0, 16, 0, 64, 192, 496, 1023, 2047, 4095, 8191]
theorem impl_CheckProgram.tab12 : rtab .any (opsOf Try.f39 12) = impl_CheckProgram.T12 := by kernel_rfl
theorem impl_CheckProgram.bits12 : waitsOk impl_CheckProgram.T12.2 impl_CheckProgram.B12 = true := by kernel_rfl
theorem impl_CheckProgram.calls (k : Nat) (A0_0 : Option Addr) (c0_0 : Nat) (l0_0 : List Int) (A0_1 : Option Addr) (c0_1 : Nat) (l0_1 : List (S124)) (A0_2 : Option Addr) (c0_2 : Nat) (l0_2 : List (S135)) (A0_3 : Option Addr) (c0_3 : Nat) (l0_3 : List Bool) (r1 : Int) (r2 : Int) (w : World) (hr0_0 : Kd.C (Kd.int .i64) w A0_0 l0_0.length l0_0) (hc0_0 : l0_0.length ≤ c0_0) (hr0_1 : Kd.C k124 w A0_1 l0_1.length l0_1) (hc0_1 : l0_1.length ≤ c0_1) (hr0_2 : Kd.C k135 w A0_2 l0_2.length l0_2) (hc0_2 : l0_2.length ≤ c0_2) (hr0_3 : Kd.C Kd.bool w A0_3 l0_3.length l0_3) (hc0_3 : l0_3.length ≤ c0_3) (h : impl_CheckProgram.f k l0_0 l0_1 l0_2 l0_3 = some (r1, r2)) :
 Calls Try.prog 39 #[.agg #[.slice A0_0 l0_0.length c0_0, .slice A0_1 l0_1.length c0_1, .slice A0_2 l0_2.length c0_2, .slice A0_3 l0_3.length c0_3]] w fun e w' => e = .returned (.tuple #[.int .i64 r1, .int .i64 r2]) ∧ Below w.heap.size w w' := by
 have hu64 := Try.underlying64
 have hu135 := Try.underlying135
 have HR0_0 := zQ hr0_0
 have HC0_0 := zQ hc0_0
 clear hr0_0 hc0_0
 have HR0_1 := zQ hr0_1
 have HC0_1 := zQ hc0_1
 clear hr0_1 hc0_1
 have HR0_2 := zQ hr0_2
 have HC0_2 := zQ hc0_2
 clear hr0_2 hc0_2
 have HR0_3 := zQ hr0_3
 have HC0_3 := zQ hc0_3
 clear hr0_3 hc0_3
 have HB := zQ (Below.refl w.heap.size w)
 have H : ((impl_areRoutines.f k l0_1 l0_0).bind fun t308 => (if t308 = true then (impl_CheckProgram.j0 k ((l0_3.length : Int) != 8) l0_0 l0_1 l0_2 l0_3) else (impl_CheckProgram.j0 k true l0_0 l0_1 l0_2 l0_3))) = some (r1, r2) := h
 clear h
 have HC2 := zQ H
 clear H
 go_enter Try.func39, Try.ntmps39
 go_upto_region 1 with (first | ((with_reducible refine gate_dst (N := 1) rfl ?_); (try (refine gate_guard (by rfl) ?_; dsimp only)); refine box_event ?hg (N := 1) ?hd (cs := #[.slice A0_0 l0_0.length c0_0, .slice A0_1 l0_1.length c0_1, .slice A0_2 l0_2.length c0_2, .slice A0_3 l0_3.length c0_3]) (t := 64) ?hr ?_; (case hd => rfl); (case hg => rfl); (case hr => first | (go_simp; done) | (go_simp; rfl)); intro gb307 hg w3 hbox hb; have n0_ := zQ (below_step (zB HB.out) hb); have n1_ := zQ (hbox); have n2_ := zQ ((zG hg HB.out)); have n3_ := zQ ((zG hg HB.out)); clear HB; have HB := n0_; have BK307 := n1_; have GW307 := n2_; have GE307 := n3_; clear n0_ n1_ n2_ n3_; clear hb hbox hg))
 (try simp only [Act.put, List.setIfInBounds_toArray, List.set_cons_zero, List.set_cons_succ])
 go_cut [22] (fun v22 wc => ∃ (kq : Nat) (x22_1 : Bool), v22 = .bool x22_1 ∧ Aside0 (impl_CheckProgram.j0 kq x22_1 l0_0 l0_1 l0_2 l0_3 = some (r1, r2)) ∧ Aside0 (kq ≤ k) ∧ Aside0 (wc.heap[gb307]? = some (.cells #[(.slice A0_0 l0_0.length c0_0), (.slice A0_1 l0_1.length c0_1), (.slice A0_2 l0_2.length c0_2), (.slice A0_3 l0_3.length c0_3)] 64 (0, 0))) ∧ Aside0 (Below w.heap.size w wc))
 case first =>
  have H := HC2.out
  clear HC2
  replace H := Option.bind_eq_some_iff.mp H
  obtain ⟨t308, A40, H⟩ := H
  replace H : (if t308 = true then (impl_CheckProgram.j0 k ((l0_3.length : Int) != 8) l0_0 l0_1 l0_2 l0_3) else (impl_CheckProgram.j0 k true l0_0 l0_1 l0_2 l0_3)) = some (r1, r2) := H
  have A4 := zQ A40
  clear A40
  by_cases c5 : t308 = true
  ·subst c5
   have H1 : (impl_CheckProgram.j0 k ((l0_3.length : Int) != 8) l0_0 l0_1 l0_2 l0_3) = some (r1, r2) := by rw [if_pos rfl] at H; exact H
   clear H
   have H := H1
   clear H1
   have H' := zQ H
   clear H
   obtain ⟨hcz6_0, hcz6_1, hcz6_2, hcz6_3, hfz6_0, hfz6_1, hfz6_2, hfz6_3⟩ := zc4 BK307.out
   go_wp2_with (first | ((with_reducible refine gate_callee (f := 95) rfl ?_); refine goesL_ (some 15) rfl rfl Try.func95 (by kernel_rfl) rfl #[.slice A0_1 l0_1.length c0_1, .slice A0_0 l0_0.length c0_0] rfl zS ?_; (with_reducible refine (impl_areRoutines.calls k _ _ l0_1 _ _ l0_0 true _ ?side1 ?side2 ?side3 ?side4 A4.out).mono ?_); (case side1 => exact zE HR0_1 HB); (case side2 => exact HC0_1.out); (case side3 => exact zE HR0_0 HB); (case side4 => exact HC0_0.out); rintro e w7 ⟨rfl, hb⟩; refine ⟨_, rfl, ?_⟩; have n0_ := zQ (zL BK307.out hb); have n1_ := zQ (below_step (zB HB.out) hb); clear BK307; clear HB; have BK307 := n0_; have HB := n1_; clear n0_ n1_; (try clear hb); (try clear hb2); (try clear hk); (try clear hi); obtain ⟨hcz8_0, hcz8_1, hcz8_2, hcz8_3, hfz8_0, hfz8_1, hfz8_2, hfz8_3⟩ := zc4 BK307.out))
   go_meet
   case rel => exact ⟨_, (((l0_3.length : Int) != 8)), (by first | rfl | (simp; done) | (simp [*]; done)), H', ⟨by first | omega | exact Nat.le_refl _⟩, ⟨by (with_reducible repeat (first | refine blk_drewN ?_ _ | refine blk_drew ?_ | refine blk_alloc ?_ _)); exact BK307.out⟩, ⟨zB HB.out⟩⟩
  ·replace c5 := Bool.eq_false_iff.mpr c5
   subst c5
   have H1 : (impl_CheckProgram.j0 k true l0_0 l0_1 l0_2 l0_3) = some (r1, r2) := by rw [if_neg (show ¬ (false = true) by decide)] at H; exact H
   clear H
   have H := H1
   clear H1
   have H' := zQ H
   clear H
   obtain ⟨hcz9_0, hcz9_1, hcz9_2, hcz9_3, hfz9_0, hfz9_1, hfz9_2, hfz9_3⟩ := zc4 BK307.out
   go_wp2_with (first | ((with_reducible refine gate_callee (f := 95) rfl ?_); refine goesL_ (some 15) rfl rfl Try.func95 (by kernel_rfl) rfl #[.slice A0_1 l0_1.length c0_1, .slice A0_0 l0_0.length c0_0] rfl zS ?_; (with_reducible refine (impl_areRoutines.calls k _ _ l0_1 _ _ l0_0 false _ ?side1 ?side2 ?side3 ?side4 A4.out).mono ?_); (case side1 => exact zE HR0_1 HB); (case side2 => exact HC0_1.out); (case side3 => exact zE HR0_0 HB); (case side4 => exact HC0_0.out); rintro e w10 ⟨rfl, hb⟩; refine ⟨_, rfl, ?_⟩; have n0_ := zQ (zL BK307.out hb); have n1_ := zQ (below_step (zB HB.out) hb); clear BK307; clear HB; have BK307 := n0_; have HB := n1_; clear n0_ n1_; (try clear hb); (try clear hb2); (try clear hk); (try clear hi)))
   go_meet
   case rel => exact ⟨_, (true), (by first | rfl | (simp; done) | (simp [*]; done)), H', ⟨by first | omega | exact Nat.le_refl _⟩, ⟨by (with_reducible repeat (first | refine blk_drewN ?_ _ | refine blk_drew ?_ | refine blk_alloc ?_ _)); exact BK307.out⟩, ⟨zB HB.out⟩⟩
 case rest =>
  clear HC2
  try clear p2
  try clear c3
  try clear c5
  try clear c9
  try clear hcz6_0
  try clear hcz6_1
  try clear hcz6_2
  try clear hcz6_3
  try clear hcz8_0
  try clear hcz8_1
  try clear hcz8_2
  try clear hcz8_3
  try clear hcz9_0
  try clear hcz9_1
  try clear hcz9_2
  try clear hcz9_3
  try clear hfz6_0
  try clear hfz6_1
  try clear hfz6_2
  try clear hfz6_3
  try clear hfz8_0
  try clear hfz8_1
  try clear hfz8_2
  try clear hfz8_3
  try clear hfz9_0
  try clear hfz9_1
  try clear hfz9_2
  try clear hfz9_3
  obtain ⟨kq, x22_1, rfl, HA, HJ1, BK307, HB⟩ := hcut
  cases kq with
  | zero => exact absurd HA.out (by simp [impl_CheckProgram.j0])
  | succ kj1 =>
   have H := HA.out
   clear HA
   simp only [impl_CheckProgram.j0] at H
   by_cases c11 : x22_1 = true
   ·subst c11
    have H1 : (some (0, 1)) = some (r1, r2) := by rw [if_pos rfl] at H; exact H
    clear H
    have H := H1
    clear H1
    simp only [Option.some.injEq, Prod.mk.injEq] at H
    obtain ⟨rfl, rfl⟩ := H
    go_wp2
    go_ret2
    exact ⟨by first | rfl | (simp [errW_none, errW_some] <;> rfl) | (simp [*, errW_none, errW_some] <;> rfl), zB HB.out⟩
   ·replace c11 := Bool.eq_false_iff.mpr c11
    subst c11
    have H1 : ((impl_verifyAll.f kj1 l0_1 l0_0).bind fun bt309 => (if bt309.2.2 = 0 then ((impl_when.f ((l0_2.length : Int) == 0) 5).bind fun t312 => ((impl_when.f (decide ((l0_2.length : Int) > 5)) 6).bind fun t313 => ((impl_first.f kj1 (([t312, t313] : List Int))).bind fun t317 => (if t317 = 0 then (impl_CheckProgram.l0 kj1 l0_2 (l0_2.length : Int) 0 l0_0 l0_1 l0_2 l0_3) else (some (0, t317)))))) else (some (bt309.1, bt309.2.2)))) = some (r1, r2) := by rw [if_neg (show ¬ (false = true) by decide)] at H; exact H
    clear H
    have H := H1
    clear H1
    replace H := Option.bind_eq_some_iff.mp H
    obtain ⟨⟨t309, t310, t311⟩, A120, H⟩ := H
    replace H : (if t311 = 0 then ((impl_when.f ((l0_2.length : Int) == 0) 5).bind fun t312 => ((impl_when.f (decide ((l0_2.length : Int) > 5)) 6).bind fun t313 => ((impl_first.f kj1 (([t312, t313] : List Int))).bind fun t317 => (if t317 = 0 then (impl_CheckProgram.l0 kj1 l0_2 (l0_2.length : Int) 0 l0_0 l0_1 l0_2 l0_3) else (some (0, t317)))))) else (some (t309, t311))) = some (r1, r2) := H
    have A12 := zQ A120
    clear A120
    by_cases c13 : t311 = 0
    ·rw [if_pos c13] at H
     have c13b0 : (t311 == 0) = true := beq_iff_eq.mpr c13
     have c13b1 : (t311 != 0) = false := bne_eq_false_iff_eq.mpr c13
     clear c13
     replace H := Option.bind_eq_some_iff.mp H
     obtain ⟨t312, A140, H⟩ := H
     replace H : ((impl_when.f (decide ((l0_2.length : Int) > 5)) 6).bind fun t313 => ((impl_first.f kj1 (([t312, t313] : List Int))).bind fun t317 => (if t317 = 0 then (impl_CheckProgram.l0 kj1 l0_2 (l0_2.length : Int) 0 l0_0 l0_1 l0_2 l0_3) else (some (0, t317))))) = some (r1, r2) := H
     have A14 := zQ A140
     clear A140
     replace H := Option.bind_eq_some_iff.mp H
     obtain ⟨t313, A150, H⟩ := H
     replace H : ((impl_first.f kj1 (([t312, t313] : List Int))).bind fun t317 => (if t317 = 0 then (impl_CheckProgram.l0 kj1 l0_2 (l0_2.length : Int) 0 l0_0 l0_1 l0_2 l0_3) else (some (0, t317)))) = some (r1, r2) := H
     have A15 := zQ A150
     clear A150
     obtain ⟨y314, hy314⟩ : ∃ y_ : List Int, y_ = (([t312, t313] : List Int)) := ⟨_, rfl⟩
     replace H : ((impl_first.f kj1 y314).bind fun t317 => (if t317 = 0 then (impl_CheckProgram.l0 kj1 l0_2 (l0_2.length : Int) 0 l0_0 l0_1 l0_2 l0_3) else (some (0, t317)))) = some (r1, r2) := by first | (rw [hy314]; with_reducible exact H) | (have H2_ := (Option.bind_some _ _).symm.trans H; rw [hy314]; with_reducible exact H2_) | (have H2_ := (Option.bind_some _ _).symm.trans H; with_reducible exact H2_) | with_reducible exact H | (rw [hy314]; exact H) | exact H
     have Ny314 := zQ hy314
     clear hy314
     replace H := Option.bind_eq_some_iff.mp H
     obtain ⟨t317, A160, H⟩ := H
     replace H : (if t317 = 0 then (impl_CheckProgram.l0 kj1 l0_2 (l0_2.length : Int) 0 l0_0 l0_1 l0_2 l0_3) else (some (0, t317))) = some (r1, r2) := H
     have A16 := zQ A160
     clear A160
     by_cases c17 : t317 = 0
     ·rw [if_pos c17] at H
      have c17b0 : (t317 == 0) = true := beq_iff_eq.mpr c17
      have c17b1 : (t317 != 0) = false := bne_eq_false_iff_eq.mpr c17
      clear c17
      have H' := zQ H
      clear H
      obtain ⟨hcz18_0, hcz18_1, hcz18_2, hcz18_3, hfz18_0, hfz18_1, hfz18_2, hfz18_3⟩ := zc4 BK307.out
      try go_wp2_with (first | ((with_reducible refine gate_callee (f := 96) rfl ?_); refine goesL_ (some 28) rfl rfl Try.func96 (by kernel_rfl) rfl #[.slice A0_1 l0_1.length c0_1, .slice A0_0 l0_0.length c0_0] rfl zS ?_; (with_reducible refine (impl_verifyAll.calls kj1 _ _ l0_1 _ _ l0_0 t309 t310 t311 _ ?side1 ?side2 ?side3 ?side4 A12.out).mono ?_); (case side1 => exact zE HR0_1 HB); (case side2 => exact HC0_1.out); (case side3 => exact zE HR0_0 HB); (case side4 => exact HC0_0.out); rintro e w19 ⟨rfl, hb⟩; refine ⟨_, rfl, ?_⟩; have n0_ := zQ (zL BK307.out hb); have n1_ := zQ (below_step (zB HB.out) hb); clear BK307; clear HB; have BK307 := n0_; have HB := n1_; clear n0_ n1_; (try clear hb); (try clear hb2); (try clear hk); (try clear hi)))
      have n0_ := zQ (blk_drew BK307.out)
      have n1_ := zQ (below_drew1 HB.out)
      clear BK307
      clear HB
      have BK307 := n0_
      have HB := n1_
      clear n0_ n1_
      refine start_ (n := 13) (S := fun w' => w'.cell? ⟨gb307, 0, none⟩ = some (.slice A0_0 l0_0.length c0_0) ∧ w'.cell? ⟨gb307, 1, none⟩ = some (.slice A0_1 l0_1.length c0_1) ∧ w'.cell? ⟨gb307, 2, none⟩ = some (.slice A0_2 l0_2.length c0_2) ∧ w'.cell? ⟨gb307, 3, none⟩ = some (.slice A0_3 l0_3.length c0_3)) (ds := []) #[false, false, false, false, false, false, false, false, false, false, false, false, false] (by kernel_rfl) rfl rfl (zd4 BK307.out) (fun hHeld => ?_); refine with_tabW impl_CheckProgram.tab6 impl_CheckProgram.bits6 (fun HT_ HW_ => ?_)
      generalize w19.drew = w20 at BK307 HB hHeld ⊢
      refine pure_ (i := 0) (N := some 36) (v := ?_) (a' := ?_) #[true, false, false, false, false, false, false, false, false, false, false, false, false] rfl rfl (any_of HT_.out (by kernel_rfl)) (fun _ _ _ h => h) (Or.inl ⟨by rfl, ?_⟩) ?_ ?_
      rotate_left
      ·intro w'
       go_simp
       with_reducible rfl
      rotate_left
      ·simp only [Act.put, List.setIfInBounds_toArray, List.set_cons_zero, List.set_cons_succ, i64_w, i32_w]
       rfl
      refine pure_ (i := 5) (N := some 41) (v := ?_) (a' := ?_) #[true, false, false, false, false, true, false, false, false, false, false, false, false] rfl rfl (any_of HT_.out (by kernel_rfl)) (fun _ _ _ h => h) (Or.inl ⟨by rfl, ?_⟩) ?_ ?_
      rotate_left
      ·intro w'
       go_simp
       with_reducible rfl
      rotate_left
      ·simp only [Act.put, List.setIfInBounds_toArray, List.set_cons_zero, List.set_cons_succ, i64_w, i32_w]
       rfl
      refine take_ (i := 1) (N := some 37) (v := ?_) (a' := ?_) #[true, true, false, false, false, true, false, false, false, false, false, false, false] rfl rfl (take_ofW HT_.out HW_.out (by kernel_rfl)) (fun _ _ _ h => h) (Or.inl ⟨by rfl, ?_⟩) hHeld ?_ ?_
      rotate_left
      ·rintro w' ⟨s0, s1, s2, s3⟩
       go_simp
       with_reducible rfl
      rotate_left
      ·simp only [Act.put, List.setIfInBounds_toArray, List.set_cons_zero, List.set_cons_succ, i64_w, i32_w]
       rfl
      refine pure_ (i := 2) (N := some 38) (v := ?_) (a' := ?_) #[true, true, true, false, false, true, false, false, false, false, false, false, false] rfl rfl (any_of HT_.out (by kernel_rfl)) (fun _ _ _ h => h) (Or.inl ⟨by rfl, ?_⟩) ?_ ?_
      rotate_left
      ·intro w'
       go_simp
       with_reducible rfl
      rotate_left
      ·simp only [Act.put, List.setIfInBounds_toArray, List.set_cons_zero, List.set_cons_succ, i64_w, i32_w]
       rfl
      refine pure_ (i := 3) (N := some 39) (v := ?_) (a' := ?_) #[true, true, true, true, false, true, false, false, false, false, false, false, false] rfl rfl (any_of HT_.out (by kernel_rfl)) (fun _ _ _ h => h) (Or.inl ⟨by rfl, ?_⟩) ?_ ?_
      rotate_left
      ·intro w'
       go_simp
       with_reducible rfl
      rotate_left
      ·simp only [Act.put, List.setIfInBounds_toArray, List.set_cons_zero, List.set_cons_succ, i64_w, i32_w]
       rfl
      refine take_ (i := 6) (N := some 42) (v := ?_) (a' := ?_) #[true, true, true, true, false, true, true, false, false, false, false, false, false] rfl rfl (take_ofW HT_.out HW_.out (by kernel_rfl)) (fun _ _ _ h => h) (Or.inl ⟨by rfl, ?_⟩) hHeld ?_ ?_
      rotate_left
      ·rintro w' ⟨s0, s1, s2, s3⟩
       go_simp
       with_reducible rfl
      rotate_left
      ·simp only [Act.put, List.setIfInBounds_toArray, List.set_cons_zero, List.set_cons_succ, i64_w, i32_w]
       rfl
      refine pure_ (i := 7) (N := some 43) (v := ?_) (a' := ?_) #[true, true, true, true, false, true, true, true, false, false, false, false, false] rfl rfl (any_of HT_.out (by kernel_rfl)) (fun _ _ _ h => h) (Or.inl ⟨by rfl, ?_⟩) ?_ ?_
      rotate_left
      ·intro w'
       go_simp
       with_reducible rfl
      rotate_left
      ·simp only [Act.put, List.setIfInBounds_toArray, List.set_cons_zero, List.set_cons_succ, i64_w, i32_w]
       rfl
      refine pure_ (i := 8) (N := some 44) (v := ?_) (a' := ?_) #[true, true, true, true, false, true, true, true, true, false, false, false, false] rfl rfl (any_of HT_.out (by kernel_rfl)) (fun _ _ _ h => h) (Or.inl ⟨by rfl, ?_⟩) ?_ ?_
      rotate_left
      ·intro w'
       go_simp
       with_reducible rfl
      rotate_left
      ·simp only [Act.put, List.setIfInBounds_toArray, List.set_cons_zero, List.set_cons_succ, i64_w, i32_w]
       rfl
      refine one_ (i := 4) (N := some 40) #[true, true, true, true, true, true, true, true, true, false, false, false, false] rfl rfl (one_of HT_.out (by kernel_rfl)) (by decide) (fun K hK => ?_)
      refine goes_ Try.func72 (by kernel_rfl) rfl #[.bool ((l0_2.length : Int) == 0), .int .i64 5] (by rfl) rfl rfl zS ?_
      with_reducible refine (impl_when.calls ((l0_2.length : Int) == 0) 5 t312 _ A14.out).mono ?_
      rintro e w' ⟨rfl, ⟨nd, rfl⟩⟩
      refine ⟨_, rfl, ?_⟩
      refine hK.out _ _ (zd4 BK307.out) (fun hHeld => ?_)
      clear hK K
      refine norm_ (a' := ?_) ?_ ?_
      rotate_left
      ·show Act.put _ (some 40) _ = _
       simp only [Act.put, List.setIfInBounds_toArray, List.set_cons_zero, List.set_cons_succ, i64_w, i32_w]
       rfl
      refine one_ (i := 9) (N := some 45) #[true, true, true, true, true, true, true, true, true, true, false, false, false] rfl rfl (one_of HT_.out (by kernel_rfl)) (by decide) (fun K hK => ?_)
      refine goes_ Try.func72 (by kernel_rfl) rfl #[.bool (decide ((l0_2.length : Int) > 5)), .int .i64 6] (by rfl) rfl rfl zS ?_
      with_reducible refine (impl_when.calls (decide ((l0_2.length : Int) > 5)) 6 t313 _ A15.out).mono ?_
      rintro e w' ⟨rfl, ⟨nd, rfl⟩⟩
      refine ⟨_, rfl, ?_⟩
      refine hK.out _ _ (zd4 BK307.out) (fun hHeld => ?_)
      clear hK K
      refine norm_ (a' := ?_) ?_ ?_
      rotate_left
      ·show Act.put _ (some 45) _ = _
       simp only [Act.put, List.setIfInBounds_toArray, List.set_cons_zero, List.set_cons_succ, i64_w, i32_w]
       rfl
      refine one_ (i := 10) (N := some 46) #[true, true, true, true, true, true, true, true, true, true, true, false, false] rfl rfl (one_of HT_.out (by kernel_rfl)) (by decide) (fun K hK => ?_)
      refine Kd.R_lit_step (Kd.int .i64) _ 3 ?hg (N := 46) ?hd (xs := ([t312, t313] : List Int)) (inner := [.int .i64 t312, .int .i64 t313]) (ok := fun _ => True) (okp := fun _ => True) ?hr ?hp (fun _ hk => hk) trivial (Below.refl _ _) (Nat.le_refl _) (by simp) ?_; (case hd => rfl); (case hg => rfl); (case hr => first | (go_simp; done) | (go_simp; rfl)); (case hp => exact (Reps.one (show Kd.M (Kd.int .i64) _ _ _ t312 [.int .i64 t312] from rfl) (Reps.one (show Kd.M (Kd.int .i64) _ _ _ t313 [.int .i64 t313] from rfl) (Reps.none _ _))))
      intro v315 w21 ho22 hb hg_ hnew_
      clear hg_ hnew_
      (first | rw [← Ny314.out] at ho22 | (simp only [Int.reduceToNat] at ho22; rw [← Ny314.out] at ho22))
      have n0_ := zQ (Kd.R_lower ho22 (below_size (zB HB.out)))
      have n1_ := zQ (zL BK307.out hb)
      have n2_ := zQ (below_step (zB HB.out) hb)
      clear BK307
      clear HB
      have HO316 := n0_
      have BK307 := n1_
      have HB := n2_
      clear n0_ n1_ n2_
      clear hb ho22
      obtain ⟨Ao23, co23, eo23⟩ := Kd.R_slice HO316.out
      (first | subst eo23 | (injection eo23 with f1_ f2_ f3_; have f4_ := f1_.symm; have f5_ := f3_.symm; clear f1_ f2_ f3_; subst f4_; subst f5_))
      refine hK.out _ _ (zd4 BK307.out) (fun hHeld => ?_)
      clear hK K
      refine norm_ (a' := ?_) ?_ ?_
      rotate_left
      ·show Act.put _ (some 46) _ = _
       simp only [Act.put, List.setIfInBounds_toArray, List.set_cons_zero, List.set_cons_succ, i64_w, i32_w]
       rfl
      refine one_ (i := 11) (N := some 47) #[true, true, true, true, true, true, true, true, true, true, true, true, false] rfl rfl (one_of HT_.out (by kernel_rfl)) (by decide) (fun K hK => ?_)
      refine goes_ Try.func70 (by kernel_rfl) rfl #[.slice Ao23 y314.length co23] (by rfl) rfl rfl zS ?_
      with_reducible refine (impl_first.calls kj1 _ _ y314 t317 _ ?side1 ?side2 A16.out).mono ?_
      (case side1 => exact zC (Kd.R_reads' HO316.out).2.2)
      (case side2 => exact (Kd.R_reads' HO316.out).2.1)
      rintro e w' ⟨rfl, ⟨nd, rfl⟩⟩
      refine ⟨_, rfl, ?_⟩
      refine hK.out _ _ (zd4 BK307.out) (fun hHeld => ?_)
      clear hK K
      refine norm_ (a' := ?_) ?_ ?_
      rotate_left
      ·show Act.put _ (some 47) _ = _
       simp only [Act.put, List.setIfInBounds_toArray, List.set_cons_zero, List.set_cons_succ, i64_w, i32_w]
       rfl
      refine pure_ (i := 12) (N := some 7) (v := ?_) (a' := ?_) #[true, true, true, true, true, true, true, true, true, true, true, true, true] rfl rfl (any_of HT_.out (by kernel_rfl)) (fun _ _ _ h => h) (Or.inl ⟨by rfl, ?_⟩) ?_ ?_
      rotate_left
      ·intro w'
       go_simp
       with_reducible rfl
      rotate_left
      ·simp only [Act.put, List.setIfInBounds_toArray, List.set_cons_zero, List.set_cons_succ, i64_w, i32_w]
       rfl
      refine done_ (done_of HT_.out (by kernel_rfl)) ?_
      obtain ⟨hcz24_0, hcz24_1, hcz24_2, hcz24_3, hfz24_0, hfz24_1, hfz24_2, hfz24_3⟩ := zc4 BK307.out
      try go_wp2
      go_loopg [54] kj1 (fun kq v54 w' => ∃ (x54_2 : Int), v54 = .int .i64 x54_2 ∧ Aside0 (impl_CheckProgram.l0 kq l0_2 (l0_2.length : Int) x54_2 l0_0 l0_1 l0_2 l0_3 = some (r1, r2)) ∧ Aside0 (kq ≤ kj1) ∧ Aside0 (w'.heap[gb307]? = some (.cells #[(.slice A0_0 l0_0.length c0_0), (.slice A0_1 l0_1.length c0_1), (.slice A0_2 l0_2.length c0_2), (.slice A0_3 l0_3.length c0_3)] 64 (0, 0))) ∧ Aside0 (Below w.heap.size w w'))
      case atStart => exact ⟨(0), (by first | rfl | (simp; done) | (simp [*]; done)), H', ⟨Nat.le_refl _⟩, ⟨by (with_reducible repeat (first | refine blk_drewN ?_ _ | refine blk_drew ?_ | refine blk_alloc ?_ _)); exact BK307.out⟩, ⟨zB HB.out⟩⟩
      case round =>
       clear H'
       try clear c1
       try clear p2
       try clear c3
       try clear c5
       try clear c7
       try clear c9
       try clear c11
       try clear c13
       try clear c13b0
       try clear c13b1
       try clear c17
       try clear c17b0
       try clear c17b1
       try clear hcz18_0
       try clear hcz18_1
       try clear hcz18_2
       try clear hcz18_3
       try clear hcz24_0
       try clear hcz24_1
       try clear hcz24_2
       try clear hcz24_3
       try clear hcz6_0
       try clear hcz6_1
       try clear hcz6_2
       try clear hcz6_3
       try clear hcz8_0
       try clear hcz8_1
       try clear hcz8_2
       try clear hcz8_3
       try clear hcz9_0
       try clear hcz9_1
       try clear hcz9_2
       try clear hcz9_3
       try clear hfz18_0
       try clear hfz18_1
       try clear hfz18_2
       try clear hfz18_3
       try clear hfz24_0
       try clear hfz24_1
       try clear hfz24_2
       try clear hfz24_3
       try clear hfz6_0
       try clear hfz6_1
       try clear hfz6_2
       try clear hfz6_3
       try clear hfz8_0
       try clear hfz8_1
       try clear hfz8_2
       try clear hfz8_3
       try clear hfz9_0
       try clear hfz9_1
       try clear hfz9_2
       try clear hfz9_3
       try clear p2
       obtain ⟨x54_2, rfl, HA, HK2, BK307, HB⟩ := hrel
       cases gk with
       | zero => exact absurd HA.out (by simp [impl_CheckProgram.l0])
       | succ k2 =>
        have H := HA.out
        clear HA
        simp only [impl_CheckProgram.l0] at H
        by_cases c25 : x54_2 < (l0_2.length : Int)
        ·rw [if_pos c25] at H
         have c25b0 : decide (x54_2 < (l0_2.length : Int)) = true := decide_eq_true c25
         clear c25
         by_cases c26 : 0 ≤ x54_2
         ·rw [if_pos c26] at H
          have c26b0 : decide (0 ≤ x54_2) = true := decide_eq_true c26
          clear c26
          by_cases c27 : x54_2 < (l0_2.length : Int)
          ·rw [if_pos c27] at H
           have c27b0 : decide (x54_2 < (l0_2.length : Int)) = true := decide_eq_true c27
           clear c27
           replace H := Option.bind_eq_some_iff.mp H
           obtain ⟨t320, A280, H⟩ := H
           replace H : ((impl_when.f (!t320) 10).bind fun t321 => ((impl_when.f (decide (((rd_T135 l0_2 x54_2).f5) ≥ (l0_1.length : Int))) 15).bind fun t322 => ((impl_first.f k2 (([t321, t322] : List Int))).bind fun t326 => (if t326 = 0 then (impl_CheckProgram.l0 k2 l0_2 (l0_2.length : Int) (wrap64 (x54_2 + 1)) l0_0 l0_1 l0_2 l0_3) else (some (x54_2, t326)))))) = some (r1, r2) := H
           have A28 := zQ A280
           clear A280
           replace H := Option.bind_eq_some_iff.mp H
           obtain ⟨t321, A290, H⟩ := H
           replace H : ((impl_when.f (decide (((rd_T135 l0_2 x54_2).f5) ≥ (l0_1.length : Int))) 15).bind fun t322 => ((impl_first.f k2 (([t321, t322] : List Int))).bind fun t326 => (if t326 = 0 then (impl_CheckProgram.l0 k2 l0_2 (l0_2.length : Int) (wrap64 (x54_2 + 1)) l0_0 l0_1 l0_2 l0_3) else (some (x54_2, t326))))) = some (r1, r2) := H
           have A29 := zQ A290
           clear A290
           replace H := Option.bind_eq_some_iff.mp H
           obtain ⟨t322, A300, H⟩ := H
           replace H : ((impl_first.f k2 (([t321, t322] : List Int))).bind fun t326 => (if t326 = 0 then (impl_CheckProgram.l0 k2 l0_2 (l0_2.length : Int) (wrap64 (x54_2 + 1)) l0_0 l0_1 l0_2 l0_3) else (some (x54_2, t326)))) = some (r1, r2) := H
           have A30 := zQ A300
           clear A300
           obtain ⟨y323, hy323⟩ : ∃ y_ : List Int, y_ = (([t321, t322] : List Int)) := ⟨_, rfl⟩
           replace H : ((impl_first.f k2 y323).bind fun t326 => (if t326 = 0 then (impl_CheckProgram.l0 k2 l0_2 (l0_2.length : Int) (wrap64 (x54_2 + 1)) l0_0 l0_1 l0_2 l0_3) else (some (x54_2, t326)))) = some (r1, r2) := by first | (rw [hy323]; with_reducible exact H) | (have H2_ := (Option.bind_some _ _).symm.trans H; rw [hy323]; with_reducible exact H2_) | (have H2_ := (Option.bind_some _ _).symm.trans H; with_reducible exact H2_) | with_reducible exact H | (rw [hy323]; exact H) | exact H
           have Ny323 := zQ hy323
           clear hy323
           replace H := Option.bind_eq_some_iff.mp H
           obtain ⟨t326, A310, H⟩ := H
           replace H : (if t326 = 0 then (impl_CheckProgram.l0 k2 l0_2 (l0_2.length : Int) (wrap64 (x54_2 + 1)) l0_0 l0_1 l0_2 l0_3) else (some (x54_2, t326))) = some (r1, r2) := H
           have A31 := zQ A310
           clear A310
           by_cases c32 : t326 = 0
           ·rw [if_pos c32] at H
            have c32b0 : (t326 == 0) = true := beq_iff_eq.mpr c32
            have c32b1 : (t326 != 0) = false := bne_eq_false_iff_eq.mpr c32
            clear c32
            have H' := zQ H
            clear H
            have p318 : 0 ≤ (x54_2 : Int) := zA
            have q318 : x54_2 < (l0_2.length : Int) := zA
            obtain ⟨ad318, e318, hx318_0, hx318_1, hx318_2, hx318_3, hx318_4, hx318_5⟩ := at_T135 HR0_2.out x54_2 p318 q318
            cases e318
            replace hx318_0 := zX HB.out hx318_0
            replace hx318_1 := zX HB.out hx318_1
            replace hx318_2 := zX HB.out hx318_2
            replace hx318_3 := zX HB.out hx318_3
            replace hx318_4 := zX HB.out hx318_4
            replace hx318_5 := zX HB.out hx318_5
            replace p318 := eq_true p318
            replace q318 := eq_true q318
            try go_wp2_with (first | ((with_reducible refine gate_dst (N := 9) rfl ?_); (try (refine gate_guard (by rfl) ?_; dsimp only)); refine box_event ?hg (N := 9) ?hd (cs := #[.int .i64 0, .int .i64 0, .int .i64 0, .int .i64 0, .int .i64 0, .int .i64 0]) (t := 135) ?hr ?_; (case hd => rfl); (case hg => rfl); (case hr => first | (go_simp; done) | (go_simp; rfl)); intro gb319 hg w33 hbox hb; have n0_ := zQ (zL BK307.out hb); have n1_ := zQ (below_step (zB HB.out) hb); have n2_ := zQ (hbox); have n3_ := zQ ((zG hg HB.out)); have n4_ := zQ ((zG hg HB.out)); have n5_ := zQ ((zN hg BK307.out)); have n6_ := zQ ((zM hg BK307.out)); clear BK307; clear HB; have BK307 := n0_; have HB := n1_; have BK319 := n2_; have GW319 := n3_; have GE319 := n4_; have NB307_319 := n5_; have NB319_307 := n6_; clear n0_ n1_ n2_ n3_ n4_ n5_ n6_; clear hb hbox hg; have hnb34 := NB319_307.out; have hnc34 := NB307_319.out; obtain ⟨hcz35_0, hcz35_1, hcz35_2, hcz35_3, hcz35_4, hcz35_5, hfz35_0, hfz35_1, hfz35_2, hfz35_3, hfz35_4, hfz35_5⟩ := zc6 BK319.out))
            have n0_ : Aside0 (((((((w33.setCell ⟨gb319, 0, none⟩ (.int .i64 ((rd_T135 l0_2 x54_2).f0))).setCell ⟨gb319, 1, none⟩ (.int .i64 ((rd_T135 l0_2 x54_2).f1))).setCell ⟨gb319, 2, none⟩ (.int .i64 ((rd_T135 l0_2 x54_2).f2))).setCell ⟨gb319, 3, none⟩ (.int .i64 ((rd_T135 l0_2 x54_2).f3))).setCell ⟨gb319, 4, none⟩ (.int .i64 ((rd_T135 l0_2 x54_2).f4))).setCell ⟨gb319, 5, none⟩ (.int .i64 ((rd_T135 l0_2 x54_2).f5))).heap[gb307]? = some (.cells #[.slice A0_0 l0_0.length c0_0, .slice A0_1 l0_1.length c0_1, .slice (some ad318) l0_2.length c0_2, .slice A0_3 l0_3.length c0_3] 64 (0, 0))) := ⟨zF BK307.out⟩
            have n1_ : Aside0 (((((((w33.setCell ⟨gb319, 0, none⟩ (.int .i64 ((rd_T135 l0_2 x54_2).f0))).setCell ⟨gb319, 1, none⟩ (.int .i64 ((rd_T135 l0_2 x54_2).f1))).setCell ⟨gb319, 2, none⟩ (.int .i64 ((rd_T135 l0_2 x54_2).f2))).setCell ⟨gb319, 3, none⟩ (.int .i64 ((rd_T135 l0_2 x54_2).f3))).setCell ⟨gb319, 4, none⟩ (.int .i64 ((rd_T135 l0_2 x54_2).f4))).setCell ⟨gb319, 5, none⟩ (.int .i64 ((rd_T135 l0_2 x54_2).f5))).heap[gb319]? = some (.cells #[.int .i64 ((rd_T135 l0_2 x54_2).f0), .int .i64 ((rd_T135 l0_2 x54_2).f1), .int .i64 ((rd_T135 l0_2 x54_2).f2), .int .i64 ((rd_T135 l0_2 x54_2).f3), .int .i64 ((rd_T135 l0_2 x54_2).f4), .int .i64 ((rd_T135 l0_2 x54_2).f5)] 135 (0, 0))) := ⟨zP BK319.out⟩
            have n2_ : Aside0 (Below w.heap.size w ((((((w33.setCell ⟨gb319, 0, none⟩ (.int .i64 ((rd_T135 l0_2 x54_2).f0))).setCell ⟨gb319, 1, none⟩ (.int .i64 ((rd_T135 l0_2 x54_2).f1))).setCell ⟨gb319, 2, none⟩ (.int .i64 ((rd_T135 l0_2 x54_2).f2))).setCell ⟨gb319, 3, none⟩ (.int .i64 ((rd_T135 l0_2 x54_2).f3))).setCell ⟨gb319, 4, none⟩ (.int .i64 ((rd_T135 l0_2 x54_2).f4))).setCell ⟨gb319, 5, none⟩ (.int .i64 ((rd_T135 l0_2 x54_2).f5)))) := ⟨zB HB.out⟩
            (try clear BK307)
            (try clear BK319)
            (try clear HB)
            generalize ((((((w33.setCell ⟨gb319, 0, none⟩ (.int .i64 ((rd_T135 l0_2 x54_2).f0))).setCell ⟨gb319, 1, none⟩ (.int .i64 ((rd_T135 l0_2 x54_2).f1))).setCell ⟨gb319, 2, none⟩ (.int .i64 ((rd_T135 l0_2 x54_2).f2))).setCell ⟨gb319, 3, none⟩ (.int .i64 ((rd_T135 l0_2 x54_2).f3))).setCell ⟨gb319, 4, none⟩ (.int .i64 ((rd_T135 l0_2 x54_2).f4))).setCell ⟨gb319, 5, none⟩ (.int .i64 ((rd_T135 l0_2 x54_2).f5))) = w36 at n0_ n1_ n2_ ⊢
            have BK307 := n0_
            have BK319 := n1_
            have HB := n2_
            clear n0_ n1_ n2_
            have n0_ := zQ (blk_drew BK307.out)
            have n1_ := zQ (blk_drew BK319.out)
            have n2_ := zQ (below_drew1 HB.out)
            clear BK307
            clear BK319
            clear HB
            have BK307 := n0_
            have BK319 := n1_
            have HB := n2_
            clear n0_ n1_ n2_
            refine start_ (n := 14) (S := fun w' => w'.cell? ⟨gb319, 0, none⟩ = some (.int .i64 ((rd_T135 l0_2 x54_2).f0)) ∧ w'.cell? ⟨gb319, 1, none⟩ = some (.int .i64 ((rd_T135 l0_2 x54_2).f1)) ∧ w'.cell? ⟨gb319, 2, none⟩ = some (.int .i64 ((rd_T135 l0_2 x54_2).f2)) ∧ w'.cell? ⟨gb319, 3, none⟩ = some (.int .i64 ((rd_T135 l0_2 x54_2).f3)) ∧ w'.cell? ⟨gb319, 4, none⟩ = some (.int .i64 ((rd_T135 l0_2 x54_2).f4)) ∧ w'.cell? ⟨gb319, 5, none⟩ = some (.int .i64 ((rd_T135 l0_2 x54_2).f5)) ∧ w'.cell? ⟨gb307, 0, none⟩ = some (.slice A0_0 l0_0.length c0_0) ∧ w'.cell? ⟨gb307, 1, none⟩ = some (.slice A0_1 l0_1.length c0_1) ∧ w'.cell? ⟨gb307, 2, none⟩ = some (.slice (some ad318) l0_2.length c0_2) ∧ w'.cell? ⟨gb307, 3, none⟩ = some (.slice A0_3 l0_3.length c0_3)) (ds := []) #[false, false, false, false, false, false, false, false, false, false, false, false, false, false] (by kernel_rfl) rfl rfl ⟨(blk_cell BK319.out 0).trans rfl, (blk_cell BK319.out 1).trans rfl, (blk_cell BK319.out 2).trans rfl, (blk_cell BK319.out 3).trans rfl, (blk_cell BK319.out 4).trans rfl, (blk_cell BK319.out 5).trans rfl, (blk_cell BK307.out 0).trans rfl, (blk_cell BK307.out 1).trans rfl, (blk_cell BK307.out 2).trans rfl, (blk_cell BK307.out 3).trans rfl⟩ (fun hHeld => ?_); refine with_tabW impl_CheckProgram.tab12 impl_CheckProgram.bits12 (fun HT_ HW_ => ?_)
            generalize w36.drew = w37 at BK307 BK319 HB hHeld ⊢
            refine pure_ (i := 4) (N := some 63) (v := ?_) (a' := ?_) #[false, false, false, false, true, false, false, false, false, false, false, false, false, false] rfl rfl (any_of HT_.out (by kernel_rfl)) (fun _ _ _ h => h) (Or.inl ⟨by rfl, ?_⟩) ?_ ?_
            rotate_left
            ·intro w'
             go_simp
             with_reducible rfl
            rotate_left
            ·simp only [Act.put, List.setIfInBounds_toArray, List.set_cons_zero, List.set_cons_succ, i64_w, i32_w]
             rfl
            refine pure_ (i := 6) (N := some 65) (v := ?_) (a' := ?_) #[false, false, false, false, true, false, true, false, false, false, false, false, false, false] rfl rfl (any_of HT_.out (by kernel_rfl)) (fun _ _ _ h => h) (Or.inl ⟨by rfl, ?_⟩) ?_ ?_
            rotate_left
            ·intro w'
             go_simp
             with_reducible rfl
            rotate_left
            ·simp only [Act.put, List.setIfInBounds_toArray, List.set_cons_zero, List.set_cons_succ, i64_w, i32_w]
             rfl
            refine take_ (i := 0) (N := some 59) (v := ?_) (a' := ?_) #[true, false, false, false, true, false, true, false, false, false, false, false, false, false] rfl rfl (take_ofW HT_.out HW_.out (by kernel_rfl)) (fun _ _ _ h => h) (Or.inl ⟨by rfl, ?_⟩) hHeld ?_ ?_
            rotate_left
            ·rintro w' ⟨s0, s1, s2, s3, s4, s5, s6, s7, s8, s9⟩
             go_simp
             with_reducible rfl
            rotate_left
            ·simp only [Act.put, List.setIfInBounds_toArray, List.set_cons_zero, List.set_cons_succ, i64_w, i32_w]
             rfl
            refine take_ (i := 5) (N := some 64) (v := ?_) (a' := ?_) #[true, false, false, false, true, true, true, false, false, false, false, false, false, false] rfl rfl (take_ofW HT_.out HW_.out (by kernel_rfl)) (fun _ _ _ h => h) (Or.inl ⟨by rfl, ?_⟩) hHeld ?_ ?_
            rotate_left
            ·rintro w' ⟨s0, s1, s2, s3, s4, s5, s6, s7, s8, s9⟩
             go_simp
             with_reducible rfl
            rotate_left
            ·simp only [Act.put, List.setIfInBounds_toArray, List.set_cons_zero, List.set_cons_succ, i64_w, i32_w]
             rfl
            refine take_ (i := 7) (N := some 66) (v := ?_) (a' := ?_) #[true, false, false, false, true, true, true, true, false, false, false, false, false, false] rfl rfl (take_ofW HT_.out HW_.out (by kernel_rfl)) (fun _ _ _ h => h) (Or.inl ⟨by rfl, ?_⟩) hHeld ?_ ?_
            rotate_left
            ·rintro w' ⟨s0, s1, s2, s3, s4, s5, s6, s7, s8, s9⟩
             go_simp
             with_reducible rfl
            rotate_left
            ·simp only [Act.put, List.setIfInBounds_toArray, List.set_cons_zero, List.set_cons_succ, i64_w, i32_w]
             rfl
            refine pure_ (i := 8) (N := some 67) (v := ?_) (a' := ?_) #[true, false, false, false, true, true, true, true, true, false, false, false, false, false] rfl rfl (any_of HT_.out (by kernel_rfl)) (fun _ _ _ h => h) (Or.inl ⟨by rfl, ?_⟩) ?_ ?_
            rotate_left
            ·intro w'
             go_simp
             with_reducible rfl
            rotate_left
            ·simp only [Act.put, List.setIfInBounds_toArray, List.set_cons_zero, List.set_cons_succ, i64_w, i32_w]
             rfl
            refine pure_ (i := 9) (N := some 68) (v := ?_) (a' := ?_) #[true, false, false, false, true, true, true, true, true, true, false, false, false, false] rfl rfl (any_of HT_.out (by kernel_rfl)) (fun _ _ _ h => h) (Or.inl ⟨by rfl, ?_⟩) ?_ ?_
            rotate_left
            ·intro w'
             go_simp
             with_reducible rfl
            rotate_left
            ·simp only [Act.put, List.setIfInBounds_toArray, List.set_cons_zero, List.set_cons_succ, i64_w, i32_w]
             rfl
            refine one_ (i := 1) (N := some 60) #[true, true, false, false, true, true, true, true, true, true, false, false, false, false] rfl rfl (one_of HT_.out (by kernel_rfl)) (by decide) (fun K hK => ?_)
            refine goes_ Try.func97 (by kernel_rfl) rfl #[.agg #[.int .i64 ((rd_T135 l0_2 x54_2).f0), .int .i64 ((rd_T135 l0_2 x54_2).f1), .int .i64 ((rd_T135 l0_2 x54_2).f2), .int .i64 ((rd_T135 l0_2 x54_2).f3), .int .i64 ((rd_T135 l0_2 x54_2).f4), .int .i64 ((rd_T135 l0_2 x54_2).f5)]] (by rfl) rfl rfl zS ?_
            with_reducible refine (impl_TaskOK.calls k2 ((rd_T135 l0_2 x54_2).f0) ((rd_T135 l0_2 x54_2).f1) ((rd_T135 l0_2 x54_2).f2) ((rd_T135 l0_2 x54_2).f3) ((rd_T135 l0_2 x54_2).f4) ((rd_T135 l0_2 x54_2).f5) t320 _ A28.out).mono ?_
            rintro e w38 ⟨rfl, hb⟩
            refine ⟨_, rfl, ?_⟩
            have n0_ := zQ (zL BK307.out hb)
            have n1_ := zQ (zL BK319.out hb)
            have n2_ := zQ (below_step (zB HB.out) hb)
            clear BK307
            clear BK319
            clear HB
            have BK307 := n0_
            have BK319 := n1_
            have HB := n2_
            clear n0_ n1_ n2_
            (try clear hb)
            (try clear hb2)
            (try clear hk)
            (try clear hi)
            refine hK.out _ _ ⟨(blk_cell BK319.out 0).trans rfl, (blk_cell BK319.out 1).trans rfl, (blk_cell BK319.out 2).trans rfl, (blk_cell BK319.out 3).trans rfl, (blk_cell BK319.out 4).trans rfl, (blk_cell BK319.out 5).trans rfl, (blk_cell BK307.out 0).trans rfl, (blk_cell BK307.out 1).trans rfl, (blk_cell BK307.out 2).trans rfl, (blk_cell BK307.out 3).trans rfl⟩ (fun hHeld => ?_)
            clear hK K
            refine norm_ (a' := ?_) ?_ ?_
            rotate_left
            ·show Act.put _ (some 60) _ = _
             simp only [Act.put, List.setIfInBounds_toArray, List.set_cons_zero, List.set_cons_succ, i64_w, i32_w]
             rfl
            refine pure_ (i := 2) (N := some 61) (v := ?_) (a' := ?_) #[true, true, true, false, true, true, true, true, true, true, false, false, false, false] rfl rfl (any_of HT_.out (by kernel_rfl)) (fun _ _ _ h => h) (Or.inl ⟨by rfl, ?_⟩) ?_ ?_
            rotate_left
            ·intro w'
             go_simp
             with_reducible rfl
            rotate_left
            ·simp only [Act.put, List.setIfInBounds_toArray, List.set_cons_zero, List.set_cons_succ, i64_w, i32_w]
             rfl
            refine one_ (i := 3) (N := some 62) #[true, true, true, true, true, true, true, true, true, true, false, false, false, false] rfl rfl (one_of HT_.out (by kernel_rfl)) (by decide) (fun K hK => ?_)
            refine goes_ Try.func72 (by kernel_rfl) rfl #[.bool (!t320), .int .i64 10] (by rfl) rfl rfl zS ?_
            with_reducible refine (impl_when.calls (!t320) 10 t321 _ A29.out).mono ?_
            rintro e w' ⟨rfl, ⟨nd, rfl⟩⟩
            refine ⟨_, rfl, ?_⟩
            refine hK.out _ _ ⟨(blk_cell BK319.out 0).trans rfl, (blk_cell BK319.out 1).trans rfl, (blk_cell BK319.out 2).trans rfl, (blk_cell BK319.out 3).trans rfl, (blk_cell BK319.out 4).trans rfl, (blk_cell BK319.out 5).trans rfl, (blk_cell BK307.out 0).trans rfl, (blk_cell BK307.out 1).trans rfl, (blk_cell BK307.out 2).trans rfl, (blk_cell BK307.out 3).trans rfl⟩ (fun hHeld => ?_)
            clear hK K
            refine norm_ (a' := ?_) ?_ ?_
            rotate_left
            ·show Act.put _ (some 62) _ = _
             simp only [Act.put, List.setIfInBounds_toArray, List.set_cons_zero, List.set_cons_succ, i64_w, i32_w]
             rfl
            refine one_ (i := 10) (N := some 69) #[true, true, true, true, true, true, true, true, true, true, true, false, false, false] rfl rfl (one_of HT_.out (by kernel_rfl)) (by decide) (fun K hK => ?_)
            refine goes_ Try.func72 (by kernel_rfl) rfl #[.bool (decide (((rd_T135 l0_2 x54_2).f5) ≥ (l0_1.length : Int))), .int .i64 15] (by rfl) rfl rfl zS ?_
            with_reducible refine (impl_when.calls (decide (((rd_T135 l0_2 x54_2).f5) ≥ (l0_1.length : Int))) 15 t322 _ A30.out).mono ?_
            rintro e w' ⟨rfl, ⟨nd, rfl⟩⟩
            refine ⟨_, rfl, ?_⟩
            refine hK.out _ _ ⟨(blk_cell BK319.out 0).trans rfl, (blk_cell BK319.out 1).trans rfl, (blk_cell BK319.out 2).trans rfl, (blk_cell BK319.out 3).trans rfl, (blk_cell BK319.out 4).trans rfl, (blk_cell BK319.out 5).trans rfl, (blk_cell BK307.out 0).trans rfl, (blk_cell BK307.out 1).trans rfl, (blk_cell BK307.out 2).trans rfl, (blk_cell BK307.out 3).trans rfl⟩ (fun hHeld => ?_)
            clear hK K
            refine norm_ (a' := ?_) ?_ ?_
            rotate_left
            ·show Act.put _ (some 69) _ = _
             simp only [Act.put, List.setIfInBounds_toArray, List.set_cons_zero, List.set_cons_succ, i64_w, i32_w]
             rfl
            refine one_ (i := 11) (N := some 70) #[true, true, true, true, true, true, true, true, true, true, true, true, false, false] rfl rfl (one_of HT_.out (by kernel_rfl)) (by decide) (fun K hK => ?_)
            refine Kd.R_lit_step (Kd.int .i64) _ 3 ?hg (N := 70) ?hd (xs := ([t321, t322] : List Int)) (inner := [.int .i64 t321, .int .i64 t322]) (ok := fun _ => True) (okp := fun _ => True) ?hr ?hp (fun _ hk => hk) trivial (Below.refl _ _) (Nat.le_refl _) (by simp) ?_; (case hd => rfl); (case hg => rfl); (case hr => first | (go_simp; done) | (go_simp; rfl)); (case hp => exact (Reps.one (show Kd.M (Kd.int .i64) _ _ _ t321 [.int .i64 t321] from rfl) (Reps.one (show Kd.M (Kd.int .i64) _ _ _ t322 [.int .i64 t322] from rfl) (Reps.none _ _))))
            intro v324 w39 ho40 hb hg_ hnew_
            clear hg_ hnew_
            (first | rw [← Ny323.out] at ho40 | (simp only [Int.reduceToNat] at ho40; rw [← Ny323.out] at ho40))
            have n0_ := zQ (Kd.R_lower ho40 (below_size (zB HB.out)))
            have n1_ := zQ (zL BK307.out hb)
            have n2_ := zQ (zL BK319.out hb)
            have n3_ := zQ (below_step (zB HB.out) hb)
            clear BK307
            clear BK319
            clear HB
            have HO325 := n0_
            have BK307 := n1_
            have BK319 := n2_
            have HB := n3_
            clear n0_ n1_ n2_ n3_
            clear hb ho40
            obtain ⟨Ao41, co41, eo41⟩ := Kd.R_slice HO325.out
            (first | subst eo41 | (injection eo41 with f1_ f2_ f3_; have f4_ := f1_.symm; have f5_ := f3_.symm; clear f1_ f2_ f3_; subst f4_; subst f5_))
            refine hK.out _ _ ⟨(blk_cell BK319.out 0).trans rfl, (blk_cell BK319.out 1).trans rfl, (blk_cell BK319.out 2).trans rfl, (blk_cell BK319.out 3).trans rfl, (blk_cell BK319.out 4).trans rfl, (blk_cell BK319.out 5).trans rfl, (blk_cell BK307.out 0).trans rfl, (blk_cell BK307.out 1).trans rfl, (blk_cell BK307.out 2).trans rfl, (blk_cell BK307.out 3).trans rfl⟩ (fun hHeld => ?_)
            clear hK K
            refine norm_ (a' := ?_) ?_ ?_
            rotate_left
            ·show Act.put _ (some 70) _ = _
             simp only [Act.put, List.setIfInBounds_toArray, List.set_cons_zero, List.set_cons_succ, i64_w, i32_w]
             rfl
            refine one_ (i := 12) (N := some 71) #[true, true, true, true, true, true, true, true, true, true, true, true, true, false] rfl rfl (one_of HT_.out (by kernel_rfl)) (by decide) (fun K hK => ?_)
            refine goes_ Try.func70 (by kernel_rfl) rfl #[.slice Ao41 y323.length co41] (by rfl) rfl rfl zS ?_
            with_reducible refine (impl_first.calls k2 _ _ y323 t326 _ ?side1 ?side2 A31.out).mono ?_
            (case side1 => exact zC (Kd.R_reads' HO325.out).2.2)
            (case side2 => exact (Kd.R_reads' HO325.out).2.1)
            rintro e w' ⟨rfl, ⟨nd, rfl⟩⟩
            refine ⟨_, rfl, ?_⟩
            refine hK.out _ _ ⟨(blk_cell BK319.out 0).trans rfl, (blk_cell BK319.out 1).trans rfl, (blk_cell BK319.out 2).trans rfl, (blk_cell BK319.out 3).trans rfl, (blk_cell BK319.out 4).trans rfl, (blk_cell BK319.out 5).trans rfl, (blk_cell BK307.out 0).trans rfl, (blk_cell BK307.out 1).trans rfl, (blk_cell BK307.out 2).trans rfl, (blk_cell BK307.out 3).trans rfl⟩ (fun hHeld => ?_)
            clear hK K
            refine norm_ (a' := ?_) ?_ ?_
            rotate_left
            ·show Act.put _ (some 71) _ = _
             simp only [Act.put, List.setIfInBounds_toArray, List.set_cons_zero, List.set_cons_succ, i64_w, i32_w]
             rfl
            refine pure_ (i := 13) (N := some 10) (v := ?_) (a' := ?_) #[true, true, true, true, true, true, true, true, true, true, true, true, true, true] rfl rfl (any_of HT_.out (by kernel_rfl)) (fun _ _ _ h => h) (Or.inl ⟨by rfl, ?_⟩) ?_ ?_
            rotate_left
            ·intro w'
             go_simp
             with_reducible rfl
            rotate_left
            ·simp only [Act.put, List.setIfInBounds_toArray, List.set_cons_zero, List.set_cons_succ, i64_w, i32_w]
             rfl
            refine done_ (done_of HT_.out (by kernel_rfl)) ?_
            try go_wp2
            go_roundg k2
            case measure => have := HJ1.out; have := HK2.out; omega
            case rel => exact ⟨(wrap64 (x54_2 + 1)), (by first | rfl | (simp; done) | (simp [*]; done)), H', ⟨by have := HJ1.out; have := HK2.out; omega⟩, ⟨by (with_reducible repeat (first | refine blk_drewN ?_ _ | refine blk_drew ?_ | refine blk_alloc ?_ _)); exact BK307.out⟩, ⟨zB HB.out⟩⟩
           ·rw [if_neg c32] at H
            have c32b0 : (t326 == 0) = false := beq_eq_false_iff_ne.mpr c32
            have c32b1 : (t326 != 0) = true := bne_iff_ne.mpr c32
            simp only [Option.some.injEq, Prod.mk.injEq] at H
            obtain ⟨rfl, rfl⟩ := H
            have p318 : 0 ≤ (x54_2 : Int) := zA
            have q318 : x54_2 < (l0_2.length : Int) := zA
            obtain ⟨ad318, e318, hx318_0, hx318_1, hx318_2, hx318_3, hx318_4, hx318_5⟩ := at_T135 HR0_2.out x54_2 p318 q318
            cases e318
            replace hx318_0 := zX HB.out hx318_0
            replace hx318_1 := zX HB.out hx318_1
            replace hx318_2 := zX HB.out hx318_2
            replace hx318_3 := zX HB.out hx318_3
            replace hx318_4 := zX HB.out hx318_4
            replace hx318_5 := zX HB.out hx318_5
            replace p318 := eq_true p318
            replace q318 := eq_true q318
            try go_wp2_with (first | ((with_reducible refine gate_dst (N := 9) rfl ?_); (try (refine gate_guard (by rfl) ?_; dsimp only)); refine box_event ?hg (N := 9) ?hd (cs := #[.int .i64 0, .int .i64 0, .int .i64 0, .int .i64 0, .int .i64 0, .int .i64 0]) (t := 135) ?hr ?_; (case hd => rfl); (case hg => rfl); (case hr => first | (go_simp; done) | (go_simp; rfl)); intro gb319 hg w42 hbox hb; have n0_ := zQ (zL BK307.out hb); have n1_ := zQ (below_step (zB HB.out) hb); have n2_ := zQ (hbox); have n3_ := zQ ((zG hg HB.out)); have n4_ := zQ ((zG hg HB.out)); have n5_ := zQ ((zN hg BK307.out)); have n6_ := zQ ((zM hg BK307.out)); clear BK307; clear HB; have BK307 := n0_; have HB := n1_; have BK319 := n2_; have GW319 := n3_; have GE319 := n4_; have NB307_319 := n5_; have NB319_307 := n6_; clear n0_ n1_ n2_ n3_ n4_ n5_ n6_; clear hb hbox hg; have hnb43 := NB319_307.out; have hnc43 := NB307_319.out; obtain ⟨hcz44_0, hcz44_1, hcz44_2, hcz44_3, hcz44_4, hcz44_5, hfz44_0, hfz44_1, hfz44_2, hfz44_3, hfz44_4, hfz44_5⟩ := zc6 BK319.out))
            have n0_ : Aside0 (((((((w42.setCell ⟨gb319, 0, none⟩ (.int .i64 ((rd_T135 l0_2 x54_2).f0))).setCell ⟨gb319, 1, none⟩ (.int .i64 ((rd_T135 l0_2 x54_2).f1))).setCell ⟨gb319, 2, none⟩ (.int .i64 ((rd_T135 l0_2 x54_2).f2))).setCell ⟨gb319, 3, none⟩ (.int .i64 ((rd_T135 l0_2 x54_2).f3))).setCell ⟨gb319, 4, none⟩ (.int .i64 ((rd_T135 l0_2 x54_2).f4))).setCell ⟨gb319, 5, none⟩ (.int .i64 ((rd_T135 l0_2 x54_2).f5))).heap[gb307]? = some (.cells #[.slice A0_0 l0_0.length c0_0, .slice A0_1 l0_1.length c0_1, .slice (some ad318) l0_2.length c0_2, .slice A0_3 l0_3.length c0_3] 64 (0, 0))) := ⟨zF BK307.out⟩
            have n1_ : Aside0 (((((((w42.setCell ⟨gb319, 0, none⟩ (.int .i64 ((rd_T135 l0_2 x54_2).f0))).setCell ⟨gb319, 1, none⟩ (.int .i64 ((rd_T135 l0_2 x54_2).f1))).setCell ⟨gb319, 2, none⟩ (.int .i64 ((rd_T135 l0_2 x54_2).f2))).setCell ⟨gb319, 3, none⟩ (.int .i64 ((rd_T135 l0_2 x54_2).f3))).setCell ⟨gb319, 4, none⟩ (.int .i64 ((rd_T135 l0_2 x54_2).f4))).setCell ⟨gb319, 5, none⟩ (.int .i64 ((rd_T135 l0_2 x54_2).f5))).heap[gb319]? = some (.cells #[.int .i64 ((rd_T135 l0_2 x54_2).f0), .int .i64 ((rd_T135 l0_2 x54_2).f1), .int .i64 ((rd_T135 l0_2 x54_2).f2), .int .i64 ((rd_T135 l0_2 x54_2).f3), .int .i64 ((rd_T135 l0_2 x54_2).f4), .int .i64 ((rd_T135 l0_2 x54_2).f5)] 135 (0, 0))) := ⟨zP BK319.out⟩
            have n2_ : Aside0 (Below w.heap.size w ((((((w42.setCell ⟨gb319, 0, none⟩ (.int .i64 ((rd_T135 l0_2 x54_2).f0))).setCell ⟨gb319, 1, none⟩ (.int .i64 ((rd_T135 l0_2 x54_2).f1))).setCell ⟨gb319, 2, none⟩ (.int .i64 ((rd_T135 l0_2 x54_2).f2))).setCell ⟨gb319, 3, none⟩ (.int .i64 ((rd_T135 l0_2 x54_2).f3))).setCell ⟨gb319, 4, none⟩ (.int .i64 ((rd_T135 l0_2 x54_2).f4))).setCell ⟨gb319, 5, none⟩ (.int .i64 ((rd_T135 l0_2 x54_2).f5)))) := ⟨zB HB.out⟩
            (try clear BK307)
            (try clear BK319)
            (try clear HB)
            generalize ((((((w42.setCell ⟨gb319, 0, none⟩ (.int .i64 ((rd_T135 l0_2 x54_2).f0))).setCell ⟨gb319, 1, none⟩ (.int .i64 ((rd_T135 l0_2 x54_2).f1))).setCell ⟨gb319, 2, none⟩ (.int .i64 ((rd_T135 l0_2 x54_2).f2))).setCell ⟨gb319, 3, none⟩ (.int .i64 ((rd_T135 l0_2 x54_2).f3))).setCell ⟨gb319, 4, none⟩ (.int .i64 ((rd_T135 l0_2 x54_2).f4))).setCell ⟨gb319, 5, none⟩ (.int .i64 ((rd_T135 l0_2 x54_2).f5))) = w45 at n0_ n1_ n2_ ⊢
            have BK307 := n0_
            have BK319 := n1_
            have HB := n2_
            clear n0_ n1_ n2_
            have n0_ := zQ (blk_drew BK307.out)
            have n1_ := zQ (blk_drew BK319.out)
            have n2_ := zQ (below_drew1 HB.out)
            clear BK307
            clear BK319
            clear HB
            have BK307 := n0_
            have BK319 := n1_
            have HB := n2_
            clear n0_ n1_ n2_
            refine start_ (n := 14) (S := fun w' => w'.cell? ⟨gb319, 0, none⟩ = some (.int .i64 ((rd_T135 l0_2 x54_2).f0)) ∧ w'.cell? ⟨gb319, 1, none⟩ = some (.int .i64 ((rd_T135 l0_2 x54_2).f1)) ∧ w'.cell? ⟨gb319, 2, none⟩ = some (.int .i64 ((rd_T135 l0_2 x54_2).f2)) ∧ w'.cell? ⟨gb319, 3, none⟩ = some (.int .i64 ((rd_T135 l0_2 x54_2).f3)) ∧ w'.cell? ⟨gb319, 4, none⟩ = some (.int .i64 ((rd_T135 l0_2 x54_2).f4)) ∧ w'.cell? ⟨gb319, 5, none⟩ = some (.int .i64 ((rd_T135 l0_2 x54_2).f5)) ∧ w'.cell? ⟨gb307, 0, none⟩ = some (.slice A0_0 l0_0.length c0_0) ∧ w'.cell? ⟨gb307, 1, none⟩ = some (.slice A0_1 l0_1.length c0_1) ∧ w'.cell? ⟨gb307, 2, none⟩ = some (.slice (some ad318) l0_2.length c0_2) ∧ w'.cell? ⟨gb307, 3, none⟩ = some (.slice A0_3 l0_3.length c0_3)) (ds := []) #[false, false, false, false, false, false, false, false, false, false, false, false, false, false] (by kernel_rfl) rfl rfl ⟨(blk_cell BK319.out 0).trans rfl, (blk_cell BK319.out 1).trans rfl, (blk_cell BK319.out 2).trans rfl, (blk_cell BK319.out 3).trans rfl, (blk_cell BK319.out 4).trans rfl, (blk_cell BK319.out 5).trans rfl, (blk_cell BK307.out 0).trans rfl, (blk_cell BK307.out 1).trans rfl, (blk_cell BK307.out 2).trans rfl, (blk_cell BK307.out 3).trans rfl⟩ (fun hHeld => ?_); refine with_tabW impl_CheckProgram.tab12 impl_CheckProgram.bits12 (fun HT_ HW_ => ?_)
            generalize w45.drew = w46 at BK307 BK319 HB hHeld ⊢
            refine pure_ (i := 4) (N := some 63) (v := ?_) (a' := ?_) #[false, false, false, false, true, false, false, false, false, false, false, false, false, false] rfl rfl (any_of HT_.out (by kernel_rfl)) (fun _ _ _ h => h) (Or.inl ⟨by rfl, ?_⟩) ?_ ?_
            rotate_left
            ·intro w'
             go_simp
             with_reducible rfl
            rotate_left
            ·simp only [Act.put, List.setIfInBounds_toArray, List.set_cons_zero, List.set_cons_succ, i64_w, i32_w]
             rfl
            refine pure_ (i := 6) (N := some 65) (v := ?_) (a' := ?_) #[false, false, false, false, true, false, true, false, false, false, false, false, false, false] rfl rfl (any_of HT_.out (by kernel_rfl)) (fun _ _ _ h => h) (Or.inl ⟨by rfl, ?_⟩) ?_ ?_
            rotate_left
            ·intro w'
             go_simp
             with_reducible rfl
            rotate_left
            ·simp only [Act.put, List.setIfInBounds_toArray, List.set_cons_zero, List.set_cons_succ, i64_w, i32_w]
             rfl
            refine take_ (i := 0) (N := some 59) (v := ?_) (a' := ?_) #[true, false, false, false, true, false, true, false, false, false, false, false, false, false] rfl rfl (take_ofW HT_.out HW_.out (by kernel_rfl)) (fun _ _ _ h => h) (Or.inl ⟨by rfl, ?_⟩) hHeld ?_ ?_
            rotate_left
            ·rintro w' ⟨s0, s1, s2, s3, s4, s5, s6, s7, s8, s9⟩
             go_simp
             with_reducible rfl
            rotate_left
            ·simp only [Act.put, List.setIfInBounds_toArray, List.set_cons_zero, List.set_cons_succ, i64_w, i32_w]
             rfl
            refine take_ (i := 5) (N := some 64) (v := ?_) (a' := ?_) #[true, false, false, false, true, true, true, false, false, false, false, false, false, false] rfl rfl (take_ofW HT_.out HW_.out (by kernel_rfl)) (fun _ _ _ h => h) (Or.inl ⟨by rfl, ?_⟩) hHeld ?_ ?_
            rotate_left
            ·rintro w' ⟨s0, s1, s2, s3, s4, s5, s6, s7, s8, s9⟩
             go_simp
             with_reducible rfl
            rotate_left
            ·simp only [Act.put, List.setIfInBounds_toArray, List.set_cons_zero, List.set_cons_succ, i64_w, i32_w]
             rfl
            refine take_ (i := 7) (N := some 66) (v := ?_) (a' := ?_) #[true, false, false, false, true, true, true, true, false, false, false, false, false, false] rfl rfl (take_ofW HT_.out HW_.out (by kernel_rfl)) (fun _ _ _ h => h) (Or.inl ⟨by rfl, ?_⟩) hHeld ?_ ?_
            rotate_left
            ·rintro w' ⟨s0, s1, s2, s3, s4, s5, s6, s7, s8, s9⟩
             go_simp
             with_reducible rfl
            rotate_left
            ·simp only [Act.put, List.setIfInBounds_toArray, List.set_cons_zero, List.set_cons_succ, i64_w, i32_w]
             rfl
            refine pure_ (i := 8) (N := some 67) (v := ?_) (a' := ?_) #[true, false, false, false, true, true, true, true, true, false, false, false, false, false] rfl rfl (any_of HT_.out (by kernel_rfl)) (fun _ _ _ h => h) (Or.inl ⟨by rfl, ?_⟩) ?_ ?_
            rotate_left
            ·intro w'
             go_simp
             with_reducible rfl
            rotate_left
            ·simp only [Act.put, List.setIfInBounds_toArray, List.set_cons_zero, List.set_cons_succ, i64_w, i32_w]
             rfl
            refine pure_ (i := 9) (N := some 68) (v := ?_) (a' := ?_) #[true, false, false, false, true, true, true, true, true, true, false, false, false, false] rfl rfl (any_of HT_.out (by kernel_rfl)) (fun _ _ _ h => h) (Or.inl ⟨by rfl, ?_⟩) ?_ ?_
            rotate_left
            ·intro w'
             go_simp
             with_reducible rfl
            rotate_left
            ·simp only [Act.put, List.setIfInBounds_toArray, List.set_cons_zero, List.set_cons_succ, i64_w, i32_w]
             rfl
            refine one_ (i := 1) (N := some 60) #[true, true, false, false, true, true, true, true, true, true, false, false, false, false] rfl rfl (one_of HT_.out (by kernel_rfl)) (by decide) (fun K hK => ?_)
            refine goes_ Try.func97 (by kernel_rfl) rfl #[.agg #[.int .i64 ((rd_T135 l0_2 x54_2).f0), .int .i64 ((rd_T135 l0_2 x54_2).f1), .int .i64 ((rd_T135 l0_2 x54_2).f2), .int .i64 ((rd_T135 l0_2 x54_2).f3), .int .i64 ((rd_T135 l0_2 x54_2).f4), .int .i64 ((rd_T135 l0_2 x54_2).f5)]] (by rfl) rfl rfl zS ?_
            with_reducible refine (impl_TaskOK.calls k2 ((rd_T135 l0_2 x54_2).f0) ((rd_T135 l0_2 x54_2).f1) ((rd_T135 l0_2 x54_2).f2) ((rd_T135 l0_2 x54_2).f3) ((rd_T135 l0_2 x54_2).f4) ((rd_T135 l0_2 x54_2).f5) t320 _ A28.out).mono ?_
            rintro e w47 ⟨rfl, hb⟩
            refine ⟨_, rfl, ?_⟩
            have n0_ := zQ (zL BK307.out hb)
            have n1_ := zQ (zL BK319.out hb)
            have n2_ := zQ (below_step (zB HB.out) hb)
            clear BK307
            clear BK319
            clear HB
            have BK307 := n0_
            have BK319 := n1_
            have HB := n2_
            clear n0_ n1_ n2_
            (try clear hb)
            (try clear hb2)
            (try clear hk)
            (try clear hi)
            refine hK.out _ _ ⟨(blk_cell BK319.out 0).trans rfl, (blk_cell BK319.out 1).trans rfl, (blk_cell BK319.out 2).trans rfl, (blk_cell BK319.out 3).trans rfl, (blk_cell BK319.out 4).trans rfl, (blk_cell BK319.out 5).trans rfl, (blk_cell BK307.out 0).trans rfl, (blk_cell BK307.out 1).trans rfl, (blk_cell BK307.out 2).trans rfl, (blk_cell BK307.out 3).trans rfl⟩ (fun hHeld => ?_)
            clear hK K
            refine norm_ (a' := ?_) ?_ ?_
            rotate_left
            ·show Act.put _ (some 60) _ = _
             simp only [Act.put, List.setIfInBounds_toArray, List.set_cons_zero, List.set_cons_succ, i64_w, i32_w]
             rfl
            refine pure_ (i := 2) (N := some 61) (v := ?_) (a' := ?_) #[true, true, true, false, true, true, true, true, true, true, false, false, false, false] rfl rfl (any_of HT_.out (by kernel_rfl)) (fun _ _ _ h => h) (Or.inl ⟨by rfl, ?_⟩) ?_ ?_
            rotate_left
            ·intro w'
             go_simp
             with_reducible rfl
            rotate_left
            ·simp only [Act.put, List.setIfInBounds_toArray, List.set_cons_zero, List.set_cons_succ, i64_w, i32_w]
             rfl
            refine one_ (i := 3) (N := some 62) #[true, true, true, true, true, true, true, true, true, true, false, false, false, false] rfl rfl (one_of HT_.out (by kernel_rfl)) (by decide) (fun K hK => ?_)
            refine goes_ Try.func72 (by kernel_rfl) rfl #[.bool (!t320), .int .i64 10] (by rfl) rfl rfl zS ?_
            with_reducible refine (impl_when.calls (!t320) 10 t321 _ A29.out).mono ?_
            rintro e w' ⟨rfl, ⟨nd, rfl⟩⟩
            refine ⟨_, rfl, ?_⟩
            refine hK.out _ _ ⟨(blk_cell BK319.out 0).trans rfl, (blk_cell BK319.out 1).trans rfl, (blk_cell BK319.out 2).trans rfl, (blk_cell BK319.out 3).trans rfl, (blk_cell BK319.out 4).trans rfl, (blk_cell BK319.out 5).trans rfl, (blk_cell BK307.out 0).trans rfl, (blk_cell BK307.out 1).trans rfl, (blk_cell BK307.out 2).trans rfl, (blk_cell BK307.out 3).trans rfl⟩ (fun hHeld => ?_)
            clear hK K
            refine norm_ (a' := ?_) ?_ ?_
            rotate_left
            ·show Act.put _ (some 62) _ = _
             simp only [Act.put, List.setIfInBounds_toArray, List.set_cons_zero, List.set_cons_succ, i64_w, i32_w]
             rfl
            refine one_ (i := 10) (N := some 69) #[true, true, true, true, true, true, true, true, true, true, true, false, false, false] rfl rfl (one_of HT_.out (by kernel_rfl)) (by decide) (fun K hK => ?_)
            refine goes_ Try.func72 (by kernel_rfl) rfl #[.bool (decide (((rd_T135 l0_2 x54_2).f5) ≥ (l0_1.length : Int))), .int .i64 15] (by rfl) rfl rfl zS ?_
            with_reducible refine (impl_when.calls (decide (((rd_T135 l0_2 x54_2).f5) ≥ (l0_1.length : Int))) 15 t322 _ A30.out).mono ?_
            rintro e w' ⟨rfl, ⟨nd, rfl⟩⟩
            refine ⟨_, rfl, ?_⟩
            refine hK.out _ _ ⟨(blk_cell BK319.out 0).trans rfl, (blk_cell BK319.out 1).trans rfl, (blk_cell BK319.out 2).trans rfl, (blk_cell BK319.out 3).trans rfl, (blk_cell BK319.out 4).trans rfl, (blk_cell BK319.out 5).trans rfl, (blk_cell BK307.out 0).trans rfl, (blk_cell BK307.out 1).trans rfl, (blk_cell BK307.out 2).trans rfl, (blk_cell BK307.out 3).trans rfl⟩ (fun hHeld => ?_)
            clear hK K
            refine norm_ (a' := ?_) ?_ ?_
            rotate_left
            ·show Act.put _ (some 69) _ = _
             simp only [Act.put, List.setIfInBounds_toArray, List.set_cons_zero, List.set_cons_succ, i64_w, i32_w]
             rfl
            refine one_ (i := 11) (N := some 70) #[true, true, true, true, true, true, true, true, true, true, true, true, false, false] rfl rfl (one_of HT_.out (by kernel_rfl)) (by decide) (fun K hK => ?_)
            refine Kd.R_lit_step (Kd.int .i64) _ 3 ?hg (N := 70) ?hd (xs := ([t321, t322] : List Int)) (inner := [.int .i64 t321, .int .i64 t322]) (ok := fun _ => True) (okp := fun _ => True) ?hr ?hp (fun _ hk => hk) trivial (Below.refl _ _) (Nat.le_refl _) (by simp) ?_; (case hd => rfl); (case hg => rfl); (case hr => first | (go_simp; done) | (go_simp; rfl)); (case hp => exact (Reps.one (show Kd.M (Kd.int .i64) _ _ _ t321 [.int .i64 t321] from rfl) (Reps.one (show Kd.M (Kd.int .i64) _ _ _ t322 [.int .i64 t322] from rfl) (Reps.none _ _))))
            intro v324 w48 ho49 hb hg_ hnew_
            clear hg_ hnew_
            (first | rw [← Ny323.out] at ho49 | (simp only [Int.reduceToNat] at ho49; rw [← Ny323.out] at ho49))
            have n0_ := zQ (Kd.R_lower ho49 (below_size (zB HB.out)))
            have n1_ := zQ (zL BK307.out hb)
            have n2_ := zQ (zL BK319.out hb)
            have n3_ := zQ (below_step (zB HB.out) hb)
            clear BK307
            clear BK319
            clear HB
            have HO325 := n0_
            have BK307 := n1_
            have BK319 := n2_
            have HB := n3_
            clear n0_ n1_ n2_ n3_
            clear hb ho49
            obtain ⟨Ao50, co50, eo50⟩ := Kd.R_slice HO325.out
            (first | subst eo50 | (injection eo50 with f1_ f2_ f3_; have f4_ := f1_.symm; have f5_ := f3_.symm; clear f1_ f2_ f3_; subst f4_; subst f5_))
            refine hK.out _ _ ⟨(blk_cell BK319.out 0).trans rfl, (blk_cell BK319.out 1).trans rfl, (blk_cell BK319.out 2).trans rfl, (blk_cell BK319.out 3).trans rfl, (blk_cell BK319.out 4).trans rfl, (blk_cell BK319.out 5).trans rfl, (blk_cell BK307.out 0).trans rfl, (blk_cell BK307.out 1).trans rfl, (blk_cell BK307.out 2).trans rfl, (blk_cell BK307.out 3).trans rfl⟩ (fun hHeld => ?_)
            clear hK K
            refine norm_ (a' := ?_) ?_ ?_
            rotate_left
            ·show Act.put _ (some 70) _ = _
             simp only [Act.put, List.setIfInBounds_toArray, List.set_cons_zero, List.set_cons_succ, i64_w, i32_w]
             rfl
            refine one_ (i := 12) (N := some 71) #[true, true, true, true, true, true, true, true, true, true, true, true, true, false] rfl rfl (one_of HT_.out (by kernel_rfl)) (by decide) (fun K hK => ?_)
            refine goes_ Try.func70 (by kernel_rfl) rfl #[.slice Ao50 y323.length co50] (by rfl) rfl rfl zS ?_
            with_reducible refine (impl_first.calls k2 _ _ y323 t326 _ ?side1 ?side2 A31.out).mono ?_
            (case side1 => exact zC (Kd.R_reads' HO325.out).2.2)
            (case side2 => exact (Kd.R_reads' HO325.out).2.1)
            rintro e w' ⟨rfl, ⟨nd, rfl⟩⟩
            refine ⟨_, rfl, ?_⟩
            refine hK.out _ _ ⟨(blk_cell BK319.out 0).trans rfl, (blk_cell BK319.out 1).trans rfl, (blk_cell BK319.out 2).trans rfl, (blk_cell BK319.out 3).trans rfl, (blk_cell BK319.out 4).trans rfl, (blk_cell BK319.out 5).trans rfl, (blk_cell BK307.out 0).trans rfl, (blk_cell BK307.out 1).trans rfl, (blk_cell BK307.out 2).trans rfl, (blk_cell BK307.out 3).trans rfl⟩ (fun hHeld => ?_)
            clear hK K
            refine norm_ (a' := ?_) ?_ ?_
            rotate_left
            ·show Act.put _ (some 71) _ = _
             simp only [Act.put, List.setIfInBounds_toArray, List.set_cons_zero, List.set_cons_succ, i64_w, i32_w]
             rfl
            refine pure_ (i := 13) (N := some 10) (v := ?_) (a' := ?_) #[true, true, true, true, true, true, true, true, true, true, true, true, true, true] rfl rfl (any_of HT_.out (by kernel_rfl)) (fun _ _ _ h => h) (Or.inl ⟨by rfl, ?_⟩) ?_ ?_
            rotate_left
            ·intro w'
             go_simp
             with_reducible rfl
            rotate_left
            ·simp only [Act.put, List.setIfInBounds_toArray, List.set_cons_zero, List.set_cons_succ, i64_w, i32_w]
             rfl
            refine done_ (done_of HT_.out (by kernel_rfl)) ?_
            try go_wp2
            go_ret2
            exact ⟨by first | rfl | (simp [errW_none, errW_some] <;> rfl) | (simp [*, errW_none, errW_some] <;> rfl), zB HB.out⟩
          ·rw [if_neg c27] at H
           exact absurd H (by simp)
         ·rw [if_neg c26] at H
          exact absurd H (by simp)
        ·rw [if_neg c25] at H
         have c25b0 : decide (x54_2 < (l0_2.length : Int)) = false := decide_eq_false c25
         clear c25
         simp only [Option.some.injEq, Prod.mk.injEq] at H
         obtain ⟨rfl, rfl⟩ := H
         go_wp2
         go_ret2
         exact ⟨by first | rfl | (simp [errW_none, errW_some] <;> rfl) | (simp [*, errW_none, errW_some] <;> rfl), zB HB.out⟩
     ·rw [if_neg c17] at H
      have c17b0 : (t317 == 0) = false := beq_eq_false_iff_ne.mpr c17
      have c17b1 : (t317 != 0) = true := bne_iff_ne.mpr c17
      simp only [Option.some.injEq, Prod.mk.injEq] at H
      obtain ⟨rfl, rfl⟩ := H
      obtain ⟨hcz51_0, hcz51_1, hcz51_2, hcz51_3, hfz51_0, hfz51_1, hfz51_2, hfz51_3⟩ := zc4 BK307.out
      try go_wp2_with (first | ((with_reducible refine gate_callee (f := 96) rfl ?_); refine goesL_ (some 28) rfl rfl Try.func96 (by kernel_rfl) rfl #[.slice A0_1 l0_1.length c0_1, .slice A0_0 l0_0.length c0_0] rfl zS ?_; (with_reducible refine (impl_verifyAll.calls kj1 _ _ l0_1 _ _ l0_0 t309 t310 t311 _ ?side1 ?side2 ?side3 ?side4 A12.out).mono ?_); (case side1 => exact zE HR0_1 HB); (case side2 => exact HC0_1.out); (case side3 => exact zE HR0_0 HB); (case side4 => exact HC0_0.out); rintro e w52 ⟨rfl, hb⟩; refine ⟨_, rfl, ?_⟩; have n0_ := zQ (zL BK307.out hb); have n1_ := zQ (below_step (zB HB.out) hb); clear BK307; clear HB; have BK307 := n0_; have HB := n1_; clear n0_ n1_; (try clear hb); (try clear hb2); (try clear hk); (try clear hi)))
      have n0_ := zQ (blk_drew BK307.out)
      have n1_ := zQ (below_drew1 HB.out)
      clear BK307
      clear HB
      have BK307 := n0_
      have HB := n1_
      clear n0_ n1_
      refine start_ (n := 13) (S := fun w' => w'.cell? ⟨gb307, 0, none⟩ = some (.slice A0_0 l0_0.length c0_0) ∧ w'.cell? ⟨gb307, 1, none⟩ = some (.slice A0_1 l0_1.length c0_1) ∧ w'.cell? ⟨gb307, 2, none⟩ = some (.slice A0_2 l0_2.length c0_2) ∧ w'.cell? ⟨gb307, 3, none⟩ = some (.slice A0_3 l0_3.length c0_3)) (ds := []) #[false, false, false, false, false, false, false, false, false, false, false, false, false] (by kernel_rfl) rfl rfl (zd4 BK307.out) (fun hHeld => ?_); refine with_tabW impl_CheckProgram.tab6 impl_CheckProgram.bits6 (fun HT_ HW_ => ?_)
      generalize w52.drew = w53 at BK307 HB hHeld ⊢
      refine pure_ (i := 0) (N := some 36) (v := ?_) (a' := ?_) #[true, false, false, false, false, false, false, false, false, false, false, false, false] rfl rfl (any_of HT_.out (by kernel_rfl)) (fun _ _ _ h => h) (Or.inl ⟨by rfl, ?_⟩) ?_ ?_
      rotate_left
      ·intro w'
       go_simp
       with_reducible rfl
      rotate_left
      ·simp only [Act.put, List.setIfInBounds_toArray, List.set_cons_zero, List.set_cons_succ, i64_w, i32_w]
       rfl
      refine pure_ (i := 5) (N := some 41) (v := ?_) (a' := ?_) #[true, false, false, false, false, true, false, false, false, false, false, false, false] rfl rfl (any_of HT_.out (by kernel_rfl)) (fun _ _ _ h => h) (Or.inl ⟨by rfl, ?_⟩) ?_ ?_
      rotate_left
      ·intro w'
       go_simp
       with_reducible rfl
      rotate_left
      ·simp only [Act.put, List.setIfInBounds_toArray, List.set_cons_zero, List.set_cons_succ, i64_w, i32_w]
       rfl
      refine take_ (i := 1) (N := some 37) (v := ?_) (a' := ?_) #[true, true, false, false, false, true, false, false, false, false, false, false, false] rfl rfl (take_ofW HT_.out HW_.out (by kernel_rfl)) (fun _ _ _ h => h) (Or.inl ⟨by rfl, ?_⟩) hHeld ?_ ?_
      rotate_left
      ·rintro w' ⟨s0, s1, s2, s3⟩
       go_simp
       with_reducible rfl
      rotate_left
      ·simp only [Act.put, List.setIfInBounds_toArray, List.set_cons_zero, List.set_cons_succ, i64_w, i32_w]
       rfl
      refine pure_ (i := 2) (N := some 38) (v := ?_) (a' := ?_) #[true, true, true, false, false, true, false, false, false, false, false, false, false] rfl rfl (any_of HT_.out (by kernel_rfl)) (fun _ _ _ h => h) (Or.inl ⟨by rfl, ?_⟩) ?_ ?_
      rotate_left
      ·intro w'
       go_simp
       with_reducible rfl
      rotate_left
      ·simp only [Act.put, List.setIfInBounds_toArray, List.set_cons_zero, List.set_cons_succ, i64_w, i32_w]
       rfl
      refine pure_ (i := 3) (N := some 39) (v := ?_) (a' := ?_) #[true, true, true, true, false, true, false, false, false, false, false, false, false] rfl rfl (any_of HT_.out (by kernel_rfl)) (fun _ _ _ h => h) (Or.inl ⟨by rfl, ?_⟩) ?_ ?_
      rotate_left
      ·intro w'
       go_simp
       with_reducible rfl
      rotate_left
      ·simp only [Act.put, List.setIfInBounds_toArray, List.set_cons_zero, List.set_cons_succ, i64_w, i32_w]
       rfl
      refine take_ (i := 6) (N := some 42) (v := ?_) (a' := ?_) #[true, true, true, true, false, true, true, false, false, false, false, false, false] rfl rfl (take_ofW HT_.out HW_.out (by kernel_rfl)) (fun _ _ _ h => h) (Or.inl ⟨by rfl, ?_⟩) hHeld ?_ ?_
      rotate_left
      ·rintro w' ⟨s0, s1, s2, s3⟩
       go_simp
       with_reducible rfl
      rotate_left
      ·simp only [Act.put, List.setIfInBounds_toArray, List.set_cons_zero, List.set_cons_succ, i64_w, i32_w]
       rfl
      refine pure_ (i := 7) (N := some 43) (v := ?_) (a' := ?_) #[true, true, true, true, false, true, true, true, false, false, false, false, false] rfl rfl (any_of HT_.out (by kernel_rfl)) (fun _ _ _ h => h) (Or.inl ⟨by rfl, ?_⟩) ?_ ?_
      rotate_left
      ·intro w'
       go_simp
       with_reducible rfl
      rotate_left
      ·simp only [Act.put, List.setIfInBounds_toArray, List.set_cons_zero, List.set_cons_succ, i64_w, i32_w]
       rfl
      refine pure_ (i := 8) (N := some 44) (v := ?_) (a' := ?_) #[true, true, true, true, false, true, true, true, true, false, false, false, false] rfl rfl (any_of HT_.out (by kernel_rfl)) (fun _ _ _ h => h) (Or.inl ⟨by rfl, ?_⟩) ?_ ?_
      rotate_left
      ·intro w'
       go_simp
       with_reducible rfl
      rotate_left
      ·simp only [Act.put, List.setIfInBounds_toArray, List.set_cons_zero, List.set_cons_succ, i64_w, i32_w]
       rfl
      refine one_ (i := 4) (N := some 40) #[true, true, true, true, true, true, true, true, true, false, false, false, false] rfl rfl (one_of HT_.out (by kernel_rfl)) (by decide) (fun K hK => ?_)
      refine goes_ Try.func72 (by kernel_rfl) rfl #[.bool ((l0_2.length : Int) == 0), .int .i64 5] (by rfl) rfl rfl zS ?_
      with_reducible refine (impl_when.calls ((l0_2.length : Int) == 0) 5 t312 _ A14.out).mono ?_
      rintro e w' ⟨rfl, ⟨nd, rfl⟩⟩
      refine ⟨_, rfl, ?_⟩
      refine hK.out _ _ (zd4 BK307.out) (fun hHeld => ?_)
      clear hK K
      refine norm_ (a' := ?_) ?_ ?_
      rotate_left
      ·show Act.put _ (some 40) _ = _
       simp only [Act.put, List.setIfInBounds_toArray, List.set_cons_zero, List.set_cons_succ, i64_w, i32_w]
       rfl
      refine one_ (i := 9) (N := some 45) #[true, true, true, true, true, true, true, true, true, true, false, false, false] rfl rfl (one_of HT_.out (by kernel_rfl)) (by decide) (fun K hK => ?_)
      refine goes_ Try.func72 (by kernel_rfl) rfl #[.bool (decide ((l0_2.length : Int) > 5)), .int .i64 6] (by rfl) rfl rfl zS ?_
      with_reducible refine (impl_when.calls (decide ((l0_2.length : Int) > 5)) 6 t313 _ A15.out).mono ?_
      rintro e w' ⟨rfl, ⟨nd, rfl⟩⟩
      refine ⟨_, rfl, ?_⟩
      refine hK.out _ _ (zd4 BK307.out) (fun hHeld => ?_)
      clear hK K
      refine norm_ (a' := ?_) ?_ ?_
      rotate_left
      ·show Act.put _ (some 45) _ = _
       simp only [Act.put, List.setIfInBounds_toArray, List.set_cons_zero, List.set_cons_succ, i64_w, i32_w]
       rfl
      refine one_ (i := 10) (N := some 46) #[true, true, true, true, true, true, true, true, true, true, true, false, false] rfl rfl (one_of HT_.out (by kernel_rfl)) (by decide) (fun K hK => ?_)
      refine Kd.R_lit_step (Kd.int .i64) _ 3 ?hg (N := 46) ?hd (xs := ([t312, t313] : List Int)) (inner := [.int .i64 t312, .int .i64 t313]) (ok := fun _ => True) (okp := fun _ => True) ?hr ?hp (fun _ hk => hk) trivial (Below.refl _ _) (Nat.le_refl _) (by simp) ?_; (case hd => rfl); (case hg => rfl); (case hr => first | (go_simp; done) | (go_simp; rfl)); (case hp => exact (Reps.one (show Kd.M (Kd.int .i64) _ _ _ t312 [.int .i64 t312] from rfl) (Reps.one (show Kd.M (Kd.int .i64) _ _ _ t313 [.int .i64 t313] from rfl) (Reps.none _ _))))
      intro v315 w54 ho55 hb hg_ hnew_
      clear hg_ hnew_
      (first | rw [← Ny314.out] at ho55 | (simp only [Int.reduceToNat] at ho55; rw [← Ny314.out] at ho55))
      have n0_ := zQ (Kd.R_lower ho55 (below_size (zB HB.out)))
      have n1_ := zQ (zL BK307.out hb)
      have n2_ := zQ (below_step (zB HB.out) hb)
      clear BK307
      clear HB
      have HO316 := n0_
      have BK307 := n1_
      have HB := n2_
      clear n0_ n1_ n2_
      clear hb ho55
      obtain ⟨Ao56, co56, eo56⟩ := Kd.R_slice HO316.out
      (first | subst eo56 | (injection eo56 with f1_ f2_ f3_; have f4_ := f1_.symm; have f5_ := f3_.symm; clear f1_ f2_ f3_; subst f4_; subst f5_))
      refine hK.out _ _ (zd4 BK307.out) (fun hHeld => ?_)
      clear hK K
      refine norm_ (a' := ?_) ?_ ?_
      rotate_left
      ·show Act.put _ (some 46) _ = _
       simp only [Act.put, List.setIfInBounds_toArray, List.set_cons_zero, List.set_cons_succ, i64_w, i32_w]
       rfl
      refine one_ (i := 11) (N := some 47) #[true, true, true, true, true, true, true, true, true, true, true, true, false] rfl rfl (one_of HT_.out (by kernel_rfl)) (by decide) (fun K hK => ?_)
      refine goes_ Try.func70 (by kernel_rfl) rfl #[.slice Ao56 y314.length co56] (by rfl) rfl rfl zS ?_
      with_reducible refine (impl_first.calls kj1 _ _ y314 t317 _ ?side1 ?side2 A16.out).mono ?_
      (case side1 => exact zC (Kd.R_reads' HO316.out).2.2)
      (case side2 => exact (Kd.R_reads' HO316.out).2.1)
      rintro e w' ⟨rfl, ⟨nd, rfl⟩⟩
      refine ⟨_, rfl, ?_⟩
      refine hK.out _ _ (zd4 BK307.out) (fun hHeld => ?_)
      clear hK K
      refine norm_ (a' := ?_) ?_ ?_
      rotate_left
      ·show Act.put _ (some 47) _ = _
       simp only [Act.put, List.setIfInBounds_toArray, List.set_cons_zero, List.set_cons_succ, i64_w, i32_w]
       rfl
      refine pure_ (i := 12) (N := some 7) (v := ?_) (a' := ?_) #[true, true, true, true, true, true, true, true, true, true, true, true, true] rfl rfl (any_of HT_.out (by kernel_rfl)) (fun _ _ _ h => h) (Or.inl ⟨by rfl, ?_⟩) ?_ ?_
      rotate_left
      ·intro w'
       go_simp
       with_reducible rfl
      rotate_left
      ·simp only [Act.put, List.setIfInBounds_toArray, List.set_cons_zero, List.set_cons_succ, i64_w, i32_w]
       rfl
      refine done_ (done_of HT_.out (by kernel_rfl)) ?_
      try go_wp2
      go_ret2
      exact ⟨by first | rfl | (simp [errW_none, errW_some] <;> rfl) | (simp [*, errW_none, errW_some] <;> rfl), zB HB.out⟩
    ·rw [if_neg c13] at H
     have c13b0 : (t311 == 0) = false := beq_eq_false_iff_ne.mpr c13
     have c13b1 : (t311 != 0) = true := bne_iff_ne.mpr c13
     simp only [Option.some.injEq, Prod.mk.injEq] at H
     obtain ⟨rfl, rfl⟩ := H
     obtain ⟨hcz57_0, hcz57_1, hcz57_2, hcz57_3, hfz57_0, hfz57_1, hfz57_2, hfz57_3⟩ := zc4 BK307.out
     go_wp2_with (first | ((with_reducible refine gate_callee (f := 96) rfl ?_); refine goesL_ (some 28) rfl rfl Try.func96 (by kernel_rfl) rfl #[.slice A0_1 l0_1.length c0_1, .slice A0_0 l0_0.length c0_0] rfl zS ?_; (with_reducible refine (impl_verifyAll.calls kj1 _ _ l0_1 _ _ l0_0 t309 t310 t311 _ ?side1 ?side2 ?side3 ?side4 A12.out).mono ?_); (case side1 => exact zE HR0_1 HB); (case side2 => exact HC0_1.out); (case side3 => exact zE HR0_0 HB); (case side4 => exact HC0_0.out); rintro e w58 ⟨rfl, hb⟩; refine ⟨_, rfl, ?_⟩; have n0_ := zQ (zL BK307.out hb); have n1_ := zQ (below_step (zB HB.out) hb); clear BK307; clear HB; have BK307 := n0_; have HB := n1_; clear n0_ n1_; (try clear hb); (try clear hb2); (try clear hk); (try clear hi)))
     go_ret2
     exact ⟨by first | rfl | (simp [errW_none, errW_some] <;> rfl) | (simp [*, errW_none, errW_some] <;> rfl), zB HB.out⟩

end Go.Proofs.Ytkegjmkdnfpfdaa.MFnExactImageText
