-- By a program of this session.
import Derived.Test.YtkegjmkdnfpfdaaMFnExactCostsOfx0
import Derived.Test.YtkegjmkdnfpfdaaMFnExactCostsOfx26
import Derived.Test.YtkegjmkdnfpfdaaMFnExactCostsOfx30
import Derived.Test.YtkegjmkdnfpfdaaMFnExactCostsOfx34
namespace Go.Proofs.Ytkegjmkdnfpfdaa.MFnExactCostsOf
open Go.RowKit Go.Proofs.YtkegjmkdnfpfdaaW.PrintWords Go.Proofs.YtkegjmkdnfpfdaaW.PrintLast Go.Proofs.YtkegjmkdnfpfdaaW.PrintMore
attribute [local go_sem] max2_int min2_int max_two min_two max_three min_three max_four min_four
set_option linter.unusedVariables false
set_option linter.unusedSimpArgs false
set_option maxHeartbeats 8000000
set_option maxRecDepth 100000

/-! ### impl_verifyAll: function 96 -/
def impl_verifyAll.l0 : Nat → List Int → List (S124) → Int → Int → Option (Int × Int × Int)
 | 0, _, _, _, _ => none
 | k + 1, x1, x12, x13, x14 => if x14 < x13 then (if 0 ≤ x14 then (if x14 < (x12.length : Int) then ((impl_verify.f ((rd_T124 x12 x14).f0) x1 x14).bind fun bt382 => (if bt382.2.2 = 0 then (impl_verifyAll.l0 k x1 x12 x13 (wrap64 (x14 + 1))) else (some (x14, bt382.2.1, bt382.2.2)))) else (none)) else (none)) else (some (0, 0, 0))
def impl_verifyAll.f (k : Nat) (l0 : List (S124)) (l1 : List Int) : Option (Int × Int × Int) := impl_verifyAll.l0 k l1 l0 (l0.length : Int) 0
theorem impl_verifyAll.mono_l : ∀ k, (∀ y0 y1 y2 y3, LeO (impl_verifyAll.l0 k y0 y1 y2 y3) (impl_verifyAll.l0 (k + 1) y0 y1 y2 y3))
 | 0 => fun _ _ _ _ r h => by simp [impl_verifyAll.l0] at h
 | k + 1 => by
  have ih0 := impl_verifyAll.mono_l k
  ·intro y0 y1 y2 y3
   unfold impl_verifyAll.l0
   repeat' first
   | (with_reducible exact ih0 _ _ _ _)
   | (with_reducible exact LeO.refl _)
   | (with_reducible exact LeO.none _)
   | (with_reducible refine LeO.ite ?_ ?_)
   | (with_reducible refine LeO.bind ?_ (fun _ => ?_))
theorem impl_verifyAll.mono : ∀ a0 a1 k, LeO (impl_verifyAll.f k a0 a1) (impl_verifyAll.f (k + 1) a0 a1) := by
 intro a0 a1 k
 have ih0 := impl_verifyAll.mono_l k
 unfold impl_verifyAll.f
 repeat' first
  | (with_reducible exact ih0 _ _ _ _)
  | (with_reducible exact LeO.refl _)
  | (with_reducible exact LeO.none _)
  | (with_reducible refine LeO.ite ?_ ?_)
  | (with_reducible refine LeO.bind ?_ (fun _ => ?_))
theorem impl_verifyAll.calls (k : Nat) (A0 : Option Addr) (c0 : Nat) (l0 : List (S124)) (A1 : Option Addr) (c1 : Nat) (l1 : List Int) (r1 : Int) (r2 : Int) (r3 : Int) (w : World) (hr0 : Kd.C k124 w A0 l0.length l0) (hc0 : l0.length ≤ c0) (hr1 : Kd.C (Kd.int .i64) w A1 l1.length l1) (hc1 : l1.length ≤ c1) (h : impl_verifyAll.f k l0 l1 = some (r1, r2, r3)) :
 Calls Try.prog 96 #[.slice A0 l0.length c0, .slice A1 l1.length c1] w fun e w' => e = .returned (.tuple #[.int .i64 r1, .int .i64 r2, .int .i64 r3]) ∧ Below w.heap.size w w' := by
 have hu124 := Try.underlying124
 have HR0 := zQ hr0
 have HC0 := zQ hc0
 clear hr0 hc0
 have HR1 := zQ hr1
 have HC1 := zQ hc1
 clear hr1 hc1
 have HB := zQ (Below.refl w.heap.size w)
 have H : (impl_verifyAll.l0 k l1 l0 (l0.length : Int) 0) = some (r1, r2, r3) := h
 clear h
 have H' := zQ H
 clear H
 go_enter Try.func96, Try.ntmps96
 go_wp2
 go_loopg [14] k (fun kq v14 w' => ∃ (x14_1 : Int), v14 = .int .i64 x14_1 ∧ Aside0 (impl_verifyAll.l0 kq l1 l0 (l0.length : Int) x14_1 = some (r1, r2, r3)) ∧ Aside0 (kq ≤ k) ∧ Aside0 (Below w.heap.size w w'))
 case atStart => exact ⟨(0), (by first | rfl | (simp; done) | (simp [*]; done)), H', ⟨Nat.le_refl _⟩, ⟨zB HB.out⟩⟩
 case round =>
  clear H'
  try clear c1
  try clear p2
  obtain ⟨x14_1, rfl, HA, HK1, HB⟩ := hrel
  cases gk with
  | zero => exact absurd HA.out (by simp [impl_verifyAll.l0])
  | succ k1 =>
   have H := HA.out
   clear HA
   simp only [impl_verifyAll.l0] at H
   by_cases c3 : x14_1 < (l0.length : Int)
   ·rw [if_pos c3] at H
    have c3b0 : decide (x14_1 < (l0.length : Int)) = true := decide_eq_true c3
    clear c3
    by_cases c4 : 0 ≤ x14_1
    ·rw [if_pos c4] at H
     have c4b0 : decide (0 ≤ x14_1) = true := decide_eq_true c4
     clear c4
     by_cases c5 : x14_1 < (l0.length : Int)
     ·rw [if_pos c5] at H
      have c5b0 : decide (x14_1 < (l0.length : Int)) = true := decide_eq_true c5
      clear c5
      replace H := Option.bind_eq_some_iff.mp H
      obtain ⟨⟨t382, t383, t384⟩, A60, H⟩ := H
      replace H : (if t384 = 0 then (impl_verifyAll.l0 k1 l1 l0 (l0.length : Int) (wrap64 (x14_1 + 1))) else (some (x14_1, t383, t384))) = some (r1, r2, r3) := H
      have A6 := zQ A60
      clear A60
      by_cases c7 : t384 = 0
      ·rw [if_pos c7] at H
       have c7b0 : (t384 == 0) = true := beq_iff_eq.mpr c7
       have c7b1 : (t384 != 0) = false := bne_eq_false_iff_eq.mpr c7
       clear c7
       have H' := zQ H
       clear H
       have p380 : 0 ≤ (x14_1 : Int) := zA
       have q380 : x14_1 < (l0.length : Int) := zA
       obtain ⟨ad380, A380_0, c380_0, e380, hx380_0, hl380_0, hi380_0⟩ := at_T124 HR0.out x14_1 p380 q380
       cases e380
       replace hx380_0 := zX HB.out hx380_0
       have HR380_0 := zQ hi380_0
       have HC380_0 := zQ hl380_0
       clear hi380_0 hl380_0
       replace p380 := eq_true p380
       replace q380 := eq_true q380
       go_wp2_with (first | ((with_reducible refine gate_dst (N := 8) rfl ?_); refine box_event ?hg (N := 8) ?hd (cs := #[.slice none 0 0]) (t := 124) ?hr ?_; (case hd => rfl); (case hg => rfl); (case hr => first | (go_simp; done) | (go_simp; rfl)); intro gb381 hg w8 hbox hb; have n0_ := zQ (below_step (zB HB.out) hb); have n1_ := zQ (hbox); have n2_ := zQ ((zG hg HB.out)); have n3_ := zQ ((zG hg HB.out)); clear HB; have HB := n0_; have BK381 := n1_; have GW381 := n2_; have GE381 := n3_; clear n0_ n1_ n2_ n3_; clear hb hbox hg; obtain ⟨hcz9_0, hfz9_0⟩ := zc1 BK381.out) | ((with_reducible refine gate_callee (f := 140) rfl ?_); refine goesL_ (some 24) rfl rfl Try.func140 (by kernel_rfl) rfl #[.slice A380_0 ((rd_T124 l0 x14_1).f0).length c380_0, .slice A1 l1.length c1, .int .i64 x14_1] rfl zS ?_; (with_reducible refine (impl_verify.calls _ _ ((rd_T124 l0 x14_1).f0) _ _ l1 x14_1 t382 t383 t384 _ ?side1 ?side2 ?side3 ?side4 A6.out).mono ?_); (case side1 => exact Kd.C_below HR380_0.out (zB HB.out)); (case side2 => exact HC380_0.out); (case side3 => exact Kd.C_below HR1.out (zB HB.out)); (case side4 => exact HC1.out); rintro e w10 ⟨v385, rfl, ho0, hb⟩; refine ⟨_, rfl, ?_⟩; have n0_ := zQ (Kd.R_lower ho0 (below_size (zB HB.out))); have n1_ := zQ (blk_below (g := gb381) (o := .cells #[.slice A380_0 ((rd_T124 l0 x14_1).f0).length c380_0] 124 (0, 0)) (zP BK381.out) hb); have n2_ := zQ (below_step (zB HB.out) hb); clear BK381; clear HB; have HO386 := n0_; have BK381 := n1_; have HB := n2_; clear n0_ n1_ n2_; (try clear hb); (try clear hb2); (try clear hk); (try clear hi); (try clear ho0)))
       go_roundg k1
       case measure => have := HK1.out; omega
       case rel => exact ⟨(wrap64 (x14_1 + 1)), (by first | rfl | (simp; done) | (simp [*]; done)), H', ⟨by have := HK1.out; omega⟩, ⟨zB HB.out⟩⟩
      ·rw [if_neg c7] at H
       have c7b0 : (t384 == 0) = false := beq_eq_false_iff_ne.mpr c7
       have c7b1 : (t384 != 0) = true := bne_iff_ne.mpr c7
       simp only [Option.some.injEq, Prod.mk.injEq] at H
       obtain ⟨rfl, rfl, rfl⟩ := H
       have p380 : 0 ≤ (x14_1 : Int) := zA
       have q380 : x14_1 < (l0.length : Int) := zA
       obtain ⟨ad380, A380_0, c380_0, e380, hx380_0, hl380_0, hi380_0⟩ := at_T124 HR0.out x14_1 p380 q380
       cases e380
       replace hx380_0 := zX HB.out hx380_0
       have HR380_0 := zQ hi380_0
       have HC380_0 := zQ hl380_0
       clear hi380_0 hl380_0
       replace p380 := eq_true p380
       replace q380 := eq_true q380
       go_wp2_with (first | ((with_reducible refine gate_dst (N := 8) rfl ?_); refine box_event ?hg (N := 8) ?hd (cs := #[.slice none 0 0]) (t := 124) ?hr ?_; (case hd => rfl); (case hg => rfl); (case hr => first | (go_simp; done) | (go_simp; rfl)); intro gb381 hg w11 hbox hb; have n0_ := zQ (below_step (zB HB.out) hb); have n1_ := zQ (hbox); have n2_ := zQ ((zG hg HB.out)); have n3_ := zQ ((zG hg HB.out)); clear HB; have HB := n0_; have BK381 := n1_; have GW381 := n2_; have GE381 := n3_; clear n0_ n1_ n2_ n3_; clear hb hbox hg; obtain ⟨hcz12_0, hfz12_0⟩ := zc1 BK381.out) | ((with_reducible refine gate_callee (f := 140) rfl ?_); refine goesL_ (some 24) rfl rfl Try.func140 (by kernel_rfl) rfl #[.slice A380_0 ((rd_T124 l0 x14_1).f0).length c380_0, .slice A1 l1.length c1, .int .i64 x14_1] rfl zS ?_; (with_reducible refine (impl_verify.calls _ _ ((rd_T124 l0 x14_1).f0) _ _ l1 x14_1 t382 t383 t384 _ ?side1 ?side2 ?side3 ?side4 A6.out).mono ?_); (case side1 => exact Kd.C_below HR380_0.out (zB HB.out)); (case side2 => exact HC380_0.out); (case side3 => exact Kd.C_below HR1.out (zB HB.out)); (case side4 => exact HC1.out); rintro e w13 ⟨v385, rfl, ho0, hb⟩; refine ⟨_, rfl, ?_⟩; have n0_ := zQ (Kd.R_lower ho0 (below_size (zB HB.out))); have n1_ := zQ (blk_below (g := gb381) (o := .cells #[.slice A380_0 ((rd_T124 l0 x14_1).f0).length c380_0] 124 (0, 0)) (zP BK381.out) hb); have n2_ := zQ (below_step (zB HB.out) hb); clear BK381; clear HB; have HO386 := n0_; have BK381 := n1_; have HB := n2_; clear n0_ n1_ n2_; (try clear hb); (try clear hb2); (try clear hk); (try clear hi); (try clear ho0)))
       go_ret3
       exact ⟨by first | rfl | (simp [errW_none, errW_some] <;> rfl) | (simp [*, errW_none, errW_some] <;> rfl), zB HB.out⟩
     ·rw [if_neg c5] at H
      exact absurd H (by simp)
    ·rw [if_neg c4] at H
     exact absurd H (by simp)
   ·rw [if_neg c3] at H
    have c3b0 : decide (x14_1 < (l0.length : Int)) = false := decide_eq_false c3
    clear c3
    simp only [Option.some.injEq, Prod.mk.injEq] at H
    obtain ⟨rfl, rfl, rfl⟩ := H
    go_wp2
    go_ret3
    exact ⟨by first | rfl | (simp [errW_none, errW_some] <;> rfl) | (simp [*, errW_none, errW_some] <;> rfl), zB HB.out⟩

/-! ### impl_many_int: function 123 -/
def impl_many_int.f (l0 : List Int) : Option (Int) := (impl_when.f (decide ((l0.length : Int) > 4096)) 2).bind fun t387 => (some t387)
theorem impl_many_int.calls (A0 : Option Addr) (c0 : Nat) (l0 : List Int) (r : Int) (w : World) (hr0 : Kd.C (Kd.int .i64) w A0 l0.length l0) (hc0 : l0.length ≤ c0) (h : impl_many_int.f l0 = some r) :
 Calls Try.prog 123 #[.slice A0 l0.length c0] w fun e w' => e = .returned (.int .i64 r) ∧ Drawn0 w w' := by
 have HR0 := zQ hr0
 have HC0 := zQ hc0
 clear hr0 hc0
 have H : ((impl_when.f (decide ((l0.length : Int) > 4096)) 2).bind fun t387 => (some t387)) = some r := h
 clear h
 replace H := Option.bind_eq_some_iff.mp H
 obtain ⟨t387, A20, H⟩ := H
 replace H : (some t387) = some r := H
 have A2 := zQ A20
 clear A20
 obtain rfl := Option.some.inj H
 go_enter Try.func123, Try.ntmps123
 go_wp2_with (first | ((with_reducible refine gate_callee (f := 72) rfl ?_); refine goesL_ (some 6) rfl rfl Try.func72 (by kernel_rfl) rfl #[.bool (decide ((l0.length : Int) > 4096)), .int .i64 2] rfl zS ?_; (with_reducible refine (impl_when.calls (decide ((l0.length : Int) > 4096)) 2 t387 _ A2.out).mono ?_); rintro e w' ⟨rfl, ⟨nd, rfl⟩⟩; refine ⟨_, rfl, ?_⟩))
 go_ret
 exact ⟨by first | rfl | (simp; done) | (simp [*]; done), zD⟩

/-! ### impl_Routine_151: function 151 -/
def impl_Routine_151.f (l0 : List (S124)) : Option (Int) := (impl_when.f (decide ((l0.length : Int) > 4096)) 2).bind fun t388 => (some t388)
theorem impl_Routine_151.calls (A0 : Option Addr) (c0 : Nat) (l0 : List (S124)) (r : Int) (w : World) (hr0 : Kd.C k124 w A0 l0.length l0) (hc0 : l0.length ≤ c0) (h : impl_Routine_151.f l0 = some r) :
 Calls Try.prog 151 #[.slice A0 l0.length c0] w fun e w' => e = .returned (.int .i64 r) ∧ Drawn0 w w' := by
 have HR0 := zQ hr0
 have HC0 := zQ hc0
 clear hr0 hc0
 have H : ((impl_when.f (decide ((l0.length : Int) > 4096)) 2).bind fun t388 => (some t388)) = some r := h
 clear h
 replace H := Option.bind_eq_some_iff.mp H
 obtain ⟨t388, A20, H⟩ := H
 replace H : (some t388) = some r := H
 have A2 := zQ A20
 clear A20
 obtain rfl := Option.some.inj H
 go_enter Try.func151, Try.ntmps151
 go_wp2_with (first | ((with_reducible refine gate_callee (f := 72) rfl ?_); refine goesL_ (some 6) rfl rfl Try.func72 (by kernel_rfl) rfl #[.bool (decide ((l0.length : Int) > 4096)), .int .i64 2] rfl zS ?_; (with_reducible refine (impl_when.calls (decide ((l0.length : Int) > 4096)) 2 t388 _ A2.out).mono ?_); rintro e w' ⟨rfl, ⟨nd, rfl⟩⟩; refine ⟨_, rfl, ?_⟩))
 go_ret
 exact ⟨by first | rfl | (simp; done) | (simp [*]; done), zD⟩

/-! ### impl_VerifyAll: function 82 -/
def impl_VerifyAll.f (k : Nat) (l0 : List (S124)) (l1 : List Int) : Option (Int × Int × Int) := (impl_Routine_151.f l0).bind fun t389 => ((impl_many_int.f l1).bind fun t390 => ((impl_areRoutines.f k l0 l1).bind fun t391 => ((impl_when.f (!t391) 1).bind fun t392 => ((impl_first.f k (([t389, t390, t392] : List Int))).bind fun t396 => (if t396 = 0 then ((impl_verifyAll.f k l0 l1).bind fun bt397 => (some (bt397.1, bt397.2.1, bt397.2.2))) else (some (0, 0, t396)))))))
theorem impl_VerifyAll.mono : ∀ a0 a1 k, LeO (impl_VerifyAll.f k a0 a1) (impl_VerifyAll.f (k + 1) a0 a1) := by
 intro a0 a1 k
 unfold impl_VerifyAll.f
 repeat' first
  | (with_reducible exact impl_areRoutines.mono _ _ _)
  | (with_reducible exact impl_first.mono _ _)
  | (with_reducible exact impl_verifyAll.mono _ _ _)
  | (with_reducible exact LeO.refl _)
  | (with_reducible exact LeO.none _)
  | (with_reducible refine LeO.ite ?_ ?_)
  | (with_reducible refine LeO.bind ?_ (fun _ => ?_))
theorem impl_VerifyAll.calls (k : Nat) (A0 : Option Addr) (c0 : Nat) (l0 : List (S124)) (A1 : Option Addr) (c1 : Nat) (l1 : List Int) (r1 : Int) (r2 : Int) (r3 : Int) (w : World) (hr0 : Kd.C k124 w A0 l0.length l0) (hc0 : l0.length ≤ c0) (hr1 : Kd.C (Kd.int .i64) w A1 l1.length l1) (hc1 : l1.length ≤ c1) (h : impl_VerifyAll.f k l0 l1 = some (r1, r2, r3)) :
 Calls Try.prog 82 #[.slice A0 l0.length c0, .slice A1 l1.length c1] w fun e w' => e = .returned (.tuple #[.int .i64 r1, .int .i64 r2, .int .i64 r3]) ∧ Below w.heap.size w w' := by
 have HR0 := zQ hr0
 have HC0 := zQ hc0
 clear hr0 hc0
 have HR1 := zQ hr1
 have HC1 := zQ hc1
 clear hr1 hc1
 have HB := zQ (Below.refl w.heap.size w)
 have H : ((impl_Routine_151.f l0).bind fun t389 => ((impl_many_int.f l1).bind fun t390 => ((impl_areRoutines.f k l0 l1).bind fun t391 => ((impl_when.f (!t391) 1).bind fun t392 => ((impl_first.f k (([t389, t390, t392] : List Int))).bind fun t396 => (if t396 = 0 then ((impl_verifyAll.f k l0 l1).bind fun bt397 => (some (bt397.1, bt397.2.1, bt397.2.2))) else (some (0, 0, t396)))))))) = some (r1, r2, r3) := h
 clear h
 replace H := Option.bind_eq_some_iff.mp H
 obtain ⟨t389, A30, H⟩ := H
 replace H : ((impl_many_int.f l1).bind fun t390 => ((impl_areRoutines.f k l0 l1).bind fun t391 => ((impl_when.f (!t391) 1).bind fun t392 => ((impl_first.f k (([t389, t390, t392] : List Int))).bind fun t396 => (if t396 = 0 then ((impl_verifyAll.f k l0 l1).bind fun bt397 => (some (bt397.1, bt397.2.1, bt397.2.2))) else (some (0, 0, t396))))))) = some (r1, r2, r3) := H
 have A3 := zQ A30
 clear A30
 replace H := Option.bind_eq_some_iff.mp H
 obtain ⟨t390, A40, H⟩ := H
 replace H : ((impl_areRoutines.f k l0 l1).bind fun t391 => ((impl_when.f (!t391) 1).bind fun t392 => ((impl_first.f k (([t389, t390, t392] : List Int))).bind fun t396 => (if t396 = 0 then ((impl_verifyAll.f k l0 l1).bind fun bt397 => (some (bt397.1, bt397.2.1, bt397.2.2))) else (some (0, 0, t396)))))) = some (r1, r2, r3) := H
 have A4 := zQ A40
 clear A40
 replace H := Option.bind_eq_some_iff.mp H
 obtain ⟨t391, A50, H⟩ := H
 replace H : ((impl_when.f (!t391) 1).bind fun t392 => ((impl_first.f k (([t389, t390, t392] : List Int))).bind fun t396 => (if t396 = 0 then ((impl_verifyAll.f k l0 l1).bind fun bt397 => (some (bt397.1, bt397.2.1, bt397.2.2))) else (some (0, 0, t396))))) = some (r1, r2, r3) := H
 have A5 := zQ A50
 clear A50
 replace H := Option.bind_eq_some_iff.mp H
 obtain ⟨t392, A60, H⟩ := H
 replace H : ((impl_first.f k (([t389, t390, t392] : List Int))).bind fun t396 => (if t396 = 0 then ((impl_verifyAll.f k l0 l1).bind fun bt397 => (some (bt397.1, bt397.2.1, bt397.2.2))) else (some (0, 0, t396)))) = some (r1, r2, r3) := H
 have A6 := zQ A60
 clear A60
 obtain ⟨y393, hy393⟩ : ∃ y_ : List Int, y_ = (([t389, t390, t392] : List Int)) := ⟨_, rfl⟩
 replace H : ((impl_first.f k y393).bind fun t396 => (if t396 = 0 then ((impl_verifyAll.f k l0 l1).bind fun bt397 => (some (bt397.1, bt397.2.1, bt397.2.2))) else (some (0, 0, t396)))) = some (r1, r2, r3) := by first | (rw [hy393]; with_reducible exact H) | (have H2_ := (Option.bind_some _ _).symm.trans H; rw [hy393]; with_reducible exact H2_) | (have H2_ := (Option.bind_some _ _).symm.trans H; with_reducible exact H2_) | with_reducible exact H | (rw [hy393]; exact H) | exact H
 have Ny393 := zQ hy393
 clear hy393
 replace H := Option.bind_eq_some_iff.mp H
 obtain ⟨t396, A70, H⟩ := H
 replace H : (if t396 = 0 then ((impl_verifyAll.f k l0 l1).bind fun bt397 => (some (bt397.1, bt397.2.1, bt397.2.2))) else (some (0, 0, t396))) = some (r1, r2, r3) := H
 have A7 := zQ A70
 clear A70
 by_cases c8 : t396 = 0
 ·rw [if_pos c8] at H
  have c8b0 : (t396 == 0) = true := beq_iff_eq.mpr c8
  have c8b1 : (t396 != 0) = false := bne_eq_false_iff_eq.mpr c8
  clear c8
  replace H := Option.bind_eq_some_iff.mp H
  obtain ⟨⟨t397, t398, t399⟩, A90, H⟩ := H
  replace H : (some (t397, t398, t399)) = some (r1, r2, r3) := H
  have A9 := zQ A90
  clear A90
  simp only [Option.some.injEq, Prod.mk.injEq] at H
  obtain ⟨rfl, rfl, rfl⟩ := H
  go_enter Try.func82, Try.ntmps82
  go_wp2_with (first | ((with_reducible refine gate_callee (f := 151) rfl ?_); refine goesL_ (some 9) rfl rfl Try.func151 (by kernel_rfl) rfl #[.slice A0 l0.length c0] rfl zS ?_; (with_reducible refine (impl_Routine_151.calls _ _ l0 t389 _ ?side1 ?side2 A3.out).mono ?_); (case side1 => repeat (first | exact HR0.out | (with_reducible refine Kd.C_alloc ?_ _) | (with_reducible refine Kd.C_drewN ?_ _) | (with_reducible refine Kd.C_drew ?_))); (case side2 => exact HC0.out); rintro e w' ⟨rfl, ⟨nd, rfl⟩⟩; refine ⟨_, rfl, ?_⟩) | ((with_reducible refine gate_callee (f := 123) rfl ?_); refine goesL_ (some 11) rfl rfl Try.func123 (by kernel_rfl) rfl #[.slice A1 l1.length c1] rfl zS ?_; (with_reducible refine (impl_many_int.calls _ _ l1 t390 _ ?side1 ?side2 A4.out).mono ?_); (case side1 => repeat (first | exact HR1.out | (with_reducible refine Kd.C_alloc ?_ _) | (with_reducible refine Kd.C_drewN ?_ _) | (with_reducible refine Kd.C_drew ?_))); (case side2 => exact HC1.out); rintro e w' ⟨rfl, ⟨nd, rfl⟩⟩; refine ⟨_, rfl, ?_⟩) | ((with_reducible refine gate_callee (f := 95) rfl ?_); refine goesL_ (some 14) rfl rfl Try.func95 (by kernel_rfl) rfl #[.slice A0 l0.length c0, .slice A1 l1.length c1] rfl zS ?_; (with_reducible refine (impl_areRoutines.calls k _ _ l0 _ _ l1 t391 _ ?side1 ?side2 ?side3 ?side4 A5.out).mono ?_); (case side1 => repeat (first | exact HR0.out | (with_reducible refine Kd.C_alloc ?_ _) | (with_reducible refine Kd.C_drewN ?_ _) | (with_reducible refine Kd.C_drew ?_))); (case side2 => exact HC0.out); (case side3 => repeat (first | exact HR1.out | (with_reducible refine Kd.C_alloc ?_ _) | (with_reducible refine Kd.C_drewN ?_ _) | (with_reducible refine Kd.C_drew ?_))); (case side4 => exact HC1.out); rintro e w10 ⟨rfl, hb⟩; refine ⟨_, rfl, ?_⟩; have n0_ := zQ (below_step (zB HB.out) hb); clear HB; have HB := n0_; clear n0_; (try clear hb); (try clear hb2); (try clear hk); (try clear hi)) | ((with_reducible refine gate_callee (f := 72) rfl ?_); refine goesL_ (some 16) rfl rfl Try.func72 (by kernel_rfl) rfl #[.bool (!t391), .int .i64 1] rfl zS ?_; (with_reducible refine (impl_when.calls (!t391) 1 t392 _ A6.out).mono ?_); rintro e w' ⟨rfl, ⟨nd, rfl⟩⟩; refine ⟨_, rfl, ?_⟩) | ((with_reducible refine gate_dst (N := 17) rfl ?_); refine Kd.R_lit (Kd.int .i64) _ 3 ?hg (N := 17) ?hd (xs := ([t389, t390, t392] : List Int)) (inner := [.int .i64 t389, .int .i64 t390, .int .i64 t392]) (ok := fun _ => True) (okp := fun _ => True) ?hr ?hp (fun _ hk => hk) trivial (Below.refl _ _) (Nat.le_refl _) (by simp) ?_; (case hd => rfl); (case hg => rfl); (case hr => first | (go_simp; done) | (go_simp; rfl)); (case hp => exact (Reps.one (show Kd.M (Kd.int .i64) _ _ _ t389 [.int .i64 t389] from rfl) (Reps.one (show Kd.M (Kd.int .i64) _ _ _ t390 [.int .i64 t390] from rfl) (Reps.one (show Kd.M (Kd.int .i64) _ _ _ t392 [.int .i64 t392] from rfl) (Reps.none _ _))))); intro v394 w11 ho12 hb hg_ hnew_; clear hg_ hnew_; (first | rw [← Ny393.out] at ho12 | (simp only [Int.reduceToNat] at ho12; rw [← Ny393.out] at ho12)); have n0_ := zQ (Kd.R_lower ho12 (below_size (zB HB.out))); have n1_ := zQ (below_step (zB HB.out) hb); clear HB; have HO395 := n0_; have HB := n1_; clear n0_ n1_; clear hb ho12; obtain ⟨Ao13, co13, eo13⟩ := Kd.R_slice HO395.out; subst eo13) | ((with_reducible refine gate_callee (f := 70) rfl ?_); refine goesL_ (some 18) rfl rfl Try.func70 (by kernel_rfl) rfl #[.slice Ao13 y393.length co13] rfl zS ?_; (with_reducible refine (impl_first.calls k _ _ y393 t396 _ ?side1 ?side2 A7.out).mono ?_); (case side1 => exact zC (Kd.R_reads' HO395.out).2.2); (case side2 => exact (Kd.R_reads' HO395.out).2.1); rintro e w' ⟨rfl, ⟨nd, rfl⟩⟩; refine ⟨_, rfl, ?_⟩) | ((with_reducible refine gate_callee (f := 96) rfl ?_); refine goesL_ (some 24) rfl rfl Try.func96 (by kernel_rfl) rfl #[.slice A0 l0.length c0, .slice A1 l1.length c1] rfl zS ?_; (with_reducible refine (impl_verifyAll.calls k _ _ l0 _ _ l1 t397 t398 t399 _ ?side1 ?side2 ?side3 ?side4 A9.out).mono ?_); (case side1 => exact zC (Kd.C_below HR0.out (zB HB.out))); (case side2 => exact HC0.out); (case side3 => exact zC (Kd.C_below HR1.out (zB HB.out))); (case side4 => exact HC1.out); rintro e w14 ⟨rfl, hb⟩; refine ⟨_, rfl, ?_⟩; have n0_ := zQ (Kd.R_below (zR HO395.out) hb); have n1_ := zQ (below_step (zB HB.out) hb); clear HO395; clear HB; have HO395 := n0_; have HB := n1_; clear n0_ n1_; (try clear hb); (try clear hb2); (try clear hk); (try clear hi)))
  go_ret3
  exact ⟨by first | rfl | (simp [errW_none, errW_some] <;> rfl) | (simp [*, errW_none, errW_some] <;> rfl), zB HB.out⟩
 ·rw [if_neg c8] at H
  have c8b0 : (t396 == 0) = false := beq_eq_false_iff_ne.mpr c8
  have c8b1 : (t396 != 0) = true := bne_iff_ne.mpr c8
  simp only [Option.some.injEq, Prod.mk.injEq] at H
  obtain ⟨rfl, rfl, rfl⟩ := H
  go_enter Try.func82, Try.ntmps82
  go_wp2_with (first | ((with_reducible refine gate_callee (f := 151) rfl ?_); refine goesL_ (some 9) rfl rfl Try.func151 (by kernel_rfl) rfl #[.slice A0 l0.length c0] rfl zS ?_; (with_reducible refine (impl_Routine_151.calls _ _ l0 t389 _ ?side1 ?side2 A3.out).mono ?_); (case side1 => repeat (first | exact HR0.out | (with_reducible refine Kd.C_alloc ?_ _) | (with_reducible refine Kd.C_drewN ?_ _) | (with_reducible refine Kd.C_drew ?_))); (case side2 => exact HC0.out); rintro e w' ⟨rfl, ⟨nd, rfl⟩⟩; refine ⟨_, rfl, ?_⟩) | ((with_reducible refine gate_callee (f := 123) rfl ?_); refine goesL_ (some 11) rfl rfl Try.func123 (by kernel_rfl) rfl #[.slice A1 l1.length c1] rfl zS ?_; (with_reducible refine (impl_many_int.calls _ _ l1 t390 _ ?side1 ?side2 A4.out).mono ?_); (case side1 => repeat (first | exact HR1.out | (with_reducible refine Kd.C_alloc ?_ _) | (with_reducible refine Kd.C_drewN ?_ _) | (with_reducible refine Kd.C_drew ?_))); (case side2 => exact HC1.out); rintro e w' ⟨rfl, ⟨nd, rfl⟩⟩; refine ⟨_, rfl, ?_⟩) | ((with_reducible refine gate_callee (f := 95) rfl ?_); refine goesL_ (some 14) rfl rfl Try.func95 (by kernel_rfl) rfl #[.slice A0 l0.length c0, .slice A1 l1.length c1] rfl zS ?_; (with_reducible refine (impl_areRoutines.calls k _ _ l0 _ _ l1 t391 _ ?side1 ?side2 ?side3 ?side4 A5.out).mono ?_); (case side1 => repeat (first | exact HR0.out | (with_reducible refine Kd.C_alloc ?_ _) | (with_reducible refine Kd.C_drewN ?_ _) | (with_reducible refine Kd.C_drew ?_))); (case side2 => exact HC0.out); (case side3 => repeat (first | exact HR1.out | (with_reducible refine Kd.C_alloc ?_ _) | (with_reducible refine Kd.C_drewN ?_ _) | (with_reducible refine Kd.C_drew ?_))); (case side4 => exact HC1.out); rintro e w15 ⟨rfl, hb⟩; refine ⟨_, rfl, ?_⟩; have n0_ := zQ (below_step (zB HB.out) hb); clear HB; have HB := n0_; clear n0_; (try clear hb); (try clear hb2); (try clear hk); (try clear hi)) | ((with_reducible refine gate_callee (f := 72) rfl ?_); refine goesL_ (some 16) rfl rfl Try.func72 (by kernel_rfl) rfl #[.bool (!t391), .int .i64 1] rfl zS ?_; (with_reducible refine (impl_when.calls (!t391) 1 t392 _ A6.out).mono ?_); rintro e w' ⟨rfl, ⟨nd, rfl⟩⟩; refine ⟨_, rfl, ?_⟩) | ((with_reducible refine gate_dst (N := 17) rfl ?_); refine Kd.R_lit (Kd.int .i64) _ 3 ?hg (N := 17) ?hd (xs := ([t389, t390, t392] : List Int)) (inner := [.int .i64 t389, .int .i64 t390, .int .i64 t392]) (ok := fun _ => True) (okp := fun _ => True) ?hr ?hp (fun _ hk => hk) trivial (Below.refl _ _) (Nat.le_refl _) (by simp) ?_; (case hd => rfl); (case hg => rfl); (case hr => first | (go_simp; done) | (go_simp; rfl)); (case hp => exact (Reps.one (show Kd.M (Kd.int .i64) _ _ _ t389 [.int .i64 t389] from rfl) (Reps.one (show Kd.M (Kd.int .i64) _ _ _ t390 [.int .i64 t390] from rfl) (Reps.one (show Kd.M (Kd.int .i64) _ _ _ t392 [.int .i64 t392] from rfl) (Reps.none _ _))))); intro v394 w16 ho17 hb hg_ hnew_; clear hg_ hnew_; (first | rw [← Ny393.out] at ho17 | (simp only [Int.reduceToNat] at ho17; rw [← Ny393.out] at ho17)); have n0_ := zQ (Kd.R_lower ho17 (below_size (zB HB.out))); have n1_ := zQ (below_step (zB HB.out) hb); clear HB; have HO395 := n0_; have HB := n1_; clear n0_ n1_; clear hb ho17; obtain ⟨Ao18, co18, eo18⟩ := Kd.R_slice HO395.out; subst eo18) | ((with_reducible refine gate_callee (f := 70) rfl ?_); refine goesL_ (some 18) rfl rfl Try.func70 (by kernel_rfl) rfl #[.slice Ao18 y393.length co18] rfl zS ?_; (with_reducible refine (impl_first.calls k _ _ y393 t396 _ ?side1 ?side2 A7.out).mono ?_); (case side1 => exact zC (Kd.R_reads' HO395.out).2.2); (case side2 => exact (Kd.R_reads' HO395.out).2.1); rintro e w' ⟨rfl, ⟨nd, rfl⟩⟩; refine ⟨_, rfl, ?_⟩))
  go_ret3
  exact ⟨by first | rfl | (simp [errW_none, errW_some] <;> rfl) | (simp [*, errW_none, errW_some] <;> rfl), zB HB.out⟩

end Go.Proofs.Ytkegjmkdnfpfdaa.MFnExactCostsOf
