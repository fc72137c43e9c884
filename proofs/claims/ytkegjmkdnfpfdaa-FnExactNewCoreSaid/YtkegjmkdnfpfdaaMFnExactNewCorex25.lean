-- By a program of this session.
import Derived.Test.YtkegjmkdnfpfdaaMFnExactNewCorex0
import Derived.Test.YtkegjmkdnfpfdaaMFnExactNewCorex16
import Derived.Test.YtkegjmkdnfpfdaaMFnExactNewCorex20
import Derived.Test.YtkegjmkdnfpfdaaMFnExactNewCorex24
namespace Go.Proofs.Ytkegjmkdnfpfdaa.MFnExactNewCore
open Go.RowKit Go.Proofs.YtkegjmkdnfpfdaaW.PrintWords Go.Proofs.YtkegjmkdnfpfdaaW.PrintLast Go.Proofs.YtkegjmkdnfpfdaaW.PrintMore
attribute [local go_sem] max2_int min2_int max_two min_two max_three min_three max_four min_four
set_option linter.unusedVariables false
set_option linter.unusedSimpArgs false
set_option maxHeartbeats 8000000
set_option maxRecDepth 100000

/-! ### impl_verifyAll: function 96 -/
def impl_verifyAll.l0 : Nat → List Int → List (S124) → Int → Int → Option (Int × Int × Int)
 | 0, _, _, _, _ => none
 | k + 1, x1, x12, x13, x14 => if x14 < x13 then (if 0 ≤ x14 then (if x14 < (x12.length : Int) then ((impl_verify.f ((rd_T124 x12 x14).f0) x1 x14).bind fun bt244 => (if bt244.2.2 = 0 then (impl_verifyAll.l0 k x1 x12 x13 (wrap64 (x14 + 1))) else (some (x14, bt244.2.1, bt244.2.2)))) else (none)) else (none)) else (some (0, 0, 0))
def impl_verifyAll.f (k : Nat) (l0 : List (S124)) (l1 : List Int) : Option (Int × Int × Int) := impl_verifyAll.l0 k l1 l0 (l0.length : Int) 0
theorem impl_verifyAll.mono_l : ∀ k, (∀ y0 y1 y2 y3, LeO (impl_verifyAll.l0 k y0 y1 y2 y3) (impl_verifyAll.l0 (k + 1) y0 y1 y2 y3))
 | 0 => fun _ _ _ _ r h => by simp [impl_verifyAll.l0] at h
 | k + 1 => by
  have ih0 := impl_verifyAll.mono_l k
  ·intro y0 y1 y2 y3
   unfold impl_verifyAll.l0
   repeat' first
   | (with_reducible exact ih0 _ _ _ _)
   | (with_reducible exact LeO.refl _)
   | (with_reducible exact LeO.none _)
   | (with_reducible refine LeO.ite ?_ ?_)
   | (with_reducible refine LeO.bind ?_ (fun _ => ?_))
theorem impl_verifyAll.mono : ∀ a0 a1 k, LeO (impl_verifyAll.f k a0 a1) (impl_verifyAll.f (k + 1) a0 a1) := by
 intro a0 a1 k
 have ih0 := impl_verifyAll.mono_l k
 unfold impl_verifyAll.f
 repeat' first
  | (with_reducible exact ih0 _ _ _ _)
  | (with_reducible exact LeO.refl _)
  | (with_reducible exact LeO.none _)
  | (with_reducible refine LeO.ite ?_ ?_)
  | (with_reducible refine LeO.bind ?_ (fun _ => ?_))
theorem impl_verifyAll.calls (k : Nat) (A0 : Option Addr) (c0 : Nat) (l0 : List (S124)) (A1 : Option Addr) (c1 : Nat) (l1 : List Int) (r1 : Int) (r2 : Int) (r3 : Int) (w : World) (hr0 : Kd.C k124 w A0 l0.length l0) (hc0 : l0.length ≤ c0) (hr1 : Kd.C (Kd.int .i64) w A1 l1.length l1) (hc1 : l1.length ≤ c1) (h : impl_verifyAll.f k l0 l1 = some (r1, r2, r3)) :
 Calls Try.prog 96 #[.slice A0 l0.length c0, .slice A1 l1.length c1] w fun e w' => e = .returned (.tuple #[.int .i64 r1, .int .i64 r2, .int .i64 r3]) ∧ Below w.heap.size w w' := by
 have hu124 := Try.underlying124
 have HR0 := zQ hr0
 have HC0 := zQ hc0
 clear hr0 hc0
 have HR1 := zQ hr1
 have HC1 := zQ hc1
 clear hr1 hc1
 have HB := zQ (Below.refl w.heap.size w)
 have H : (impl_verifyAll.l0 k l1 l0 (l0.length : Int) 0) = some (r1, r2, r3) := h
 clear h
 have H' := zQ H
 clear H
 go_enter Try.func96, Try.ntmps96
 go_wp2
 go_loopg [14] k (fun kq v14 w' => ∃ (x14_1 : Int), v14 = .int .i64 x14_1 ∧ Aside0 (impl_verifyAll.l0 kq l1 l0 (l0.length : Int) x14_1 = some (r1, r2, r3)) ∧ Aside0 (kq ≤ k) ∧ Aside0 (Below w.heap.size w w'))
 case atStart => exact ⟨(0), (by first | rfl | (simp; done) | (simp [*]; done)), H', ⟨Nat.le_refl _⟩, ⟨zB HB.out⟩⟩
 case round =>
  clear H'
  try clear c1
  try clear p2
  obtain ⟨x14_1, rfl, HA, HK1, HB⟩ := hrel
  cases gk with
  | zero => exact absurd HA.out (by simp [impl_verifyAll.l0])
  | succ k1 =>
   have H := HA.out
   clear HA
   simp only [impl_verifyAll.l0] at H
   by_cases c3 : x14_1 < (l0.length : Int)
   ·rw [if_pos c3] at H
    have c3b0 : decide (x14_1 < (l0.length : Int)) = true := decide_eq_true c3
    clear c3
    by_cases c4 : 0 ≤ x14_1
    ·rw [if_pos c4] at H
     have c4b0 : decide (0 ≤ x14_1) = true := decide_eq_true c4
     clear c4
     by_cases c5 : x14_1 < (l0.length : Int)
     ·rw [if_pos c5] at H
      have c5b0 : decide (x14_1 < (l0.length : Int)) = true := decide_eq_true c5
      clear c5
      replace H := Option.bind_eq_some_iff.mp H
      obtain ⟨⟨t244, t245, t246⟩, A60, H⟩ := H
      replace H : (if t246 = 0 then (impl_verifyAll.l0 k1 l1 l0 (l0.length : Int) (wrap64 (x14_1 + 1))) else (some (x14_1, t245, t246))) = some (r1, r2, r3) := H
      have A6 := zQ A60
      clear A60
      by_cases c7 : t246 = 0
      ·rw [if_pos c7] at H
       have c7b0 : (t246 == 0) = true := beq_iff_eq.mpr c7
       have c7b1 : (t246 != 0) = false := bne_eq_false_iff_eq.mpr c7
       clear c7
       have H' := zQ H
       clear H
       have p242 : 0 ≤ (x14_1 : Int) := zA
       have q242 : x14_1 < (l0.length : Int) := zA
       obtain ⟨ad242, A242_0, c242_0, e242, hx242_0, hl242_0, hi242_0⟩ := at_T124 HR0.out x14_1 p242 q242
       cases e242
       replace hx242_0 := zX HB.out hx242_0
       have HR242_0 := zQ hi242_0
       have HC242_0 := zQ hl242_0
       clear hi242_0 hl242_0
       replace p242 := eq_true p242
       replace q242 := eq_true q242
       go_wp2_with (first | ((with_reducible refine gate_dst (N := 8) rfl ?_); refine box_event ?hg (N := 8) ?hd (cs := #[.slice none 0 0]) (t := 124) ?hr ?_; (case hd => rfl); (case hg => rfl); (case hr => first | (go_simp; done) | (go_simp; rfl)); intro gb243 hg w8 hbox hb; have n0_ := zQ (below_step (zB HB.out) hb); have n1_ := zQ (hbox); have n2_ := zQ ((zG hg HB.out)); have n3_ := zQ ((zG hg HB.out)); clear HB; have HB := n0_; have BK243 := n1_; have GW243 := n2_; have GE243 := n3_; clear n0_ n1_ n2_ n3_; clear hb hbox hg; obtain ⟨hcz9_0, hfz9_0⟩ := zc1 BK243.out) | ((with_reducible refine gate_callee (f := 140) rfl ?_); refine goesL_ (some 24) rfl rfl Try.func140 (by kernel_rfl) rfl #[.slice A242_0 ((rd_T124 l0 x14_1).f0).length c242_0, .slice A1 l1.length c1, .int .i64 x14_1] rfl zS ?_; (with_reducible refine (impl_verify.calls _ _ ((rd_T124 l0 x14_1).f0) _ _ l1 x14_1 t244 t245 t246 _ ?side1 ?side2 ?side3 ?side4 A6.out).mono ?_); (case side1 => exact Kd.C_below HR242_0.out (zB HB.out)); (case side2 => exact HC242_0.out); (case side3 => exact Kd.C_below HR1.out (zB HB.out)); (case side4 => exact HC1.out); rintro e w10 ⟨v247, rfl, ho0, hb⟩; refine ⟨_, rfl, ?_⟩; have n0_ := zQ (Kd.R_lower ho0 (below_size (zB HB.out))); have n1_ := zQ (blk_below (g := gb243) (o := .cells #[.slice A242_0 ((rd_T124 l0 x14_1).f0).length c242_0] 124 (0, 0)) (zP BK243.out) hb); have n2_ := zQ (below_step (zB HB.out) hb); clear BK243; clear HB; have HO248 := n0_; have BK243 := n1_; have HB := n2_; clear n0_ n1_ n2_; (try clear hb); (try clear hb2); (try clear hk); (try clear hi); (try clear ho0)))
       go_roundg k1
       case measure => have := HK1.out; omega
       case rel => exact ⟨(wrap64 (x14_1 + 1)), (by first | rfl | (simp; done) | (simp [*]; done)), H', ⟨by have := HK1.out; omega⟩, ⟨zB HB.out⟩⟩
      ·rw [if_neg c7] at H
       have c7b0 : (t246 == 0) = false := beq_eq_false_iff_ne.mpr c7
       have c7b1 : (t246 != 0) = true := bne_iff_ne.mpr c7
       simp only [Option.some.injEq, Prod.mk.injEq] at H
       obtain ⟨rfl, rfl, rfl⟩ := H
       have p242 : 0 ≤ (x14_1 : Int) := zA
       have q242 : x14_1 < (l0.length : Int) := zA
       obtain ⟨ad242, A242_0, c242_0, e242, hx242_0, hl242_0, hi242_0⟩ := at_T124 HR0.out x14_1 p242 q242
       cases e242
       replace hx242_0 := zX HB.out hx242_0
       have HR242_0 := zQ hi242_0
       have HC242_0 := zQ hl242_0
       clear hi242_0 hl242_0
       replace p242 := eq_true p242
       replace q242 := eq_true q242
       go_wp2_with (first | ((with_reducible refine gate_dst (N := 8) rfl ?_); refine box_event ?hg (N := 8) ?hd (cs := #[.slice none 0 0]) (t := 124) ?hr ?_; (case hd => rfl); (case hg => rfl); (case hr => first | (go_simp; done) | (go_simp; rfl)); intro gb243 hg w11 hbox hb; have n0_ := zQ (below_step (zB HB.out) hb); have n1_ := zQ (hbox); have n2_ := zQ ((zG hg HB.out)); have n3_ := zQ ((zG hg HB.out)); clear HB; have HB := n0_; have BK243 := n1_; have GW243 := n2_; have GE243 := n3_; clear n0_ n1_ n2_ n3_; clear hb hbox hg; obtain ⟨hcz12_0, hfz12_0⟩ := zc1 BK243.out) | ((with_reducible refine gate_callee (f := 140) rfl ?_); refine goesL_ (some 24) rfl rfl Try.func140 (by kernel_rfl) rfl #[.slice A242_0 ((rd_T124 l0 x14_1).f0).length c242_0, .slice A1 l1.length c1, .int .i64 x14_1] rfl zS ?_; (with_reducible refine (impl_verify.calls _ _ ((rd_T124 l0 x14_1).f0) _ _ l1 x14_1 t244 t245 t246 _ ?side1 ?side2 ?side3 ?side4 A6.out).mono ?_); (case side1 => exact Kd.C_below HR242_0.out (zB HB.out)); (case side2 => exact HC242_0.out); (case side3 => exact Kd.C_below HR1.out (zB HB.out)); (case side4 => exact HC1.out); rintro e w13 ⟨v247, rfl, ho0, hb⟩; refine ⟨_, rfl, ?_⟩; have n0_ := zQ (Kd.R_lower ho0 (below_size (zB HB.out))); have n1_ := zQ (blk_below (g := gb243) (o := .cells #[.slice A242_0 ((rd_T124 l0 x14_1).f0).length c242_0] 124 (0, 0)) (zP BK243.out) hb); have n2_ := zQ (below_step (zB HB.out) hb); clear BK243; clear HB; have HO248 := n0_; have BK243 := n1_; have HB := n2_; clear n0_ n1_ n2_; (try clear hb); (try clear hb2); (try clear hk); (try clear hi); (try clear ho0)))
       go_ret3
       exact ⟨by first | rfl | (simp [errW_none, errW_some] <;> rfl) | (simp [*, errW_none, errW_some] <;> rfl), zB HB.out⟩
     ·rw [if_neg c5] at H
      exact absurd H (by simp)
    ·rw [if_neg c4] at H
     exact absurd H (by simp)
   ·rw [if_neg c3] at H
    have c3b0 : decide (x14_1 < (l0.length : Int)) = false := decide_eq_false c3
    clear c3
    simp only [Option.some.injEq, Prod.mk.injEq] at H
    obtain ⟨rfl, rfl, rfl⟩ := H
    go_wp2
    go_ret3
    exact ⟨by first | rfl | (simp [errW_none, errW_some] <;> rfl) | (simp [*, errW_none, errW_some] <;> rfl), zB HB.out⟩

/-! ### impl_many_int: function 123 -/
def impl_many_int.f (l0 : List Int) : Option (Int) := (impl_when.f (decide ((l0.length : Int) > 4096)) 2).bind fun t249 => (some t249)
theorem impl_many_int.calls (A0 : Option Addr) (c0 : Nat) (l0 : List Int) (r : Int) (w : World) (hr0 : Kd.C (Kd.int .i64) w A0 l0.length l0) (hc0 : l0.length ≤ c0) (h : impl_many_int.f l0 = some r) :
 Calls Try.prog 123 #[.slice A0 l0.length c0] w fun e w' => e = .returned (.int .i64 r) ∧ Drawn0 w w' := by
 have HR0 := zQ hr0
 have HC0 := zQ hc0
 clear hr0 hc0
 have H : ((impl_when.f (decide ((l0.length : Int) > 4096)) 2).bind fun t249 => (some t249)) = some r := h
 clear h
 replace H := Option.bind_eq_some_iff.mp H
 obtain ⟨t249, A20, H⟩ := H
 replace H : (some t249) = some r := H
 have A2 := zQ A20
 clear A20
 obtain rfl := Option.some.inj H
 go_enter Try.func123, Try.ntmps123
 go_wp2_with (first | ((with_reducible refine gate_callee (f := 72) rfl ?_); refine goesL_ (some 6) rfl rfl Try.func72 (by kernel_rfl) rfl #[.bool (decide ((l0.length : Int) > 4096)), .int .i64 2] rfl zS ?_; (with_reducible refine (impl_when.calls (decide ((l0.length : Int) > 4096)) 2 t249 _ A2.out).mono ?_); rintro e w' ⟨rfl, ⟨nd, rfl⟩⟩; refine ⟨_, rfl, ?_⟩))
 go_ret
 exact ⟨by first | rfl | (simp; done) | (simp [*]; done), zD⟩

/-! ### impl_Routine_151: function 151 -/
def impl_Routine_151.f (l0 : List (S124)) : Option (Int) := (impl_when.f (decide ((l0.length : Int) > 4096)) 2).bind fun t250 => (some t250)
theorem impl_Routine_151.calls (A0 : Option Addr) (c0 : Nat) (l0 : List (S124)) (r : Int) (w : World) (hr0 : Kd.C k124 w A0 l0.length l0) (hc0 : l0.length ≤ c0) (h : impl_Routine_151.f l0 = some r) :
 Calls Try.prog 151 #[.slice A0 l0.length c0] w fun e w' => e = .returned (.int .i64 r) ∧ Drawn0 w w' := by
 have HR0 := zQ hr0
 have HC0 := zQ hc0
 clear hr0 hc0
 have H : ((impl_when.f (decide ((l0.length : Int) > 4096)) 2).bind fun t250 => (some t250)) = some r := h
 clear h
 replace H := Option.bind_eq_some_iff.mp H
 obtain ⟨t250, A20, H⟩ := H
 replace H : (some t250) = some r := H
 have A2 := zQ A20
 clear A20
 obtain rfl := Option.some.inj H
 go_enter Try.func151, Try.ntmps151
 go_wp2_with (first | ((with_reducible refine gate_callee (f := 72) rfl ?_); refine goesL_ (some 6) rfl rfl Try.func72 (by kernel_rfl) rfl #[.bool (decide ((l0.length : Int) > 4096)), .int .i64 2] rfl zS ?_; (with_reducible refine (impl_when.calls (decide ((l0.length : Int) > 4096)) 2 t250 _ A2.out).mono ?_); rintro e w' ⟨rfl, ⟨nd, rfl⟩⟩; refine ⟨_, rfl, ?_⟩))
 go_ret
 exact ⟨by first | rfl | (simp; done) | (simp [*]; done), zD⟩

/-! ### impl_VerifyAll: function 82 -/
def impl_VerifyAll.f (k : Nat) (l0 : List (S124)) (l1 : List Int) : Option (Int × Int × Int) := (impl_Routine_151.f l0).bind fun t251 => ((impl_many_int.f l1).bind fun t252 => ((impl_areRoutines.f k l0 l1).bind fun t253 => ((impl_when.f (!t253) 1).bind fun t254 => ((impl_first.f k (([t251, t252, t254] : List Int))).bind fun t258 => (if t258 = 0 then ((impl_verifyAll.f k l0 l1).bind fun bt259 => (some (bt259.1, bt259.2.1, bt259.2.2))) else (some (0, 0, t258)))))))
theorem impl_VerifyAll.mono : ∀ a0 a1 k, LeO (impl_VerifyAll.f k a0 a1) (impl_VerifyAll.f (k + 1) a0 a1) := by
 intro a0 a1 k
 unfold impl_VerifyAll.f
 repeat' first
  | (with_reducible exact impl_areRoutines.mono _ _ _)
  | (with_reducible exact impl_first.mono _ _)
  | (with_reducible exact impl_verifyAll.mono _ _ _)
  | (with_reducible exact LeO.refl _)
  | (with_reducible exact LeO.none _)
  | (with_reducible refine LeO.ite ?_ ?_)
  | (with_reducible refine LeO.bind ?_ (fun _ => ?_))
theorem impl_VerifyAll.calls (k : Nat) (A0 : Option Addr) (c0 : Nat) (l0 : List (S124)) (A1 : Option Addr) (c1 : Nat) (l1 : List Int) (r1 : Int) (r2 : Int) (r3 : Int) (w : World) (hr0 : Kd.C k124 w A0 l0.length l0) (hc0 : l0.length ≤ c0) (hr1 : Kd.C (Kd.int .i64) w A1 l1.length l1) (hc1 : l1.length ≤ c1) (h : impl_VerifyAll.f k l0 l1 = some (r1, r2, r3)) :
 Calls Try.prog 82 #[.slice A0 l0.length c0, .slice A1 l1.length c1] w fun e w' => e = .returned (.tuple #[.int .i64 r1, .int .i64 r2, .int .i64 r3]) ∧ Below w.heap.size w w' := by
 have HR0 := zQ hr0
 have HC0 := zQ hc0
 clear hr0 hc0
 have HR1 := zQ hr1
 have HC1 := zQ hc1
 clear hr1 hc1
 have HB := zQ (Below.refl w.heap.size w)
 have H : ((impl_Routine_151.f l0).bind fun t251 => ((impl_many_int.f l1).bind fun t252 => ((impl_areRoutines.f k l0 l1).bind fun t253 => ((impl_when.f (!t253) 1).bind fun t254 => ((impl_first.f k (([t251, t252, t254] : List Int))).bind fun t258 => (if t258 = 0 then ((impl_verifyAll.f k l0 l1).bind fun bt259 => (some (bt259.1, bt259.2.1, bt259.2.2))) else (some (0, 0, t258)))))))) = some (r1, r2, r3) := h
 clear h
 replace H := Option.bind_eq_some_iff.mp H
 obtain ⟨t251, A30, H⟩ := H
 replace H : ((impl_many_int.f l1).bind fun t252 => ((impl_areRoutines.f k l0 l1).bind fun t253 => ((impl_when.f (!t253) 1).bind fun t254 => ((impl_first.f k (([t251, t252, t254] : List Int))).bind fun t258 => (if t258 = 0 then ((impl_verifyAll.f k l0 l1).bind fun bt259 => (some (bt259.1, bt259.2.1, bt259.2.2))) else (some (0, 0, t258))))))) = some (r1, r2, r3) := H
 have A3 := zQ A30
 clear A30
 replace H := Option.bind_eq_some_iff.mp H
 obtain ⟨t252, A40, H⟩ := H
 replace H : ((impl_areRoutines.f k l0 l1).bind fun t253 => ((impl_when.f (!t253) 1).bind fun t254 => ((impl_first.f k (([t251, t252, t254] : List Int))).bind fun t258 => (if t258 = 0 then ((impl_verifyAll.f k l0 l1).bind fun bt259 => (some (bt259.1, bt259.2.1, bt259.2.2))) else (some (0, 0, t258)))))) = some (r1, r2, r3) := H
 have A4 := zQ A40
 clear A40
 replace H := Option.bind_eq_some_iff.mp H
 obtain ⟨t253, A50, H⟩ := H
 replace H : ((impl_when.f (!t253) 1).bind fun t254 => ((impl_first.f k (([t251, t252, t254] : List Int))).bind fun t258 => (if t258 = 0 then ((impl_verifyAll.f k l0 l1).bind fun bt259 => (some (bt259.1, bt259.2.1, bt259.2.2))) else (some (0, 0, t258))))) = some (r1, r2, r3) := H
 have A5 := zQ A50
 clear A50
 replace H := Option.bind_eq_some_iff.mp H
 obtain ⟨t254, A60, H⟩ := H
 replace H : ((impl_first.f k (([t251, t252, t254] : List Int))).bind fun t258 => (if t258 = 0 then ((impl_verifyAll.f k l0 l1).bind fun bt259 => (some (bt259.1, bt259.2.1, bt259.2.2))) else (some (0, 0, t258)))) = some (r1, r2, r3) := H
 have A6 := zQ A60
 clear A60
 obtain ⟨y255, hy255⟩ : ∃ y_ : List Int, y_ = (([t251, t252, t254] : List Int)) := ⟨_, rfl⟩
 replace H : ((impl_first.f k y255).bind fun t258 => (if t258 = 0 then ((impl_verifyAll.f k l0 l1).bind fun bt259 => (some (bt259.1, bt259.2.1, bt259.2.2))) else (some (0, 0, t258)))) = some (r1, r2, r3) := by first | (rw [hy255]; with_reducible exact H) | (have H2_ := (Option.bind_some _ _).symm.trans H; rw [hy255]; with_reducible exact H2_) | (have H2_ := (Option.bind_some _ _).symm.trans H; with_reducible exact H2_) | with_reducible exact H | (rw [hy255]; exact H) | exact H
 have Ny255 := zQ hy255
 clear hy255
 replace H := Option.bind_eq_some_iff.mp H
 obtain ⟨t258, A70, H⟩ := H
 replace H : (if t258 = 0 then ((impl_verifyAll.f k l0 l1).bind fun bt259 => (some (bt259.1, bt259.2.1, bt259.2.2))) else (some (0, 0, t258))) = some (r1, r2, r3) := H
 have A7 := zQ A70
 clear A70
 by_cases c8 : t258 = 0
 ·rw [if_pos c8] at H
  have c8b0 : (t258 == 0) = true := beq_iff_eq.mpr c8
  have c8b1 : (t258 != 0) = false := bne_eq_false_iff_eq.mpr c8
  clear c8
  replace H := Option.bind_eq_some_iff.mp H
  obtain ⟨⟨t259, t260, t261⟩, A90, H⟩ := H
  replace H : (some (t259, t260, t261)) = some (r1, r2, r3) := H
  have A9 := zQ A90
  clear A90
  simp only [Option.some.injEq, Prod.mk.injEq] at H
  obtain ⟨rfl, rfl, rfl⟩ := H
  go_enter Try.func82, Try.ntmps82
  go_wp2_with (first | ((with_reducible refine gate_callee (f := 151) rfl ?_); refine goesL_ (some 9) rfl rfl Try.func151 (by kernel_rfl) rfl #[.slice A0 l0.length c0] rfl zS ?_; (with_reducible refine (impl_Routine_151.calls _ _ l0 t251 _ ?side1 ?side2 A3.out).mono ?_); (case side1 => repeat (first | exact HR0.out | (with_reducible refine Kd.C_alloc ?_ _) | (with_reducible refine Kd.C_drewN ?_ _) | (with_reducible refine Kd.C_drew ?_))); (case side2 => exact HC0.out); rintro e w' ⟨rfl, ⟨nd, rfl⟩⟩; refine ⟨_, rfl, ?_⟩) | ((with_reducible refine gate_callee (f := 123) rfl ?_); refine goesL_ (some 11) rfl rfl Try.func123 (by kernel_rfl) rfl #[.slice A1 l1.length c1] rfl zS ?_; (with_reducible refine (impl_many_int.calls _ _ l1 t252 _ ?side1 ?side2 A4.out).mono ?_); (case side1 => repeat (first | exact HR1.out | (with_reducible refine Kd.C_alloc ?_ _) | (with_reducible refine Kd.C_drewN ?_ _) | (with_reducible refine Kd.C_drew ?_))); (case side2 => exact HC1.out); rintro e w' ⟨rfl, ⟨nd, rfl⟩⟩; refine ⟨_, rfl, ?_⟩) | ((with_reducible refine gate_callee (f := 95) rfl ?_); refine goesL_ (some 14) rfl rfl Try.func95 (by kernel_rfl) rfl #[.slice A0 l0.length c0, .slice A1 l1.length c1] rfl zS ?_; (with_reducible refine (impl_areRoutines.calls k _ _ l0 _ _ l1 t253 _ ?side1 ?side2 ?side3 ?side4 A5.out).mono ?_); (case side1 => repeat (first | exact HR0.out | (with_reducible refine Kd.C_alloc ?_ _) | (with_reducible refine Kd.C_drewN ?_ _) | (with_reducible refine Kd.C_drew ?_))); (case side2 => exact HC0.out); (case side3 => repeat (first | exact HR1.out | (with_reducible refine Kd.C_alloc ?_ _) | (with_reducible refine Kd.C_drewN ?_ _) | (with_reducible refine Kd.C_drew ?_))); (case side4 => exact HC1.out); rintro e w10 ⟨rfl, hb⟩; refine ⟨_, rfl, ?_⟩; have n0_ := zQ (below_step (zB HB.out) hb); clear HB; have HB := n0_; clear n0_; (try clear hb); (try clear hb2); (try clear hk); (try clear hi)) | ((with_reducible refine gate_callee (f := 72) rfl ?_); refine goesL_ (some 16) rfl rfl Try.func72 (by kernel_rfl) rfl #[.bool (!t253), .int .i64 1] rfl zS ?_; (with_reducible refine (impl_when.calls (!t253) 1 t254 _ A6.out).mono ?_); rintro e w' ⟨rfl, ⟨nd, rfl⟩⟩; refine ⟨_, rfl, ?_⟩) | ((with_reducible refine gate_dst (N := 17) rfl ?_); refine Kd.R_lit (Kd.int .i64) _ 3 ?hg (N := 17) ?hd (xs := ([t251, t252, t254] : List Int)) (inner := [.int .i64 t251, .int .i64 t252, .int .i64 t254]) (ok := fun _ => True) (okp := fun _ => True) ?hr ?hp (fun _ hk => hk) trivial (Below.refl _ _) (Nat.le_refl _) (by simp) ?_; (case hd => rfl); (case hg => rfl); (case hr => first | (go_simp; done) | (go_simp; rfl)); (case hp => exact (Reps.one (show Kd.M (Kd.int .i64) _ _ _ t251 [.int .i64 t251] from rfl) (Reps.one (show Kd.M (Kd.int .i64) _ _ _ t252 [.int .i64 t252] from rfl) (Reps.one (show Kd.M (Kd.int .i64) _ _ _ t254 [.int .i64 t254] from rfl) (Reps.none _ _))))); intro v256 w11 ho12 hb hg_ hnew_; clear hg_ hnew_; (first | rw [← Ny255.out] at ho12 | (simp only [Int.reduceToNat] at ho12; rw [← Ny255.out] at ho12)); have n0_ := zQ (Kd.R_lower ho12 (below_size (zB HB.out))); have n1_ := zQ (below_step (zB HB.out) hb); clear HB; have HO257 := n0_; have HB := n1_; clear n0_ n1_; clear hb ho12; obtain ⟨Ao13, co13, eo13⟩ := Kd.R_slice HO257.out; subst eo13) | ((with_reducible refine gate_callee (f := 70) rfl ?_); refine goesL_ (some 18) rfl rfl Try.func70 (by kernel_rfl) rfl #[.slice Ao13 y255.length co13] rfl zS ?_; (with_reducible refine (impl_first.calls k _ _ y255 t258 _ ?side1 ?side2 A7.out).mono ?_); (case side1 => exact zC (Kd.R_reads' HO257.out).2.2); (case side2 => exact (Kd.R_reads' HO257.out).2.1); rintro e w' ⟨rfl, ⟨nd, rfl⟩⟩; refine ⟨_, rfl, ?_⟩) | ((with_reducible refine gate_callee (f := 96) rfl ?_); refine goesL_ (some 24) rfl rfl Try.func96 (by kernel_rfl) rfl #[.slice A0 l0.length c0, .slice A1 l1.length c1] rfl zS ?_; (with_reducible refine (impl_verifyAll.calls k _ _ l0 _ _ l1 t259 t260 t261 _ ?side1 ?side2 ?side3 ?side4 A9.out).mono ?_); (case side1 => exact zC (Kd.C_below HR0.out (zB HB.out))); (case side2 => exact HC0.out); (case side3 => exact zC (Kd.C_below HR1.out (zB HB.out))); (case side4 => exact HC1.out); rintro e w14 ⟨rfl, hb⟩; refine ⟨_, rfl, ?_⟩; have n0_ := zQ (Kd.R_below (zR HO257.out) hb); have n1_ := zQ (below_step (zB HB.out) hb); clear HO257; clear HB; have HO257 := n0_; have HB := n1_; clear n0_ n1_; (try clear hb); (try clear hb2); (try clear hk); (try clear hi)))
  go_ret3
  exact ⟨by first | rfl | (simp [errW_none, errW_some] <;> rfl) | (simp [*, errW_none, errW_some] <;> rfl), zB HB.out⟩
 ·rw [if_neg c8] at H
  have c8b0 : (t258 == 0) = false := beq_eq_false_iff_ne.mpr c8
  have c8b1 : (t258 != 0) = true := bne_iff_ne.mpr c8
  simp only [Option.some.injEq, Prod.mk.injEq] at H
  obtain ⟨rfl, rfl, rfl⟩ := H
  go_enter Try.func82, Try.ntmps82
  go_wp2_with (first | ((with_reducible refine gate_callee (f := 151) rfl ?_); refine goesL_ (some 9) rfl rfl Try.func151 (by kernel_rfl) rfl #[.slice A0 l0.length c0] rfl zS ?_; (with_reducible refine (impl_Routine_151.calls _ _ l0 t251 _ ?side1 ?side2 A3.out).mono ?_); (case side1 => repeat (first | exact HR0.out | (with_reducible refine Kd.C_alloc ?_ _) | (with_reducible refine Kd.C_drewN ?_ _) | (with_reducible refine Kd.C_drew ?_))); (case side2 => exact HC0.out); rintro e w' ⟨rfl, ⟨nd, rfl⟩⟩; refine ⟨_, rfl, ?_⟩) | ((with_reducible refine gate_callee (f := 123) rfl ?_); refine goesL_ (some 11) rfl rfl Try.func123 (by kernel_rfl) rfl #[.slice A1 l1.length c1] rfl zS ?_; (with_reducible refine (impl_many_int.calls _ _ l1 t252 _ ?side1 ?side2 A4.out).mono ?_); (case side1 => repeat (first | exact HR1.out | (with_reducible refine Kd.C_alloc ?_ _) | (with_reducible refine Kd.C_drewN ?_ _) | (with_reducible refine Kd.C_drew ?_))); (case side2 => exact HC1.out); rintro e w' ⟨rfl, ⟨nd, rfl⟩⟩; refine ⟨_, rfl, ?_⟩) | ((with_reducible refine gate_callee (f := 95) rfl ?_); refine goesL_ (some 14) rfl rfl Try.func95 (by kernel_rfl) rfl #[.slice A0 l0.length c0, .slice A1 l1.length c1] rfl zS ?_; (with_reducible refine (impl_areRoutines.calls k _ _ l0 _ _ l1 t253 _ ?side1 ?side2 ?side3 ?side4 A5.out).mono ?_); (case side1 => repeat (first | exact HR0.out | (with_reducible refine Kd.C_alloc ?_ _) | (with_reducible refine Kd.C_drewN ?_ _) | (with_reducible refine Kd.C_drew ?_))); (case side2 => exact HC0.out); (case side3 => repeat (first | exact HR1.out | (with_reducible refine Kd.C_alloc ?_ _) | (with_reducible refine Kd.C_drewN ?_ _) | (with_reducible refine Kd.C_drew ?_))); (case side4 => exact HC1.out); rintro e w15 ⟨rfl, hb⟩; refine ⟨_, rfl, ?_⟩; have n0_ := zQ (below_step (zB HB.out) hb); clear HB; have HB := n0_; clear n0_; (try clear hb); (try clear hb2); (try clear hk); (try clear hi)) | ((with_reducible refine gate_callee (f := 72) rfl ?_); refine goesL_ (some 16) rfl rfl Try.func72 (by kernel_rfl) rfl #[.bool (!t253), .int .i64 1] rfl zS ?_; (with_reducible refine (impl_when.calls (!t253) 1 t254 _ A6.out).mono ?_); rintro e w' ⟨rfl, ⟨nd, rfl⟩⟩; refine ⟨_, rfl, ?_⟩) | ((with_reducible refine gate_dst (N := 17) rfl ?_); refine Kd.R_lit (Kd.int .i64) _ 3 ?hg (N := 17) ?hd (xs := ([t251, t252, t254] : List Int)) (inner := [.int .i64 t251, .int .i64 t252, .int .i64 t254]) (ok := fun _ => True) (okp := fun _ => True) ?hr ?hp (fun _ hk => hk) trivial (Below.refl _ _) (Nat.le_refl _) (by simp) ?_; (case hd => rfl); (case hg => rfl); (case hr => first | (go_simp; done) | (go_simp; rfl)); (case hp => exact (Reps.one (show Kd.M (Kd.int .i64) _ _ _ t251 [.int .i64 t251] from rfl) (Reps.one (show Kd.M (Kd.int .i64) _ _ _ t252 [.int .i64 t252] from rfl) (Reps.one (show Kd.M (Kd.int .i64) _ _ _ t254 [.int .i64 t254] from rfl) (Reps.none _ _))))); intro v256 w16 ho17 hb hg_ hnew_; clear hg_ hnew_; (first | rw [← Ny255.out] at ho17 | (simp only [Int.reduceToNat] at ho17; rw [← Ny255.out] at ho17)); have n0_ := zQ (Kd.R_lower ho17 (below_size (zB HB.out))); have n1_ := zQ (below_step (zB HB.out) hb); clear HB; have HO257 := n0_; have HB := n1_; clear n0_ n1_; clear hb ho17; obtain ⟨Ao18, co18, eo18⟩ := Kd.R_slice HO257.out; subst eo18) | ((with_reducible refine gate_callee (f := 70) rfl ?_); refine goesL_ (some 18) rfl rfl Try.func70 (by kernel_rfl) rfl #[.slice Ao18 y255.length co18] rfl zS ?_; (with_reducible refine (impl_first.calls k _ _ y255 t258 _ ?side1 ?side2 A7.out).mono ?_); (case side1 => exact zC (Kd.R_reads' HO257.out).2.2); (case side2 => exact (Kd.R_reads' HO257.out).2.1); rintro e w' ⟨rfl, ⟨nd, rfl⟩⟩; refine ⟨_, rfl, ?_⟩))
  go_ret3
  exact ⟨by first | rfl | (simp [errW_none, errW_some] <;> rfl) | (simp [*, errW_none, errW_some] <;> rfl), zB HB.out⟩

/-! ### impl_newCore: function 84 -/
def impl_newCore.f (l0 : List (S124)) (a1 : Int) : Option ((List (S184)) × List Int) := if 0 ≤ a1 then (if a1 < (l0.length : Int) then (if (((rd_T124 l0 a1).f0).length : Int) = 0 then (some (([] : List (S184)), ([] : List Int))) else (some ((([(⟨a1, 0, ([] : List Int)⟩ : S184)] : List (S184))), ([] : List Int)))) else (none)) else (none)
theorem impl_newCore.calls (A0 : Option Addr) (c0 : Nat) (l0 : List (S124)) (a1 : Int) (r1 : List (S184)) (r2 : List Int) (w : World) (hr0 : Kd.C k124 w A0 l0.length l0) (hc0 : l0.length ≤ c0) (h : impl_newCore.f l0 a1 = some (r1, r2)) :
 Calls Try.prog 84 #[.slice A0 l0.length c0, .int .i64 a1] w fun e w' => ∃ v0_ v1_ : Value, e = .returned (.agg #[v0_, v1_]) ∧ Kd.S k184 184 w' w.heap.size (fun k_ => some k_ ≠ (v1_ : Value).ownBlock) v0_ r1 ∧ Kd.R (Kd.int .i64) 3 w' w.heap.size (fun _ => True) v1_ r2 ∧ Below w.heap.size w w' := by
 have hu45 := Try.underlying45
 have hu184 := Try.underlying184
 have HR0 := zQ hr0
 have HC0 := zQ hc0
 clear hr0 hc0
 have HB := zQ (Below.refl w.heap.size w)
 have H : (if 0 ≤ a1 then (if a1 < (l0.length : Int) then (if (((rd_T124 l0 a1).f0).length : Int) = 0 then (some (([] : List (S184)), ([] : List Int))) else (some ((([(⟨a1, 0, ([] : List Int)⟩ : S184)] : List (S184))), ([] : List Int)))) else (none)) else (none)) = some (r1, r2) := h
 clear h
 by_cases c3 : 0 ≤ a1
 ·rw [if_pos c3] at H
  have c3b0 : decide (0 ≤ a1) = true := decide_eq_true c3
  clear c3
  by_cases c4 : a1 < (l0.length : Int)
  ·rw [if_pos c4] at H
   have c4b0 : decide (a1 < (l0.length : Int)) = true := decide_eq_true c4
   clear c4
   by_cases c5 : (((rd_T124 l0 a1).f0).length : Int) = 0
   ·rw [if_pos c5] at H
    have c5b0 : ((((rd_T124 l0 a1).f0).length : Int) == 0) = true := beq_iff_eq.mpr c5
    have c5b1 : ((((rd_T124 l0 a1).f0).length : Int) != 0) = false := bne_eq_false_iff_eq.mpr c5
    clear c5
    simp only [Option.some.injEq, Prod.mk.injEq] at H
    obtain ⟨rfl, rfl⟩ := H
    go_enter Try.func84, Try.ntmps84
    go_wp2_with (first | ((with_reducible refine gate_dst (N := 4) rfl ?_); refine box_event ?hg (N := 4) ?hd (cs := #[.slice none 0 0, .slice none 0 0]) (t := 45) ?hr ?_; (case hd => rfl); (case hg => rfl); (case hr => first | (go_simp; done) | (go_simp; rfl)); intro gb262 hg w6 hbox hb; have n0_ := zQ (below_step (zB HB.out) hb); have n1_ := zQ (hbox); have n2_ := zQ ((zG hg HB.out)); have n3_ := zQ ((zG hg HB.out)); clear HB; have HB := n0_; have BK262 := n1_; have GW262 := n2_; have GE262 := n3_; clear n0_ n1_ n2_ n3_; clear hb hbox hg; have p263 : 0 ≤ (a1 : Int) := zA; have q263 : a1 < (l0.length : Int) := zA; obtain ⟨ad263, A263_0, c263_0, e263, hx263_0, hl263_0, hi263_0⟩ := at_T124 HR0.out a1 p263 q263; cases e263; replace hx263_0 := zX HB.out hx263_0; have HR263_0 := zQ hi263_0; have HC263_0 := zQ hl263_0; clear hi263_0 hl263_0; replace p263 := eq_true p263; replace q263 := eq_true q263; obtain ⟨hcz7_0, hcz7_1, hfz7_0, hfz7_1⟩ := zc2 BK262.out))
    refine bodyPost_ret (results_cell_row rfl _ _ gb262 45 #[.slice none 0 0, .slice none 0 0] (0, 0) _ rfl (zP BK262.out) Try.underlying45 rfl (by kernel_rfl)) rfl ?_
    exact ⟨_, _, by first | rfl | (simp [errW_none, errW_some] <;> rfl) | (simp [*, errW_none, errW_some] <;> rfl), by first | exact Kd.S_nil _ _ _ _ _ | exact Kd.N_nil _ _ _ _ _ | exact Kd.V_nil _ _ _ _ _ | exact Kd.Q_nil _ _ _ _ _ | exact Kd.R_nil _ _ _ _ _, by first | exact Kd.R_nil _ _ _ _ _ | exact Kd.N_nil _ _ _ _ _ | exact Kd.V_nil _ _ _ _ _ | exact Kd.Q_nil _ _ _ _ _ | exact Kd.S_nil _ _ _ _ _, zB HB.out⟩
   ·rw [if_neg c5] at H
    have c5b0 : ((((rd_T124 l0 a1).f0).length : Int) == 0) = false := beq_eq_false_iff_ne.mpr c5
    have c5b1 : ((((rd_T124 l0 a1).f0).length : Int) != 0) = true := bne_iff_ne.mpr c5
    have c5b2 : ¬ (((rd_T124 l0 a1).f0) = []) := fun h_ => c5 (by rw [h_]; rfl)
    obtain ⟨y264, hy264⟩ : ∃ y_ : List (S184), y_ = (([(⟨a1, 0, ([] : List Int)⟩ : S184)] : List (S184))) := ⟨_, rfl⟩
    replace H : (some (y264, ([] : List Int))) = some (r1, r2) := by first | (rw [hy264]; with_reducible exact H) | (have H2_ := (Option.bind_some _ _).symm.trans H; rw [hy264]; with_reducible exact H2_) | (have H2_ := (Option.bind_some _ _).symm.trans H; with_reducible exact H2_) | with_reducible exact H | (rw [hy264]; exact H) | exact H
    have Ny264 := zQ hy264
    clear hy264
    simp only [Option.some.injEq, Prod.mk.injEq] at H
    obtain ⟨rfl, rfl⟩ := H
    go_enter Try.func84, Try.ntmps84
    go_wp2_with (first | ((with_reducible refine gate_dst (N := 4) rfl ?_); refine box_event ?hg (N := 4) ?hd (cs := #[.slice none 0 0, .slice none 0 0]) (t := 45) ?hr ?_; (case hd => rfl); (case hg => rfl); (case hr => first | (go_simp; done) | (go_simp; rfl)); intro gb262 hg w8 hbox hb; have n0_ := zQ (below_step (zB HB.out) hb); have n1_ := zQ (hbox); have n2_ := zQ ((zG hg HB.out)); have n3_ := zQ ((zG hg HB.out)); clear HB; have HB := n0_; have BK262 := n1_; have GW262 := n2_; have GE262 := n3_; clear n0_ n1_ n2_ n3_; clear hb hbox hg; have p263 : 0 ≤ (a1 : Int) := zA; have q263 : a1 < (l0.length : Int) := zA; obtain ⟨ad263, A263_0, c263_0, e263, hx263_0, hl263_0, hi263_0⟩ := at_T124 HR0.out a1 p263 q263; cases e263; replace hx263_0 := zX HB.out hx263_0; have HR263_0 := zQ hi263_0; have HC263_0 := zQ hl263_0; clear hi263_0 hl263_0; replace p263 := eq_true p263; replace q263 := eq_true q263) | ((with_reducible refine gate_dst (N := 15) rfl ?_); refine Kd.S_lit k184 _ 184 ?hg (N := 15) ?hd (xs := ([(⟨a1, 0, ([] : List Int)⟩ : S184)] : List (S184))) (inner := [.int .i64 a1, .int .i64 0, .slice none 0 0]) (ok := fun _ => True) (okp := fun _ => True) ?hr ?hp (fun _ hk => hk) trivial (Below.refl _ _) (Nat.le_refl _) (by simp) ?_; (case hd => rfl); (case hg => rfl); (case hr => first | (go_simp; done) | (go_simp; rfl)); (case hp => exact (Reps.c3 (show Kd.M k184 _ _ _ (⟨a1, 0, ([] : List Int)⟩ : S184) [.int .i64 a1, .int .i64 0, .slice none 0 0] from (k184_mkM _ _ _ (⟨a1, 0, ([] : List Int)⟩ : S184) (Kd.R_nil _ _ _ _ _))) (Reps.none _ _))); intro v265 w9 ho10 hb hg_ hnew_; clear hg_ hnew_; (first | rw [← Ny264.out] at ho10 | (simp only [Int.reduceToNat] at ho10; rw [← Ny264.out] at ho10)); have n0_ := zQ (Kd.S_lower ho10 (below_size (zB HB.out))); have n1_ := zQ (zL BK262.out hb); have n2_ := zQ (below_step (zB HB.out) hb); clear BK262; clear HB; have HO266 := n0_; have BK262 := n1_; have HB := n2_; clear n0_ n1_ n2_; clear hb ho10; obtain ⟨Ao11, co11, eo11⟩ := Kd.S_slice HO266.out; subst eo11; obtain ⟨hcz12_0, hcz12_1, hfz12_0, hfz12_1⟩ := zc2 BK262.out))
    refine bodyPost_ret (results_cell_row rfl _ _ gb262 45 #[.slice Ao11 y264.length co11, .slice none 0 0] (0, 0) _ rfl (zP BK262.out) Try.underlying45 rfl (by kernel_rfl)) rfl ?_
    exact ⟨_, _, by first | rfl | (simp [errW_none, errW_some] <;> rfl) | (simp [*, errW_none, errW_some] <;> rfl), by (with_reducible repeat (first | apply Kd.S_alloc | apply Kd.S_drewN | apply Kd.S_drew)); exact Kd.S_mono (Kd.S_far (p := ⟨gb262, 1, none⟩) (Kd.S_far (p := ⟨gb262, 0, none⟩) (Kd.S_types HO266.out BK262.out (by decide)) (fun _ hk => hk.2) (.slice Ao11 y264.length co11)) (fun _ hk => hk.2) (.slice none 0 0)) (fun _ hk => (by simp [Value.ownBlock])), by first | exact Kd.R_nil _ _ _ _ _ | exact Kd.N_nil _ _ _ _ _ | exact Kd.V_nil _ _ _ _ _ | exact Kd.Q_nil _ _ _ _ _ | exact Kd.S_nil _ _ _ _ _, zB HB.out⟩
  ·rw [if_neg c4] at H
   exact absurd H (by simp)
 ·rw [if_neg c3] at H
  exact absurd H (by simp)

end Go.Proofs.Ytkegjmkdnfpfdaa.MFnExactNewCore
