-- By a program of this session.
import Derived.Test.YtkegjmkdnfpfdaaMFnExactNewCorex0
import Derived.Test.YtkegjmkdnfpfdaaMFnExactNewCorex17
import Derived.Test.YtkegjmkdnfpfdaaMFnExactNewCorex19
namespace Go.Proofs.Ytkegjmkdnfpfdaa.MFnExactNewCore
open Go.RowKit Go.Proofs.YtkegjmkdnfpfdaaW.PrintWords Go.Proofs.YtkegjmkdnfpfdaaW.PrintLast Go.Proofs.YtkegjmkdnfpfdaaW.PrintMore
attribute [local go_sem] max2_int min2_int max_two min_two max_three min_three max_four min_four
set_option linter.unusedVariables false
set_option linter.unusedSimpArgs false
set_option maxHeartbeats 8000000
set_option maxRecDepth 100000

/-! ### impl_all_Routine_areRoutines_1: function 156 at impl_areRoutines_1, by its own walk -/
theorem impl_all_Routine_areRoutines_1.one (k : Nat) (x : S124) (r : Bool) (g : Nat) (W : World) (hg : W.cell? ⟨g, 0, none⟩ = some (.func (.func 157) #[] #[])) (As0 : Option Addr) (cs0 : Nat) (hrs0 : Kd.C k96 W As0 (x).f0.length (x).f0) (hcs0 : (x).f0.length ≤ cs0) (h : impl_areRoutines_1.f k (x).f0 = some r) :
 Calls Try.prog 216 #[.agg #[.slice As0 (x).f0.length cs0], .pointer (some ⟨g, 0, none⟩)] W fun e w' => e = .returned (.bool (!r)) ∧ Below W.heap.size W w' := by
 have HB := zQ (Below.refl W.heap.size W)
 have A2 := zQ h
 clear h
 have HRS0 := zQ hrs0
 have HCS0 := zQ hcs0
 clear hrs0 hcs0
 have hgl := World.block_lt_of_cell? W _ hg
 have hg2 : ∀ o, (W.alloc o).cell? ⟨g, 0, none⟩ = some (.func (.func 157) #[] #[]) := fun o => (World.cell?_alloc_lt W o ⟨g, 0, none⟩ hgl).trans hg
 clear hgl
 go_enter Try.func216, Try.ntmps216
 go_wp2_with (first | (go_at_call 157; (with_reducible refine (impl_areRoutines_1.calls k _ _ (x).f0 r _ (Kd.C_below HRS0.out (zB HB.out)) HCS0.out A2.out).mono ?_); rintro e w4 ⟨rfl, hb⟩; have n0_ := zQ (below_step (zB HB.out) hb); clear HB; have HB := n0_; clear n0_; (try clear hb)))
 go_ret
 exact ⟨by first | rfl | (simp; done), zB HB.out⟩

def impl_all_Routine_areRoutines_1.l0 : Nat → List S124 → Int → Option Int
 | 0, _, _ => none
 | k + 1, l0, i => if i < (l0.length : Int) then (if 0 ≤ i then ((impl_areRoutines_1.f k ((rd_T124 l0 i)).f0).bind fun t => (if t = true then (impl_all_Routine_areRoutines_1.l0 k l0 (wrap64 (i + 1))) else (some i))) else none) else some (-1)
theorem impl_all_Routine_areRoutines_1.mono_l : ∀ k, (∀ y0 y1, LeO (impl_all_Routine_areRoutines_1.l0 k y0 y1) (impl_all_Routine_areRoutines_1.l0 (k + 1) y0 y1))
 | 0 => fun _ _ r h => by simp [impl_all_Routine_areRoutines_1.l0] at h
 | k + 1 => by
  have ih0 := impl_all_Routine_areRoutines_1.mono_l k
  ·intro y0 y1
   unfold impl_all_Routine_areRoutines_1.l0
   repeat' first
   | (with_reducible exact ih0 _ _)
   | (with_reducible exact impl_areRoutines_1.mono _ _)
   | (with_reducible exact LeO.refl _)
   | (with_reducible exact LeO.none _)
   | (with_reducible refine LeO.ite ?_ ?_)
   | (with_reducible refine LeO.bind ?_ (fun _ => ?_))
theorem impl_all_Routine_areRoutines_1.find (k : Nat) (A0 : Option Addr) (c0 : Nat) (l0 : List S124) (r : Int) (g : Nat) (w : World) (hg : w.cell? ⟨g, 0, none⟩ = some (.func (.func 157) #[] #[])) (hr0 : Kd.C k124 w A0 l0.length l0) (hc0 : l0.length ≤ c0) (h : impl_all_Routine_areRoutines_1.l0 k l0 0 = some r) :
 Calls Try.prog 255 #[.slice A0 l0.length c0, .func (.func 216) #[] #[.pointer (some ⟨g, 0, none⟩)]] w fun e w' => e = .returned (.int .i64 r) ∧ Below w.heap.size w w' := by
 have HR0 := zQ hr0
 have HC0 := zQ hc0
 have HG := zQ hg
 clear hr0 hc0 hg
 have HB := zQ (Below.refl w.heap.size w)
 have H' := zQ h
 clear h
 have hu124 := Try.underlying124
 go_enter Try.func255, Try.ntmps255
 go_wp2
 go_loopg [8] k (fun kq v8 w' => ∃ (i : Int), v8 = .int .i64 i ∧ Aside0 (impl_all_Routine_areRoutines_1.l0 kq l0 i = some r) ∧ Aside0 (kq ≤ k) ∧ Aside0 (Below w.heap.size w w'))
 case atStart => exact ⟨0, (by first | rfl | (simp; done)), H', ⟨Nat.le_refl _⟩, ⟨zB HB.out⟩⟩
 case round =>
  clear H'
  obtain ⟨i, rfl, HA, HK1, HB⟩ := hrel
  cases gk with
  | zero => exact absurd HA.out (by simp [impl_all_Routine_areRoutines_1.l0])
  | succ k1 =>
   have H := HA.out
   clear HA
   simp only [impl_all_Routine_areRoutines_1.l0] at H
   by_cases c2 : i < (l0.length : Int)
   ·rw [if_pos c2] at H
    by_cases c3 : 0 ≤ i
    ·rw [if_pos c3] at H
     replace H := Option.bind_eq_some_iff.mp H
     obtain ⟨t, A40, H⟩ := H
     have A4 := zQ A40
     clear A40
     obtain ⟨ad, As0, cs0, e0_, hx0, lcs0, gcs0⟩ := at_T124 HR0.out i c3 c2
     cases e0_
     replace hx0 := zX HB.out hx0
     have HRS0 := zQ (Kd.C_below gcs0 HB.out)
     have HCS0 := zQ lcs0
     clear gcs0 lcs0
     have hgw := (HB.out.cell (World.block_lt_of_cell? w _ HG.out)).trans HG.out
     have HGW := zQ hgw
     clear hgw
     have c2b0 : decide (i < (l0.length : Int)) = true := decide_eq_true c2
     have c3b0 : decide (0 ≤ i) = true := decide_eq_true c3
     replace c2 := eq_true c2
     replace c3 := eq_true c3
     cases t with
     | true =>
      rw [if_pos rfl] at H
      have H' := zQ H
      clear H
      go_wp2_with (first | (go_at_call 216; (with_reducible refine (impl_all_Routine_areRoutines_1.one k1 (rd_T124 l0 i) true g _ HGW.out _ _ HRS0.out HCS0.out A4.out).mono ?_); rintro e w6 ⟨rfl, hb⟩; have n0_ := zQ (below_step (zB HB.out) hb); clear HB; have HB := n0_; clear n0_; (try clear hb)))
      go_roundg k1
      case measure => have := HK1.out; omega
      case rel => exact ⟨(wrap64 (i + 1)), (by first | rfl | (simp; done) | (simp [*]; done)), H', ⟨by have := HK1.out; omega⟩, ⟨zB HB.out⟩⟩
     | false =>
      rw [if_neg (show ¬ (false = true) by decide)] at H
      obtain rfl := Option.some.inj H
      clear H
      go_wp2_with (first | (go_at_call 216; (with_reducible refine (impl_all_Routine_areRoutines_1.one k1 (rd_T124 l0 i) false g _ HGW.out _ _ HRS0.out HCS0.out A4.out).mono ?_); rintro e w6 ⟨rfl, hb⟩; have n0_ := zQ (below_step (zB HB.out) hb); clear HB; have HB := n0_; clear n0_; (try clear hb)))
      go_ret
      exact ⟨by first | rfl | (simp; done), zB HB.out⟩
    ·rw [if_neg c3] at H
     exact absurd H (by simp)
   ·rw [if_neg c2] at H
    obtain rfl := Option.some.inj H
    have c2b0 : decide (i < (l0.length : Int)) = false := decide_eq_false c2
    clear c2 H
    go_wp2
    go_ret
    exact ⟨by first | rfl | (simp; done), zB HB.out⟩

def impl_all_Routine_areRoutines_1.f (k : Nat) (l0 : List S124) : Option Bool := (impl_all_Routine_areRoutines_1.l0 k l0 0).bind fun j => some (!(decide (0 ≤ j)))
theorem impl_all_Routine_areRoutines_1.mono : ∀ a0 k, LeO (impl_all_Routine_areRoutines_1.f k a0) (impl_all_Routine_areRoutines_1.f (k + 1) a0) := by
 intro a0 k
 unfold impl_all_Routine_areRoutines_1.f
 exact LeO.bind (impl_all_Routine_areRoutines_1.mono_l k _ _) (fun _ => LeO.refl _)
theorem impl_all_Routine_areRoutines_1.calls (k : Nat) (A0 : Option Addr) (c0 : Nat) (l0 : List S124) (r : Bool) (w : World) (hr0 : Kd.C k124 w A0 l0.length l0) (hc0 : l0.length ≤ c0) (h : impl_all_Routine_areRoutines_1.f k l0 = some r) :
 Calls Try.prog 156 #[.slice A0 l0.length c0, .func (.func 157) #[] #[]] w fun e w' => e = .returned (.bool r) ∧ Below w.heap.size w w' := by
 obtain ⟨j, A20, H⟩ := Option.bind_eq_some_iff.mp h
 have A2 := zQ A20
 clear A20 h
 obtain rfl := Option.some.inj H
 clear H
 have HR0 := zQ hr0
 have HC0 := zQ hc0
 clear hr0 hc0
 have HB := zQ (Below.refl w.heap.size w)
 have hmf : ∀ (fn : Fn) (first cap : Array Value) (w : World), (Instr.makeFunc fn first cap).run Try.prog w = .ok (.func fn first cap) w := fun _ _ _ _ => rfl
 go_enter Try.func156, Try.ntmps156
 go_wp2_with (first | ((with_reducible refine gate_callee (f := 255) rfl ?_); refine goesL_ (some 7) rfl rfl Try.func255 (by kernel_rfl) rfl #[.slice A0 l0.length c0, .func (.func 216) #[] #[.pointer (some ⟨w.heap.size, 0, none⟩)]] rfl (by (try simp only [List.map_toArray, List.map_cons, List.map_nil]); first | done | rfl) ?_; (with_reducible refine (impl_all_Routine_areRoutines_1.find k _ _ l0 j w.heap.size _ ?hgc ?side1 ?side2 A2.out).mono ?_); (case hgc => (first | exact World.cell?_alloc_at _ _ _ _ rfl | simp)); (case side1 => repeat (first | exact HR0.out | (with_reducible refine Kd.C_alloc ?_ _) | (with_reducible refine Kd.C_drewN ?_ _) | (with_reducible refine Kd.C_drew ?_))); (case side2 => exact HC0.out); rintro e w6 ⟨rfl, hb⟩; refine ⟨_, rfl, ?_⟩; have n0_ := zQ (below_step (zB HB.out) hb); clear HB; have HB := n0_; clear n0_; (try clear hb)) | (go_at_call 215; go_in))
 go_ret
 exact ⟨by first | rfl | (simp; done), zB HB.out⟩

/-! ### impl_areRoutines: function 95 -/
def impl_areRoutines.f (k : Nat) (l0 : List (S124)) (l1 : List Int) : Option (Bool) := (impl_areKinds.f k l1).bind fun t240 => (if t240 = true then (if (l0.length : Int) ≤ 6 then ((impl_all_Routine_areRoutines_1.f k l0).bind fun t241 => (some t241)) else (some false)) else (some false))
theorem impl_areRoutines.mono : ∀ a0 a1 k, LeO (impl_areRoutines.f k a0 a1) (impl_areRoutines.f (k + 1) a0 a1) := by
 intro a0 a1 k
 unfold impl_areRoutines.f
 repeat' first
  | (with_reducible exact impl_all_Routine_areRoutines_1.mono _ _)
  | (with_reducible exact impl_areKinds.mono _ _)
  | (with_reducible exact LeO.refl _)
  | (with_reducible exact LeO.none _)
  | (with_reducible refine LeO.ite ?_ ?_)
  | (with_reducible refine LeO.bind ?_ (fun _ => ?_))
theorem impl_areRoutines.calls (k : Nat) (A0 : Option Addr) (c0 : Nat) (l0 : List (S124)) (A1 : Option Addr) (c1 : Nat) (l1 : List Int) (r : Bool) (w : World) (hr0 : Kd.C k124 w A0 l0.length l0) (hc0 : l0.length ≤ c0) (hr1 : Kd.C (Kd.int .i64) w A1 l1.length l1) (hc1 : l1.length ≤ c1) (h : impl_areRoutines.f k l0 l1 = some r) :
 Calls Try.prog 95 #[.slice A0 l0.length c0, .slice A1 l1.length c1] w fun e w' => e = .returned (.bool r) ∧ Below w.heap.size w w' := by
 have HR0 := zQ hr0
 have HC0 := zQ hc0
 clear hr0 hc0
 have HR1 := zQ hr1
 have HC1 := zQ hc1
 clear hr1 hc1
 have HB := zQ (Below.refl w.heap.size w)
 have H : ((impl_areKinds.f k l1).bind fun t240 => (if t240 = true then (if (l0.length : Int) ≤ 6 then ((impl_all_Routine_areRoutines_1.f k l0).bind fun t241 => (some t241)) else (some false)) else (some false))) = some r := h
 clear h
 replace H := Option.bind_eq_some_iff.mp H
 obtain ⟨t240, A30, H⟩ := H
 replace H : (if t240 = true then (if (l0.length : Int) ≤ 6 then ((impl_all_Routine_areRoutines_1.f k l0).bind fun t241 => (some t241)) else (some false)) else (some false)) = some r := H
 have A3 := zQ A30
 clear A30
 by_cases c4 : t240 = true
 ·subst c4
  have H1 : (if (l0.length : Int) ≤ 6 then ((impl_all_Routine_areRoutines_1.f k l0).bind fun t241 => (some t241)) else (some false)) = some r := by rw [if_pos rfl] at H; exact H
  clear H
  have H := H1
  clear H1
  by_cases c5 : (l0.length : Int) ≤ 6
  ·rw [if_pos c5] at H
   have c5b0 : decide ((l0.length : Int) ≤ 6) = true := decide_eq_true c5
   have c5b1 : decide (l0.length ≤ 6) = true := decide_eq_true (by omega)
   clear c5
   replace H := Option.bind_eq_some_iff.mp H
   obtain ⟨t241, A60, H⟩ := H
   replace H : (some t241) = some r := H
   have A6 := zQ A60
   clear A60
   obtain rfl := Option.some.inj H
   go_enter Try.func95, Try.ntmps95
   go_wp2_with (first | ((with_reducible refine gate_callee (f := 155) rfl ?_); refine goesL_ (some 6) rfl rfl Try.func155 (by kernel_rfl) rfl #[.slice A1 l1.length c1] rfl zS ?_; (with_reducible refine (impl_areKinds.calls k _ _ l1 true _ ?side1 ?side2 A3.out).mono ?_); (case side1 => repeat (first | exact HR1.out | (with_reducible refine Kd.C_alloc ?_ _) | (with_reducible refine Kd.C_drewN ?_ _) | (with_reducible refine Kd.C_drew ?_))); (case side2 => exact HC1.out); rintro e w7 ⟨rfl, hb⟩; refine ⟨_, rfl, ?_⟩; have n0_ := zQ (below_step (zB HB.out) hb); clear HB; have HB := n0_; clear n0_; (try clear hb); (try clear hb2); (try clear hk); (try clear hi)) | (go_at_call 156; (with_reducible refine (impl_all_Routine_areRoutines_1.calls k _ _ l0  t241 _ ?side1 ?side2 A6.out).mono ?_); (case side1 => exact zE HR0 HB); (case side2 => exact HC0.out); rintro e w8 ⟨rfl, hb⟩; have n0_ := zQ (below_step (zB HB.out) hb); clear HB; have HB := n0_; clear n0_; (try clear hb); (try clear hb2); (try clear hk); (try clear hi)))
   go_ret
   exact ⟨by first | rfl | (simp [errW_none, errW_some] <;> rfl) | (simp [*, errW_none, errW_some] <;> rfl), zB HB.out⟩
  ·rw [if_neg c5] at H
   have c5b0 : decide ((l0.length : Int) ≤ 6) = false := decide_eq_false c5
   have c5b1 : decide (l0.length ≤ 6) = false := decide_eq_false (by omega)
   clear c5
   obtain rfl := Option.some.inj H
   go_enter Try.func95, Try.ntmps95
   go_wp2_with (first | ((with_reducible refine gate_callee (f := 155) rfl ?_); refine goesL_ (some 6) rfl rfl Try.func155 (by kernel_rfl) rfl #[.slice A1 l1.length c1] rfl zS ?_; (with_reducible refine (impl_areKinds.calls k _ _ l1 true _ ?side1 ?side2 A3.out).mono ?_); (case side1 => repeat (first | exact HR1.out | (with_reducible refine Kd.C_alloc ?_ _) | (with_reducible refine Kd.C_drewN ?_ _) | (with_reducible refine Kd.C_drew ?_))); (case side2 => exact HC1.out); rintro e w9 ⟨rfl, hb⟩; refine ⟨_, rfl, ?_⟩; have n0_ := zQ (below_step (zB HB.out) hb); clear HB; have HB := n0_; clear n0_; (try clear hb); (try clear hb2); (try clear hk); (try clear hi)))
   go_ret
   exact ⟨by first | rfl | (simp [errW_none, errW_some] <;> rfl) | (simp [*, errW_none, errW_some] <;> rfl), zB HB.out⟩
 ·replace c4 := Bool.eq_false_iff.mpr c4
  subst c4
  have H1 : (some false) = some r := by rw [if_neg (show ¬ (false = true) by decide)] at H; exact H
  clear H
  have H := H1
  clear H1
  obtain rfl := Option.some.inj H
  go_enter Try.func95, Try.ntmps95
  go_wp2_with (first | ((with_reducible refine gate_callee (f := 155) rfl ?_); refine goesL_ (some 6) rfl rfl Try.func155 (by kernel_rfl) rfl #[.slice A1 l1.length c1] rfl zS ?_; (with_reducible refine (impl_areKinds.calls k _ _ l1 false _ ?side1 ?side2 A3.out).mono ?_); (case side1 => repeat (first | exact HR1.out | (with_reducible refine Kd.C_alloc ?_ _) | (with_reducible refine Kd.C_drewN ?_ _) | (with_reducible refine Kd.C_drew ?_))); (case side2 => exact HC1.out); rintro e w10 ⟨rfl, hb⟩; refine ⟨_, rfl, ?_⟩; have n0_ := zQ (below_step (zB HB.out) hb); clear HB; have HB := n0_; clear n0_; (try clear hb); (try clear hb2); (try clear hk); (try clear hi)))
  go_ret
  exact ⟨by first | rfl | (simp [errW_none, errW_some] <;> rfl) | (simp [*, errW_none, errW_some] <;> rfl), zB HB.out⟩

-- NOT PRINTED: function 239 (impl_takes)

-- NOT PRINTED: function 199 (impl_verifier_effect)

-- NOT PRINTED: function 242 (impl_verifier_base)

-- NOT PRINTED: function 243 (impl_verifier_nest)

-- NOT PRINTED: function 210 (impl_verifier_step)

end Go.Proofs.Ytkegjmkdnfpfdaa.MFnExactNewCore
