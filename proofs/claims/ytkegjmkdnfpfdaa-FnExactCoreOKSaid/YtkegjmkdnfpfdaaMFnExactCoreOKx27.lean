-- Text written by a program of this session (wip/tools: the kit's printer with additions of ours).
import Derived.Test.YtkegjmkdnfpfdaaMFnExactCoreOKx0
import Derived.Test.YtkegjmkdnfpfdaaMFnExactCoreOKx26
namespace Go.Proofs.Ytkegjmkdnfpfdaa.MFnExactCoreOK
open Go.RowKit Go.Proofs.YtkegjmkdnfpfdaaW.PrintWords Go.Proofs.YtkegjmkdnfpfdaaW.PrintLast Go.Proofs.YtkegjmkdnfpfdaaW.PrintMore
attribute [local go_sem] max2_int min2_int max_two min_two max_three min_three max_four min_four
set_option linter.unusedVariables false
set_option linter.unusedSimpArgs false

/-! ### spec_l07Types: function 174 -/
def spec_l07Types.l0 : Nat → List (S124) → List Int → ByteArray → Int → List (S184) → List Int → Option (ByteArray)
 | 0, _, _, _, _, _, _ => none
 | k + 1, x0, x1, x7, x8, x214000, x214001 => if x8 < (x214000.length : Int) then (if 0 ≤ x8 then (if 0 ≤ ((rd_T184 x214000 x8).f0) then (if ((rd_T184 x214000 x8).f0) < (x0.length : Int) then ((spec_StackAt.f k ((rd_T124 x0 ((rd_T184 x214000 x8).f0)).f0) x1 ((rd_T184 x214000 x8).f0) ((rd_T184 x214000 x8).f1)).bind fun bt217 => (if x7.size + bt217.1.size ≤ 9223372036854775807 then (spec_l07Types.l0 k x0 x1 (x7 ++ bt217.1) (wrap64 (x8 + 1)) x214000 x214001) else (none))) else (none)) else (none)) else (none)) else (some x7)
def spec_l07Types.f (k : Nat) (l0 : List (S124)) (l1 : List Int) (l2_0 : List (S184)) (l2_1 : List Int) : Option (ByteArray) := spec_l07Types.l0 k l0 l1 (⟨#[]⟩ : ByteArray) 0 l2_0 l2_1
theorem spec_l07Types.mono_l : ∀ k, (∀ y0 y1 y2 y3 y4 y5, LeO (spec_l07Types.l0 k y0 y1 y2 y3 y4 y5) (spec_l07Types.l0 (k + 1) y0 y1 y2 y3 y4 y5))
 | 0 => fun _ _ _ _ _ _ r h => by simp [spec_l07Types.l0] at h
 | k + 1 => by
  have ih0 := spec_l07Types.mono_l k
  ·intro y0 y1 y2 y3 y4 y5
   unfold spec_l07Types.l0
   repeat' first
   | (with_reducible exact ih0 _ _ _ _ _ _)
   | (with_reducible exact spec_StackAt.mono _ _ _ _ _)
   | (with_reducible exact LeO.refl _)
   | (with_reducible exact LeO.none _)
   | (with_reducible refine LeO.ite ?_ ?_)
   | (with_reducible refine LeO.bind ?_ (fun _ => ?_))
   | exact ih0 _ _ _ _ _ _
   | exact spec_StackAt.mono _ _ _ _ _
   | exact LeO.none _
   | refine LeO.ite ?_ ?_
   | refine LeO.bind ?_ (fun _ => ?_)
theorem spec_l07Types.mono : ∀ a0 a1 a2 a3 k, LeO (spec_l07Types.f k a0 a1 a2 a3) (spec_l07Types.f (k + 1) a0 a1 a2 a3) := by
 intro a0 a1 a2 a3 k
 have ih0 := spec_l07Types.mono_l k
 unfold spec_l07Types.f
 repeat' first
  | (with_reducible exact ih0 _ _ _ _ _ _)
  | (with_reducible exact spec_StackAt.mono _ _ _ _ _)
  | (with_reducible exact LeO.refl _)
  | (with_reducible exact LeO.none _)
  | (with_reducible refine LeO.ite ?_ ?_)
  | (with_reducible refine LeO.bind ?_ (fun _ => ?_))
  | exact ih0 _ _ _ _ _ _
  | exact spec_StackAt.mono _ _ _ _ _
  | exact LeO.none _
  | refine LeO.ite ?_ ?_
  | refine LeO.bind ?_ (fun _ => ?_)
def spec_l07Types.T6 : Bool × List (List Nat × List Nat) := (true, [([], []), ([], []), ([1], [1]), ([0, 2], [0, 2]), ([3], [3]), ([4], [4]), ([], []), ([], []), ([7], [7]), ([], []), ([9], [9]), ([5, 6, 8, 10], [5, 6, 8, 10]), ([11], [11]), ([12], [12]), ([12], [12]), ([13, 11, 0, 1, 2, 3, 4, 5, 6, 7, 8, 9, 10, 11, 12, 13], [13]), ([14, 15, 0, 1, 2, 3, 4, 5, 6, 7, 8, 9, 10, 11, 12, 13, 14, 15], [14])])
def spec_l07Types.B6 : List Nat := [0, 0, 2, 7, 15, 31, 0, 0, 128, 0, 512, 2047, 4095, 8191, 8191, 16383, 65535]
theorem spec_l07Types.tab6 : rtab .any (opsOf Try.f174 6) = spec_l07Types.T6 := by kernel_rfl
theorem spec_l07Types.bits6 : waitsOk spec_l07Types.T6.2 spec_l07Types.B6 = true := by kernel_rfl
set_option maxHeartbeats 8000000 in
set_option maxRecDepth 100000 in
theorem spec_l07Types.calls (k : Nat) (A0 : Option Addr) (c0 : Nat) (l0 : List (S124)) (A1 : Option Addr) (c1 : Nat) (l1 : List Int) (A2_0 : Option Addr) (c2_0 : Nat) (l2_0 : List (S184)) (A2_1 : Option Addr) (c2_1 : Nat) (l2_1 : List Int) (r : ByteArray) (w : World) (hr0 : Kd.C k124 w A0 l0.length l0) (hc0 : l0.length ≤ c0) (hr1 : Kd.C (Kd.int .i64) w A1 l1.length l1) (hc1 : l1.length ≤ c1) (hr2_0 : Kd.C k184 w A2_0 l2_0.length l2_0) (hc2_0 : l2_0.length ≤ c2_0) (hr2_1 : Kd.C (Kd.int .i64) w A2_1 l2_1.length l2_1) (hc2_1 : l2_1.length ≤ c2_1) (h : spec_l07Types.f k l0 l1 l2_0 l2_1 = some r) :
 Calls Try.prog 174 #[.slice A0 l0.length c0, .slice A1 l1.length c1, .agg #[.slice A2_0 l2_0.length c2_0, .slice A2_1 l2_1.length c2_1]] w fun e w' => e = .returned (.string r) ∧ Below w.heap.size w w' := by
 have hu45 := Try.underlying45
 have hu184 := Try.underlying184
 have HR0 := zQ hr0
 have HC0 := zQ hc0
 clear hr0 hc0
 have HR1 := zQ hr1
 have HC1 := zQ hc1
 clear hr1 hc1
 have HR2_0 := zQ hr2_0
 have HC2_0 := zQ hc2_0
 clear hr2_0 hc2_0
 have HR2_1 := zQ hr2_1
 have HC2_1 := zQ hc2_1
 clear hr2_1 hc2_1
 have HB := zQ (Below.refl w.heap.size w)
 have H : (spec_l07Types.l0 k l0 l1 (⟨#[]⟩ : ByteArray) 0 l2_0 l2_1) = some r := h
 clear h
 have H' := zQ H
 clear H
 go_enter Try.func174, Try.ntmps174
 go_wp2_with (first | ((with_reducible refine gate_dst (N := 5) rfl ?_); refine box_event ?hg (N := 5) ?hd (cs := #[.slice A2_0 l2_0.length c2_0, .slice A2_1 l2_1.length c2_1]) (t := 45) ?hr ?_; (case hd => rfl); (case hg => rfl); (case hr => first | (go_simp; done) | (go_simp; rfl)); intro gb213 hg w4 hbox hb; have n0_ := zQ (below_step (zB HB.out) hb); have n1_ := zQ (hbox); have n2_ := zQ ((zG hg HB.out)); have n3_ := zQ ((zG hg HB.out)); clear HB; have HB := n0_; have BK213 := n1_; have GW213 := n2_; have GE213 := n3_; clear n0_ n1_ n2_ n3_; clear hb hbox hg))
 go_loopg [7, 8] k (fun kq v7 v8 w' => ∃ (x7_1 : ByteArray) (x8_1 : Int), v7 = .string x7_1 ∧ v8 = .int .i64 x8_1 ∧ Aside0 (spec_l07Types.l0 kq l0 l1 x7_1 x8_1 l2_0 l2_1 = some r) ∧ Aside0 (kq ≤ k) ∧ Aside0 (w'.heap[gb213]? = some (.cells #[(.slice A2_0 l2_0.length c2_0), (.slice A2_1 l2_1.length c2_1)] 45 (0, 0))) ∧ Aside0 (Below w.heap.size w w'))
 case atStart => exact ⟨((⟨#[]⟩ : ByteArray)), (0), (by first | rfl | (simp; done) | (simp [*]; done)), (by first | rfl | (simp; done) | (simp [*]; done)), H', ⟨Nat.le_refl _⟩, ⟨by (with_reducible repeat (first | refine blk_drewN ?_ _ | refine blk_drew ?_ | refine blk_alloc ?_ _)); exact BK213.out⟩, ⟨zB HB.out⟩⟩
 case round =>
  clear H'
  try clear c1
  try clear c2
  try clear p2
  obtain ⟨x7_1, x8_1, rfl, rfl, HA, HK1, BK213, HB⟩ := hrel
  cases gk with
  | zero => exact absurd HA.out (by simp [spec_l07Types.l0])
  | succ k1 =>
   have H := HA.out
   clear HA
   simp only [spec_l07Types.l0] at H
   by_cases c5 : x8_1 < (l2_0.length : Int)
   ·rw [if_pos c5] at H
    have c5b0 : decide (x8_1 < (l2_0.length : Int)) = true := decide_eq_true c5
    clear c5
    by_cases c6 : 0 ≤ x8_1
    ·rw [if_pos c6] at H
     have c6b0 : decide (0 ≤ x8_1) = true := decide_eq_true c6
     clear c6
     by_cases c7 : 0 ≤ ((rd_T184 l2_0 x8_1).f0)
     ·rw [if_pos c7] at H
      have c7b0 : decide (0 ≤ ((rd_T184 l2_0 x8_1).f0)) = true := decide_eq_true c7
      clear c7
      by_cases c8 : ((rd_T184 l2_0 x8_1).f0) < (l0.length : Int)
      ·rw [if_pos c8] at H
       have c8b0 : decide (((rd_T184 l2_0 x8_1).f0) < (l0.length : Int)) = true := decide_eq_true c8
       clear c8
       replace H := Option.bind_eq_some_iff.mp H
       obtain ⟨⟨t217, t218⟩, A90, H⟩ := H
       replace H : (if x7_1.size + t217.size ≤ 9223372036854775807 then (spec_l07Types.l0 k1 l0 l1 (x7_1 ++ t217) (wrap64 (x8_1 + 1)) l2_0 l2_1) else (none)) = some r := H
       have A9 := zQ A90
       clear A90
       by_cases c10 : x7_1.size + t217.size ≤ 9223372036854775807
       ·rw [if_pos c10] at H
        have c10b0 := eq_true c10
        have c10b1 : decide (x7_1.size + t217.size ≤ 9223372036854775807) = true := decide_eq_true c10
        try have c10b2 : (9223372036854775807 < x7_1.size + t217.size) = False := eq_false (Nat.not_lt.2 c10)
        have H' := zQ H
        clear H
        have hcz11_0 : wr.cell? ⟨gb213, 0, none⟩ = some (.slice A2_0 l2_0.length c2_0) := (blk_cell BK213.out 0).trans rfl
        have hcz11_1 : wr.cell? ⟨gb213, 1, none⟩ = some (.slice A2_1 l2_1.length c2_1) := (blk_cell BK213.out 1).trans rfl
        have hfz11_0 := blk_frozen BK213.out 0
        have hfz11_1 := blk_frozen BK213.out 1
        have p214 : 0 ≤ (x8_1 : Int) := zA
        have q214 : x8_1 < (l2_0.length : Int) := zA
        obtain ⟨ad214, A214_2, c214_2, e214, hx214_0, hx214_1, hx214_2, hl214_2, hi214_2⟩ := at_T184 HR2_0.out x8_1 p214 q214
        cases e214
        replace hx214_0 := zX HB.out hx214_0
        replace hx214_1 := zX HB.out hx214_1
        replace hx214_2 := zX HB.out hx214_2
        have HR214_2 := zQ hi214_2
        have HC214_2 := zQ hl214_2
        clear hi214_2 hl214_2
        replace p214 := eq_true p214
        replace q214 := eq_true q214
        try go_wp2_with (first | ((with_reducible refine gate_dst (N := 9) rfl ?_); refine box_event ?hg (N := 9) ?hd (cs := #[.int .i64 0, .int .i64 0, .slice none 0 0]) (t := 184) ?hr ?_; (case hd => rfl); (case hg => rfl); (case hr => first | (go_simp; done) | (go_simp; rfl)); intro gb215 hg w12 hbox hb; have n0_ := zQ (zL BK213.out hb); have n1_ := zQ (below_step (zB HB.out) hb); have n2_ := zQ (hbox); have n3_ := zQ ((zG hg HB.out)); have n4_ := zQ ((zG hg HB.out)); have n5_ := zQ ((zN hg BK213.out)); have n6_ := zQ ((zM hg BK213.out)); clear BK213; clear HB; have BK213 := n0_; have HB := n1_; have BK215 := n2_; have GW215 := n3_; have GE215 := n4_; have NB213_215 := n5_; have NB215_213 := n6_; clear n0_ n1_ n2_ n3_ n4_ n5_ n6_; clear hb hbox hg; have hnb13 := NB215_213.out; have hnc13 := NB213_215.out; obtain ⟨hcz14_0, hcz14_1, hcz14_2, hfz14_0, hfz14_1, hfz14_2⟩ := zc3 BK215.out))
        have n0_ : Aside0 ((((w12.setCell ⟨gb215, 0, none⟩ (.int .i64 ((rd_T184 l2_0 x8_1).f0))).setCell ⟨gb215, 1, none⟩ (.int .i64 ((rd_T184 l2_0 x8_1).f1))).setCell ⟨gb215, 2, none⟩ (.slice A214_2 ((rd_T184 l2_0 x8_1).f2).length c214_2)).heap[gb213]? = some (.cells #[.slice (some ad214) l2_0.length c2_0, .slice A2_1 l2_1.length c2_1] 45 (0, 0))) := ⟨by (with_reducible repeat (first | refine blk_drewN ?_ _ | refine blk_drew ?_ | refine blk_alloc ?_ _)); refine blk_far ?_ NB213_215.out _; (with_reducible repeat (first | refine blk_drewN ?_ _ | refine blk_drew ?_ | refine blk_alloc ?_ _)); refine blk_far ?_ NB213_215.out _; (with_reducible repeat (first | refine blk_drewN ?_ _ | refine blk_drew ?_ | refine blk_alloc ?_ _)); refine blk_far ?_ NB213_215.out _; (with_reducible repeat (first | refine blk_drewN ?_ _ | refine blk_drew ?_ | refine blk_alloc ?_ _)); exact BK213.out⟩
        have n1_ : Aside0 ((((w12.setCell ⟨gb215, 0, none⟩ (.int .i64 ((rd_T184 l2_0 x8_1).f0))).setCell ⟨gb215, 1, none⟩ (.int .i64 ((rd_T184 l2_0 x8_1).f1))).setCell ⟨gb215, 2, none⟩ (.slice A214_2 ((rd_T184 l2_0 x8_1).f2).length c214_2)).heap[gb215]? = some (.cells #[.int .i64 ((rd_T184 l2_0 x8_1).f0), .int .i64 ((rd_T184 l2_0 x8_1).f1), .slice A214_2 ((rd_T184 l2_0 x8_1).f2).length c214_2] 184 (0, 0))) := ⟨by (with_reducible repeat (first | refine blk_drewN ?_ _ | refine blk_drew ?_ | refine blk_alloc ?_ _)); refine blk_put (cs := #[.int .i64 ((rd_T184 l2_0 x8_1).f0), .int .i64 ((rd_T184 l2_0 x8_1).f1), .slice none 0 0]) ?_ 2 _ rfl; (with_reducible repeat (first | refine blk_drewN ?_ _ | refine blk_drew ?_ | refine blk_alloc ?_ _)); refine blk_put (cs := #[.int .i64 ((rd_T184 l2_0 x8_1).f0), .int .i64 0, .slice none 0 0]) ?_ 1 _ rfl; (with_reducible repeat (first | refine blk_drewN ?_ _ | refine blk_drew ?_ | refine blk_alloc ?_ _)); refine blk_put (cs := #[.int .i64 0, .int .i64 0, .slice none 0 0]) ?_ 0 _ rfl; (with_reducible repeat (first | refine blk_drewN ?_ _ | refine blk_drew ?_ | refine blk_alloc ?_ _)); exact BK215.out⟩
        have n2_ : Aside0 (Below w.heap.size w (((w12.setCell ⟨gb215, 0, none⟩ (.int .i64 ((rd_T184 l2_0 x8_1).f0))).setCell ⟨gb215, 1, none⟩ (.int .i64 ((rd_T184 l2_0 x8_1).f1))).setCell ⟨gb215, 2, none⟩ (.slice A214_2 ((rd_T184 l2_0 x8_1).f2).length c214_2))) := ⟨zB HB.out⟩
        (try clear BK213)
        (try clear BK215)
        (try clear HB)
        generalize (((w12.setCell ⟨gb215, 0, none⟩ (.int .i64 ((rd_T184 l2_0 x8_1).f0))).setCell ⟨gb215, 1, none⟩ (.int .i64 ((rd_T184 l2_0 x8_1).f1))).setCell ⟨gb215, 2, none⟩ (.slice A214_2 ((rd_T184 l2_0 x8_1).f2).length c214_2)) = w15 at n0_ n1_ n2_ ⊢
        have BK213 := n0_
        have BK215 := n1_
        have HB := n2_
        clear n0_ n1_ n2_
        have n0_ := zQ (blk_drew BK213.out)
        have n1_ := zQ (blk_drew BK215.out)
        have n2_ := zQ (below_drew1 HB.out)
        clear BK213
        clear BK215
        clear HB
        have BK213 := n0_
        have BK215 := n1_
        have HB := n2_
        clear n0_ n1_ n2_
        have p216 : 0 ≤ (((rd_T184 l2_0 x8_1).f0) : Int) := zA
        have q216 : ((rd_T184 l2_0 x8_1).f0) < (l0.length : Int) := zA
        obtain ⟨ad216, A216_0, c216_0, e216, hx216_0, hl216_0, hi216_0⟩ := at_T124 HR0.out ((rd_T184 l2_0 x8_1).f0) p216 q216
        have hw216_0 := hx216_0
        cases e216
        replace hx216_0 := zX HB.out hx216_0
        have HR216_0 := zQ hi216_0
        have HC216_0 := zQ hl216_0
        clear hi216_0 hl216_0
        replace p216 := eq_true p216
        replace q216 := eq_true q216
        refine start_ (n := 17) (S := fun w' => w'.cell? ⟨gb215, 0, none⟩ = some (.int .i64 ((rd_T184 l2_0 x8_1).f0)) ∧ w'.cell? ⟨gb215, 1, none⟩ = some (.int .i64 ((rd_T184 l2_0 x8_1).f1)) ∧ w'.cell? ⟨gb215, 2, none⟩ = some (.slice A214_2 ((rd_T184 l2_0 x8_1).f2).length c214_2) ∧ w'.cell? (ad216.add (((rd_T184 l2_0 x8_1).f0)).toNat) = some (.slice A216_0 ((rd_T124 l0 ((rd_T184 l2_0 x8_1).f0)).f0).length c216_0)) (ds := []) #[false, false, false, false, false, false, false, false, false, false, false, false, false, false, false, false, false] (by kernel_rfl) rfl rfl ⟨(blk_cell BK215.out 0).trans rfl, (blk_cell BK215.out 1).trans rfl, (blk_cell BK215.out 2).trans rfl, ((HB.out.cell (World.block_lt_of_cell? w _ hw216_0)).trans hw216_0)⟩ (fun hHeld => ?_); refine with_tabW spec_l07Types.tab6 spec_l07Types.bits6 (fun HT_ HW_ => ?_)
        generalize w15.drew = w16 at BK213 BK215 HB HR216_0 hx216_0 hHeld ⊢
        refine pure_ (i := 0) (N := some 25) (v := ?_) (a' := ?_) #[true, false, false, false, false, false, false, false, false, false, false, false, false, false, false, false, false] rfl rfl (any_of HT_.out (by kernel_rfl)) (fun _ _ _ h => h) (Or.inl ⟨by rfl, ?_⟩) ?_ ?_
        rotate_left
        ·intro w'
         go_simp
         with_reducible rfl
        rotate_left
        ·simp only [Act.put, List.setIfInBounds_toArray, List.set_cons_zero, List.set_cons_succ, i64_w, i32_w]
         rfl
        refine pure_ (i := 1) (N := some 26) (v := ?_) (a' := ?_) #[true, true, false, false, false, false, false, false, false, false, false, false, false, false, false, false, false] rfl rfl (any_of HT_.out (by kernel_rfl)) (fun _ _ _ h => h) (Or.inl ⟨by rfl, ?_⟩) ?_ ?_
        rotate_left
        ·intro w'
         go_simp
         with_reducible rfl
        rotate_left
        ·simp only [Act.put, List.setIfInBounds_toArray, List.set_cons_zero, List.set_cons_succ, i64_w, i32_w]
         rfl
        refine pure_ (i := 6) (N := some 31) (v := ?_) (a' := ?_) #[true, true, false, false, false, false, true, false, false, false, false, false, false, false, false, false, false] rfl rfl (any_of HT_.out (by kernel_rfl)) (fun _ _ _ h => h) (Or.inl ⟨by rfl, ?_⟩) ?_ ?_
        rotate_left
        ·intro w'
         go_simp
         with_reducible rfl
        rotate_left
        ·simp only [Act.put, List.setIfInBounds_toArray, List.set_cons_zero, List.set_cons_succ, i64_w, i32_w]
         rfl
        refine pure_ (i := 7) (N := some 32) (v := ?_) (a' := ?_) #[true, true, false, false, false, false, true, true, false, false, false, false, false, false, false, false, false] rfl rfl (any_of HT_.out (by kernel_rfl)) (fun _ _ _ h => h) (Or.inl ⟨by rfl, ?_⟩) ?_ ?_
        rotate_left
        ·intro w'
         go_simp
         with_reducible rfl
        rotate_left
        ·simp only [Act.put, List.setIfInBounds_toArray, List.set_cons_zero, List.set_cons_succ, i64_w, i32_w]
         rfl
        refine pure_ (i := 9) (N := some 34) (v := ?_) (a' := ?_) #[true, true, false, false, false, false, true, true, false, true, false, false, false, false, false, false, false] rfl rfl (any_of HT_.out (by kernel_rfl)) (fun _ _ _ h => h) (Or.inl ⟨by rfl, ?_⟩) ?_ ?_
        rotate_left
        ·intro w'
         go_simp
         with_reducible rfl
        rotate_left
        ·simp only [Act.put, List.setIfInBounds_toArray, List.set_cons_zero, List.set_cons_succ, i64_w, i32_w]
         rfl
        refine take_ (i := 2) (N := some 27) (v := ?_) (a' := ?_) #[true, true, true, false, false, false, true, true, false, true, false, false, false, false, false, false, false] rfl rfl (take_ofW HT_.out HW_.out (by kernel_rfl)) (fun _ _ _ h => h) (Or.inl ⟨by rfl, ?_⟩) hHeld ?_ ?_
        rotate_left
        ·rintro w' ⟨s0, s1, s2, s3⟩
         go_simp
         with_reducible rfl
        rotate_left
        ·simp only [Act.put, List.setIfInBounds_toArray, List.set_cons_zero, List.set_cons_succ, i64_w, i32_w]
         rfl
        refine pure_ (i := 3) (N := some 28) (v := ?_) (a' := ?_) #[true, true, true, true, false, false, true, true, false, true, false, false, false, false, false, false, false] rfl rfl (any_of HT_.out (by kernel_rfl)) (fun _ _ _ h => h) (Or.inl ⟨by rfl, ?_⟩) ?_ ?_
        rotate_left
        ·intro w'
         go_simp
         with_reducible rfl
        rotate_left
        ·simp only [Act.put, List.setIfInBounds_toArray, List.set_cons_zero, List.set_cons_succ, i64_w, i32_w]
         rfl
        refine pure_ (i := 4) (N := some 29) (v := ?_) (a' := ?_) #[true, true, true, true, true, false, true, true, false, true, false, false, false, false, false, false, false] rfl rfl (any_of HT_.out (by kernel_rfl)) (fun _ _ _ h => h) (Or.inl ⟨by rfl, ?_⟩) ?_ ?_
        rotate_left
        ·intro w'
         go_simp
         with_reducible rfl
        rotate_left
        ·simp only [Act.put, List.setIfInBounds_toArray, List.set_cons_zero, List.set_cons_succ, i64_w, i32_w]
         rfl
        refine take_ (i := 5) (N := some 30) (v := ?_) (a' := ?_) #[true, true, true, true, true, true, true, true, false, true, false, false, false, false, false, false, false] rfl rfl (take_ofW HT_.out HW_.out (by kernel_rfl)) (fun _ _ _ h => h) (Or.inl ⟨by rfl, ?_⟩) hHeld ?_ ?_
        rotate_left
        ·rintro w' ⟨s0, s1, s2, s3⟩
         go_simp
         with_reducible rfl
        rotate_left
        ·simp only [Act.put, List.setIfInBounds_toArray, List.set_cons_zero, List.set_cons_succ, i64_w, i32_w]
         rfl
        refine take_ (i := 8) (N := some 33) (v := ?_) (a' := ?_) #[true, true, true, true, true, true, true, true, true, true, false, false, false, false, false, false, false] rfl rfl (take_ofW HT_.out HW_.out (by kernel_rfl)) (fun _ _ _ h => h) (Or.inl ⟨by rfl, ?_⟩) hHeld ?_ ?_
        rotate_left
        ·rintro w' ⟨s0, s1, s2, s3⟩
         go_simp
         with_reducible rfl
        rotate_left
        ·simp only [Act.put, List.setIfInBounds_toArray, List.set_cons_zero, List.set_cons_succ, i64_w, i32_w]
         rfl
        refine take_ (i := 10) (N := some 35) (v := ?_) (a' := ?_) #[true, true, true, true, true, true, true, true, true, true, true, false, false, false, false, false, false] rfl rfl (take_ofW HT_.out HW_.out (by kernel_rfl)) (fun _ _ _ h => h) (Or.inl ⟨by rfl, ?_⟩) hHeld ?_ ?_
        rotate_left
        ·rintro w' ⟨s0, s1, s2, s3⟩
         go_simp
         with_reducible rfl
        rotate_left
        ·simp only [Act.put, List.setIfInBounds_toArray, List.set_cons_zero, List.set_cons_succ, i64_w, i32_w]
         rfl
        refine one_ (i := 11) (N := some 36) #[true, true, true, true, true, true, true, true, true, true, true, true, false, false, false, false, false] rfl rfl (one_of HT_.out (by kernel_rfl)) (by decide) (fun K hK => ?_)
        refine goes_ Try.func229 (by kernel_rfl) rfl #[.slice A216_0 ((rd_T124 l0 ((rd_T184 l2_0 x8_1).f0)).f0).length c216_0, .slice A1 l1.length c1, .int .i64 ((rd_T184 l2_0 x8_1).f0), .int .i64 ((rd_T184 l2_0 x8_1).f1)] (by rfl) rfl rfl (by (try simp only [List.map_toArray, List.map_cons, List.map_nil]); first | done | rfl | (simp only [List.length_drop, List.length_take]; rfl)) ?_
        with_reducible refine (spec_StackAt.calls k1 _ _ ((rd_T124 l0 ((rd_T184 l2_0 x8_1).f0)).f0) _ _ l1 ((rd_T184 l2_0 x8_1).f0) ((rd_T184 l2_0 x8_1).f1) t217 t218 _ ?side1 ?side2 ?side3 ?side4 A9.out).mono ?_
        (case side1 => exact zC (Kd.C_below HR216_0.out HB.out))
        (case side2 => exact HC216_0.out)
        (case side3 => exact zC (Kd.C_below HR1.out HB.out))
        (case side4 => exact HC1.out)
        rintro e w17 ⟨rfl, hb⟩
        refine ⟨_, rfl, ?_⟩
        have n0_ := zQ (zL BK213.out hb)
        have n1_ := zQ (zL BK215.out hb)
        have n2_ := zQ (below_step (zB HB.out) hb)
        clear BK213
        clear BK215
        clear HB
        have BK213 := n0_
        have BK215 := n1_
        have HB := n2_
        clear n0_ n1_ n2_
        (try clear hb)
        (try clear hb2)
        (try clear hk)
        (try clear hi)
        refine hK.out _ _ ⟨(blk_cell BK215.out 0).trans rfl, (blk_cell BK215.out 1).trans rfl, (blk_cell BK215.out 2).trans rfl, ((HB.out.cell (World.block_lt_of_cell? w _ hw216_0)).trans hw216_0)⟩ (fun hHeld => ?_)
        clear hK K
        refine norm_ (a' := ?_) ?_ ?_
        rotate_left
        ·show Act.put _ (some 36) _ = _
         simp only [Act.put, List.setIfInBounds_toArray, List.set_cons_zero, List.set_cons_succ, i64_w, i32_w]
         rfl
        refine pure_ (i := 12) (N := some 24) (v := ?_) (a' := ?_) #[true, true, true, true, true, true, true, true, true, true, true, true, true, false, false, false, false] rfl rfl (any_of HT_.out (by kernel_rfl)) (fun _ _ _ h => h) (Or.inl ⟨by rfl, ?_⟩) ?_ ?_
        rotate_left
        ·intro w'
         go_simp
         with_reducible rfl
        rotate_left
        ·simp only [Act.put, List.setIfInBounds_toArray, List.set_cons_zero, List.set_cons_succ, i64_w, i32_w]
         rfl
        refine pure_ (i := 13) (N := some 37) (v := ?_) (a' := ?_) #[true, true, true, true, true, true, true, true, true, true, true, true, true, true, false, false, false] rfl rfl (any_of HT_.out (by kernel_rfl)) (fun _ _ _ h => h) (Or.inl ⟨by rfl, ?_⟩) ?_ ?_
        rotate_left
        ·intro w'
         go_simp
         with_reducible rfl
        rotate_left
        ·simp only [Act.put, List.setIfInBounds_toArray, List.set_cons_zero, List.set_cons_succ, i64_w, i32_w]
         rfl
        refine pure_ (i := 14) (N := some 38) (v := ?_) (a' := ?_) #[true, true, true, true, true, true, true, true, true, true, true, true, true, true, true, false, false] rfl rfl (any_of HT_.out (by kernel_rfl)) (fun _ _ _ h => h) (Or.inl ⟨by rfl, ?_⟩) ?_ ?_
        rotate_left
        ·intro w'
         go_simp
         with_reducible rfl
        rotate_left
        ·simp only [Act.put, List.setIfInBounds_toArray, List.set_cons_zero, List.set_cons_succ, i64_w, i32_w]
         rfl
        refine pure_ (i := 15) (N := some 10) (v := ?_) (a' := ?_) #[true, true, true, true, true, true, true, true, true, true, true, true, true, true, true, true, false] rfl rfl (any_of HT_.out (by kernel_rfl)) (fun _ _ _ h => h) (Or.inl ⟨by rfl, ?_⟩) ?_ ?_
        rotate_left
        ·intro w'
         go_simp
         with_reducible rfl
        rotate_left
        ·simp only [Act.put, List.setIfInBounds_toArray, List.set_cons_zero, List.set_cons_succ, i64_w, i32_w]
         rfl
        refine pure_ (i := 16) (N := some 11) (v := ?_) (a' := ?_) #[true, true, true, true, true, true, true, true, true, true, true, true, true, true, true, true, true] rfl rfl (any_of HT_.out (by kernel_rfl)) (fun _ _ _ h => h) (Or.inl ⟨by rfl, ?_⟩) ?_ ?_
        rotate_left
        ·intro w'
         go_simp
         with_reducible rfl
        rotate_left
        ·simp only [Act.put, List.setIfInBounds_toArray, List.set_cons_zero, List.set_cons_succ, i64_w, i32_w]
         rfl
        refine done_ (done_of HT_.out (by kernel_rfl)) ?_
        try go_wp2
        go_roundg k1
        case measure => have := HK1.out; omega
        case rel => exact ⟨(x7_1 ++ t217), (wrap64 (x8_1 + 1)), (by first | rfl | (simp; done) | (simp [*]; done)), (by first | rfl | (simp; done) | (simp [*]; done)), H', ⟨by have := HK1.out; omega⟩, ⟨by (with_reducible repeat (first | refine blk_drewN ?_ _ | refine blk_drew ?_ | refine blk_alloc ?_ _)); exact BK213.out⟩, ⟨zB HB.out⟩⟩
       ·rw [if_neg c10] at H
        exact absurd H (by simp)
      ·rw [if_neg c8] at H
       exact absurd H (by simp)
     ·rw [if_neg c7] at H
      exact absurd H (by simp)
    ·rw [if_neg c6] at H
     exact absurd H (by simp)
   ·rw [if_neg c5] at H
    have c5b0 : decide (x8_1 < (l2_0.length : Int)) = false := decide_eq_false c5
    clear c5
    obtain rfl := Option.some.inj H
    have hcz18_0 : wr.cell? ⟨gb213, 0, none⟩ = some (.slice A2_0 l2_0.length c2_0) := (blk_cell BK213.out 0).trans rfl
    have hcz18_1 : wr.cell? ⟨gb213, 1, none⟩ = some (.slice A2_1 l2_1.length c2_1) := (blk_cell BK213.out 1).trans rfl
    have hfz18_0 := blk_frozen BK213.out 0
    have hfz18_1 := blk_frozen BK213.out 1
    go_wp2
    go_ret
    exact ⟨by first | rfl | (simp [errW_none, errW_some] <;> rfl) | (simp [*, errW_none, errW_some] <;> rfl), zB HB.out⟩

end Go.Proofs.Ytkegjmkdnfpfdaa.MFnExactCoreOK
