-- Text written by a program of this session (wip/tools: the kit's printer with additions of ours).
import Derived.Test.YtjgdfbcjlebniaaMFnExactSameDatax0
import Derived.Test.YtjgdfbcjlebniaaMFnExactSameDatax2
import Derived.Test.YtjgdfbcjlebniaaMFnExactSameDatax4
import Derived.Test.YtjgdfbcjlebniaaMFnExactSameDatax8
import Derived.Test.YtjgdfbcjlebniaaMFnExactSameDatax13
import Derived.Test.YtjgdfbcjlebniaaMFnExactSameDatax19
namespace Go.Proofs.Ytjgdfbcjlebniaa.MFnExactSameData
open Go.RowKit Go.Proofs.YtjgdfbcjlebniaaW.PrintWords Go.Proofs.YtjgdfbcjlebniaaW.PrintLast Go.Proofs.YtjgdfbcjlebniaaW.PrintMore
attribute [local go_sem] max2_int min2_int max_two min_two max_three min_three max_four min_four   -- for this text's walks alone
set_option linter.unusedVariables false
set_option linter.unusedSimpArgs false
abbrev za := @Aside0.mk
abbrev zb := @Kd.C_alloc
abbrev zc := @Kd.C_below
abbrev zd := @Kd.C_drew
abbrev ze := @Kd.C_drewN
abbrev zf := @Kd.R_alloc
abbrev zg := @Kd.R_base
abbrev zh := @Kd.R_below
abbrev zi := @Kd.R_drew
abbrev zj := @Kd.R_drewN
abbrev zk := @Kd.R_elder'
abbrev zl := @Kd.R_lower
abbrev zm := @Kd.R_lt
abbrev zn := @Kd.R_mono
abbrev zo := @Kd.R_new'
abbrev zp := @Kd.R_old
abbrev zq := @Kd.R_reads'
abbrev zr := @Kd.R_slice
abbrev zs := @Kd.R_told
abbrev zt := @below_alloc
abbrev zu := @below_drew1
abbrev zv := @below_set
abbrev zw := @below_size
abbrev zx := @below_step
abbrev zy := @blk_alloc
abbrev zz := @blk_below
abbrev zA := @blk_cell
abbrev zB := @blk_drew
abbrev zC := @blk_drewN
abbrev zD := @blk_frozen
abbrev zE := @pw_below_drewN
theorem Kd_R_far7 {α : Type} {d : Kd α} {e base g t : Nat} {ok : Nat → Prop} {w : World} {v : Value} {xs : List α} {cells : Array Value} {x0 x1 x2 x3 x4 x5 x6 : Value} (h : d.R e w base ok v xs) (hb : w.heap[g]? = some (.cells cells t (0, 0))) (ht : ∀ q, q ∈ e :: d.E → q ≠ t) :
  d.R e (((((((w.setCell ⟨g, 0, none⟩ x0).setCell ⟨g, 1, none⟩ x1).setCell ⟨g, 2, none⟩ x2).setCell ⟨g, 3, none⟩ x3).setCell ⟨g, 4, none⟩ x4).setCell ⟨g, 5, none⟩ x5).setCell ⟨g, 6, none⟩ x6) base (fun k => ok k ∧ k ≠ g) v xs :=
 Kd.R_far (p := ⟨g, 6, none⟩) (Kd.R_far (p := ⟨g, 5, none⟩) (Kd.R_far (p := ⟨g, 4, none⟩) (Kd.R_far (p := ⟨g, 3, none⟩) (Kd.R_far (p := ⟨g, 2, none⟩) (Kd.R_far (p := ⟨g, 1, none⟩) (Kd.R_far (p := ⟨g, 0, none⟩) (Kd.R_types h hb ht) (fun _ hk => hk.2) x0) (fun _ hk => hk.2) x1) (fun _ hk => hk.2) x2) (fun _ hk => hk.2) x3) (fun _ hk => hk.2) x4) (fun _ hk => hk.2) x5) (fun _ hk => hk.2) x6

/-! ### laws_FnExactSameData: function 5 -/
def laws_FnExactSameData.f (k : Nat) (l0_0 : List Int) (l0_1 : List (S122)) (l0_2 : List Bool) (l0_3 : List Bool) (l0_4 : List Bool) (l0_5 : List Bool) (a0_6 : Int) (l1_0 : List Int) (l1_1 : List (S122)) (l1_2 : List Bool) (l1_3 : List Bool) (l1_4 : List Bool) (l1_5 : List Bool) (a1_6 : Int) : Option (Bool) := (laws_szData.f l0_0 l0_1 l0_2 l0_3 l0_4 l0_5 a0_6 1048576).bind fun t224 => (if t224 < 0 then (some true) else ((laws_szData.f l1_0 l1_1 l1_2 l1_3 l1_4 l1_5 a1_6 t224).bind fun t225 => (if t225 < 0 then (some true) else ((laws_toData.f k l0_0 l0_1 l0_2 l0_3 l0_4 l0_5 a0_6).bind fun bt226 => ((laws_toData.f k l1_0 l1_1 l1_2 l1_3 l1_4 l1_5 a1_6).bind fun bt245 => ((spec_SameData.f k bt226.1 bt226.2.1 bt226.2.2.1 bt226.2.2.2.1 bt226.2.2.2.2.1 bt226.2.2.2.2.2.1 bt226.2.2.2.2.2.2 bt245.1 bt245.2.1 bt245.2.2.1 bt245.2.2.2.1 bt245.2.2.2.2.1 bt245.2.2.2.2.2.1 bt245.2.2.2.2.2.2).bind fun t264 => ((laws_toData.f k l0_0 l0_1 l0_2 l0_3 l0_4 l0_5 a0_6).bind fun bt265 => ((laws_toData.f k l1_0 l1_1 l1_2 l1_3 l1_4 l1_5 a1_6).bind fun bt285 => ((impl_SameData.f k bt265.1 bt265.2.1 bt265.2.2.1 bt265.2.2.2.1 bt265.2.2.2.2.1 bt265.2.2.2.2.2.1 bt265.2.2.2.2.2.2 bt285.1 bt285.2.1 bt285.2.2.1 bt285.2.2.2.1 bt285.2.2.2.2.1 bt285.2.2.2.2.2.1 bt285.2.2.2.2.2.2).bind fun t305 => (if (t305 != t264) = true then (some false) else ((laws_toData.f k l0_0 l0_1 l0_2 l0_3 l0_4 l0_5 a0_6).bind fun bt306 => ((laws_eqData.f k bt265.1 bt265.2.1 bt265.2.2.1 bt265.2.2.2.1 bt265.2.2.2.2.1 bt265.2.2.2.2.2.1 bt265.2.2.2.2.2.2 bt306.1 bt306.2.1 bt306.2.2.1 bt306.2.2.2.1 bt306.2.2.2.2.1 bt306.2.2.2.2.2.1 bt306.2.2.2.2.2.2).bind fun t325 => (if t325 = true then ((laws_toData.f k l1_0 l1_1 l1_2 l1_3 l1_4 l1_5 a1_6).bind fun bt326 => ((laws_eqData.f k bt285.1 bt285.2.1 bt285.2.2.1 bt285.2.2.2.1 bt285.2.2.2.2.1 bt285.2.2.2.2.2.1 bt285.2.2.2.2.2.2 bt326.1 bt326.2.1 bt326.2.2.1 bt326.2.2.2.1 bt326.2.2.2.2.1 bt326.2.2.2.2.2.1 bt326.2.2.2.2.2.2).bind fun t345 => (if t345 = true then (some true) else (some false)))) else (some false))))))))))))))
theorem laws_FnExactSameData.mono : ∀ a0 a1 a2 a3 a4 a5 a6 a7 a8 a9 a10 a11 a12 a13 k, LeO (laws_FnExactSameData.f k a0 a1 a2 a3 a4 a5 a6 a7 a8 a9 a10 a11 a12 a13) (laws_FnExactSameData.f (k + 1) a0 a1 a2 a3 a4 a5 a6 a7 a8 a9 a10 a11 a12 a13) := by
 intro a0 a1 a2 a3 a4 a5 a6 a7 a8 a9 a10 a11 a12 a13 k
 unfold laws_FnExactSameData.f
 repeat' first
   | (with_reducible exact impl_SameData.mono _ _ _ _ _ _ _ _ _ _ _ _ _ _ _)
   | (with_reducible exact laws_eqData.mono _ _ _ _ _ _ _ _ _ _ _ _ _ _ _)
   | (with_reducible exact laws_toData.mono _ _ _ _ _ _ _ _)
   | (with_reducible exact spec_SameData.mono _ _ _ _ _ _ _ _ _ _ _ _ _ _ _)
   | (with_reducible exact LeO.refl _)
   | (with_reducible exact LeO.none _)
   | (with_reducible refine LeO.ite ?_ ?_)
   | (with_reducible refine LeO.bind ?_ (fun _ => ?_))
   | exact impl_SameData.mono _ _ _ _ _ _ _ _ _ _ _ _ _ _ _
   | exact laws_eqData.mono _ _ _ _ _ _ _ _ _ _ _ _ _ _ _
   | exact laws_toData.mono _ _ _ _ _ _ _ _
   | exact spec_SameData.mono _ _ _ _ _ _ _ _ _ _ _ _ _ _ _
   | exact LeO.none _
   | refine LeO.ite ?_ ?_
   | refine LeO.bind ?_ (fun _ => ?_)
set_option maxHeartbeats 8000000 in
set_option maxRecDepth 100000 in
theorem laws_FnExactSameData.calls (k : Nat) (A0_0 : Option Addr) (c0_0 : Nat) (l0_0 : List Int) (A0_1 : Option Addr) (c0_1 : Nat) (l0_1 : List (S122)) (A0_2 : Option Addr) (c0_2 : Nat) (l0_2 : List Bool) (A0_3 : Option Addr) (c0_3 : Nat) (l0_3 : List Bool) (A0_4 : Option Addr) (c0_4 : Nat) (l0_4 : List Bool) (A0_5 : Option Addr) (c0_5 : Nat) (l0_5 : List Bool) (a0_6 : Int) (A1_0 : Option Addr) (c1_0 : Nat) (l1_0 : List Int) (A1_1 : Option Addr) (c1_1 : Nat) (l1_1 : List (S122)) (A1_2 : Option Addr) (c1_2 : Nat) (l1_2 : List Bool) (A1_3 : Option Addr) (c1_3 : Nat) (l1_3 : List Bool) (A1_4 : Option Addr) (c1_4 : Nat) (l1_4 : List Bool) (A1_5 : Option Addr) (c1_5 : Nat) (l1_5 : List Bool) (a1_6 : Int) (r : Bool) (w : World) (hr0_0 : Kd.C (Kd.int .i64) w A0_0 l0_0.length l0_0) (hc0_0 : l0_0.length ≤ c0_0) (hr0_1 : Kd.C k122 w A0_1 l0_1.length l0_1) (hc0_1 : l0_1.length ≤ c0_1) (hr0_2 : Kd.C Kd.bool w A0_2 l0_2.length l0_2) (hc0_2 : l0_2.length ≤ c0_2) (hr0_3 : Kd.C Kd.bool w A0_3 l0_3.length l0_3) (hc0_3 : l0_3.length ≤ c0_3) (hr0_4 : Kd.C Kd.bool w A0_4 l0_4.length l0_4) (hc0_4 : l0_4.length ≤ c0_4) (hr0_5 : Kd.C Kd.bool w A0_5 l0_5.length l0_5) (hc0_5 : l0_5.length ≤ c0_5) (hr1_0 : Kd.C (Kd.int .i64) w A1_0 l1_0.length l1_0) (hc1_0 : l1_0.length ≤ c1_0) (hr1_1 : Kd.C k122 w A1_1 l1_1.length l1_1) (hc1_1 : l1_1.length ≤ c1_1) (hr1_2 : Kd.C Kd.bool w A1_2 l1_2.length l1_2) (hc1_2 : l1_2.length ≤ c1_2) (hr1_3 : Kd.C Kd.bool w A1_3 l1_3.length l1_3) (hc1_3 : l1_3.length ≤ c1_3) (hr1_4 : Kd.C Kd.bool w A1_4 l1_4.length l1_4) (hc1_4 : l1_4.length ≤ c1_4) (hr1_5 : Kd.C Kd.bool w A1_5 l1_5.length l1_5) (hc1_5 : l1_5.length ≤ c1_5) (h : laws_FnExactSameData.f k l0_0 l0_1 l0_2 l0_3 l0_4 l0_5 a0_6 l1_0 l1_1 l1_2 l1_3 l1_4 l1_5 a1_6 = some r) (hlaw0 : r = true) :
  Calls Try.prog 5 #[.agg #[.slice A0_0 l0_0.length c0_0, .slice A0_1 l0_1.length c0_1, .slice A0_2 l0_2.length c0_2, .slice A0_3 l0_3.length c0_3, .slice A0_4 l0_4.length c0_4, .slice A0_5 l0_5.length c0_5, .int .i64 a0_6], .agg #[.slice A1_0 l1_0.length c1_0, .slice A1_1 l1_1.length c1_1, .slice A1_2 l1_2.length c1_2, .slice A1_3 l1_3.length c1_3, .slice A1_4 l1_4.length c1_4, .slice A1_5 l1_5.length c1_5, .int .i64 a1_6]] w fun e w' => e = .returned (.bool r) ∧ Below w.heap.size w w' := by
 have hu26 := Try.underlying26
 have hu31 := Try.underlying31
 have HR0_0 := za hr0_0
 have HC0_0 := za hc0_0
 clear hr0_0 hc0_0
 have HR0_1 := za hr0_1
 have HC0_1 := za hc0_1
 clear hr0_1 hc0_1
 have HR0_2 := za hr0_2
 have HC0_2 := za hc0_2
 clear hr0_2 hc0_2
 have HR0_3 := za hr0_3
 have HC0_3 := za hc0_3
 clear hr0_3 hc0_3
 have HR0_4 := za hr0_4
 have HC0_4 := za hc0_4
 clear hr0_4 hc0_4
 have HR0_5 := za hr0_5
 have HC0_5 := za hc0_5
 clear hr0_5 hc0_5
 have HR1_0 := za hr1_0
 have HC1_0 := za hc1_0
 clear hr1_0 hc1_0
 have HR1_1 := za hr1_1
 have HC1_1 := za hc1_1
 clear hr1_1 hc1_1
 have HR1_2 := za hr1_2
 have HC1_2 := za hc1_2
 clear hr1_2 hc1_2
 have HR1_3 := za hr1_3
 have HC1_3 := za hc1_3
 clear hr1_3 hc1_3
 have HR1_4 := za hr1_4
 have HC1_4 := za hc1_4
 clear hr1_4 hc1_4
 have HR1_5 := za hr1_5
 have HC1_5 := za hc1_5
 clear hr1_5 hc1_5
 have HB := za (Below.refl w.heap.size w)
 have hlaw_ := za hlaw0
 clear hlaw0
 have H : ((laws_szData.f l0_0 l0_1 l0_2 l0_3 l0_4 l0_5 a0_6 1048576).bind fun t224 => (if t224 < 0 then (some true) else ((laws_szData.f l1_0 l1_1 l1_2 l1_3 l1_4 l1_5 a1_6 t224).bind fun t225 => (if t225 < 0 then (some true) else ((laws_toData.f k l0_0 l0_1 l0_2 l0_3 l0_4 l0_5 a0_6).bind fun bt226 => ((laws_toData.f k l1_0 l1_1 l1_2 l1_3 l1_4 l1_5 a1_6).bind fun bt245 => ((spec_SameData.f k bt226.1 bt226.2.1 bt226.2.2.1 bt226.2.2.2.1 bt226.2.2.2.2.1 bt226.2.2.2.2.2.1 bt226.2.2.2.2.2.2 bt245.1 bt245.2.1 bt245.2.2.1 bt245.2.2.2.1 bt245.2.2.2.2.1 bt245.2.2.2.2.2.1 bt245.2.2.2.2.2.2).bind fun t264 => ((laws_toData.f k l0_0 l0_1 l0_2 l0_3 l0_4 l0_5 a0_6).bind fun bt265 => ((laws_toData.f k l1_0 l1_1 l1_2 l1_3 l1_4 l1_5 a1_6).bind fun bt285 => ((impl_SameData.f k bt265.1 bt265.2.1 bt265.2.2.1 bt265.2.2.2.1 bt265.2.2.2.2.1 bt265.2.2.2.2.2.1 bt265.2.2.2.2.2.2 bt285.1 bt285.2.1 bt285.2.2.1 bt285.2.2.2.1 bt285.2.2.2.2.1 bt285.2.2.2.2.2.1 bt285.2.2.2.2.2.2).bind fun t305 => (if (t305 != t264) = true then (some false) else ((laws_toData.f k l0_0 l0_1 l0_2 l0_3 l0_4 l0_5 a0_6).bind fun bt306 => ((laws_eqData.f k bt265.1 bt265.2.1 bt265.2.2.1 bt265.2.2.2.1 bt265.2.2.2.2.1 bt265.2.2.2.2.2.1 bt265.2.2.2.2.2.2 bt306.1 bt306.2.1 bt306.2.2.1 bt306.2.2.2.1 bt306.2.2.2.2.1 bt306.2.2.2.2.2.1 bt306.2.2.2.2.2.2).bind fun t325 => (if t325 = true then ((laws_toData.f k l1_0 l1_1 l1_2 l1_3 l1_4 l1_5 a1_6).bind fun bt326 => ((laws_eqData.f k bt285.1 bt285.2.1 bt285.2.2.1 bt285.2.2.2.1 bt285.2.2.2.2.1 bt285.2.2.2.2.2.1 bt285.2.2.2.2.2.2 bt326.1 bt326.2.1 bt326.2.2.1 bt326.2.2.2.1 bt326.2.2.2.2.1 bt326.2.2.2.2.2.1 bt326.2.2.2.2.2.2).bind fun t345 => (if t345 = true then (some true) else (some false)))) else (some false))))))))))))))) = some r := h
 clear h
 replace H := Option.bind_eq_some_iff.mp H
 obtain ⟨t224, A30, H⟩ := H
 replace H : (if t224 < 0 then (some true) else ((laws_szData.f l1_0 l1_1 l1_2 l1_3 l1_4 l1_5 a1_6 t224).bind fun t225 => (if t225 < 0 then (some true) else ((laws_toData.f k l0_0 l0_1 l0_2 l0_3 l0_4 l0_5 a0_6).bind fun bt226 => ((laws_toData.f k l1_0 l1_1 l1_2 l1_3 l1_4 l1_5 a1_6).bind fun bt245 => ((spec_SameData.f k bt226.1 bt226.2.1 bt226.2.2.1 bt226.2.2.2.1 bt226.2.2.2.2.1 bt226.2.2.2.2.2.1 bt226.2.2.2.2.2.2 bt245.1 bt245.2.1 bt245.2.2.1 bt245.2.2.2.1 bt245.2.2.2.2.1 bt245.2.2.2.2.2.1 bt245.2.2.2.2.2.2).bind fun t264 => ((laws_toData.f k l0_0 l0_1 l0_2 l0_3 l0_4 l0_5 a0_6).bind fun bt265 => ((laws_toData.f k l1_0 l1_1 l1_2 l1_3 l1_4 l1_5 a1_6).bind fun bt285 => ((impl_SameData.f k bt265.1 bt265.2.1 bt265.2.2.1 bt265.2.2.2.1 bt265.2.2.2.2.1 bt265.2.2.2.2.2.1 bt265.2.2.2.2.2.2 bt285.1 bt285.2.1 bt285.2.2.1 bt285.2.2.2.1 bt285.2.2.2.2.1 bt285.2.2.2.2.2.1 bt285.2.2.2.2.2.2).bind fun t305 => (if (t305 != t264) = true then (some false) else ((laws_toData.f k l0_0 l0_1 l0_2 l0_3 l0_4 l0_5 a0_6).bind fun bt306 => ((laws_eqData.f k bt265.1 bt265.2.1 bt265.2.2.1 bt265.2.2.2.1 bt265.2.2.2.2.1 bt265.2.2.2.2.2.1 bt265.2.2.2.2.2.2 bt306.1 bt306.2.1 bt306.2.2.1 bt306.2.2.2.1 bt306.2.2.2.2.1 bt306.2.2.2.2.2.1 bt306.2.2.2.2.2.2).bind fun t325 => (if t325 = true then ((laws_toData.f k l1_0 l1_1 l1_2 l1_3 l1_4 l1_5 a1_6).bind fun bt326 => ((laws_eqData.f k bt285.1 bt285.2.1 bt285.2.2.1 bt285.2.2.2.1 bt285.2.2.2.2.1 bt285.2.2.2.2.2.1 bt285.2.2.2.2.2.2 bt326.1 bt326.2.1 bt326.2.2.1 bt326.2.2.2.1 bt326.2.2.2.2.1 bt326.2.2.2.2.2.1 bt326.2.2.2.2.2.2).bind fun t345 => (if t345 = true then (some true) else (some false)))) else (some false)))))))))))))) = some r := H
 have A3 := za A30
 clear A30
 by_cases c4 : t224 < 0
 ·
  rw [if_pos c4] at H
  have c4b0 : decide (t224 < 0) = true := decide_eq_true c4
  clear c4
  obtain rfl := Option.some.inj H
  go_enter Try.func5, Try.ntmps5
  go_wp2_with (first | ((with_reducible refine gate_dst (N := 2) rfl ?_); refine box_event ?hg (N := 2) ?hd (cs := #[.slice A0_0 l0_0.length c0_0, .slice A0_1 l0_1.length c0_1, .slice A0_2 l0_2.length c0_2, .slice A0_3 l0_3.length c0_3, .slice A0_4 l0_4.length c0_4, .slice A0_5 l0_5.length c0_5, .int .i64 a0_6]) (t := 26) ?hr ?_; (case hd => rfl); (case hg => rfl); (case hr => first | (go_simp; done) | (go_simp; rfl)); intro gb222 hg w5 hbox hb; have n0_ := za (zx (by repeat (first | (with_reducible first | exact HB.out | apply zt | apply zE | apply zu) | exact HB.out)) hb); have n1_ := za (hbox); have n2_ := za ((by rw [hg]; exact (zw (by repeat (first | (with_reducible first | exact HB.out | apply zt | apply zE | apply zu) | exact HB.out))) : w.heap.size ≤ gb222)); have n3_ := za ((by rw [hg]; exact (zw (by repeat (first | (with_reducible first | exact HB.out | apply zt | apply zE | apply zu) | exact HB.out))) : w.heap.size ≤ gb222)); clear HB; have HB := n0_; have BK222 := n1_; have GW222 := n2_; have GE222 := n3_; clear n0_ n1_ n2_ n3_; clear hb hbox hg) | ((with_reducible refine gate_dst (N := 3) rfl ?_); refine box_event ?hg (N := 3) ?hd (cs := #[.slice A1_0 l1_0.length c1_0, .slice A1_1 l1_1.length c1_1, .slice A1_2 l1_2.length c1_2, .slice A1_3 l1_3.length c1_3, .slice A1_4 l1_4.length c1_4, .slice A1_5 l1_5.length c1_5, .int .i64 a1_6]) (t := 26) ?hr ?_; (case hd => rfl); (case hg => rfl); (case hr => first | (go_simp; done) | (go_simp; rfl)); intro gb223 hg w6 hbox hb; have n0_ := za (zz (g := gb222) (o := .cells #[.slice A0_0 l0_0.length c0_0, .slice A0_1 l0_1.length c0_1, .slice A0_2 l0_2.length c0_2, .slice A0_3 l0_3.length c0_3, .slice A0_4 l0_4.length c0_4, .slice A0_5 l0_5.length c0_5, .int .i64 a0_6] 26 (0, 0)) (by (with_reducible repeat (first | refine zC ?_ _ | refine zB ?_ | refine zy ?_ _)); exact BK222.out) hb); have n1_ := za (zx (by repeat (first | (with_reducible first | exact HB.out | apply zt | apply zE | apply zu | refine zv ?_ GE222.out) | exact HB.out)) hb); have n2_ := za (hbox); have n3_ := za ((by rw [hg]; exact (zw (by repeat (first | (with_reducible first | exact HB.out | apply zt | apply zE | apply zu | refine zv ?_ GE222.out) | exact HB.out))) : w.heap.size ≤ gb223)); have n4_ := za ((by rw [hg]; exact (zw (by repeat (first | (with_reducible first | exact HB.out | apply zt | apply zE | apply zu | refine zv ?_ GE222.out) | exact HB.out))) : w.heap.size ≤ gb223)); have n5_ := za ((by rw [hg]; exact Nat.ne_of_lt (blk_lt (g := gb222) (o := .cells #[.slice A0_0 l0_0.length c0_0, .slice A0_1 l0_1.length c0_1, .slice A0_2 l0_2.length c0_2, .slice A0_3 l0_3.length c0_3, .slice A0_4 l0_4.length c0_4, .slice A0_5 l0_5.length c0_5, .int .i64 a0_6] 26 (0, 0)) (by (with_reducible repeat (first | refine zC ?_ _ | refine zB ?_ | refine zy ?_ _)); exact BK222.out)) : gb222 ≠ gb223)); have n6_ := za ((by rw [hg]; exact Nat.ne_of_gt (blk_lt (g := gb222) (o := .cells #[.slice A0_0 l0_0.length c0_0, .slice A0_1 l0_1.length c0_1, .slice A0_2 l0_2.length c0_2, .slice A0_3 l0_3.length c0_3, .slice A0_4 l0_4.length c0_4, .slice A0_5 l0_5.length c0_5, .int .i64 a0_6] 26 (0, 0)) (by (with_reducible repeat (first | refine zC ?_ _ | refine zB ?_ | refine zy ?_ _)); exact BK222.out)) : gb223 ≠ gb222)); clear BK222; clear HB; have BK222 := n0_; have HB := n1_; have BK223 := n2_; have GW223 := n3_; have GE223 := n4_; have NB222_223 := n5_; have NB223_222 := n6_; clear n0_ n1_ n2_ n3_ n4_ n5_ n6_; clear hb hbox hg; have hnb7 := NB222_223.out; have hnc7 := NB223_222.out; have hcz8_0 : w6.cell? ⟨gb222, 0, none⟩ = some (.slice A0_0 l0_0.length c0_0) := (zA BK222.out 0).trans rfl; have hcz8_1 : w6.cell? ⟨gb222, 1, none⟩ = some (.slice A0_1 l0_1.length c0_1) := (zA BK222.out 1).trans rfl; have hcz8_2 : w6.cell? ⟨gb222, 2, none⟩ = some (.slice A0_2 l0_2.length c0_2) := (zA BK222.out 2).trans rfl; have hcz8_3 : w6.cell? ⟨gb222, 3, none⟩ = some (.slice A0_3 l0_3.length c0_3) := (zA BK222.out 3).trans rfl; have hcz8_4 : w6.cell? ⟨gb222, 4, none⟩ = some (.slice A0_4 l0_4.length c0_4) := (zA BK222.out 4).trans rfl; have hcz8_5 : w6.cell? ⟨gb222, 5, none⟩ = some (.slice A0_5 l0_5.length c0_5) := (zA BK222.out 5).trans rfl; have hcz8_6 : w6.cell? ⟨gb222, 6, none⟩ = some (.int .i64 a0_6) := (zA BK222.out 6).trans rfl; have hfz8_0 := zD BK222.out 0; have hfz8_1 := zD BK222.out 1; have hfz8_2 := zD BK222.out 2; have hfz8_3 := zD BK222.out 3; have hfz8_4 := zD BK222.out 4; have hfz8_5 := zD BK222.out 5; have hfz8_6 := zD BK222.out 6) | ((with_reducible refine gate_callee (f := 11) rfl ?_); refine goesL_ (some 12) rfl rfl Try.func11 (by kernel_rfl) rfl #[.agg #[.slice A0_0 l0_0.length c0_0, .slice A0_1 l0_1.length c0_1, .slice A0_2 l0_2.length c0_2, .slice A0_3 l0_3.length c0_3, .slice A0_4 l0_4.length c0_4, .slice A0_5 l0_5.length c0_5, .int .i64 a0_6], .int .i64 1048576] rfl (by (try simp only [List.map_toArray, List.map_cons, List.map_nil]); first | done | rfl | (simp only [List.length_drop, List.length_take]; rfl)) ?_; (with_reducible refine (laws_szData.calls _ _ l0_0 _ _ l0_1 _ _ l0_2 _ _ l0_3 _ _ l0_4 _ _ l0_5 a0_6 1048576 t224 _ ?side1 ?side2 ?side3 ?side4 ?side5 ?side6 ?side7 ?side8 ?side9 ?side10 ?side11 ?side12 A3.out).mono ?_); (case side1 => repeat (first | exact (zc HR0_0.out HB.out) | (with_reducible refine zb ?_ _) | (with_reducible refine ze ?_ _) | (with_reducible refine zd ?_))); (case side2 => exact HC0_0.out); (case side3 => repeat (first | exact (zc HR0_1.out HB.out) | (with_reducible refine zb ?_ _) | (with_reducible refine ze ?_ _) | (with_reducible refine zd ?_))); (case side4 => exact HC0_1.out); (case side5 => repeat (first | exact (zc HR0_2.out HB.out) | (with_reducible refine zb ?_ _) | (with_reducible refine ze ?_ _) | (with_reducible refine zd ?_))); (case side6 => exact HC0_2.out); (case side7 => repeat (first | exact (zc HR0_3.out HB.out) | (with_reducible refine zb ?_ _) | (with_reducible refine ze ?_ _) | (with_reducible refine zd ?_))); (case side8 => exact HC0_3.out); (case side9 => repeat (first | exact (zc HR0_4.out HB.out) | (with_reducible refine zb ?_ _) | (with_reducible refine ze ?_ _) | (with_reducible refine zd ?_))); (case side10 => exact HC0_4.out); (case side11 => repeat (first | exact (zc HR0_5.out HB.out) | (with_reducible refine zb ?_ _) | (with_reducible refine ze ?_ _) | (with_reducible refine zd ?_))); (case side12 => exact HC0_5.out); rintro e w9 ⟨rfl, hb⟩; refine ⟨_, rfl, ?_⟩; have n0_ := za (zz (g := gb222) (o := .cells #[.slice A0_0 l0_0.length c0_0, .slice A0_1 l0_1.length c0_1, .slice A0_2 l0_2.length c0_2, .slice A0_3 l0_3.length c0_3, .slice A0_4 l0_4.length c0_4, .slice A0_5 l0_5.length c0_5, .int .i64 a0_6] 26 (0, 0)) (by (with_reducible repeat (first | refine zC ?_ _ | refine zB ?_ | refine zy ?_ _)); exact BK222.out) hb); have n1_ := za (zz (g := gb223) (o := .cells #[.slice A1_0 l1_0.length c1_0, .slice A1_1 l1_1.length c1_1, .slice A1_2 l1_2.length c1_2, .slice A1_3 l1_3.length c1_3, .slice A1_4 l1_4.length c1_4, .slice A1_5 l1_5.length c1_5, .int .i64 a1_6] 26 (0, 0)) (by (with_reducible repeat (first | refine zC ?_ _ | refine zB ?_ | refine zy ?_ _)); exact BK223.out) hb); have n2_ := za (zx (by repeat (first | (with_reducible first | exact HB.out | apply zt | apply zE | apply zu | refine zv ?_ GE222.out | refine zv ?_ GE223.out) | exact HB.out)) hb); clear BK222; clear BK223; clear HB; have BK222 := n0_; have BK223 := n1_; have HB := n2_; clear n0_ n1_ n2_; (try clear hb); (try clear hb2); (try clear hk); (try clear hi)))
  go_ret
  exact ⟨by first | rfl | (simp [errW_none, errW_some] <;> rfl) | (simp [*, errW_none, errW_some] <;> rfl), by repeat (first | (with_reducible first | exact HB.out | apply zt | apply zE | apply zu | refine zv ?_ GE222.out | refine zv ?_ GE223.out) | exact HB.out)⟩
 ·
  rw [if_neg c4] at H
  have c4b0 : decide (t224 < 0) = false := decide_eq_false c4
  clear c4
  replace H := Option.bind_eq_some_iff.mp H
  obtain ⟨t225, A100, H⟩ := H
  replace H : (if t225 < 0 then (some true) else ((laws_toData.f k l0_0 l0_1 l0_2 l0_3 l0_4 l0_5 a0_6).bind fun bt226 => ((laws_toData.f k l1_0 l1_1 l1_2 l1_3 l1_4 l1_5 a1_6).bind fun bt245 => ((spec_SameData.f k bt226.1 bt226.2.1 bt226.2.2.1 bt226.2.2.2.1 bt226.2.2.2.2.1 bt226.2.2.2.2.2.1 bt226.2.2.2.2.2.2 bt245.1 bt245.2.1 bt245.2.2.1 bt245.2.2.2.1 bt245.2.2.2.2.1 bt245.2.2.2.2.2.1 bt245.2.2.2.2.2.2).bind fun t264 => ((laws_toData.f k l0_0 l0_1 l0_2 l0_3 l0_4 l0_5 a0_6).bind fun bt265 => ((laws_toData.f k l1_0 l1_1 l1_2 l1_3 l1_4 l1_5 a1_6).bind fun bt285 => ((impl_SameData.f k bt265.1 bt265.2.1 bt265.2.2.1 bt265.2.2.2.1 bt265.2.2.2.2.1 bt265.2.2.2.2.2.1 bt265.2.2.2.2.2.2 bt285.1 bt285.2.1 bt285.2.2.1 bt285.2.2.2.1 bt285.2.2.2.2.1 bt285.2.2.2.2.2.1 bt285.2.2.2.2.2.2).bind fun t305 => (if (t305 != t264) = true then (some false) else ((laws_toData.f k l0_0 l0_1 l0_2 l0_3 l0_4 l0_5 a0_6).bind fun bt306 => ((laws_eqData.f k bt265.1 bt265.2.1 bt265.2.2.1 bt265.2.2.2.1 bt265.2.2.2.2.1 bt265.2.2.2.2.2.1 bt265.2.2.2.2.2.2 bt306.1 bt306.2.1 bt306.2.2.1 bt306.2.2.2.1 bt306.2.2.2.2.1 bt306.2.2.2.2.2.1 bt306.2.2.2.2.2.2).bind fun t325 => (if t325 = true then ((laws_toData.f k l1_0 l1_1 l1_2 l1_3 l1_4 l1_5 a1_6).bind fun bt326 => ((laws_eqData.f k bt285.1 bt285.2.1 bt285.2.2.1 bt285.2.2.2.1 bt285.2.2.2.2.1 bt285.2.2.2.2.2.1 bt285.2.2.2.2.2.2 bt326.1 bt326.2.1 bt326.2.2.1 bt326.2.2.2.1 bt326.2.2.2.2.1 bt326.2.2.2.2.2.1 bt326.2.2.2.2.2.2).bind fun t345 => (if t345 = true then (some true) else (some false)))) else (some false)))))))))))) = some r := H
  have A10 := za A100
  clear A100
  by_cases c11 : t225 < 0
  ·
   rw [if_pos c11] at H
   have c11b0 : decide (t225 < 0) = true := decide_eq_true c11
   clear c11
   obtain rfl := Option.some.inj H
   go_enter Try.func5, Try.ntmps5
   go_wp2_with (first | ((with_reducible refine gate_dst (N := 2) rfl ?_); refine box_event ?hg (N := 2) ?hd (cs := #[.slice A0_0 l0_0.length c0_0, .slice A0_1 l0_1.length c0_1, .slice A0_2 l0_2.length c0_2, .slice A0_3 l0_3.length c0_3, .slice A0_4 l0_4.length c0_4, .slice A0_5 l0_5.length c0_5, .int .i64 a0_6]) (t := 26) ?hr ?_; (case hd => rfl); (case hg => rfl); (case hr => first | (go_simp; done) | (go_simp; rfl)); intro gb222 hg w12 hbox hb; have n0_ := za (zx (by repeat (first | (with_reducible first | exact HB.out | apply zt | apply zE | apply zu) | exact HB.out)) hb); have n1_ := za (hbox); have n2_ := za ((by rw [hg]; exact (zw (by repeat (first | (with_reducible first | exact HB.out | apply zt | apply zE | apply zu) | exact HB.out))) : w.heap.size ≤ gb222)); have n3_ := za ((by rw [hg]; exact (zw (by repeat (first | (with_reducible first | exact HB.out | apply zt | apply zE | apply zu) | exact HB.out))) : w.heap.size ≤ gb222)); clear HB; have HB := n0_; have BK222 := n1_; have GW222 := n2_; have GE222 := n3_; clear n0_ n1_ n2_ n3_; clear hb hbox hg) | ((with_reducible refine gate_dst (N := 3) rfl ?_); refine box_event ?hg (N := 3) ?hd (cs := #[.slice A1_0 l1_0.length c1_0, .slice A1_1 l1_1.length c1_1, .slice A1_2 l1_2.length c1_2, .slice A1_3 l1_3.length c1_3, .slice A1_4 l1_4.length c1_4, .slice A1_5 l1_5.length c1_5, .int .i64 a1_6]) (t := 26) ?hr ?_; (case hd => rfl); (case hg => rfl); (case hr => first | (go_simp; done) | (go_simp; rfl)); intro gb223 hg w13 hbox hb; have n0_ := za (zz (g := gb222) (o := .cells #[.slice A0_0 l0_0.length c0_0, .slice A0_1 l0_1.length c0_1, .slice A0_2 l0_2.length c0_2, .slice A0_3 l0_3.length c0_3, .slice A0_4 l0_4.length c0_4, .slice A0_5 l0_5.length c0_5, .int .i64 a0_6] 26 (0, 0)) (by (with_reducible repeat (first | refine zC ?_ _ | refine zB ?_ | refine zy ?_ _)); exact BK222.out) hb); have n1_ := za (zx (by repeat (first | (with_reducible first | exact HB.out | apply zt | apply zE | apply zu | refine zv ?_ GE222.out) | exact HB.out)) hb); have n2_ := za (hbox); have n3_ := za ((by rw [hg]; exact (zw (by repeat (first | (with_reducible first | exact HB.out | apply zt | apply zE | apply zu | refine zv ?_ GE222.out) | exact HB.out))) : w.heap.size ≤ gb223)); have n4_ := za ((by rw [hg]; exact (zw (by repeat (first | (with_reducible first | exact HB.out | apply zt | apply zE | apply zu | refine zv ?_ GE222.out) | exact HB.out))) : w.heap.size ≤ gb223)); have n5_ := za ((by rw [hg]; exact Nat.ne_of_lt (blk_lt (g := gb222) (o := .cells #[.slice A0_0 l0_0.length c0_0, .slice A0_1 l0_1.length c0_1, .slice A0_2 l0_2.length c0_2, .slice A0_3 l0_3.length c0_3, .slice A0_4 l0_4.length c0_4, .slice A0_5 l0_5.length c0_5, .int .i64 a0_6] 26 (0, 0)) (by (with_reducible repeat (first | refine zC ?_ _ | refine zB ?_ | refine zy ?_ _)); exact BK222.out)) : gb222 ≠ gb223)); have n6_ := za ((by rw [hg]; exact Nat.ne_of_gt (blk_lt (g := gb222) (o := .cells #[.slice A0_0 l0_0.length c0_0, .slice A0_1 l0_1.length c0_1, .slice A0_2 l0_2.length c0_2, .slice A0_3 l0_3.length c0_3, .slice A0_4 l0_4.length c0_4, .slice A0_5 l0_5.length c0_5, .int .i64 a0_6] 26 (0, 0)) (by (with_reducible repeat (first | refine zC ?_ _ | refine zB ?_ | refine zy ?_ _)); exact BK222.out)) : gb223 ≠ gb222)); clear BK222; clear HB; have BK222 := n0_; have HB := n1_; have BK223 := n2_; have GW223 := n3_; have GE223 := n4_; have NB222_223 := n5_; have NB223_222 := n6_; clear n0_ n1_ n2_ n3_ n4_ n5_ n6_; clear hb hbox hg; have hnb14 := NB222_223.out; have hnc14 := NB223_222.out; have hcz15_0 : w13.cell? ⟨gb222, 0, none⟩ = some (.slice A0_0 l0_0.length c0_0) := (zA BK222.out 0).trans rfl; have hcz15_1 : w13.cell? ⟨gb222, 1, none⟩ = some (.slice A0_1 l0_1.length c0_1) := (zA BK222.out 1).trans rfl; have hcz15_2 : w13.cell? ⟨gb222, 2, none⟩ = some (.slice A0_2 l0_2.length c0_2) := (zA BK222.out 2).trans rfl; have hcz15_3 : w13.cell? ⟨gb222, 3, none⟩ = some (.slice A0_3 l0_3.length c0_3) := (zA BK222.out 3).trans rfl; have hcz15_4 : w13.cell? ⟨gb222, 4, none⟩ = some (.slice A0_4 l0_4.length c0_4) := (zA BK222.out 4).trans rfl; have hcz15_5 : w13.cell? ⟨gb222, 5, none⟩ = some (.slice A0_5 l0_5.length c0_5) := (zA BK222.out 5).trans rfl; have hcz15_6 : w13.cell? ⟨gb222, 6, none⟩ = some (.int .i64 a0_6) := (zA BK222.out 6).trans rfl; have hfz15_0 := zD BK222.out 0; have hfz15_1 := zD BK222.out 1; have hfz15_2 := zD BK222.out 2; have hfz15_3 := zD BK222.out 3; have hfz15_4 := zD BK222.out 4; have hfz15_5 := zD BK222.out 5; have hfz15_6 := zD BK222.out 6) | ((with_reducible refine gate_callee (f := 11) rfl ?_); refine goesL_ (some 12) rfl rfl Try.func11 (by kernel_rfl) rfl #[.agg #[.slice A0_0 l0_0.length c0_0, .slice A0_1 l0_1.length c0_1, .slice A0_2 l0_2.length c0_2, .slice A0_3 l0_3.length c0_3, .slice A0_4 l0_4.length c0_4, .slice A0_5 l0_5.length c0_5, .int .i64 a0_6], .int .i64 1048576] rfl (by (try simp only [List.map_toArray, List.map_cons, List.map_nil]); first | done | rfl | (simp only [List.length_drop, List.length_take]; rfl)) ?_; (with_reducible refine (laws_szData.calls _ _ l0_0 _ _ l0_1 _ _ l0_2 _ _ l0_3 _ _ l0_4 _ _ l0_5 a0_6 1048576 t224 _ ?side1 ?side2 ?side3 ?side4 ?side5 ?side6 ?side7 ?side8 ?side9 ?side10 ?side11 ?side12 A3.out).mono ?_); (case side1 => repeat (first | exact (zc HR0_0.out HB.out) | (with_reducible refine zb ?_ _) | (with_reducible refine ze ?_ _) | (with_reducible refine zd ?_))); (case side2 => exact HC0_0.out); (case side3 => repeat (first | exact (zc HR0_1.out HB.out) | (with_reducible refine zb ?_ _) | (with_reducible refine ze ?_ _) | (with_reducible refine zd ?_))); (case side4 => exact HC0_1.out); (case side5 => repeat (first | exact (zc HR0_2.out HB.out) | (with_reducible refine zb ?_ _) | (with_reducible refine ze ?_ _) | (with_reducible refine zd ?_))); (case side6 => exact HC0_2.out); (case side7 => repeat (first | exact (zc HR0_3.out HB.out) | (with_reducible refine zb ?_ _) | (with_reducible refine ze ?_ _) | (with_reducible refine zd ?_))); (case side8 => exact HC0_3.out); (case side9 => repeat (first | exact (zc HR0_4.out HB.out) | (with_reducible refine zb ?_ _) | (with_reducible refine ze ?_ _) | (with_reducible refine zd ?_))); (case side10 => exact HC0_4.out); (case side11 => repeat (first | exact (zc HR0_5.out HB.out) | (with_reducible refine zb ?_ _) | (with_reducible refine ze ?_ _) | (with_reducible refine zd ?_))); (case side12 => exact HC0_5.out); rintro e w16 ⟨rfl, hb⟩; refine ⟨_, rfl, ?_⟩; have n0_ := za (zz (g := gb222) (o := .cells #[.slice A0_0 l0_0.length c0_0, .slice A0_1 l0_1.length c0_1, .slice A0_2 l0_2.length c0_2, .slice A0_3 l0_3.length c0_3, .slice A0_4 l0_4.length c0_4, .slice A0_5 l0_5.length c0_5, .int .i64 a0_6] 26 (0, 0)) (by (with_reducible repeat (first | refine zC ?_ _ | refine zB ?_ | refine zy ?_ _)); exact BK222.out) hb); have n1_ := za (zz (g := gb223) (o := .cells #[.slice A1_0 l1_0.length c1_0, .slice A1_1 l1_1.length c1_1, .slice A1_2 l1_2.length c1_2, .slice A1_3 l1_3.length c1_3, .slice A1_4 l1_4.length c1_4, .slice A1_5 l1_5.length c1_5, .int .i64 a1_6] 26 (0, 0)) (by (with_reducible repeat (first | refine zC ?_ _ | refine zB ?_ | refine zy ?_ _)); exact BK223.out) hb); have n2_ := za (zx (by repeat (first | (with_reducible first | exact HB.out | apply zt | apply zE | apply zu | refine zv ?_ GE222.out | refine zv ?_ GE223.out) | exact HB.out)) hb); clear BK222; clear BK223; clear HB; have BK222 := n0_; have BK223 := n1_; have HB := n2_; clear n0_ n1_ n2_; (try clear hb); (try clear hb2); (try clear hk); (try clear hi); have hcz17_0 : w16.cell? ⟨gb223, 0, none⟩ = some (.slice A1_0 l1_0.length c1_0) := (zA BK223.out 0).trans rfl; have hcz17_1 : w16.cell? ⟨gb223, 1, none⟩ = some (.slice A1_1 l1_1.length c1_1) := (zA BK223.out 1).trans rfl; have hcz17_2 : w16.cell? ⟨gb223, 2, none⟩ = some (.slice A1_2 l1_2.length c1_2) := (zA BK223.out 2).trans rfl; have hcz17_3 : w16.cell? ⟨gb223, 3, none⟩ = some (.slice A1_3 l1_3.length c1_3) := (zA BK223.out 3).trans rfl; have hcz17_4 : w16.cell? ⟨gb223, 4, none⟩ = some (.slice A1_4 l1_4.length c1_4) := (zA BK223.out 4).trans rfl; have hcz17_5 : w16.cell? ⟨gb223, 5, none⟩ = some (.slice A1_5 l1_5.length c1_5) := (zA BK223.out 5).trans rfl; have hcz17_6 : w16.cell? ⟨gb223, 6, none⟩ = some (.int .i64 a1_6) := (zA BK223.out 6).trans rfl; have hfz17_0 := zD BK223.out 0; have hfz17_1 := zD BK223.out 1; have hfz17_2 := zD BK223.out 2; have hfz17_3 := zD BK223.out 3; have hfz17_4 := zD BK223.out 4; have hfz17_5 := zD BK223.out 5; have hfz17_6 := zD BK223.out 6) | ((with_reducible refine gate_callee (f := 11) rfl ?_); refine goesL_ (some 17) rfl rfl Try.func11 (by kernel_rfl) rfl #[.agg #[.slice A1_0 l1_0.length c1_0, .slice A1_1 l1_1.length c1_1, .slice A1_2 l1_2.length c1_2, .slice A1_3 l1_3.length c1_3, .slice A1_4 l1_4.length c1_4, .slice A1_5 l1_5.length c1_5, .int .i64 a1_6], .int .i64 t224] rfl (by (try simp only [List.map_toArray, List.map_cons, List.map_nil]); first | done | rfl | (simp only [List.length_drop, List.length_take]; rfl)) ?_; (with_reducible refine (laws_szData.calls _ _ l1_0 _ _ l1_1 _ _ l1_2 _ _ l1_3 _ _ l1_4 _ _ l1_5 a1_6 t224 t225 _ ?side1 ?side2 ?side3 ?side4 ?side5 ?side6 ?side7 ?side8 ?side9 ?side10 ?side11 ?side12 A10.out).mono ?_); (case side1 => repeat (first | exact (zc HR1_0.out HB.out) | (with_reducible refine zb ?_ _) | (with_reducible refine ze ?_ _) | (with_reducible refine zd ?_))); (case side2 => exact HC1_0.out); (case side3 => repeat (first | exact (zc HR1_1.out HB.out) | (with_reducible refine zb ?_ _) | (with_reducible refine ze ?_ _) | (with_reducible refine zd ?_))); (case side4 => exact HC1_1.out); (case side5 => repeat (first | exact (zc HR1_2.out HB.out) | (with_reducible refine zb ?_ _) | (with_reducible refine ze ?_ _) | (with_reducible refine zd ?_))); (case side6 => exact HC1_2.out); (case side7 => repeat (first | exact (zc HR1_3.out HB.out) | (with_reducible refine zb ?_ _) | (with_reducible refine ze ?_ _) | (with_reducible refine zd ?_))); (case side8 => exact HC1_3.out); (case side9 => repeat (first | exact (zc HR1_4.out HB.out) | (with_reducible refine zb ?_ _) | (with_reducible refine ze ?_ _) | (with_reducible refine zd ?_))); (case side10 => exact HC1_4.out); (case side11 => repeat (first | exact (zc HR1_5.out HB.out) | (with_reducible refine zb ?_ _) | (with_reducible refine ze ?_ _) | (with_reducible refine zd ?_))); (case side12 => exact HC1_5.out); rintro e w18 ⟨rfl, hb⟩; refine ⟨_, rfl, ?_⟩; have n0_ := za (zz (g := gb222) (o := .cells #[.slice A0_0 l0_0.length c0_0, .slice A0_1 l0_1.length c0_1, .slice A0_2 l0_2.length c0_2, .slice A0_3 l0_3.length c0_3, .slice A0_4 l0_4.length c0_4, .slice A0_5 l0_5.length c0_5, .int .i64 a0_6] 26 (0, 0)) (by (with_reducible repeat (first | refine zC ?_ _ | refine zB ?_ | refine zy ?_ _)); exact BK222.out) hb); have n1_ := za (zz (g := gb223) (o := .cells #[.slice A1_0 l1_0.length c1_0, .slice A1_1 l1_1.length c1_1, .slice A1_2 l1_2.length c1_2, .slice A1_3 l1_3.length c1_3, .slice A1_4 l1_4.length c1_4, .slice A1_5 l1_5.length c1_5, .int .i64 a1_6] 26 (0, 0)) (by (with_reducible repeat (first | refine zC ?_ _ | refine zB ?_ | refine zy ?_ _)); exact BK223.out) hb); have n2_ := za (zx (by repeat (first | (with_reducible first | exact HB.out | apply zt | apply zE | apply zu | refine zv ?_ GE222.out | refine zv ?_ GE223.out) | exact HB.out)) hb); clear BK222; clear BK223; clear HB; have BK222 := n0_; have BK223 := n1_; have HB := n2_; clear n0_ n1_ n2_; (try clear hb); (try clear hb2); (try clear hk); (try clear hi)))
   go_ret
   exact ⟨by first | rfl | (simp [errW_none, errW_some] <;> rfl) | (simp [*, errW_none, errW_some] <;> rfl), by repeat (first | (with_reducible first | exact HB.out | apply zt | apply zE | apply zu | refine zv ?_ GE222.out | refine zv ?_ GE223.out) | exact HB.out)⟩
  ·
   rw [if_neg c11] at H
   have c11b0 : decide (t225 < 0) = false := decide_eq_false c11
   clear c11
   replace H := Option.bind_eq_some_iff.mp H
   obtain ⟨⟨t226, t229, t232, t235, t238, t241, t244⟩, A190, H⟩ := H
   replace H : ((laws_toData.f k l1_0 l1_1 l1_2 l1_3 l1_4 l1_5 a1_6).bind fun bt245 => ((spec_SameData.f k t226 t229 t232 t235 t238 t241 t244 bt245.1 bt245.2.1 bt245.2.2.1 bt245.2.2.2.1 bt245.2.2.2.2.1 bt245.2.2.2.2.2.1 bt245.2.2.2.2.2.2).bind fun t264 => ((laws_toData.f k l0_0 l0_1 l0_2 l0_3 l0_4 l0_5 a0_6).bind fun bt265 => ((laws_toData.f k l1_0 l1_1 l1_2 l1_3 l1_4 l1_5 a1_6).bind fun bt285 => ((impl_SameData.f k bt265.1 bt265.2.1 bt265.2.2.1 bt265.2.2.2.1 bt265.2.2.2.2.1 bt265.2.2.2.2.2.1 bt265.2.2.2.2.2.2 bt285.1 bt285.2.1 bt285.2.2.1 bt285.2.2.2.1 bt285.2.2.2.2.1 bt285.2.2.2.2.2.1 bt285.2.2.2.2.2.2).bind fun t305 => (if (t305 != t264) = true then (some false) else ((laws_toData.f k l0_0 l0_1 l0_2 l0_3 l0_4 l0_5 a0_6).bind fun bt306 => ((laws_eqData.f k bt265.1 bt265.2.1 bt265.2.2.1 bt265.2.2.2.1 bt265.2.2.2.2.1 bt265.2.2.2.2.2.1 bt265.2.2.2.2.2.2 bt306.1 bt306.2.1 bt306.2.2.1 bt306.2.2.2.1 bt306.2.2.2.2.1 bt306.2.2.2.2.2.1 bt306.2.2.2.2.2.2).bind fun t325 => (if t325 = true then ((laws_toData.f k l1_0 l1_1 l1_2 l1_3 l1_4 l1_5 a1_6).bind fun bt326 => ((laws_eqData.f k bt285.1 bt285.2.1 bt285.2.2.1 bt285.2.2.2.1 bt285.2.2.2.2.1 bt285.2.2.2.2.2.1 bt285.2.2.2.2.2.2 bt326.1 bt326.2.1 bt326.2.2.1 bt326.2.2.2.1 bt326.2.2.2.2.1 bt326.2.2.2.2.2.1 bt326.2.2.2.2.2.2).bind fun t345 => (if t345 = true then (some true) else (some false)))) else (some false)))))))))) = some r := H
   have A19 := za A190
   clear A190
   replace H := Option.bind_eq_some_iff.mp H
   obtain ⟨⟨t245, t248, t251, t254, t257, t260, t263⟩, A200, H⟩ := H
   replace H : ((spec_SameData.f k t226 t229 t232 t235 t238 t241 t244 t245 t248 t251 t254 t257 t260 t263).bind fun t264 => ((laws_toData.f k l0_0 l0_1 l0_2 l0_3 l0_4 l0_5 a0_6).bind fun bt265 => ((laws_toData.f k l1_0 l1_1 l1_2 l1_3 l1_4 l1_5 a1_6).bind fun bt285 => ((impl_SameData.f k bt265.1 bt265.2.1 bt265.2.2.1 bt265.2.2.2.1 bt265.2.2.2.2.1 bt265.2.2.2.2.2.1 bt265.2.2.2.2.2.2 bt285.1 bt285.2.1 bt285.2.2.1 bt285.2.2.2.1 bt285.2.2.2.2.1 bt285.2.2.2.2.2.1 bt285.2.2.2.2.2.2).bind fun t305 => (if (t305 != t264) = true then (some false) else ((laws_toData.f k l0_0 l0_1 l0_2 l0_3 l0_4 l0_5 a0_6).bind fun bt306 => ((laws_eqData.f k bt265.1 bt265.2.1 bt265.2.2.1 bt265.2.2.2.1 bt265.2.2.2.2.1 bt265.2.2.2.2.2.1 bt265.2.2.2.2.2.2 bt306.1 bt306.2.1 bt306.2.2.1 bt306.2.2.2.1 bt306.2.2.2.2.1 bt306.2.2.2.2.2.1 bt306.2.2.2.2.2.2).bind fun t325 => (if t325 = true then ((laws_toData.f k l1_0 l1_1 l1_2 l1_3 l1_4 l1_5 a1_6).bind fun bt326 => ((laws_eqData.f k bt285.1 bt285.2.1 bt285.2.2.1 bt285.2.2.2.1 bt285.2.2.2.2.1 bt285.2.2.2.2.2.1 bt285.2.2.2.2.2.2 bt326.1 bt326.2.1 bt326.2.2.1 bt326.2.2.2.1 bt326.2.2.2.2.1 bt326.2.2.2.2.2.1 bt326.2.2.2.2.2.2).bind fun t345 => (if t345 = true then (some true) else (some false)))) else (some false))))))))) = some r := H
   have A20 := za A200
   clear A200
   replace H := Option.bind_eq_some_iff.mp H
   obtain ⟨t264, A210, H⟩ := H
   replace H : ((laws_toData.f k l0_0 l0_1 l0_2 l0_3 l0_4 l0_5 a0_6).bind fun bt265 => ((laws_toData.f k l1_0 l1_1 l1_2 l1_3 l1_4 l1_5 a1_6).bind fun bt285 => ((impl_SameData.f k bt265.1 bt265.2.1 bt265.2.2.1 bt265.2.2.2.1 bt265.2.2.2.2.1 bt265.2.2.2.2.2.1 bt265.2.2.2.2.2.2 bt285.1 bt285.2.1 bt285.2.2.1 bt285.2.2.2.1 bt285.2.2.2.2.1 bt285.2.2.2.2.2.1 bt285.2.2.2.2.2.2).bind fun t305 => (if (t305 != t264) = true then (some false) else ((laws_toData.f k l0_0 l0_1 l0_2 l0_3 l0_4 l0_5 a0_6).bind fun bt306 => ((laws_eqData.f k bt265.1 bt265.2.1 bt265.2.2.1 bt265.2.2.2.1 bt265.2.2.2.2.1 bt265.2.2.2.2.2.1 bt265.2.2.2.2.2.2 bt306.1 bt306.2.1 bt306.2.2.1 bt306.2.2.2.1 bt306.2.2.2.2.1 bt306.2.2.2.2.2.1 bt306.2.2.2.2.2.2).bind fun t325 => (if t325 = true then ((laws_toData.f k l1_0 l1_1 l1_2 l1_3 l1_4 l1_5 a1_6).bind fun bt326 => ((laws_eqData.f k bt285.1 bt285.2.1 bt285.2.2.1 bt285.2.2.2.1 bt285.2.2.2.2.1 bt285.2.2.2.2.2.1 bt285.2.2.2.2.2.2 bt326.1 bt326.2.1 bt326.2.2.1 bt326.2.2.2.1 bt326.2.2.2.2.1 bt326.2.2.2.2.2.1 bt326.2.2.2.2.2.2).bind fun t345 => (if t345 = true then (some true) else (some false)))) else (some false)))))))) = some r := H
   have A21 := za A210
   clear A210
   replace H := Option.bind_eq_some_iff.mp H
   obtain ⟨⟨t265, t268, t271, t274, t277, t280, t283⟩, A220, H⟩ := H
   replace H : ((laws_toData.f k l1_0 l1_1 l1_2 l1_3 l1_4 l1_5 a1_6).bind fun bt285 => ((impl_SameData.f k t265 t268 t271 t274 t277 t280 t283 bt285.1 bt285.2.1 bt285.2.2.1 bt285.2.2.2.1 bt285.2.2.2.2.1 bt285.2.2.2.2.2.1 bt285.2.2.2.2.2.2).bind fun t305 => (if (t305 != t264) = true then (some false) else ((laws_toData.f k l0_0 l0_1 l0_2 l0_3 l0_4 l0_5 a0_6).bind fun bt306 => ((laws_eqData.f k t265 t268 t271 t274 t277 t280 t283 bt306.1 bt306.2.1 bt306.2.2.1 bt306.2.2.2.1 bt306.2.2.2.2.1 bt306.2.2.2.2.2.1 bt306.2.2.2.2.2.2).bind fun t325 => (if t325 = true then ((laws_toData.f k l1_0 l1_1 l1_2 l1_3 l1_4 l1_5 a1_6).bind fun bt326 => ((laws_eqData.f k bt285.1 bt285.2.1 bt285.2.2.1 bt285.2.2.2.1 bt285.2.2.2.2.1 bt285.2.2.2.2.2.1 bt285.2.2.2.2.2.2 bt326.1 bt326.2.1 bt326.2.2.1 bt326.2.2.2.1 bt326.2.2.2.2.1 bt326.2.2.2.2.2.1 bt326.2.2.2.2.2.2).bind fun t345 => (if t345 = true then (some true) else (some false)))) else (some false))))))) = some r := H
   have A22 := za A220
   clear A220
   replace H := Option.bind_eq_some_iff.mp H
   obtain ⟨⟨t285, t288, t291, t294, t297, t300, t303⟩, A230, H⟩ := H
   replace H : ((impl_SameData.f k t265 t268 t271 t274 t277 t280 t283 t285 t288 t291 t294 t297 t300 t303).bind fun t305 => (if (t305 != t264) = true then (some false) else ((laws_toData.f k l0_0 l0_1 l0_2 l0_3 l0_4 l0_5 a0_6).bind fun bt306 => ((laws_eqData.f k t265 t268 t271 t274 t277 t280 t283 bt306.1 bt306.2.1 bt306.2.2.1 bt306.2.2.2.1 bt306.2.2.2.2.1 bt306.2.2.2.2.2.1 bt306.2.2.2.2.2.2).bind fun t325 => (if t325 = true then ((laws_toData.f k l1_0 l1_1 l1_2 l1_3 l1_4 l1_5 a1_6).bind fun bt326 => ((laws_eqData.f k t285 t288 t291 t294 t297 t300 t303 bt326.1 bt326.2.1 bt326.2.2.1 bt326.2.2.2.1 bt326.2.2.2.2.1 bt326.2.2.2.2.2.1 bt326.2.2.2.2.2.2).bind fun t345 => (if t345 = true then (some true) else (some false)))) else (some false)))))) = some r := H
   have A23 := za A230
   clear A230
   replace H := Option.bind_eq_some_iff.mp H
   obtain ⟨t305, A240, H⟩ := H
   replace H : (if (t305 != t264) = true then (some false) else ((laws_toData.f k l0_0 l0_1 l0_2 l0_3 l0_4 l0_5 a0_6).bind fun bt306 => ((laws_eqData.f k t265 t268 t271 t274 t277 t280 t283 bt306.1 bt306.2.1 bt306.2.2.1 bt306.2.2.2.1 bt306.2.2.2.2.1 bt306.2.2.2.2.2.1 bt306.2.2.2.2.2.2).bind fun t325 => (if t325 = true then ((laws_toData.f k l1_0 l1_1 l1_2 l1_3 l1_4 l1_5 a1_6).bind fun bt326 => ((laws_eqData.f k t285 t288 t291 t294 t297 t300 t303 bt326.1 bt326.2.1 bt326.2.2.1 bt326.2.2.2.1 bt326.2.2.2.2.1 bt326.2.2.2.2.2.1 bt326.2.2.2.2.2.2).bind fun t345 => (if t345 = true then (some true) else (some false)))) else (some false))))) = some r := H
   have A24 := za A240
   clear A240
   by_cases c25 : (t305 != t264) = true
   ·
    rw [if_pos c25] at H
    have c25b0 : (t305 != t264) = true := c25
    (try (have c25b1 : decide (t305 = t264) = false := by simpa using c25))
    (try (have c25b2 : (t305 == t264) = false := by simpa using c25))
    (try (have c25b3 : ¬ (t305 = t264) := by simpa using c25))
    clear c25
    exact absurd ((Option.some.inj H).trans hlaw_.out) (by decide)
   ·
    rw [if_neg c25] at H
    have c25b0 : (t305 != t264) = false := by simpa using c25
    (try (have c25b1 : decide (t305 = t264) = true := by simpa using c25))
    (try (have c25b2 : (t305 == t264) = true := by simpa using c25))
    clear c25
    replace H := Option.bind_eq_some_iff.mp H
    obtain ⟨⟨t306, t309, t312, t315, t318, t321, t324⟩, A260, H⟩ := H
    replace H : ((laws_eqData.f k t265 t268 t271 t274 t277 t280 t283 t306 t309 t312 t315 t318 t321 t324).bind fun t325 => (if t325 = true then ((laws_toData.f k l1_0 l1_1 l1_2 l1_3 l1_4 l1_5 a1_6).bind fun bt326 => ((laws_eqData.f k t285 t288 t291 t294 t297 t300 t303 bt326.1 bt326.2.1 bt326.2.2.1 bt326.2.2.2.1 bt326.2.2.2.2.1 bt326.2.2.2.2.2.1 bt326.2.2.2.2.2.2).bind fun t345 => (if t345 = true then (some true) else (some false)))) else (some false))) = some r := H
    have A26 := za A260
    clear A260
    replace H := Option.bind_eq_some_iff.mp H
    obtain ⟨t325, A270, H⟩ := H
    replace H : (if t325 = true then ((laws_toData.f k l1_0 l1_1 l1_2 l1_3 l1_4 l1_5 a1_6).bind fun bt326 => ((laws_eqData.f k t285 t288 t291 t294 t297 t300 t303 bt326.1 bt326.2.1 bt326.2.2.1 bt326.2.2.2.1 bt326.2.2.2.2.1 bt326.2.2.2.2.2.1 bt326.2.2.2.2.2.2).bind fun t345 => (if t345 = true then (some true) else (some false)))) else (some false)) = some r := H
    have A27 := za A270
    clear A270
    by_cases c28 : t325 = true
    ·
     subst c28
     have H1 : ((laws_toData.f k l1_0 l1_1 l1_2 l1_3 l1_4 l1_5 a1_6).bind fun bt326 => ((laws_eqData.f k t285 t288 t291 t294 t297 t300 t303 bt326.1 bt326.2.1 bt326.2.2.1 bt326.2.2.2.1 bt326.2.2.2.2.1 bt326.2.2.2.2.2.1 bt326.2.2.2.2.2.2).bind fun t345 => (if t345 = true then (some true) else (some false)))) = some r := by rw [if_pos rfl] at H; exact H
     clear H
     have H := H1
     clear H1
     replace H := Option.bind_eq_some_iff.mp H
     obtain ⟨⟨t326, t329, t332, t335, t338, t341, t344⟩, A290, H⟩ := H
     replace H : ((laws_eqData.f k t285 t288 t291 t294 t297 t300 t303 t326 t329 t332 t335 t338 t341 t344).bind fun t345 => (if t345 = true then (some true) else (some false))) = some r := H
     have A29 := za A290
     clear A290
     replace H := Option.bind_eq_some_iff.mp H
     obtain ⟨t345, A300, H⟩ := H
     replace H : (if t345 = true then (some true) else (some false)) = some r := H
     have A30 := za A300
     clear A300
     by_cases c31 : t345 = true
     ·
      subst c31
      have H1 : (some true) = some r := by rw [if_pos rfl] at H; exact H
      clear H
      have H := H1
      clear H1
      obtain rfl := Option.some.inj H
      go_enter Try.func5, Try.ntmps5
      try go_wp2_with (first | ((with_reducible refine gate_dst (N := 2) rfl ?_); refine box_event ?hg (N := 2) ?hd (cs := #[.slice A0_0 l0_0.length c0_0, .slice A0_1 l0_1.length c0_1, .slice A0_2 l0_2.length c0_2, .slice A0_3 l0_3.length c0_3, .slice A0_4 l0_4.length c0_4, .slice A0_5 l0_5.length c0_5, .int .i64 a0_6]) (t := 26) ?hr ?_; (case hd => rfl); (case hg => rfl); (case hr => first | (go_simp; done) | (go_simp; rfl)); intro gb222 hg w32 hbox hb; have n0_ := za (zx (by repeat (first | (with_reducible first | exact HB.out | apply zt | apply zE | apply zu) | exact HB.out)) hb); have n1_ := za (hbox); have n2_ := za ((by rw [hg]; exact (zw (by repeat (first | (with_reducible first | exact HB.out | apply zt | apply zE | apply zu) | exact HB.out))) : w.heap.size ≤ gb222)); have n3_ := za ((by rw [hg]; exact (zw (by repeat (first | (with_reducible first | exact HB.out | apply zt | apply zE | apply zu) | exact HB.out))) : w.heap.size ≤ gb222)); clear HB; have HB := n0_; have BK222 := n1_; have GW222 := n2_; have GE222 := n3_; clear n0_ n1_ n2_ n3_; clear hb hbox hg) | ((with_reducible refine gate_dst (N := 3) rfl ?_); refine box_event ?hg (N := 3) ?hd (cs := #[.slice A1_0 l1_0.length c1_0, .slice A1_1 l1_1.length c1_1, .slice A1_2 l1_2.length c1_2, .slice A1_3 l1_3.length c1_3, .slice A1_4 l1_4.length c1_4, .slice A1_5 l1_5.length c1_5, .int .i64 a1_6]) (t := 26) ?hr ?_; (case hd => rfl); (case hg => rfl); (case hr => first | (go_simp; done) | (go_simp; rfl)); intro gb223 hg w33 hbox hb; have n0_ := za (zz (g := gb222) (o := .cells #[.slice A0_0 l0_0.length c0_0, .slice A0_1 l0_1.length c0_1, .slice A0_2 l0_2.length c0_2, .slice A0_3 l0_3.length c0_3, .slice A0_4 l0_4.length c0_4, .slice A0_5 l0_5.length c0_5, .int .i64 a0_6] 26 (0, 0)) (by (with_reducible repeat (first | refine zC ?_ _ | refine zB ?_ | refine zy ?_ _)); exact BK222.out) hb); have n1_ := za (zx (by repeat (first | (with_reducible first | exact HB.out | apply zt | apply zE | apply zu | refine zv ?_ GE222.out) | exact HB.out)) hb); have n2_ := za (hbox); have n3_ := za ((by rw [hg]; exact (zw (by repeat (first | (with_reducible first | exact HB.out | apply zt | apply zE | apply zu | refine zv ?_ GE222.out) | exact HB.out))) : w.heap.size ≤ gb223)); have n4_ := za ((by rw [hg]; exact (zw (by repeat (first | (with_reducible first | exact HB.out | apply zt | apply zE | apply zu | refine zv ?_ GE222.out) | exact HB.out))) : w.heap.size ≤ gb223)); have n5_ := za ((by rw [hg]; exact Nat.ne_of_lt (blk_lt (g := gb222) (o := .cells #[.slice A0_0 l0_0.length c0_0, .slice A0_1 l0_1.length c0_1, .slice A0_2 l0_2.length c0_2, .slice A0_3 l0_3.length c0_3, .slice A0_4 l0_4.length c0_4, .slice A0_5 l0_5.length c0_5, .int .i64 a0_6] 26 (0, 0)) (by (with_reducible repeat (first | refine zC ?_ _ | refine zB ?_ | refine zy ?_ _)); exact BK222.out)) : gb222 ≠ gb223)); have n6_ := za ((by rw [hg]; exact Nat.ne_of_gt (blk_lt (g := gb222) (o := .cells #[.slice A0_0 l0_0.length c0_0, .slice A0_1 l0_1.length c0_1, .slice A0_2 l0_2.length c0_2, .slice A0_3 l0_3.length c0_3, .slice A0_4 l0_4.length c0_4, .slice A0_5 l0_5.length c0_5, .int .i64 a0_6] 26 (0, 0)) (by (with_reducible repeat (first | refine zC ?_ _ | refine zB ?_ | refine zy ?_ _)); exact BK222.out)) : gb223 ≠ gb222)); clear BK222; clear HB; have BK222 := n0_; have HB := n1_; have BK223 := n2_; have GW223 := n3_; have GE223 := n4_; have NB222_223 := n5_; have NB223_222 := n6_; clear n0_ n1_ n2_ n3_ n4_ n5_ n6_; clear hb hbox hg; have hnb34 := NB222_223.out; have hnc34 := NB223_222.out; have hcz35_0 : w33.cell? ⟨gb222, 0, none⟩ = some (.slice A0_0 l0_0.length c0_0) := (zA BK222.out 0).trans rfl; have hcz35_1 : w33.cell? ⟨gb222, 1, none⟩ = some (.slice A0_1 l0_1.length c0_1) := (zA BK222.out 1).trans rfl; have hcz35_2 : w33.cell? ⟨gb222, 2, none⟩ = some (.slice A0_2 l0_2.length c0_2) := (zA BK222.out 2).trans rfl; have hcz35_3 : w33.cell? ⟨gb222, 3, none⟩ = some (.slice A0_3 l0_3.length c0_3) := (zA BK222.out 3).trans rfl; have hcz35_4 : w33.cell? ⟨gb222, 4, none⟩ = some (.slice A0_4 l0_4.length c0_4) := (zA BK222.out 4).trans rfl; have hcz35_5 : w33.cell? ⟨gb222, 5, none⟩ = some (.slice A0_5 l0_5.length c0_5) := (zA BK222.out 5).trans rfl; have hcz35_6 : w33.cell? ⟨gb222, 6, none⟩ = some (.int .i64 a0_6) := (zA BK222.out 6).trans rfl; have hfz35_0 := zD BK222.out 0; have hfz35_1 := zD BK222.out 1; have hfz35_2 := zD BK222.out 2; have hfz35_3 := zD BK222.out 3; have hfz35_4 := zD BK222.out 4; have hfz35_5 := zD BK222.out 5; have hfz35_6 := zD BK222.out 6) | ((with_reducible refine gate_callee (f := 11) rfl ?_); refine goesL_ (some 12) rfl rfl Try.func11 (by kernel_rfl) rfl #[.agg #[.slice A0_0 l0_0.length c0_0, .slice A0_1 l0_1.length c0_1, .slice A0_2 l0_2.length c0_2, .slice A0_3 l0_3.length c0_3, .slice A0_4 l0_4.length c0_4, .slice A0_5 l0_5.length c0_5, .int .i64 a0_6], .int .i64 1048576] rfl (by (try simp only [List.map_toArray, List.map_cons, List.map_nil]); first | done | rfl | (simp only [List.length_drop, List.length_take]; rfl)) ?_; (with_reducible refine (laws_szData.calls _ _ l0_0 _ _ l0_1 _ _ l0_2 _ _ l0_3 _ _ l0_4 _ _ l0_5 a0_6 1048576 t224 _ ?side1 ?side2 ?side3 ?side4 ?side5 ?side6 ?side7 ?side8 ?side9 ?side10 ?side11 ?side12 A3.out).mono ?_); (case side1 => repeat (first | exact (zc HR0_0.out HB.out) | (with_reducible refine zb ?_ _) | (with_reducible refine ze ?_ _) | (with_reducible refine zd ?_))); (case side2 => exact HC0_0.out); (case side3 => repeat (first | exact (zc HR0_1.out HB.out) | (with_reducible refine zb ?_ _) | (with_reducible refine ze ?_ _) | (with_reducible refine zd ?_))); (case side4 => exact HC0_1.out); (case side5 => repeat (first | exact (zc HR0_2.out HB.out) | (with_reducible refine zb ?_ _) | (with_reducible refine ze ?_ _) | (with_reducible refine zd ?_))); (case side6 => exact HC0_2.out); (case side7 => repeat (first | exact (zc HR0_3.out HB.out) | (with_reducible refine zb ?_ _) | (with_reducible refine ze ?_ _) | (with_reducible refine zd ?_))); (case side8 => exact HC0_3.out); (case side9 => repeat (first | exact (zc HR0_4.out HB.out) | (with_reducible refine zb ?_ _) | (with_reducible refine ze ?_ _) | (with_reducible refine zd ?_))); (case side10 => exact HC0_4.out); (case side11 => repeat (first | exact (zc HR0_5.out HB.out) | (with_reducible refine zb ?_ _) | (with_reducible refine ze ?_ _) | (with_reducible refine zd ?_))); (case side12 => exact HC0_5.out); rintro e w36 ⟨rfl, hb⟩; refine ⟨_, rfl, ?_⟩; have n0_ := za (zz (g := gb222) (o := .cells #[.slice A0_0 l0_0.length c0_0, .slice A0_1 l0_1.length c0_1, .slice A0_2 l0_2.length c0_2, .slice A0_3 l0_3.length c0_3, .slice A0_4 l0_4.length c0_4, .slice A0_5 l0_5.length c0_5, .int .i64 a0_6] 26 (0, 0)) (by (with_reducible repeat (first | refine zC ?_ _ | refine zB ?_ | refine zy ?_ _)); exact BK222.out) hb); have n1_ := za (zz (g := gb223) (o := .cells #[.slice A1_0 l1_0.length c1_0, .slice A1_1 l1_1.length c1_1, .slice A1_2 l1_2.length c1_2, .slice A1_3 l1_3.length c1_3, .slice A1_4 l1_4.length c1_4, .slice A1_5 l1_5.length c1_5, .int .i64 a1_6] 26 (0, 0)) (by (with_reducible repeat (first | refine zC ?_ _ | refine zB ?_ | refine zy ?_ _)); exact BK223.out) hb); have n2_ := za (zx (by repeat (first | (with_reducible first | exact HB.out | apply zt | apply zE | apply zu | refine zv ?_ GE222.out | refine zv ?_ GE223.out) | exact HB.out)) hb); clear BK222; clear BK223; clear HB; have BK222 := n0_; have BK223 := n1_; have HB := n2_; clear n0_ n1_ n2_; (try clear hb); (try clear hb2); (try clear hk); (try clear hi); have hcz37_0 : w36.cell? ⟨gb223, 0, none⟩ = some (.slice A1_0 l1_0.length c1_0) := (zA BK223.out 0).trans rfl; have hcz37_1 : w36.cell? ⟨gb223, 1, none⟩ = some (.slice A1_1 l1_1.length c1_1) := (zA BK223.out 1).trans rfl; have hcz37_2 : w36.cell? ⟨gb223, 2, none⟩ = some (.slice A1_2 l1_2.length c1_2) := (zA BK223.out 2).trans rfl; have hcz37_3 : w36.cell? ⟨gb223, 3, none⟩ = some (.slice A1_3 l1_3.length c1_3) := (zA BK223.out 3).trans rfl; have hcz37_4 : w36.cell? ⟨gb223, 4, none⟩ = some (.slice A1_4 l1_4.length c1_4) := (zA BK223.out 4).trans rfl; have hcz37_5 : w36.cell? ⟨gb223, 5, none⟩ = some (.slice A1_5 l1_5.length c1_5) := (zA BK223.out 5).trans rfl; have hcz37_6 : w36.cell? ⟨gb223, 6, none⟩ = some (.int .i64 a1_6) := (zA BK223.out 6).trans rfl; have hfz37_0 := zD BK223.out 0; have hfz37_1 := zD BK223.out 1; have hfz37_2 := zD BK223.out 2; have hfz37_3 := zD BK223.out 3; have hfz37_4 := zD BK223.out 4; have hfz37_5 := zD BK223.out 5; have hfz37_6 := zD BK223.out 6) | ((with_reducible refine gate_callee (f := 11) rfl ?_); refine goesL_ (some 17) rfl rfl Try.func11 (by kernel_rfl) rfl #[.agg #[.slice A1_0 l1_0.length c1_0, .slice A1_1 l1_1.length c1_1, .slice A1_2 l1_2.length c1_2, .slice A1_3 l1_3.length c1_3, .slice A1_4 l1_4.length c1_4, .slice A1_5 l1_5.length c1_5, .int .i64 a1_6], .int .i64 t224] rfl (by (try simp only [List.map_toArray, List.map_cons, List.map_nil]); first | done | rfl | (simp only [List.length_drop, List.length_take]; rfl)) ?_; (with_reducible refine (laws_szData.calls _ _ l1_0 _ _ l1_1 _ _ l1_2 _ _ l1_3 _ _ l1_4 _ _ l1_5 a1_6 t224 t225 _ ?side1 ?side2 ?side3 ?side4 ?side5 ?side6 ?side7 ?side8 ?side9 ?side10 ?side11 ?side12 A10.out).mono ?_); (case side1 => repeat (first | exact (zc HR1_0.out HB.out) | (with_reducible refine zb ?_ _) | (with_reducible refine ze ?_ _) | (with_reducible refine zd ?_))); (case side2 => exact HC1_0.out); (case side3 => repeat (first | exact (zc HR1_1.out HB.out) | (with_reducible refine zb ?_ _) | (with_reducible refine ze ?_ _) | (with_reducible refine zd ?_))); (case side4 => exact HC1_1.out); (case side5 => repeat (first | exact (zc HR1_2.out HB.out) | (with_reducible refine zb ?_ _) | (with_reducible refine ze ?_ _) | (with_reducible refine zd ?_))); (case side6 => exact HC1_2.out); (case side7 => repeat (first | exact (zc HR1_3.out HB.out) | (with_reducible refine zb ?_ _) | (with_reducible refine ze ?_ _) | (with_reducible refine zd ?_))); (case side8 => exact HC1_3.out); (case side9 => repeat (first | exact (zc HR1_4.out HB.out) | (with_reducible refine zb ?_ _) | (with_reducible refine ze ?_ _) | (with_reducible refine zd ?_))); (case side10 => exact HC1_4.out); (case side11 => repeat (first | exact (zc HR1_5.out HB.out) | (with_reducible refine zb ?_ _) | (with_reducible refine ze ?_ _) | (with_reducible refine zd ?_))); (case side12 => exact HC1_5.out); rintro e w38 ⟨rfl, hb⟩; refine ⟨_, rfl, ?_⟩; have n0_ := za (zz (g := gb222) (o := .cells #[.slice A0_0 l0_0.length c0_0, .slice A0_1 l0_1.length c0_1, .slice A0_2 l0_2.length c0_2, .slice A0_3 l0_3.length c0_3, .slice A0_4 l0_4.length c0_4, .slice A0_5 l0_5.length c0_5, .int .i64 a0_6] 26 (0, 0)) (by (with_reducible repeat (first | refine zC ?_ _ | refine zB ?_ | refine zy ?_ _)); exact BK222.out) hb); have n1_ := za (zz (g := gb223) (o := .cells #[.slice A1_0 l1_0.length c1_0, .slice A1_1 l1_1.length c1_1, .slice A1_2 l1_2.length c1_2, .slice A1_3 l1_3.length c1_3, .slice A1_4 l1_4.length c1_4, .slice A1_5 l1_5.length c1_5, .int .i64 a1_6] 26 (0, 0)) (by (with_reducible repeat (first | refine zC ?_ _ | refine zB ?_ | refine zy ?_ _)); exact BK223.out) hb); have n2_ := za (zx (by repeat (first | (with_reducible first | exact HB.out | apply zt | apply zE | apply zu | refine zv ?_ GE222.out | refine zv ?_ GE223.out) | exact HB.out)) hb); clear BK222; clear BK223; clear HB; have BK222 := n0_; have BK223 := n1_; have HB := n2_; clear n0_ n1_ n2_; (try clear hb); (try clear hb2); (try clear hk); (try clear hi)))
      have n0_ := za (zB BK222.out)
      have n1_ := za (zB BK223.out)
      have n2_ := za (zu HB.out)
      clear BK222
      clear BK223
      clear HB
      have BK222 := n0_
      have BK223 := n1_
      have HB := n2_
      clear n0_ n1_ n2_
      refine start_ (n := 6) (S := fun w' => w'.cell? ⟨gb222, 0, none⟩ = some (.slice A0_0 l0_0.length c0_0) ∧ w'.cell? ⟨gb222, 1, none⟩ = some (.slice A0_1 l0_1.length c0_1) ∧ w'.cell? ⟨gb222, 2, none⟩ = some (.slice A0_2 l0_2.length c0_2) ∧ w'.cell? ⟨gb222, 3, none⟩ = some (.slice A0_3 l0_3.length c0_3) ∧ w'.cell? ⟨gb222, 4, none⟩ = some (.slice A0_4 l0_4.length c0_4) ∧ w'.cell? ⟨gb222, 5, none⟩ = some (.slice A0_5 l0_5.length c0_5) ∧ w'.cell? ⟨gb222, 6, none⟩ = some (.int .i64 a0_6) ∧ w'.cell? ⟨gb223, 0, none⟩ = some (.slice A1_0 l1_0.length c1_0) ∧ w'.cell? ⟨gb223, 1, none⟩ = some (.slice A1_1 l1_1.length c1_1) ∧ w'.cell? ⟨gb223, 2, none⟩ = some (.slice A1_2 l1_2.length c1_2) ∧ w'.cell? ⟨gb223, 3, none⟩ = some (.slice A1_3 l1_3.length c1_3) ∧ w'.cell? ⟨gb223, 4, none⟩ = some (.slice A1_4 l1_4.length c1_4) ∧ w'.cell? ⟨gb223, 5, none⟩ = some (.slice A1_5 l1_5.length c1_5) ∧ w'.cell? ⟨gb223, 6, none⟩ = some (.int .i64 a1_6)) (ds := []) #[false, false, false, false, false, false] (by kernel_rfl) rfl rfl ⟨(zA BK222.out 0).trans rfl, (zA BK222.out 1).trans rfl, (zA BK222.out 2).trans rfl, (zA BK222.out 3).trans rfl, (zA BK222.out 4).trans rfl, (zA BK222.out 5).trans rfl, (zA BK222.out 6).trans rfl, (zA BK223.out 0).trans rfl, (zA BK223.out 1).trans rfl, (zA BK223.out 2).trans rfl, (zA BK223.out 3).trans rfl, (zA BK223.out 4).trans rfl, (zA BK223.out 5).trans rfl, (zA BK223.out 6).trans rfl⟩ (fun hHeld => ?_)
      generalize w38.drew = w39 at BK222 BK223 HB hHeld ⊢
      refine take_ (i := 0) (N := some 20) (v := ?_) (a' := ?_) #[true, false, false, false, false, false] rfl rfl (by kernel_rfl) (fun _ _ _ h => h) (Or.inl ⟨by rfl, ?_⟩) hHeld ?_ ?_
      rotate_left
      ·
       rintro w' ⟨s0, s1, s2, s3, s4, s5, s6, s7, s8, s9, s10, s11, s12, s13⟩
       go_simp
       with_reducible rfl
      rotate_left
      ·
       simp only [Act.put, List.setIfInBounds_toArray, List.set_cons_zero, List.set_cons_succ, i64_w, i32_w]
       rfl
      refine take_ (i := 2) (N := some 22) (v := ?_) (a' := ?_) #[true, false, true, false, false, false] rfl rfl (by kernel_rfl) (fun _ _ _ h => h) (Or.inl ⟨by rfl, ?_⟩) hHeld ?_ ?_
      rotate_left
      ·
       rintro w' ⟨s0, s1, s2, s3, s4, s5, s6, s7, s8, s9, s10, s11, s12, s13⟩
       go_simp
       with_reducible rfl
      rotate_left
      ·
       simp only [Act.put, List.setIfInBounds_toArray, List.set_cons_zero, List.set_cons_succ, i64_w, i32_w]
       rfl
      refine one_ (i := 1) (N := some 21) #[true, true, true, false, false, false] rfl rfl (by kernel_rfl) (by decide) (fun K hK => ?_)
      refine goes_ Try.func13 (by kernel_rfl) rfl #[.agg #[.slice A0_0 l0_0.length c0_0, .slice A0_1 l0_1.length c0_1, .slice A0_2 l0_2.length c0_2, .slice A0_3 l0_3.length c0_3, .slice A0_4 l0_4.length c0_4, .slice A0_5 l0_5.length c0_5, .int .i64 a0_6]] (by rfl) rfl rfl (by (try simp only [List.map_toArray, List.map_cons, List.map_nil]); first | done | rfl | (simp only [List.length_drop, List.length_take]; rfl)) ?_
      with_reducible refine (laws_toData.calls k _ _ l0_0 _ _ l0_1 _ _ l0_2 _ _ l0_3 _ _ l0_4 _ _ l0_5 a0_6 t226 t229 t232 t235 t238 t241 t244 _ ?side1 ?side2 ?side3 ?side4 ?side5 ?side6 ?side7 ?side8 ?side9 ?side10 ?side11 ?side12 A19.out).mono ?_
      (case side1 => repeat (first | exact (zc HR0_0.out HB.out) | (with_reducible refine zb ?_ _) | (with_reducible refine ze ?_ _) | (with_reducible refine zd ?_)))
      (case side2 => exact HC0_0.out)
      (case side3 => repeat (first | exact (zc HR0_1.out HB.out) | (with_reducible refine zb ?_ _) | (with_reducible refine ze ?_ _) | (with_reducible refine zd ?_)))
      (case side4 => exact HC0_1.out)
      (case side5 => repeat (first | exact (zc HR0_2.out HB.out) | (with_reducible refine zb ?_ _) | (with_reducible refine ze ?_ _) | (with_reducible refine zd ?_)))
      (case side6 => exact HC0_2.out)
      (case side7 => repeat (first | exact (zc HR0_3.out HB.out) | (with_reducible refine zb ?_ _) | (with_reducible refine ze ?_ _) | (with_reducible refine zd ?_)))
      (case side8 => exact HC0_3.out)
      (case side9 => repeat (first | exact (zc HR0_4.out HB.out) | (with_reducible refine zb ?_ _) | (with_reducible refine ze ?_ _) | (with_reducible refine zd ?_)))
      (case side10 => exact HC0_4.out)
      (case side11 => repeat (first | exact (zc HR0_5.out HB.out) | (with_reducible refine zb ?_ _) | (with_reducible refine ze ?_ _) | (with_reducible refine zd ?_)))
      (case side12 => exact HC0_5.out)
      rintro e w40 ⟨v227, v230, v233, v236, v239, v242, rfl, ho0, ho1, ho2, ho3, ho4, ho5, hb⟩
      refine ⟨_, rfl, ?_⟩
      have n0_ := za (zl ho0 (zw (by repeat (first | (with_reducible first | exact HB.out | apply zt | apply zE | apply zu | refine zv ?_ GE222.out | refine zv ?_ GE223.out) | exact HB.out))))
      have n1_ := za (zl ho1 (zw (by repeat (first | (with_reducible first | exact HB.out | apply zt | apply zE | apply zu | refine zv ?_ GE222.out | refine zv ?_ GE223.out) | exact HB.out))))
      have n2_ := za (zl ho2 (zw (by repeat (first | (with_reducible first | exact HB.out | apply zt | apply zE | apply zu | refine zv ?_ GE222.out | refine zv ?_ GE223.out) | exact HB.out))))
      have n3_ := za (zl ho3 (zw (by repeat (first | (with_reducible first | exact HB.out | apply zt | apply zE | apply zu | refine zv ?_ GE222.out | refine zv ?_ GE223.out) | exact HB.out))))
      have n4_ := za (zl ho4 (zw (by repeat (first | (with_reducible first | exact HB.out | apply zt | apply zE | apply zu | refine zv ?_ GE222.out | refine zv ?_ GE223.out) | exact HB.out))))
      have n5_ := za (zl ho5 (zw (by repeat (first | (with_reducible first | exact HB.out | apply zt | apply zE | apply zu | refine zv ?_ GE222.out | refine zv ?_ GE223.out) | exact HB.out))))
      have n6_ := za (zz (g := gb222) (o := .cells #[.slice A0_0 l0_0.length c0_0, .slice A0_1 l0_1.length c0_1, .slice A0_2 l0_2.length c0_2, .slice A0_3 l0_3.length c0_3, .slice A0_4 l0_4.length c0_4, .slice A0_5 l0_5.length c0_5, .int .i64 a0_6] 26 (0, 0)) (by (with_reducible repeat (first | refine zC ?_ _ | refine zB ?_ | refine zy ?_ _)); exact BK222.out) hb)
      have n7_ := za (zz (g := gb223) (o := .cells #[.slice A1_0 l1_0.length c1_0, .slice A1_1 l1_1.length c1_1, .slice A1_2 l1_2.length c1_2, .slice A1_3 l1_3.length c1_3, .slice A1_4 l1_4.length c1_4, .slice A1_5 l1_5.length c1_5, .int .i64 a1_6] 26 (0, 0)) (by (with_reducible repeat (first | refine zC ?_ _ | refine zB ?_ | refine zy ?_ _)); exact BK223.out) hb)
      have n8_ := za (zx (by repeat (first | (with_reducible first | exact HB.out | apply zt | apply zE | apply zu | refine zv ?_ GE222.out | refine zv ?_ GE223.out) | exact HB.out)) hb)
      clear BK222
      clear BK223
      clear HB
      have HO228 := n0_
      have HO231 := n1_
      have HO234 := n2_
      have HO237 := n3_
      have HO240 := n4_
      have HO243 := n5_
      have BK222 := n6_
      have BK223 := n7_
      have HB := n8_
      clear n0_ n1_ n2_ n3_ n4_ n5_ n6_ n7_ n8_
      (try clear hb)
      (try clear hb2)
      (try clear hk)
      (try clear hi)
      (try clear ho0)
      (try clear ho1)
      (try clear ho2)
      (try clear ho3)
      (try clear ho4)
      (try clear ho5)
      refine hK.out _ _ ⟨(zA BK222.out 0).trans rfl, (zA BK222.out 1).trans rfl, (zA BK222.out 2).trans rfl, (zA BK222.out 3).trans rfl, (zA BK222.out 4).trans rfl, (zA BK222.out 5).trans rfl, (zA BK222.out 6).trans rfl, (zA BK223.out 0).trans rfl, (zA BK223.out 1).trans rfl, (zA BK223.out 2).trans rfl, (zA BK223.out 3).trans rfl, (zA BK223.out 4).trans rfl, (zA BK223.out 5).trans rfl, (zA BK223.out 6).trans rfl⟩ (fun hHeld => ?_)
      clear hK K
      refine norm_ (a' := ?_) ?_ ?_
      rotate_left
      ·
       show Act.put _ (some 21) _ = _
       simp only [Act.put, List.setIfInBounds_toArray, List.set_cons_zero, List.set_cons_succ, i64_w, i32_w]
       rfl
      refine one_ (i := 3) (N := some 23) #[true, true, true, true, false, false] rfl rfl (by kernel_rfl) (by decide) (fun K hK => ?_)
      refine goes_ Try.func13 (by kernel_rfl) rfl #[.agg #[.slice A1_0 l1_0.length c1_0, .slice A1_1 l1_1.length c1_1, .slice A1_2 l1_2.length c1_2, .slice A1_3 l1_3.length c1_3, .slice A1_4 l1_4.length c1_4, .slice A1_5 l1_5.length c1_5, .int .i64 a1_6]] (by rfl) rfl rfl (by (try simp only [List.map_toArray, List.map_cons, List.map_nil]); first | done | rfl | (simp only [List.length_drop, List.length_take]; rfl)) ?_
      with_reducible refine (laws_toData.calls k _ _ l1_0 _ _ l1_1 _ _ l1_2 _ _ l1_3 _ _ l1_4 _ _ l1_5 a1_6 t245 t248 t251 t254 t257 t260 t263 _ ?side1 ?side2 ?side3 ?side4 ?side5 ?side6 ?side7 ?side8 ?side9 ?side10 ?side11 ?side12 A20.out).mono ?_
      (case side1 => repeat (first | exact (zc HR1_0.out HB.out) | (with_reducible refine zb ?_ _) | (with_reducible refine ze ?_ _) | (with_reducible refine zd ?_)))
      (case side2 => exact HC1_0.out)
      (case side3 => repeat (first | exact (zc HR1_1.out HB.out) | (with_reducible refine zb ?_ _) | (with_reducible refine ze ?_ _) | (with_reducible refine zd ?_)))
      (case side4 => exact HC1_1.out)
      (case side5 => repeat (first | exact (zc HR1_2.out HB.out) | (with_reducible refine zb ?_ _) | (with_reducible refine ze ?_ _) | (with_reducible refine zd ?_)))
      (case side6 => exact HC1_2.out)
      (case side7 => repeat (first | exact (zc HR1_3.out HB.out) | (with_reducible refine zb ?_ _) | (with_reducible refine ze ?_ _) | (with_reducible refine zd ?_)))
      (case side8 => exact HC1_3.out)
      (case side9 => repeat (first | exact (zc HR1_4.out HB.out) | (with_reducible refine zb ?_ _) | (with_reducible refine ze ?_ _) | (with_reducible refine zd ?_)))
      (case side10 => exact HC1_4.out)
      (case side11 => repeat (first | exact (zc HR1_5.out HB.out) | (with_reducible refine zb ?_ _) | (with_reducible refine ze ?_ _) | (with_reducible refine zd ?_)))
      (case side12 => exact HC1_5.out)
      rintro e w41 ⟨v246, v249, v252, v255, v258, v261, rfl, ho0, ho1, ho2, ho3, ho4, ho5, hb⟩
      refine ⟨_, rfl, ?_⟩
      have n0_ := za (zk (by (with_reducible repeat (first | apply zf | apply zj | apply zi)); exact HO228.out) (zg ho0) hb)
      have n1_ := za (zk (by (with_reducible repeat (first | apply zf | apply zj | apply zi)); exact HO231.out) (zg ho1) hb)
      have n2_ := za (zn (zs (zs (zs (zs (zp (by (with_reducible repeat (first | apply zf | apply zj | apply zi)); exact HO234.out) hb) (zg ho2)) (zg ho3)) (zg ho4)) (zg ho5)) (fun _ h_ => h_.1))
      have n3_ := za (zn (zs (zs (zs (zs (zp (by (with_reducible repeat (first | apply zf | apply zj | apply zi)); exact HO237.out) hb) (zg ho2)) (zg ho3)) (zg ho4)) (zg ho5)) (fun _ h_ => h_.1))
      have n4_ := za (zn (zs (zs (zs (zs (zp (by (with_reducible repeat (first | apply zf | apply zj | apply zi)); exact HO240.out) hb) (zg ho2)) (zg ho3)) (zg ho4)) (zg ho5)) (fun _ h_ => h_.1))
      have n5_ := za (zn (zs (zs (zs (zs (zp (by (with_reducible repeat (first | apply zf | apply zj | apply zi)); exact HO243.out) hb) (zg ho2)) (zg ho3)) (zg ho4)) (zg ho5)) (fun _ h_ => h_.1))
      have n6_ := za (zl (zo ho0 (zm (by (with_reducible repeat (first | apply zf | apply zj | apply zi)); exact HO228.out))) (zw (by repeat (first | (with_reducible first | exact HB.out | apply zt | apply zE | apply zu | refine zv ?_ GE222.out | refine zv ?_ GE223.out) | exact HB.out))))
      have n7_ := za (zl (zo ho1 (zm (by (with_reducible repeat (first | apply zf | apply zj | apply zi)); exact HO231.out))) (zw (by repeat (first | (with_reducible first | exact HB.out | apply zt | apply zE | apply zu | refine zv ?_ GE222.out | refine zv ?_ GE223.out) | exact HB.out))))
      have n8_ := za (zl (zo (zo (zo (zo ho2 (zm (by (with_reducible repeat (first | apply zf | apply zj | apply zi)); exact HO234.out))) (zm (by (with_reducible repeat (first | apply zf | apply zj | apply zi)); exact HO237.out))) (zm (by (with_reducible repeat (first | apply zf | apply zj | apply zi)); exact HO240.out))) (zm (by (with_reducible repeat (first | apply zf | apply zj | apply zi)); exact HO243.out))) (zw (by repeat (first | (with_reducible first | exact HB.out | apply zt | apply zE | apply zu | refine zv ?_ GE222.out | refine zv ?_ GE223.out) | exact HB.out))))
      have n9_ := za (zl (zo (zo (zo (zo ho3 (zm (by (with_reducible repeat (first | apply zf | apply zj | apply zi)); exact HO234.out))) (zm (by (with_reducible repeat (first | apply zf | apply zj | apply zi)); exact HO237.out))) (zm (by (with_reducible repeat (first | apply zf | apply zj | apply zi)); exact HO240.out))) (zm (by (with_reducible repeat (first | apply zf | apply zj | apply zi)); exact HO243.out))) (zw (by repeat (first | (with_reducible first | exact HB.out | apply zt | apply zE | apply zu | refine zv ?_ GE222.out | refine zv ?_ GE223.out) | exact HB.out))))
      have n10_ := za (zl (zo (zo (zo (zo ho4 (zm (by (with_reducible repeat (first | apply zf | apply zj | apply zi)); exact HO234.out))) (zm (by (with_reducible repeat (first | apply zf | apply zj | apply zi)); exact HO237.out))) (zm (by (with_reducible repeat (first | apply zf | apply zj | apply zi)); exact HO240.out))) (zm (by (with_reducible repeat (first | apply zf | apply zj | apply zi)); exact HO243.out))) (zw (by repeat (first | (with_reducible first | exact HB.out | apply zt | apply zE | apply zu | refine zv ?_ GE222.out | refine zv ?_ GE223.out) | exact HB.out))))
      have n11_ := za (zl (zo (zo (zo (zo ho5 (zm (by (with_reducible repeat (first | apply zf | apply zj | apply zi)); exact HO234.out))) (zm (by (with_reducible repeat (first | apply zf | apply zj | apply zi)); exact HO237.out))) (zm (by (with_reducible repeat (first | apply zf | apply zj | apply zi)); exact HO240.out))) (zm (by (with_reducible repeat (first | apply zf | apply zj | apply zi)); exact HO243.out))) (zw (by repeat (first | (with_reducible first | exact HB.out | apply zt | apply zE | apply zu | refine zv ?_ GE222.out | refine zv ?_ GE223.out) | exact HB.out))))
      have n12_ := za (zz (g := gb222) (o := .cells #[.slice A0_0 l0_0.length c0_0, .slice A0_1 l0_1.length c0_1, .slice A0_2 l0_2.length c0_2, .slice A0_3 l0_3.length c0_3, .slice A0_4 l0_4.length c0_4, .slice A0_5 l0_5.length c0_5, .int .i64 a0_6] 26 (0, 0)) (by (with_reducible repeat (first | refine zC ?_ _ | refine zB ?_ | refine zy ?_ _)); exact BK222.out) hb)
      have n13_ := za (zz (g := gb223) (o := .cells #[.slice A1_0 l1_0.length c1_0, .slice A1_1 l1_1.length c1_1, .slice A1_2 l1_2.length c1_2, .slice A1_3 l1_3.length c1_3, .slice A1_4 l1_4.length c1_4, .slice A1_5 l1_5.length c1_5, .int .i64 a1_6] 26 (0, 0)) (by (with_reducible repeat (first | refine zC ?_ _ | refine zB ?_ | refine zy ?_ _)); exact BK223.out) hb)
      have n14_ := za (zx (by repeat (first | (with_reducible first | exact HB.out | apply zt | apply zE | apply zu | refine zv ?_ GE222.out | refine zv ?_ GE223.out) | exact HB.out)) hb)
      clear HO228
      clear HO231
      clear HO234
      clear HO237
      clear HO240
      clear HO243
      clear BK222
      clear BK223
      clear HB
      have HO228 := n0_
      have HO231 := n1_
      have HO234 := n2_
      have HO237 := n3_
      have HO240 := n4_
      have HO243 := n5_
      have HO247 := n6_
      have HO250 := n7_
      have HO253 := n8_
      have HO256 := n9_
      have HO259 := n10_
      have HO262 := n11_
      have BK222 := n12_
      have BK223 := n13_
      have HB := n14_
      clear n0_ n1_ n2_ n3_ n4_ n5_ n6_ n7_ n8_ n9_ n10_ n11_ n12_ n13_ n14_
      (try clear hb)
      (try clear hb2)
      (try clear hk)
      (try clear hi)
      (try clear ho0)
      (try clear ho1)
      (try clear ho2)
      (try clear ho3)
      (try clear ho4)
      (try clear ho5)
      obtain ⟨Ao42, co42, eo42⟩ := zr HO228.out
      (first | subst eo42 | (injection eo42 with f1_ f2_ f3_; have f4_ := f1_.symm; have f5_ := f3_.symm; clear f1_ f2_ f3_; subst f4_; subst f5_))
      obtain ⟨Ao43, co43, eo43⟩ := zr HO231.out
      (first | subst eo43 | (injection eo43 with f1_ f2_ f3_; have f4_ := f1_.symm; have f5_ := f3_.symm; clear f1_ f2_ f3_; subst f4_; subst f5_))
      obtain ⟨Ao44, co44, eo44⟩ := zr HO234.out
      (first | subst eo44 | (injection eo44 with f1_ f2_ f3_; have f4_ := f1_.symm; have f5_ := f3_.symm; clear f1_ f2_ f3_; subst f4_; subst f5_))
      obtain ⟨Ao45, co45, eo45⟩ := zr HO237.out
      (first | subst eo45 | (injection eo45 with f1_ f2_ f3_; have f4_ := f1_.symm; have f5_ := f3_.symm; clear f1_ f2_ f3_; subst f4_; subst f5_))
      obtain ⟨Ao46, co46, eo46⟩ := zr HO240.out
      (first | subst eo46 | (injection eo46 with f1_ f2_ f3_; have f4_ := f1_.symm; have f5_ := f3_.symm; clear f1_ f2_ f3_; subst f4_; subst f5_))
      obtain ⟨Ao47, co47, eo47⟩ := zr HO243.out
      (first | subst eo47 | (injection eo47 with f1_ f2_ f3_; have f4_ := f1_.symm; have f5_ := f3_.symm; clear f1_ f2_ f3_; subst f4_; subst f5_))
      obtain ⟨Ao48, co48, eo48⟩ := zr HO247.out
      (first | subst eo48 | (injection eo48 with f1_ f2_ f3_; have f4_ := f1_.symm; have f5_ := f3_.symm; clear f1_ f2_ f3_; subst f4_; subst f5_))
      obtain ⟨Ao49, co49, eo49⟩ := zr HO250.out
      (first | subst eo49 | (injection eo49 with f1_ f2_ f3_; have f4_ := f1_.symm; have f5_ := f3_.symm; clear f1_ f2_ f3_; subst f4_; subst f5_))
      obtain ⟨Ao50, co50, eo50⟩ := zr HO253.out
      (first | subst eo50 | (injection eo50 with f1_ f2_ f3_; have f4_ := f1_.symm; have f5_ := f3_.symm; clear f1_ f2_ f3_; subst f4_; subst f5_))
      obtain ⟨Ao51, co51, eo51⟩ := zr HO256.out
      (first | subst eo51 | (injection eo51 with f1_ f2_ f3_; have f4_ := f1_.symm; have f5_ := f3_.symm; clear f1_ f2_ f3_; subst f4_; subst f5_))
      obtain ⟨Ao52, co52, eo52⟩ := zr HO259.out
      (first | subst eo52 | (injection eo52 with f1_ f2_ f3_; have f4_ := f1_.symm; have f5_ := f3_.symm; clear f1_ f2_ f3_; subst f4_; subst f5_))
      obtain ⟨Ao53, co53, eo53⟩ := zr HO262.out
      (first | subst eo53 | (injection eo53 with f1_ f2_ f3_; have f4_ := f1_.symm; have f5_ := f3_.symm; clear f1_ f2_ f3_; subst f4_; subst f5_))
      refine hK.out _ _ ⟨(zA BK222.out 0).trans rfl, (zA BK222.out 1).trans rfl, (zA BK222.out 2).trans rfl, (zA BK222.out 3).trans rfl, (zA BK222.out 4).trans rfl, (zA BK222.out 5).trans rfl, (zA BK222.out 6).trans rfl, (zA BK223.out 0).trans rfl, (zA BK223.out 1).trans rfl, (zA BK223.out 2).trans rfl, (zA BK223.out 3).trans rfl, (zA BK223.out 4).trans rfl, (zA BK223.out 5).trans rfl, (zA BK223.out 6).trans rfl⟩ (fun hHeld => ?_)
      clear hK K
      refine norm_ (a' := ?_) ?_ ?_
      rotate_left
      ·
       show Act.put _ (some 23) _ = _
       simp only [Act.put, List.setIfInBounds_toArray, List.set_cons_zero, List.set_cons_succ, i64_w, i32_w]
       rfl
      refine one_ (i := 4) (N := some 24) #[true, true, true, true, true, false] rfl rfl (by kernel_rfl) (by decide) (fun K hK => ?_)
      refine goes_ Try.func23 (by kernel_rfl) rfl #[.agg #[.slice Ao42 t226.length co42, .slice Ao43 t229.length co43, .slice Ao44 t232.length co44, .slice Ao45 t235.length co45, .slice Ao46 t238.length co46, .slice Ao47 t241.length co47, .int .i64 t244], .agg #[.slice Ao48 t245.length co48, .slice Ao49 t248.length co49, .slice Ao50 t251.length co50, .slice Ao51 t254.length co51, .slice Ao52 t257.length co52, .slice Ao53 t260.length co53, .int .i64 t263]] (by rfl) rfl rfl (by (try simp only [List.map_toArray, List.map_cons, List.map_nil]); first | done | rfl | (simp only [List.length_drop, List.length_take]; rfl)) ?_
      with_reducible refine (spec_SameData.calls k _ _ t226 _ _ t229 _ _ t232 _ _ t235 _ _ t238 _ _ t241 t244 _ _ t245 _ _ t248 _ _ t251 _ _ t254 _ _ t257 _ _ t260 t263 t264 _ ?side1 ?side2 ?side3 ?side4 ?side5 ?side6 ?side7 ?side8 ?side9 ?side10 ?side11 ?side12 ?side13 ?side14 ?side15 ?side16 ?side17 ?side18 ?side19 ?side20 ?side21 ?side22 ?side23 ?side24 A21.out).mono ?_
      (case side1 => repeat (first | exact (zq HO228.out).2.2 | (with_reducible refine zb ?_ _) | (with_reducible refine ze ?_ _) | (with_reducible refine zd ?_)))
      (case side2 => exact (zq HO228.out).2.1)
      (case side3 => repeat (first | exact (zq HO231.out).2.2 | (with_reducible refine zb ?_ _) | (with_reducible refine ze ?_ _) | (with_reducible refine zd ?_)))
      (case side4 => exact (zq HO231.out).2.1)
      (case side5 => repeat (first | exact (zq HO234.out).2.2 | (with_reducible refine zb ?_ _) | (with_reducible refine ze ?_ _) | (with_reducible refine zd ?_)))
      (case side6 => exact (zq HO234.out).2.1)
      (case side7 => repeat (first | exact (zq HO237.out).2.2 | (with_reducible refine zb ?_ _) | (with_reducible refine ze ?_ _) | (with_reducible refine zd ?_)))
      (case side8 => exact (zq HO237.out).2.1)
      (case side9 => repeat (first | exact (zq HO240.out).2.2 | (with_reducible refine zb ?_ _) | (with_reducible refine ze ?_ _) | (with_reducible refine zd ?_)))
      (case side10 => exact (zq HO240.out).2.1)
      (case side11 => repeat (first | exact (zq HO243.out).2.2 | (with_reducible refine zb ?_ _) | (with_reducible refine ze ?_ _) | (with_reducible refine zd ?_)))
      (case side12 => exact (zq HO243.out).2.1)
      (case side13 => repeat (first | exact (zq HO247.out).2.2 | (with_reducible refine zb ?_ _) | (with_reducible refine ze ?_ _) | (with_reducible refine zd ?_)))
      (case side14 => exact (zq HO247.out).2.1)
      (case side15 => repeat (first | exact (zq HO250.out).2.2 | (with_reducible refine zb ?_ _) | (with_reducible refine ze ?_ _) | (with_reducible refine zd ?_)))
      (case side16 => exact (zq HO250.out).2.1)
      (case side17 => repeat (first | exact (zq HO253.out).2.2 | (with_reducible refine zb ?_ _) | (with_reducible refine ze ?_ _) | (with_reducible refine zd ?_)))
      (case side18 => exact (zq HO253.out).2.1)
      (case side19 => repeat (first | exact (zq HO256.out).2.2 | (with_reducible refine zb ?_ _) | (with_reducible refine ze ?_ _) | (with_reducible refine zd ?_)))
      (case side20 => exact (zq HO256.out).2.1)
      (case side21 => repeat (first | exact (zq HO259.out).2.2 | (with_reducible refine zb ?_ _) | (with_reducible refine ze ?_ _) | (with_reducible refine zd ?_)))
      (case side22 => exact (zq HO259.out).2.1)
      (case side23 => repeat (first | exact (zq HO262.out).2.2 | (with_reducible refine zb ?_ _) | (with_reducible refine ze ?_ _) | (with_reducible refine zd ?_)))
      (case side24 => exact (zq HO262.out).2.1)
      rintro e w54 ⟨rfl, hb⟩
      refine ⟨_, rfl, ?_⟩
      have n0_ := za (zh (by (with_reducible repeat (first | apply zf | apply zj | apply zi)); exact HO228.out) hb)
      have n1_ := za (zh (by (with_reducible repeat (first | apply zf | apply zj | apply zi)); exact HO231.out) hb)
      have n2_ := za (zh (by (with_reducible repeat (first | apply zf | apply zj | apply zi)); exact HO234.out) hb)
      have n3_ := za (zh (by (with_reducible repeat (first | apply zf | apply zj | apply zi)); exact HO237.out) hb)
      have n4_ := za (zh (by (with_reducible repeat (first | apply zf | apply zj | apply zi)); exact HO240.out) hb)
      have n5_ := za (zh (by (with_reducible repeat (first | apply zf | apply zj | apply zi)); exact HO243.out) hb)
      have n6_ := za (zh (by (with_reducible repeat (first | apply zf | apply zj | apply zi)); exact HO247.out) hb)
      have n7_ := za (zh (by (with_reducible repeat (first | apply zf | apply zj | apply zi)); exact HO250.out) hb)
      have n8_ := za (zh (by (with_reducible repeat (first | apply zf | apply zj | apply zi)); exact HO253.out) hb)
      have n9_ := za (zh (by (with_reducible repeat (first | apply zf | apply zj | apply zi)); exact HO256.out) hb)
      have n10_ := za (zh (by (with_reducible repeat (first | apply zf | apply zj | apply zi)); exact HO259.out) hb)
      have n11_ := za (zh (by (with_reducible repeat (first | apply zf | apply zj | apply zi)); exact HO262.out) hb)
      have n12_ := za (zz (g := gb222) (o := .cells #[.slice A0_0 l0_0.length c0_0, .slice A0_1 l0_1.length c0_1, .slice A0_2 l0_2.length c0_2, .slice A0_3 l0_3.length c0_3, .slice A0_4 l0_4.length c0_4, .slice A0_5 l0_5.length c0_5, .int .i64 a0_6] 26 (0, 0)) (by (with_reducible repeat (first | refine zC ?_ _ | refine zB ?_ | refine zy ?_ _)); exact BK222.out) hb)
      have n13_ := za (zz (g := gb223) (o := .cells #[.slice A1_0 l1_0.length c1_0, .slice A1_1 l1_1.length c1_1, .slice A1_2 l1_2.length c1_2, .slice A1_3 l1_3.length c1_3, .slice A1_4 l1_4.length c1_4, .slice A1_5 l1_5.length c1_5, .int .i64 a1_6] 26 (0, 0)) (by (with_reducible repeat (first | refine zC ?_ _ | refine zB ?_ | refine zy ?_ _)); exact BK223.out) hb)
      have n14_ := za (zx (by repeat (first | (with_reducible first | exact HB.out | apply zt | apply zE | apply zu | refine zv ?_ GE222.out | refine zv ?_ GE223.out) | exact HB.out)) hb)
      clear HO228
      clear HO231
      clear HO234
      clear HO237
      clear HO240
      clear HO243
      clear HO247
      clear HO250
      clear HO253
      clear HO256
      clear HO259
      clear HO262
      clear BK222
      clear BK223
      clear HB
      have HO228 := n0_
      have HO231 := n1_
      have HO234 := n2_
      have HO237 := n3_
      have HO240 := n4_
      have HO243 := n5_
      have HO247 := n6_
      have HO250 := n7_
      have HO253 := n8_
      have HO256 := n9_
      have HO259 := n10_
      have HO262 := n11_
      have BK222 := n12_
      have BK223 := n13_
      have HB := n14_
      clear n0_ n1_ n2_ n3_ n4_ n5_ n6_ n7_ n8_ n9_ n10_ n11_ n12_ n13_ n14_
      (try clear hb)
      (try clear hb2)
      (try clear hk)
      (try clear hi)
      refine hK.out _ _ ⟨(zA BK222.out 0).trans rfl, (zA BK222.out 1).trans rfl, (zA BK222.out 2).trans rfl, (zA BK222.out 3).trans rfl, (zA BK222.out 4).trans rfl, (zA BK222.out 5).trans rfl, (zA BK222.out 6).trans rfl, (zA BK223.out 0).trans rfl, (zA BK223.out 1).trans rfl, (zA BK223.out 2).trans rfl, (zA BK223.out 3).trans rfl, (zA BK223.out 4).trans rfl, (zA BK223.out 5).trans rfl, (zA BK223.out 6).trans rfl⟩ (fun hHeld => ?_)
      clear hK K
      refine norm_ (a' := ?_) ?_ ?_
      rotate_left
      ·
       show Act.put _ (some 24) _ = _
       simp only [Act.put, List.setIfInBounds_toArray, List.set_cons_zero, List.set_cons_succ, i64_w, i32_w]
       rfl
      refine pure_ (i := 5) (N := some 6) (v := ?_) (a' := ?_) #[true, true, true, true, true, true] rfl rfl (by kernel_rfl) (fun _ _ _ h => h) (Or.inl ⟨by rfl, ?_⟩) ?_ ?_
      rotate_left
      ·
       intro w'
       go_simp
       with_reducible rfl
      rotate_left
      ·
       simp only [Act.put, List.setIfInBounds_toArray, List.set_cons_zero, List.set_cons_succ, i64_w, i32_w]
       rfl
      refine done_ (by kernel_rfl) ?_
      have hcz55_0 : w54.cell? ⟨gb222, 0, none⟩ = some (.slice A0_0 l0_0.length c0_0) := (zA BK222.out 0).trans rfl
      have hcz55_1 : w54.cell? ⟨gb222, 1, none⟩ = some (.slice A0_1 l0_1.length c0_1) := (zA BK222.out 1).trans rfl
      have hcz55_2 : w54.cell? ⟨gb222, 2, none⟩ = some (.slice A0_2 l0_2.length c0_2) := (zA BK222.out 2).trans rfl
      have hcz55_3 : w54.cell? ⟨gb222, 3, none⟩ = some (.slice A0_3 l0_3.length c0_3) := (zA BK222.out 3).trans rfl
      have hcz55_4 : w54.cell? ⟨gb222, 4, none⟩ = some (.slice A0_4 l0_4.length c0_4) := (zA BK222.out 4).trans rfl
      have hcz55_5 : w54.cell? ⟨gb222, 5, none⟩ = some (.slice A0_5 l0_5.length c0_5) := (zA BK222.out 5).trans rfl
      have hcz55_6 : w54.cell? ⟨gb222, 6, none⟩ = some (.int .i64 a0_6) := (zA BK222.out 6).trans rfl
      have hfz55_0 := zD BK222.out 0
      have hfz55_1 := zD BK222.out 1
      have hfz55_2 := zD BK222.out 2
      have hfz55_3 := zD BK222.out 3
      have hfz55_4 := zD BK222.out 4
      have hfz55_5 := zD BK222.out 5
      have hfz55_6 := zD BK222.out 6
      try go_wp2_with (first | ((with_reducible refine gate_callee (f := 13) rfl ?_); refine goesL_ (some 26) rfl rfl Try.func13 (by kernel_rfl) rfl #[.agg #[.slice A0_0 l0_0.length c0_0, .slice A0_1 l0_1.length c0_1, .slice A0_2 l0_2.length c0_2, .slice A0_3 l0_3.length c0_3, .slice A0_4 l0_4.length c0_4, .slice A0_5 l0_5.length c0_5, .int .i64 a0_6]] rfl (by (try simp only [List.map_toArray, List.map_cons, List.map_nil]); first | done | rfl | (simp only [List.length_drop, List.length_take]; rfl)) ?_; (with_reducible refine (laws_toData.calls k _ _ l0_0 _ _ l0_1 _ _ l0_2 _ _ l0_3 _ _ l0_4 _ _ l0_5 a0_6 t265 t268 t271 t274 t277 t280 t283 _ ?side1 ?side2 ?side3 ?side4 ?side5 ?side6 ?side7 ?side8 ?side9 ?side10 ?side11 ?side12 A22.out).mono ?_); (case side1 => repeat (first | exact (zc HR0_0.out HB.out) | (with_reducible refine zb ?_ _) | (with_reducible refine ze ?_ _) | (with_reducible refine zd ?_))); (case side2 => exact HC0_0.out); (case side3 => repeat (first | exact (zc HR0_1.out HB.out) | (with_reducible refine zb ?_ _) | (with_reducible refine ze ?_ _) | (with_reducible refine zd ?_))); (case side4 => exact HC0_1.out); (case side5 => repeat (first | exact (zc HR0_2.out HB.out) | (with_reducible refine zb ?_ _) | (with_reducible refine ze ?_ _) | (with_reducible refine zd ?_))); (case side6 => exact HC0_2.out); (case side7 => repeat (first | exact (zc HR0_3.out HB.out) | (with_reducible refine zb ?_ _) | (with_reducible refine ze ?_ _) | (with_reducible refine zd ?_))); (case side8 => exact HC0_3.out); (case side9 => repeat (first | exact (zc HR0_4.out HB.out) | (with_reducible refine zb ?_ _) | (with_reducible refine ze ?_ _) | (with_reducible refine zd ?_))); (case side10 => exact HC0_4.out); (case side11 => repeat (first | exact (zc HR0_5.out HB.out) | (with_reducible refine zb ?_ _) | (with_reducible refine ze ?_ _) | (with_reducible refine zd ?_))); (case side12 => exact HC0_5.out); rintro e w56 ⟨v266, v269, v272, v275, v278, v281, rfl, ho0, ho1, ho2, ho3, ho4, ho5, hb⟩; refine ⟨_, rfl, ?_⟩; have n0_ := za (zk (by (with_reducible repeat (first | apply zf | apply zj | apply zi)); exact HO228.out) (zg ho0) hb); have n1_ := za (zk (by (with_reducible repeat (first | apply zf | apply zj | apply zi)); exact HO231.out) (zg ho1) hb); have n2_ := za (zn (zs (zs (zs (zs (zp (by (with_reducible repeat (first | apply zf | apply zj | apply zi)); exact HO234.out) hb) (zg ho2)) (zg ho3)) (zg ho4)) (zg ho5)) (fun _ h_ => h_.1)); have n3_ := za (zn (zs (zs (zs (zs (zp (by (with_reducible repeat (first | apply zf | apply zj | apply zi)); exact HO237.out) hb) (zg ho2)) (zg ho3)) (zg ho4)) (zg ho5)) (fun _ h_ => h_.1)); have n4_ := za (zn (zs (zs (zs (zs (zp (by (with_reducible repeat (first | apply zf | apply zj | apply zi)); exact HO240.out) hb) (zg ho2)) (zg ho3)) (zg ho4)) (zg ho5)) (fun _ h_ => h_.1)); have n5_ := za (zn (zs (zs (zs (zs (zp (by (with_reducible repeat (first | apply zf | apply zj | apply zi)); exact HO243.out) hb) (zg ho2)) (zg ho3)) (zg ho4)) (zg ho5)) (fun _ h_ => h_.1)); have n6_ := za (zk (by (with_reducible repeat (first | apply zf | apply zj | apply zi)); exact HO247.out) (zg ho0) hb); have n7_ := za (zk (by (with_reducible repeat (first | apply zf | apply zj | apply zi)); exact HO250.out) (zg ho1) hb); have n8_ := za (zn (zs (zs (zs (zs (zp (by (with_reducible repeat (first | apply zf | apply zj | apply zi)); exact HO253.out) hb) (zg ho2)) (zg ho3)) (zg ho4)) (zg ho5)) (fun _ h_ => h_.1)); have n9_ := za (zn (zs (zs (zs (zs (zp (by (with_reducible repeat (first | apply zf | apply zj | apply zi)); exact HO256.out) hb) (zg ho2)) (zg ho3)) (zg ho4)) (zg ho5)) (fun _ h_ => h_.1)); have n10_ := za (zn (zs (zs (zs (zs (zp (by (with_reducible repeat (first | apply zf | apply zj | apply zi)); exact HO259.out) hb) (zg ho2)) (zg ho3)) (zg ho4)) (zg ho5)) (fun _ h_ => h_.1)); have n11_ := za (zn (zs (zs (zs (zs (zp (by (with_reducible repeat (first | apply zf | apply zj | apply zi)); exact HO262.out) hb) (zg ho2)) (zg ho3)) (zg ho4)) (zg ho5)) (fun _ h_ => h_.1)); have n12_ := za (zl (zo (zo ho0 (zm (by (with_reducible repeat (first | apply zf | apply zj | apply zi)); exact HO228.out))) (zm (by (with_reducible repeat (first | apply zf | apply zj | apply zi)); exact HO247.out))) (zw (by repeat (first | (with_reducible first | exact HB.out | apply zt | apply zE | apply zu | refine zv ?_ GE222.out | refine zv ?_ GE223.out) | exact HB.out)))); have n13_ := za (zl (zo (zo ho1 (zm (by (with_reducible repeat (first | apply zf | apply zj | apply zi)); exact HO231.out))) (zm (by (with_reducible repeat (first | apply zf | apply zj | apply zi)); exact HO250.out))) (zw (by repeat (first | (with_reducible first | exact HB.out | apply zt | apply zE | apply zu | refine zv ?_ GE222.out | refine zv ?_ GE223.out) | exact HB.out)))); have n14_ := za (zl (zo (zo (zo (zo (zo (zo (zo (zo ho2 (zm (by (with_reducible repeat (first | apply zf | apply zj | apply zi)); exact HO234.out))) (zm (by (with_reducible repeat (first | apply zf | apply zj | apply zi)); exact HO237.out))) (zm (by (with_reducible repeat (first | apply zf | apply zj | apply zi)); exact HO240.out))) (zm (by (with_reducible repeat (first | apply zf | apply zj | apply zi)); exact HO243.out))) (zm (by (with_reducible repeat (first | apply zf | apply zj | apply zi)); exact HO253.out))) (zm (by (with_reducible repeat (first | apply zf | apply zj | apply zi)); exact HO256.out))) (zm (by (with_reducible repeat (first | apply zf | apply zj | apply zi)); exact HO259.out))) (zm (by (with_reducible repeat (first | apply zf | apply zj | apply zi)); exact HO262.out))) (zw (by repeat (first | (with_reducible first | exact HB.out | apply zt | apply zE | apply zu | refine zv ?_ GE222.out | refine zv ?_ GE223.out) | exact HB.out)))); have n15_ := za (zl (zo (zo (zo (zo (zo (zo (zo (zo ho3 (zm (by (with_reducible repeat (first | apply zf | apply zj | apply zi)); exact HO234.out))) (zm (by (with_reducible repeat (first | apply zf | apply zj | apply zi)); exact HO237.out))) (zm (by (with_reducible repeat (first | apply zf | apply zj | apply zi)); exact HO240.out))) (zm (by (with_reducible repeat (first | apply zf | apply zj | apply zi)); exact HO243.out))) (zm (by (with_reducible repeat (first | apply zf | apply zj | apply zi)); exact HO253.out))) (zm (by (with_reducible repeat (first | apply zf | apply zj | apply zi)); exact HO256.out))) (zm (by (with_reducible repeat (first | apply zf | apply zj | apply zi)); exact HO259.out))) (zm (by (with_reducible repeat (first | apply zf | apply zj | apply zi)); exact HO262.out))) (zw (by repeat (first | (with_reducible first | exact HB.out | apply zt | apply zE | apply zu | refine zv ?_ GE222.out | refine zv ?_ GE223.out) | exact HB.out)))); have n16_ := za (zl (zo (zo (zo (zo (zo (zo (zo (zo ho4 (zm (by (with_reducible repeat (first | apply zf | apply zj | apply zi)); exact HO234.out))) (zm (by (with_reducible repeat (first | apply zf | apply zj | apply zi)); exact HO237.out))) (zm (by (with_reducible repeat (first | apply zf | apply zj | apply zi)); exact HO240.out))) (zm (by (with_reducible repeat (first | apply zf | apply zj | apply zi)); exact HO243.out))) (zm (by (with_reducible repeat (first | apply zf | apply zj | apply zi)); exact HO253.out))) (zm (by (with_reducible repeat (first | apply zf | apply zj | apply zi)); exact HO256.out))) (zm (by (with_reducible repeat (first | apply zf | apply zj | apply zi)); exact HO259.out))) (zm (by (with_reducible repeat (first | apply zf | apply zj | apply zi)); exact HO262.out))) (zw (by repeat (first | (with_reducible first | exact HB.out | apply zt | apply zE | apply zu | refine zv ?_ GE222.out | refine zv ?_ GE223.out) | exact HB.out)))); have n17_ := za (zl (zo (zo (zo (zo (zo (zo (zo (zo ho5 (zm (by (with_reducible repeat (first | apply zf | apply zj | apply zi)); exact HO234.out))) (zm (by (with_reducible repeat (first | apply zf | apply zj | apply zi)); exact HO237.out))) (zm (by (with_reducible repeat (first | apply zf | apply zj | apply zi)); exact HO240.out))) (zm (by (with_reducible repeat (first | apply zf | apply zj | apply zi)); exact HO243.out))) (zm (by (with_reducible repeat (first | apply zf | apply zj | apply zi)); exact HO253.out))) (zm (by (with_reducible repeat (first | apply zf | apply zj | apply zi)); exact HO256.out))) (zm (by (with_reducible repeat (first | apply zf | apply zj | apply zi)); exact HO259.out))) (zm (by (with_reducible repeat (first | apply zf | apply zj | apply zi)); exact HO262.out))) (zw (by repeat (first | (with_reducible first | exact HB.out | apply zt | apply zE | apply zu | refine zv ?_ GE222.out | refine zv ?_ GE223.out) | exact HB.out)))); have n18_ := za (zz (g := gb222) (o := .cells #[.slice A0_0 l0_0.length c0_0, .slice A0_1 l0_1.length c0_1, .slice A0_2 l0_2.length c0_2, .slice A0_3 l0_3.length c0_3, .slice A0_4 l0_4.length c0_4, .slice A0_5 l0_5.length c0_5, .int .i64 a0_6] 26 (0, 0)) (by (with_reducible repeat (first | refine zC ?_ _ | refine zB ?_ | refine zy ?_ _)); exact BK222.out) hb); have n19_ := za (zz (g := gb223) (o := .cells #[.slice A1_0 l1_0.length c1_0, .slice A1_1 l1_1.length c1_1, .slice A1_2 l1_2.length c1_2, .slice A1_3 l1_3.length c1_3, .slice A1_4 l1_4.length c1_4, .slice A1_5 l1_5.length c1_5, .int .i64 a1_6] 26 (0, 0)) (by (with_reducible repeat (first | refine zC ?_ _ | refine zB ?_ | refine zy ?_ _)); exact BK223.out) hb); have n20_ := za (zx (by repeat (first | (with_reducible first | exact HB.out | apply zt | apply zE | apply zu | refine zv ?_ GE222.out | refine zv ?_ GE223.out) | exact HB.out)) hb); clear HO228; clear HO231; clear HO234; clear HO237; clear HO240; clear HO243; clear HO247; clear HO250; clear HO253; clear HO256; clear HO259; clear HO262; clear BK222; clear BK223; clear HB; have HO228 := n0_; have HO231 := n1_; have HO234 := n2_; have HO237 := n3_; have HO240 := n4_; have HO243 := n5_; have HO247 := n6_; have HO250 := n7_; have HO253 := n8_; have HO256 := n9_; have HO259 := n10_; have HO262 := n11_; have HO267 := n12_; have HO270 := n13_; have HO273 := n14_; have HO276 := n15_; have HO279 := n16_; have HO282 := n17_; have BK222 := n18_; have BK223 := n19_; have HB := n20_; clear n0_ n1_ n2_ n3_ n4_ n5_ n6_ n7_ n8_ n9_ n10_ n11_ n12_ n13_ n14_ n15_ n16_ n17_ n18_ n19_ n20_; (try clear hb); (try clear hb2); (try clear hk); (try clear hi); (try clear ho0); (try clear ho1); (try clear ho2); (try clear ho3); (try clear ho4); (try clear ho5)) | ((with_reducible refine gate_dst (N := 7) rfl ?_); refine box_event ?hg (N := 7) ?hd (cs := #[.slice none 0 0, .slice none 0 0, .slice none 0 0, .slice none 0 0, .slice none 0 0, .slice none 0 0, .int .i64 0]) (t := 31) ?hr ?_; (case hd => rfl); (case hg => rfl); (case hr => first | (go_simp; done) | (go_simp; rfl)); intro gb284 hg w57 hbox hb; have n0_ := za (zh (by (with_reducible repeat (first | apply zf | apply zj | apply zi)); exact HO228.out) hb); have n1_ := za (zh (by (with_reducible repeat (first | apply zf | apply zj | apply zi)); exact HO231.out) hb); have n2_ := za (zh (by (with_reducible repeat (first | apply zf | apply zj | apply zi)); exact HO234.out) hb); have n3_ := za (zh (by (with_reducible repeat (first | apply zf | apply zj | apply zi)); exact HO237.out) hb); have n4_ := za (zh (by (with_reducible repeat (first | apply zf | apply zj | apply zi)); exact HO240.out) hb); have n5_ := za (zh (by (with_reducible repeat (first | apply zf | apply zj | apply zi)); exact HO243.out) hb); have n6_ := za (zh (by (with_reducible repeat (first | apply zf | apply zj | apply zi)); exact HO247.out) hb); have n7_ := za (zh (by (with_reducible repeat (first | apply zf | apply zj | apply zi)); exact HO250.out) hb); have n8_ := za (zh (by (with_reducible repeat (first | apply zf | apply zj | apply zi)); exact HO253.out) hb); have n9_ := za (zh (by (with_reducible repeat (first | apply zf | apply zj | apply zi)); exact HO256.out) hb); have n10_ := za (zh (by (with_reducible repeat (first | apply zf | apply zj | apply zi)); exact HO259.out) hb); have n11_ := za (zh (by (with_reducible repeat (first | apply zf | apply zj | apply zi)); exact HO262.out) hb); have n12_ := za (zh (by (with_reducible repeat (first | apply zf | apply zj | apply zi)); exact HO267.out) hb); have n13_ := za (zh (by (with_reducible repeat (first | apply zf | apply zj | apply zi)); exact HO270.out) hb); have n14_ := za (zh (by (with_reducible repeat (first | apply zf | apply zj | apply zi)); exact HO273.out) hb); have n15_ := za (zh (by (with_reducible repeat (first | apply zf | apply zj | apply zi)); exact HO276.out) hb); have n16_ := za (zh (by (with_reducible repeat (first | apply zf | apply zj | apply zi)); exact HO279.out) hb); have n17_ := za (zh (by (with_reducible repeat (first | apply zf | apply zj | apply zi)); exact HO282.out) hb); have n18_ := za (zz (g := gb222) (o := .cells #[.slice A0_0 l0_0.length c0_0, .slice A0_1 l0_1.length c0_1, .slice A0_2 l0_2.length c0_2, .slice A0_3 l0_3.length c0_3, .slice A0_4 l0_4.length c0_4, .slice A0_5 l0_5.length c0_5, .int .i64 a0_6] 26 (0, 0)) (by (with_reducible repeat (first | refine zC ?_ _ | refine zB ?_ | refine zy ?_ _)); exact BK222.out) hb); have n19_ := za (zz (g := gb223) (o := .cells #[.slice A1_0 l1_0.length c1_0, .slice A1_1 l1_1.length c1_1, .slice A1_2 l1_2.length c1_2, .slice A1_3 l1_3.length c1_3, .slice A1_4 l1_4.length c1_4, .slice A1_5 l1_5.length c1_5, .int .i64 a1_6] 26 (0, 0)) (by (with_reducible repeat (first | refine zC ?_ _ | refine zB ?_ | refine zy ?_ _)); exact BK223.out) hb); have n20_ := za (zx (by repeat (first | (with_reducible first | exact HB.out | apply zt | apply zE | apply zu | refine zv ?_ GE222.out | refine zv ?_ GE223.out) | exact HB.out)) hb); have n21_ := za (hbox); have n22_ := za ((by rw [hg]; exact (zw (by repeat (first | (with_reducible first | exact HB.out | apply zt | apply zE | apply zu | refine zv ?_ GE222.out | refine zv ?_ GE223.out) | exact HB.out))) : w.heap.size ≤ gb284)); have n23_ := za ((by rw [hg]; exact (zw (by repeat (first | (with_reducible first | exact HB.out | apply zt | apply zE | apply zu | refine zv ?_ GE222.out | refine zv ?_ GE223.out) | exact HB.out))) : w.heap.size ≤ gb284)); have n24_ := za ((by rw [hg]; exact Nat.ne_of_lt (blk_lt (g := gb222) (o := .cells #[.slice A0_0 l0_0.length c0_0, .slice A0_1 l0_1.length c0_1, .slice A0_2 l0_2.length c0_2, .slice A0_3 l0_3.length c0_3, .slice A0_4 l0_4.length c0_4, .slice A0_5 l0_5.length c0_5, .int .i64 a0_6] 26 (0, 0)) (by (with_reducible repeat (first | refine zC ?_ _ | refine zB ?_ | refine zy ?_ _)); exact BK222.out)) : gb222 ≠ gb284)); have n25_ := za ((by rw [hg]; exact Nat.ne_of_gt (blk_lt (g := gb222) (o := .cells #[.slice A0_0 l0_0.length c0_0, .slice A0_1 l0_1.length c0_1, .slice A0_2 l0_2.length c0_2, .slice A0_3 l0_3.length c0_3, .slice A0_4 l0_4.length c0_4, .slice A0_5 l0_5.length c0_5, .int .i64 a0_6] 26 (0, 0)) (by (with_reducible repeat (first | refine zC ?_ _ | refine zB ?_ | refine zy ?_ _)); exact BK222.out)) : gb284 ≠ gb222)); have n26_ := za ((by rw [hg]; exact Nat.ne_of_lt (blk_lt (g := gb223) (o := .cells #[.slice A1_0 l1_0.length c1_0, .slice A1_1 l1_1.length c1_1, .slice A1_2 l1_2.length c1_2, .slice A1_3 l1_3.length c1_3, .slice A1_4 l1_4.length c1_4, .slice A1_5 l1_5.length c1_5, .int .i64 a1_6] 26 (0, 0)) (by (with_reducible repeat (first | refine zC ?_ _ | refine zB ?_ | refine zy ?_ _)); exact BK223.out)) : gb223 ≠ gb284)); have n27_ := za ((by rw [hg]; exact Nat.ne_of_gt (blk_lt (g := gb223) (o := .cells #[.slice A1_0 l1_0.length c1_0, .slice A1_1 l1_1.length c1_1, .slice A1_2 l1_2.length c1_2, .slice A1_3 l1_3.length c1_3, .slice A1_4 l1_4.length c1_4, .slice A1_5 l1_5.length c1_5, .int .i64 a1_6] 26 (0, 0)) (by (with_reducible repeat (first | refine zC ?_ _ | refine zB ?_ | refine zy ?_ _)); exact BK223.out)) : gb284 ≠ gb223)); clear HO228; clear HO231; clear HO234; clear HO237; clear HO240; clear HO243; clear HO247; clear HO250; clear HO253; clear HO256; clear HO259; clear HO262; clear HO267; clear HO270; clear HO273; clear HO276; clear HO279; clear HO282; clear BK222; clear BK223; clear HB; have HO228 := n0_; have HO231 := n1_; have HO234 := n2_; have HO237 := n3_; have HO240 := n4_; have HO243 := n5_; have HO247 := n6_; have HO250 := n7_; have HO253 := n8_; have HO256 := n9_; have HO259 := n10_; have HO262 := n11_; have HO267 := n12_; have HO270 := n13_; have HO273 := n14_; have HO276 := n15_; have HO279 := n16_; have HO282 := n17_; have BK222 := n18_; have BK223 := n19_; have HB := n20_; have BK284 := n21_; have GW284 := n22_; have GE284 := n23_; have NB222_284 := n24_; have NB284_222 := n25_; have NB223_284 := n26_; have NB284_223 := n27_; clear n0_ n1_ n2_ n3_ n4_ n5_ n6_ n7_ n8_ n9_ n10_ n11_ n12_ n13_ n14_ n15_ n16_ n17_ n18_ n19_ n20_ n21_ n22_ n23_ n24_ n25_ n26_ n27_; clear hb hbox hg; obtain ⟨Ao58, co58, eo58⟩ := zr HO267.out; subst eo58; have hnb59 := NB284_222.out; have hnc59 := NB222_284.out; have hnb60 := NB284_223.out; have hnc60 := NB223_284.out; have hcz61_0 : w57.cell? ⟨gb284, 0, none⟩ = some (.slice none 0 0) := (zA BK284.out 0).trans rfl; have hcz61_1 : w57.cell? ⟨gb284, 1, none⟩ = some (.slice none 0 0) := (zA BK284.out 1).trans rfl; have hcz61_2 : w57.cell? ⟨gb284, 2, none⟩ = some (.slice none 0 0) := (zA BK284.out 2).trans rfl; have hcz61_3 : w57.cell? ⟨gb284, 3, none⟩ = some (.slice none 0 0) := (zA BK284.out 3).trans rfl; have hcz61_4 : w57.cell? ⟨gb284, 4, none⟩ = some (.slice none 0 0) := (zA BK284.out 4).trans rfl; have hcz61_5 : w57.cell? ⟨gb284, 5, none⟩ = some (.slice none 0 0) := (zA BK284.out 5).trans rfl; have hcz61_6 : w57.cell? ⟨gb284, 6, none⟩ = some (.int .i64 0) := (zA BK284.out 6).trans rfl; have hfz61_0 := zD BK284.out 0; have hfz61_1 := zD BK284.out 1; have hfz61_2 := zD BK284.out 2; have hfz61_3 := zD BK284.out 3; have hfz61_4 := zD BK284.out 4; have hfz61_5 := zD BK284.out 5; have hfz61_6 := zD BK284.out 6; obtain ⟨Ao62, co62, eo62⟩ := zr HO270.out; subst eo62; obtain ⟨Ao63, co63, eo63⟩ := zr HO273.out; subst eo63; obtain ⟨Ao64, co64, eo64⟩ := zr HO276.out; subst eo64; obtain ⟨Ao65, co65, eo65⟩ := zr HO279.out; subst eo65; obtain ⟨Ao66, co66, eo66⟩ := zr HO282.out; subst eo66; have hcz67_0 : w57.cell? ⟨gb223, 0, none⟩ = some (.slice A1_0 l1_0.length c1_0) := (zA BK223.out 0).trans rfl; have hcz67_1 : w57.cell? ⟨gb223, 1, none⟩ = some (.slice A1_1 l1_1.length c1_1) := (zA BK223.out 1).trans rfl; have hcz67_2 : w57.cell? ⟨gb223, 2, none⟩ = some (.slice A1_2 l1_2.length c1_2) := (zA BK223.out 2).trans rfl; have hcz67_3 : w57.cell? ⟨gb223, 3, none⟩ = some (.slice A1_3 l1_3.length c1_3) := (zA BK223.out 3).trans rfl; have hcz67_4 : w57.cell? ⟨gb223, 4, none⟩ = some (.slice A1_4 l1_4.length c1_4) := (zA BK223.out 4).trans rfl; have hcz67_5 : w57.cell? ⟨gb223, 5, none⟩ = some (.slice A1_5 l1_5.length c1_5) := (zA BK223.out 5).trans rfl; have hcz67_6 : w57.cell? ⟨gb223, 6, none⟩ = some (.int .i64 a1_6) := (zA BK223.out 6).trans rfl; have hfz67_0 := zD BK223.out 0; have hfz67_1 := zD BK223.out 1; have hfz67_2 := zD BK223.out 2; have hfz67_3 := zD BK223.out 3; have hfz67_4 := zD BK223.out 4; have hfz67_5 := zD BK223.out 5; have hfz67_6 := zD BK223.out 6) | ((with_reducible refine gate_callee (f := 13) rfl ?_); refine goesL_ (some 28) rfl rfl Try.func13 (by kernel_rfl) rfl #[.agg #[.slice A1_0 l1_0.length c1_0, .slice A1_1 l1_1.length c1_1, .slice A1_2 l1_2.length c1_2, .slice A1_3 l1_3.length c1_3, .slice A1_4 l1_4.length c1_4, .slice A1_5 l1_5.length c1_5, .int .i64 a1_6]] rfl (by (try simp only [List.map_toArray, List.map_cons, List.map_nil]); first | done | rfl | (simp only [List.length_drop, List.length_take]; rfl)) ?_; (with_reducible refine (laws_toData.calls k _ _ l1_0 _ _ l1_1 _ _ l1_2 _ _ l1_3 _ _ l1_4 _ _ l1_5 a1_6 t285 t288 t291 t294 t297 t300 t303 _ ?side1 ?side2 ?side3 ?side4 ?side5 ?side6 ?side7 ?side8 ?side9 ?side10 ?side11 ?side12 A23.out).mono ?_); (case side1 => exact zc HR1_0.out (by repeat (first | (with_reducible first | exact HB.out | apply zt | apply zE | apply zu | refine zv ?_ GE222.out | refine zv ?_ GE223.out | refine zv ?_ GE284.out) | exact HB.out))); (case side2 => exact HC1_0.out); (case side3 => exact zc HR1_1.out (by repeat (first | (with_reducible first | exact HB.out | apply zt | apply zE | apply zu | refine zv ?_ GE222.out | refine zv ?_ GE223.out | refine zv ?_ GE284.out) | exact HB.out))); (case side4 => exact HC1_1.out); (case side5 => exact zc HR1_2.out (by repeat (first | (with_reducible first | exact HB.out | apply zt | apply zE | apply zu | refine zv ?_ GE222.out | refine zv ?_ GE223.out | refine zv ?_ GE284.out) | exact HB.out))); (case side6 => exact HC1_2.out); (case side7 => exact zc HR1_3.out (by repeat (first | (with_reducible first | exact HB.out | apply zt | apply zE | apply zu | refine zv ?_ GE222.out | refine zv ?_ GE223.out | refine zv ?_ GE284.out) | exact HB.out))); (case side8 => exact HC1_3.out); (case side9 => exact zc HR1_4.out (by repeat (first | (with_reducible first | exact HB.out | apply zt | apply zE | apply zu | refine zv ?_ GE222.out | refine zv ?_ GE223.out | refine zv ?_ GE284.out) | exact HB.out))); (case side10 => exact HC1_4.out); (case side11 => exact zc HR1_5.out (by repeat (first | (with_reducible first | exact HB.out | apply zt | apply zE | apply zu | refine zv ?_ GE222.out | refine zv ?_ GE223.out | refine zv ?_ GE284.out) | exact HB.out))); (case side12 => exact HC1_5.out); rintro e w68 ⟨v286, v289, v292, v295, v298, v301, rfl, ho0, ho1, ho2, ho3, ho4, ho5, hb⟩; refine ⟨_, rfl, ?_⟩; have n0_ := za (zk (by (with_reducible repeat (first | apply zf | apply zj | apply zi)); exact (zn (Kd_R_far7 HO228.out BK284.out (by decide)) (fun _ h_ => h_.1))) (zg ho0) hb); have n1_ := za (zk (by (with_reducible repeat (first | apply zf | apply zj | apply zi)); exact (zn (Kd_R_far7 HO231.out BK284.out (by decide)) (fun _ h_ => h_.1))) (zg ho1) hb); have n2_ := za (zn (zs (zs (zs (zs (zp (by (with_reducible repeat (first | apply zf | apply zj | apply zi)); exact (zn (Kd_R_far7 HO234.out BK284.out (by decide)) (fun _ h_ => h_.1))) hb) (zg ho2)) (zg ho3)) (zg ho4)) (zg ho5)) (fun _ h_ => h_.1)); have n3_ := za (zn (zs (zs (zs (zs (zp (by (with_reducible repeat (first | apply zf | apply zj | apply zi)); exact (zn (Kd_R_far7 HO237.out BK284.out (by decide)) (fun _ h_ => h_.1))) hb) (zg ho2)) (zg ho3)) (zg ho4)) (zg ho5)) (fun _ h_ => h_.1)); have n4_ := za (zn (zs (zs (zs (zs (zp (by (with_reducible repeat (first | apply zf | apply zj | apply zi)); exact (zn (Kd_R_far7 HO240.out BK284.out (by decide)) (fun _ h_ => h_.1))) hb) (zg ho2)) (zg ho3)) (zg ho4)) (zg ho5)) (fun _ h_ => h_.1)); have n5_ := za (zn (zs (zs (zs (zs (zp (by (with_reducible repeat (first | apply zf | apply zj | apply zi)); exact (zn (Kd_R_far7 HO243.out BK284.out (by decide)) (fun _ h_ => h_.1))) hb) (zg ho2)) (zg ho3)) (zg ho4)) (zg ho5)) (fun _ h_ => h_.1)); have n6_ := za (zk (by (with_reducible repeat (first | apply zf | apply zj | apply zi)); exact (zn (Kd_R_far7 HO247.out BK284.out (by decide)) (fun _ h_ => h_.1))) (zg ho0) hb); have n7_ := za (zk (by (with_reducible repeat (first | apply zf | apply zj | apply zi)); exact (zn (Kd_R_far7 HO250.out BK284.out (by decide)) (fun _ h_ => h_.1))) (zg ho1) hb); have n8_ := za (zn (zs (zs (zs (zs (zp (by (with_reducible repeat (first | apply zf | apply zj | apply zi)); exact (zn (Kd_R_far7 HO253.out BK284.out (by decide)) (fun _ h_ => h_.1))) hb) (zg ho2)) (zg ho3)) (zg ho4)) (zg ho5)) (fun _ h_ => h_.1)); have n9_ := za (zn (zs (zs (zs (zs (zp (by (with_reducible repeat (first | apply zf | apply zj | apply zi)); exact (zn (Kd_R_far7 HO256.out BK284.out (by decide)) (fun _ h_ => h_.1))) hb) (zg ho2)) (zg ho3)) (zg ho4)) (zg ho5)) (fun _ h_ => h_.1)); have n10_ := za (zn (zs (zs (zs (zs (zp (by (with_reducible repeat (first | apply zf | apply zj | apply zi)); exact (zn (Kd_R_far7 HO259.out BK284.out (by decide)) (fun _ h_ => h_.1))) hb) (zg ho2)) (zg ho3)) (zg ho4)) (zg ho5)) (fun _ h_ => h_.1)); have n11_ := za (zn (zs (zs (zs (zs (zp (by (with_reducible repeat (first | apply zf | apply zj | apply zi)); exact (zn (Kd_R_far7 HO262.out BK284.out (by decide)) (fun _ h_ => h_.1))) hb) (zg ho2)) (zg ho3)) (zg ho4)) (zg ho5)) (fun _ h_ => h_.1)); have n12_ := za (zk (by (with_reducible repeat (first | apply zf | apply zj | apply zi)); exact (zn (Kd_R_far7 HO267.out BK284.out (by decide)) (fun _ h_ => h_.1))) (zg ho0) hb); have n13_ := za (zk (by (with_reducible repeat (first | apply zf | apply zj | apply zi)); exact (zn (Kd_R_far7 HO270.out BK284.out (by decide)) (fun _ h_ => h_.1))) (zg ho1) hb); have n14_ := za (zn (zs (zs (zs (zs (zp (by (with_reducible repeat (first | apply zf | apply zj | apply zi)); exact (zn (Kd_R_far7 HO273.out BK284.out (by decide)) (fun _ h_ => h_.1))) hb) (zg ho2)) (zg ho3)) (zg ho4)) (zg ho5)) (fun _ h_ => h_.1)); have n15_ := za (zn (zs (zs (zs (zs (zp (by (with_reducible repeat (first | apply zf | apply zj | apply zi)); exact (zn (Kd_R_far7 HO276.out BK284.out (by decide)) (fun _ h_ => h_.1))) hb) (zg ho2)) (zg ho3)) (zg ho4)) (zg ho5)) (fun _ h_ => h_.1)); have n16_ := za (zn (zs (zs (zs (zs (zp (by (with_reducible repeat (first | apply zf | apply zj | apply zi)); exact (zn (Kd_R_far7 HO279.out BK284.out (by decide)) (fun _ h_ => h_.1))) hb) (zg ho2)) (zg ho3)) (zg ho4)) (zg ho5)) (fun _ h_ => h_.1)); have n17_ := za (zn (zs (zs (zs (zs (zp (by (with_reducible repeat (first | apply zf | apply zj | apply zi)); exact (zn (Kd_R_far7 HO282.out BK284.out (by decide)) (fun _ h_ => h_.1))) hb) (zg ho2)) (zg ho3)) (zg ho4)) (zg ho5)) (fun _ h_ => h_.1)); have n18_ := za (zl (zo (zo (zo ho0 (zm (by (with_reducible repeat (first | apply zf | apply zj | apply zi)); exact (zn (Kd_R_far7 HO228.out BK284.out (by decide)) (fun _ h_ => h_.1))))) (zm (by (with_reducible repeat (first | apply zf | apply zj | apply zi)); exact (zn (Kd_R_far7 HO247.out BK284.out (by decide)) (fun _ h_ => h_.1))))) (zm (by (with_reducible repeat (first | apply zf | apply zj | apply zi)); exact (zn (Kd_R_far7 HO267.out BK284.out (by decide)) (fun _ h_ => h_.1))))) (zw (by repeat (first | (with_reducible first | exact HB.out | apply zt | apply zE | apply zu | refine zv ?_ GE222.out | refine zv ?_ GE223.out | refine zv ?_ GE284.out) | exact HB.out)))); have n19_ := za (zl (zo (zo (zo ho1 (zm (by (with_reducible repeat (first | apply zf | apply zj | apply zi)); exact (zn (Kd_R_far7 HO231.out BK284.out (by decide)) (fun _ h_ => h_.1))))) (zm (by (with_reducible repeat (first | apply zf | apply zj | apply zi)); exact (zn (Kd_R_far7 HO250.out BK284.out (by decide)) (fun _ h_ => h_.1))))) (zm (by (with_reducible repeat (first | apply zf | apply zj | apply zi)); exact (zn (Kd_R_far7 HO270.out BK284.out (by decide)) (fun _ h_ => h_.1))))) (zw (by repeat (first | (with_reducible first | exact HB.out | apply zt | apply zE | apply zu | refine zv ?_ GE222.out | refine zv ?_ GE223.out | refine zv ?_ GE284.out) | exact HB.out)))); have n20_ := za (zl (zo (zo (zo (zo (zo (zo (zo (zo (zo (zo (zo (zo ho2 (zm (by (with_reducible repeat (first | apply zf | apply zj | apply zi)); exact (zn (Kd_R_far7 HO234.out BK284.out (by decide)) (fun _ h_ => h_.1))))) (zm (by (with_reducible repeat (first | apply zf | apply zj | apply zi)); exact (zn (Kd_R_far7 HO237.out BK284.out (by decide)) (fun _ h_ => h_.1))))) (zm (by (with_reducible repeat (first | apply zf | apply zj | apply zi)); exact (zn (Kd_R_far7 HO240.out BK284.out (by decide)) (fun _ h_ => h_.1))))) (zm (by (with_reducible repeat (first | apply zf | apply zj | apply zi)); exact (zn (Kd_R_far7 HO243.out BK284.out (by decide)) (fun _ h_ => h_.1))))) (zm (by (with_reducible repeat (first | apply zf | apply zj | apply zi)); exact (zn (Kd_R_far7 HO253.out BK284.out (by decide)) (fun _ h_ => h_.1))))) (zm (by (with_reducible repeat (first | apply zf | apply zj | apply zi)); exact (zn (Kd_R_far7 HO256.out BK284.out (by decide)) (fun _ h_ => h_.1))))) (zm (by (with_reducible repeat (first | apply zf | apply zj | apply zi)); exact (zn (Kd_R_far7 HO259.out BK284.out (by decide)) (fun _ h_ => h_.1))))) (zm (by (with_reducible repeat (first | apply zf | apply zj | apply zi)); exact (zn (Kd_R_far7 HO262.out BK284.out (by decide)) (fun _ h_ => h_.1))))) (zm (by (with_reducible repeat (first | apply zf | apply zj | apply zi)); exact (zn (Kd_R_far7 HO273.out BK284.out (by decide)) (fun _ h_ => h_.1))))) (zm (by (with_reducible repeat (first | apply zf | apply zj | apply zi)); exact (zn (Kd_R_far7 HO276.out BK284.out (by decide)) (fun _ h_ => h_.1))))) (zm (by (with_reducible repeat (first | apply zf | apply zj | apply zi)); exact (zn (Kd_R_far7 HO279.out BK284.out (by decide)) (fun _ h_ => h_.1))))) (zm (by (with_reducible repeat (first | apply zf | apply zj | apply zi)); exact (zn (Kd_R_far7 HO282.out BK284.out (by decide)) (fun _ h_ => h_.1))))) (zw (by repeat (first | (with_reducible first | exact HB.out | apply zt | apply zE | apply zu | refine zv ?_ GE222.out | refine zv ?_ GE223.out | refine zv ?_ GE284.out) | exact HB.out)))); have n21_ := za (zl (zo (zo (zo (zo (zo (zo (zo (zo (zo (zo (zo (zo ho3 (zm (by (with_reducible repeat (first | apply zf | apply zj | apply zi)); exact (zn (Kd_R_far7 HO234.out BK284.out (by decide)) (fun _ h_ => h_.1))))) (zm (by (with_reducible repeat (first | apply zf | apply zj | apply zi)); exact (zn (Kd_R_far7 HO237.out BK284.out (by decide)) (fun _ h_ => h_.1))))) (zm (by (with_reducible repeat (first | apply zf | apply zj | apply zi)); exact (zn (Kd_R_far7 HO240.out BK284.out (by decide)) (fun _ h_ => h_.1))))) (zm (by (with_reducible repeat (first | apply zf | apply zj | apply zi)); exact (zn (Kd_R_far7 HO243.out BK284.out (by decide)) (fun _ h_ => h_.1))))) (zm (by (with_reducible repeat (first | apply zf | apply zj | apply zi)); exact (zn (Kd_R_far7 HO253.out BK284.out (by decide)) (fun _ h_ => h_.1))))) (zm (by (with_reducible repeat (first | apply zf | apply zj | apply zi)); exact (zn (Kd_R_far7 HO256.out BK284.out (by decide)) (fun _ h_ => h_.1))))) (zm (by (with_reducible repeat (first | apply zf | apply zj | apply zi)); exact (zn (Kd_R_far7 HO259.out BK284.out (by decide)) (fun _ h_ => h_.1))))) (zm (by (with_reducible repeat (first | apply zf | apply zj | apply zi)); exact (zn (Kd_R_far7 HO262.out BK284.out (by decide)) (fun _ h_ => h_.1))))) (zm (by (with_reducible repeat (first | apply zf | apply zj | apply zi)); exact (zn (Kd_R_far7 HO273.out BK284.out (by decide)) (fun _ h_ => h_.1))))) (zm (by (with_reducible repeat (first | apply zf | apply zj | apply zi)); exact (zn (Kd_R_far7 HO276.out BK284.out (by decide)) (fun _ h_ => h_.1))))) (zm (by (with_reducible repeat (first | apply zf | apply zj | apply zi)); exact (zn (Kd_R_far7 HO279.out BK284.out (by decide)) (fun _ h_ => h_.1))))) (zm (by (with_reducible repeat (first | apply zf | apply zj | apply zi)); exact (zn (Kd_R_far7 HO282.out BK284.out (by decide)) (fun _ h_ => h_.1))))) (zw (by repeat (first | (with_reducible first | exact HB.out | apply zt | apply zE | apply zu | refine zv ?_ GE222.out | refine zv ?_ GE223.out | refine zv ?_ GE284.out) | exact HB.out)))); have n22_ := za (zl (zo (zo (zo (zo (zo (zo (zo (zo (zo (zo (zo (zo ho4 (zm (by (with_reducible repeat (first | apply zf | apply zj | apply zi)); exact (zn (Kd_R_far7 HO234.out BK284.out (by decide)) (fun _ h_ => h_.1))))) (zm (by (with_reducible repeat (first | apply zf | apply zj | apply zi)); exact (zn (Kd_R_far7 HO237.out BK284.out (by decide)) (fun _ h_ => h_.1))))) (zm (by (with_reducible repeat (first | apply zf | apply zj | apply zi)); exact (zn (Kd_R_far7 HO240.out BK284.out (by decide)) (fun _ h_ => h_.1))))) (zm (by (with_reducible repeat (first | apply zf | apply zj | apply zi)); exact (zn (Kd_R_far7 HO243.out BK284.out (by decide)) (fun _ h_ => h_.1))))) (zm (by (with_reducible repeat (first | apply zf | apply zj | apply zi)); exact (zn (Kd_R_far7 HO253.out BK284.out (by decide)) (fun _ h_ => h_.1))))) (zm (by (with_reducible repeat (first | apply zf | apply zj | apply zi)); exact (zn (Kd_R_far7 HO256.out BK284.out (by decide)) (fun _ h_ => h_.1))))) (zm (by (with_reducible repeat (first | apply zf | apply zj | apply zi)); exact (zn (Kd_R_far7 HO259.out BK284.out (by decide)) (fun _ h_ => h_.1))))) (zm (by (with_reducible repeat (first | apply zf | apply zj | apply zi)); exact (zn (Kd_R_far7 HO262.out BK284.out (by decide)) (fun _ h_ => h_.1))))) (zm (by (with_reducible repeat (first | apply zf | apply zj | apply zi)); exact (zn (Kd_R_far7 HO273.out BK284.out (by decide)) (fun _ h_ => h_.1))))) (zm (by (with_reducible repeat (first | apply zf | apply zj | apply zi)); exact (zn (Kd_R_far7 HO276.out BK284.out (by decide)) (fun _ h_ => h_.1))))) (zm (by (with_reducible repeat (first | apply zf | apply zj | apply zi)); exact (zn (Kd_R_far7 HO279.out BK284.out (by decide)) (fun _ h_ => h_.1))))) (zm (by (with_reducible repeat (first | apply zf | apply zj | apply zi)); exact (zn (Kd_R_far7 HO282.out BK284.out (by decide)) (fun _ h_ => h_.1))))) (zw (by repeat (first | (with_reducible first | exact HB.out | apply zt | apply zE | apply zu | refine zv ?_ GE222.out | refine zv ?_ GE223.out | refine zv ?_ GE284.out) | exact HB.out)))); have n23_ := za (zl (zo (zo (zo (zo (zo (zo (zo (zo (zo (zo (zo (zo ho5 (zm (by (with_reducible repeat (first | apply zf | apply zj | apply zi)); exact (zn (Kd_R_far7 HO234.out BK284.out (by decide)) (fun _ h_ => h_.1))))) (zm (by (with_reducible repeat (first | apply zf | apply zj | apply zi)); exact (zn (Kd_R_far7 HO237.out BK284.out (by decide)) (fun _ h_ => h_.1))))) (zm (by (with_reducible repeat (first | apply zf | apply zj | apply zi)); exact (zn (Kd_R_far7 HO240.out BK284.out (by decide)) (fun _ h_ => h_.1))))) (zm (by (with_reducible repeat (first | apply zf | apply zj | apply zi)); exact (zn (Kd_R_far7 HO243.out BK284.out (by decide)) (fun _ h_ => h_.1))))) (zm (by (with_reducible repeat (first | apply zf | apply zj | apply zi)); exact (zn (Kd_R_far7 HO253.out BK284.out (by decide)) (fun _ h_ => h_.1))))) (zm (by (with_reducible repeat (first | apply zf | apply zj | apply zi)); exact (zn (Kd_R_far7 HO256.out BK284.out (by decide)) (fun _ h_ => h_.1))))) (zm (by (with_reducible repeat (first | apply zf | apply zj | apply zi)); exact (zn (Kd_R_far7 HO259.out BK284.out (by decide)) (fun _ h_ => h_.1))))) (zm (by (with_reducible repeat (first | apply zf | apply zj | apply zi)); exact (zn (Kd_R_far7 HO262.out BK284.out (by decide)) (fun _ h_ => h_.1))))) (zm (by (with_reducible repeat (first | apply zf | apply zj | apply zi)); exact (zn (Kd_R_far7 HO273.out BK284.out (by decide)) (fun _ h_ => h_.1))))) (zm (by (with_reducible repeat (first | apply zf | apply zj | apply zi)); exact (zn (Kd_R_far7 HO276.out BK284.out (by decide)) (fun _ h_ => h_.1))))) (zm (by (with_reducible repeat (first | apply zf | apply zj | apply zi)); exact (zn (Kd_R_far7 HO279.out BK284.out (by decide)) (fun _ h_ => h_.1))))) (zm (by (with_reducible repeat (first | apply zf | apply zj | apply zi)); exact (zn (Kd_R_far7 HO282.out BK284.out (by decide)) (fun _ h_ => h_.1))))) (zw (by repeat (first | (with_reducible first | exact HB.out | apply zt | apply zE | apply zu | refine zv ?_ GE222.out | refine zv ?_ GE223.out | refine zv ?_ GE284.out) | exact HB.out)))); have n24_ := za (zz (g := gb222) (o := .cells #[.slice A0_0 l0_0.length c0_0, .slice A0_1 l0_1.length c0_1, .slice A0_2 l0_2.length c0_2, .slice A0_3 l0_3.length c0_3, .slice A0_4 l0_4.length c0_4, .slice A0_5 l0_5.length c0_5, .int .i64 a0_6] 26 (0, 0)) (by (with_reducible repeat (first | refine zC ?_ _ | refine zB ?_ | refine zy ?_ _)); refine blk_far ?_ NB222_284.out _; (with_reducible repeat (first | refine zC ?_ _ | refine zB ?_ | refine zy ?_ _)); refine blk_far ?_ NB222_284.out _; (with_reducible repeat (first | refine zC ?_ _ | refine zB ?_ | refine zy ?_ _)); refine blk_far ?_ NB222_284.out _; (with_reducible repeat (first | refine zC ?_ _ | refine zB ?_ | refine zy ?_ _)); refine blk_far ?_ NB222_284.out _; (with_reducible repeat (first | refine zC ?_ _ | refine zB ?_ | refine zy ?_ _)); refine blk_far ?_ NB222_284.out _; (with_reducible repeat (first | refine zC ?_ _ | refine zB ?_ | refine zy ?_ _)); refine blk_far ?_ NB222_284.out _; (with_reducible repeat (first | refine zC ?_ _ | refine zB ?_ | refine zy ?_ _)); refine blk_far ?_ NB222_284.out _; (with_reducible repeat (first | refine zC ?_ _ | refine zB ?_ | refine zy ?_ _)); exact BK222.out) hb); have n25_ := za (zz (g := gb223) (o := .cells #[.slice A1_0 l1_0.length c1_0, .slice A1_1 l1_1.length c1_1, .slice A1_2 l1_2.length c1_2, .slice A1_3 l1_3.length c1_3, .slice A1_4 l1_4.length c1_4, .slice A1_5 l1_5.length c1_5, .int .i64 a1_6] 26 (0, 0)) (by (with_reducible repeat (first | refine zC ?_ _ | refine zB ?_ | refine zy ?_ _)); refine blk_far ?_ NB223_284.out _; (with_reducible repeat (first | refine zC ?_ _ | refine zB ?_ | refine zy ?_ _)); refine blk_far ?_ NB223_284.out _; (with_reducible repeat (first | refine zC ?_ _ | refine zB ?_ | refine zy ?_ _)); refine blk_far ?_ NB223_284.out _; (with_reducible repeat (first | refine zC ?_ _ | refine zB ?_ | refine zy ?_ _)); refine blk_far ?_ NB223_284.out _; (with_reducible repeat (first | refine zC ?_ _ | refine zB ?_ | refine zy ?_ _)); refine blk_far ?_ NB223_284.out _; (with_reducible repeat (first | refine zC ?_ _ | refine zB ?_ | refine zy ?_ _)); refine blk_far ?_ NB223_284.out _; (with_reducible repeat (first | refine zC ?_ _ | refine zB ?_ | refine zy ?_ _)); refine blk_far ?_ NB223_284.out _; (with_reducible repeat (first | refine zC ?_ _ | refine zB ?_ | refine zy ?_ _)); exact BK223.out) hb); have n26_ := za (zz (g := gb284) (o := .cells #[.slice Ao58 t265.length co58, .slice Ao62 t268.length co62, .slice Ao63 t271.length co63, .slice Ao64 t274.length co64, .slice Ao65 t277.length co65, .slice Ao66 t280.length co66, .int .i64 t283] 31 (0, 0)) (by (with_reducible repeat (first | refine zC ?_ _ | refine zB ?_ | refine zy ?_ _)); refine blk_put (cs := #[.slice Ao58 t265.length co58, .slice Ao62 t268.length co62, .slice Ao63 t271.length co63, .slice Ao64 t274.length co64, .slice Ao65 t277.length co65, .slice Ao66 t280.length co66, .int .i64 0]) ?_ 6 _ rfl; (with_reducible repeat (first | refine zC ?_ _ | refine zB ?_ | refine zy ?_ _)); refine blk_put (cs := #[.slice Ao58 t265.length co58, .slice Ao62 t268.length co62, .slice Ao63 t271.length co63, .slice Ao64 t274.length co64, .slice Ao65 t277.length co65, .slice none 0 0, .int .i64 0]) ?_ 5 _ rfl; (with_reducible repeat (first | refine zC ?_ _ | refine zB ?_ | refine zy ?_ _)); refine blk_put (cs := #[.slice Ao58 t265.length co58, .slice Ao62 t268.length co62, .slice Ao63 t271.length co63, .slice Ao64 t274.length co64, .slice none 0 0, .slice none 0 0, .int .i64 0]) ?_ 4 _ rfl; (with_reducible repeat (first | refine zC ?_ _ | refine zB ?_ | refine zy ?_ _)); refine blk_put (cs := #[.slice Ao58 t265.length co58, .slice Ao62 t268.length co62, .slice Ao63 t271.length co63, .slice none 0 0, .slice none 0 0, .slice none 0 0, .int .i64 0]) ?_ 3 _ rfl; (with_reducible repeat (first | refine zC ?_ _ | refine zB ?_ | refine zy ?_ _)); refine blk_put (cs := #[.slice Ao58 t265.length co58, .slice Ao62 t268.length co62, .slice none 0 0, .slice none 0 0, .slice none 0 0, .slice none 0 0, .int .i64 0]) ?_ 2 _ rfl; (with_reducible repeat (first | refine zC ?_ _ | refine zB ?_ | refine zy ?_ _)); refine blk_put (cs := #[.slice Ao58 t265.length co58, .slice none 0 0, .slice none 0 0, .slice none 0 0, .slice none 0 0, .slice none 0 0, .int .i64 0]) ?_ 1 _ rfl; (with_reducible repeat (first | refine zC ?_ _ | refine zB ?_ | refine zy ?_ _)); refine blk_put (cs := #[.slice none 0 0, .slice none 0 0, .slice none 0 0, .slice none 0 0, .slice none 0 0, .slice none 0 0, .int .i64 0]) ?_ 0 _ rfl; (with_reducible repeat (first | refine zC ?_ _ | refine zB ?_ | refine zy ?_ _)); exact BK284.out) hb); have n27_ := za (zx (by repeat (first | (with_reducible first | exact HB.out | apply zt | apply zE | apply zu | refine zv ?_ GE222.out | refine zv ?_ GE223.out | refine zv ?_ GE284.out) | exact HB.out)) hb); clear HO228; clear HO231; clear HO234; clear HO237; clear HO240; clear HO243; clear HO247; clear HO250; clear HO253; clear HO256; clear HO259; clear HO262; clear HO267; clear HO270; clear HO273; clear HO276; clear HO279; clear HO282; clear BK222; clear BK223; clear BK284; clear HB; have HO228 := n0_; have HO231 := n1_; have HO234 := n2_; have HO237 := n3_; have HO240 := n4_; have HO243 := n5_; have HO247 := n6_; have HO250 := n7_; have HO253 := n8_; have HO256 := n9_; have HO259 := n10_; have HO262 := n11_; have HO267 := n12_; have HO270 := n13_; have HO273 := n14_; have HO276 := n15_; have HO279 := n16_; have HO282 := n17_; have HO287 := n18_; have HO290 := n19_; have HO293 := n20_; have HO296 := n21_; have HO299 := n22_; have HO302 := n23_; have BK222 := n24_; have BK223 := n25_; have BK284 := n26_; have HB := n27_; clear n0_ n1_ n2_ n3_ n4_ n5_ n6_ n7_ n8_ n9_ n10_ n11_ n12_ n13_ n14_ n15_ n16_ n17_ n18_ n19_ n20_ n21_ n22_ n23_ n24_ n25_ n26_ n27_; (try clear hb); (try clear hb2); (try clear hk); (try clear hi); (try clear ho0); (try clear ho1); (try clear ho2); (try clear ho3); (try clear ho4); (try clear ho5)) | ((with_reducible refine gate_dst (N := 8) rfl ?_); refine box_event ?hg (N := 8) ?hd (cs := #[.slice none 0 0, .slice none 0 0, .slice none 0 0, .slice none 0 0, .slice none 0 0, .slice none 0 0, .int .i64 0]) (t := 31) ?hr ?_; (case hd => rfl); (case hg => rfl); (case hr => first | (go_simp; done) | (go_simp; rfl)); intro gb304 hg w69 hbox hb; have n0_ := za (zh (by (with_reducible repeat (first | apply zf | apply zj | apply zi)); exact HO228.out) hb); have n1_ := za (zh (by (with_reducible repeat (first | apply zf | apply zj | apply zi)); exact HO231.out) hb); have n2_ := za (zh (by (with_reducible repeat (first | apply zf | apply zj | apply zi)); exact HO234.out) hb); have n3_ := za (zh (by (with_reducible repeat (first | apply zf | apply zj | apply zi)); exact HO237.out) hb); have n4_ := za (zh (by (with_reducible repeat (first | apply zf | apply zj | apply zi)); exact HO240.out) hb); have n5_ := za (zh (by (with_reducible repeat (first | apply zf | apply zj | apply zi)); exact HO243.out) hb); have n6_ := za (zh (by (with_reducible repeat (first | apply zf | apply zj | apply zi)); exact HO247.out) hb); have n7_ := za (zh (by (with_reducible repeat (first | apply zf | apply zj | apply zi)); exact HO250.out) hb); have n8_ := za (zh (by (with_reducible repeat (first | apply zf | apply zj | apply zi)); exact HO253.out) hb); have n9_ := za (zh (by (with_reducible repeat (first | apply zf | apply zj | apply zi)); exact HO256.out) hb); have n10_ := za (zh (by (with_reducible repeat (first | apply zf | apply zj | apply zi)); exact HO259.out) hb); have n11_ := za (zh (by (with_reducible repeat (first | apply zf | apply zj | apply zi)); exact HO262.out) hb); have n12_ := za (zh (by (with_reducible repeat (first | apply zf | apply zj | apply zi)); exact HO267.out) hb); have n13_ := za (zh (by (with_reducible repeat (first | apply zf | apply zj | apply zi)); exact HO270.out) hb); have n14_ := za (zh (by (with_reducible repeat (first | apply zf | apply zj | apply zi)); exact HO273.out) hb); have n15_ := za (zh (by (with_reducible repeat (first | apply zf | apply zj | apply zi)); exact HO276.out) hb); have n16_ := za (zh (by (with_reducible repeat (first | apply zf | apply zj | apply zi)); exact HO279.out) hb); have n17_ := za (zh (by (with_reducible repeat (first | apply zf | apply zj | apply zi)); exact HO282.out) hb); have n18_ := za (zh (by (with_reducible repeat (first | apply zf | apply zj | apply zi)); exact HO287.out) hb); have n19_ := za (zh (by (with_reducible repeat (first | apply zf | apply zj | apply zi)); exact HO290.out) hb); have n20_ := za (zh (by (with_reducible repeat (first | apply zf | apply zj | apply zi)); exact HO293.out) hb); have n21_ := za (zh (by (with_reducible repeat (first | apply zf | apply zj | apply zi)); exact HO296.out) hb); have n22_ := za (zh (by (with_reducible repeat (first | apply zf | apply zj | apply zi)); exact HO299.out) hb); have n23_ := za (zh (by (with_reducible repeat (first | apply zf | apply zj | apply zi)); exact HO302.out) hb); have n24_ := za (zz (g := gb222) (o := .cells #[.slice A0_0 l0_0.length c0_0, .slice A0_1 l0_1.length c0_1, .slice A0_2 l0_2.length c0_2, .slice A0_3 l0_3.length c0_3, .slice A0_4 l0_4.length c0_4, .slice A0_5 l0_5.length c0_5, .int .i64 a0_6] 26 (0, 0)) (by (with_reducible repeat (first | refine zC ?_ _ | refine zB ?_ | refine zy ?_ _)); exact BK222.out) hb); have n25_ := za (zz (g := gb223) (o := .cells #[.slice A1_0 l1_0.length c1_0, .slice A1_1 l1_1.length c1_1, .slice A1_2 l1_2.length c1_2, .slice A1_3 l1_3.length c1_3, .slice A1_4 l1_4.length c1_4, .slice A1_5 l1_5.length c1_5, .int .i64 a1_6] 26 (0, 0)) (by (with_reducible repeat (first | refine zC ?_ _ | refine zB ?_ | refine zy ?_ _)); exact BK223.out) hb); have n26_ := za (zz (g := gb284) (o := .cells #[.slice Ao58 t265.length co58, .slice Ao62 t268.length co62, .slice Ao63 t271.length co63, .slice Ao64 t274.length co64, .slice Ao65 t277.length co65, .slice Ao66 t280.length co66, .int .i64 t283] 31 (0, 0)) (by (with_reducible repeat (first | refine zC ?_ _ | refine zB ?_ | refine zy ?_ _)); exact BK284.out) hb); have n27_ := za (zx (by repeat (first | (with_reducible first | exact HB.out | apply zt | apply zE | apply zu | refine zv ?_ GE222.out | refine zv ?_ GE223.out | refine zv ?_ GE284.out) | exact HB.out)) hb); have n28_ := za (hbox); have n29_ := za ((by rw [hg]; exact (zw (by repeat (first | (with_reducible first | exact HB.out | apply zt | apply zE | apply zu | refine zv ?_ GE222.out | refine zv ?_ GE223.out | refine zv ?_ GE284.out) | exact HB.out))) : w.heap.size ≤ gb304)); have n30_ := za ((by rw [hg]; exact (zw (by repeat (first | (with_reducible first | exact HB.out | apply zt | apply zE | apply zu | refine zv ?_ GE222.out | refine zv ?_ GE223.out | refine zv ?_ GE284.out) | exact HB.out))) : w.heap.size ≤ gb304)); have n31_ := za ((by rw [hg]; exact Nat.ne_of_lt (blk_lt (g := gb222) (o := .cells #[.slice A0_0 l0_0.length c0_0, .slice A0_1 l0_1.length c0_1, .slice A0_2 l0_2.length c0_2, .slice A0_3 l0_3.length c0_3, .slice A0_4 l0_4.length c0_4, .slice A0_5 l0_5.length c0_5, .int .i64 a0_6] 26 (0, 0)) (by (with_reducible repeat (first | refine zC ?_ _ | refine zB ?_ | refine zy ?_ _)); exact BK222.out)) : gb222 ≠ gb304)); have n32_ := za ((by rw [hg]; exact Nat.ne_of_gt (blk_lt (g := gb222) (o := .cells #[.slice A0_0 l0_0.length c0_0, .slice A0_1 l0_1.length c0_1, .slice A0_2 l0_2.length c0_2, .slice A0_3 l0_3.length c0_3, .slice A0_4 l0_4.length c0_4, .slice A0_5 l0_5.length c0_5, .int .i64 a0_6] 26 (0, 0)) (by (with_reducible repeat (first | refine zC ?_ _ | refine zB ?_ | refine zy ?_ _)); exact BK222.out)) : gb304 ≠ gb222)); have n33_ := za ((by rw [hg]; exact Nat.ne_of_lt (blk_lt (g := gb223) (o := .cells #[.slice A1_0 l1_0.length c1_0, .slice A1_1 l1_1.length c1_1, .slice A1_2 l1_2.length c1_2, .slice A1_3 l1_3.length c1_3, .slice A1_4 l1_4.length c1_4, .slice A1_5 l1_5.length c1_5, .int .i64 a1_6] 26 (0, 0)) (by (with_reducible repeat (first | refine zC ?_ _ | refine zB ?_ | refine zy ?_ _)); exact BK223.out)) : gb223 ≠ gb304)); have n34_ := za ((by rw [hg]; exact Nat.ne_of_gt (blk_lt (g := gb223) (o := .cells #[.slice A1_0 l1_0.length c1_0, .slice A1_1 l1_1.length c1_1, .slice A1_2 l1_2.length c1_2, .slice A1_3 l1_3.length c1_3, .slice A1_4 l1_4.length c1_4, .slice A1_5 l1_5.length c1_5, .int .i64 a1_6] 26 (0, 0)) (by (with_reducible repeat (first | refine zC ?_ _ | refine zB ?_ | refine zy ?_ _)); exact BK223.out)) : gb304 ≠ gb223)); have n35_ := za ((by rw [hg]; exact Nat.ne_of_lt (blk_lt (g := gb284) (o := .cells #[.slice Ao58 t265.length co58, .slice Ao62 t268.length co62, .slice Ao63 t271.length co63, .slice Ao64 t274.length co64, .slice Ao65 t277.length co65, .slice Ao66 t280.length co66, .int .i64 t283] 31 (0, 0)) (by (with_reducible repeat (first | refine zC ?_ _ | refine zB ?_ | refine zy ?_ _)); exact BK284.out)) : gb284 ≠ gb304)); have n36_ := za ((by rw [hg]; exact Nat.ne_of_gt (blk_lt (g := gb284) (o := .cells #[.slice Ao58 t265.length co58, .slice Ao62 t268.length co62, .slice Ao63 t271.length co63, .slice Ao64 t274.length co64, .slice Ao65 t277.length co65, .slice Ao66 t280.length co66, .int .i64 t283] 31 (0, 0)) (by (with_reducible repeat (first | refine zC ?_ _ | refine zB ?_ | refine zy ?_ _)); exact BK284.out)) : gb304 ≠ gb284)); clear HO228; clear HO231; clear HO234; clear HO237; clear HO240; clear HO243; clear HO247; clear HO250; clear HO253; clear HO256; clear HO259; clear HO262; clear HO267; clear HO270; clear HO273; clear HO276; clear HO279; clear HO282; clear HO287; clear HO290; clear HO293; clear HO296; clear HO299; clear HO302; clear BK222; clear BK223; clear BK284; clear HB; have HO228 := n0_; have HO231 := n1_; have HO234 := n2_; have HO237 := n3_; have HO240 := n4_; have HO243 := n5_; have HO247 := n6_; have HO250 := n7_; have HO253 := n8_; have HO256 := n9_; have HO259 := n10_; have HO262 := n11_; have HO267 := n12_; have HO270 := n13_; have HO273 := n14_; have HO276 := n15_; have HO279 := n16_; have HO282 := n17_; have HO287 := n18_; have HO290 := n19_; have HO293 := n20_; have HO296 := n21_; have HO299 := n22_; have HO302 := n23_; have BK222 := n24_; have BK223 := n25_; have BK284 := n26_; have HB := n27_; have BK304 := n28_; have GW304 := n29_; have GE304 := n30_; have NB222_304 := n31_; have NB304_222 := n32_; have NB223_304 := n33_; have NB304_223 := n34_; have NB284_304 := n35_; have NB304_284 := n36_; clear n0_ n1_ n2_ n3_ n4_ n5_ n6_ n7_ n8_ n9_ n10_ n11_ n12_ n13_ n14_ n15_ n16_ n17_ n18_ n19_ n20_ n21_ n22_ n23_ n24_ n25_ n26_ n27_ n28_ n29_ n30_ n31_ n32_ n33_ n34_ n35_ n36_; clear hb hbox hg; obtain ⟨Ao70, co70, eo70⟩ := zr HO287.out; subst eo70; have hnb71 := NB304_222.out; have hnc71 := NB222_304.out; have hnb72 := NB304_223.out; have hnc72 := NB223_304.out; have hnb73 := NB304_284.out; have hnc73 := NB284_304.out; have hcz74_0 : w69.cell? ⟨gb304, 0, none⟩ = some (.slice none 0 0) := (zA BK304.out 0).trans rfl; have hcz74_1 : w69.cell? ⟨gb304, 1, none⟩ = some (.slice none 0 0) := (zA BK304.out 1).trans rfl; have hcz74_2 : w69.cell? ⟨gb304, 2, none⟩ = some (.slice none 0 0) := (zA BK304.out 2).trans rfl; have hcz74_3 : w69.cell? ⟨gb304, 3, none⟩ = some (.slice none 0 0) := (zA BK304.out 3).trans rfl; have hcz74_4 : w69.cell? ⟨gb304, 4, none⟩ = some (.slice none 0 0) := (zA BK304.out 4).trans rfl; have hcz74_5 : w69.cell? ⟨gb304, 5, none⟩ = some (.slice none 0 0) := (zA BK304.out 5).trans rfl; have hcz74_6 : w69.cell? ⟨gb304, 6, none⟩ = some (.int .i64 0) := (zA BK304.out 6).trans rfl; have hfz74_0 := zD BK304.out 0; have hfz74_1 := zD BK304.out 1; have hfz74_2 := zD BK304.out 2; have hfz74_3 := zD BK304.out 3; have hfz74_4 := zD BK304.out 4; have hfz74_5 := zD BK304.out 5; have hfz74_6 := zD BK304.out 6; obtain ⟨Ao75, co75, eo75⟩ := zr HO290.out; subst eo75; obtain ⟨Ao76, co76, eo76⟩ := zr HO293.out; subst eo76; obtain ⟨Ao77, co77, eo77⟩ := zr HO296.out; subst eo77; obtain ⟨Ao78, co78, eo78⟩ := zr HO299.out; subst eo78; obtain ⟨Ao79, co79, eo79⟩ := zr HO302.out; subst eo79; have hcz80_0 : w69.cell? ⟨gb284, 0, none⟩ = some (.slice Ao58 t265.length co58) := (zA BK284.out 0).trans rfl; have hcz80_1 : w69.cell? ⟨gb284, 1, none⟩ = some (.slice Ao62 t268.length co62) := (zA BK284.out 1).trans rfl; have hcz80_2 : w69.cell? ⟨gb284, 2, none⟩ = some (.slice Ao63 t271.length co63) := (zA BK284.out 2).trans rfl; have hcz80_3 : w69.cell? ⟨gb284, 3, none⟩ = some (.slice Ao64 t274.length co64) := (zA BK284.out 3).trans rfl; have hcz80_4 : w69.cell? ⟨gb284, 4, none⟩ = some (.slice Ao65 t277.length co65) := (zA BK284.out 4).trans rfl; have hcz80_5 : w69.cell? ⟨gb284, 5, none⟩ = some (.slice Ao66 t280.length co66) := (zA BK284.out 5).trans rfl; have hcz80_6 : w69.cell? ⟨gb284, 6, none⟩ = some (.int .i64 t283) := (zA BK284.out 6).trans rfl; have hfz80_0 := zD BK284.out 0; have hfz80_1 := zD BK284.out 1; have hfz80_2 := zD BK284.out 2; have hfz80_3 := zD BK284.out 3; have hfz80_4 := zD BK284.out 4; have hfz80_5 := zD BK284.out 5; have hfz80_6 := zD BK284.out 6) | ((with_reducible refine gate_callee (f := 24) rfl ?_); refine goesL_ (some 31) rfl rfl Try.func24 (by kernel_rfl) rfl #[.agg #[.slice Ao58 t265.length co58, .slice Ao62 t268.length co62, .slice Ao63 t271.length co63, .slice Ao64 t274.length co64, .slice Ao65 t277.length co65, .slice Ao66 t280.length co66, .int .i64 t283], .agg #[.slice Ao70 t285.length co70, .slice Ao75 t288.length co75, .slice Ao76 t291.length co76, .slice Ao77 t294.length co77, .slice Ao78 t297.length co78, .slice Ao79 t300.length co79, .int .i64 t303]] rfl (by (try simp only [List.map_toArray, List.map_cons, List.map_nil]); first | done | rfl | (simp only [List.length_drop, List.length_take]; rfl)) ?_; (with_reducible refine (impl_SameData.calls k _ _ t265 _ _ t268 _ _ t271 _ _ t274 _ _ t277 _ _ t280 t283 _ _ t285 _ _ t288 _ _ t291 _ _ t294 _ _ t297 _ _ t300 t303 t305 _ ?side1 ?side2 ?side3 ?side4 ?side5 ?side6 ?side7 ?side8 ?side9 ?side10 ?side11 ?side12 ?side13 ?side14 ?side15 ?side16 ?side17 ?side18 ?side19 ?side20 ?side21 ?side22 ?side23 ?side24 A24.out).mono ?_); (case side1 => refine (zq (e := 3) (base := w.heap.size) (ok := fun k_ => (((True ∧ some k_ ≠ (.slice Ao42 t226.length co42 : Value).ownBlock) ∧ some k_ ≠ (.slice Ao48 t245.length co48 : Value).ownBlock) ∧ some k_ ≠ (.slice Ao70 t285.length co70 : Value).ownBlock)) (n := t265.length) (c := co58) ?_).2.2; exact (by (with_reducible repeat (first | apply zf | apply zj | apply zi)); exact (zn (Kd_R_far7 HO267.out BK304.out (by decide)) (fun _ h_ => h_.1)))); (case side2 => exact (zq HO267.out).2.1); (case side3 => refine (zq (e := 77) (base := w.heap.size) (ok := fun k_ => (((True ∧ some k_ ≠ (.slice Ao43 t229.length co43 : Value).ownBlock) ∧ some k_ ≠ (.slice Ao49 t248.length co49 : Value).ownBlock) ∧ some k_ ≠ (.slice Ao75 t288.length co75 : Value).ownBlock)) (n := t268.length) (c := co62) ?_).2.2; exact (by (with_reducible repeat (first | apply zf | apply zj | apply zi)); exact (zn (Kd_R_far7 HO270.out BK304.out (by decide)) (fun _ h_ => h_.1)))); (case side4 => exact (zq HO270.out).2.1); (case side5 => refine (zq (e := 4) (base := w.heap.size) (ok := fun k_ => (((((((((((((some k_ ≠ (.slice Ao64 t274.length co64 : Value).ownBlock ∧ (some k_ ≠ (.slice Ao65 t277.length co65 : Value).ownBlock ∧ some k_ ≠ (.slice Ao66 t280.length co66 : Value).ownBlock)) ∧ some k_ ≠ (.slice Ao44 t232.length co44 : Value).ownBlock) ∧ some k_ ≠ (.slice Ao45 t235.length co45 : Value).ownBlock) ∧ some k_ ≠ (.slice Ao46 t238.length co46 : Value).ownBlock) ∧ some k_ ≠ (.slice Ao47 t241.length co47 : Value).ownBlock) ∧ some k_ ≠ (.slice Ao50 t251.length co50 : Value).ownBlock) ∧ some k_ ≠ (.slice Ao51 t254.length co51 : Value).ownBlock) ∧ some k_ ≠ (.slice Ao52 t257.length co52 : Value).ownBlock) ∧ some k_ ≠ (.slice Ao53 t260.length co53 : Value).ownBlock) ∧ some k_ ≠ (.slice Ao76 t291.length co76 : Value).ownBlock) ∧ some k_ ≠ (.slice Ao77 t294.length co77 : Value).ownBlock) ∧ some k_ ≠ (.slice Ao78 t297.length co78 : Value).ownBlock) ∧ some k_ ≠ (.slice Ao79 t300.length co79 : Value).ownBlock)) (n := t271.length) (c := co63) ?_).2.2; exact (by (with_reducible repeat (first | apply zf | apply zj | apply zi)); exact (zn (Kd_R_far7 HO273.out BK304.out (by decide)) (fun _ h_ => h_.1)))); (case side6 => exact (zq HO273.out).2.1); (case side7 => refine (zq (e := 4) (base := w.heap.size) (ok := fun k_ => (((((((((((((some k_ ≠ (.slice Ao63 t271.length co63 : Value).ownBlock ∧ (some k_ ≠ (.slice Ao65 t277.length co65 : Value).ownBlock ∧ some k_ ≠ (.slice Ao66 t280.length co66 : Value).ownBlock)) ∧ some k_ ≠ (.slice Ao44 t232.length co44 : Value).ownBlock) ∧ some k_ ≠ (.slice Ao45 t235.length co45 : Value).ownBlock) ∧ some k_ ≠ (.slice Ao46 t238.length co46 : Value).ownBlock) ∧ some k_ ≠ (.slice Ao47 t241.length co47 : Value).ownBlock) ∧ some k_ ≠ (.slice Ao50 t251.length co50 : Value).ownBlock) ∧ some k_ ≠ (.slice Ao51 t254.length co51 : Value).ownBlock) ∧ some k_ ≠ (.slice Ao52 t257.length co52 : Value).ownBlock) ∧ some k_ ≠ (.slice Ao53 t260.length co53 : Value).ownBlock) ∧ some k_ ≠ (.slice Ao76 t291.length co76 : Value).ownBlock) ∧ some k_ ≠ (.slice Ao77 t294.length co77 : Value).ownBlock) ∧ some k_ ≠ (.slice Ao78 t297.length co78 : Value).ownBlock) ∧ some k_ ≠ (.slice Ao79 t300.length co79 : Value).ownBlock)) (n := t274.length) (c := co64) ?_).2.2; exact (by (with_reducible repeat (first | apply zf | apply zj | apply zi)); exact (zn (Kd_R_far7 HO276.out BK304.out (by decide)) (fun _ h_ => h_.1)))); (case side8 => exact (zq HO276.out).2.1); (case side9 => refine (zq (e := 4) (base := w.heap.size) (ok := fun k_ => (((((((((((((some k_ ≠ (.slice Ao63 t271.length co63 : Value).ownBlock ∧ (some k_ ≠ (.slice Ao64 t274.length co64 : Value).ownBlock ∧ some k_ ≠ (.slice Ao66 t280.length co66 : Value).ownBlock)) ∧ some k_ ≠ (.slice Ao44 t232.length co44 : Value).ownBlock) ∧ some k_ ≠ (.slice Ao45 t235.length co45 : Value).ownBlock) ∧ some k_ ≠ (.slice Ao46 t238.length co46 : Value).ownBlock) ∧ some k_ ≠ (.slice Ao47 t241.length co47 : Value).ownBlock) ∧ some k_ ≠ (.slice Ao50 t251.length co50 : Value).ownBlock) ∧ some k_ ≠ (.slice Ao51 t254.length co51 : Value).ownBlock) ∧ some k_ ≠ (.slice Ao52 t257.length co52 : Value).ownBlock) ∧ some k_ ≠ (.slice Ao53 t260.length co53 : Value).ownBlock) ∧ some k_ ≠ (.slice Ao76 t291.length co76 : Value).ownBlock) ∧ some k_ ≠ (.slice Ao77 t294.length co77 : Value).ownBlock) ∧ some k_ ≠ (.slice Ao78 t297.length co78 : Value).ownBlock) ∧ some k_ ≠ (.slice Ao79 t300.length co79 : Value).ownBlock)) (n := t277.length) (c := co65) ?_).2.2; exact (by (with_reducible repeat (first | apply zf | apply zj | apply zi)); exact (zn (Kd_R_far7 HO279.out BK304.out (by decide)) (fun _ h_ => h_.1)))); (case side10 => exact (zq HO279.out).2.1); (case side11 => refine (zq (e := 4) (base := w.heap.size) (ok := fun k_ => (((((((((((((some k_ ≠ (.slice Ao63 t271.length co63 : Value).ownBlock ∧ (some k_ ≠ (.slice Ao64 t274.length co64 : Value).ownBlock ∧ some k_ ≠ (.slice Ao65 t277.length co65 : Value).ownBlock)) ∧ some k_ ≠ (.slice Ao44 t232.length co44 : Value).ownBlock) ∧ some k_ ≠ (.slice Ao45 t235.length co45 : Value).ownBlock) ∧ some k_ ≠ (.slice Ao46 t238.length co46 : Value).ownBlock) ∧ some k_ ≠ (.slice Ao47 t241.length co47 : Value).ownBlock) ∧ some k_ ≠ (.slice Ao50 t251.length co50 : Value).ownBlock) ∧ some k_ ≠ (.slice Ao51 t254.length co51 : Value).ownBlock) ∧ some k_ ≠ (.slice Ao52 t257.length co52 : Value).ownBlock) ∧ some k_ ≠ (.slice Ao53 t260.length co53 : Value).ownBlock) ∧ some k_ ≠ (.slice Ao76 t291.length co76 : Value).ownBlock) ∧ some k_ ≠ (.slice Ao77 t294.length co77 : Value).ownBlock) ∧ some k_ ≠ (.slice Ao78 t297.length co78 : Value).ownBlock) ∧ some k_ ≠ (.slice Ao79 t300.length co79 : Value).ownBlock)) (n := t280.length) (c := co66) ?_).2.2; exact (by (with_reducible repeat (first | apply zf | apply zj | apply zi)); exact (zn (Kd_R_far7 HO282.out BK304.out (by decide)) (fun _ h_ => h_.1)))); (case side12 => exact (zq HO282.out).2.1); (case side13 => refine (zq (e := 3) (base := w.heap.size) (ok := fun k_ => (((True ∧ some k_ ≠ (.slice Ao42 t226.length co42 : Value).ownBlock) ∧ some k_ ≠ (.slice Ao48 t245.length co48 : Value).ownBlock) ∧ some k_ ≠ (.slice Ao58 t265.length co58 : Value).ownBlock)) (n := t285.length) (c := co70) ?_).2.2; exact (by (with_reducible repeat (first | apply zf | apply zj | apply zi)); exact (zn (Kd_R_far7 HO287.out BK304.out (by decide)) (fun _ h_ => h_.1)))); (case side14 => exact (zq HO287.out).2.1); (case side15 => refine (zq (e := 77) (base := w.heap.size) (ok := fun k_ => (((True ∧ some k_ ≠ (.slice Ao43 t229.length co43 : Value).ownBlock) ∧ some k_ ≠ (.slice Ao49 t248.length co49 : Value).ownBlock) ∧ some k_ ≠ (.slice Ao62 t268.length co62 : Value).ownBlock)) (n := t288.length) (c := co75) ?_).2.2; exact (by (with_reducible repeat (first | apply zf | apply zj | apply zi)); exact (zn (Kd_R_far7 HO290.out BK304.out (by decide)) (fun _ h_ => h_.1)))); (case side16 => exact (zq HO290.out).2.1); (case side17 => refine (zq (e := 4) (base := w.heap.size) (ok := fun k_ => (((((((((((((some k_ ≠ (.slice Ao77 t294.length co77 : Value).ownBlock ∧ (some k_ ≠ (.slice Ao78 t297.length co78 : Value).ownBlock ∧ some k_ ≠ (.slice Ao79 t300.length co79 : Value).ownBlock)) ∧ some k_ ≠ (.slice Ao44 t232.length co44 : Value).ownBlock) ∧ some k_ ≠ (.slice Ao45 t235.length co45 : Value).ownBlock) ∧ some k_ ≠ (.slice Ao46 t238.length co46 : Value).ownBlock) ∧ some k_ ≠ (.slice Ao47 t241.length co47 : Value).ownBlock) ∧ some k_ ≠ (.slice Ao50 t251.length co50 : Value).ownBlock) ∧ some k_ ≠ (.slice Ao51 t254.length co51 : Value).ownBlock) ∧ some k_ ≠ (.slice Ao52 t257.length co52 : Value).ownBlock) ∧ some k_ ≠ (.slice Ao53 t260.length co53 : Value).ownBlock) ∧ some k_ ≠ (.slice Ao63 t271.length co63 : Value).ownBlock) ∧ some k_ ≠ (.slice Ao64 t274.length co64 : Value).ownBlock) ∧ some k_ ≠ (.slice Ao65 t277.length co65 : Value).ownBlock) ∧ some k_ ≠ (.slice Ao66 t280.length co66 : Value).ownBlock)) (n := t291.length) (c := co76) ?_).2.2; exact (by (with_reducible repeat (first | apply zf | apply zj | apply zi)); exact (zn (Kd_R_far7 HO293.out BK304.out (by decide)) (fun _ h_ => h_.1)))); (case side18 => exact (zq HO293.out).2.1); (case side19 => refine (zq (e := 4) (base := w.heap.size) (ok := fun k_ => (((((((((((((some k_ ≠ (.slice Ao76 t291.length co76 : Value).ownBlock ∧ (some k_ ≠ (.slice Ao78 t297.length co78 : Value).ownBlock ∧ some k_ ≠ (.slice Ao79 t300.length co79 : Value).ownBlock)) ∧ some k_ ≠ (.slice Ao44 t232.length co44 : Value).ownBlock) ∧ some k_ ≠ (.slice Ao45 t235.length co45 : Value).ownBlock) ∧ some k_ ≠ (.slice Ao46 t238.length co46 : Value).ownBlock) ∧ some k_ ≠ (.slice Ao47 t241.length co47 : Value).ownBlock) ∧ some k_ ≠ (.slice Ao50 t251.length co50 : Value).ownBlock) ∧ some k_ ≠ (.slice Ao51 t254.length co51 : Value).ownBlock) ∧ some k_ ≠ (.slice Ao52 t257.length co52 : Value).ownBlock) ∧ some k_ ≠ (.slice Ao53 t260.length co53 : Value).ownBlock) ∧ some k_ ≠ (.slice Ao63 t271.length co63 : Value).ownBlock) ∧ some k_ ≠ (.slice Ao64 t274.length co64 : Value).ownBlock) ∧ some k_ ≠ (.slice Ao65 t277.length co65 : Value).ownBlock) ∧ some k_ ≠ (.slice Ao66 t280.length co66 : Value).ownBlock)) (n := t294.length) (c := co77) ?_).2.2; exact (by (with_reducible repeat (first | apply zf | apply zj | apply zi)); exact (zn (Kd_R_far7 HO296.out BK304.out (by decide)) (fun _ h_ => h_.1)))); (case side20 => exact (zq HO296.out).2.1); (case side21 => refine (zq (e := 4) (base := w.heap.size) (ok := fun k_ => (((((((((((((some k_ ≠ (.slice Ao76 t291.length co76 : Value).ownBlock ∧ (some k_ ≠ (.slice Ao77 t294.length co77 : Value).ownBlock ∧ some k_ ≠ (.slice Ao79 t300.length co79 : Value).ownBlock)) ∧ some k_ ≠ (.slice Ao44 t232.length co44 : Value).ownBlock) ∧ some k_ ≠ (.slice Ao45 t235.length co45 : Value).ownBlock) ∧ some k_ ≠ (.slice Ao46 t238.length co46 : Value).ownBlock) ∧ some k_ ≠ (.slice Ao47 t241.length co47 : Value).ownBlock) ∧ some k_ ≠ (.slice Ao50 t251.length co50 : Value).ownBlock) ∧ some k_ ≠ (.slice Ao51 t254.length co51 : Value).ownBlock) ∧ some k_ ≠ (.slice Ao52 t257.length co52 : Value).ownBlock) ∧ some k_ ≠ (.slice Ao53 t260.length co53 : Value).ownBlock) ∧ some k_ ≠ (.slice Ao63 t271.length co63 : Value).ownBlock) ∧ some k_ ≠ (.slice Ao64 t274.length co64 : Value).ownBlock) ∧ some k_ ≠ (.slice Ao65 t277.length co65 : Value).ownBlock) ∧ some k_ ≠ (.slice Ao66 t280.length co66 : Value).ownBlock)) (n := t297.length) (c := co78) ?_).2.2; exact (by (with_reducible repeat (first | apply zf | apply zj | apply zi)); exact (zn (Kd_R_far7 HO299.out BK304.out (by decide)) (fun _ h_ => h_.1)))); (case side22 => exact (zq HO299.out).2.1); (case side23 => refine (zq (e := 4) (base := w.heap.size) (ok := fun k_ => (((((((((((((some k_ ≠ (.slice Ao76 t291.length co76 : Value).ownBlock ∧ (some k_ ≠ (.slice Ao77 t294.length co77 : Value).ownBlock ∧ some k_ ≠ (.slice Ao78 t297.length co78 : Value).ownBlock)) ∧ some k_ ≠ (.slice Ao44 t232.length co44 : Value).ownBlock) ∧ some k_ ≠ (.slice Ao45 t235.length co45 : Value).ownBlock) ∧ some k_ ≠ (.slice Ao46 t238.length co46 : Value).ownBlock) ∧ some k_ ≠ (.slice Ao47 t241.length co47 : Value).ownBlock) ∧ some k_ ≠ (.slice Ao50 t251.length co50 : Value).ownBlock) ∧ some k_ ≠ (.slice Ao51 t254.length co51 : Value).ownBlock) ∧ some k_ ≠ (.slice Ao52 t257.length co52 : Value).ownBlock) ∧ some k_ ≠ (.slice Ao53 t260.length co53 : Value).ownBlock) ∧ some k_ ≠ (.slice Ao63 t271.length co63 : Value).ownBlock) ∧ some k_ ≠ (.slice Ao64 t274.length co64 : Value).ownBlock) ∧ some k_ ≠ (.slice Ao65 t277.length co65 : Value).ownBlock) ∧ some k_ ≠ (.slice Ao66 t280.length co66 : Value).ownBlock)) (n := t300.length) (c := co79) ?_).2.2; exact (by (with_reducible repeat (first | apply zf | apply zj | apply zi)); exact (zn (Kd_R_far7 HO302.out BK304.out (by decide)) (fun _ h_ => h_.1)))); (case side24 => exact (zq HO302.out).2.1); rintro e w81 ⟨rfl, hb⟩; refine ⟨_, rfl, ?_⟩; have n0_ := za (zh (by (with_reducible repeat (first | apply zf | apply zj | apply zi)); exact (zn (Kd_R_far7 HO228.out BK304.out (by decide)) (fun _ h_ => h_.1))) hb); have n1_ := za (zh (by (with_reducible repeat (first | apply zf | apply zj | apply zi)); exact (zn (Kd_R_far7 HO231.out BK304.out (by decide)) (fun _ h_ => h_.1))) hb); have n2_ := za (zh (by (with_reducible repeat (first | apply zf | apply zj | apply zi)); exact (zn (Kd_R_far7 HO234.out BK304.out (by decide)) (fun _ h_ => h_.1))) hb); have n3_ := za (zh (by (with_reducible repeat (first | apply zf | apply zj | apply zi)); exact (zn (Kd_R_far7 HO237.out BK304.out (by decide)) (fun _ h_ => h_.1))) hb); have n4_ := za (zh (by (with_reducible repeat (first | apply zf | apply zj | apply zi)); exact (zn (Kd_R_far7 HO240.out BK304.out (by decide)) (fun _ h_ => h_.1))) hb); have n5_ := za (zh (by (with_reducible repeat (first | apply zf | apply zj | apply zi)); exact (zn (Kd_R_far7 HO243.out BK304.out (by decide)) (fun _ h_ => h_.1))) hb); have n6_ := za (zh (by (with_reducible repeat (first | apply zf | apply zj | apply zi)); exact (zn (Kd_R_far7 HO247.out BK304.out (by decide)) (fun _ h_ => h_.1))) hb); have n7_ := za (zh (by (with_reducible repeat (first | apply zf | apply zj | apply zi)); exact (zn (Kd_R_far7 HO250.out BK304.out (by decide)) (fun _ h_ => h_.1))) hb); have n8_ := za (zh (by (with_reducible repeat (first | apply zf | apply zj | apply zi)); exact (zn (Kd_R_far7 HO253.out BK304.out (by decide)) (fun _ h_ => h_.1))) hb); have n9_ := za (zh (by (with_reducible repeat (first | apply zf | apply zj | apply zi)); exact (zn (Kd_R_far7 HO256.out BK304.out (by decide)) (fun _ h_ => h_.1))) hb); have n10_ := za (zh (by (with_reducible repeat (first | apply zf | apply zj | apply zi)); exact (zn (Kd_R_far7 HO259.out BK304.out (by decide)) (fun _ h_ => h_.1))) hb); have n11_ := za (zh (by (with_reducible repeat (first | apply zf | apply zj | apply zi)); exact (zn (Kd_R_far7 HO262.out BK304.out (by decide)) (fun _ h_ => h_.1))) hb); have n12_ := za (zh (by (with_reducible repeat (first | apply zf | apply zj | apply zi)); exact (zn (Kd_R_far7 HO267.out BK304.out (by decide)) (fun _ h_ => h_.1))) hb); have n13_ := za (zh (by (with_reducible repeat (first | apply zf | apply zj | apply zi)); exact (zn (Kd_R_far7 HO270.out BK304.out (by decide)) (fun _ h_ => h_.1))) hb); have n14_ := za (zh (by (with_reducible repeat (first | apply zf | apply zj | apply zi)); exact (zn (Kd_R_far7 HO273.out BK304.out (by decide)) (fun _ h_ => h_.1))) hb); have n15_ := za (zh (by (with_reducible repeat (first | apply zf | apply zj | apply zi)); exact (zn (Kd_R_far7 HO276.out BK304.out (by decide)) (fun _ h_ => h_.1))) hb); have n16_ := za (zh (by (with_reducible repeat (first | apply zf | apply zj | apply zi)); exact (zn (Kd_R_far7 HO279.out BK304.out (by decide)) (fun _ h_ => h_.1))) hb); have n17_ := za (zh (by (with_reducible repeat (first | apply zf | apply zj | apply zi)); exact (zn (Kd_R_far7 HO282.out BK304.out (by decide)) (fun _ h_ => h_.1))) hb); have n18_ := za (zh (by (with_reducible repeat (first | apply zf | apply zj | apply zi)); exact (zn (Kd_R_far7 HO287.out BK304.out (by decide)) (fun _ h_ => h_.1))) hb); have n19_ := za (zh (by (with_reducible repeat (first | apply zf | apply zj | apply zi)); exact (zn (Kd_R_far7 HO290.out BK304.out (by decide)) (fun _ h_ => h_.1))) hb); have n20_ := za (zh (by (with_reducible repeat (first | apply zf | apply zj | apply zi)); exact (zn (Kd_R_far7 HO293.out BK304.out (by decide)) (fun _ h_ => h_.1))) hb); have n21_ := za (zh (by (with_reducible repeat (first | apply zf | apply zj | apply zi)); exact (zn (Kd_R_far7 HO296.out BK304.out (by decide)) (fun _ h_ => h_.1))) hb); have n22_ := za (zh (by (with_reducible repeat (first | apply zf | apply zj | apply zi)); exact (zn (Kd_R_far7 HO299.out BK304.out (by decide)) (fun _ h_ => h_.1))) hb); have n23_ := za (zh (by (with_reducible repeat (first | apply zf | apply zj | apply zi)); exact (zn (Kd_R_far7 HO302.out BK304.out (by decide)) (fun _ h_ => h_.1))) hb); have n24_ := za (zz (g := gb222) (o := .cells #[.slice A0_0 l0_0.length c0_0, .slice A0_1 l0_1.length c0_1, .slice A0_2 l0_2.length c0_2, .slice A0_3 l0_3.length c0_3, .slice A0_4 l0_4.length c0_4, .slice A0_5 l0_5.length c0_5, .int .i64 a0_6] 26 (0, 0)) (by (with_reducible repeat (first | refine zC ?_ _ | refine zB ?_ | refine zy ?_ _)); refine blk_far ?_ NB222_304.out _; (with_reducible repeat (first | refine zC ?_ _ | refine zB ?_ | refine zy ?_ _)); refine blk_far ?_ NB222_304.out _; (with_reducible repeat (first | refine zC ?_ _ | refine zB ?_ | refine zy ?_ _)); refine blk_far ?_ NB222_304.out _; (with_reducible repeat (first | refine zC ?_ _ | refine zB ?_ | refine zy ?_ _)); refine blk_far ?_ NB222_304.out _; (with_reducible repeat (first | refine zC ?_ _ | refine zB ?_ | refine zy ?_ _)); refine blk_far ?_ NB222_304.out _; (with_reducible repeat (first | refine zC ?_ _ | refine zB ?_ | refine zy ?_ _)); refine blk_far ?_ NB222_304.out _; (with_reducible repeat (first | refine zC ?_ _ | refine zB ?_ | refine zy ?_ _)); refine blk_far ?_ NB222_304.out _; (with_reducible repeat (first | refine zC ?_ _ | refine zB ?_ | refine zy ?_ _)); exact BK222.out) hb); have n25_ := za (zz (g := gb223) (o := .cells #[.slice A1_0 l1_0.length c1_0, .slice A1_1 l1_1.length c1_1, .slice A1_2 l1_2.length c1_2, .slice A1_3 l1_3.length c1_3, .slice A1_4 l1_4.length c1_4, .slice A1_5 l1_5.length c1_5, .int .i64 a1_6] 26 (0, 0)) (by (with_reducible repeat (first | refine zC ?_ _ | refine zB ?_ | refine zy ?_ _)); refine blk_far ?_ NB223_304.out _; (with_reducible repeat (first | refine zC ?_ _ | refine zB ?_ | refine zy ?_ _)); refine blk_far ?_ NB223_304.out _; (with_reducible repeat (first | refine zC ?_ _ | refine zB ?_ | refine zy ?_ _)); refine blk_far ?_ NB223_304.out _; (with_reducible repeat (first | refine zC ?_ _ | refine zB ?_ | refine zy ?_ _)); refine blk_far ?_ NB223_304.out _; (with_reducible repeat (first | refine zC ?_ _ | refine zB ?_ | refine zy ?_ _)); refine blk_far ?_ NB223_304.out _; (with_reducible repeat (first | refine zC ?_ _ | refine zB ?_ | refine zy ?_ _)); refine blk_far ?_ NB223_304.out _; (with_reducible repeat (first | refine zC ?_ _ | refine zB ?_ | refine zy ?_ _)); refine blk_far ?_ NB223_304.out _; (with_reducible repeat (first | refine zC ?_ _ | refine zB ?_ | refine zy ?_ _)); exact BK223.out) hb); have n26_ := za (zz (g := gb284) (o := .cells #[.slice Ao58 t265.length co58, .slice Ao62 t268.length co62, .slice Ao63 t271.length co63, .slice Ao64 t274.length co64, .slice Ao65 t277.length co65, .slice Ao66 t280.length co66, .int .i64 t283] 31 (0, 0)) (by (with_reducible repeat (first | refine zC ?_ _ | refine zB ?_ | refine zy ?_ _)); refine blk_far ?_ NB284_304.out _; (with_reducible repeat (first | refine zC ?_ _ | refine zB ?_ | refine zy ?_ _)); refine blk_far ?_ NB284_304.out _; (with_reducible repeat (first | refine zC ?_ _ | refine zB ?_ | refine zy ?_ _)); refine blk_far ?_ NB284_304.out _; (with_reducible repeat (first | refine zC ?_ _ | refine zB ?_ | refine zy ?_ _)); refine blk_far ?_ NB284_304.out _; (with_reducible repeat (first | refine zC ?_ _ | refine zB ?_ | refine zy ?_ _)); refine blk_far ?_ NB284_304.out _; (with_reducible repeat (first | refine zC ?_ _ | refine zB ?_ | refine zy ?_ _)); refine blk_far ?_ NB284_304.out _; (with_reducible repeat (first | refine zC ?_ _ | refine zB ?_ | refine zy ?_ _)); refine blk_far ?_ NB284_304.out _; (with_reducible repeat (first | refine zC ?_ _ | refine zB ?_ | refine zy ?_ _)); exact BK284.out) hb); have n27_ := za (zz (g := gb304) (o := .cells #[.slice Ao70 t285.length co70, .slice Ao75 t288.length co75, .slice Ao76 t291.length co76, .slice Ao77 t294.length co77, .slice Ao78 t297.length co78, .slice Ao79 t300.length co79, .int .i64 t303] 31 (0, 0)) (by (with_reducible repeat (first | refine zC ?_ _ | refine zB ?_ | refine zy ?_ _)); refine blk_put (cs := #[.slice Ao70 t285.length co70, .slice Ao75 t288.length co75, .slice Ao76 t291.length co76, .slice Ao77 t294.length co77, .slice Ao78 t297.length co78, .slice Ao79 t300.length co79, .int .i64 0]) ?_ 6 _ rfl; (with_reducible repeat (first | refine zC ?_ _ | refine zB ?_ | refine zy ?_ _)); refine blk_put (cs := #[.slice Ao70 t285.length co70, .slice Ao75 t288.length co75, .slice Ao76 t291.length co76, .slice Ao77 t294.length co77, .slice Ao78 t297.length co78, .slice none 0 0, .int .i64 0]) ?_ 5 _ rfl; (with_reducible repeat (first | refine zC ?_ _ | refine zB ?_ | refine zy ?_ _)); refine blk_put (cs := #[.slice Ao70 t285.length co70, .slice Ao75 t288.length co75, .slice Ao76 t291.length co76, .slice Ao77 t294.length co77, .slice none 0 0, .slice none 0 0, .int .i64 0]) ?_ 4 _ rfl; (with_reducible repeat (first | refine zC ?_ _ | refine zB ?_ | refine zy ?_ _)); refine blk_put (cs := #[.slice Ao70 t285.length co70, .slice Ao75 t288.length co75, .slice Ao76 t291.length co76, .slice none 0 0, .slice none 0 0, .slice none 0 0, .int .i64 0]) ?_ 3 _ rfl; (with_reducible repeat (first | refine zC ?_ _ | refine zB ?_ | refine zy ?_ _)); refine blk_put (cs := #[.slice Ao70 t285.length co70, .slice Ao75 t288.length co75, .slice none 0 0, .slice none 0 0, .slice none 0 0, .slice none 0 0, .int .i64 0]) ?_ 2 _ rfl; (with_reducible repeat (first | refine zC ?_ _ | refine zB ?_ | refine zy ?_ _)); refine blk_put (cs := #[.slice Ao70 t285.length co70, .slice none 0 0, .slice none 0 0, .slice none 0 0, .slice none 0 0, .slice none 0 0, .int .i64 0]) ?_ 1 _ rfl; (with_reducible repeat (first | refine zC ?_ _ | refine zB ?_ | refine zy ?_ _)); refine blk_put (cs := #[.slice none 0 0, .slice none 0 0, .slice none 0 0, .slice none 0 0, .slice none 0 0, .slice none 0 0, .int .i64 0]) ?_ 0 _ rfl; (with_reducible repeat (first | refine zC ?_ _ | refine zB ?_ | refine zy ?_ _)); exact BK304.out) hb); have n28_ := za (zx (by repeat (first | (with_reducible first | exact HB.out | apply zt | apply zE | apply zu | refine zv ?_ GE222.out | refine zv ?_ GE223.out | refine zv ?_ GE284.out | refine zv ?_ GE304.out) | exact HB.out)) hb); clear HO228; clear HO231; clear HO234; clear HO237; clear HO240; clear HO243; clear HO247; clear HO250; clear HO253; clear HO256; clear HO259; clear HO262; clear HO267; clear HO270; clear HO273; clear HO276; clear HO279; clear HO282; clear HO287; clear HO290; clear HO293; clear HO296; clear HO299; clear HO302; clear BK222; clear BK223; clear BK284; clear BK304; clear HB; have HO228 := n0_; have HO231 := n1_; have HO234 := n2_; have HO237 := n3_; have HO240 := n4_; have HO243 := n5_; have HO247 := n6_; have HO250 := n7_; have HO253 := n8_; have HO256 := n9_; have HO259 := n10_; have HO262 := n11_; have HO267 := n12_; have HO270 := n13_; have HO273 := n14_; have HO276 := n15_; have HO279 := n16_; have HO282 := n17_; have HO287 := n18_; have HO290 := n19_; have HO293 := n20_; have HO296 := n21_; have HO299 := n22_; have HO302 := n23_; have BK222 := n24_; have BK223 := n25_; have BK284 := n26_; have BK304 := n27_; have HB := n28_; clear n0_ n1_ n2_ n3_ n4_ n5_ n6_ n7_ n8_ n9_ n10_ n11_ n12_ n13_ n14_ n15_ n16_ n17_ n18_ n19_ n20_ n21_ n22_ n23_ n24_ n25_ n26_ n27_ n28_; (try clear hb); (try clear hb2); (try clear hk); (try clear hi)))
      have n0_ := za (zi HO228.out)
      have n1_ := za (zi HO231.out)
      have n2_ := za (zi HO234.out)
      have n3_ := za (zi HO237.out)
      have n4_ := za (zi HO240.out)
      have n5_ := za (zi HO243.out)
      have n6_ := za (zi HO247.out)
      have n7_ := za (zi HO250.out)
      have n8_ := za (zi HO253.out)
      have n9_ := za (zi HO256.out)
      have n10_ := za (zi HO259.out)
      have n11_ := za (zi HO262.out)
      have n12_ := za (zi HO267.out)
      have n13_ := za (zi HO270.out)
      have n14_ := za (zi HO273.out)
      have n15_ := za (zi HO276.out)
      have n16_ := za (zi HO279.out)
      have n17_ := za (zi HO282.out)
      have n18_ := za (zi HO287.out)
      have n19_ := za (zi HO290.out)
      have n20_ := za (zi HO293.out)
      have n21_ := za (zi HO296.out)
      have n22_ := za (zi HO299.out)
      have n23_ := za (zi HO302.out)
      have n24_ := za (zB BK222.out)
      have n25_ := za (zB BK223.out)
      have n26_ := za (zB BK284.out)
      have n27_ := za (zB BK304.out)
      have n28_ := za (zu HB.out)
      clear HO228
      clear HO231
      clear HO234
      clear HO237
      clear HO240
      clear HO243
      clear HO247
      clear HO250
      clear HO253
      clear HO256
      clear HO259
      clear HO262
      clear HO267
      clear HO270
      clear HO273
      clear HO276
      clear HO279
      clear HO282
      clear HO287
      clear HO290
      clear HO293
      clear HO296
      clear HO299
      clear HO302
      clear BK222
      clear BK223
      clear BK284
      clear BK304
      clear HB
      have HO228 := n0_
      have HO231 := n1_
      have HO234 := n2_
      have HO237 := n3_
      have HO240 := n4_
      have HO243 := n5_
      have HO247 := n6_
      have HO250 := n7_
      have HO253 := n8_
      have HO256 := n9_
      have HO259 := n10_
      have HO262 := n11_
      have HO267 := n12_
      have HO270 := n13_
      have HO273 := n14_
      have HO276 := n15_
      have HO279 := n16_
      have HO282 := n17_
      have HO287 := n18_
      have HO290 := n19_
      have HO293 := n20_
      have HO296 := n21_
      have HO299 := n22_
      have HO302 := n23_
      have BK222 := n24_
      have BK223 := n25_
      have BK284 := n26_
      have BK304 := n27_
      have HB := n28_
      clear n0_ n1_ n2_ n3_ n4_ n5_ n6_ n7_ n8_ n9_ n10_ n11_ n12_ n13_ n14_ n15_ n16_ n17_ n18_ n19_ n20_ n21_ n22_ n23_ n24_ n25_ n26_ n27_ n28_
      refine start_ (n := 5) (S := fun w' => w'.cell? ⟨gb284, 0, none⟩ = some (.slice Ao58 t265.length co58) ∧ w'.cell? ⟨gb284, 1, none⟩ = some (.slice Ao62 t268.length co62) ∧ w'.cell? ⟨gb284, 2, none⟩ = some (.slice Ao63 t271.length co63) ∧ w'.cell? ⟨gb284, 3, none⟩ = some (.slice Ao64 t274.length co64) ∧ w'.cell? ⟨gb284, 4, none⟩ = some (.slice Ao65 t277.length co65) ∧ w'.cell? ⟨gb284, 5, none⟩ = some (.slice Ao66 t280.length co66) ∧ w'.cell? ⟨gb284, 6, none⟩ = some (.int .i64 t283) ∧ w'.cell? ⟨gb222, 0, none⟩ = some (.slice A0_0 l0_0.length c0_0) ∧ w'.cell? ⟨gb222, 1, none⟩ = some (.slice A0_1 l0_1.length c0_1) ∧ w'.cell? ⟨gb222, 2, none⟩ = some (.slice A0_2 l0_2.length c0_2) ∧ w'.cell? ⟨gb222, 3, none⟩ = some (.slice A0_3 l0_3.length c0_3) ∧ w'.cell? ⟨gb222, 4, none⟩ = some (.slice A0_4 l0_4.length c0_4) ∧ w'.cell? ⟨gb222, 5, none⟩ = some (.slice A0_5 l0_5.length c0_5) ∧ w'.cell? ⟨gb222, 6, none⟩ = some (.int .i64 a0_6)) (ds := []) #[false, false, false, false, false] (by kernel_rfl) rfl rfl ⟨(zA BK284.out 0).trans rfl, (zA BK284.out 1).trans rfl, (zA BK284.out 2).trans rfl, (zA BK284.out 3).trans rfl, (zA BK284.out 4).trans rfl, (zA BK284.out 5).trans rfl, (zA BK284.out 6).trans rfl, (zA BK222.out 0).trans rfl, (zA BK222.out 1).trans rfl, (zA BK222.out 2).trans rfl, (zA BK222.out 3).trans rfl, (zA BK222.out 4).trans rfl, (zA BK222.out 5).trans rfl, (zA BK222.out 6).trans rfl⟩ (fun hHeld => ?_)
      generalize w81.drew = w82 at HO228 HO231 HO234 HO237 HO240 HO243 HO247 HO250 HO253 HO256 HO259 HO262 HO267 HO270 HO273 HO276 HO279 HO282 HO287 HO290 HO293 HO296 HO299 HO302 BK222 BK223 BK284 BK304 HB hHeld ⊢
      refine take_ (i := 0) (N := some 35) (v := ?_) (a' := ?_) #[true, false, false, false, false] rfl rfl (by kernel_rfl) (fun _ _ _ h => h) (Or.inl ⟨by rfl, ?_⟩) hHeld ?_ ?_
      rotate_left
      ·
       rintro w' ⟨s0, s1, s2, s3, s4, s5, s6, s7, s8, s9, s10, s11, s12, s13⟩
       go_simp
       with_reducible rfl
      rotate_left
      ·
       simp only [Act.put, List.setIfInBounds_toArray, List.set_cons_zero, List.set_cons_succ, i64_w, i32_w]
       rfl
      refine take_ (i := 1) (N := some 36) (v := ?_) (a' := ?_) #[true, true, false, false, false] rfl rfl (by kernel_rfl) (fun _ _ _ h => h) (Or.inl ⟨by rfl, ?_⟩) hHeld ?_ ?_
      rotate_left
      ·
       rintro w' ⟨s0, s1, s2, s3, s4, s5, s6, s7, s8, s9, s10, s11, s12, s13⟩
       go_simp
       with_reducible rfl
      rotate_left
      ·
       simp only [Act.put, List.setIfInBounds_toArray, List.set_cons_zero, List.set_cons_succ, i64_w, i32_w]
       rfl
      refine one_ (i := 2) (N := some 37) #[true, true, true, false, false] rfl rfl (by kernel_rfl) (by decide) (fun K hK => ?_)
      refine goes_ Try.func13 (by kernel_rfl) rfl #[.agg #[.slice A0_0 l0_0.length c0_0, .slice A0_1 l0_1.length c0_1, .slice A0_2 l0_2.length c0_2, .slice A0_3 l0_3.length c0_3, .slice A0_4 l0_4.length c0_4, .slice A0_5 l0_5.length c0_5, .int .i64 a0_6]] (by rfl) rfl rfl (by (try simp only [List.map_toArray, List.map_cons, List.map_nil]); first | done | rfl | (simp only [List.length_drop, List.length_take]; rfl)) ?_
      with_reducible refine (laws_toData.calls k _ _ l0_0 _ _ l0_1 _ _ l0_2 _ _ l0_3 _ _ l0_4 _ _ l0_5 a0_6 t306 t309 t312 t315 t318 t321 t324 _ ?side1 ?side2 ?side3 ?side4 ?side5 ?side6 ?side7 ?side8 ?side9 ?side10 ?side11 ?side12 A26.out).mono ?_
      (case side1 => repeat (first | exact (zc HR0_0.out HB.out) | (with_reducible refine zb ?_ _) | (with_reducible refine ze ?_ _) | (with_reducible refine zd ?_)))
      (case side2 => exact HC0_0.out)
      (case side3 => repeat (first | exact (zc HR0_1.out HB.out) | (with_reducible refine zb ?_ _) | (with_reducible refine ze ?_ _) | (with_reducible refine zd ?_)))
      (case side4 => exact HC0_1.out)
      (case side5 => repeat (first | exact (zc HR0_2.out HB.out) | (with_reducible refine zb ?_ _) | (with_reducible refine ze ?_ _) | (with_reducible refine zd ?_)))
      (case side6 => exact HC0_2.out)
      (case side7 => repeat (first | exact (zc HR0_3.out HB.out) | (with_reducible refine zb ?_ _) | (with_reducible refine ze ?_ _) | (with_reducible refine zd ?_)))
      (case side8 => exact HC0_3.out)
      (case side9 => repeat (first | exact (zc HR0_4.out HB.out) | (with_reducible refine zb ?_ _) | (with_reducible refine ze ?_ _) | (with_reducible refine zd ?_)))
      (case side10 => exact HC0_4.out)
      (case side11 => repeat (first | exact (zc HR0_5.out HB.out) | (with_reducible refine zb ?_ _) | (with_reducible refine ze ?_ _) | (with_reducible refine zd ?_)))
      (case side12 => exact HC0_5.out)
      rintro e w83 ⟨v307, v310, v313, v316, v319, v322, rfl, ho0, ho1, ho2, ho3, ho4, ho5, hb⟩
      refine ⟨_, rfl, ?_⟩
      have n0_ := za (zk (by (with_reducible repeat (first | apply zf | apply zj | apply zi)); exact HO228.out) (zg ho0) hb)
      have n1_ := za (zk (by (with_reducible repeat (first | apply zf | apply zj | apply zi)); exact HO231.out) (zg ho1) hb)
      have n2_ := za (zn (zs (zs (zs (zs (zp (by (with_reducible repeat (first | apply zf | apply zj | apply zi)); exact HO234.out) hb) (zg ho2)) (zg ho3)) (zg ho4)) (zg ho5)) (fun _ h_ => h_.1))
      have n3_ := za (zn (zs (zs (zs (zs (zp (by (with_reducible repeat (first | apply zf | apply zj | apply zi)); exact HO237.out) hb) (zg ho2)) (zg ho3)) (zg ho4)) (zg ho5)) (fun _ h_ => h_.1))
      have n4_ := za (zn (zs (zs (zs (zs (zp (by (with_reducible repeat (first | apply zf | apply zj | apply zi)); exact HO240.out) hb) (zg ho2)) (zg ho3)) (zg ho4)) (zg ho5)) (fun _ h_ => h_.1))
      have n5_ := za (zn (zs (zs (zs (zs (zp (by (with_reducible repeat (first | apply zf | apply zj | apply zi)); exact HO243.out) hb) (zg ho2)) (zg ho3)) (zg ho4)) (zg ho5)) (fun _ h_ => h_.1))
      have n6_ := za (zk (by (with_reducible repeat (first | apply zf | apply zj | apply zi)); exact HO247.out) (zg ho0) hb)
      have n7_ := za (zk (by (with_reducible repeat (first | apply zf | apply zj | apply zi)); exact HO250.out) (zg ho1) hb)
      have n8_ := za (zn (zs (zs (zs (zs (zp (by (with_reducible repeat (first | apply zf | apply zj | apply zi)); exact HO253.out) hb) (zg ho2)) (zg ho3)) (zg ho4)) (zg ho5)) (fun _ h_ => h_.1))
      have n9_ := za (zn (zs (zs (zs (zs (zp (by (with_reducible repeat (first | apply zf | apply zj | apply zi)); exact HO256.out) hb) (zg ho2)) (zg ho3)) (zg ho4)) (zg ho5)) (fun _ h_ => h_.1))
      have n10_ := za (zn (zs (zs (zs (zs (zp (by (with_reducible repeat (first | apply zf | apply zj | apply zi)); exact HO259.out) hb) (zg ho2)) (zg ho3)) (zg ho4)) (zg ho5)) (fun _ h_ => h_.1))
      have n11_ := za (zn (zs (zs (zs (zs (zp (by (with_reducible repeat (first | apply zf | apply zj | apply zi)); exact HO262.out) hb) (zg ho2)) (zg ho3)) (zg ho4)) (zg ho5)) (fun _ h_ => h_.1))
      have n12_ := za (zk (by (with_reducible repeat (first | apply zf | apply zj | apply zi)); exact HO267.out) (zg ho0) hb)
      have n13_ := za (zk (by (with_reducible repeat (first | apply zf | apply zj | apply zi)); exact HO270.out) (zg ho1) hb)
      have n14_ := za (zn (zs (zs (zs (zs (zp (by (with_reducible repeat (first | apply zf | apply zj | apply zi)); exact HO273.out) hb) (zg ho2)) (zg ho3)) (zg ho4)) (zg ho5)) (fun _ h_ => h_.1))
      have n15_ := za (zn (zs (zs (zs (zs (zp (by (with_reducible repeat (first | apply zf | apply zj | apply zi)); exact HO276.out) hb) (zg ho2)) (zg ho3)) (zg ho4)) (zg ho5)) (fun _ h_ => h_.1))
      have n16_ := za (zn (zs (zs (zs (zs (zp (by (with_reducible repeat (first | apply zf | apply zj | apply zi)); exact HO279.out) hb) (zg ho2)) (zg ho3)) (zg ho4)) (zg ho5)) (fun _ h_ => h_.1))
      have n17_ := za (zn (zs (zs (zs (zs (zp (by (with_reducible repeat (first | apply zf | apply zj | apply zi)); exact HO282.out) hb) (zg ho2)) (zg ho3)) (zg ho4)) (zg ho5)) (fun _ h_ => h_.1))
      have n18_ := za (zk (by (with_reducible repeat (first | apply zf | apply zj | apply zi)); exact HO287.out) (zg ho0) hb)
      have n19_ := za (zk (by (with_reducible repeat (first | apply zf | apply zj | apply zi)); exact HO290.out) (zg ho1) hb)
      have n20_ := za (zn (zs (zs (zs (zs (zp (by (with_reducible repeat (first | apply zf | apply zj | apply zi)); exact HO293.out) hb) (zg ho2)) (zg ho3)) (zg ho4)) (zg ho5)) (fun _ h_ => h_.1))
      have n21_ := za (zn (zs (zs (zs (zs (zp (by (with_reducible repeat (first | apply zf | apply zj | apply zi)); exact HO296.out) hb) (zg ho2)) (zg ho3)) (zg ho4)) (zg ho5)) (fun _ h_ => h_.1))
      have n22_ := za (zn (zs (zs (zs (zs (zp (by (with_reducible repeat (first | apply zf | apply zj | apply zi)); exact HO299.out) hb) (zg ho2)) (zg ho3)) (zg ho4)) (zg ho5)) (fun _ h_ => h_.1))
      have n23_ := za (zn (zs (zs (zs (zs (zp (by (with_reducible repeat (first | apply zf | apply zj | apply zi)); exact HO302.out) hb) (zg ho2)) (zg ho3)) (zg ho4)) (zg ho5)) (fun _ h_ => h_.1))
      have n24_ := za (zl (zo (zo (zo (zo ho0 (zm (by (with_reducible repeat (first | apply zf | apply zj | apply zi)); exact HO228.out))) (zm (by (with_reducible repeat (first | apply zf | apply zj | apply zi)); exact HO247.out))) (zm (by (with_reducible repeat (first | apply zf | apply zj | apply zi)); exact HO267.out))) (zm (by (with_reducible repeat (first | apply zf | apply zj | apply zi)); exact HO287.out))) (zw (by repeat (first | (with_reducible first | exact HB.out | apply zt | apply zE | apply zu | refine zv ?_ GE222.out | refine zv ?_ GE223.out | refine zv ?_ GE284.out | refine zv ?_ GE304.out) | exact HB.out))))
      have n25_ := za (zl (zo (zo (zo (zo ho1 (zm (by (with_reducible repeat (first | apply zf | apply zj | apply zi)); exact HO231.out))) (zm (by (with_reducible repeat (first | apply zf | apply zj | apply zi)); exact HO250.out))) (zm (by (with_reducible repeat (first | apply zf | apply zj | apply zi)); exact HO270.out))) (zm (by (with_reducible repeat (first | apply zf | apply zj | apply zi)); exact HO290.out))) (zw (by repeat (first | (with_reducible first | exact HB.out | apply zt | apply zE | apply zu | refine zv ?_ GE222.out | refine zv ?_ GE223.out | refine zv ?_ GE284.out | refine zv ?_ GE304.out) | exact HB.out))))
      have n26_ := za (zl (zo (zo (zo (zo (zo (zo (zo (zo (zo (zo (zo (zo (zo (zo (zo (zo ho2 (zm (by (with_reducible repeat (first | apply zf | apply zj | apply zi)); exact HO234.out))) (zm (by (with_reducible repeat (first | apply zf | apply zj | apply zi)); exact HO237.out))) (zm (by (with_reducible repeat (first | apply zf | apply zj | apply zi)); exact HO240.out))) (zm (by (with_reducible repeat (first | apply zf | apply zj | apply zi)); exact HO243.out))) (zm (by (with_reducible repeat (first | apply zf | apply zj | apply zi)); exact HO253.out))) (zm (by (with_reducible repeat (first | apply zf | apply zj | apply zi)); exact HO256.out))) (zm (by (with_reducible repeat (first | apply zf | apply zj | apply zi)); exact HO259.out))) (zm (by (with_reducible repeat (first | apply zf | apply zj | apply zi)); exact HO262.out))) (zm (by (with_reducible repeat (first | apply zf | apply zj | apply zi)); exact HO273.out))) (zm (by (with_reducible repeat (first | apply zf | apply zj | apply zi)); exact HO276.out))) (zm (by (with_reducible repeat (first | apply zf | apply zj | apply zi)); exact HO279.out))) (zm (by (with_reducible repeat (first | apply zf | apply zj | apply zi)); exact HO282.out))) (zm (by (with_reducible repeat (first | apply zf | apply zj | apply zi)); exact HO293.out))) (zm (by (with_reducible repeat (first | apply zf | apply zj | apply zi)); exact HO296.out))) (zm (by (with_reducible repeat (first | apply zf | apply zj | apply zi)); exact HO299.out))) (zm (by (with_reducible repeat (first | apply zf | apply zj | apply zi)); exact HO302.out))) (zw (by repeat (first | (with_reducible first | exact HB.out | apply zt | apply zE | apply zu | refine zv ?_ GE222.out | refine zv ?_ GE223.out | refine zv ?_ GE284.out | refine zv ?_ GE304.out) | exact HB.out))))
      have n27_ := za (zl (zo (zo (zo (zo (zo (zo (zo (zo (zo (zo (zo (zo (zo (zo (zo (zo ho3 (zm (by (with_reducible repeat (first | apply zf | apply zj | apply zi)); exact HO234.out))) (zm (by (with_reducible repeat (first | apply zf | apply zj | apply zi)); exact HO237.out))) (zm (by (with_reducible repeat (first | apply zf | apply zj | apply zi)); exact HO240.out))) (zm (by (with_reducible repeat (first | apply zf | apply zj | apply zi)); exact HO243.out))) (zm (by (with_reducible repeat (first | apply zf | apply zj | apply zi)); exact HO253.out))) (zm (by (with_reducible repeat (first | apply zf | apply zj | apply zi)); exact HO256.out))) (zm (by (with_reducible repeat (first | apply zf | apply zj | apply zi)); exact HO259.out))) (zm (by (with_reducible repeat (first | apply zf | apply zj | apply zi)); exact HO262.out))) (zm (by (with_reducible repeat (first | apply zf | apply zj | apply zi)); exact HO273.out))) (zm (by (with_reducible repeat (first | apply zf | apply zj | apply zi)); exact HO276.out))) (zm (by (with_reducible repeat (first | apply zf | apply zj | apply zi)); exact HO279.out))) (zm (by (with_reducible repeat (first | apply zf | apply zj | apply zi)); exact HO282.out))) (zm (by (with_reducible repeat (first | apply zf | apply zj | apply zi)); exact HO293.out))) (zm (by (with_reducible repeat (first | apply zf | apply zj | apply zi)); exact HO296.out))) (zm (by (with_reducible repeat (first | apply zf | apply zj | apply zi)); exact HO299.out))) (zm (by (with_reducible repeat (first | apply zf | apply zj | apply zi)); exact HO302.out))) (zw (by repeat (first | (with_reducible first | exact HB.out | apply zt | apply zE | apply zu | refine zv ?_ GE222.out | refine zv ?_ GE223.out | refine zv ?_ GE284.out | refine zv ?_ GE304.out) | exact HB.out))))
      have n28_ := za (zl (zo (zo (zo (zo (zo (zo (zo (zo (zo (zo (zo (zo (zo (zo (zo (zo ho4 (zm (by (with_reducible repeat (first | apply zf | apply zj | apply zi)); exact HO234.out))) (zm (by (with_reducible repeat (first | apply zf | apply zj | apply zi)); exact HO237.out))) (zm (by (with_reducible repeat (first | apply zf | apply zj | apply zi)); exact HO240.out))) (zm (by (with_reducible repeat (first | apply zf | apply zj | apply zi)); exact HO243.out))) (zm (by (with_reducible repeat (first | apply zf | apply zj | apply zi)); exact HO253.out))) (zm (by (with_reducible repeat (first | apply zf | apply zj | apply zi)); exact HO256.out))) (zm (by (with_reducible repeat (first | apply zf | apply zj | apply zi)); exact HO259.out))) (zm (by (with_reducible repeat (first | apply zf | apply zj | apply zi)); exact HO262.out))) (zm (by (with_reducible repeat (first | apply zf | apply zj | apply zi)); exact HO273.out))) (zm (by (with_reducible repeat (first | apply zf | apply zj | apply zi)); exact HO276.out))) (zm (by (with_reducible repeat (first | apply zf | apply zj | apply zi)); exact HO279.out))) (zm (by (with_reducible repeat (first | apply zf | apply zj | apply zi)); exact HO282.out))) (zm (by (with_reducible repeat (first | apply zf | apply zj | apply zi)); exact HO293.out))) (zm (by (with_reducible repeat (first | apply zf | apply zj | apply zi)); exact HO296.out))) (zm (by (with_reducible repeat (first | apply zf | apply zj | apply zi)); exact HO299.out))) (zm (by (with_reducible repeat (first | apply zf | apply zj | apply zi)); exact HO302.out))) (zw (by repeat (first | (with_reducible first | exact HB.out | apply zt | apply zE | apply zu | refine zv ?_ GE222.out | refine zv ?_ GE223.out | refine zv ?_ GE284.out | refine zv ?_ GE304.out) | exact HB.out))))
      have n29_ := za (zl (zo (zo (zo (zo (zo (zo (zo (zo (zo (zo (zo (zo (zo (zo (zo (zo ho5 (zm (by (with_reducible repeat (first | apply zf | apply zj | apply zi)); exact HO234.out))) (zm (by (with_reducible repeat (first | apply zf | apply zj | apply zi)); exact HO237.out))) (zm (by (with_reducible repeat (first | apply zf | apply zj | apply zi)); exact HO240.out))) (zm (by (with_reducible repeat (first | apply zf | apply zj | apply zi)); exact HO243.out))) (zm (by (with_reducible repeat (first | apply zf | apply zj | apply zi)); exact HO253.out))) (zm (by (with_reducible repeat (first | apply zf | apply zj | apply zi)); exact HO256.out))) (zm (by (with_reducible repeat (first | apply zf | apply zj | apply zi)); exact HO259.out))) (zm (by (with_reducible repeat (first | apply zf | apply zj | apply zi)); exact HO262.out))) (zm (by (with_reducible repeat (first | apply zf | apply zj | apply zi)); exact HO273.out))) (zm (by (with_reducible repeat (first | apply zf | apply zj | apply zi)); exact HO276.out))) (zm (by (with_reducible repeat (first | apply zf | apply zj | apply zi)); exact HO279.out))) (zm (by (with_reducible repeat (first | apply zf | apply zj | apply zi)); exact HO282.out))) (zm (by (with_reducible repeat (first | apply zf | apply zj | apply zi)); exact HO293.out))) (zm (by (with_reducible repeat (first | apply zf | apply zj | apply zi)); exact HO296.out))) (zm (by (with_reducible repeat (first | apply zf | apply zj | apply zi)); exact HO299.out))) (zm (by (with_reducible repeat (first | apply zf | apply zj | apply zi)); exact HO302.out))) (zw (by repeat (first | (with_reducible first | exact HB.out | apply zt | apply zE | apply zu | refine zv ?_ GE222.out | refine zv ?_ GE223.out | refine zv ?_ GE284.out | refine zv ?_ GE304.out) | exact HB.out))))
      have n30_ := za (zz (g := gb222) (o := .cells #[.slice A0_0 l0_0.length c0_0, .slice A0_1 l0_1.length c0_1, .slice A0_2 l0_2.length c0_2, .slice A0_3 l0_3.length c0_3, .slice A0_4 l0_4.length c0_4, .slice A0_5 l0_5.length c0_5, .int .i64 a0_6] 26 (0, 0)) (by (with_reducible repeat (first | refine zC ?_ _ | refine zB ?_ | refine zy ?_ _)); exact BK222.out) hb)
      have n31_ := za (zz (g := gb223) (o := .cells #[.slice A1_0 l1_0.length c1_0, .slice A1_1 l1_1.length c1_1, .slice A1_2 l1_2.length c1_2, .slice A1_3 l1_3.length c1_3, .slice A1_4 l1_4.length c1_4, .slice A1_5 l1_5.length c1_5, .int .i64 a1_6] 26 (0, 0)) (by (with_reducible repeat (first | refine zC ?_ _ | refine zB ?_ | refine zy ?_ _)); exact BK223.out) hb)
      have n32_ := za (zz (g := gb284) (o := .cells #[.slice Ao58 t265.length co58, .slice Ao62 t268.length co62, .slice Ao63 t271.length co63, .slice Ao64 t274.length co64, .slice Ao65 t277.length co65, .slice Ao66 t280.length co66, .int .i64 t283] 31 (0, 0)) (by (with_reducible repeat (first | refine zC ?_ _ | refine zB ?_ | refine zy ?_ _)); exact BK284.out) hb)
      have n33_ := za (zz (g := gb304) (o := .cells #[.slice Ao70 t285.length co70, .slice Ao75 t288.length co75, .slice Ao76 t291.length co76, .slice Ao77 t294.length co77, .slice Ao78 t297.length co78, .slice Ao79 t300.length co79, .int .i64 t303] 31 (0, 0)) (by (with_reducible repeat (first | refine zC ?_ _ | refine zB ?_ | refine zy ?_ _)); exact BK304.out) hb)
      have n34_ := za (zx (by repeat (first | (with_reducible first | exact HB.out | apply zt | apply zE | apply zu | refine zv ?_ GE222.out | refine zv ?_ GE223.out | refine zv ?_ GE284.out | refine zv ?_ GE304.out) | exact HB.out)) hb)
      clear HO228
      clear HO231
      clear HO234
      clear HO237
      clear HO240
      clear HO243
      clear HO247
      clear HO250
      clear HO253
      clear HO256
      clear HO259
      clear HO262
      clear HO267
      clear HO270
      clear HO273
      clear HO276
      clear HO279
      clear HO282
      clear HO287
      clear HO290
      clear HO293
      clear HO296
      clear HO299
      clear HO302
      clear BK222
      clear BK223
      clear BK284
      clear BK304
      clear HB
      have HO228 := n0_
      have HO231 := n1_
      have HO234 := n2_
      have HO237 := n3_
      have HO240 := n4_
      have HO243 := n5_
      have HO247 := n6_
      have HO250 := n7_
      have HO253 := n8_
      have HO256 := n9_
      have HO259 := n10_
      have HO262 := n11_
      have HO267 := n12_
      have HO270 := n13_
      have HO273 := n14_
      have HO276 := n15_
      have HO279 := n16_
      have HO282 := n17_
      have HO287 := n18_
      have HO290 := n19_
      have HO293 := n20_
      have HO296 := n21_
      have HO299 := n22_
      have HO302 := n23_
      have HO308 := n24_
      have HO311 := n25_
      have HO314 := n26_
      have HO317 := n27_
      have HO320 := n28_
      have HO323 := n29_
      have BK222 := n30_
      have BK223 := n31_
      have BK284 := n32_
      have BK304 := n33_
      have HB := n34_
      clear n0_ n1_ n2_ n3_ n4_ n5_ n6_ n7_ n8_ n9_ n10_ n11_ n12_ n13_ n14_ n15_ n16_ n17_ n18_ n19_ n20_ n21_ n22_ n23_ n24_ n25_ n26_ n27_ n28_ n29_ n30_ n31_ n32_ n33_ n34_
      (try clear hb)
      (try clear hb2)
      (try clear hk)
      (try clear hi)
      (try clear ho0)
      (try clear ho1)
      (try clear ho2)
      (try clear ho3)
      (try clear ho4)
      (try clear ho5)
      obtain ⟨Ao84, co84, eo84⟩ := zr HO308.out
      (first | subst eo84 | (injection eo84 with f1_ f2_ f3_; have f4_ := f1_.symm; have f5_ := f3_.symm; clear f1_ f2_ f3_; subst f4_; subst f5_))
      obtain ⟨Ao85, co85, eo85⟩ := zr HO311.out
      (first | subst eo85 | (injection eo85 with f1_ f2_ f3_; have f4_ := f1_.symm; have f5_ := f3_.symm; clear f1_ f2_ f3_; subst f4_; subst f5_))
      obtain ⟨Ao86, co86, eo86⟩ := zr HO314.out
      (first | subst eo86 | (injection eo86 with f1_ f2_ f3_; have f4_ := f1_.symm; have f5_ := f3_.symm; clear f1_ f2_ f3_; subst f4_; subst f5_))
      obtain ⟨Ao87, co87, eo87⟩ := zr HO317.out
      (first | subst eo87 | (injection eo87 with f1_ f2_ f3_; have f4_ := f1_.symm; have f5_ := f3_.symm; clear f1_ f2_ f3_; subst f4_; subst f5_))
      obtain ⟨Ao88, co88, eo88⟩ := zr HO320.out
      (first | subst eo88 | (injection eo88 with f1_ f2_ f3_; have f4_ := f1_.symm; have f5_ := f3_.symm; clear f1_ f2_ f3_; subst f4_; subst f5_))
      obtain ⟨Ao89, co89, eo89⟩ := zr HO323.out
      (first | subst eo89 | (injection eo89 with f1_ f2_ f3_; have f4_ := f1_.symm; have f5_ := f3_.symm; clear f1_ f2_ f3_; subst f4_; subst f5_))
      refine hK.out _ _ ⟨(zA BK284.out 0).trans rfl, (zA BK284.out 1).trans rfl, (zA BK284.out 2).trans rfl, (zA BK284.out 3).trans rfl, (zA BK284.out 4).trans rfl, (zA BK284.out 5).trans rfl, (zA BK284.out 6).trans rfl, (zA BK222.out 0).trans rfl, (zA BK222.out 1).trans rfl, (zA BK222.out 2).trans rfl, (zA BK222.out 3).trans rfl, (zA BK222.out 4).trans rfl, (zA BK222.out 5).trans rfl, (zA BK222.out 6).trans rfl⟩ (fun hHeld => ?_)
      clear hK K
      refine norm_ (a' := ?_) ?_ ?_
      rotate_left
      ·
       show Act.put _ (some 37) _ = _
       simp only [Act.put, List.setIfInBounds_toArray, List.set_cons_zero, List.set_cons_succ, i64_w, i32_w]
       rfl
      refine one_ (i := 3) (N := some 38) #[true, true, true, true, false] rfl rfl (by kernel_rfl) (by decide) (fun K hK => ?_)
      refine goes_ Try.func15 (by kernel_rfl) rfl #[.agg #[.slice Ao58 t265.length co58, .slice Ao62 t268.length co62, .slice Ao63 t271.length co63, .slice Ao64 t274.length co64, .slice Ao65 t277.length co65, .slice Ao66 t280.length co66, .int .i64 t283], .agg #[.slice Ao84 t306.length co84, .slice Ao85 t309.length co85, .slice Ao86 t312.length co86, .slice Ao87 t315.length co87, .slice Ao88 t318.length co88, .slice Ao89 t321.length co89, .int .i64 t324]] (by rfl) rfl rfl (by (try simp only [List.map_toArray, List.map_cons, List.map_nil]); first | done | rfl | (simp only [List.length_drop, List.length_take]; rfl)) ?_
      with_reducible refine (laws_eqData.calls k _ _ t265 _ _ t268 _ _ t271 _ _ t274 _ _ t277 _ _ t280 t283 _ _ t306 _ _ t309 _ _ t312 _ _ t315 _ _ t318 _ _ t321 t324 true _ ?side1 ?side2 ?side3 ?side4 ?side5 ?side6 ?side7 ?side8 ?side9 ?side10 ?side11 ?side12 ?side13 ?side14 ?side15 ?side16 ?side17 ?side18 ?side19 ?side20 ?side21 ?side22 ?side23 ?side24 A27.out).mono ?_
      (case side1 => repeat (first | exact (zq HO267.out).2.2 | (with_reducible refine zb ?_ _) | (with_reducible refine ze ?_ _) | (with_reducible refine zd ?_)))
      (case side2 => exact (zq HO267.out).2.1)
      (case side3 => repeat (first | exact (zq HO270.out).2.2 | (with_reducible refine zb ?_ _) | (with_reducible refine ze ?_ _) | (with_reducible refine zd ?_)))
      (case side4 => exact (zq HO270.out).2.1)
      (case side5 => repeat (first | exact (zq HO273.out).2.2 | (with_reducible refine zb ?_ _) | (with_reducible refine ze ?_ _) | (with_reducible refine zd ?_)))
      (case side6 => exact (zq HO273.out).2.1)
      (case side7 => repeat (first | exact (zq HO276.out).2.2 | (with_reducible refine zb ?_ _) | (with_reducible refine ze ?_ _) | (with_reducible refine zd ?_)))
      (case side8 => exact (zq HO276.out).2.1)
      (case side9 => repeat (first | exact (zq HO279.out).2.2 | (with_reducible refine zb ?_ _) | (with_reducible refine ze ?_ _) | (with_reducible refine zd ?_)))
      (case side10 => exact (zq HO279.out).2.1)
      (case side11 => repeat (first | exact (zq HO282.out).2.2 | (with_reducible refine zb ?_ _) | (with_reducible refine ze ?_ _) | (with_reducible refine zd ?_)))
      (case side12 => exact (zq HO282.out).2.1)
      (case side13 => repeat (first | exact (zq HO308.out).2.2 | (with_reducible refine zb ?_ _) | (with_reducible refine ze ?_ _) | (with_reducible refine zd ?_)))
      (case side14 => exact (zq HO308.out).2.1)
      (case side15 => repeat (first | exact (zq HO311.out).2.2 | (with_reducible refine zb ?_ _) | (with_reducible refine ze ?_ _) | (with_reducible refine zd ?_)))
      (case side16 => exact (zq HO311.out).2.1)
      (case side17 => repeat (first | exact (zq HO314.out).2.2 | (with_reducible refine zb ?_ _) | (with_reducible refine ze ?_ _) | (with_reducible refine zd ?_)))
      (case side18 => exact (zq HO314.out).2.1)
      (case side19 => repeat (first | exact (zq HO317.out).2.2 | (with_reducible refine zb ?_ _) | (with_reducible refine ze ?_ _) | (with_reducible refine zd ?_)))
      (case side20 => exact (zq HO317.out).2.1)
      (case side21 => repeat (first | exact (zq HO320.out).2.2 | (with_reducible refine zb ?_ _) | (with_reducible refine ze ?_ _) | (with_reducible refine zd ?_)))
      (case side22 => exact (zq HO320.out).2.1)
      (case side23 => repeat (first | exact (zq HO323.out).2.2 | (with_reducible refine zb ?_ _) | (with_reducible refine ze ?_ _) | (with_reducible refine zd ?_)))
      (case side24 => exact (zq HO323.out).2.1)
      rintro e w90 ⟨rfl, hb⟩
      refine ⟨_, rfl, ?_⟩
      have n0_ := za (zh (by (with_reducible repeat (first | apply zf | apply zj | apply zi)); exact HO228.out) hb)
      have n1_ := za (zh (by (with_reducible repeat (first | apply zf | apply zj | apply zi)); exact HO231.out) hb)
      have n2_ := za (zh (by (with_reducible repeat (first | apply zf | apply zj | apply zi)); exact HO234.out) hb)
      have n3_ := za (zh (by (with_reducible repeat (first | apply zf | apply zj | apply zi)); exact HO237.out) hb)
      have n4_ := za (zh (by (with_reducible repeat (first | apply zf | apply zj | apply zi)); exact HO240.out) hb)
      have n5_ := za (zh (by (with_reducible repeat (first | apply zf | apply zj | apply zi)); exact HO243.out) hb)
      have n6_ := za (zh (by (with_reducible repeat (first | apply zf | apply zj | apply zi)); exact HO247.out) hb)
      have n7_ := za (zh (by (with_reducible repeat (first | apply zf | apply zj | apply zi)); exact HO250.out) hb)
      have n8_ := za (zh (by (with_reducible repeat (first | apply zf | apply zj | apply zi)); exact HO253.out) hb)
      have n9_ := za (zh (by (with_reducible repeat (first | apply zf | apply zj | apply zi)); exact HO256.out) hb)
      have n10_ := za (zh (by (with_reducible repeat (first | apply zf | apply zj | apply zi)); exact HO259.out) hb)
      have n11_ := za (zh (by (with_reducible repeat (first | apply zf | apply zj | apply zi)); exact HO262.out) hb)
      have n12_ := za (zh (by (with_reducible repeat (first | apply zf | apply zj | apply zi)); exact HO267.out) hb)
      have n13_ := za (zh (by (with_reducible repeat (first | apply zf | apply zj | apply zi)); exact HO270.out) hb)
      have n14_ := za (zh (by (with_reducible repeat (first | apply zf | apply zj | apply zi)); exact HO273.out) hb)
      have n15_ := za (zh (by (with_reducible repeat (first | apply zf | apply zj | apply zi)); exact HO276.out) hb)
      have n16_ := za (zh (by (with_reducible repeat (first | apply zf | apply zj | apply zi)); exact HO279.out) hb)
      have n17_ := za (zh (by (with_reducible repeat (first | apply zf | apply zj | apply zi)); exact HO282.out) hb)
      have n18_ := za (zh (by (with_reducible repeat (first | apply zf | apply zj | apply zi)); exact HO287.out) hb)
      have n19_ := za (zh (by (with_reducible repeat (first | apply zf | apply zj | apply zi)); exact HO290.out) hb)
      have n20_ := za (zh (by (with_reducible repeat (first | apply zf | apply zj | apply zi)); exact HO293.out) hb)
      have n21_ := za (zh (by (with_reducible repeat (first | apply zf | apply zj | apply zi)); exact HO296.out) hb)
      have n22_ := za (zh (by (with_reducible repeat (first | apply zf | apply zj | apply zi)); exact HO299.out) hb)
      have n23_ := za (zh (by (with_reducible repeat (first | apply zf | apply zj | apply zi)); exact HO302.out) hb)
      have n24_ := za (zh (by (with_reducible repeat (first | apply zf | apply zj | apply zi)); exact HO308.out) hb)
      have n25_ := za (zh (by (with_reducible repeat (first | apply zf | apply zj | apply zi)); exact HO311.out) hb)
      have n26_ := za (zh (by (with_reducible repeat (first | apply zf | apply zj | apply zi)); exact HO314.out) hb)
      have n27_ := za (zh (by (with_reducible repeat (first | apply zf | apply zj | apply zi)); exact HO317.out) hb)
      have n28_ := za (zh (by (with_reducible repeat (first | apply zf | apply zj | apply zi)); exact HO320.out) hb)
      have n29_ := za (zh (by (with_reducible repeat (first | apply zf | apply zj | apply zi)); exact HO323.out) hb)
      have n30_ := za (zz (g := gb222) (o := .cells #[.slice A0_0 l0_0.length c0_0, .slice A0_1 l0_1.length c0_1, .slice A0_2 l0_2.length c0_2, .slice A0_3 l0_3.length c0_3, .slice A0_4 l0_4.length c0_4, .slice A0_5 l0_5.length c0_5, .int .i64 a0_6] 26 (0, 0)) (by (with_reducible repeat (first | refine zC ?_ _ | refine zB ?_ | refine zy ?_ _)); exact BK222.out) hb)
      have n31_ := za (zz (g := gb223) (o := .cells #[.slice A1_0 l1_0.length c1_0, .slice A1_1 l1_1.length c1_1, .slice A1_2 l1_2.length c1_2, .slice A1_3 l1_3.length c1_3, .slice A1_4 l1_4.length c1_4, .slice A1_5 l1_5.length c1_5, .int .i64 a1_6] 26 (0, 0)) (by (with_reducible repeat (first | refine zC ?_ _ | refine zB ?_ | refine zy ?_ _)); exact BK223.out) hb)
      have n32_ := za (zz (g := gb284) (o := .cells #[.slice Ao58 t265.length co58, .slice Ao62 t268.length co62, .slice Ao63 t271.length co63, .slice Ao64 t274.length co64, .slice Ao65 t277.length co65, .slice Ao66 t280.length co66, .int .i64 t283] 31 (0, 0)) (by (with_reducible repeat (first | refine zC ?_ _ | refine zB ?_ | refine zy ?_ _)); exact BK284.out) hb)
      have n33_ := za (zz (g := gb304) (o := .cells #[.slice Ao70 t285.length co70, .slice Ao75 t288.length co75, .slice Ao76 t291.length co76, .slice Ao77 t294.length co77, .slice Ao78 t297.length co78, .slice Ao79 t300.length co79, .int .i64 t303] 31 (0, 0)) (by (with_reducible repeat (first | refine zC ?_ _ | refine zB ?_ | refine zy ?_ _)); exact BK304.out) hb)
      have n34_ := za (zx (by repeat (first | (with_reducible first | exact HB.out | apply zt | apply zE | apply zu | refine zv ?_ GE222.out | refine zv ?_ GE223.out | refine zv ?_ GE284.out | refine zv ?_ GE304.out) | exact HB.out)) hb)
      clear HO228
      clear HO231
      clear HO234
      clear HO237
      clear HO240
      clear HO243
      clear HO247
      clear HO250
      clear HO253
      clear HO256
      clear HO259
      clear HO262
      clear HO267
      clear HO270
      clear HO273
      clear HO276
      clear HO279
      clear HO282
      clear HO287
      clear HO290
      clear HO293
      clear HO296
      clear HO299
      clear HO302
      clear HO308
      clear HO311
      clear HO314
      clear HO317
      clear HO320
      clear HO323
      clear BK222
      clear BK223
      clear BK284
      clear BK304
      clear HB
      have HO228 := n0_
      have HO231 := n1_
      have HO234 := n2_
      have HO237 := n3_
      have HO240 := n4_
      have HO243 := n5_
      have HO247 := n6_
      have HO250 := n7_
      have HO253 := n8_
      have HO256 := n9_
      have HO259 := n10_
      have HO262 := n11_
      have HO267 := n12_
      have HO270 := n13_
      have HO273 := n14_
      have HO276 := n15_
      have HO279 := n16_
      have HO282 := n17_
      have HO287 := n18_
      have HO290 := n19_
      have HO293 := n20_
      have HO296 := n21_
      have HO299 := n22_
      have HO302 := n23_
      have HO308 := n24_
      have HO311 := n25_
      have HO314 := n26_
      have HO317 := n27_
      have HO320 := n28_
      have HO323 := n29_
      have BK222 := n30_
      have BK223 := n31_
      have BK284 := n32_
      have BK304 := n33_
      have HB := n34_
      clear n0_ n1_ n2_ n3_ n4_ n5_ n6_ n7_ n8_ n9_ n10_ n11_ n12_ n13_ n14_ n15_ n16_ n17_ n18_ n19_ n20_ n21_ n22_ n23_ n24_ n25_ n26_ n27_ n28_ n29_ n30_ n31_ n32_ n33_ n34_
      (try clear hb)
      (try clear hb2)
      (try clear hk)
      (try clear hi)
      refine hK.out _ _ ⟨(zA BK284.out 0).trans rfl, (zA BK284.out 1).trans rfl, (zA BK284.out 2).trans rfl, (zA BK284.out 3).trans rfl, (zA BK284.out 4).trans rfl, (zA BK284.out 5).trans rfl, (zA BK284.out 6).trans rfl, (zA BK222.out 0).trans rfl, (zA BK222.out 1).trans rfl, (zA BK222.out 2).trans rfl, (zA BK222.out 3).trans rfl, (zA BK222.out 4).trans rfl, (zA BK222.out 5).trans rfl, (zA BK222.out 6).trans rfl⟩ (fun hHeld => ?_)
      clear hK K
      refine norm_ (a' := ?_) ?_ ?_
      rotate_left
      ·
       show Act.put _ (some 38) _ = _
       simp only [Act.put, List.setIfInBounds_toArray, List.set_cons_zero, List.set_cons_succ, i64_w, i32_w]
       rfl
      refine pure_ (i := 4) (N := some 39) (v := ?_) (a' := ?_) #[true, true, true, true, true] rfl rfl (by kernel_rfl) (fun _ _ _ h => h) (Or.inl ⟨by rfl, ?_⟩) ?_ ?_
      rotate_left
      ·
       intro w'
       go_simp
       with_reducible rfl
      rotate_left
      ·
       simp only [Act.put, List.setIfInBounds_toArray, List.set_cons_zero, List.set_cons_succ, i64_w, i32_w]
       rfl
      refine done_ (by kernel_rfl) ?_
      try go_wp2
      have n0_ := za (zi HO228.out)
      have n1_ := za (zi HO231.out)
      have n2_ := za (zi HO234.out)
      have n3_ := za (zi HO237.out)
      have n4_ := za (zi HO240.out)
      have n5_ := za (zi HO243.out)
      have n6_ := za (zi HO247.out)
      have n7_ := za (zi HO250.out)
      have n8_ := za (zi HO253.out)
      have n9_ := za (zi HO256.out)
      have n10_ := za (zi HO259.out)
      have n11_ := za (zi HO262.out)
      have n12_ := za (zi HO267.out)
      have n13_ := za (zi HO270.out)
      have n14_ := za (zi HO273.out)
      have n15_ := za (zi HO276.out)
      have n16_ := za (zi HO279.out)
      have n17_ := za (zi HO282.out)
      have n18_ := za (zi HO287.out)
      have n19_ := za (zi HO290.out)
      have n20_ := za (zi HO293.out)
      have n21_ := za (zi HO296.out)
      have n22_ := za (zi HO299.out)
      have n23_ := za (zi HO302.out)
      have n24_ := za (zi HO308.out)
      have n25_ := za (zi HO311.out)
      have n26_ := za (zi HO314.out)
      have n27_ := za (zi HO317.out)
      have n28_ := za (zi HO320.out)
      have n29_ := za (zi HO323.out)
      have n30_ := za (zB BK222.out)
      have n31_ := za (zB BK223.out)
      have n32_ := za (zB BK284.out)
      have n33_ := za (zB BK304.out)
      have n34_ := za (zu HB.out)
      clear HO228
      clear HO231
      clear HO234
      clear HO237
      clear HO240
      clear HO243
      clear HO247
      clear HO250
      clear HO253
      clear HO256
      clear HO259
      clear HO262
      clear HO267
      clear HO270
      clear HO273
      clear HO276
      clear HO279
      clear HO282
      clear HO287
      clear HO290
      clear HO293
      clear HO296
      clear HO299
      clear HO302
      clear HO308
      clear HO311
      clear HO314
      clear HO317
      clear HO320
      clear HO323
      clear BK222
      clear BK223
      clear BK284
      clear BK304
      clear HB
      have HO228 := n0_
      have HO231 := n1_
      have HO234 := n2_
      have HO237 := n3_
      have HO240 := n4_
      have HO243 := n5_
      have HO247 := n6_
      have HO250 := n7_
      have HO253 := n8_
      have HO256 := n9_
      have HO259 := n10_
      have HO262 := n11_
      have HO267 := n12_
      have HO270 := n13_
      have HO273 := n14_
      have HO276 := n15_
      have HO279 := n16_
      have HO282 := n17_
      have HO287 := n18_
      have HO290 := n19_
      have HO293 := n20_
      have HO296 := n21_
      have HO299 := n22_
      have HO302 := n23_
      have HO308 := n24_
      have HO311 := n25_
      have HO314 := n26_
      have HO317 := n27_
      have HO320 := n28_
      have HO323 := n29_
      have BK222 := n30_
      have BK223 := n31_
      have BK284 := n32_
      have BK304 := n33_
      have HB := n34_
      clear n0_ n1_ n2_ n3_ n4_ n5_ n6_ n7_ n8_ n9_ n10_ n11_ n12_ n13_ n14_ n15_ n16_ n17_ n18_ n19_ n20_ n21_ n22_ n23_ n24_ n25_ n26_ n27_ n28_ n29_ n30_ n31_ n32_ n33_ n34_
      refine start_ (n := 5) (S := fun w' => w'.cell? ⟨gb304, 0, none⟩ = some (.slice Ao70 t285.length co70) ∧ w'.cell? ⟨gb304, 1, none⟩ = some (.slice Ao75 t288.length co75) ∧ w'.cell? ⟨gb304, 2, none⟩ = some (.slice Ao76 t291.length co76) ∧ w'.cell? ⟨gb304, 3, none⟩ = some (.slice Ao77 t294.length co77) ∧ w'.cell? ⟨gb304, 4, none⟩ = some (.slice Ao78 t297.length co78) ∧ w'.cell? ⟨gb304, 5, none⟩ = some (.slice Ao79 t300.length co79) ∧ w'.cell? ⟨gb304, 6, none⟩ = some (.int .i64 t303) ∧ w'.cell? ⟨gb223, 0, none⟩ = some (.slice A1_0 l1_0.length c1_0) ∧ w'.cell? ⟨gb223, 1, none⟩ = some (.slice A1_1 l1_1.length c1_1) ∧ w'.cell? ⟨gb223, 2, none⟩ = some (.slice A1_2 l1_2.length c1_2) ∧ w'.cell? ⟨gb223, 3, none⟩ = some (.slice A1_3 l1_3.length c1_3) ∧ w'.cell? ⟨gb223, 4, none⟩ = some (.slice A1_4 l1_4.length c1_4) ∧ w'.cell? ⟨gb223, 5, none⟩ = some (.slice A1_5 l1_5.length c1_5) ∧ w'.cell? ⟨gb223, 6, none⟩ = some (.int .i64 a1_6)) (ds := []) #[false, false, false, false, false] (by kernel_rfl) rfl rfl ⟨(zA BK304.out 0).trans rfl, (zA BK304.out 1).trans rfl, (zA BK304.out 2).trans rfl, (zA BK304.out 3).trans rfl, (zA BK304.out 4).trans rfl, (zA BK304.out 5).trans rfl, (zA BK304.out 6).trans rfl, (zA BK223.out 0).trans rfl, (zA BK223.out 1).trans rfl, (zA BK223.out 2).trans rfl, (zA BK223.out 3).trans rfl, (zA BK223.out 4).trans rfl, (zA BK223.out 5).trans rfl, (zA BK223.out 6).trans rfl⟩ (fun hHeld => ?_)
      generalize w90.drew = w91 at HO228 HO231 HO234 HO237 HO240 HO243 HO247 HO250 HO253 HO256 HO259 HO262 HO267 HO270 HO273 HO276 HO279 HO282 HO287 HO290 HO293 HO296 HO299 HO302 HO308 HO311 HO314 HO317 HO320 HO323 BK222 BK223 BK284 BK304 HB hHeld ⊢
      refine take_ (i := 0) (N := some 40) (v := ?_) (a' := ?_) #[true, false, false, false, false] rfl rfl (by kernel_rfl) (fun _ _ _ h => h) (Or.inl ⟨by rfl, ?_⟩) hHeld ?_ ?_
      rotate_left
      ·
       rintro w' ⟨s0, s1, s2, s3, s4, s5, s6, s7, s8, s9, s10, s11, s12, s13⟩
       go_simp
       with_reducible rfl
      rotate_left
      ·
       simp only [Act.put, List.setIfInBounds_toArray, List.set_cons_zero, List.set_cons_succ, i64_w, i32_w]
       rfl
      refine take_ (i := 1) (N := some 41) (v := ?_) (a' := ?_) #[true, true, false, false, false] rfl rfl (by kernel_rfl) (fun _ _ _ h => h) (Or.inl ⟨by rfl, ?_⟩) hHeld ?_ ?_
      rotate_left
      ·
       rintro w' ⟨s0, s1, s2, s3, s4, s5, s6, s7, s8, s9, s10, s11, s12, s13⟩
       go_simp
       with_reducible rfl
      rotate_left
      ·
       simp only [Act.put, List.setIfInBounds_toArray, List.set_cons_zero, List.set_cons_succ, i64_w, i32_w]
       rfl
      refine one_ (i := 2) (N := some 42) #[true, true, true, false, false] rfl rfl (by kernel_rfl) (by decide) (fun K hK => ?_)
      refine goes_ Try.func13 (by kernel_rfl) rfl #[.agg #[.slice A1_0 l1_0.length c1_0, .slice A1_1 l1_1.length c1_1, .slice A1_2 l1_2.length c1_2, .slice A1_3 l1_3.length c1_3, .slice A1_4 l1_4.length c1_4, .slice A1_5 l1_5.length c1_5, .int .i64 a1_6]] (by rfl) rfl rfl (by (try simp only [List.map_toArray, List.map_cons, List.map_nil]); first | done | rfl | (simp only [List.length_drop, List.length_take]; rfl)) ?_
      with_reducible refine (laws_toData.calls k _ _ l1_0 _ _ l1_1 _ _ l1_2 _ _ l1_3 _ _ l1_4 _ _ l1_5 a1_6 t326 t329 t332 t335 t338 t341 t344 _ ?side1 ?side2 ?side3 ?side4 ?side5 ?side6 ?side7 ?side8 ?side9 ?side10 ?side11 ?side12 A29.out).mono ?_
      (case side1 => repeat (first | exact (zc HR1_0.out HB.out) | (with_reducible refine zb ?_ _) | (with_reducible refine ze ?_ _) | (with_reducible refine zd ?_)))
      (case side2 => exact HC1_0.out)
      (case side3 => repeat (first | exact (zc HR1_1.out HB.out) | (with_reducible refine zb ?_ _) | (with_reducible refine ze ?_ _) | (with_reducible refine zd ?_)))
      (case side4 => exact HC1_1.out)
      (case side5 => repeat (first | exact (zc HR1_2.out HB.out) | (with_reducible refine zb ?_ _) | (with_reducible refine ze ?_ _) | (with_reducible refine zd ?_)))
      (case side6 => exact HC1_2.out)
      (case side7 => repeat (first | exact (zc HR1_3.out HB.out) | (with_reducible refine zb ?_ _) | (with_reducible refine ze ?_ _) | (with_reducible refine zd ?_)))
      (case side8 => exact HC1_3.out)
      (case side9 => repeat (first | exact (zc HR1_4.out HB.out) | (with_reducible refine zb ?_ _) | (with_reducible refine ze ?_ _) | (with_reducible refine zd ?_)))
      (case side10 => exact HC1_4.out)
      (case side11 => repeat (first | exact (zc HR1_5.out HB.out) | (with_reducible refine zb ?_ _) | (with_reducible refine ze ?_ _) | (with_reducible refine zd ?_)))
      (case side12 => exact HC1_5.out)
      rintro e w92 ⟨v327, v330, v333, v336, v339, v342, rfl, ho0, ho1, ho2, ho3, ho4, ho5, hb⟩
      refine ⟨_, rfl, ?_⟩
      have n0_ := za (zk (by (with_reducible repeat (first | apply zf | apply zj | apply zi)); exact HO228.out) (zg ho0) hb)
      have n1_ := za (zk (by (with_reducible repeat (first | apply zf | apply zj | apply zi)); exact HO231.out) (zg ho1) hb)
      have n2_ := za (zn (zs (zs (zs (zs (zp (by (with_reducible repeat (first | apply zf | apply zj | apply zi)); exact HO234.out) hb) (zg ho2)) (zg ho3)) (zg ho4)) (zg ho5)) (fun _ h_ => h_.1))
      have n3_ := za (zn (zs (zs (zs (zs (zp (by (with_reducible repeat (first | apply zf | apply zj | apply zi)); exact HO237.out) hb) (zg ho2)) (zg ho3)) (zg ho4)) (zg ho5)) (fun _ h_ => h_.1))
      have n4_ := za (zn (zs (zs (zs (zs (zp (by (with_reducible repeat (first | apply zf | apply zj | apply zi)); exact HO240.out) hb) (zg ho2)) (zg ho3)) (zg ho4)) (zg ho5)) (fun _ h_ => h_.1))
      have n5_ := za (zn (zs (zs (zs (zs (zp (by (with_reducible repeat (first | apply zf | apply zj | apply zi)); exact HO243.out) hb) (zg ho2)) (zg ho3)) (zg ho4)) (zg ho5)) (fun _ h_ => h_.1))
      have n6_ := za (zk (by (with_reducible repeat (first | apply zf | apply zj | apply zi)); exact HO247.out) (zg ho0) hb)
      have n7_ := za (zk (by (with_reducible repeat (first | apply zf | apply zj | apply zi)); exact HO250.out) (zg ho1) hb)
      have n8_ := za (zn (zs (zs (zs (zs (zp (by (with_reducible repeat (first | apply zf | apply zj | apply zi)); exact HO253.out) hb) (zg ho2)) (zg ho3)) (zg ho4)) (zg ho5)) (fun _ h_ => h_.1))
      have n9_ := za (zn (zs (zs (zs (zs (zp (by (with_reducible repeat (first | apply zf | apply zj | apply zi)); exact HO256.out) hb) (zg ho2)) (zg ho3)) (zg ho4)) (zg ho5)) (fun _ h_ => h_.1))
      have n10_ := za (zn (zs (zs (zs (zs (zp (by (with_reducible repeat (first | apply zf | apply zj | apply zi)); exact HO259.out) hb) (zg ho2)) (zg ho3)) (zg ho4)) (zg ho5)) (fun _ h_ => h_.1))
      have n11_ := za (zn (zs (zs (zs (zs (zp (by (with_reducible repeat (first | apply zf | apply zj | apply zi)); exact HO262.out) hb) (zg ho2)) (zg ho3)) (zg ho4)) (zg ho5)) (fun _ h_ => h_.1))
      have n12_ := za (zk (by (with_reducible repeat (first | apply zf | apply zj | apply zi)); exact HO267.out) (zg ho0) hb)
      have n13_ := za (zk (by (with_reducible repeat (first | apply zf | apply zj | apply zi)); exact HO270.out) (zg ho1) hb)
      have n14_ := za (zn (zs (zs (zs (zs (zp (by (with_reducible repeat (first | apply zf | apply zj | apply zi)); exact HO273.out) hb) (zg ho2)) (zg ho3)) (zg ho4)) (zg ho5)) (fun _ h_ => h_.1))
      have n15_ := za (zn (zs (zs (zs (zs (zp (by (with_reducible repeat (first | apply zf | apply zj | apply zi)); exact HO276.out) hb) (zg ho2)) (zg ho3)) (zg ho4)) (zg ho5)) (fun _ h_ => h_.1))
      have n16_ := za (zn (zs (zs (zs (zs (zp (by (with_reducible repeat (first | apply zf | apply zj | apply zi)); exact HO279.out) hb) (zg ho2)) (zg ho3)) (zg ho4)) (zg ho5)) (fun _ h_ => h_.1))
      have n17_ := za (zn (zs (zs (zs (zs (zp (by (with_reducible repeat (first | apply zf | apply zj | apply zi)); exact HO282.out) hb) (zg ho2)) (zg ho3)) (zg ho4)) (zg ho5)) (fun _ h_ => h_.1))
      have n18_ := za (zk (by (with_reducible repeat (first | apply zf | apply zj | apply zi)); exact HO287.out) (zg ho0) hb)
      have n19_ := za (zk (by (with_reducible repeat (first | apply zf | apply zj | apply zi)); exact HO290.out) (zg ho1) hb)
      have n20_ := za (zn (zs (zs (zs (zs (zp (by (with_reducible repeat (first | apply zf | apply zj | apply zi)); exact HO293.out) hb) (zg ho2)) (zg ho3)) (zg ho4)) (zg ho5)) (fun _ h_ => h_.1))
      have n21_ := za (zn (zs (zs (zs (zs (zp (by (with_reducible repeat (first | apply zf | apply zj | apply zi)); exact HO296.out) hb) (zg ho2)) (zg ho3)) (zg ho4)) (zg ho5)) (fun _ h_ => h_.1))
      have n22_ := za (zn (zs (zs (zs (zs (zp (by (with_reducible repeat (first | apply zf | apply zj | apply zi)); exact HO299.out) hb) (zg ho2)) (zg ho3)) (zg ho4)) (zg ho5)) (fun _ h_ => h_.1))
      have n23_ := za (zn (zs (zs (zs (zs (zp (by (with_reducible repeat (first | apply zf | apply zj | apply zi)); exact HO302.out) hb) (zg ho2)) (zg ho3)) (zg ho4)) (zg ho5)) (fun _ h_ => h_.1))
      have n24_ := za (zk (by (with_reducible repeat (first | apply zf | apply zj | apply zi)); exact HO308.out) (zg ho0) hb)
      have n25_ := za (zk (by (with_reducible repeat (first | apply zf | apply zj | apply zi)); exact HO311.out) (zg ho1) hb)
      have n26_ := za (zn (zs (zs (zs (zs (zp (by (with_reducible repeat (first | apply zf | apply zj | apply zi)); exact HO314.out) hb) (zg ho2)) (zg ho3)) (zg ho4)) (zg ho5)) (fun _ h_ => h_.1))
      have n27_ := za (zn (zs (zs (zs (zs (zp (by (with_reducible repeat (first | apply zf | apply zj | apply zi)); exact HO317.out) hb) (zg ho2)) (zg ho3)) (zg ho4)) (zg ho5)) (fun _ h_ => h_.1))
      have n28_ := za (zn (zs (zs (zs (zs (zp (by (with_reducible repeat (first | apply zf | apply zj | apply zi)); exact HO320.out) hb) (zg ho2)) (zg ho3)) (zg ho4)) (zg ho5)) (fun _ h_ => h_.1))
      have n29_ := za (zn (zs (zs (zs (zs (zp (by (with_reducible repeat (first | apply zf | apply zj | apply zi)); exact HO323.out) hb) (zg ho2)) (zg ho3)) (zg ho4)) (zg ho5)) (fun _ h_ => h_.1))
      have n30_ := za (zl (zo (zo (zo (zo (zo ho0 (zm (by (with_reducible repeat (first | apply zf | apply zj | apply zi)); exact HO228.out))) (zm (by (with_reducible repeat (first | apply zf | apply zj | apply zi)); exact HO247.out))) (zm (by (with_reducible repeat (first | apply zf | apply zj | apply zi)); exact HO267.out))) (zm (by (with_reducible repeat (first | apply zf | apply zj | apply zi)); exact HO287.out))) (zm (by (with_reducible repeat (first | apply zf | apply zj | apply zi)); exact HO308.out))) (zw (by repeat (first | (with_reducible first | exact HB.out | apply zt | apply zE | apply zu | refine zv ?_ GE222.out | refine zv ?_ GE223.out | refine zv ?_ GE284.out | refine zv ?_ GE304.out) | exact HB.out))))
      have n31_ := za (zl (zo (zo (zo (zo (zo ho1 (zm (by (with_reducible repeat (first | apply zf | apply zj | apply zi)); exact HO231.out))) (zm (by (with_reducible repeat (first | apply zf | apply zj | apply zi)); exact HO250.out))) (zm (by (with_reducible repeat (first | apply zf | apply zj | apply zi)); exact HO270.out))) (zm (by (with_reducible repeat (first | apply zf | apply zj | apply zi)); exact HO290.out))) (zm (by (with_reducible repeat (first | apply zf | apply zj | apply zi)); exact HO311.out))) (zw (by repeat (first | (with_reducible first | exact HB.out | apply zt | apply zE | apply zu | refine zv ?_ GE222.out | refine zv ?_ GE223.out | refine zv ?_ GE284.out | refine zv ?_ GE304.out) | exact HB.out))))
      have n32_ := za (zl (zo (zo (zo (zo (zo (zo (zo (zo (zo (zo (zo (zo (zo (zo (zo (zo (zo (zo (zo (zo ho2 (zm (by (with_reducible repeat (first | apply zf | apply zj | apply zi)); exact HO234.out))) (zm (by (with_reducible repeat (first | apply zf | apply zj | apply zi)); exact HO237.out))) (zm (by (with_reducible repeat (first | apply zf | apply zj | apply zi)); exact HO240.out))) (zm (by (with_reducible repeat (first | apply zf | apply zj | apply zi)); exact HO243.out))) (zm (by (with_reducible repeat (first | apply zf | apply zj | apply zi)); exact HO253.out))) (zm (by (with_reducible repeat (first | apply zf | apply zj | apply zi)); exact HO256.out))) (zm (by (with_reducible repeat (first | apply zf | apply zj | apply zi)); exact HO259.out))) (zm (by (with_reducible repeat (first | apply zf | apply zj | apply zi)); exact HO262.out))) (zm (by (with_reducible repeat (first | apply zf | apply zj | apply zi)); exact HO273.out))) (zm (by (with_reducible repeat (first | apply zf | apply zj | apply zi)); exact HO276.out))) (zm (by (with_reducible repeat (first | apply zf | apply zj | apply zi)); exact HO279.out))) (zm (by (with_reducible repeat (first | apply zf | apply zj | apply zi)); exact HO282.out))) (zm (by (with_reducible repeat (first | apply zf | apply zj | apply zi)); exact HO293.out))) (zm (by (with_reducible repeat (first | apply zf | apply zj | apply zi)); exact HO296.out))) (zm (by (with_reducible repeat (first | apply zf | apply zj | apply zi)); exact HO299.out))) (zm (by (with_reducible repeat (first | apply zf | apply zj | apply zi)); exact HO302.out))) (zm (by (with_reducible repeat (first | apply zf | apply zj | apply zi)); exact HO314.out))) (zm (by (with_reducible repeat (first | apply zf | apply zj | apply zi)); exact HO317.out))) (zm (by (with_reducible repeat (first | apply zf | apply zj | apply zi)); exact HO320.out))) (zm (by (with_reducible repeat (first | apply zf | apply zj | apply zi)); exact HO323.out))) (zw (by repeat (first | (with_reducible first | exact HB.out | apply zt | apply zE | apply zu | refine zv ?_ GE222.out | refine zv ?_ GE223.out | refine zv ?_ GE284.out | refine zv ?_ GE304.out) | exact HB.out))))
      have n33_ := za (zl (zo (zo (zo (zo (zo (zo (zo (zo (zo (zo (zo (zo (zo (zo (zo (zo (zo (zo (zo (zo ho3 (zm (by (with_reducible repeat (first | apply zf | apply zj | apply zi)); exact HO234.out))) (zm (by (with_reducible repeat (first | apply zf | apply zj | apply zi)); exact HO237.out))) (zm (by (with_reducible repeat (first | apply zf | apply zj | apply zi)); exact HO240.out))) (zm (by (with_reducible repeat (first | apply zf | apply zj | apply zi)); exact HO243.out))) (zm (by (with_reducible repeat (first | apply zf | apply zj | apply zi)); exact HO253.out))) (zm (by (with_reducible repeat (first | apply zf | apply zj | apply zi)); exact HO256.out))) (zm (by (with_reducible repeat (first | apply zf | apply zj | apply zi)); exact HO259.out))) (zm (by (with_reducible repeat (first | apply zf | apply zj | apply zi)); exact HO262.out))) (zm (by (with_reducible repeat (first | apply zf | apply zj | apply zi)); exact HO273.out))) (zm (by (with_reducible repeat (first | apply zf | apply zj | apply zi)); exact HO276.out))) (zm (by (with_reducible repeat (first | apply zf | apply zj | apply zi)); exact HO279.out))) (zm (by (with_reducible repeat (first | apply zf | apply zj | apply zi)); exact HO282.out))) (zm (by (with_reducible repeat (first | apply zf | apply zj | apply zi)); exact HO293.out))) (zm (by (with_reducible repeat (first | apply zf | apply zj | apply zi)); exact HO296.out))) (zm (by (with_reducible repeat (first | apply zf | apply zj | apply zi)); exact HO299.out))) (zm (by (with_reducible repeat (first | apply zf | apply zj | apply zi)); exact HO302.out))) (zm (by (with_reducible repeat (first | apply zf | apply zj | apply zi)); exact HO314.out))) (zm (by (with_reducible repeat (first | apply zf | apply zj | apply zi)); exact HO317.out))) (zm (by (with_reducible repeat (first | apply zf | apply zj | apply zi)); exact HO320.out))) (zm (by (with_reducible repeat (first | apply zf | apply zj | apply zi)); exact HO323.out))) (zw (by repeat (first | (with_reducible first | exact HB.out | apply zt | apply zE | apply zu | refine zv ?_ GE222.out | refine zv ?_ GE223.out | refine zv ?_ GE284.out | refine zv ?_ GE304.out) | exact HB.out))))
      have n34_ := za (zl (zo (zo (zo (zo (zo (zo (zo (zo (zo (zo (zo (zo (zo (zo (zo (zo (zo (zo (zo (zo ho4 (zm (by (with_reducible repeat (first | apply zf | apply zj | apply zi)); exact HO234.out))) (zm (by (with_reducible repeat (first | apply zf | apply zj | apply zi)); exact HO237.out))) (zm (by (with_reducible repeat (first | apply zf | apply zj | apply zi)); exact HO240.out))) (zm (by (with_reducible repeat (first | apply zf | apply zj | apply zi)); exact HO243.out))) (zm (by (with_reducible repeat (first | apply zf | apply zj | apply zi)); exact HO253.out))) (zm (by (with_reducible repeat (first | apply zf | apply zj | apply zi)); exact HO256.out))) (zm (by (with_reducible repeat (first | apply zf | apply zj | apply zi)); exact HO259.out))) (zm (by (with_reducible repeat (first | apply zf | apply zj | apply zi)); exact HO262.out))) (zm (by (with_reducible repeat (first | apply zf | apply zj | apply zi)); exact HO273.out))) (zm (by (with_reducible repeat (first | apply zf | apply zj | apply zi)); exact HO276.out))) (zm (by (with_reducible repeat (first | apply zf | apply zj | apply zi)); exact HO279.out))) (zm (by (with_reducible repeat (first | apply zf | apply zj | apply zi)); exact HO282.out))) (zm (by (with_reducible repeat (first | apply zf | apply zj | apply zi)); exact HO293.out))) (zm (by (with_reducible repeat (first | apply zf | apply zj | apply zi)); exact HO296.out))) (zm (by (with_reducible repeat (first | apply zf | apply zj | apply zi)); exact HO299.out))) (zm (by (with_reducible repeat (first | apply zf | apply zj | apply zi)); exact HO302.out))) (zm (by (with_reducible repeat (first | apply zf | apply zj | apply zi)); exact HO314.out))) (zm (by (with_reducible repeat (first | apply zf | apply zj | apply zi)); exact HO317.out))) (zm (by (with_reducible repeat (first | apply zf | apply zj | apply zi)); exact HO320.out))) (zm (by (with_reducible repeat (first | apply zf | apply zj | apply zi)); exact HO323.out))) (zw (by repeat (first | (with_reducible first | exact HB.out | apply zt | apply zE | apply zu | refine zv ?_ GE222.out | refine zv ?_ GE223.out | refine zv ?_ GE284.out | refine zv ?_ GE304.out) | exact HB.out))))
      have n35_ := za (zl (zo (zo (zo (zo (zo (zo (zo (zo (zo (zo (zo (zo (zo (zo (zo (zo (zo (zo (zo (zo ho5 (zm (by (with_reducible repeat (first | apply zf | apply zj | apply zi)); exact HO234.out))) (zm (by (with_reducible repeat (first | apply zf | apply zj | apply zi)); exact HO237.out))) (zm (by (with_reducible repeat (first | apply zf | apply zj | apply zi)); exact HO240.out))) (zm (by (with_reducible repeat (first | apply zf | apply zj | apply zi)); exact HO243.out))) (zm (by (with_reducible repeat (first | apply zf | apply zj | apply zi)); exact HO253.out))) (zm (by (with_reducible repeat (first | apply zf | apply zj | apply zi)); exact HO256.out))) (zm (by (with_reducible repeat (first | apply zf | apply zj | apply zi)); exact HO259.out))) (zm (by (with_reducible repeat (first | apply zf | apply zj | apply zi)); exact HO262.out))) (zm (by (with_reducible repeat (first | apply zf | apply zj | apply zi)); exact HO273.out))) (zm (by (with_reducible repeat (first | apply zf | apply zj | apply zi)); exact HO276.out))) (zm (by (with_reducible repeat (first | apply zf | apply zj | apply zi)); exact HO279.out))) (zm (by (with_reducible repeat (first | apply zf | apply zj | apply zi)); exact HO282.out))) (zm (by (with_reducible repeat (first | apply zf | apply zj | apply zi)); exact HO293.out))) (zm (by (with_reducible repeat (first | apply zf | apply zj | apply zi)); exact HO296.out))) (zm (by (with_reducible repeat (first | apply zf | apply zj | apply zi)); exact HO299.out))) (zm (by (with_reducible repeat (first | apply zf | apply zj | apply zi)); exact HO302.out))) (zm (by (with_reducible repeat (first | apply zf | apply zj | apply zi)); exact HO314.out))) (zm (by (with_reducible repeat (first | apply zf | apply zj | apply zi)); exact HO317.out))) (zm (by (with_reducible repeat (first | apply zf | apply zj | apply zi)); exact HO320.out))) (zm (by (with_reducible repeat (first | apply zf | apply zj | apply zi)); exact HO323.out))) (zw (by repeat (first | (with_reducible first | exact HB.out | apply zt | apply zE | apply zu | refine zv ?_ GE222.out | refine zv ?_ GE223.out | refine zv ?_ GE284.out | refine zv ?_ GE304.out) | exact HB.out))))
      have n36_ := za (zz (g := gb222) (o := .cells #[.slice A0_0 l0_0.length c0_0, .slice A0_1 l0_1.length c0_1, .slice A0_2 l0_2.length c0_2, .slice A0_3 l0_3.length c0_3, .slice A0_4 l0_4.length c0_4, .slice A0_5 l0_5.length c0_5, .int .i64 a0_6] 26 (0, 0)) (by (with_reducible repeat (first | refine zC ?_ _ | refine zB ?_ | refine zy ?_ _)); exact BK222.out) hb)
      have n37_ := za (zz (g := gb223) (o := .cells #[.slice A1_0 l1_0.length c1_0, .slice A1_1 l1_1.length c1_1, .slice A1_2 l1_2.length c1_2, .slice A1_3 l1_3.length c1_3, .slice A1_4 l1_4.length c1_4, .slice A1_5 l1_5.length c1_5, .int .i64 a1_6] 26 (0, 0)) (by (with_reducible repeat (first | refine zC ?_ _ | refine zB ?_ | refine zy ?_ _)); exact BK223.out) hb)
      have n38_ := za (zz (g := gb284) (o := .cells #[.slice Ao58 t265.length co58, .slice Ao62 t268.length co62, .slice Ao63 t271.length co63, .slice Ao64 t274.length co64, .slice Ao65 t277.length co65, .slice Ao66 t280.length co66, .int .i64 t283] 31 (0, 0)) (by (with_reducible repeat (first | refine zC ?_ _ | refine zB ?_ | refine zy ?_ _)); exact BK284.out) hb)
      have n39_ := za (zz (g := gb304) (o := .cells #[.slice Ao70 t285.length co70, .slice Ao75 t288.length co75, .slice Ao76 t291.length co76, .slice Ao77 t294.length co77, .slice Ao78 t297.length co78, .slice Ao79 t300.length co79, .int .i64 t303] 31 (0, 0)) (by (with_reducible repeat (first | refine zC ?_ _ | refine zB ?_ | refine zy ?_ _)); exact BK304.out) hb)
      have n40_ := za (zx (by repeat (first | (with_reducible first | exact HB.out | apply zt | apply zE | apply zu | refine zv ?_ GE222.out | refine zv ?_ GE223.out | refine zv ?_ GE284.out | refine zv ?_ GE304.out) | exact HB.out)) hb)
      clear HO228
      clear HO231
      clear HO234
      clear HO237
      clear HO240
      clear HO243
      clear HO247
      clear HO250
      clear HO253
      clear HO256
      clear HO259
      clear HO262
      clear HO267
      clear HO270
      clear HO273
      clear HO276
      clear HO279
      clear HO282
      clear HO287
      clear HO290
      clear HO293
      clear HO296
      clear HO299
      clear HO302
      clear HO308
      clear HO311
      clear HO314
      clear HO317
      clear HO320
      clear HO323
      clear BK222
      clear BK223
      clear BK284
      clear BK304
      clear HB
      have HO228 := n0_
      have HO231 := n1_
      have HO234 := n2_
      have HO237 := n3_
      have HO240 := n4_
      have HO243 := n5_
      have HO247 := n6_
      have HO250 := n7_
      have HO253 := n8_
      have HO256 := n9_
      have HO259 := n10_
      have HO262 := n11_
      have HO267 := n12_
      have HO270 := n13_
      have HO273 := n14_
      have HO276 := n15_
      have HO279 := n16_
      have HO282 := n17_
      have HO287 := n18_
      have HO290 := n19_
      have HO293 := n20_
      have HO296 := n21_
      have HO299 := n22_
      have HO302 := n23_
      have HO308 := n24_
      have HO311 := n25_
      have HO314 := n26_
      have HO317 := n27_
      have HO320 := n28_
      have HO323 := n29_
      have HO328 := n30_
      have HO331 := n31_
      have HO334 := n32_
      have HO337 := n33_
      have HO340 := n34_
      have HO343 := n35_
      have BK222 := n36_
      have BK223 := n37_
      have BK284 := n38_
      have BK304 := n39_
      have HB := n40_
      clear n0_ n1_ n2_ n3_ n4_ n5_ n6_ n7_ n8_ n9_ n10_ n11_ n12_ n13_ n14_ n15_ n16_ n17_ n18_ n19_ n20_ n21_ n22_ n23_ n24_ n25_ n26_ n27_ n28_ n29_ n30_ n31_ n32_ n33_ n34_ n35_ n36_ n37_ n38_ n39_ n40_
      (try clear hb)
      (try clear hb2)
      (try clear hk)
      (try clear hi)
      (try clear ho0)
      (try clear ho1)
      (try clear ho2)
      (try clear ho3)
      (try clear ho4)
      (try clear ho5)
      obtain ⟨Ao93, co93, eo93⟩ := zr HO328.out
      (first | subst eo93 | (injection eo93 with f1_ f2_ f3_; have f4_ := f1_.symm; have f5_ := f3_.symm; clear f1_ f2_ f3_; subst f4_; subst f5_))
      obtain ⟨Ao94, co94, eo94⟩ := zr HO331.out
      (first | subst eo94 | (injection eo94 with f1_ f2_ f3_; have f4_ := f1_.symm; have f5_ := f3_.symm; clear f1_ f2_ f3_; subst f4_; subst f5_))
      obtain ⟨Ao95, co95, eo95⟩ := zr HO334.out
      (first | subst eo95 | (injection eo95 with f1_ f2_ f3_; have f4_ := f1_.symm; have f5_ := f3_.symm; clear f1_ f2_ f3_; subst f4_; subst f5_))
      obtain ⟨Ao96, co96, eo96⟩ := zr HO337.out
      (first | subst eo96 | (injection eo96 with f1_ f2_ f3_; have f4_ := f1_.symm; have f5_ := f3_.symm; clear f1_ f2_ f3_; subst f4_; subst f5_))
      obtain ⟨Ao97, co97, eo97⟩ := zr HO340.out
      (first | subst eo97 | (injection eo97 with f1_ f2_ f3_; have f4_ := f1_.symm; have f5_ := f3_.symm; clear f1_ f2_ f3_; subst f4_; subst f5_))
      obtain ⟨Ao98, co98, eo98⟩ := zr HO343.out
      (first | subst eo98 | (injection eo98 with f1_ f2_ f3_; have f4_ := f1_.symm; have f5_ := f3_.symm; clear f1_ f2_ f3_; subst f4_; subst f5_))
      refine hK.out _ _ ⟨(zA BK304.out 0).trans rfl, (zA BK304.out 1).trans rfl, (zA BK304.out 2).trans rfl, (zA BK304.out 3).trans rfl, (zA BK304.out 4).trans rfl, (zA BK304.out 5).trans rfl, (zA BK304.out 6).trans rfl, (zA BK223.out 0).trans rfl, (zA BK223.out 1).trans rfl, (zA BK223.out 2).trans rfl, (zA BK223.out 3).trans rfl, (zA BK223.out 4).trans rfl, (zA BK223.out 5).trans rfl, (zA BK223.out 6).trans rfl⟩ (fun hHeld => ?_)
      clear hK K
      refine norm_ (a' := ?_) ?_ ?_
      rotate_left
      ·
       show Act.put _ (some 42) _ = _
       simp only [Act.put, List.setIfInBounds_toArray, List.set_cons_zero, List.set_cons_succ, i64_w, i32_w]
       rfl
      refine one_ (i := 3) (N := some 43) #[true, true, true, true, false] rfl rfl (by kernel_rfl) (by decide) (fun K hK => ?_)
      refine goes_ Try.func15 (by kernel_rfl) rfl #[.agg #[.slice Ao70 t285.length co70, .slice Ao75 t288.length co75, .slice Ao76 t291.length co76, .slice Ao77 t294.length co77, .slice Ao78 t297.length co78, .slice Ao79 t300.length co79, .int .i64 t303], .agg #[.slice Ao93 t326.length co93, .slice Ao94 t329.length co94, .slice Ao95 t332.length co95, .slice Ao96 t335.length co96, .slice Ao97 t338.length co97, .slice Ao98 t341.length co98, .int .i64 t344]] (by rfl) rfl rfl (by (try simp only [List.map_toArray, List.map_cons, List.map_nil]); first | done | rfl | (simp only [List.length_drop, List.length_take]; rfl)) ?_
      with_reducible refine (laws_eqData.calls k _ _ t285 _ _ t288 _ _ t291 _ _ t294 _ _ t297 _ _ t300 t303 _ _ t326 _ _ t329 _ _ t332 _ _ t335 _ _ t338 _ _ t341 t344 true _ ?side1 ?side2 ?side3 ?side4 ?side5 ?side6 ?side7 ?side8 ?side9 ?side10 ?side11 ?side12 ?side13 ?side14 ?side15 ?side16 ?side17 ?side18 ?side19 ?side20 ?side21 ?side22 ?side23 ?side24 A30.out).mono ?_
      (case side1 => repeat (first | exact (zq HO287.out).2.2 | (with_reducible refine zb ?_ _) | (with_reducible refine ze ?_ _) | (with_reducible refine zd ?_)))
      (case side2 => exact (zq HO287.out).2.1)
      (case side3 => repeat (first | exact (zq HO290.out).2.2 | (with_reducible refine zb ?_ _) | (with_reducible refine ze ?_ _) | (with_reducible refine zd ?_)))
      (case side4 => exact (zq HO290.out).2.1)
      (case side5 => repeat (first | exact (zq HO293.out).2.2 | (with_reducible refine zb ?_ _) | (with_reducible refine ze ?_ _) | (with_reducible refine zd ?_)))
      (case side6 => exact (zq HO293.out).2.1)
      (case side7 => repeat (first | exact (zq HO296.out).2.2 | (with_reducible refine zb ?_ _) | (with_reducible refine ze ?_ _) | (with_reducible refine zd ?_)))
      (case side8 => exact (zq HO296.out).2.1)
      (case side9 => repeat (first | exact (zq HO299.out).2.2 | (with_reducible refine zb ?_ _) | (with_reducible refine ze ?_ _) | (with_reducible refine zd ?_)))
      (case side10 => exact (zq HO299.out).2.1)
      (case side11 => repeat (first | exact (zq HO302.out).2.2 | (with_reducible refine zb ?_ _) | (with_reducible refine ze ?_ _) | (with_reducible refine zd ?_)))
      (case side12 => exact (zq HO302.out).2.1)
      (case side13 => repeat (first | exact (zq HO328.out).2.2 | (with_reducible refine zb ?_ _) | (with_reducible refine ze ?_ _) | (with_reducible refine zd ?_)))
      (case side14 => exact (zq HO328.out).2.1)
      (case side15 => repeat (first | exact (zq HO331.out).2.2 | (with_reducible refine zb ?_ _) | (with_reducible refine ze ?_ _) | (with_reducible refine zd ?_)))
      (case side16 => exact (zq HO331.out).2.1)
      (case side17 => repeat (first | exact (zq HO334.out).2.2 | (with_reducible refine zb ?_ _) | (with_reducible refine ze ?_ _) | (with_reducible refine zd ?_)))
      (case side18 => exact (zq HO334.out).2.1)
      (case side19 => repeat (first | exact (zq HO337.out).2.2 | (with_reducible refine zb ?_ _) | (with_reducible refine ze ?_ _) | (with_reducible refine zd ?_)))
      (case side20 => exact (zq HO337.out).2.1)
      (case side21 => repeat (first | exact (zq HO340.out).2.2 | (with_reducible refine zb ?_ _) | (with_reducible refine ze ?_ _) | (with_reducible refine zd ?_)))
      (case side22 => exact (zq HO340.out).2.1)
      (case side23 => repeat (first | exact (zq HO343.out).2.2 | (with_reducible refine zb ?_ _) | (with_reducible refine ze ?_ _) | (with_reducible refine zd ?_)))
      (case side24 => exact (zq HO343.out).2.1)
      rintro e w99 ⟨rfl, hb⟩
      refine ⟨_, rfl, ?_⟩
      have n0_ := za (zh (by (with_reducible repeat (first | apply zf | apply zj | apply zi)); exact HO228.out) hb)
      have n1_ := za (zh (by (with_reducible repeat (first | apply zf | apply zj | apply zi)); exact HO231.out) hb)
      have n2_ := za (zh (by (with_reducible repeat (first | apply zf | apply zj | apply zi)); exact HO234.out) hb)
      have n3_ := za (zh (by (with_reducible repeat (first | apply zf | apply zj | apply zi)); exact HO237.out) hb)
      have n4_ := za (zh (by (with_reducible repeat (first | apply zf | apply zj | apply zi)); exact HO240.out) hb)
      have n5_ := za (zh (by (with_reducible repeat (first | apply zf | apply zj | apply zi)); exact HO243.out) hb)
      have n6_ := za (zh (by (with_reducible repeat (first | apply zf | apply zj | apply zi)); exact HO247.out) hb)
      have n7_ := za (zh (by (with_reducible repeat (first | apply zf | apply zj | apply zi)); exact HO250.out) hb)
      have n8_ := za (zh (by (with_reducible repeat (first | apply zf | apply zj | apply zi)); exact HO253.out) hb)
      have n9_ := za (zh (by (with_reducible repeat (first | apply zf | apply zj | apply zi)); exact HO256.out) hb)
      have n10_ := za (zh (by (with_reducible repeat (first | apply zf | apply zj | apply zi)); exact HO259.out) hb)
      have n11_ := za (zh (by (with_reducible repeat (first | apply zf | apply zj | apply zi)); exact HO262.out) hb)
      have n12_ := za (zh (by (with_reducible repeat (first | apply zf | apply zj | apply zi)); exact HO267.out) hb)
      have n13_ := za (zh (by (with_reducible repeat (first | apply zf | apply zj | apply zi)); exact HO270.out) hb)
      have n14_ := za (zh (by (with_reducible repeat (first | apply zf | apply zj | apply zi)); exact HO273.out) hb)
      have n15_ := za (zh (by (with_reducible repeat (first | apply zf | apply zj | apply zi)); exact HO276.out) hb)
      have n16_ := za (zh (by (with_reducible repeat (first | apply zf | apply zj | apply zi)); exact HO279.out) hb)
      have n17_ := za (zh (by (with_reducible repeat (first | apply zf | apply zj | apply zi)); exact HO282.out) hb)
      have n18_ := za (zh (by (with_reducible repeat (first | apply zf | apply zj | apply zi)); exact HO287.out) hb)
      have n19_ := za (zh (by (with_reducible repeat (first | apply zf | apply zj | apply zi)); exact HO290.out) hb)
      have n20_ := za (zh (by (with_reducible repeat (first | apply zf | apply zj | apply zi)); exact HO293.out) hb)
      have n21_ := za (zh (by (with_reducible repeat (first | apply zf | apply zj | apply zi)); exact HO296.out) hb)
      have n22_ := za (zh (by (with_reducible repeat (first | apply zf | apply zj | apply zi)); exact HO299.out) hb)
      have n23_ := za (zh (by (with_reducible repeat (first | apply zf | apply zj | apply zi)); exact HO302.out) hb)
      have n24_ := za (zh (by (with_reducible repeat (first | apply zf | apply zj | apply zi)); exact HO308.out) hb)
      have n25_ := za (zh (by (with_reducible repeat (first | apply zf | apply zj | apply zi)); exact HO311.out) hb)
      have n26_ := za (zh (by (with_reducible repeat (first | apply zf | apply zj | apply zi)); exact HO314.out) hb)
      have n27_ := za (zh (by (with_reducible repeat (first | apply zf | apply zj | apply zi)); exact HO317.out) hb)
      have n28_ := za (zh (by (with_reducible repeat (first | apply zf | apply zj | apply zi)); exact HO320.out) hb)
      have n29_ := za (zh (by (with_reducible repeat (first | apply zf | apply zj | apply zi)); exact HO323.out) hb)
      have n30_ := za (zh (by (with_reducible repeat (first | apply zf | apply zj | apply zi)); exact HO328.out) hb)
      have n31_ := za (zh (by (with_reducible repeat (first | apply zf | apply zj | apply zi)); exact HO331.out) hb)
      have n32_ := za (zh (by (with_reducible repeat (first | apply zf | apply zj | apply zi)); exact HO334.out) hb)
      have n33_ := za (zh (by (with_reducible repeat (first | apply zf | apply zj | apply zi)); exact HO337.out) hb)
      have n34_ := za (zh (by (with_reducible repeat (first | apply zf | apply zj | apply zi)); exact HO340.out) hb)
      have n35_ := za (zh (by (with_reducible repeat (first | apply zf | apply zj | apply zi)); exact HO343.out) hb)
      have n36_ := za (zz (g := gb222) (o := .cells #[.slice A0_0 l0_0.length c0_0, .slice A0_1 l0_1.length c0_1, .slice A0_2 l0_2.length c0_2, .slice A0_3 l0_3.length c0_3, .slice A0_4 l0_4.length c0_4, .slice A0_5 l0_5.length c0_5, .int .i64 a0_6] 26 (0, 0)) (by (with_reducible repeat (first | refine zC ?_ _ | refine zB ?_ | refine zy ?_ _)); exact BK222.out) hb)
      have n37_ := za (zz (g := gb223) (o := .cells #[.slice A1_0 l1_0.length c1_0, .slice A1_1 l1_1.length c1_1, .slice A1_2 l1_2.length c1_2, .slice A1_3 l1_3.length c1_3, .slice A1_4 l1_4.length c1_4, .slice A1_5 l1_5.length c1_5, .int .i64 a1_6] 26 (0, 0)) (by (with_reducible repeat (first | refine zC ?_ _ | refine zB ?_ | refine zy ?_ _)); exact BK223.out) hb)
      have n38_ := za (zz (g := gb284) (o := .cells #[.slice Ao58 t265.length co58, .slice Ao62 t268.length co62, .slice Ao63 t271.length co63, .slice Ao64 t274.length co64, .slice Ao65 t277.length co65, .slice Ao66 t280.length co66, .int .i64 t283] 31 (0, 0)) (by (with_reducible repeat (first | refine zC ?_ _ | refine zB ?_ | refine zy ?_ _)); exact BK284.out) hb)
      have n39_ := za (zz (g := gb304) (o := .cells #[.slice Ao70 t285.length co70, .slice Ao75 t288.length co75, .slice Ao76 t291.length co76, .slice Ao77 t294.length co77, .slice Ao78 t297.length co78, .slice Ao79 t300.length co79, .int .i64 t303] 31 (0, 0)) (by (with_reducible repeat (first | refine zC ?_ _ | refine zB ?_ | refine zy ?_ _)); exact BK304.out) hb)
      have n40_ := za (zx (by repeat (first | (with_reducible first | exact HB.out | apply zt | apply zE | apply zu | refine zv ?_ GE222.out | refine zv ?_ GE223.out | refine zv ?_ GE284.out | refine zv ?_ GE304.out) | exact HB.out)) hb)
      clear HO228
      clear HO231
      clear HO234
      clear HO237
      clear HO240
      clear HO243
      clear HO247
      clear HO250
      clear HO253
      clear HO256
      clear HO259
      clear HO262
      clear HO267
      clear HO270
      clear HO273
      clear HO276
      clear HO279
      clear HO282
      clear HO287
      clear HO290
      clear HO293
      clear HO296
      clear HO299
      clear HO302
      clear HO308
      clear HO311
      clear HO314
      clear HO317
      clear HO320
      clear HO323
      clear HO328
      clear HO331
      clear HO334
      clear HO337
      clear HO340
      clear HO343
      clear BK222
      clear BK223
      clear BK284
      clear BK304
      clear HB
      have HO228 := n0_
      have HO231 := n1_
      have HO234 := n2_
      have HO237 := n3_
      have HO240 := n4_
      have HO243 := n5_
      have HO247 := n6_
      have HO250 := n7_
      have HO253 := n8_
      have HO256 := n9_
      have HO259 := n10_
      have HO262 := n11_
      have HO267 := n12_
      have HO270 := n13_
      have HO273 := n14_
      have HO276 := n15_
      have HO279 := n16_
      have HO282 := n17_
      have HO287 := n18_
      have HO290 := n19_
      have HO293 := n20_
      have HO296 := n21_
      have HO299 := n22_
      have HO302 := n23_
      have HO308 := n24_
      have HO311 := n25_
      have HO314 := n26_
      have HO317 := n27_
      have HO320 := n28_
      have HO323 := n29_
      have HO328 := n30_
      have HO331 := n31_
      have HO334 := n32_
      have HO337 := n33_
      have HO340 := n34_
      have HO343 := n35_
      have BK222 := n36_
      have BK223 := n37_
      have BK284 := n38_
      have BK304 := n39_
      have HB := n40_
      clear n0_ n1_ n2_ n3_ n4_ n5_ n6_ n7_ n8_ n9_ n10_ n11_ n12_ n13_ n14_ n15_ n16_ n17_ n18_ n19_ n20_ n21_ n22_ n23_ n24_ n25_ n26_ n27_ n28_ n29_ n30_ n31_ n32_ n33_ n34_ n35_ n36_ n37_ n38_ n39_ n40_
      (try clear hb)
      (try clear hb2)
      (try clear hk)
      (try clear hi)
      refine hK.out _ _ ⟨(zA BK304.out 0).trans rfl, (zA BK304.out 1).trans rfl, (zA BK304.out 2).trans rfl, (zA BK304.out 3).trans rfl, (zA BK304.out 4).trans rfl, (zA BK304.out 5).trans rfl, (zA BK304.out 6).trans rfl, (zA BK223.out 0).trans rfl, (zA BK223.out 1).trans rfl, (zA BK223.out 2).trans rfl, (zA BK223.out 3).trans rfl, (zA BK223.out 4).trans rfl, (zA BK223.out 5).trans rfl, (zA BK223.out 6).trans rfl⟩ (fun hHeld => ?_)
      clear hK K
      refine norm_ (a' := ?_) ?_ ?_
      rotate_left
      ·
       show Act.put _ (some 43) _ = _
       simp only [Act.put, List.setIfInBounds_toArray, List.set_cons_zero, List.set_cons_succ, i64_w, i32_w]
       rfl
      refine pure_ (i := 4) (N := some 44) (v := ?_) (a' := ?_) #[true, true, true, true, true] rfl rfl (by kernel_rfl) (fun _ _ _ h => h) (Or.inl ⟨by rfl, ?_⟩) ?_ ?_
      rotate_left
      ·
       intro w'
       go_simp
       with_reducible rfl
      rotate_left
      ·
       simp only [Act.put, List.setIfInBounds_toArray, List.set_cons_zero, List.set_cons_succ, i64_w, i32_w]
       rfl
      refine done_ (by kernel_rfl) ?_
      try go_wp2
      go_ret
      exact ⟨by first | rfl | (simp [errW_none, errW_some] <;> rfl) | (simp [*, errW_none, errW_some] <;> rfl), by repeat (first | (with_reducible first | exact HB.out | apply zt | apply zE | apply zu | refine zv ?_ GE222.out | refine zv ?_ GE223.out | refine zv ?_ GE284.out | refine zv ?_ GE304.out) | exact HB.out)⟩
     ·
      replace c31 := Bool.eq_false_iff.mpr c31
      subst c31
      have H1 : (some false) = some r := by rw [if_neg (show ¬ (false = true) by decide)] at H; exact H
      clear H
      have H := H1
      clear H1
      exact absurd ((Option.some.inj H).trans hlaw_.out) (by decide)
    ·
     replace c28 := Bool.eq_false_iff.mpr c28
     subst c28
     have H1 : (some false) = some r := by rw [if_neg (show ¬ (false = true) by decide)] at H; exact H
     clear H
     have H := H1
     clear H1
     exact absurd ((Option.some.inj H).trans hlaw_.out) (by decide)

def wf122 (x : S122) : Prop := (fun a => (Lit.int .i64 a).wf = true) x.f0 ∧ (fun _ => True) x.f1 ∧ (fun a => (Lit.int .i64 a).wf = true) x.f2 ∧ (fun a => (Lit.int .i64 a).wf = true) x.f3
def wf26 (x : S26) : Prop := (fun l => l.length ≤ maxLen ∧ ∀ a ∈ l, (fun a => (Lit.int .i64 a).wf = true) a) x.f0 ∧ (fun l => l.length ≤ maxLen ∧ ∀ a ∈ l, wf122 a) x.f1 ∧ (fun l => l.length ≤ maxLen ∧ ∀ a ∈ l, (fun _ => True) a) x.f2 ∧ (fun l => l.length ≤ maxLen ∧ ∀ a ∈ l, (fun _ => True) a) x.f3 ∧ (fun l => l.length ≤ maxLen ∧ ∀ a ∈ l, (fun _ => True) a) x.f4 ∧ (fun l => l.length ≤ maxLen ∧ ∀ a ∈ l, (fun _ => True) a) x.f5 ∧ (fun a => (Lit.int .i64 a).wf = true) x.f6
/-- THE ONE PURE STATEMENT of laws_FnExactSameData: mine. -/
def laws_FnExactSameData.Pure : Prop := ∀ (x0 : S26) (x1 : S26), wf26 x0 → wf26 x1 → ∃ k, laws_FnExactSameData.f k x0.f0 x0.f1 x0.f2 x0.f3 x0.f4 x0.f5 x0.f6 x1.f0 x1.f1 x1.f2 x1.f3 x1.f4 x1.f5 x1.f6 = some true

end Go.Proofs.Ytjgdfbcjlebniaa.MFnExactSameData
